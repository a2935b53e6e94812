/-
  The abstract layer, the walks and the plain laws that the claim leans on, part 6 of 7 (working texts S53 to S85). It proves lemmas alone; no condition of its own.
-/
import Derived.Test.YthbibdnkiklemaaGreatDoorP5
import Derived.ProofKit
import Derived.Test.YthbibdnkiklemaaGreatDoorRows
import Derived.LaidLaws
import Derived.LaidHandle
import Derived.Stop.Joined
import Derived.Lay
import Derived.MakeChecks
import Derived.Shelf.Spec.SlicesGrow
import Derived.Test.YthbibdnkiklemaaGreatDoorProg
import Derived.WalkKit
import Derived.Laws.CopyRow
set_option linter.all false
set_option maxRecDepth 20000
section
open Go Go.Abs Go.Proofs Go.Proofs.Tryz
namespace Go.Proofs.S
def aKe {α : Type} {g : α -> Int -> Int} (hg : ∀ x k, g x k = k + g x 0) : ∀ (ls : List α) (k : Int), kGo g ls k = k + kGo g ls 0
  | [], k => by simp [kGo]
  | x :: r, k => by
    rw [kGo, kGo, aKe hg r (g x k), aKe hg r (g x 0), hg x k]; omega
def aAk (ls : List Entry) (k : Int) : kGo stE ls k = k + 5 * ls.length := by
  induction ls generalizing k with
  | nil => simp [kGo]
  | cons x r ih => rw [kGo, ih, B7]; unfold stE; omega
def bDs (ls : List (List Run)) (k : Int) : kGo kRuns ls k = k + kGo kRuns ls 0 :=
  aKe (fun x k => aKe (fun r k => by unfold stR; rw [aAk, aAk r.ents 0]; omega) x k) ls k
def jM (s : Store) (k : Int) : lI s k = k + (5 * (s.tree.mem.length : Int) + kGo kRuns s.tree.levels 0 + (s.tree.snaps.length : Int) + kGo kRuns s.disk.levels 0) := by
  show kGo kRuns s.disk.levels (kGo stI s.tree.snaps (kGo kRuns s.tree.levels (kGo stE s.tree.mem k))) = _
  rw [bDs s.disk.levels, aRh, bDs s.tree.levels, aAk]; omega
def aFf (ls : List (List Run)) : 0 <= kGo kRuns ls 0 := pK kRuns (fun x k => pK stR aGp x k) ls 0
def aXn (ls : List Entry) : mF (ls.map enA) = true := uY enA (fun _ => rfl) ls
def bJc (ls : List Int) : mF (ls.map inA) = true := uY inA (fun _ => rfl) ls
def aSu (ls : List (List Run)) : mF (ls.map rsO) = true := uY rsO (fun rs => by
  show mF (rs.map runOwn) = true
  exact uY runOwn (fun r => by
    show (mF (r.ents.map enA) && (true && true)) = true
    rw [aXn]; rfl) rs) ls
def bMv (s : Store) : ∀ p ∈ [((0 : Nat), AObj.row 65 5 (s.tree.mem.map enA)), (1, .row 107 1 (s.tree.levels.map rsO)), (2, .row 3 1 (s.tree.snaps.map inA)), (3, .row 107 1 (s.disk.levels.map rsO))], p.2.noFz = true := by
  intro p hp
  simp only [B1, List.not_mem_nil, or_false] at hp
  rcases hp with rfl | rfl | rfl | rfl
  . exact aXn _
  . exact aSu _
  . exact bJc _
  exact aSu _
def aMv (s : Store) (k : Int) : k <= lI s k := by
  have p1 := aFf s.tree.levels
  have p2 := aFf s.disk.levels
  rw [jM]; omega
section
variable {α : Type} {t n sz o : Nat} {a : Addr} {cs : List Value} {g : α -> AV} {good : α -> Prop}
section
variable {H : Type} {enc : TypeId × Value -> H} {w : World} {base : Nat} {sp : Nat -> Bool} {held : Bool} {ρ : Nat -> Value} {av : Nat -> Prop}
def bJw (h : w.cells? base a n = some cs) : cs.length = n /\ ∀ (k : Nat) (v : Value), cs[k]? = some v -> w.cell? (a.add k) = some v := by
  unfold World.cells? at h
  split at h
  . have hl := mapM_some_length h
    refine ⟨by simpa using hl, fun k v hk => ?_⟩
    have hkl := (A9.1 hk).1
    have hkn : k < n := by have : cs.length = n := by simpa using hl
                           omega
    have := mapM_some_get h k k (by simp [hkn])
    rw [this]; exact hk
  cases h
def aYc (h : a.spot = none) (n : Nat) : a.add n = ⟨a.block, a.off + n, none⟩ := by
  unfold Addr.add; split
  . rename_i e; subst e; cases a; simp at h; subst h; rfl
  cases a; rfl
def aSx {v : Value} (h : w.cell? a = some v) : a.spot = none /\ ∃ cells t fr, w.heap[a.block]? = some (.cells cells t fr) /\ cells[a.off]? = some v := by
  unfold World.cell? at h
  split at h
  . rename_i c t fr hh
    cases hs : a.spot with
    | none => rw [hs] at h; exact ⟨rfl, c, t, fr, hh, by simpa using h⟩
    | some s => rw [hs] at h; simp at h
  cases h
def bPz (val : α -> Value) (f : α -> AV) (good : α -> Prop) (sz : Nat) (hsz : 0 < sz) (hcl : ∀ x, good x -> (val x).cells.size = sz) (hrep : ∀ x, good x -> Rep ρ av w.heap (f x) (val x))
    (hav : ∀ b, ¬ av b) {len cap : Nat} (hlc : len <= cap) (hcm : cap <= maxLen)
    (h : ∀ i, i < len -> ∃ x, w.cells? base (a.add (i * sz)) sz = some (val x).cells.toList /\ good x) :
    ∃ xs : List α, xs.length = len /\ (∀ x ∈ xs, good x) /\ Rep ρ av w.heap (.sl sz (xs.map f)) (.slice (some a) len cap) := by
  have hlist : ∀ n, n <= len -> ∃ xs : List α, xs.length = n /\ ∀ (i : Nat) (x : α), xs[i]? = some x -> w.cells? base (a.add (i * sz)) sz = some (val x).cells.toList /\ good x := by
    intro n
    induction n with
    | zero => exact fun _ => ⟨[], rfl, fun i x hi => by simp at hi⟩
    | succ n ih =>
      intro hn
      obtain ⟨xs, h1, h2⟩ := ih og
      obtain ⟨x, hx⟩ := h n og
      refine ⟨xs ++ [x], by simp [h1], fun i y hi => ?_⟩
      rcases Nat.lt_or_ge i n with h3 | h3
      . rw [G9 og] at hi
        exact h2 i y hi
      rw [G7 og] at hi
      have hin : i = n := by
        have := (A9.1 hi).1
        simp at this; omega
      subst hin; rw [h1] at hi; simp at hi; subst hi; exact hx
  obtain ⟨xs, h1, h2⟩ := hlist len (A0 _)
  refine ⟨xs, h1, fun x hx => ?_, ?_⟩
  . obtain ⟨i, hi⟩ := G5 hx
    exact (h2 i x hi).2
  rcases Nat.eq_zero_or_pos len with h0 | h0
  . have : xs = [] := H6 og
    subst this; rw [h0]
    exact .sl0 sz (some a) cap hcm
  obtain ⟨x0, hx0⟩ : ∃ x0, xs[0]? = some x0 := ⟨_, A1 og⟩
  have hg : ∀ (i : Nat) (x : α), xs[i]? = some x -> (val x).cells.size = sz := fun i x hi => hcl x (h2 i x hi).2
  have hcell : ∀ (i : Nat) (x : α), xs[i]? = some x -> ∀ k v, (val x).cells.toList[k]? = some v -> w.cell? ((a.add (i * sz)).add k) = some v := fun i x hi => (bJw (h2 i x hi).1).2
  obtain ⟨v0, hv0⟩ : ∃ v0, (val x0).cells.toList[0]? = some v0 := ⟨_, A1 (by rw [Array.length_toList, hg 0 x0 hx0]; exact hsz)⟩
  have hc0 := hcell 0 x0 hx0 0 v0 hv0
  have h00 : (a.add (0 * sz)).add 0 = a := by simp [Addr.add]
  rw [h00] at hc0
  obtain ⟨hspot, cells, t, fr, hh, _⟩ := aSx hc0
  have hget : ∀ (i : Nat) (x : α), xs[i]? = some x -> ∀ k v, (val x).cells.toList[k]? = some v -> cells[a.off + i * sz + k]? = some v := fun i x hi k v hk => by
    have := hcell i x hi k v hk
    rw [aYc hspot, aYc rfl] at this
    obtain ⟨_, c2, t2, fr2, hh2, h3⟩ := aSx this
    have hh2' : w.heap[a.block]? = some (.cells c2 t2 fr2) := hh2
    rw [hh] at hh2'
    cases hh2'
    exact h3
  have hlen : (xs.map f).length = len := by rw [A2, h1]
  have ha : a = ⟨a.block, a.off, none⟩ := by cases a; simp at hspot; subst hspot; rfl
  have hvals : ∀ (i : Nat) (x : α), xs[i]? = some x -> ((xs[i]?).map val).getD undef = val x := fun i x hi => by rw [hi]; rfl
  have := Rep.sl (ρ := ρ) (av := av) (hp := w.heap) sz (xs.map f) a.block a.off cap cells t fr (fun i => ((xs[i]?).map val).getD undef) og og hcm (hav _) hh (fun j y hj => by
    rw [B5] at hj
    obtain ⟨x, hx, rfl⟩ := A8.1 hj
    show Rep ρ av w.heap (f x) (((xs[j]?).map val).getD undef)
    rw [hvals j x hx]
    exact hrep x (h2 j x hx).2) (fun j hj => by
    obtain ⟨x, hx⟩ : ∃ x, xs[j]? = some x := ⟨_, A1 og⟩
    show (((xs[j]?).map val).getD undef).cells.size = sz /\ _
    rw [hvals j x hx]
    refine ⟨hg j x hx, fun k hk => ?_⟩
    obtain ⟨v, hv⟩ : ∃ v, (val x).cells.toList[k]? = some v := ⟨_, A1 (by rw [Array.length_toList, hg j x hx]; exact hk)⟩
    show cells[a.off + j * sz + k]? = (((xs[j]?).map val).getD undef).cells[k]?
    rw [hvals j x hx, hget j x hx k v hv]
    rw [<- F5, hv])
  rw [hlen] at this; rw [ha]; exact this
def Op (H : Type) (enc : TypeId × Value -> H) (w : World) (base : Nat) (sp : Nat -> Bool) (held : Bool) (ρ : Nat -> Value) (av : Nat -> Prop) (t sz : Nat) (g : α -> AV) (good : α -> Prop) : Prop :=
  ∀ fuel cs x, DataW.trod enc P w base sp held fuel t cs = some x -> ∃ a v, good a /\ v.cells = cs.toArray /\ cs.length = sz /\ (sz = 1 -> cs = [v]) /\ (sz ≠ 1 -> v = .agg cs.toArray) /\ Rep ρ av w.heap (g a) v
def bBo (u : P.underlying t = some .string) : Op H enc w base sp held ρ av t 1 (fun s : ByteArray => Ns s) (fun s => s.size <= maxLen) := by
  intro fuel cs x h
  obtain ⟨s, rfl, _, hs⟩ := DataW.trod_string u h
  exact ⟨s, _, hs, rfl, rfl, fun _ => rfl, fun h => (h rfl).elim, .raw _⟩
def yU (u : P.underlying t = some (.int .i64)) : Op H enc w base sp held ρ av t 1 (fun n : Int => Ni n) (fun _ => True) := by
  intro fuel cs x h
  obtain ⟨n, rfl, _⟩ := DataW.trod_int u h
  exact ⟨n, _, trivial, rfl, rfl, fun _ => rfl, fun h => (h rfl).elim, .raw _⟩
def bOz (u : P.underlying t = some .bool) : Op H enc w base sp held ρ av t 1 (fun n : Bool => Nb n) (fun _ => True) := by
  intro fuel cs x h
  obtain ⟨n, rfl, _⟩ := DataW.trod_bool u h
  exact ⟨n, _, trivial, rfl, rfl, fun _ => rfl, fun h => (h rfl).elim, .raw _⟩
def bDt {t e sz : Nat} (hav : ∀ b, ¬ av b) (u : P.underlying t = some (.slice e)) (hz : P.cellsOf e = sz) (h0 : 0 < sz) (O : Op H enc w base sp held ρ av e sz g good) :
    Op H enc w base sp held ρ av t 1 (fun ls : List α => .sl sz (ls.map g)) (fun ls => ls.length <= maxLen /\ ∀ l ∈ ls, good l) := by
  intro fuel cs x h
  rcases DataW.trod_slice u h with ⟨h1, _⟩ | ⟨a, len, cap, elems, rest, n, _, h1, _, hb, hlc, hcm, hel, hi, _⟩
  . subst h1
    exact ⟨[], _, ⟨A6 _, by simp⟩, rfl, rfl, fun _ => rfl, fun h => (h rfl).elim, .sl0 sz none 0 (A6 _)⟩
  subst h1; rw [hz] at hi
  obtain ⟨ls, k1, k2, k3⟩ := bPz (w := w) (base := base) (α := α × Value) (fun x => x.2) (fun x => g x.1) (fun x => good x.1 /\ x.2.cells.size = sz /\ Rep ρ av w.heap (g x.1) x.2) sz h0 (fun x hx => hx.2.1) (fun x hx => hx.2.2) (ρ := ρ) (av := av) hav hlc hcm (fun i hil => by
      have := hi i hil
      rw [A1 og] at this
      obtain ⟨cs, hcs, ht⟩ := H5.1 this
      obtain ⟨p, v, q1, q2, q3, _, _, q4⟩ := O _ _ _ ht
      exact ⟨(p, v), by rw [hcs, q2], q1, by rw [q2]; simpa using q3, q4⟩)
  refine ⟨ls.map (·.1), _, ⟨by rw [A2]; omega, fun p hp => ?_⟩, rfl, rfl, fun _ => rfl, fun h => (h rfl).elim, by show Rep ρ av w.heap (.sl sz ((ls.map fun x => x.1).map g)) _; rw [List.map_map]; exact k3⟩
  obtain ⟨q, hq, rfl⟩ := B3.1 hp
  exact (k2 q hq).1
def lG {xs : List (DataW H × List MemPlace)} (j : Nat) (O : Op H enc w base sp held ρ av t 1 g good) (hz : P.cellsOf t = 1) (hj : j < xs.length)
    (h : DataW.trod enc P w base sp held n t ((cs.drop o).take (P.cellsOf t)) = xs[j]?) : ∃ a v, good a /\ cs[o]? = some v /\ Rep ρ av w.heap (g a) v := by
  rw [hz, A1 hj] at h
  obtain ⟨a, v, h1, _, _, h2, _, h3⟩ := O _ _ _ h
  refine ⟨a, v, h1, ?_, h3⟩
  have := congrArg (·[0]?) (h2 rfl)
  simpa [F9, H4] using this
def aMh {ls : List AV} (hl : cs.length = ls.length) (h : ∀ (j : Nat) (y : AV), ls[j]? = some y -> ∃ v, cs[j]? = some v /\ Rep ρ av w.heap y v) : Rep ρ av w.heap (.agg ls) (.agg cs.toArray) := by
  refine .agg _ _ (by simpa using hl) fun j y hj => ?_
  obtain ⟨v, h1, h2⟩ := h j y hj
  have : cs.toArray.getD j undef = v := by simp [B2, h1]
  rw [this]; exact h2
end
section
variable {H : Type} {enc : TypeId × Value -> H} {w : World} {base : Nat} {sp : Nat -> Bool} {held : Bool} {ρ : Nat -> Value} {av : Nat -> Prop}
def bDu {xs : List (DataW H × List MemPlace)} (j : Nat) (O : Op H enc w base sp held ρ av t sz g good) (hz : P.cellsOf t = sz) (h1 : sz ≠ 1) (hj : j < xs.length)
    (h : DataW.trod enc P w base sp held n t ((cs.drop o).take (P.cellsOf t)) = xs[j]?) : ∃ a, good a /\ ∀ ls, g a = .agg ls -> ∀ (i : Nat) (y : AV), ls[i]? = some y -> ∃ v, cs[o + i]? = some v /\ Rep ρ av w.heap y v := by
  rw [hz, A1 hj] at h
  obtain ⟨a, v, k1, _, k3, _, k4, k5⟩ := O _ _ _ h
  refine ⟨a, k1, fun ls hls i y hi => ?_⟩
  rw [hls, k4 h1] at k5
  cases k5 with
  | agg _ _ hn hh =>
    have hil := (A9.1 hi).1
    have hlt : i < ((cs.drop o).take sz).length := by have : ((cs.drop o).take sz).length = ls.length := by simpa using hn
                                                      omega
    refine ⟨_, ?_, hh i y hi⟩
    have e := A1 hlt
    rw [F9, H4] at e; split at e
    . rw [e]; simp [B2, A1 hlt]
    cases e
def uSt : P.underlying 30 = some (.struct #[{ name := "Up", type := 4, offset := 0, embedded := false, tag := "", pkgPath := "", byteOffset := 0 }, { name := "Tree", type := 26, offset := 1, embedded := false, tag := "", pkgPath := "", byteOffset := 8 }, { name := "Disk", type := 28, offset := 5, embedded := false, tag := "", pkgPath := "", byteOffset := 88 }]) := kr
def uTr : P.underlying 26 = some (.struct #[{ name := "Seq", type := 3, offset := 0, embedded := false, tag := "", pkgPath := "", byteOffset := 0 }, { name := "Mem", type := 22, offset := 1, embedded := false, tag := "", pkgPath := "", byteOffset := 8 }, { name := "Levels", type := 23, offset := 2, embedded := false, tag := "", pkgPath := "", byteOffset := 32 }, { name := "Snaps", type := 24, offset := 3, embedded := false, tag := "", pkgPath := "", byteOffset := 56 }]) := kr
def uDi : P.underlying 28 = some (.struct #[{ name := "Log", type := 9, offset := 0, embedded := false, tag := "", pkgPath := "", byteOffset := 0 }, { name := "Safe", type := 3, offset := 1, embedded := false, tag := "", pkgPath := "", byteOffset := 16 }, { name := "Levels", type := 23, offset := 2, embedded := false, tag := "", pkgPath := "", byteOffset := 24 }, { name := "Seq", type := 3, offset := 3, embedded := false, tag := "", pkgPath := "", byteOffset := 48 }]) := kr
def uEn : P.underlying 60 = some (.struct #[{ name := "Key", type := 9, offset := 0, embedded := false, tag := "", pkgPath := "", byteOffset := 0 }, { name := "Seq", type := 3, offset := 1, embedded := false, tag := "", pkgPath := "", byteOffset := 16 }, { name := "Kind", type := 3, offset := 2, embedded := false, tag := "", pkgPath := "", byteOffset := 24 }, { name := "Text", type := 9, offset := 3, embedded := false, tag := "", pkgPath := "", byteOffset := 32 }, { name := "N", type := 3, offset := 4, embedded := false, tag := "", pkgPath := "", byteOffset := 48 }]) := kr
def uRu : P.underlying 173 = some (.struct #[{ name := "Ents", type := 22, offset := 0, embedded := false, tag := "", pkgPath := "", byteOffset := 0 }, { name := "Mask", type := 3, offset := 1, embedded := false, tag := "", pkgPath := "", byteOffset := 24 }]) := kr
def uEs : P.underlying 22 = some (.slice 60) := kr
def uRs : P.underlying 129 = some (.slice 173) := kr
def uLs : P.underlying 23 = some (.slice 129) := kr
def uIs : P.underlying 24 = some (.slice 3) := kr
def uS : P.underlying 9 = some .string := kr
def uI : P.underlying 3 = some (.int .i64) := kr
def uB : P.underlying 4 = some .bool := kr
def cE : P.cellsOf 60 = 5 := kr
def cR : P.cellsOf 173 = 2 := kr
def cT : P.cellsOf 26 = 4 := kr
def cD : P.cellsOf 28 = 4 := kr
def cSt : P.cellsOf 30 = 9 := kr
def cS : P.cellsOf 9 = 1 := kr
def cI : P.cellsOf 3 = 1 := kr
def cB : P.cellsOf 4 = 1 := kr
def cEs : P.cellsOf 22 = 1 := kr
def cRs : P.cellsOf 129 = 1 := kr
def cLs : P.cellsOf 23 = 1 := kr
def cIs : P.cellsOf 24 = 1 := kr
def bRd : Op H enc w base sp held ρ av 60 5 enA (fun e => e.key.size <= maxLen /\ e.text.size <= maxLen) := by
  intro fuel cs x h
  obtain ⟨xs, n, _, _, hl, hx, hf⟩ := DataW.trod_struct uEn h
  rw [cE] at hl
  have hx5 : xs.length = 5 := by simpa using hx
  obtain ⟨k, v0, g0, e0, r0⟩ := lG 0 (bBo uS) cS og (hf 0 _ rfl)
  obtain ⟨s, v1, g1, e1, r1⟩ := lG 1 (yU uI) cI og (hf 1 _ rfl)
  obtain ⟨d, v2, g2, e2, r2⟩ := lG 2 (yU uI) cI og (hf 2 _ rfl)
  obtain ⟨t, v3, g3, e3, r3⟩ := lG 3 (bBo uS) cS og (hf 3 _ rfl)
  obtain ⟨m, v4, g4, e4, r4⟩ := lG 4 (yU uI) cI og (hf 4 _ rfl)
  refine ⟨⟨k, s, d, t, m⟩, _, ⟨g0, g3⟩, rfl, hl, fun h => by omega, fun _ => rfl, aMh hl fun j y hj => ?_⟩
  match j, hj with
  | 0, hj => cases hj; exact ⟨_, e0, r0⟩
  | 1, hj => cases hj; exact ⟨_, e1, r1⟩
  | 2, hj => cases hj; exact ⟨_, e2, r2⟩
  | 3, hj => cases hj; exact ⟨_, e3, r3⟩
  | 4, hj => cases hj; exact ⟨_, e4, r4⟩
  | j + 5, hj => simp at hj
abbrev gEnts (ls : List Entry) : Prop := ls.length <= maxLen /\ ∀ e ∈ ls, e.key.size <= maxLen /\ e.text.size <= maxLen
abbrev bSb (ls : List Run) : Prop := ls.length <= maxLen /\ ∀ r ∈ ls, gEnts r.ents
abbrev gLvs (ls : List (List Run)) : Prop := ls.length <= maxLen /\ ∀ r ∈ ls, bSb r
def bCx (hav : ∀ b, ¬ av b) : Op H enc w base sp held ρ av 22 1 (fun ls : List Entry => .sl 5 (ls.map enA)) gEnts := bDt hav uEs cE og bRd
def bPw (hav : ∀ b, ¬ av b) : Op H enc w base sp held ρ av 173 2 rA (fun r => gEnts r.ents) := by
  intro fuel cs x h
  obtain ⟨xs, n, _, _, hl, hx, hf⟩ := DataW.trod_struct uRu h
  rw [cR] at hl
  have hx2 : xs.length = 2 := by simpa using hx
  obtain ⟨k, v0, g0, e0, r0⟩ := lG 0 (bCx hav) cEs og (hf 0 _ rfl)
  obtain ⟨s, v1, g1, e1, r1⟩ := lG 1 (yU uI) cI og (hf 1 _ rfl)
  refine ⟨⟨k, s⟩, _, g0, rfl, hl, fun h => by omega, fun _ => rfl, aMh hl fun j y hj => ?_⟩
  match j, hj with
  | 0, hj => cases hj; exact ⟨_, e0, r0⟩
  | 1, hj => cases hj; exact ⟨_, e1, r1⟩
  | j + 2, hj => simp at hj
def bKc (hav : ∀ b, ¬ av b) : Op H enc w base sp held ρ av 23 1 (fun ls : List (List Run) => .sl 1 (ls.map rsA)) gLvs := bDt hav uLs cRs og (bDt hav uRs cR og (bPw hav))
def bNo (hav : ∀ b, ¬ av b) : Op H enc w base sp held ρ av 24 1 (fun ls : List Int => .sl 1 (ls.map inA)) (fun ls => ls.length <= maxLen /\ ∀ l ∈ ls, True) := bDt hav uIs cI og (yU uI)
def bNg (hav : ∀ b, ¬ av b) : Op H enc w base sp held ρ av 26 4 trA (fun t => gEnts t.mem /\ gLvs t.levels /\ t.snaps.length <= maxLen) := by
  intro fuel cs x h
  obtain ⟨xs, n, _, _, hl, hx, hf⟩ := DataW.trod_struct uTr h
  rw [cT] at hl
  have hx4 : xs.length = 4 := by simpa using hx
  obtain ⟨k, v0, g0, e0, r0⟩ := lG 0 (yU uI) cI og (hf 0 _ rfl)
  obtain ⟨s, v1, g1, e1, r1⟩ := lG 1 (bCx hav) cEs og (hf 1 _ rfl)
  obtain ⟨d, v2, g2, e2, r2⟩ := lG 2 (bKc hav) cLs og (hf 2 _ rfl)
  obtain ⟨t, v3, g3, e3, r3⟩ := lG 3 (bNo hav) cIs og (hf 3 _ rfl)
  refine ⟨⟨k, s, d, t⟩, _, ⟨g1, g2, g3.1⟩, rfl, hl, fun h => by omega, fun _ => rfl, aMh hl fun j y hj => ?_⟩
  match j, hj with
  | 0, hj => cases hj; exact ⟨_, e0, r0⟩
  | 1, hj => cases hj; exact ⟨_, e1, r1⟩
  | 2, hj => cases hj; exact ⟨_, e2, r2⟩
  | 3, hj => cases hj; exact ⟨_, e3, r3⟩
  | j + 4, hj => simp at hj
def bNy (hav : ∀ b, ¬ av b) : Op H enc w base sp held ρ av 28 4 dkA (fun t => t.log.size <= maxLen /\ gLvs t.levels) := by
  intro fuel cs x h
  obtain ⟨xs, n, _, _, hl, hx, hf⟩ := DataW.trod_struct uDi h
  rw [cD] at hl
  have hx4 : xs.length = 4 := by simpa using hx
  obtain ⟨k, v0, g0, e0, r0⟩ := lG 0 (bBo uS) cS og (hf 0 _ rfl)
  obtain ⟨s, v1, g1, e1, r1⟩ := lG 1 (yU uI) cI og (hf 1 _ rfl)
  obtain ⟨d, v2, g2, e2, r2⟩ := lG 2 (bKc hav) cLs og (hf 2 _ rfl)
  obtain ⟨t, v3, g3, e3, r3⟩ := lG 3 (yU uI) cI og (hf 3 _ rfl)
  refine ⟨⟨k, s, d, t⟩, _, ⟨g0, g2⟩, rfl, hl, fun h => by omega, fun _ => rfl, aMh hl fun j y hj => ?_⟩
  match j, hj with
  | 0, hj => cases hj; exact ⟨_, e0, r0⟩
  | 1, hj => cases hj; exact ⟨_, e1, r1⟩
  | 2, hj => cases hj; exact ⟨_, e2, r2⟩
  | 3, hj => cases hj; exact ⟨_, e3, r3⟩
  | j + 4, hj => simp at hj
def bJn (hav : ∀ b, ¬ av b) : Op H enc w base sp held ρ av 30 9 stA (fun s => (gEnts s.tree.mem /\ gLvs s.tree.levels /\ s.tree.snaps.length <= maxLen) /\ s.disk.log.size <= maxLen /\ gLvs s.disk.levels) := by
  intro fuel cs x h
  obtain ⟨xs, n, _, _, hl, hx, hf⟩ := DataW.trod_struct uSt h
  rw [cSt] at hl
  have hx3 : xs.length = 3 := by simpa using hx
  obtain ⟨u, v0, g0, e0, r0⟩ := lG 0 (bOz uB) cB og (hf 0 _ rfl)
  obtain ⟨t, g1, r1⟩ := bDu 1 (bNg hav) cT og og (hf 1 _ rfl)
  obtain ⟨d, g2, r2⟩ := bDu 2 (bNy hav) cD og og (hf 2 _ rfl)
  have t1 := r1 _ rfl
  have t2 := r2 _ rfl
  refine ⟨⟨u, t, d⟩, _, ⟨g1, g2⟩, rfl, hl, fun h => by omega, fun _ => rfl, aMh hl fun j y hj => ?_⟩
  match j, hj with
  | 0, hj => cases hj; exact ⟨_, e0, r0⟩
  | 1, hj => exact t1 0 y hj
  | 2, hj => exact t1 1 y hj
  | 3, hj => exact t1 2 y hj
  | 4, hj => exact t1 3 y hj
  | 5, hj => exact t2 0 y hj
  | 6, hj => exact t2 1 y hj
  | 7, hj => exact t2 2 y hj
  | 8, hj => exact t2 3 y hj
  | j + 9, hj => simp at hj
end
end
end Go.Proofs.S
end
section
open Go Go.Abs Go.Proofs Go.Proofs.Tryz
open Go.ChangeShapes Go.WideShapes Go.RowKit Go.Proofs.YthbibdnkiklemaaGreatDoor
namespace Go.Proofs.S
def bSc : ownKnob P.godebug = none := kr
def bMc : laidOutB P = true := kr
def bSf : P.underlying 146 = some (.interface #[("Error", 150)]) := kr
def bSh : P.readableRec 30 = true := kr
def aJw {w : World} : ∀ {l : List (String × DataW Unit)} {ps : List MemPlace}, DataW.LaidVars P w l ps -> ∀ {n : String} {d : DataW Unit}, (n, d) ∈ l ->
    ∃ t cs fuel p, ∀ g, P.globalNamed n = some g -> (P.globals[g]?).map (·.type) = some t /\ (∃ u fr, w.heap[g]? = some (.cells cs u fr)) /\ DataW.trod (fun _ => ()) P w 0 (fun _ => true) false fuel t cs.toList = some (d, p)
  | [], _, _, _, _, hm => by cases hm
  | (n', d') :: l, ps, h, n, d, hm => by
    obtain ⟨g, t, cs, fuel, p, q, h1, h2, h3, h4, h5, _⟩ := h
    rcases B1.1 hm with e | hm
    . cases e
      refine ⟨t, cs, fuel, p, fun g' hg' => ?_⟩
      obtain rfl := Option.some.inj (h1.symm.trans hg')
      refine ⟨h2, ?_, h4⟩
      simp only [World.var?, h1, Option.bind_some] at h3
      split at h3
      . rename_i cs' u fr hb; cases h3; exact ⟨u, fr, hb⟩
      cases h3
    exact aJw h5 hm
def bRj {w : World} {l : List (String × DataW Unit)} (hL : laidMet P l w) (m0 : ("internal/strconv.uint64pow10", (Rows.laid_internal_strconv_uint64pow10 : DataW Unit)) ∈ l) (m1 : ("strconv.ErrSyntax", (Rows.laid_strconv_ErrSyntax : DataW Unit)) ∈ l) (m2 : ("strconv.ErrRange", (Rows.laid_strconv_ErrRange : DataW Unit)) ∈ l) :
    ∀ g, Globals.on g -> ∃ o, w.heap[g]? = some o /\ Globals.G0 g o := by
  obtain ⟨ps, hv, _, _⟩ := hL
  intro g hg
  rcases hg with rfl | rfl | rfl
  . obtain ⟨t, cs, fuel, p, h⟩ := aJw hv m0
    obtain ⟨ht, ⟨u, fr, hh⟩, hd⟩ := h 0 kr
    obtain rfl : 254 = t := Option.some.inj ((show (P.globals[0]?).map (·.type) = some 254 by kernel_rfl).symm.trans ht)
    have e := Lib.cells_of_tab (k := .u64) (zs := Lib.pow10Tab) (e := 245) (n := 20) kr kr kr kr (show _ = some (Lib.tabData .u64 Lib.pow10Tab, p) from hd)
    have hcs : cs = ((Lib.pow10Tab.map fun z => Value.int .u64 z)).toArray := by rw [<- e]
    exact ⟨_, hh, fun _ => ⟨u, fr, by rw [hcs]⟩, fun h => by omega, _, _, _, rfl⟩
  . obtain ⟨t, cs, fuel, p, h⟩ := aJw hv m1
    obtain ⟨ht, ⟨u, fr, hh⟩, hd⟩ := h 1 kr
    obtain rfl : 146 = t := Option.some.inj ((show (P.globals[1]?).map (·.type) = some 146 by kernel_rfl).symm.trans ht)
    obtain ⟨_, a, b, e, _, _⟩ := iface_of_trod (bSf) hd
    have hcs : cs = #[.iface a b] := by cases cs; simpa using e
    exact ⟨_, hh, fun h => by omega, fun _ => ⟨a, b, u, fr, by rw [hcs]⟩, _, _, _, rfl⟩
  obtain ⟨t, cs, fuel, p, h⟩ := aJw hv m2
  obtain ⟨ht, ⟨u, fr, hh⟩, hd⟩ := h 2 kr
  obtain rfl : 146 = t := Option.some.inj ((show (P.globals[2]?).map (·.type) = some 146 by kernel_rfl).symm.trans ht)
  obtain ⟨_, a, b, e, _, _⟩ := iface_of_trod (bSf) hd
  have hcs : cs = #[.iface a b] := by cases cs; simpa using e
  exact ⟨_, hh, fun h => by omega, fun _ => ⟨a, b, u, fr, by rw [hcs]⟩, _, _, _, rfl⟩
def C0 : Conc := { ρ := fun _ => .pointer (some ⟨0, 0, none⟩), one := fun _ => rfl, own := fun _ => [], X := fun _ => False, B := 0 }
def bPr (b : Nat) : ¬ C0.avoid [] b := by
  rintro (h | ⟨i, o, h, _⟩)
  . exact h
  simp [Abs.get] at h
def bQz {w : World} (gl : ∀ g, Globals.on g -> ∃ o, w.heap[g]? = some o /\ Globals.G0 g o) : RelH C0 [] (UU 0) w where
  obj := fun i o h => by simp [Abs.get] at h
  apart := fun i j oi oj b _ h => by simp [Abs.get] at h
  xapart := fun i o b h => by simp [Abs.get] at h
  xlt := fun b h => h.elim
  objb := fun i o h => by simp [Abs.get] at h
  gl := fun g hg => by obtain ⟨o, h1, h2⟩ := gl g hg; exact ⟨o, h1, h2, bPr g⟩
def bIm {w w' : World} {C' : Conc} {H' : Heap} (h : StepR C0 [] (UU 0) w C' H' w') : Below w.heap.size w w' :=
  ⟨h.os, h.tape, h.output, h.size, fun k hk => h.keep k hk fun ⟨i, o, hi, _⟩ => by simp [Abs.get] at hi⟩
def bQr {w : World} {base : Nat} {t : Nat} {v : Value} {fs : Array Field} (u : P.underlying t = some (.struct fs)) (h : Value.okWide P w .any base t v) : ∃ cs, v = .agg cs := by
  simp only [Value.okWide, u] at h
  obtain ⟨cs, e, _⟩ := h
  exact ⟨cs, e⟩
end Go.Proofs.S
end
section
open Go.Shelf
namespace Go.Proofs
def Tryz.growE_ren : Go.Shelf.Ren := ⟨fun | 4 => 218 | n => n, fun | 22 => 33 | 25 => 65 | 3 => 3 | 4 => 4 | 9 => 9 | 20 => 20 | 0 => 0 | n => n, fun | n => n⟩
theorem Tryz.growE : Go.Proofs.Lays8.n4 Tryz.prog Tryz.growE_ren := {
  mixed := by kernel_rfl
  f4 := ⟨Tryz.f218.name, by decide, Tryz.func218.trans (congrArg some (by kernel_rfl))⟩
  t0 := Tryz.underlying0
  a0 := Tryz.isAgg0
  z0 := Tryz.sizeOf0
  v0 := Tryz.zeroValue0
  t3 := Tryz.underlying3
  a3 := Tryz.isAgg3
  z3 := Tryz.sizeOf3
  v3 := Tryz.zeroValue3
  t4 := Tryz.underlying4
  a4 := Tryz.isAgg4
  z4 := Tryz.sizeOf4
  v4 := Tryz.zeroValue4
  t9 := Tryz.underlying9
  a9 := Tryz.isAgg9
  z9 := Tryz.sizeOf9
  v9 := Tryz.zeroValue9
  t20 := Tryz.underlying20
  a20 := Tryz.isAgg20
  z20 := Tryz.sizeOf20
  v20 := Tryz.zeroValue20
  t22 := Tryz.underlying33
  a22 := Tryz.isAgg33
  z22 := Tryz.sizeOf33
  v22 := Tryz.zeroValue33 }
def Tryz.growR_ren : Go.Shelf.Ren := ⟨fun | 4 => 145 | n => n, fun | 22 => 107 | 25 => 109 | 3 => 3 | 4 => 4 | 9 => 9 | 20 => 20 | 0 => 0 | n => n, fun | n => n⟩
theorem Tryz.growR : Go.Proofs.Lays8.n4 Tryz.prog Tryz.growR_ren := {
  mixed := by kernel_rfl
  f4 := ⟨Tryz.f145.name, by decide, Tryz.func145.trans (congrArg some (by kernel_rfl))⟩
  t0 := Tryz.underlying0
  a0 := Tryz.isAgg0
  z0 := Tryz.sizeOf0
  v0 := Tryz.zeroValue0
  t3 := Tryz.underlying3
  a3 := Tryz.isAgg3
  z3 := Tryz.sizeOf3
  v3 := Tryz.zeroValue3
  t4 := Tryz.underlying4
  a4 := Tryz.isAgg4
  z4 := Tryz.sizeOf4
  v4 := Tryz.zeroValue4
  t9 := Tryz.underlying9
  a9 := Tryz.isAgg9
  z9 := Tryz.sizeOf9
  v9 := Tryz.zeroValue9
  t20 := Tryz.underlying20
  a20 := Tryz.isAgg20
  z20 := Tryz.sizeOf20
  v20 := Tryz.zeroValue20
  t22 := Tryz.underlying107
  a22 := Tryz.isAgg107
  z22 := Tryz.sizeOf107
  v22 := Tryz.zeroValue107 }
end Go.Proofs
end
section
open Go Go.Abs Go.Proofs Go.Proofs.Tryz
namespace Go.Proofs.S
def aLt (older newer : Int) (ts : List Int) (i : Nat) : Bool := match ts[i]? with
  | some s => !(decide (older <= s) && decide (s < newer))
  | none => true
def apB (older newer : Int) (ts : List Int) : Bool := !(List.range ts.length).all (aLt older newer ts)
def jI : Entry -> Bool -> List Entry -> Entry
  | o, _, [] => o
  | o, f, e :: r => if e.kind = 3 then jI { o with n := o.n + e.n } false r
    else if e.kind = 1 then { o with kind := 1, text := e.text, n := o.n + e.n } else if f = true then { o with kind := 2 } else { o with kind := 1 }
def uK (x : Entry) : Entry := ⟨x.key, x.seq, 3, ⟨#[]⟩, 0⟩
def jD (ls : List Entry) : Entry := match ls with
  | [] => iG
  | x :: _ => jI (uK x) true ls
def sqC (ls : List Entry) (bare : Bool) : List Entry := if (decide (1000000 < (jD ls).n) || decide ((jD ls).n < -1000000)) = true then ls
  else if bare = true then (if (jD ls).kind = 2 then [] else if (jD ls).kind = 3 then [{ jD ls with kind := 1 }] else [jD ls]) else [jD ls]
def pN : Entry -> Bool -> List Entry -> Entry
  | o, _, [] => o
  | o, f, e :: r => if e.kind = 1 then { o with kind := 1, text := e.text, n := o.n + e.n }
    else if e.kind = 2 then (if f = true then { o with kind := 2, n := o.n + e.n } else { o with kind := 1, n := o.n + e.n }) else pN { o with n := o.n + e.n } false r
def wK (ls : List Entry) : Entry := match ls with
  | [] => iG
  | x :: _ => pN (uK x) true ls
def jC (ls : List Entry) (last : Bool) : List Entry := if nK (wK ls).n = false then ls
  else if (last && decide ((wK ls).kind = 2)) = true then [] else if (last && decide ((wK ls).kind = 3)) = true then [{ wK ls with kind := 1 }] else [wK ls]
def vK (ls : List Entry) : Prop := ls.length <= 1048576 /\ ∀ e ∈ ls, -1000000 <= e.n /\ e.n <= 1000000
def aQb (a b : Entry) (ts : List Int) (hz : ts.length <= 4611686018427387904) : aB P 216 [enA a, enA b, .sl 1 (ts.map inA)] [] 0 (Nb (apB b.seq a.seq ts)) := by
 refine (pq 26 [.tmp 6] func216) ?_
 simp only [enA]
 refine (aj) ?_
 refine sq fun k2 => (aj) (wb ?_)
 refine wa ts.length (aLt b.seq a.seq ts) (fun x => ([(3, .ptr 0 0), (4, .ptr 1 0), (9, .sl 1 (ts.map inA)), (10, Ni (ts.length : Int)), (11, Ni (x : Int))], [(0, .cells 65 [Ns a.key, Ni a.seq, Ni a.kind, Ns a.text, Ni a.n]), (1, .cells 65 [Ns b.key, Ni b.seq, Ni b.kind, Ns b.text, Ni b.n])])) 2 [] ?_ ?_
 . exact Ch
 rintro i ⟨hi, hall⟩
 refine (aj) ?_
 refine sq fun k5 => (cdB) ?_ ?_ <;> intro hc1
 . have hge := gec hc1
   refine we ((jt) (k2 ((aj) (wR ?_))))
   have h9 : apB b.seq a.seq ts = false := by unfold apB; rw [eU hge hall]; rfl
   exact fq h9
 obtain ⟨hlt, l, hl, hdrop, hml⟩ := ixc hc1
 refine wk (k5 (sq fun k6 => wb (sr rfl fun k7 => ?_)))
 simp only [go_sem, hl, inA]
 refine (jr) (k7 ((aj) ((cdA) ?_ ?_))) <;> intro hc2
 . have hp : aLt b.seq a.seq ts i = false := by unfold aLt; rw [hl]; simp only [hc2]; rfl
   refine (aj) (wR ((Ad) ?_))
   have h9 : apB b.seq a.seq ts = true := by unfold apB; rw [gR hlt hp]; rfl
   exact fq h9
 have hp : aLt b.seq a.seq ts i = true := by unfold aLt; rw [hl]; simp only [hc2]; rfl
 refine wk ((jt) (k6 ((jw (wiS i og)) ((jt) ?_))))
 refine ⟨i + 1, ⟨og, bV hall hp⟩, og, [], ?_⟩
 exact Bk
def aNu (ts : List Int) (o n : Int) (hz : ts.length <= 4611686018427387904) : aB P 209 [.sl 1 (ts.map inA), Ni o, Ni n] [] 0 (Nb (apB o n ts)) := by
 refine (pq 28 [.tmp 6] func209) ((aj) ?_)
 refine sq fun k2 => (aj) (wb ?_)
 refine wa ts.length (aLt o n ts) (fun x => ([(0, .sl 1 (ts.map inA)), (1, Ni o), (2, Ni n), (7, Ni (x : Int))], [])) 0 [] ?_ ?_
 . exact jc
 rintro i ⟨hi, hall⟩
 refine sq fun k4 => (aj) ((cdB) ?_ ?_) <;> intro hc1
 . have hge := gec hc1
   refine we ((jt) (k2 ((aj) (wR ?_))))
   have h9 : apB o n ts = false := by unfold apB; rw [eU hge hall]; rfl
   exact fq h9
 obtain ⟨hlt, l, hl, hdrop, hml⟩ := ixc hc1
 refine wk (k4 (sq fun k6 => wb (sr rfl fun k7 => ?_)))
 simp only [go_sem, hl, inA]
 refine (jr) (k7 ((cdA) ?_ ?_)) <;> intro hc2
 . have hp : aLt o n ts i = false := by unfold aLt; rw [hl]; simp only [hc2]; rfl
   refine (aj) (wR ((Ad) ?_))
   have h9 : apB o n ts = true := by unfold apB; rw [gR hlt hp]; rfl
   exact fq h9
 have hp : aLt o n ts i = true := by unfold aLt; rw [hl]; simp only [hc2]; rfl
 refine wk ((jt) (k6 ((jw (wiS i og)) ((jt) ?_))))
 refine ⟨i + 1, ⟨og, bV hall hp⟩, og, [], ?_⟩
 exact jo
def aJl (ls : List Entry) (hz : vK ls) (hne : ls ≠ []) : aB P 217 [.sl 5 (ls.map enA)] [] 0 (enA (jD ls)) := by
 refine (pq 53 [.cell 2 65] func217) ?_
 have hlen := hz.1
 have hpos : 0 < ls.length := E8.2 hne
 obtain ⟨y, r, hy⟩ := G1 hne
 have hy0 : ls[0]? = some y := by rw [hy]; rfl
 have h0 : jI (uK y) (decide ((0 : Nat) = 0)) (ls.drop 0) = jD ls := by rw [hy]; rfl
 refine (aj) ?_
 refine sd mixed rfl fun k2 => (Cp hy0) ((jr) ((jy) (k2 (sq fun k3 => (aj) (wb ?_)))))
 refine wl (α := Nat × Entry) (fun x => x.1 <= ls.length /\ -(1000000 * (x.1 : Int)) <= x.2.n /\ x.2.n <= 1000000 * (x.1 : Int) /\ jI x.2 (decide (x.1 = 0)) (ls.drop x.1) = jD ls) (fun x => ls.length - x.1) (fun x => ([(2, .ptr 0 0), (3, .ptr 1 0), (15, .sl 5 (ls.map enA)), (16, Ni (ls.length : Int)), (17, Ni (x.1 : Int))], [(0, .cells 65 [Ns ⟨#[]⟩, Ni 0, Ni 0, Ns ⟨#[]⟩, Ni 0]), (1, .cells 65 [Ns x.2.key, Ni x.2.seq, Ni x.2.kind, Ns x.2.text, Ni x.2.n])])) 2 (0, uK y) ⟨A6 _, by simp [uK], by simp [uK], h0⟩ [] ?_ ?_
 . simp only [go_sem, AObj.bel, Int.natCast_zero, uK] <;> simp
 rintro ⟨i, o⟩ ⟨hi, hn0, hn1, hgo⟩
 simp only at hi hn0 hn1 hgo ⊢
 refine (aj) ?_
 refine sq fun k6 => (cdB) ?_ ?_ <;> intro hc1
 . have hge := gec hc1
   rw [E9 hge, jI] at hgo
   refine we ((jt) (k3 ((aj) (wR ?_))))
   refine fO ?_ (eS _ _)
   simp only [go_sem, enA, <- hgo]
 obtain ⟨hlt, l, hl, hdrop, hml⟩ := ixc hc1
 have hnl := hz.2 l hml
 have hwn := wr (o.n + l.n) (o.n + l.n) og
 rw [hdrop, jI] at hgo
 refine wk (k6 (sq fun k7 => wb (sr rfl fun k8 => (Ap hl) ((jr) (k8 (sq fun k9 => wb ((aj) ((cdA) ?_ ?_)))))))) <;> intro hc2
 . have n2 : l.kind = 3 := by simpa using hc2
   rw [if_pos n2] at hgo
   refine sr rfl fun k11 => (Aa hwn) (k11 (we ((jt) (k7 ((jw (wiS i og)) ((jt) ?_))))))
   refine ⟨(i + 1, { o with n := o.n + l.n }), ⟨og, by simp only; omega, by simp only; omega, hgo⟩, og, [], ?_⟩
   exact jz
 have n2 : ¬ l.kind = 3 := by simpa using hc2
 rw [if_neg n2] at hgo
 refine (aj) ((cdA) ?_ ?_) <;> intro hc3
 . have n3 : l.kind = 1 := by simpa using hc3
   rw [if_pos n3] at hgo
   refine jF mixed rfl ?_
   refine (Aa hwn) ((jy) ((jt) (k9 (we ((jt) (k3 ((aj) (wR ?_))))))))
   refine fO ?_ (eS _ _)
   simp only [go_sem, enA, <- hgo]
 have n3 : ¬ l.kind = 1 := by simpa using hc3
 rw [if_neg n3] at hgo
 refine (aj) ((cdA) ?_ ?_) <;> intro hc4
 . have n4 : i = 0 := by simp at hc4; omega
   rw [if_pos (by simp [n4])] at hgo
   refine wg rfl ((ja) ((jt) (k9 (we ((jt) (k3 ((aj) (wR ?_))))))))
   refine fO ?_ (eS _ _)
   simp only [go_sem, enA, <- hgo]
 have n4 : ¬ i = 0 := by simp at hc4; omega
 rw [if_neg (by simp [n4])] at hgo
 refine wg rfl ((ja) ((jt) (k9 (we ((jt) (k3 ((aj) (wR ?_))))))))
 refine fO ?_ (eS _ _)
 simp only [go_sem, enA, <- hgo]
def aBz (ls : List Entry) (bare : Bool) (hz : vK ls) (hne : ls ≠ []) : aB P 195 [.sl 5 (ls.map enA), Nb bare] [] 0 (.sl 5 ((sqC ls bare).map enA)) := by
 refine (pq 27 [.tmp 4] func195) ?_
 have hmx := mxl
 refine (aj) ?_
 refine sr rfl fun k2 => (ja) ?_
 refine vs rfl rfl rfl func217 (aJl ls hz hne) Ah Ah ?_
 refine (Bm) (k2 (sq fun k3 => (aj) ((cdA) ?_ ?_))) <;> intro hc1
 . have h9 : sqC ls bare = ls := by unfold sqC; rw [if_pos hc1]
   refine (aj) (wR ?_)
   refine fO ?_ (enB _ _)
   exact Ab h9
 have hb := hc1
 refine wk (k3 (sq fun k6 => (aj) ((cdB) ?_ ?_))) <;> intro hc2
 . have hbr : ¬ bare = true := by simpa using hc2
   refine wk (k6 (sr rfl fun k14 => (ja) ((jr) (k14 ?_))))
   have h9 : sqC ls bare = [jD ls] := by unfold sqC; rw [hb, if_neg oS, if_neg hbr]
   refine aFz 1 rfl ?_
   refine (Ag) (wR ?_)
   refine fO ?_ (enB _ _)
   exact Ck h9
 have hbr : bare = true := by simpa using hc2
 refine (aj) (wb ((aj) ((cdA) ?_ ?_))) <;> intro hc3
 . have n3 : (jD ls).kind = 2 := by simpa using hc3
   refine (aj) ?_
   have h9 : sqC ls bare = [] := by unfold sqC; rw [hb, if_neg oS, if_pos hbr, if_pos n3]
   refine dZ (t := 4) 65 5 rfl dg ?_
   refine (ja) ?_
   refine aFz 1 rfl ?_
   refine (Ag) (wR ((Ad) ?_))
   refine fO ?_ (enB _ _)
   exact Bn h9
 have n3 : ¬ (jD ls).kind = 2 := by simpa using hc3
 refine (aj) ((cdA) ?_ ?_) <;> intro hc4
 . have n4 : (jD ls).kind = 3 := by simpa using hc4
   refine wg rfl ((ja) ((jt) (k6 (sr rfl fun k12 => (ja) ((jr) (k12 ?_))))))
   have h9 : sqC ls bare = [{ jD ls with kind := 1 }] := by unfold sqC; rw [hb, if_neg oS, if_pos hbr, if_neg n3, if_pos n4]
   refine aFz 1 rfl ?_
   refine (Ag) (wR ?_)
   refine fO ?_ (enB _ _)
   exact Ck h9
 have n4 : ¬ (jD ls).kind = 3 := by simpa using hc4
 refine wk ((jt) (k6 (sr rfl fun k13 => (ja) ((jr) (k13 ?_)))))
 have h9 : sqC ls bare = [jD ls] := by unfold sqC; rw [hb, if_neg oS, if_pos hbr, if_neg n3, if_neg n4]
 refine aFz 1 rfl ?_
 refine (Ag) (wR ?_)
 refine fO ?_ (enB _ _)
 exact Ck h9
def aQg (ls : List Entry) (hz : vK ls) (hne : ls ≠ []) : aB P 229 [.sl 5 (ls.map enA)] [] 0 (.tup [enA (wK ls), Nb (nK (wK ls).n)]) := by
 refine (pq 50 [.cell 2 65, .tmp 3] func229) ?_
 have hlen := hz.1
 have hpos : 0 < ls.length := E8.2 hne
 obtain ⟨y, r, hy⟩ := G1 hne
 have hy0 : ls[0]? = some y := by rw [hy]; rfl
 have h0 : pN (uK y) (decide ((0 : Nat) = 0)) (ls.drop 0) = wK ls := by rw [hy]; rfl
 refine (aj) ?_
 refine sd mixed rfl fun k2 => (Cp hy0) ((jr) ((jy) (k2 (sq fun k3 => (aj) (wb ?_)))))
 refine wl (α := Nat × Entry) (fun x => x.1 <= ls.length /\ -(1000000 * (x.1 : Int)) <= x.2.n /\ x.2.n <= 1000000 * (x.1 : Int) /\ pN x.2 (decide (x.1 = 0)) (ls.drop x.1) = wK ls) (fun x => ls.length - x.1) (fun x => ([(0, .sl 5 (ls.map enA)), (2, .ptr 0 0), (4, .ptr 1 0), (5, Ni (x.1 : Int))], [(0, .cells 65 [Ns ⟨#[]⟩, Ni 0, Ni 0, Ns ⟨#[]⟩, Ni 0]), (1, .cells 65 [Ns x.2.key, Ni x.2.seq, Ni x.2.kind, Ns x.2.text, Ni x.2.n])])) 2 (0, uK y) ⟨A6 _, by simp [uK], by simp [uK], h0⟩ [] ?_ ?_
 . simp only [go_sem, AObj.bel, Int.natCast_zero, uK] <;> simp
 rintro ⟨i, o⟩ ⟨hi, hn0, hn1, hgo⟩
 simp only at hi hn0 hn1 hgo ⊢
 refine sq fun k5 => (aj) ((cdB) ?_ ?_) <;> intro hc1
 . have hge := gec hc1
   rw [E9 hge, pN] at hgo
   refine we ((jt) (k3 (sd mixed rfl fun k21 => (ja) ?_)))
   refine tp rfl rfl rfl ⟨func158, rfl, rfl⟩ (mR _) rfl oG ?_
   refine (Bm) ((jy) (k21 (wR ?_)))
   refine fO ?_ ⟨eS _ _, trivial, trivial⟩
   simp only [go_sem, enA, <- hgo]
 obtain ⟨hlt, l, hl, hdrop, hml⟩ := ixc hc1
 have hnl := hz.2 l hml
 have hwn := wr (o.n + l.n) (o.n + l.n) og
 rw [hdrop, pN] at hgo
 refine wk (k5 (sq fun k7 => wb (sr rfl fun k8 => (Ap hl) ((jr) (k8 (sr rfl fun k9 => (Aa hwn) (k9 (sq fun k10 => (aj) ((cdA) ?_ ?_))))))))) <;> intro hc2
 . have n2 : l.kind = 1 := by simpa using hc2
   rw [if_pos n2] at hgo
   refine (aj) ((aj) (we ((jt) (k3 (sd mixed rfl fun k14 => (ja) ?_)))))
   refine tp rfl rfl rfl ⟨func158, rfl, rfl⟩ (mR _) rfl oG ?_
   refine (Bm) ((jy) (k14 (wR ?_)))
   refine fO ?_ ⟨eS _ _, trivial, trivial⟩
   simp only [go_sem, enA, <- hgo]
 have n2 : ¬ l.kind = 1 := by simpa using hc2
 rw [if_neg n2] at hgo
 refine wk (k10 ((aj) ((cdB) ?_ ?_))) <;> intro hc3
 . have n3 : ¬ l.kind = 2 := by simpa using hc3
   rw [if_neg n3] at hgo
   refine wk ((jt) (k7 ((jw (wiS i og)) ((jt) ?_))))
   refine ⟨(i + 1, { o with n := o.n + l.n }), ⟨og, by simp only; omega, by simp only; omega, hgo⟩, og, [], ?_⟩
   exact jz
 have n3 : l.kind = 2 := by simpa using hc3
 rw [if_pos n3] at hgo
 refine (aj) ?_
 refine sq fun k17 => (aj) ((cdA) ?_ ?_) <;> intro hc4
 . have n4 : i = 0 := by simp at hc4; omega
   rw [if_pos (by simp [n4])] at hgo
   refine wg rfl ((ja) (k17 (we ((jt) (k3 (sd mixed rfl fun k19 => (ja) ?_))))))
   refine tp rfl rfl rfl ⟨func158, rfl, rfl⟩ (mR _) rfl oG ?_
   refine (Bm) ((jy) (k19 (wR ?_)))
   refine fO ?_ ⟨eS _ _, trivial, trivial⟩
   simp only [go_sem, enA, <- hgo]
 have n4 : ¬ i = 0 := by simp at hc4; omega
 rw [if_neg (by simp [n4])] at hgo
 refine wk (k17 (we ((jt) (k3 (sd mixed rfl fun k20 => (ja) ?_)))))
 refine tp rfl rfl rfl ⟨func158, rfl, rfl⟩ (mR _) rfl oG ?_
 refine (Bm) ((jy) (k20 (wR ?_)))
 refine fO ?_ ⟨eS _ _, trivial, trivial⟩
 simp only [go_sem, enA, <- hgo]
def aOe (ls : List Entry) (last : Bool) (hz : vK ls) (hne : ls ≠ []) : aB P 208 [.sl 5 (ls.map enA), Nb last] [] 0 (.sl 5 ((jC ls last).map enA)) := by
 refine (pq 33 [.tmp 4] func208) ?_
 have hmx := mxl
 have hlen := hz.1
 refine (aj) ?_
 refine sr rfl fun k2 => (ja) ?_
 refine vs rfl rfl rfl func229 (aQg ls hz hne) Ah Ah ?_
 refine (Bm) (k2 (sq fun k3 => (aj) ((cdA) ?_ ?_))) <;> intro hc1
 . have hs : nK (wK ls).n = false := by simpa using hc1
   refine sr rfl fun k5 => (At) ((jr) (k5 ?_))
   have h9 : jC ls last = ls := by unfold jC; rw [if_pos hs]
   refine aFz 2 rfl ?_
   refine (Ag) (wR ?_)
   refine fO ?_ (enB _ _)
   exact Ab h9
 have hs : ¬ nK (wK ls).n = false := by simpa using hc1
 refine wk (k3 (sq fun k6 => (aj) ((cdA) ?_ ?_))) <;> intro hc2
 . have hl2 := hc2
   refine sr rfl fun k8 => (ja) ((jr) (k8 ?_))
   have h9 : jC ls last = [] := by unfold jC; rw [if_neg hs, if_pos hl2]
   refine aFz 1 rfl ?_
   refine (Ag) (wR ?_)
   refine fO ?_ (enB _ _)
   exact Bn h9
 have hl2 := hc2
 refine wk (k6 (sq fun k9 => (aj) ((cdA) ?_ ?_))) <;> intro hc3
 . have hl3 := hc3
   refine wg rfl ((ja) (k9 (sr rfl fun k11 => (ja) ((jr) (k11 ?_)))))
   have h9 : jC ls last = [{ wK ls with kind := 1 }] := by unfold jC; rw [if_neg hs, if_neg (by rw [hl2]; simp), if_pos hl3]
   refine aFz 1 rfl ?_
   refine (Ag) (wR ?_)
   refine fO ?_ (enB _ _)
   exact Ck h9
 have hl3 := hc3
 refine wk (k9 (sr rfl fun k12 => (ja) ((jr) (k12 ?_))))
 have h9 : jC ls last = [wK ls] := by unfold jC; rw [if_neg hs, if_neg (by rw [hl2]; simp), if_neg (by rw [hl3]; simp)]
 refine aFz 1 rfl ?_
 refine (Ag) (wR ?_)
 refine fO ?_ (enB _ _)
 exact Ck h9
def gA (ls : List Entry) (i : Nat) : Entry := (ls[i]?).getD iG
def eL {ls : List Entry} {i : Nat} (h : i < ls.length) : ls[i]? = some (gA ls i) := by
  unfold gA; rw [A1 h]; rfl
def aKn (ts : List Int) (ls : List Entry) (i : Nat) : Bool := apB (gA ls i).seq (bT ls i).seq ts
def iW (ts : List Int) (ls : List Entry) : Nat -> Nat -> Nat -> List (List Entry)
  | 0, _, _ => []
  | f + 1, s, i => if (decide ((i : Int) < (ls.length : Int)) && !aKn ts ls i) = true then iW ts ls f s (i + 1) else (ls.take i).drop s :: iW ts ls f i (i + 1)
def bM (ts : List Int) (ls : List Entry) : List (List Entry) := iW ts ls ls.length 0 1
def aCi (ls : List Entry) (ts : List Int) (hlen : ls.length <= 1048576) (hts : ts.length <= 1048576) {S : Type} (Hx : S -> Heap) (Inv : List (List Entry) -> S -> Prop) (nxt : S -> List Entry -> S × Bool) (l : Nat) (s0 : S) (k k' : Nat) (hk : 1000 <= k) (hk' : 1000 <= k')
  (hb1 : ∀ s, get (Hx s) k = some (.cells 33 [.sl 5 (ls.map enA)])) (hb2 : ∀ s, get (Hx s) k' = some (.cells 24 [.sl 1 (ts.map inA)])) (hF : ∀ s, Far (Hx s) (Hx s)) (hkk : ∀ s s', (Hx s).map (·.1) = (Hx s').map (·.1))
  (hy : ∀ s x r, Inv (x :: r) s -> x ∈ bM ts ls -> tX P l [.sl 5 (x.map enA)] (Hx s) 0 (.raw (.bool (nxt s x).2)) (Hx (nxt s x).1) /\ ((nxt s x).2 = true -> Inv r (nxt s x).1)) (hI0 : Inv (bM ts ls) s0) : aH P 215 [.raw (.func (.yield l) #[] #[]), .ptr k 0, .ptr k' 0] (Hx s0) 0 (.tup []) (Hx (aCc nxt (bM ts ls) s0)) 0 := by
 refine (gq 38 [] func215) ((aj) ((aj) (wb ?_)))
 refine wl (α := Nat × Nat × S) (fun x => 1 <= x.2.1 /\ x.2.1 <= ls.length + 1 /\ x.1 <= x.2.1 /\ x.1 <= ls.length /\ Inv (iW ts ls (ls.length + 1 - x.2.1) x.1 x.2.1) x.2.2 /\ aCc nxt (iW ts ls (ls.length + 1 - x.2.1) x.1 x.2.1) x.2.2 = aCc nxt (bM ts ls) s0 /\ ∀ c ∈ iW ts ls (ls.length + 1 - x.2.1) x.1 x.2.1, c ∈ bM ts ls) (fun x => ls.length + 1 - x.2.1) (fun x => ([(0, .raw (.func (.yield l) #[] #[])), (1, .ptr k 0), (2, .ptr k' 0), (4, Ni (x.1 : Int)), (5, Ni (x.2.1 : Int))], Hx x.2.2)) 0 (0, 1, s0) ⟨A0 _, by simp only; omega, by simp, by simp, by simpa [bM] using hI0, by simp [bM], by simp [bM]⟩ [] ?_ ?_
 . refine (hF s0).told ?_
   simp only [go_sem, Int.natCast_zero]
   simp [hk, hk']
 rintro ⟨st, i, s⟩ ⟨hi0, hi1, hst, hst2, hIs, hrun, hmem⟩
 simp only at hi0 hi1 hst hst2 hIs hrun hmem ⊢
 refine sq fun k3 => sr rfl fun k4 => (Aa hb1) (k4 ((cdB) ?_ ?_)) <;> intro hc1
 . have hgt : ls.length < i := by simp at hc1; omega
   rw [show ls.length + 1 - i = 0 by omega] at hrun
   refine we ((jt) ?_)
   rw [<- hrun]; exact (hF s).final rfl trivial
 have hle : i <= ls.length := by simpa using hc1
 have hw1 := wr ((i : Int) - 1) ((i : Int) - 1) og
 have hpn : ((i : Int) - 1).toNat = i - 1 := by omega
 have hpv : ls[i - 1]? = some (bT ls i) := by unfold bT; rw [A1 og]; rfl
 have hff : ls.length + 1 - i = (ls.length - i) + 1 := by omega
 rw [hff] at hIs hrun hmem
 unfold iW at hIs hrun hmem
 have hfe : ls.length + 1 - (i + 1) = ls.length - i := by omega
 refine wk (k3 (sq fun k5 => wb (sq fun k6 => ?_)))
 by_cases hlt : i < ls.length
 . have hlx := eL hlt
   have hdt : decide ((i : Int) < (ls.length : Int)) = true := by simp; omega
   refine sd mixed rfl fun k7 => ?_
   simp only [go_sem, hb1, hb2, hpv, hw1, hpn, hlx, enA]
   refine (jr) ?_
   refine tpg rfl rfl rfl rfl rfl rfl ⟨func216, rfl, rfl⟩ (fun hg => aQb (bT ls i) (gA ls i) ts og) oG (fun hg => Ah) (by simp only [go_sem]; exact ⟨eS _ _, eS _ _⟩) trivial ?_
   refine (Ap hlx) ((jr) ((jy) (k7 ((cdA) ?_ ?_)))) <;> intro hc2
   . have hcc : (decide ((i : Int) < (ls.length : Int)) && !aKn ts ls i) = true := by simpa [aKn] using hc2
     rw [if_pos hcc] at hIs hrun hmem
     refine we ((jt) (k5 ((jw (wiS i og)) ?_)))
     simp only [lQ]
     refine ⟨(st, i + 1, s), ⟨by simp only; omega, by simp only; omega, by simp only; omega, hst2, by simp only [hfe]; exact hIs, by simp only [hfe]; exact hrun, by simp only [hfe]; exact hmem⟩, by simp only; omega, [], ?_⟩
     refine (hF _).told ?_
     refine (ja) ?_
     simp [hk, hk']
   have hcc : ¬ (decide ((i : Int) < (ls.length : Int)) && !aKn ts ls i) = true := by simpa [aKn] using hc2
   rw [if_neg hcc] at hIs hrun hmem
   obtain ⟨hy1, hy2⟩ := hy s _ _ hIs (hmem _ A5)
   refine wk (k6 (sq fun k8 => sr rfl fun k9 => ?_))
   simp only [go_sem, hb1, <- D0, <- E5, Int.toNat_natCast]
   refine (jr) ?_
   refine vC (fun hN => aHh rfl rfl rfl rfl hN hy1 rfl ⟨enB _ _, trivial⟩ (Far.fit (hF s) (hkk _ _))) (.inl rfl) ?_
   refine (ja) ((jr) (k9 ((cdA) ?_ ?_))) <;> intro hc3
   . have hn : (nxt s ((ls.take i).drop st)).2 = false := by simpa using hc3
     rw [aCc, hn] at hrun
     simp only [B9, if_false] at hrun
     refine wR ((Ad) ?_)
     rw [<- hrun]; exact (hF _).over.final rfl trivial
   have hn : (nxt s ((ls.take i).drop st)).2 = true := by simpa using hc3
   rw [aCc, hn] at hrun
   simp only [if_true] at hrun
   refine wk (k8 (wg rfl ((ja) ((jt) (k5 ((jw (wiS i og)) ?_))))))
   simp only [lQ]
   refine ⟨(i, i + 1, (nxt s ((ls.take i).drop st)).1), ⟨by simp only; omega, by simp only; omega, by simp only; omega, hle, by simp only [hfe]; exact hy2 hn, by simp only [hfe]; exact hrun, by simp only [hfe]; exact fun c hc => hmem c (A4 _ hc)⟩, by simp only; omega, [], ?_⟩
   refine (hF _).over.told ?_
   refine (ja) ?_
   simp [hk, hk']
 have hie : i = ls.length := by omega
 have hdf : decide ((i : Int) < (ls.length : Int)) = false := by simp; omega
 have hnn : ls[i]? = none := D6 og
 refine sd mixed rfl fun k7 => ?_
 simp only [go_sem, hb1, hb2, hpv, hw1, hpn, hdf, hnn, enA]
 refine (jr) ?_
 refine aM (fun hN => bD (rt := []) (rd := []) (val := enA iG) hN rfl rfl rfl rfl trivial (fun hg => absurd hg oS) (by exact eS _ _)) (.inl rfl) ?_
 simp only [go_sem, enA, hb1, hb2, hpv, hw1, hpn, hdf, hnn, enA]
 refine (jr) ?_
 refine aM (fun hN => bD (rt := []) (rd := []) (val := Nb false) hN rfl rfl rfl rfl trivial (fun hg => absurd hg oS) (by trivial)) (.inl rfl) ?_
 simp only [go_sem, hb1, hb2, hpv, hw1, hpn, hdf, hnn, enA]
 refine (jr) ((jy) (k7 ((cdA) ?_ ?_))) <;> intro hc4
 . exfalso
   simp [hdf] at hc4
 have hcc : ¬ (decide ((i : Int) < (ls.length : Int)) && !aKn ts ls i) = true := by rw [hdf]; simp
 rw [if_neg hcc] at hIs hrun hmem
 obtain ⟨hy1, hy2⟩ := hy s _ _ hIs (hmem _ A5)
 refine wk (k6 (sq fun k10 => sr rfl fun k11 => ?_))
 simp only [go_sem, hb1, <- D0, <- E5, Int.toNat_natCast]
 refine (jr) ?_
 refine vC (fun hN => aHh rfl rfl rfl rfl hN hy1 rfl ⟨enB _ _, trivial⟩ (Far.fit (hF s) (hkk _ _))) (.inl rfl) ?_
 refine (ja) ((jr) (k11 ((cdA) ?_ ?_))) <;> intro hc5
 . have hn : (nxt s ((ls.take i).drop st)).2 = false := by simpa using hc5
   rw [aCc, hn] at hrun
   simp only [B9, if_false] at hrun
   refine wR ((Ad) ?_)
   rw [<- hrun]; exact (hF _).over.final rfl trivial
 have hn : (nxt s ((ls.take i).drop st)).2 = true := by simpa using hc5
 rw [aCc, hn] at hrun
 simp only [if_true] at hrun
 refine wk (k10 (wg rfl ((ja) ((jt) (k5 ((jw (wiS i og)) ?_))))))
 simp only [lQ]
 refine ⟨(i, i + 1, (nxt s ((ls.take i).drop st)).1), ⟨by simp only; omega, by simp only; omega, by simp only; omega, hle, by simp only [hfe]; exact hy2 hn, by simp only [hfe]; exact hrun, by simp only [hfe]; exact fun c hc => hmem c (A4 _ hc)⟩, by simp only; omega, [], ?_⟩
 refine (hF _).over.told ?_
 refine (ja) ?_
 simp [hk, hk']
def bCh (ls : List Entry) (ts : List Int) (hlen : ls.length <= 1048576) (hts : ts.length <= 1048576) (k k' : Nat) (hk : 1000 <= k) (hk' : 1000 <= k') :
    bRr P 215 [.ptr k 0, .ptr k' 0] [(k, .cells 33 [.sl 5 (ls.map enA)]), (k', .cells 24 [.sl 1 (ts.map inA)])] (fun c : List Entry => [.sl 5 (c.map enA)]) (bM ts ls) := by
  intro S Hx Inv nxt l s0 hCH hfar hnd hkk hy hI0
  have hF : ∀ s, Far (Hx s) (Hx s) := fun s => ⟨fun q hq => (hfar s q hq).1, fun q hq => (hfar s q hq).2, hnd s⟩
  exact aCi ls ts hlen hts Hx Inv nxt l s0 k k' hk hk' (fun s => (hCH s).1) (fun s => (hCH s).2.1) hF hkk hy hI0
def aFp (ls : List Entry) (ts : List Int) : aH P 194 [.sl 5 (ls.map enA), .sl 1 (ts.map inA)] [] 0 (.fn (.func 215) [] [.ptr 0 0, .ptr 1 0]) [(0, .cells 33 [.sl 5 (ls.map enA)]), (1, .cells 24 [.sl 1 (ts.map inA)])] 2 := by
  refine (gq 6 [.tmp 4] func194) ((aj) ((aj) (wR ?_)))
  refine ⟨[], ?_⟩; exact jz
end Go.Proofs.S
end
section
open Go Go.Abs Go.Proofs Go.Proofs.Tryz
open Go.Shelf Go.RowKit Go.Lib
namespace Go.Proofs.S
def bRu : P.info? 65 = some Tryz.t65 := kr
def bSe : P.info? 109 = some Tryz.t109 := kr
def aXw {ρ : Ren} (L : Lays8.n4 P ρ) {i0 : TypeInfo} {z : Value} (hi0 : P.info? (ρ.t 25) = some i0) (hz0 : i0.zero = some z) (hs0 : 0 < i0.size) (hzs : z.cells.size = i0.size) (n : Nat) (hbig : n * i0.bytes <= 140737488355328) (h63 : n <= 4611686018427387904) :
    aH P (ρ.f 4) [.raw (.slice none 0 0), .raw (.int .i64 (n : Int))] [] 0 (.ref 0) [(0, .row (ρ.t 25) i0.size [])] 1 := by
  refine aTh fun C w vals hR hv => ?_
  have hvals : vals = #[.slice none 0 0, .int .i64 (n : Int)] := by
    obtain ⟨h1, h2⟩ := hv
    match vals, h1 with
    | ⟨[a, b]⟩, _ =>
      have e0 := h2 0 _ rfl
      have e1 := h2 1 _ rfl
      generalize h0 : (#[a, b] : Array Value).getD 0 undef = u at e0
      generalize h0' : (#[a, b] : Array Value).getD 1 undef = u' at e1
      cases e0; cases e1
      have ha : a = .slice none 0 0 := h0
      have hb : b = .int .i64 (n : Int) := h0'
      rw [ha, hb]
  rw [hvals]
  rcases Nat.eq_zero_or_pos n with h0 | h0
  . subst h0
    refine (Any8.slices_Grow_room L none 0 0 0 w (A0 _) og og og).mono fun e w' ⟨he, hw⟩ => ?_
    subst hw
    exact ⟨_, [], he, rfl, Below.refl _ _, by simp, D8, fun ρ av => .own0 _ _⟩
  refine (Any8.slices_Grow_grow L i0 z hi0 hz0 hs0 none 0 0 n [] w (A0 _) og (by rw [C5]; exact hbig) og oS (fun _ => rfl) (fun a h => by cases h)).mono fun e w' ⟨he, hw⟩ => ?_
  have hge := grownCap_ge w (0 + n) 0 (ρ.t 25)
  have hcm : grownCap w (0 + n) 0 (ρ.t 25) <= maxLen := grownCap_le_maxLen w (0 + n) 0 (ρ.t 25) (by simp only [maxLen]; omega)
  subst hw
  refine ⟨_, [w.heap.size], he, rfl, ⟨rfl, rfl, rfl, by simp, fun k hk => heap_alloc_old w.drew _ hk⟩, by simp, D4.2 ⟨by simp, D8⟩, fun ρ' av => ?_⟩
  have := RepO.own (ρ := ρ') (av := av) (hp := (w.drew.alloc (.cells ((#[] : Array Value) ++ Builtin.zeroCells z.cells (0 + n - 0) ++ Builtin.zeroCells z.cells (grownCap w (0 + n) 0 (ρ.t 25) - (0 + n))) (ρ.t 25))).heap) (ρ.t 25) i0.size [] w.heap.size (grownCap w (0 + n) 0 (ρ.t 25)) _ (fun _ => undef) (fun _ => []) (heap_alloc_new w.drew _) (by
      simp only [Array.size_append, List.size_toArray, size_zeroCells, hzs, List.length_nil, Array.size_empty]
      have e1 : (0 + n - 0) + (grownCap w (0 + n) 0 (ρ.t 25) - (0 + n)) = grownCap w (0 + n) 0 (ρ.t 25) := by omega
      have e2 := congrArg (· * i0.size) e1
      simp only [Nat.add_mul (0 + n - 0)] at e2
      omega) (A6 _) hcm (fun j x hj => by simp at hj) (fun j hj => absurd hj (I0 _))
  exact this
def bPh (n : Nat) (hn : n <= 1048576) : aH P 218 [.raw (.slice none 0 0), Ni (n : Int)] [] 0 (.ref 0) [(0, .row 65 5 [])] 1 :=
  aXw Tryz.growE (i0 := Tryz.t65) bRu rfl dg rfl n (show n * 56 <= _ by omega) og
def bPi (n : Nat) (hn : n <= 1048576) : aH P 145 [.raw (.slice none 0 0), Ni (n : Int)] [] 0 (.ref 0) [(0, .row 109 2 [])] 1 :=
  aXw Tryz.growR (i0 := Tryz.t109) bSe rfl dg rfl n (show n * 32 <= _ by omega) og
def aAc {α : Type} {cs : List (List α)} {i : Nat} {l : List α} (h : cs[i]? = some l) : (cs.take (i + 1)).flatten = (cs.take i).flatten ++ l := by
  rw [E7, h]; simp
def tL {α : Type} (cs : List (List α)) (i : Nat) : (cs.take i).flatten.length <= cs.flatten.length := by
  have h := congrArg (fun z => z.flatten.length) (List.take_append_drop i cs)
  simp only [List.flatten_append, A3] at h
  omega
def bGu (cs : List (List Entry)) (h1 : cs.length <= 1048576) (h2 : cs.flatten.length <= 1048576) : aB P 196 [.sl 1 (cs.map esA)] [] 0 (.sl 5 (cs.flatten.map enA)) := by
 refine (pq 36 [.tmp 2] func196) ?_
 have hmx := mxl
 refine (aj) ((aj) ?_)
 refine sq fun k3 => (aj) (wb ?_)
 refine wn cs.length (fun x => ([(0, .sl 1 (cs.map esA)), (3, Ni (((cs.take x).flatten.length : Int) : Int)), (9, .sl 1 (cs.map esA)), (10, Ni (cs.length : Int)), (11, Ni (x : Int))], [])) 0 [] ?_ ?_
 . exact jc
 rintro i hi
 refine (aj) ?_
 refine sq fun k6 => (cdA) ?_ ?_ <;> intro hc1
 . obtain ⟨hlt, l, hlx, hdrop, hml⟩ := ixc hc1
   have hft := aAc hlx
   have hfl1 := tL cs i
   have hfl2 := tL cs (i + 1)
   have hfl3 : (cs.take (i + 1)).flatten.length = (cs.take i).flatten.length + l.length := by rw [hft, A3]
   have hws := wr ((((cs.take i).flatten.length : Nat) : Int) + (l.length : Int)) ((((cs.take i).flatten.length + l.length : Nat) : Int)) og
   refine wk (k6 (sq fun k7 => wb (sr rfl fun k8 => (Ay hlx) ((jr) (k8 (sr rfl fun k9 => (Ay hws) (k9 ((aj) ((cdA) ?_ ?_))))))))) <;> intro hc2
   . exfalso; simp at hc2; omega
   refine wk ((jt) (k7 ((jw (wiS i og)) ((jt) ?_))))
   refine ⟨i + 1, og, og, [], ?_⟩
   rw [hfl3]; exact jo
 have hge := gec hc1
 have hie : i = cs.length := by omega
 subst hie; rw [C6]
 refine we ((jt) (k3 (sr rfl fun k11 => (ja) ?_)))
 refine vn 1 rfl rfl rfl ⟨func218, rfl, rfl⟩ (bPh cs.flatten.length h2) oG oG oS dg ?_
 refine (jn) (k11 (sq fun k12 => (aj) (wb ?_)))
 refine wn cs.length (fun x => ([(6, .ref 0), (25, .sl 1 (cs.map esA)), (26, Ni (cs.length : Int)), (27, Ni (x : Int))], [(0, .row 65 5 ((cs.take x).flatten.map enA))])) 1 [] ?_ ?_
 . exact Dw
 rintro i hi
 refine (aj) ?_
 refine sq fun k15 => (cdB) ?_ ?_ <;> intro hc3
 . have hge := gec hc3
   have hie : i = cs.length := by omega
   subst hie; rw [C6]
   refine we ((jt) (k12 ((aj) ?_)))
   refine aFz 0 rfl ?_
   refine (Ag) (wR ?_)
   refine fO ?_ (enB _ _)
   exact Aj
 obtain ⟨hlt, l, hlx, hdrop, hml⟩ := ixc hc3
 have hft := aAc hlx
 have hfl1 := tL cs i
 have hfl2 := tL cs (i + 1)
 have hfl3 : (cs.take (i + 1)).flatten.length = (cs.take i).flatten.length + l.length := by rw [hft, A3]
 refine wk (k15 (sq fun k16 => wb (sr rfl fun k17 => (Ay hlx) ((jr) (k17 (wg rfl ((At) ((jr) ((jt) (k16 ((jw (wiS i og)) ?_)))))))))))
 refine (jt) ?_
 refine ⟨i + 1, og, og, [(0, 1)], ?_⟩
 simp only [go_sem, AObj.bel, AObj.ren, AV.ren, aA, sg] <;> simp [hft]
def aGy (cs : List (List Run)) (h1 : cs.length <= 1048576) (h2 : cs.flatten.length <= 1048576) : aB P 91 [.sl 1 (cs.map rsA)] [] 0 (.sl 2 (cs.flatten.map rA)) := by
 refine (pq 36 [.tmp 2] func91) ?_
 have hmx := mxl
 refine (aj) ((aj) ?_)
 refine sq fun k3 => (aj) (wb ?_)
 refine wn cs.length (fun x => ([(0, .sl 1 (cs.map rsA)), (3, Ni (((cs.take x).flatten.length : Int) : Int)), (9, .sl 1 (cs.map rsA)), (10, Ni (cs.length : Int)), (11, Ni (x : Int))], [])) 0 [] ?_ ?_
 . exact jc
 rintro i hi
 refine (aj) ?_
 refine sq fun k6 => (cdA) ?_ ?_ <;> intro hc1
 . obtain ⟨hlt, l, hlx, hdrop, hml⟩ := ixc hc1
   have hft := aAc hlx
   have hfl1 := tL cs i
   have hfl2 := tL cs (i + 1)
   have hfl3 : (cs.take (i + 1)).flatten.length = (cs.take i).flatten.length + l.length := by rw [hft, A3]
   have hws := wr ((((cs.take i).flatten.length : Nat) : Int) + (l.length : Int)) ((((cs.take i).flatten.length + l.length : Nat) : Int)) og
   refine wk (k6 (sq fun k7 => wb (sr rfl fun k8 => (As hlx) ((jr) (k8 (sr rfl fun k9 => (As hws) (k9 ((aj) ((cdA) ?_ ?_))))))))) <;> intro hc2
   . exfalso; simp at hc2; omega
   refine wk ((jt) (k7 ((jw (wiS i og)) ((jt) ?_))))
   refine ⟨i + 1, og, og, [], ?_⟩
   rw [hfl3]; exact jo
 have hge := gec hc1
 have hie : i = cs.length := by omega
 subst hie; rw [C6]
 refine we ((jt) (k3 (sr rfl fun k11 => (ja) ?_)))
 refine vn 1 rfl rfl rfl ⟨func145, rfl, rfl⟩ (bPi cs.flatten.length h2) oG oG oS dg ?_
 refine (jn) (k11 (sq fun k12 => (aj) (wb ?_)))
 refine wn cs.length (fun x => ([(6, .ref 0), (25, .sl 1 (cs.map rsA)), (26, Ni (cs.length : Int)), (27, Ni (x : Int))], [(0, .row 109 2 ((cs.take x).flatten.map rA))])) 1 [] ?_ ?_
 . exact Dw
 rintro i hi
 refine (aj) ?_
 refine sq fun k15 => (cdB) ?_ ?_ <;> intro hc3
 . have hge := gec hc3
   have hie : i = cs.length := by omega
   subst hie; rw [C6]
   refine we ((jt) (k12 ((aj) ?_)))
   refine aFz 0 rfl ?_
   refine (Ag) (wR ?_)
   refine fO ?_ (bX _ _)
   exact Aj
 obtain ⟨hlt, l, hlx, hdrop, hml⟩ := ixc hc3
 have hft := aAc hlx
 have hfl1 := tL cs i
 have hfl2 := tL cs (i + 1)
 have hfl3 : (cs.take (i + 1)).flatten.length = (cs.take i).flatten.length + l.length := by rw [hft, A3]
 refine wk (k15 (sq fun k16 => wb (sr rfl fun k17 => (As hlx) ((jr) (k17 (wg rfl ((At) ((jr) ((jt) (k16 ((jw (wiS i og)) ?_)))))))))))
 refine (jt) ?_
 refine ⟨i + 1, og, og, [(0, 1)], ?_⟩
 simp only [go_sem, AObj.bel, AObj.ren, AV.ren, aA, sg] <;> simp [hft]
end Go.Proofs.S
end
section
open Go Go.Abs Go.Proofs Go.Proofs.Tryz
namespace Go.Proofs.S
section
variable {c ls : List Entry} {b : Bool} {i : Nat}
def lfL (f : List Entry -> Bool -> List Entry) : List (List Entry) -> Bool -> List (List Entry) × Bool
  | [], b => ([], b)
  | c :: r, b => (f c (lfL f r b).2 :: (lfL f r b).1, (lfL f r b).2 && decide (((f c (lfL f r b).2).length : Int) = 0))
def sqK (ts : List Int) (ls : List Entry) (bottom : Bool) : List Entry := (lfL sqC (bM ts ls) bottom).1.flatten
def bEl (f : List Entry -> Bool -> List Entry) (b : Bool) : ∀ cs, (lfL f cs b).1.length = cs.length
  | [] => rfl
  | c :: r => by simp only [lfL, B7, bEl f b r]
def aGl (ts : List Int) (ls : List Entry) : ∀ f s i, f + i = ls.length + 1 -> s <= i -> (iW ts ls f s i).flatten.length <= ls.length - s
  | 0, s, i, h, hs => by simp [iW]
  | f + 1, s, i, h, hs => by
    unfold iW; split
    . have := aGl ts ls f s (i + 1) og og
      omega
    have := aGl ts ls f i (i + 1) og og
    simp only [List.flatten_cons, A3, B0, A7]; omega
def aGm (ts : List Int) (ls : List Entry) : ∀ f s i, f + i = ls.length + 1 -> s < i -> ∀ c ∈ iW ts ls f s i, c ≠ [] /\ c.length <= ls.length /\ ∀ e ∈ c, e ∈ ls
  | 0, s, i, h, hs => by simp [iW]
  | f + 1, s, i, h, hs => by
    intro c hc; unfold iW at hc; split at hc
    . exact aGm ts ls f s (i + 1) og og c hc
    rcases B1.1 hc with rfl | hc
    . refine ⟨fun e => ?_, by simp only [B0, A7]; omega, fun e he => D2 (D1 he)⟩
      have := congrArg List.length e
      simp only [B0, A7, List.length_nil] at this
      omega
    exact aGm ts ls f i (i + 1) og og c hc
def gN {ts : List Int} (h : c ∈ bM ts ls) : c ≠ [] /\ c.length <= ls.length /\ ∀ e ∈ c, e ∈ ls := aGm ts ls ls.length 0 1 rfl og c h
def aFr {ts : List Int} (hz : vK ls) (h : c ∈ bM ts ls) : vK c := ⟨by have := (gN h).2.1; have := hz.1; omega, fun e he => hz.2 e ((gN h).2.2 e he)⟩
def bDw {α : Type} : ∀ {cs : List (List α)}, (∀ c ∈ cs, c ≠ []) -> cs.length <= cs.flatten.length
  | [], _ => by simp
  | c :: r, h => by
    have h1 := bDw (cs := r) fun x hx => h x (A4 _ hx)
    have h2 := E8.2 (h c A5)
    simp only [B7, List.flatten_cons, A3]; omega
def mI {ts : List Int} : (bM ts ls).length <= ls.length /\ (bM ts ls).flatten.length <= ls.length := by
  have h1 := aGl ts ls ls.length 0 1 rfl og
  have h2 := bDw (cs := bM ts ls) fun c hc => (gN hc).1
  have h1' : (bM ts ls).flatten.length <= ls.length - 0 := h1
  omega
def bOm (ls : List Entry) (b : Bool) (h : ls ≠ []) : (sqC ls b).length <= ls.length := by
  have hp := E8.2 h
  unfold sqC
  repeat' split
  all_goals first | omega | (simp only [List.length_nil, B7]; omega)
def bAc (b : Bool) : ∀ {cs : List (List Entry)}, (∀ c ∈ cs, c ≠ []) -> (lfL sqC cs b).1.flatten.length <= cs.flatten.length
  | [], _ => by simp [lfL]
  | c :: r, h => by
    have h1 := bAc b (cs := r) fun x hx => h x (A4 _ hx)
    have h2 := bOm c (lfL sqC r b).2 (h c A5)
    simp only [lfL, List.flatten_cons, A3]; omega
def aTk (ts : List Int) (ls : List Entry) (b : Bool) : (sqK ts ls b).length <= ls.length := by
  have h1 := bAc b (cs := bM ts ls) fun c hc => (gN hc).1
  have h2 := (mI (ts := ts) (ls := ls)).2
  unfold sqK; omega
def gU (cs : List (List Entry)) (b : Bool) (j : Nat) : List (List Entry) := cs.take j ++ (lfL sqC (cs.drop j) b).1
def rC (cs : List (List Entry)) (b : Bool) (j : Nat) : Bool := (lfL sqC (cs.drop j) b).2
def yQ {cs : List (List Entry)} {j : Nat} (h : j <= cs.length) : (gU cs b j).length = cs.length := by
  unfold gU; rw [A3, bEl, A7, B0]; omega
def aXr {cs : List (List Entry)} (h : cs[i]? = some c) : (gU cs b (i + 1))[i]? = some c := by
  have hlt := (A9.1 h).1
  unfold gU; rw [G9 (by rw [A7]; omega), F9]; simp [h]
def aWm {cs : List (List Entry)} (h : cs[i]? = some c) : (gU cs b (i + 1)).set i (sqC c (rC cs b (i + 1))) = gU cs b i := by
  have hlt := (A9.1 h).1
  have h1 : cs.drop i = c :: cs.drop (i + 1) := rV h
  have h2 : cs.take (i + 1) = cs.take i ++ [c] := by rw [E7, h]; rfl
  unfold gU rC
  rw [h1, h2, F6, List.set_append_right _ _ (by rw [A7]; omega)]
  simp only [A7, Nat.min_eq_left (Nat.le_of_lt hlt), Nat.sub_self, List.cons_append, List.nil_append, List.set_cons_zero, lfL]
def bFs {cs : List (List Entry)} (h : cs[i]? = some c) : rC cs b i = (rC cs b (i + 1) && decide (((sqC c (rC cs b (i + 1))).length : Int) = 0)) := by
  unfold rC; rw [rV h]; rfl
def aYn {α : Type} : ∀ (xs s : List α), aCc (fun s c => (s ++ [c], true)) xs s = s ++ xs
  | [], s => by simp [aCc]
  | x :: r, s => by rw [aCc]; simp only [if_true]; rw [aYn r]; simp
def uZ (ts : List Int) (ls : List Entry) (bottom : Bool) (hz : vK ls) (hts : ts.length <= 1048576) : aB P 147 [.sl 5 (ls.map enA), .sl 1 (ts.map inA), Nb bottom] [] 0 (.sl 5 ((sqK ts ls bottom).map enA)) := by
 refine (pq 47 [.tmp 6] func147) ?_
 have hmx := mxl
 have hcc := mI (ts := ts) (ls := ls)
 have hlen := hz.1
 refine (aj) ((aj) ?_)
 refine sq fun k3 => sr rfl fun k4 => (ja) ?_
 refine vn 2 rfl rfl rfl ⟨func194, rfl, rfl⟩ (aFp ls ts) oG oG oS dg ?_
 refine (jn) (k4 (wb ?_))
 refine aWn (i := 0) (q := 7) 33 1 rfl rfl dg ?_
 refine (ja) ?_
 refine aOy (S := List (List Entry)) (cap := [.ptr 1 0, .ptr 2 0]) (CH := [(1001, .cells 33 [.sl 5 (ls.map enA)]), (1002, .cells 24 [.sl 1 (ts.map inA)])]) (enc := fun c : List Entry => [.sl 5 (c.map enA)]) (xs := bM ts ls) (fn := Tryz.f215)
   (fun s => [(3, .row 121 1 [.own 33 1 (s.map esA)]), (1, .cells 33 [.sl 5 (ls.map enA)]), (2, .cells 24 [.sl 1 (ts.map inA)])]) [(7, .ep 3 1 0 0)] (fun r s => s ++ r = bM ts ls) (fun _ => none) (fun s c => (s ++ [c], true)) []
   dg rfl ⟨func215, rfl, rfl⟩ ⟨(by simp [AV.bel]), (by simp [AV.bel]), trivial⟩ (bCh ls ts hz.1 hts 1001 1002 dg dg) (fun x _ => ⟨rfl, enB _ _, trivial⟩) dg ?_ ?_ ?_ ?_ ?_ ?_ rfl (fun _ _ _ => rfl) ?_ ?_
 . simp [Abs.get, AV.bel]
 . simp only [go_sem, List.map_nil]
 . intro s q hq
   simp only [B1, List.not_mem_nil, or_false] at hq
   rcases hq with rfl | rfl | rfl <;> simp [AObj.bel, aE, AV.bel, enB, bZ, pJ]
 . intro s; simp
 . intro s s'; rfl
 . intro s; simp only [go_sem, AObj.ren, AV.ren, aA]
 . intro s x r l hi hx
   have hsl : s.length <= 1048576 := by
     have h8 := congrArg List.length hi
     have h9 := (mI (ts := ts) (ls := ls)).1
     simp only [A3] at h8
     omega
   refine ⟨?_, rfl, fun _ => by rw [<- hi]; simp⟩
   refine (ja) ?_
   refine wg rfl ((ja) (wb ?_))
   refine aCw (i := 3) (j := 0) og rfl rfl ?_
   refine (ja) ?_
   refine wg rfl ((At) ((jr) ?_))
   simp [esA]
 rw [aYn]; simp only [go_sem, List.nil_append]
 refine (jt) (k3 ((aj) ?_))
 refine sq fun k6 => ?_
 have hw0 := wr (((bM ts ls).length : Int) - 1) (((bM ts ls).length : Int) - 1) og
 refine aCw (i := 3) (j := 0) og rfl rfl ?_
 refine (ja) ?_
 refine sr rfl fun k7 => ?_
 simp only [go_sem, A2, hw0]
 refine k7 (wb ?_)
 refine wl (α := Nat) (fun x => x <= (bM ts ls).length) (fun x => x) (fun x => ([(7, .ep 0 1 0 0), (9, Nb (rC (bM ts ls) bottom x)), (10, Ni ((x : Int) - 1))], [(0, .row 121 1 [.ref 1]), (1, .row 33 1 ((gU (bM ts ls) bottom x).map esA))])) 2 (bM ts ls).length (A0 _) [(0, 3), (1, 5)] ?_ ?_
 . have h8 : gU (bM ts ls) bottom (bM ts ls).length = (bM ts ls) := by simp [gU, lfL]
   have h9 : rC (bM ts ls) bottom (bM ts ls).length = bottom := by simp [rC, lfL]
   rw [h8, h9]; exact jz
 rintro j hj
 refine sq fun k8 => (aj) ((cdB) ?_ ?_) <;> intro hc1
 . have hj0 : j = 0 := by simp at hc1; omega
   subst hj0
   refine we ((jt) (k6 (sr rfl fun k12 => (ja) ?_)))
   refine dL 1 rfl ?_
   refine (Ag) ((vq func196 (bGu (gU (bM ts ls) bottom 0) (by rw [yQ (A6 _)]; omega) (by have := aTk ts ls bottom; unfold gU; simpa [sqK] using (show (sqK ts ls bottom).length <= 1048576 by omega)))) (k12 (wR ?_)))
   refine fO ?_ (enB _ _)
   simp only [go_sem, sqK, gU, List.take_zero, List.nil_append, List.drop_zero]
 have hj0 : 0 < j := by simp at hc1; omega
 obtain ⟨i, rfl⟩ : ∃ i, j = i + 1 := ⟨j - 1, og⟩
 have hci : (((i + 1 : Nat) : Int) - 1) = (i : Int) := by omega
 obtain ⟨c, hcx, _, hcm⟩ := ix (xs := bM ts ls) (i := i) og
 have hpg := aXr (b := bottom) hcx
 have hpl := yQ (b := bottom) (cs := bM ts ls) (j := i + 1) hj
 have hps := aWm (b := bottom) hcx
 have hbs := bFs (b := bottom) hcx
 rw [hci]
 refine wk (k8 (sq fun k10 => wb (sd mixed rfl fun k11 => ?_)))
 simp only [go_sem, hpl, hpg, esA, A2]
 refine (jr) ?_
 refine tp rfl rfl rfl ⟨func195, rfl, rfl⟩ (aBz c (rC (bM ts ls) bottom (i + 1)) (aFr hz hcm) (gN hcm).1) Ah Ah ?_
 refine (Ar hpl hpg) ((jr) ((jy) (k11 ?_)))
 have hps2 : ((gU (bM ts ls) bottom (i + 1)).map esA).set i (.sl 5 ((sqC c (rC (bM ts ls) bottom (i + 1))).map enA)) = (gU (bM ts ls) bottom i).map esA := by rw [<- hps, List.map_set]; rfl
 have hpl2 := yQ (b := bottom) (cs := bM ts ls) (j := i) og
 have hpg2 : (gU (bM ts ls) bottom i)[i]? = some (sqC c (rC (bM ts ls) bottom (i + 1))) := by rw [<- hps, List.getElem?_set_self og]
 rw [hps2]; refine wg rfl ?_; simp only [go_sem, A2, hpl2, hpg2, esA]
 refine (jr) ((jt) (k10 ?_))
 have hw := wr ((i : Int) - 1) ((i : Int) - 1) og
 refine wg rfl ((Aa hw) ((jt) ?_))
 refine ⟨i, og, og, [], ?_⟩
 rw [hbs]; exact jz
end
end Go.Proofs.S
end
section
open Go Go.Abs Go.Proofs Go.Proofs.Tryz
open Go.RowKit
namespace Go.Proofs.S
section
variable {v : Value} {ρ : Nat -> Value} {av : Nat -> Prop} {hp : Array Obj}
def bEw (w : World) (o o' : Obj) : ((w.alloc o).alloc o').heap[w.heap.size + 1]? = some o' /\ ((w.alloc o).alloc o').heap[w.heap.size]? = some o /\ (∀ k, k < w.heap.size -> ((w.alloc o).alloc o').heap[k]? = w.heap[k]?) /\ ((w.alloc o).alloc o').heap.size = w.heap.size + 2 /\
    ((w.alloc o).alloc o').os = w.os /\ ((w.alloc o).alloc o').tape = w.tape /\ ((w.alloc o).alloc o').output = w.output := by
  have e : (w.alloc o).heap.size = w.heap.size + 1 := by show (w.heap.push o).size = _; rw [Array.size_push]
  refine ⟨?_, ?_, fun k hk => ?_, by show ((w.alloc o).heap.push o').size = _; rw [Array.size_push, e], rfl, rfl, rfl⟩
  . have := heap_alloc_new (w.alloc o) o'; rwa [e] at this
  . have := heap_alloc_old (w.alloc o) o' (r := w.heap.size) og
    rw [this]; exact heap_alloc_new w o
  rw [heap_alloc_old (w.alloc o) o' (r := k) og, heap_alloc_old w o hk]
def bJe {w w1 : World} (h : ∀ k, k < w.heap.size -> w1.heap[k]? = w.heap[k]?) {a : Addr} (hc : w.cell? a = some v) : w1.cell? a = some v := by
  have hb : a.block < w.heap.size := by
    unfold World.cell? at hc
    split at hc
    . rename_i hh; exact (Array.getElem?_eq_some_iff.1 hh).1
    cases hc
  unfold World.cell? at hc ⊢
  rw [h _ hb]; exact hc
def bFf (w : World) (a : Addr) (c : Nat) (p0 p1 p2 : Option Addr) (l0 l1 l2 k0 k1 k2 : Nat) (hsrc : ∀ j v, [(.slice p0 l0 k0 : Value), (.slice p1 l1 k1 : Value), (.slice p2 l2 k2 : Value)][j]? = some v -> w.cell? (a.add j) = some v) : Calls P 85 #[.slice (some a) 3 c] w fun e w' => e = .returned (.agg #[(.slice p0 l0 k0 : Value), (.slice p1 l1 k1 : Value), (.slice p2 l2 k2 : Value)]) /\ Below w.heap.size w w' := by
  obtain ⟨n1, n2, n3, n4, n5, n6, n7⟩ := bEw w (Obj.cells #[Value.slice none 0 0, Value.slice none 0 0, Value.slice none 0 0] 112) (Obj.cells #[Value.slice none 0 0, Value.slice none 0 0, Value.slice none 0 0] 112)
  go_enter func85, Tryz.ntmps85
  go_wp2
  generalize hw1 : (w.alloc (Obj.cells #[Value.slice none 0 0, Value.slice none 0 0, Value.slice none 0 0] 112)).alloc (Obj.cells #[Value.slice none 0 0, Value.slice none 0 0, Value.slice none 0 0] 112) = w1 at n1 n2 n3 n4 n5 n6 n7 ⊢
  rw [run_copy_row P w1 34 34 3 107 (w.heap.size + 1) 0 3 3 a 3 c _ 112 [(.slice p0 l0 k0 : Value), (.slice p1 l1 k1 : Value), (.slice p2 l2 k2 : Value)] kr kr n1 rfl (fun j v hj => bJe n3 (hsrc j v hj)) oS (by simp [Value.oneCell'])]
  have hb1 := setRow_heap w1 (w.heap.size + 1) _ #[(.slice p0 l0 k0 : Value), (.slice p1 l1 k1 : Value), (.slice p2 l2 k2 : Value)] 112 (0, 0) n1
  have m2 := (setRow_other w1 (w.heap.size + 1) w.heap.size #[(.slice p0 l0 k0 : Value), (.slice p1 l1 k1 : Value), (.slice p2 l2 k2 : Value)] og).trans n2
  have m3 : ∀ k, k < w.heap.size -> (w1.setRow (w.heap.size + 1) #[(.slice p0 l0 k0 : Value), (.slice p1 l1 k1 : Value), (.slice p2 l2 k2 : Value)]).heap[k]? = w.heap[k]? := fun k hk => (setRow_other w1 (w.heap.size + 1) k #[(.slice p0 l0 k0 : Value), (.slice p1 l1 k1 : Value), (.slice p2 l2 k2 : Value)] og).trans (n3 k hk)
  have m4 : (w1.setRow (w.heap.size + 1) #[(.slice p0 l0 k0 : Value), (.slice p1 l1 k1 : Value), (.slice p2 l2 k2 : Value)]).heap.size = w.heap.size + 2 := by rw [<- n4]; simp [World.setRow]
  have m5 : (w1.setRow (w.heap.size + 1) #[(.slice p0 l0 k0 : Value), (.slice p1 l1 k1 : Value), (.slice p2 l2 k2 : Value)]).os = w.os := n5
  have m6 : (w1.setRow (w.heap.size + 1) #[(.slice p0 l0 k0 : Value), (.slice p1 l1 k1 : Value), (.slice p2 l2 k2 : Value)]).tape = w.tape := n6
  have m7 : (w1.setRow (w.heap.size + 1) #[(.slice p0 l0 k0 : Value), (.slice p1 l1 k1 : Value), (.slice p2 l2 k2 : Value)]).output = w.output := n7
  have hl : (#[].toList.take 0 ++ [(.slice p0 l0 k0 : Value), (.slice p1 l1 k1 : Value), (.slice p2 l2 k2 : Value)] ++ (#[Value.slice none 0 0, Value.slice none 0 0, Value.slice none 0 0] : Array Value).toList.drop (0 + [(.slice p0 l0 k0 : Value), (.slice p1 l1 k1 : Value), (.slice p2 l2 k2 : Value)].length)).toArray = #[(.slice p0 l0 k0 : Value), (.slice p1 l1 k1 : Value), (.slice p2 l2 k2 : Value)] := rfl
  rw [show ((#[Value.slice none 0 0, Value.slice none 0 0, Value.slice none 0 0] : Array Value).toList.take 0 ++ [(.slice p0 l0 k0 : Value), (.slice p1 l1 k1 : Value), (.slice p2 l2 k2 : Value)] ++ (#[Value.slice none 0 0, Value.slice none 0 0, Value.slice none 0 0] : Array Value).toList.drop (0 + [(.slice p0 l0 k0 : Value), (.slice p1 l1 k1 : Value), (.slice p2 l2 k2 : Value)].length)).toArray = #[(.slice p0 l0 k0 : Value), (.slice p1 l1 k1 : Value), (.slice p2 l2 k2 : Value)] from rfl]
  generalize w1.setRow (w.heap.size + 1) #[(.slice p0 l0 k0 : Value), (.slice p1 l1 k1 : Value), (.slice p2 l2 k2 : Value)] = w2 at hb1 m2 m3 m4 m5 m6 m7 ⊢
  have c0 : w2.cell? ⟨w.heap.size + 1, 0, none⟩ = some (.slice p0 l0 k0 : Value) := by simp [World.cell?, hb1]
  have c1 : w2.cell? ⟨w.heap.size + 1, 1, none⟩ = some (.slice p1 l1 k1 : Value) := by simp [World.cell?, hb1]
  have c2 : w2.cell? ⟨w.heap.size + 1, 2, none⟩ = some (.slice p2 l2 k2 : Value) := by simp [World.cell?, hb1]
  have d0 : w2.cell? ⟨w.heap.size, 0, none⟩ = some (.slice none 0 0) := by simp [World.cell?, m2]
  have d1 : w2.cell? ⟨w.heap.size, 1, none⟩ = some (.slice none 0 0) := by simp [World.cell?, m2]
  have d2 : w2.cell? ⟨w.heap.size, 2, none⟩ = some (.slice none 0 0) := by simp [World.cell?, m2]
  have f0 : w2.frozen? ⟨w.heap.size, 0, none⟩ = false := by simp [World.frozen?, m2]
  have f1 : w2.frozen? ⟨w.heap.size, 1, none⟩ = false := by simp [World.frozen?, m2]
  have f2 : w2.frozen? ⟨w.heap.size, 2, none⟩ = false := by simp [World.frozen?, m2]
  clear n1 n2 n3 n4 n5 n6 n7 hw1
  go_wp2
  have e1 := heap_setCell_same w2 w.heap.size 0 _ 112 (.slice p0 l0 k0) m2
  have e2 := heap_setCell_same (w2.setCell ⟨w.heap.size, 0, none⟩ (.slice p0 l0 k0)) w.heap.size 1 _ 112 (.slice p1 l1 k1) e1
  have e3 := heap_setCell_same ((w2.setCell ⟨w.heap.size, 0, none⟩ (.slice p0 l0 k0)).setCell ⟨w.heap.size, 1, none⟩ (.slice p1 l1 k1)) w.heap.size 2 _ 112 (.slice p2 l2 k2) e2
  refine bodyPost_ret (results_cell_row (ty := 112) rfl _ _ w.heap.size 112 _ (0, 0) (.array 3 107) rfl e3 kr rfl kr) rfl ⟨rfl, m5, m6, m7, by simp [m4], fun k hk => ?_⟩
  rw [heap_setCell_other _ _ _ _ (by simp; omega), heap_setCell_other _ _ _ _ (by simp; omega), heap_setCell_other _ _ _ _ (by simp; omega), m3 k hk]
def bMz (w : World) (p0 p1 p2 : Option Addr) (l0 l1 l2 k0 k1 k2 : Nat) : Calls P 94 #[.agg #[.slice p0 l0 k0, .slice p1 l1 k1, .slice p2 l2 k2]] w fun e w' => ∃ c cells, e = .returned (.slice (some ⟨w.heap.size + 1, 0, none⟩) 3 c) /\ 3 <= c /\ c <= maxLen /\ Below w.heap.size w w' /\
    w'.heap[w.heap.size + 1]? = some (.cells cells 107 (0, 0)) /\ cells[0]? = some (.slice p0 l0 k0) /\ cells[1]? = some (.slice p1 l1 k1) /\ cells[2]? = some (.slice p2 l2 k2) := by
  go_enter func94, Tryz.ntmps94
  go_wp2
  go_ret
  obtain ⟨n1, _, n3, n4, n5, n6, n7⟩ := bEw w (.cells #[.slice p0 l0 k0, .slice p1 l1 k1, .slice p2 l2 k2] 112) (.cells (#[.slice p0 l0 k0, .slice p1 l1 k1, .slice p2 l2 k2] ++ Builtin.zeroCells #[.slice none 0 0] ((Question.appendCap 3 0 107).cut (w.tape w.drawn (Question.appendCap 3 0 107)) - 3)) 107)
  refine ⟨_, _, rfl, grownCap_ge w 3 0 107, grownCap_le_maxLen w 3 0 107 dg, ⟨n5, n6, n7, ?_, fun k hk => n3 k hk⟩, n1, ?_, ?_, ?_⟩
  . show w.heap.size <= ((w.alloc _).alloc _).heap.size
    rw [n4]; omega
  . rw [Array.getElem?_append_left oS]; rfl
  . rw [Array.getElem?_append_left oS]; rfl
  rw [Array.getElem?_append_left oS]; rfl
def aQo {sz : Nat} {xs : List AV} (h : Rep ρ av hp (.sl sz xs) v) : ∃ p l c, v = .slice p l c := by
  cases h with
  | sl0 _ A c _ => exact ⟨A, 0, c, rfl⟩
  | sl _ _ b off c => exact ⟨_, _, _, rfl⟩
def bDb {x : AV} {vals : Array Value} (h : cZ ρ av hp [x] vals) : ∃ v, vals = #[v] /\ Rep ρ av hp x v := by
  obtain ⟨h1, h2⟩ := h
  match vals, h1 with
  | ⟨[v]⟩, _ => exact ⟨v, rfl, h2 0 _ rfl⟩
def aHu (a b c : List Run) : aB P 85 [.sl 1 ([a, b, c].map rsA)] [] 0 (.agg [rsA a, rsA b, rsA c]) := by
  refine iO ⟨bX _ _, bX _ _, bX _ _, trivial⟩ fun C w vals hR hv => ?_
  obtain ⟨v, rfl, h0⟩ := bDb hv
  cases h0 with
  | sl _ _ blk off cp cells t fr vs hp hcap hmax hb hh hrep hcells =>
    have hr0 := hrep 0 _ rfl
    have hr1 := hrep 1 _ rfl
    have hr2 := hrep 2 _ rfl
    obtain ⟨p0, l0, k0, e0⟩ := aQo hr0
    obtain ⟨p1, l1, k1, e1⟩ := aQo hr1
    obtain ⟨p2, l2, k2, e2⟩ := aQo hr2
    have hcl : ∀ j, j < 3 -> ∀ p l k, vs j = .slice p l k -> w.cell? (Addr.add ⟨blk, off, none⟩ j) = some (.slice p l k) := fun j hj p l k e => by
      have h1 := (hcells j hj).2 0 og
      rw [e] at h1
      have h2 : cells[off + j]? = some (.slice p l k) := by simpa [Value.cells] using h1
      have h3 : Addr.add ⟨blk, off, none⟩ j = ⟨blk, off + j, none⟩ := by cases j <;> rfl
      rw [h3]; simp only [World.cell?, hh]; exact h2
    refine (bFf w ⟨blk, off, none⟩ cp p0 p1 p2 l0 l1 l2 k0 k1 k2 (fun j v hj => by
      match j, hj with
      | 0, hj => cases hj; exact hcl 0 og _ _ _ e0
      | 1, hj => cases hj; exact hcl 1 og _ _ _ e1
      | 2, hj => cases hj; exact hcl 2 og _ _ _ e2
      | j + 3, hj => simp at hj)).mono fun e w' ⟨he, hB⟩ => ⟨_, he, ?_, hB⟩
    refine .agg _ _ rfl fun j y hj => ?_
    have hm : ∀ {x : AV} {u : Value}, Rep C.ρ (C.avoid []) w.heap x u -> Rep C.ρ (C.avoid []) w'.heap x u := fun h => h.mono (fun _ _ h => h) fun b hb _ => hB.block b hb
    match j, hj with
    | 0, hj => cases hj; rw [e0] at hr0; exact hm hr0
    | 1, hj => cases hj; rw [e1] at hr1; exact hm hr1
    | 2, hj => cases hj; rw [e2] at hr2; exact hm hr2
    | j + 3, hj => simp at hj
def aXp (a b c : List Run) : aB P 94 [.agg [rsA a, rsA b, rsA c]] [] 0 (.sl 1 ([a, b, c].map rsA)) := by
  refine iO (aX _ _) fun C w vals hR hv => ?_
  obtain ⟨v, rfl, h0⟩ := bDb hv
  cases h0 with
  | agg _ vs hn hrep =>
    have hr0 := hrep 0 _ rfl
    have hr1 := hrep 1 _ rfl
    have hr2 := hrep 2 _ rfl
    obtain ⟨v0, v1, v2, rfl⟩ : ∃ v0 v1 v2, vs = #[v0, v1, v2] := by
      match vs, hn with
      | ⟨[x, y, z]⟩, _ => exact ⟨x, y, z, rfl⟩
    change Rep _ _ _ _ v0 at hr0
    change Rep _ _ _ _ v1 at hr1
    change Rep _ _ _ _ v2 at hr2
    obtain ⟨p0, l0, k0, rfl⟩ := aQo hr0
    obtain ⟨p1, l1, k1, rfl⟩ := aQo hr1
    obtain ⟨p2, l2, k2, rfl⟩ := aQo hr2
    refine (bMz w p0 p1 p2 l0 l1 l2 k0 k1 k2).mono fun e w' ⟨cp, cells, he, h3, hcm, hB, hh, g0, g1, g2⟩ => ⟨_, he, ?_, hB⟩
    have hm : ∀ {x : AV} {u : Value}, Rep C.ρ (C.avoid []) w.heap x u -> Rep C.ρ (C.avoid []) w'.heap x u := fun h => h.mono (fun _ _ h => h) fun b hb _ => hB.block b hb
    have d0 : cells.getD 0 undef = .slice p0 l0 k0 := by rw [B2, g0]; rfl
    have d1 : cells.getD 1 undef = .slice p1 l1 k1 := by rw [B2, g1]; rfl
    have d2 : cells.getD 2 undef = .slice p2 l2 k2 := by rw [B2, g2]; rfl
    have := Rep.sl (ρ := C.ρ) (av := C.avoid []) (hp := w'.heap) 1 ([a, b, c].map rsA) (w.heap.size + 1) 0 cp cells 107 (0, 0) (fun j => cells.getD j undef) oS (by simpa using h3) hcm (fun hb => by
        rcases hb with hb | ⟨i, o, hi, _⟩
        . exact absurd (hR.xlt _ hb) og
        . simp [Abs.get] at hi) hh (fun j x hj => by
        match j, hj with
        | 0, hj => cases hj; show Rep _ _ _ _ (cells.getD 0 undef); rw [d0]; exact hm hr0
        | 1, hj => cases hj; show Rep _ _ _ _ (cells.getD 1 undef); rw [d1]; exact hm hr1
        | 2, hj => cases hj; show Rep _ _ _ _ (cells.getD 2 undef); rw [d2]; exact hm hr2
        | j + 3, hj => simp at hj) (fun j hj => by
        match j, hj with
        | 0, _ => exact ⟨by show (cells.getD 0 undef).cells.size = 1; rw [d0]; rfl, fun k hk => by
            obtain rfl : k = 0 := by omega
            show cells[0]? = (cells.getD 0 undef).cells[0]?
            rw [d0, g0]; rfl⟩
        | 1, _ => exact ⟨by show (cells.getD 1 undef).cells.size = 1; rw [d1]; rfl, fun k hk => by
            obtain rfl : k = 0 := by omega
            show cells[1]? = (cells.getD 1 undef).cells[0]?
            rw [d1, g1]; rfl⟩
        | 2, _ => exact ⟨by show (cells.getD 2 undef).cells.size = 1; rw [d2]; rfl, fun k hk => by
            obtain rfl : k = 0 := by omega
            show cells[2]? = (cells.getD 2 undef).cells[0]?
            rw [d2, g2]; rfl⟩
        | j + 3, hj => simp at hj; omega)
    exact this
end
end Go.Proofs.S
end
section
open Go Go.Abs Go.Proofs Go.Proofs.Tryz
namespace Go.Proofs.S
section
variable {ls : List Entry} {s : Nat} {e : Entry}
def aEy (ls : List Entry) (s e : Nat) : Bool := (gA ls e).key.toList == (gA ls s).key.toList
def tD (ls : List Entry) : Nat -> Nat -> Nat -> Nat
  | 0, _, e => e
  | f + 1, s, e => if (decide ((e : Int) < (ls.length : Int)) && aEy ls s e) = true then tD ls f s (e + 1) else e
def bS (ls : List Entry) (s : Nat) : Nat := tD ls (ls.length - (s + 1)) s (s + 1)
def pD (g : List Entry -> List Entry) (ls : List Entry) : Nat -> Nat -> List Entry
  | 0, _ => []
  | f + 1, s => if s < ls.length then g ((ls.take (bS ls s)).drop s) ++ pD g ls f (bS ls s) else []
def aK (ls : List Entry) (ts : List Int) (bottom : Bool) : List Entry := if cV ls = true then pD (fun c => sqK ts c bottom) ls ls.length 0 else []
def aWl (ls : List Entry) : ∀ f s e, f + e = ls.length -> e <= tD ls f s e /\ tD ls f s e <= ls.length
  | 0, s, e, h => by unfold tD; omega
  | f + 1, s, e, h => by
    unfold tD; split
    . have := aWl ls f s (e + 1) og; omega
    omega
def uV (h : s < ls.length) : s + 1 <= bS ls s /\ bS ls s <= ls.length := aWl ls (ls.length - (s + 1)) s (s + 1) og
def aXh {g : List Entry -> List Entry} (h : ls.length <= s) : ∀ f, pD g ls f s = []
  | 0 => rfl
  | f + 1 => by unfold pD; rw [if_neg og]
def bOs {p : Nat -> Bool} {n i : Nat} (h : (List.range n).all p = true) (hi : i < n) : p i = true := C4.1 h i (List.mem_range.2 hi)
def vN (h : cV ls = true) (he : e ∈ ls) : bQ e = true := by
  obtain ⟨i, hi⟩ := G5 he
  have hlt := (A9.1 hi).1
  have := bOs h hlt
  unfold aAu at this; rw [hi] at this
  simp only [Bool.not_eq_true', Bool.or_eq_false_iff] at this
  simpa using this.1
def bFg (h : bQ e = true) : -1000000 <= e.n /\ e.n <= 1000000 := by
  unfold bQ at h; split at h
  . cases h
  rename_i hb
  have hb' : jP e = false := by simpa using hb
  unfold jP at hb'
  simp only [Bool.or_eq_false_iff, Bool.not_eq_false', nK, C8, decide_eq_true_eq] at hb'
  omega
def bCy (h : cV ls = true) (hl : ls.length <= 1048576) : vK ls := ⟨hl, fun e he => bFg (vN h he)⟩
def aSl {ls c : List Entry} (h : vK ls) (hl : c.length <= ls.length) (hs : ∀ e ∈ c, e ∈ ls) : vK c := ⟨by have := h.1; omega, fun e he => h.2 e (hs e he)⟩
def aBk (ls : List Entry) (ts : List Int) (bottom : Bool) (hz : dB ls) (hl : ls.length <= 1048576) (hts : ts.length <= 1048576) : aB P 93 [.sl 5 (ls.map enA), .sl 1 (ts.map inA), Nb bottom] [] 0 (.sl 5 ((aK ls ts bottom).map enA)) := by
 refine (pq 49 [.tmp 6] func93) ?_
 have hmx := mxl
 refine (aj) ?_
 refine sq fun k2 => sr rfl fun k3 => (ja) ((vq func146 (sA ls hz)) (k3 ((cdA) ?_ ?_))) <;> intro hc1
 . have hio : cV ls = false := by simpa using hc1
   refine (aj) ?_
   have h9 : aK ls ts bottom = [] := by unfold aK; rw [if_neg (by rw [hio]; simp)]
   refine dZ (t := 6) 65 5 rfl dg ?_
   refine (ja) ?_
   refine aFz 0 rfl ?_
   refine (Ag) (wR ?_)
   refine fO ?_ (enB _ _)
   exact Bn h9
 have hio : cV ls = true := by simpa using hc1
 have hn := bCy hio hl
 refine wk (k2 ((aj) ?_))
 refine sq fun k6 => (aj) (wb ?_)
 refine dZ (t := 7) 65 5 rfl dg ?_
 refine (ja) ?_
 refine wl (α := Nat × List Entry × Nat) (fun x => x.1 <= ls.length /\ x.2.1.length <= x.1 /\ ls.length <= x.1 + x.2.2 /\ x.2.1 ++ pD (fun c => sqK ts c bottom) ls x.2.2 x.1 = pD (fun c => sqK ts c bottom) ls ls.length 0) (fun x => ls.length - x.1) (fun x => ([(0, .sl 5 (ls.map enA)), (1, .sl 1 (ts.map inA)), (2, Nb bottom), (7, .ref 0), (8, Ni (x.1 : Int))], [(0, .row 65 5 (x.2.1.map enA))])) 1 (0, [], ls.length) ⟨A6 _, by simp, by simp, rfl⟩ [] ?_ ?_
 . exact Cc
 rintro ⟨s, out, f⟩ ⟨hs0, hol, hf, hgo⟩
 simp only at hs0 hol hf hgo ⊢
 refine sq fun k8 => (aj) ((cdB) ?_ ?_) <;> intro hc2
 . have hge : ls.length <= s := by have h9 : ¬ s < ls.length := (by simpa using hc2); omega
   rw [aXh hge, List.append_nil] at hgo
   refine we ((jt) (k6 ((aj) ?_)))
   have h9 : aK ls ts bottom = out := by unfold aK; rw [if_pos hio, <- hgo]
   refine aFz 0 rfl ?_
   refine (Ag) (wR ?_)
   refine fO ?_ (enB _ _)
   exact Ab h9
 have hlt : s < ls.length := by simpa using hc2
 obtain ⟨f, rfl⟩ : ∃ f2, f = f2 + 1 := ⟨f - 1, og⟩
 rw [pD, if_pos hlt] at hgo
 have hel := uV hlt
 have hsk := aTk ts ((ls.take (bS ls s)).drop s) bottom
 have hcl : ((ls.take (bS ls s)).drop s).length = bS ls s - s := by rw [B0, A7]; omega
 have hch : vK ((ls.take (bS ls s)).drop s) := aSl hn og fun x hx => D2 (D1 hx)
 refine wk (k8 (wb ?_))
 have hw6 := wiS s og
 refine sr rfl fun k10 => (Aa hw6) (k10 (sq fun k11 => wb ?_))
 refine wl (α := Nat) (fun x => s + 1 <= x /\ x <= ls.length /\ tD ls (ls.length - x) s x = bS ls s) (fun x => ls.length - x) (fun x => ([(0, .sl 5 (ls.map enA)), (1, .sl 1 (ts.map inA)), (2, Nb bottom), (7, .ref 0), (8, Ni (s : Int)), (9, Ni (x : Int))], [(0, .row 65 5 (out.map enA))])) 1 (s + 1) ⟨A0 _, hlt, rfl⟩ [] ?_ ?_
 . exact jz
 rintro e ⟨he0, he1, hend⟩
 refine sq fun k12 => ?_
 by_cases hle : e < ls.length
 . have hlx := eL hle
   have hsx := eL hlt
   refine sd mixed rfl fun k13 => (Bi hlx hsx) ((jr) ((jy) (k13 ((cdA) ?_ ?_)))) <;> intro hc3
   . have hkk : (decide ((e : Int) < (ls.length : Int)) && aEy ls s e) = true := by simpa [aEy] using hc3
     rw [show ls.length - e = (ls.length - (e + 1)) + 1 by omega, tD, if_pos hkk] at hend
     refine wk (k12 (wb ?_))
     have hw8 := wiS e og
     refine wg rfl ((Aa hw8) ((jt) ((jt) ?_)))
     refine ⟨e + 1, ⟨og, og, hend⟩, og, [], ?_⟩
     exact jz
   have hkk : ¬ (decide ((e : Int) < (ls.length : Int)) && aEy ls s e) = true := by simpa [aEy] using hc3
   rw [show ls.length - e = (ls.length - (e + 1)) + 1 by omega, tD, if_neg hkk] at hend; subst hend
   refine we ((jt) (k11 (sr rfl fun k14 => (Da) ((jr) ?_))))
   refine vs rfl rfl rfl func147 (uZ ts ((ls.take (bS ls s)).drop s) bottom hch hts) oG oG ?_
   refine (At) ((jr) (k14 (wg rfl ((ja) ((jt) ((jt) ?_))))))
   refine ⟨(bS ls s, out ++ sqK ts ((ls.take (bS ls s)).drop s) bottom, f), ⟨by simp only; omega, by simp only [A3]; omega, by simp only; omega, by simp only [F6]; exact hgo⟩, by simp only; omega, [(0, 1)], ?_⟩
   exact jz
 have hee : e = ls.length := by omega
 have hdf : decide ((e : Int) < (ls.length : Int)) = false := by simp; omega
 have hnn : ls[e]? = none := D6 og
 have hsx := eL hlt
 refine sd mixed rfl fun k13 => (Bj hdf hnn hsx) ((jr) ?_)
 refine aM (fun hN => bD (rt := []) (rd := []) (val := Ns ⟨#[]⟩) hN rfl rfl rfl rfl trivial (fun hg => absurd hg oS) (by trivial)) (.inl rfl) ?_
 refine (Bj hdf hnn hsx) ((jr) ((jy) (k13 ((cdA) ?_ ?_)))) <;> intro hc4
 . exfalso
   simp [hdf] at hc4
 rw [hee, Nat.sub_self, tD] at hend; rw [<- hee] at hend; subst hend
 refine we ((jt) (k11 (sr rfl fun k15 => (Da) ((jr) ?_))))
 refine vs rfl rfl rfl func147 (uZ ts ((ls.take (bS ls s)).drop s) bottom hch hts) oG oG ?_
 refine (At) ((jr) (k15 (wg rfl ((ja) ((jt) ((jt) ?_))))))
 refine ⟨(bS ls s, out ++ sqK ts ((ls.take (bS ls s)).drop s) bottom, f), ⟨by simp only; omega, by simp only [A3]; omega, by simp only; omega, by simp only [F6]; exact hgo⟩, by simp only; omega, [(0, 1)], ?_⟩
 exact jz
end
def aTf : P.underlying 112 = some (.array 3 107) := kr
def aDo : (P.info? 107).map (·.size) = some 1 := kr
def zH (ls : List Entry) (ts : List Int) (b : Bool) : (aK ls ts b).length <= ls.length := by
  have key : ∀ f s, (pD (fun c => sqK ts c b) ls f s).length <= ls.length - s := by
    intro f
    induction f with
    | zero => intro s; simp [pD]
    | succ f ih =>
      intro s; unfold pD; split
      . rename_i hs
        have h1 := aTk ts ((ls.take (bS ls s)).drop s) b
        have h2 := ih (bS ls s)
        have h3 := uV hs
        simp only [A3, B0, A7] at h1 ⊢
        omega
      simp
  unfold aK; split
  . have := key ls.length 0; omega
  simp
def aHg {k : Nat} : ∀ (ls : List Entry) (o : Entry) (f : Bool), o.text.size <= k -> (∀ e ∈ ls, e.text.size <= k) -> (jI o f ls).text.size <= k /\ (jI o f ls).key = o.key
  | [], o, f, ho, _ => ⟨ho, rfl⟩
  | e :: r, o, f, ho, h => by
    unfold jI; split
    . exact aHg r _ false ho fun x hx => h x (A4 _ hx)
    split
    . exact ⟨h e A5, rfl⟩
    split <;> exact ⟨ho, rfl⟩
def bRa {ls : List Entry} {b : Bool} (h : ∀ e ∈ ls, aFn e) (hne : ls ≠ []) : ∀ e ∈ sqC ls b, aFn e := by
  obtain ⟨y, r, hy⟩ := G1 hne
  have h1 := aHg (k := 4611686018427387904) ls (uK y) true (A6 _) fun e he => (h e he).2
  have hc : jD ls = jI (uK y) true ls := by rw [hy]; rfl
  have hm : aFn (jD ls) := ⟨by rw [hc, h1.2]; exact (h y (by rw [hy]; exact A5)).1, by rw [hc]; exact h1.1⟩
  intro e he; unfold sqC at he
  repeat' split at he
  all_goals first | exact h e he | (cases he; done) | (rw [B6.1 he]; exact hm)
def bDz {p : Entry -> Prop} (b : Bool) : ∀ {cs : List (List Entry)}, (∀ c ∈ cs, ∀ b, ∀ e ∈ sqC c b, p e) -> ∀ l ∈ (lfL sqC cs b).1, ∀ e ∈ l, p e
  | [], _ => by simp [lfL]
  | c :: r, h => by
    intro l hl
    simp only [lfL, B1] at hl
    rcases hl with rfl | hl
    . exact h c A5 _
    exact bDz b (cs := r) (fun x hx => h x (A4 _ hx)) l hl
def bDm {p : Entry -> Prop} {ts : List Int} {ls : List Entry} {b : Bool} (h : ∀ c ∈ bM ts ls, ∀ b, ∀ e ∈ sqC c b, p e) : ∀ e ∈ sqK ts ls b, p e := by
  intro e he
  obtain ⟨l, hl, hel⟩ := List.mem_flatten.1 he
  exact bDz b h l hl e hel
def yG {p : Entry -> Prop} {g : List Entry -> List Entry} {ls : List Entry} (h : ∀ s, s < ls.length -> ∀ e ∈ g ((ls.take (bS ls s)).drop s), p e) : ∀ f s, ∀ e ∈ pD g ls f s, p e
  | 0, s => by simp [pD]
  | f + 1, s => by
    intro e he; unfold pD at he; split at he
    . rename_i hs
      rcases B4.1 he with he | he
      . exact h s hs e he
      exact yG h f _ e he
    cases he
def aLn {ls : List Entry} {ts : List Int} {b : Bool} (hz : dB ls) : dB (aK ls ts b) := by
  refine ⟨by have := zH ls ts b; have := hz.1; omega, ?_⟩
  unfold aK; split
  . refine yG (fun s hs => bDm fun c hc b => ?_) _ _
    exact bRa (fun e he => hz.2 e (D2 (D1 ((gN hc).2.2 e he)))) (gN hc).1
  intro e he; cases he
noncomputable def bSj : Array Field := match P.underlying 83 with
  | some (.struct fs) => fs
  | _ => #[]
def bRb : P.underlying 83 = some (.struct bSj) := kr

def bIy (ls : List Entry) (b : Bool) (h : ls ≠ []) : (jC ls b).length <= ls.length := by
  have hp := E8.2 h
  unfold jC
  repeat' split
  all_goals first | omega | (simp only [List.length_nil, B7]; omega)
def aFt {f : List Entry -> Bool -> List Entry} (hf : ∀ c b, c ≠ [] -> (f c b).length <= c.length) (b : Bool) : ∀ {cs : List (List Entry)}, (∀ c ∈ cs, c ≠ []) -> (lfL f cs b).1.flatten.length <= cs.flatten.length
  | [], _ => by simp [lfL]
  | c :: r, h => by
    have h1 := aFt hf b (cs := r) fun x hx => h x (A4 _ hx)
    have h2 := hf c (lfL f r b).2 (h c A5)
    simp only [lfL, List.flatten_cons, A3]; omega
def bFe {α : Type} (cs : List (List α)) (i : Nat) : (cs.drop i).flatten.length <= cs.flatten.length := by
  have h := congrArg (fun z => z.flatten.length) (List.take_append_drop i cs)
  simp only [List.flatten_append, A3] at h
  omega
def jK (ts : List Int) (ls : List Entry) (b : Bool) : List Entry := (lfL jC (bM ts ls) b).1.flatten
def bLj (ts : List Int) (ls : List Entry) (b : Bool) : (jK ts ls b).length <= ls.length := by
  have h1 := aFt bIy b (cs := bM ts ls) fun c hc => (gN hc).1
  have h2 := (mI (ts := ts) (ls := ls)).2
  unfold jK; omega
def eC (ls : List Entry) (ts : List Int) (b : Bool) : List Entry := if cV ls = true then pD (fun c => jK ts c b) ls ls.length 0 else []
def uT (ls : List Entry) (ts : List Int) (hl : ls.length <= 1048576) (hts : ts.length <= 1048576) : aB P 177 [.sl 5 (ls.map enA), .sl 1 (ts.map inA)] [] 0 (.sl 1 ((bM ts ls).map esA)) := by
 refine (pq 46 [.tmp 4] func177) ?_
 have hmx := mxl
 refine (aj) ?_
 refine sr rfl fun k2 => (ja) ((jr) (k2 (sq fun k3 => (aj) (wb ?_))))
 refine wl (α := Nat × List (List Entry)) (fun x => x.1 <= ls.length /\ x.2.length <= x.1 /\ x.2 ++ iW ts ls (ls.length - x.1) x.1 (x.1 + 1) = bM ts ls) (fun x => ls.length - x.1) (fun x => ([(0, .sl 5 (ls.map enA)), (1, .sl 1 (ts.map inA)), (5, .ref 0), (6, Ni (x.1 : Int))], [(0, .row 33 1 (x.2.map esA))])) 1 (0, []) ⟨A6 _, by simp, rfl⟩ [] ?_ ?_
 . exact Cc
 rintro ⟨i, out⟩ ⟨hi, hol, hgo⟩
 simp only at hi hol hgo ⊢
 refine sq fun k5 => (aj) ((cdB) ?_ ?_) <;> intro hc1
 . have hge := gec hc1
   rw [show ls.length - i = 0 by omega, iW, List.append_nil] at hgo
   refine we ((jt) (k3 ((aj) ?_)))
   have h9 : bM ts ls = out := hgo.symm
   refine aFz 0 rfl ?_
   refine (Ag) (wR ?_)
   refine fO ?_ (pJ _ _)
   exact Ab h9
 have hlt : i < ls.length := (by simpa using hc1)
 refine wk (k5 (wb ?_))
 have hw4 := wiS i og
 refine sr rfl fun k7 => (Aa hw4) (k7 (sq fun k8 => wb ?_))
 refine wl (α := Nat) (fun x => i + 1 <= x /\ x <= ls.length /\ iW ts ls (ls.length + 1 - x) i x = iW ts ls (ls.length - i) i (i + 1)) (fun x => ls.length - x) (fun x => ([(0, .sl 5 (ls.map enA)), (1, .sl 1 (ts.map inA)), (5, .ref 0), (6, Ni (i : Int)), (7, Ni (x : Int))], [(0, .row 33 1 (out.map esA))])) 1 (i + 1) ⟨A0 _, hlt, by rw [show ls.length + 1 - (i + 1) = ls.length - i by omega]⟩ [] ?_ ?_
 . exact jz
 rintro k ⟨hk0, hk1, hcl⟩
 refine sq fun k9 => ?_
 by_cases hle : k < ls.length
 . have hlx := eL hle
   have hw1 := wr ((k : Int) - 1) ((k : Int) - 1) og
   have hpn : ((k : Int) - 1).toNat = k - 1 := by omega
   have hpv : ls[k - 1]? = some (bT ls k) := by unfold bT; rw [A1 og]; rfl
   refine sd mixed rfl fun k10 => (Bb hlx hpv hw1 hpn) ((jr) ?_)
   refine tpg rfl rfl rfl rfl rfl rfl ⟨func209, rfl, rfl⟩ (fun hg => aNu ts (gA ls k).seq (bT ls k).seq og) oG (fun hg => oG) oG trivial ?_
   refine (ja) ((jr) ((jy) (k10 ((cdA) ?_ ?_)))) <;> intro hc2
   . have hkk : (decide ((k : Int) < (ls.length : Int)) && !aKn ts ls k) = true := by simpa [aKn] using hc2
     rw [show ls.length + 1 - k = (ls.length - k) + 1 by omega, iW, if_pos hkk] at hcl
     refine wk (k9 (wb ?_))
     have hw6 := wiS k og
     refine wg rfl ((Aa hw6) ((jt) ((jt) ?_)))
     refine ⟨k + 1, ⟨og, og, by rw [show ls.length + 1 - (k + 1) = ls.length - k by omega]; exact hcl⟩, og, [], ?_⟩
     exact jz
   have hkk : ¬ (decide ((k : Int) < (ls.length : Int)) && !aKn ts ls k) = true := by simpa [aKn] using hc2
   rw [show ls.length + 1 - k = (ls.length - k) + 1 by omega, iW, if_neg hkk] at hcl; rw [<- hcl] at hgo
   have hcn : ((ls.take k).drop i).length = k - i := by rw [B0, A7]; omega
   refine we ((jt) (k8 (sr rfl fun k11 => ?_)))
   simp only [go_sem, <- D0, <- E5, Int.toNat_natCast, A2]
   refine (jr) (k11 (wg rfl ((ja) ((jt) ((jt) ?_)))))
   refine ⟨(k, out ++ [(ls.take k).drop i]), ⟨by simp only; omega, by simp only [A3, List.length_singleton]; omega, by rw [F6]; exact hgo⟩, by simp only; omega, [(0, 2)], ?_⟩
   exact Df
 have hee : k = ls.length := by omega
 have hdf : decide ((k : Int) < (ls.length : Int)) = false := by simp; omega
 have hnn : ls[k]? = none := D6 og
 have hw1 := wr ((k : Int) - 1) ((k : Int) - 1) og
 have hpn : ((k : Int) - 1).toNat = k - 1 := by omega
 have hpv : ls[k - 1]? = some (bT ls k) := by unfold bT; rw [A1 og]; rfl
 refine sd mixed rfl fun k10 => (By hdf hnn hpv hw1 hpn) ((jr) ?_)
 refine aM (fun hN => bD (rt := []) (rd := []) (val := Ni 0) hN rfl rfl rfl rfl trivial (fun hg => absurd hg oS) (by trivial)) (.inl rfl) ?_
 refine (By hdf hnn hpv hw1 hpn) ((jr) ?_)
 refine aM (fun hN => bD (rt := []) (rd := []) (val := Nb false) hN rfl rfl rfl rfl trivial (fun hg => absurd hg oS) (by trivial)) (.inl rfl) ?_
 refine (By hdf hnn hpv hw1 hpn) ((jr) ((jy) (k10 ((cdA) ?_ ?_)))) <;> intro hc3
 . exfalso
   simp [hdf] at hc3
 have hkk : ¬ (decide ((k : Int) < (ls.length : Int)) && !aKn ts ls k) = true := by rw [hdf]; simp
 rw [show ls.length + 1 - k = (ls.length - k) + 1 by omega, iW, if_neg hkk] at hcl; rw [<- hcl] at hgo
 have hcn : ((ls.take k).drop i).length = k - i := by rw [B0, A7]; omega
 refine we ((jt) (k8 (sr rfl fun k12 => ?_)))
 simp only [go_sem, <- D0, <- E5, Int.toNat_natCast, A2]
 refine (jr) (k12 (wg rfl ((ja) ((jt) ((jt) ?_)))))
 refine ⟨(k, out ++ [(ls.take k).drop i]), ⟨by simp only; omega, by simp only [A3, List.length_singleton]; omega, by rw [F6]; exact hgo⟩, by simp only; omega, [(0, 2)], ?_⟩
 exact Df
def aBs (cs : List (List Entry)) (b : Bool) (hc : ∀ c ∈ cs, vK c /\ c ≠ []) (h1 : cs.length <= 1048576) (h2 : cs.flatten.length <= 1048576) : aB P 176 [.sl 1 (cs.map esA), Nb b] [] 0 (.sl 5 ((lfL jC cs b).1.flatten.map enA)) := by
 refine (pq 31 [.tmp 4] func176) ?_
 have hmx := mxl
 refine (aj) ?_
 refine sr rfl fun k2 => (ja) ((jr) (k2 (sq fun k3 => ?_)))
 have hw0 := wr ((cs.length : Int) - 1) ((cs.length : Int) - 1) og
 refine sr rfl fun k4 => (Aa hw0) (k4 (wb ?_))
 refine wl (α := Nat) (fun x => x <= cs.length) (fun x => x) (fun x => ([(0, .sl 1 (cs.map esA)), (1, .raw (.bool (lfL jC (cs.drop x) b).2)), (5, .ref 0), (6, Ni ((x : Int) - 1))], [(0, .row 65 5 ((lfL jC (cs.drop x) b).1.flatten.map enA))])) 1 cs.length (A0 _) [] ?_ ?_
 . rw [List.drop_length]
   simp only [go_sem, AObj.bel, lfL, List.flatten_nil, List.map_nil] <;> simp
 rintro j hj
 refine sq fun k5 => (aj) ((cdB) ?_ ?_) <;> intro hc1
 . have hj0 : j = 0 := by simp at hc1; omega
   subst hj0
   refine we ((jt) (k3 ((aj) ?_)))
   refine aFz 0 rfl ?_
   refine (Ag) (wR ?_)
   refine fO ?_ (enB _ _)
   simp only [go_sem, List.drop_zero]
 have hj0 : 0 < j := by simp at hc1; omega
 obtain ⟨i, rfl⟩ : ∃ i, j = i + 1 := ⟨j - 1, og⟩
 have hci : (((i + 1 : Nat) : Int) - 1) = (i : Int) := by omega
 obtain ⟨c, hcx, hdc, hcm⟩ := ix (xs := cs) (i := i) og
 have hfl : (lfL jC (cs.drop i) b).1.flatten = jC c (lfL jC (cs.drop (i + 1)) b).2 ++ (lfL jC (cs.drop (i + 1)) b).1.flatten := by rw [hdc]; rfl
 have hfg : (lfL jC (cs.drop i) b).2 = ((lfL jC (cs.drop (i + 1)) b).2 && decide (((jC c (lfL jC (cs.drop (i + 1)) b).2).length : Int) = 0)) := by rw [hdc]; rfl
 have hb1 := aFt bIy b (cs := cs.drop i) fun x hx => (hc x (D1 hx)).2
 have hb2 := bFe cs i
 rw [hfl, A3] at hb1; rw [hci]
 refine wk (k5 (sq fun k7 => wb (sr rfl fun k8 => ?_)))
 simp only [go_sem, hcx, esA, A2]
 refine (jr) ?_
 refine (vr rfl rfl rfl func208 (aOe c (lfL jC (cs.drop (i + 1)) b).2 (hc c hcm).1 (hc c hcm).2) Ah Ah) ((jr) (k8 (sq fun k9 => (aj) ((cdA) ?_ ?_)))) <;> intro hc2
 . have hbn : (lfL jC (cs.drop i) b).2 = false := by rw [hfg, decide_eq_false (by simp at hc2 ⊢; intro e; rw [e] at hc2; simp at hc2), Bool.and_false]
   refine wg rfl ((ja) (k9 (wg rfl ((At) ((jr) ((jt) (k7 ?_)))))))
   have hw := wr ((i : Int) - 1) ((i : Int) - 1) og
   refine wg rfl ((Aa hw) ((jt) ?_))
   refine ⟨i, og, og, [(0, 3)], ?_⟩
   rw [hbn, hfl]; exact jz
 have hbn : (lfL jC (cs.drop i) b).2 = (lfL jC (cs.drop (i + 1)) b).2 := by rw [hfg, decide_eq_true (by simp at hc2 ⊢; exact hc2), Bool.and_true]
 refine wk (k9 (wg rfl ((At) ((jr) ((jt) (k7 ?_))))))
 have hw := wr ((i : Int) - 1) ((i : Int) - 1) og
 refine wg rfl ((Aa hw) ((jt) ?_))
 refine ⟨i, og, og, [(0, 3)], ?_⟩
 rw [hbn, hfl]; exact jz
def aPn (ls : List Entry) (ts : List Int) (bottom : Bool) (hz : dB ls) (hl : ls.length <= 1048576) (hts : ts.length <= 1048576) : aB P 132 [.sl 5 (ls.map enA), .sl 1 (ts.map inA), Nb bottom] [] 0 (.sl 5 ((eC ls ts bottom).map enA)) := by
 refine (pq 52 [.tmp 6] func132) ?_
 have hmx := mxl
 refine (aj) ?_
 refine sr rfl fun k2 => (ja) ((jr) (k2 (sq fun k3 => sr rfl fun k4 => (ja) ((vq func96 (sE ls hz)) (k4 ((cdA) ?_ ?_)))))) <;> intro hc1
 . have hio : cV ls = false := by simpa using hc1
   refine (aj) ?_
   have h9 : eC ls ts bottom = [] := by unfold eC; rw [if_neg (by rw [hio]; simp)]
   refine aFz 0 rfl ?_
   refine (Ag) (wR ?_)
   refine fO ?_ (enB _ _)
   exact Bn h9
 have hio : cV ls = true := by simpa using hc1
 have hn := bCy hio hl
 refine wk (k3 (sq fun k6 => (aj) (wb ?_)))
 refine wl (α := Nat × List Entry × Nat) (fun x => x.1 <= ls.length /\ x.2.1.length <= x.1 /\ ls.length <= x.1 + x.2.2 /\ x.2.1 ++ pD (fun c => jK ts c bottom) ls x.2.2 x.1 = pD (fun c => jK ts c bottom) ls ls.length 0) (fun x => ls.length - x.1) (fun x => ([(0, .sl 5 (ls.map enA)), (1, .sl 1 (ts.map inA)), (2, Nb bottom), (7, .ref 0), (8, Ni (x.1 : Int))], [(0, .row 65 5 (x.2.1.map enA))])) 1 (0, [], ls.length) ⟨A6 _, by simp, by simp, rfl⟩ [] ?_ ?_
 . exact Cc
 rintro ⟨s, out, f⟩ ⟨hs0, hol, hf, hgo⟩
 simp only at hs0 hol hf hgo ⊢
 refine sq fun k8 => (aj) ((cdB) ?_ ?_) <;> intro hc2
 . have hge : ls.length <= s := by have h9 : ¬ s < ls.length := (by simpa using hc2); omega
   rw [aXh hge, List.append_nil] at hgo
   refine we ((jt) (k6 ((aj) ?_)))
   have h9 : eC ls ts bottom = out := by unfold eC; rw [if_pos hio, <- hgo]
   refine aFz 0 rfl ?_
   refine (Ag) (wR ?_)
   refine fO ?_ (enB _ _)
   exact Ab h9
 have hlt : s < ls.length := by simpa using hc2
 have hjk : (lfL jC (bM ts ((ls.take (bS ls s)).drop s)) bottom).1.flatten = jK ts ((ls.take (bS ls s)).drop s) bottom := rfl
 obtain ⟨f, rfl⟩ : ∃ f2, f = f2 + 1 := ⟨f - 1, og⟩
 rw [pD, if_pos hlt] at hgo
 have hel := uV hlt
 have hsk := bLj ts ((ls.take (bS ls s)).drop s) bottom
 have hcl : ((ls.take (bS ls s)).drop s).length = bS ls s - s := by rw [B0, A7]; omega
 have hch : vK ((ls.take (bS ls s)).drop s) := aSl hn og fun x hx => D2 (D1 hx)
 refine wk (k8 (wb ?_))
 have hw6 := wiS s og
 refine sr rfl fun k10 => (Aa hw6) (k10 (sq fun k11 => wb ?_))
 refine wl (α := Nat) (fun x => s + 1 <= x /\ x <= ls.length /\ tD ls (ls.length - x) s x = bS ls s) (fun x => ls.length - x) (fun x => ([(0, .sl 5 (ls.map enA)), (1, .sl 1 (ts.map inA)), (2, Nb bottom), (7, .ref 0), (8, Ni (s : Int)), (9, Ni (x : Int))], [(0, .row 65 5 (out.map enA))])) 1 (s + 1) ⟨A0 _, hlt, rfl⟩ [] ?_ ?_
 . exact jz
 rintro e ⟨he0, he1, hend⟩
 refine sq fun k12 => ?_
 by_cases hle : e < ls.length
 . have hlx := eL hle
   have hsx := eL hlt
   refine sd mixed rfl fun k13 => (Bi hlx hsx) ((jr) ((jy) (k13 ((cdA) ?_ ?_)))) <;> intro hc3
   . have hkk : (decide ((e : Int) < (ls.length : Int)) && aEy ls s e) = true := by simpa [aEy] using hc3
     rw [show ls.length - e = (ls.length - (e + 1)) + 1 by omega, tD, if_pos hkk] at hend
     refine wk (k12 (wb ?_))
     have hw8 := wiS e og
     refine wg rfl ((Aa hw8) ((jt) ((jt) ?_)))
     refine ⟨e + 1, ⟨og, og, hend⟩, og, [], ?_⟩
     exact jz
   have hkk : ¬ (decide ((e : Int) < (ls.length : Int)) && aEy ls s e) = true := by simpa [aEy] using hc3
   rw [show ls.length - e = (ls.length - (e + 1)) + 1 by omega, tD, if_neg hkk] at hend; subst hend
   refine we ((jt) (k11 (sr rfl fun k14 => (Da) ((jr) ?_))))
   refine (vr rfl rfl rfl func177 (uT ((ls.take (bS ls s)).drop s) ts hch.1 hts) Ah Ah) ((jr) ?_)
   refine vs rfl rfl rfl func176 (aBs (bM ts ((ls.take (bS ls s)).drop s)) bottom (fun c hc => ⟨aFr hch hc, (gN hc).1⟩) (by have := (mI (ts := ts) (ls := ((ls.take (bS ls s)).drop s))).1; have := hch.1; omega) (by have := (mI (ts := ts) (ls := ((ls.take (bS ls s)).drop s))).2; have := hch.1; omega)) oG oG ?_
   refine (Dx hjk) ((jr) (k14 (wg rfl ((ja) ((jt) ((jt) ?_))))))
   refine ⟨(bS ls s, out ++ jK ts ((ls.take (bS ls s)).drop s) bottom, f), ⟨by simp only; omega, by simp only [A3]; omega, by simp only; omega, by simp only [F6]; exact hgo⟩, by simp only; omega, [(0, 1)], ?_⟩
   exact jz
 have hee : e = ls.length := by omega
 have hdf : decide ((e : Int) < (ls.length : Int)) = false := by simp; omega
 have hnn : ls[e]? = none := D6 og
 have hsx := eL hlt
 refine sd mixed rfl fun k13 => (Bj hdf hnn hsx) ((jr) ?_)
 refine aM (fun hN => bD (rt := []) (rd := []) (val := Ns ⟨#[]⟩) hN rfl rfl rfl rfl trivial (fun hg => absurd hg oS) (by trivial)) (.inl rfl) ?_
 refine (Bj hdf hnn hsx) ((jr) ((jy) (k13 ((cdA) ?_ ?_)))) <;> intro hc4
 . exfalso
   simp [hdf] at hc4
 rw [hee, Nat.sub_self, tD] at hend; rw [<- hee] at hend; subst hend
 refine we ((jt) (k11 (sr rfl fun k15 => (Da) ((jr) ?_))))
 refine (vr rfl rfl rfl func177 (uT ((ls.take (bS ls s)).drop s) ts hch.1 hts) Ah Ah) ((jr) ?_)
 refine vs rfl rfl rfl func176 (aBs (bM ts ((ls.take (bS ls s)).drop s)) bottom (fun c hc => ⟨aFr hch hc, (gN hc).1⟩) (by have := (mI (ts := ts) (ls := ((ls.take (bS ls s)).drop s))).1; have := hch.1; omega) (by have := (mI (ts := ts) (ls := ((ls.take (bS ls s)).drop s))).2; have := hch.1; omega)) oG oG ?_
 refine (Dx hjk) ((jr) (k15 (wg rfl ((ja) ((jt) ((jt) ?_))))))
 refine ⟨(bS ls s, out ++ jK ts ((ls.take (bS ls s)).drop s) bottom, f), ⟨by simp only; omega, by simp only [A3]; omega, by simp only; omega, by simp only [F6]; exact hgo⟩, by simp only; omega, [(0, 1)], ?_⟩
 exact jz
def bAb (rs : List Run) : (rsO rs).fz = rsA rs := by simp [rsO, rsA, AV.fz, aGx]
def yY (ls : List Entry) (ts : List Int) (b : Bool) : (eC ls ts b).length <= ls.length := by
  have key : ∀ f s, (pD (fun c => jK ts c b) ls f s).length <= ls.length - s := by
    intro f
    induction f with
    | zero => intro s; simp [pD]
    | succ f ih =>
      intro s; unfold pD; split
      . rename_i hs
        have h1 := bLj ts ((ls.take (bS ls s)).drop s) b
        have h2 := ih (bS ls s)
        have h3 := uV hs
        simp only [A3, B0, A7] at h1 ⊢
        omega
      simp
  unfold eC; split
  . have := key ls.length 0; omega
  simp
def wM {k : Nat} : ∀ (ls : List Entry) (o : Entry) (f : Bool), o.text.size <= k -> (∀ e ∈ ls, e.text.size <= k) -> (pN o f ls).text.size <= k /\ (pN o f ls).key = o.key
  | [], o, f, ho, _ => ⟨ho, rfl⟩
  | e :: r, o, f, ho, h => by
    unfold pN; split
    . exact ⟨h e A5, rfl⟩
    split
    . split <;> exact ⟨ho, rfl⟩
    exact wM r _ false ho fun x hx => h x (A4 _ hx)
def bSd {ls : List Entry} {b : Bool} (h : ∀ e ∈ ls, aFn e) (hne : ls ≠ []) : ∀ e ∈ jC ls b, aFn e := by
  obtain ⟨y, r, hy⟩ := G1 hne
  have h1 := wM (k := 4611686018427387904) ls (uK y) true (A6 _) fun e he => (h e he).2
  have hc : wK ls = pN (uK y) true ls := by rw [hy]; rfl
  have hm : aFn (wK ls) := ⟨by rw [hc, h1.2]; exact (h y (by rw [hy]; exact A5)).1, by rw [hc]; exact h1.1⟩
  intro e he; unfold jC at he
  repeat' split at he
  all_goals first | exact h e he | (cases he; done) | (rw [B6.1 he]; exact hm)
def aNk {f : List Entry -> Bool -> List Entry} {p : Entry -> Prop} (b : Bool) : ∀ {cs : List (List Entry)}, (∀ c ∈ cs, ∀ b, ∀ e ∈ f c b, p e) -> ∀ l ∈ (lfL f cs b).1, ∀ e ∈ l, p e
  | [], _ => by simp [lfL]
  | c :: r, h => by
    intro l hl
    simp only [lfL, B1] at hl
    rcases hl with rfl | hl
    . exact h c A5 _
    exact aNk b (cs := r) (fun x hx => h x (A4 _ hx)) l hl
def bBq {ls : List Entry} {ts : List Int} {b : Bool} (hz : dB ls) : dB (eC ls ts b) := by
  refine ⟨by have := yY ls ts b; have := hz.1; omega, ?_⟩
  unfold eC; split
  . refine yG (fun s hs e he => ?_) _ _
    obtain ⟨l, hl, hel⟩ := List.mem_flatten.1 he
    exact aNk b (fun c hc b => bSd (fun e he => hz.2 e (D2 (D1 ((gN hc).2.2 e he)))) (gN hc).1) l hl e hel
  intro e he; cases he
def aDn (ls : List Entry) (hz : dB ls) : aB P 131 [.sl 5 (ls.map enA)] [] 0 (rA ⟨ls, mA ls⟩) := by
 refine (pq 7 [.cell 2 109] func131) ((aj) ?_)
 refine sr rfl fun k2 => (ja) ((vq func175 (aBq ls hz)) (k2 (wR ?_)))
 refine fO ?_ (aVo _ _)
 exact Ac
def bSi {k : Nat} {ls : List Entry} {b : Bool} (h : ∀ e ∈ ls, e.key.size <= k /\ e.text.size <= k) (hne : ls ≠ []) : ∀ e ∈ jC ls b, e.key.size <= k /\ e.text.size <= k := by
  obtain ⟨y, r, hy⟩ := G1 hne
  have h1 := wM (k := k) ls (uK y) true (A6 _) fun e he => (h e he).2
  have hc : wK ls = pN (uK y) true ls := by rw [hy]; rfl
  have hm : (wK ls).key.size <= k /\ (wK ls).text.size <= k := ⟨by rw [hc, h1.2]; exact (h y (by rw [hy]; exact A5)).1, by rw [hc]; exact h1.1⟩
  intro e he; unfold jC at he
  repeat' split at he
  all_goals first | exact h e he | (cases he; done) | (rw [B6.1 he]; exact hm)
def bFi {ls : List Entry} {ts : List Int} {b : Bool} (h : gY ls) : gY (eC ls ts b) := by
  refine ⟨by have := yY ls ts b; have := h.1; omega, ?_⟩
  unfold eC; split
  . refine yG (fun s hs e he => ?_) _ _
    obtain ⟨l, hl, hel⟩ := List.mem_flatten.1 he
    exact aNk (p := fun e => e.key.size <= 1048576 /\ e.text.size <= 1048576) b (fun c hc b => bSi (fun e he => h.2 e (D2 (D1 ((gN hc).2.2 e he)))) (gN hc).1) l hl e hel
  intro e he; cases he
def aJi (s : Store) (t : Tree) (ht : qJ t.levels) : aB P 53 [stA s, trA t] [] 0 (stA ⟨s.up, t, { s.disk with levels := t.levels }⟩) := by
 refine (pq 13 [.cell 4 40] func53) ?_
 simp only [stA, trA]
 refine (aj) ((aj) ?_)
 refine sr rfl fun k3 => (ja) ((vq func48 ((cO (dR t.levels ht) oG oG : aB P 48 [.sl 1 (t.levels.map rsA)] [] 0 (.sl 1 (t.levels.map rsA))))) (k3 ((aj) (wR ?_))))
 refine fO ?_ ⟨trivial, trivial, enB _ _, aX _ _, bZ _ _, trivial, trivial, aX _ _, trivial, trivial⟩
 exact Ae
section
variable {ls : List Entry} {e : Entry}
def aLw (h : bQ e = true) : (jG e.key = true /\ 1 <= e.seq /\ e.seq <= 100000 /\ nK e.n = true /\ e.text.size <= 60) /\ (e.kind = 1 ∨ (e.kind = 2 /\ e.n = 0) ∨ e.kind = 3) := by
  unfold bQ at h; split at h
  . cases h
  rename_i hb
  have hb' : jP e = false := by simpa using hb
  unfold jP at hb'
  simp only [Bool.or_eq_false_iff, Bool.not_eq_false', decide_eq_false_iff_not] at hb'
  refine ⟨⟨hb'.1.1.1.1, og, og, hb'.1.2, og⟩, ?_⟩
  split at h
  . left; assumption
  split at h
  . right; left; rename_i hk; simp only [C8, decide_eq_true_eq] at h; exact ⟨hk, h.2⟩
  split at h
  . right; right; assumption
  cases h
def bEk (h1 : jG e.key = true) (h2 : 1 <= e.seq /\ e.seq <= 100000) (h3 : nK e.n = true) (h4 : e.text.size <= 60) (h5 : e.kind = 1 ∨ (e.kind = 2 /\ e.text = ⟨#[]⟩ /\ e.n = 0) ∨ (e.kind = 3 /\ e.text = ⟨#[]⟩)) : bQ e = true := by
  have hb : jP e = false := by
    unfold jP; rw [h1, h3]
    simp; omega
  unfold bQ; rw [hb, if_neg oS]
  rcases h5 with h | ⟨h, ht, hn⟩ | ⟨h, ht⟩
  . rw [if_pos h]
  . rw [if_neg og, if_pos h, ht, hn]; simp
  rw [if_neg og, if_neg og, if_pos h, ht]; simp
def bEu : ∀ (ls : List Entry) (o : Entry) (f : Bool), (∀ e ∈ ls, bQ e = true) -> pN o f ls = jI o f ls
  | [], _, _, _ => rfl
  | e :: r, o, f, h => by
    have hk := (aLw (h e A5)).2
    unfold pN jI
    rcases hk with hk | ⟨hk, hn⟩ | hk
    . rw [if_pos hk, if_neg og, if_pos hk]
    . have g1 : ¬ e.kind = 1 := by omega
      have g3 : ¬ e.kind = 3 := by omega
      rw [if_neg g1, if_pos hk, if_neg g3, if_neg g1, hn, Int.add_zero]
    rw [if_neg og, if_neg og, if_pos hk]
    exact bEu r _ false fun x hx => h x (A4 _ hx)
def bQw (h : ∀ e ∈ ls, bQ e = true) : wK ls = jD ls := by
  cases ls with
  | nil => rfl
  | cons y r => exact bEu (y :: r) (uK y) true h
def aUh (n : Int) : (nK n = false) ↔ ((decide (1000000 < n) || decide (n < -1000000)) = true) := by
  unfold nK
  simp
  omega
def bRx (h : ∀ e ∈ ls, bQ e = true) (b : Bool) : jC ls b = sqC ls b := by
  unfold jC sqC; rw [bQw h]
  by_cases hs : nK (jD ls).n = false
  . rw [if_pos hs, if_pos ((aUh _).1 hs)]
  rw [if_neg hs, if_neg (fun e => hs ((aUh _).2 e))]
  cases b with
  | false => simp
  | true =>
    by_cases h2 : (jD ls).kind = 2
    . simp [h2]
    by_cases h3 : (jD ls).kind = 3
    . simp [h3]
    simp [h2, h3]
def aSm {f g : List Entry -> Bool -> List Entry} (b : Bool) : ∀ {cs : List (List Entry)}, (∀ c ∈ cs, ∀ b, f c b = g c b) -> lfL f cs b = lfL g cs b
  | [], _ => rfl
  | c :: r, h => by
    unfold lfL; rw [aSm b (cs := r) fun x hx => h x (A4 _ hx), h c A5]
def bSa {ts : List Int} (h : ∀ e ∈ ls, bQ e = true) (b : Bool) : jK ts ls b = sqK ts ls b := by
  unfold jK sqK; rw [aSm b fun c hc b => bRx (fun e he => h e ((gN hc).2.2 e he)) b]
def aMd {f g : List Entry -> List Entry} {ls : List Entry} (h : ∀ c, (∀ e ∈ c, e ∈ ls) -> f c = g c) : ∀ n s, pD f ls n s = pD g ls n s
  | 0, _ => rfl
  | n + 1, s => by
    unfold pD; rw [aMd h n, h _ fun e he => D2 (D1 he)]
def bGa (ls : List Entry) (ts : List Int) (b : Bool) : eC ls ts b = aK ls ts b := by
  unfold eC aK; split
  . rename_i h
    exact aMd (fun c hc => bSa (fun e he => vN h (hc e he)) b) _ _
  rfl
def kp (e : Entry) : ByteArray × Int := (e.key, e.seq)
def aZh : ∀ (ls : List Entry) (o : Entry) (f : Bool), o.kind = 3 -> o.text = ⟨#[]⟩ -> (f = true -> o.n = 0) -> (∀ e ∈ ls, bQ e = true) ->
    (jI o f ls).key = o.key /\ (jI o f ls).seq = o.seq /\ (jI o f ls).text.size <= 60 /\ ((jI o f ls).kind = 1 ∨ ((jI o f ls).kind = 2 /\ (jI o f ls).text = ⟨#[]⟩ /\ (jI o f ls).n = 0) ∨ ((jI o f ls).kind = 3 /\ (jI o f ls).text = ⟨#[]⟩))
  | [], o, f, hk, ht, hn, _ => ⟨rfl, rfl, by show o.text.size <= 60; rw [ht]; exact A6 _, .inr (.inr ⟨hk, ht⟩)⟩
  | e :: r, o, f, hk, ht, hn, h => by
    have hz : (⟨#[]⟩ : ByteArray).size <= 60 := A6 _
    unfold jI; split
    . exact aZh r { o with n := o.n + e.n } false hk ht (fun h => by cases h) fun x hx => h x (A4 _ hx)
    split
    . exact ⟨rfl, rfl, (aLw (h e A5)).1.2.2.2.2, .inl rfl⟩
    split
    . rename_i hf
      exact ⟨rfl, rfl, by show o.text.size <= 60; rw [ht]; exact hz, .inr (.inl ⟨rfl, ht, hn hf⟩)⟩
    exact ⟨rfl, rfl, by show o.text.size <= 60; rw [ht]; exact hz, .inl rfl⟩
def bNe (h : ∀ e ∈ ls, bQ e = true) {y : Entry} {r : List Entry} (hy : ls = y :: r) : kp (jD ls) = kp y /\
    (nK (jD ls).n = true -> bQ (jD ls) = true /\ ((jD ls).kind = 3 -> bQ { jD ls with kind := 1 } = true)) := by
  have hc : jD ls = jI (uK y) true ls := by rw [hy]; rfl
  obtain ⟨h1, h2, h3, h4⟩ := aZh ls (uK y) true rfl rfl (fun _ => rfl) h
  rw [<- hc] at h1 h2 h3 h4
  have hyo := (aLw (h y (by rw [hy]; exact A5))).1
  have k1 : jG (jD ls).key = true := by rw [h1]; exact hyo.1
  have k2 : 1 <= (jD ls).seq /\ (jD ls).seq <= 100000 := by rw [h2]; exact ⟨hyo.2.1, hyo.2.2.1⟩
  refine ⟨by unfold kp; rw [h1, h2]; rfl, fun hs => ⟨bEk k1 k2 hs h3 h4, fun _ => bEk k1 k2 hs h3 (.inl rfl)⟩⟩
def bBp {c : List Entry} (h : ∀ e ∈ c, bQ e = true) (hne : c ≠ []) (b : Bool) : ((sqC c b).map kp).Sublist (c.map kp) /\ (∀ e ∈ sqC c b, bQ e = true) /\ (b = false -> sqC c b ≠ []) := by
  obtain ⟨y, r, hy⟩ := G1 hne
  obtain ⟨h1, h2⟩ := bNe h hy
  have hs1 : ([jD c].map kp).Sublist (c.map kp) := by rw [hy, List.map_cons, List.map_cons, <- hy, h1]; exact (List.nil_sublist _).cons₂ _
  have hs2 : ([{ jD c with kind := 1 }].map kp).Sublist (c.map kp) := hs1
  unfold sqC; split
  . exact ⟨List.Sublist.refl _, h, fun _ => hne⟩
  rename_i hr
  have hs : nK (jD c).n = true := by
    cases hq : nK (jD c).n with
    | true => rfl
    | false => exact absurd ((aUh _).1 hq) hr
  obtain ⟨g1, g2⟩ := h2 hs
  split
  . rename_i hb
    split
    . exact ⟨List.nil_sublist _, by simp, fun e => by rw [e] at hb; cases hb⟩
    split
    . rename_i hk
      exact ⟨hs2, fun e he => by rw [B6.1 he]; exact g2 hk, fun _ => by simp⟩
    exact ⟨hs1, fun e he => by rw [B6.1 he]; exact g1, fun _ => by simp⟩
  exact ⟨hs1, fun e he => by rw [B6.1 he]; exact g1, fun _ => by simp⟩
def bLl (b : Bool) : ∀ {cs : List (List Entry)}, (∀ c ∈ cs, c ≠ [] /\ ∀ e ∈ c, bQ e = true) -> (((lfL sqC cs b).1.flatten).map kp).Sublist (cs.flatten.map kp) /\ ((lfL sqC cs false).2 = false) /\ (cs ≠ [] -> (lfL sqC cs false).1.flatten ≠ [])
  | [], _ => ⟨by simp [lfL], rfl, fun h => absurd rfl h⟩
  | c :: r, h => by
    obtain ⟨k1, k2, _⟩ := bLl b (cs := r) fun x hx => h x (A4 _ hx)
    have hc := h c A5
    refine ⟨?_, ?_, fun _ e => ?_⟩
    . simp only [lfL, List.flatten_cons, E4]
      exact (bBp hc.2 hc.1 _).1.append k1
    . simp only [lfL, k2, Bool.false_and]
    simp only [lfL, List.flatten_cons, List.append_eq_nil_iff] at e
    rw [k2] at e
    exact (bBp hc.2 hc.1 false).2.2 rfl e.1
def aDg (ts : List Int) (ls : List Entry) : ∀ f s i, f + 1 + i = ls.length + 1 -> s <= i -> (iW ts ls (f + 1) s i).flatten = ls.drop s
  | f, s, i, h, hs => by
    unfold iW; split
    . rename_i hc
      simp only [C8, decide_eq_true_eq] at hc
      obtain ⟨g, rfl⟩ : ∃ g, f = g + 1 := ⟨f - 1, og⟩
      exact aDg ts ls g s (i + 1) og og
    have hsp : (ls.take i).drop s ++ ls.drop i = ls.drop s := by
      have h1 := List.take_append_drop i ls
      have h2 : (ls.take i ++ ls.drop i).drop s = (ls.take i).drop s ++ ls.drop i := List.drop_append_of_le_length (by rw [A7]; omega)
      rw [h1] at h2; exact h2.symm
    rw [List.flatten_cons]
    rcases Nat.eq_zero_or_pos f with h0 | h0
    . subst h0
      have hi : i = ls.length := by omega
      rw [iW, List.flatten_nil, List.append_nil]; rw [hi, List.drop_length, List.append_nil] at hsp
      rw [hi]; exact hsp
    obtain ⟨g, rfl⟩ : ∃ g, f = g + 1 := ⟨f - 1, og⟩
    rw [aDg ts ls g i (i + 1) og og]; exact hsp
def aXq (ts : List Int) (ls : List Entry) : (bM ts ls).flatten = ls := by
  unfold bM
  rcases Nat.eq_zero_or_pos ls.length with h0 | h0
  . rw [h0, iW]; exact (H6 h0).symm
  obtain ⟨g, hg⟩ : ∃ g, ls.length = g + 1 := ⟨ls.length - 1, og⟩
  have := aDg ts ls g 0 1 og og
  rw [hg]; simpa using this
def aTt {ts : List Int} (h : ∀ e ∈ ls, bQ e = true) (b : Bool) : ((sqK ts ls b).map kp).Sublist (ls.map kp) /\ (∀ e ∈ sqK ts ls b, bQ e = true) /\ (ls ≠ [] -> sqK ts ls false ≠ []) := by
  have hc : ∀ c ∈ bM ts ls, c ≠ [] /\ ∀ e ∈ c, bQ e = true := fun c hc => ⟨(gN hc).1, fun e he => h e ((gN hc).2.2 e he)⟩
  obtain ⟨h1, _, h3⟩ := bLl b hc
  rw [aXq] at h1
  refine ⟨h1, bDm fun c hm b => (bBp (hc c hm).2 (hc c hm).1 b).2.1, fun hne => h3 fun e => hne ?_⟩
  have := aXq ts ls
  rw [e] at this; exact this.symm
def aOs {g : List Entry -> List Entry} {ls : List Entry} (h : ∀ c, (∀ e ∈ c, e ∈ ls) -> ((g c).map kp).Sublist (c.map kp)) : ∀ f s, ((pD g ls f s).map kp).Sublist ((ls.drop s).map kp)
  | 0, s => by simp [pD]
  | f + 1, s => by
    unfold pD; split
    . rename_i hs
      have he := uV hs
      have hsp : (ls.take (bS ls s)).drop s ++ ls.drop (bS ls s) = ls.drop s := by
        have h1 := List.take_append_drop (bS ls s) ls
        have h2 : (ls.take (bS ls s) ++ ls.drop (bS ls s)).drop s = (ls.take (bS ls s)).drop s ++ ls.drop (bS ls s) := List.drop_append_of_le_length (by rw [A7]; omega)
        rw [h1] at h2; exact h2.symm
      rw [<- hsp, E4, E4]
      exact (h _ fun e he => D2 (D1 he)).append (aOs h f _)
    exact List.nil_sublist _
def aZs (h1 : ∀ e ∈ ls, bQ e = true) (h2 : ls.Pairwise fun a b => entLt a b = true) : cV ls = true := by
  unfold cV; rw [C4]; intro i hi
  have hlt := List.mem_range.1 hi
  unfold aAu; rw [A1 hlt]
  have g1 := h1 ls[i] (D7 hlt)
  simp only [g1, Bool.not_true, Bool.false_or, Bool.not_eq_true', Bool.and_eq_false_imp, decide_eq_true_eq, Bool.not_eq_false']; intro h0
  have hp : bT ls i = ls[i - 1] := by unfold bT; rw [A1 og]; rfl
  rw [hp]
  exact H7.1 h2 (i - 1) i og hlt og
def ltK (p q : ByteArray × Int) : Bool := Op.bytesLess p.1.toList q.1.toList || (p.1.toList == q.1.toList && decide (q.2 < p.2))
def bCm {ts : List Int} {b : Bool} (h : cV ls = true) : cV (aK ls ts b) = true /\ (ls ≠ [] -> aK ls ts false ≠ []) := by
  have hok := fun e he => vN h (e := e) he
  have hsub : ((aK ls ts b).map kp).Sublist (ls.map kp) := by
    unfold aK; rw [if_pos h]
    have := aOs (g := fun c => sqK ts c b) (ls := ls) (fun c hc => (aTt (fun e he => hok e (hc e he)) b).1) ls.length 0
    simpa using this
  refine ⟨aZs ?_ ?_, fun hne e => ?_⟩
  . unfold aK; rw [if_pos h]
    exact yG (fun s hs e he => (aTt (fun e he => hok e (D2 (D1 he))) b).2.1 e he) _ _
  . have h1 : (ls.map kp).Pairwise fun p q => ltK p q = true := List.pairwise_map.2 (vR h)
    exact List.pairwise_map.1 (h1.sublist hsub)
  unfold aK at e; rw [if_pos h] at e
  have hp := E8.2 hne
  obtain ⟨g, hg⟩ : ∃ g, ls.length = g + 1 := ⟨ls.length - 1, og⟩
  rw [hg, pD, if_pos hp, List.append_eq_nil_iff] at e
  have he := uV hp
  refine (aTt (ts := ts) (ls := (ls.take (bS ls 0)).drop 0) (fun e he => hok e (D2 (D1 he))) false).2.2 (fun e2 => ?_) e.1
  have := congrArg List.length e2
  rw [B0, A7, List.length_nil] at this; omega
end



def aNr {s : Store} (h : cQ s = true) (hu : s.up = true) : bR s.tree = true := by
  unfold cQ at h; rw [if_pos hu] at h; split at h
  . cases h
  unfold upI at h; split at h
  . cases h
  rename_i hb
  unfold aCv at hb
  simp only [F8, not_or] at hb
  have := hb.1.1; simpa using this
def bLo {s : Store} (h : cQ s = true) (hu : s.up = false) : lD s = s := by
  rw [aCg] at h; unfold gB at h; split at h
  . cases h
  split at h
  . cases h
  simp only [hu, B9, if_false, C8] at h
  have ht := aWp h.1
  unfold lD; rw [if_neg (by rw [hu]; simp), <- ht]
section
variable {rs taken beneath : List Run} {ls p : List Entry} {r : Run}
def rngStep (st : ByteArray × ByteArray) (r : Run) : ByteArray × ByteArray := (bOq st.1 (aC r), aTn st.2 (aG r))
def wT (rs : List Run) : Run := (rs[0]?).getD xJ
def aD (rs : List Run) : ByteArray × ByteArray := (rs.drop 1).foldl rngStep (aC (wT rs), aG (wT rs))
def frm (rs : List Run) (low : ByteArray) : Nat := (rs.takeWhile fun r => Op.bytesLess (aG r).toList low.toList).length
def aTm (rs : List Run) (high : ByteArray) : Nat := (rs.takeWhile fun r => !Op.bytesLess high.toList (aC r).toList).length
def aW (rs : List Run) (low high : ByteArray) : Nat := max (frm rs low) (aTm rs high)
def eJ (rs : List Run) (low high : ByteArray) : List Run := (rs.take (aW rs low high)).drop (frm rs low)
def vA (ls : List Entry) (e : Nat) : Bool := decide ((e : Int) < ls.length) && (decide ((e : Int) < 20) || decide ((gA ls e).key = (bT ls e).key))
def cP (ls : List Entry) : Nat -> Nat -> Nat
  | 0, e => e
  | f + 1, e => if vA ls e = true then cP ls f (e + 1) else e
def eZ (ls : List Entry) : Nat := cP ls ls.length 1
def sT : Nat -> List Entry -> List (List Entry)
  | 0, _ => []
  | f + 1, ls => if ls = [] then [] else ls.take (eZ ls) :: sT f (ls.drop (eZ ls))
def wD (ls : List Entry) : List (List Entry) := sT ls.length ls
def pL (ls : List Entry) : List Run × Bool := if (wD ls).all (fun p => (dO p).2) = true then ((wD ls).map fun p => (dO p).1, true) else ([], false)
def bB (taken beneath : List Run) : List Entry := Plain.mergeAll entLt ((taken ++ eJ beneath (aD taken).1 (aD taken).2).map Run.ents)
def xT (taken beneath : List Run) (ts : List Int) (bot : Bool) : List Run × Bool :=
  let made := pL (aK (bB taken beneath) ts bot)
  let f := frm beneath (aD taken).1
  let t := aW beneath (aD taken).1 (aD taken).2
  if (!made.2 || decide (8 < ((beneath.length : Int) - ((t : Int) - (f : Int)) + (made.1.length : Int)))) = true then ([], false) else (beneath.take f ++ made.1 ++ beneath.drop t, true)
def tZ (c : List Run) (all : List Entry) : Bool := decide ((frm c (gA all 0).key : Int) = (aW c (gA all 0).key (gA all (all.length - 1)).key : Int))
def aF (b : List Run) (p : Nat) : List Run := (b.take (p + 1)).drop p
def qG (b : List Run) (p : Nat) : List Run := b.take p ++ b.drop (p + 1)
def dX (t : Tree) (level pick : Int) : Tree × Bool := match t.levels with
  | [a, b, c] =>
    if level = 0 then
      if a = [] then (t, false) else
      if (xT a b t.snaps (tZ c (bB a b))).2 = false then (t, false) else (⟨t.seq, t.mem, [[], (xT a b t.snaps (tZ c (bB a b))).1, c], t.snaps⟩, true)
    else if level = 1 then
      if (decide (pick < 0) || decide ((b.length : Int) <= pick)) = true then (t, false) else
      if (xT (aF b pick.toNat) c t.snaps true).2 = false then (t, false) else (⟨t.seq, t.mem, [a, qG b pick.toNat, (xT (aF b pick.toNat) c t.snaps true).1], t.snaps⟩, true)
    else (t, false)
  | _ => (t, false)
def jR (st : ByteArray × ByteArray) (r : Run) : ByteArray × ByteArray := (if Op.bytesLess (aC r).toList st.1.toList = true then aC r else st.1, if (!(Op.bytesLess (aG r).toList st.2.toList || (aG r).toList == st.2.toList)) = true then aG r else st.2)
def nO (rs : List Run) : ByteArray × ByteArray := (rs.drop 1).foldl jR (aC (wT rs), aG (wT rs))
def iV (low high : ByteArray) (r : Run) : Bool := (Op.bytesLess (aC r).toList high.toList || (aC r).toList == high.toList) && (Op.bytesLess low.toList (aG r).toList || low.toList == (aG r).toList)
def tR (ls : List Entry) (s i : Nat) : Bool := decide ((i : Int) = ls.length) || (decide (20 <= (i : Int) - (s : Int)) && !decide ((gA ls i).key = (bT ls i).key))
def rD (ls : List Entry) : Nat -> Nat -> Nat -> List (List Entry)
  | 0, _, _ => []
  | f + 1, s, i => if tR ls s i = true then (ls.take i).drop s :: rD ls f i (i + 1) else rD ls f s (i + 1)
def uN (ls : List Entry) : List Run := (rD ls ls.length 0 1).map fun p => ⟨p, mA p⟩
def gG (ls : List Run) (r : Run) : Nat -> Nat
  | 0 => 0
  | k + 1 => if (!(Op.bytesLess (aC ((ls[k]?).getD xJ)).toList (aC r).toList || (aC ((ls[k]?).getD xJ)).toList == (aC r).toList)) = true then gG ls r k else k + 1
def pF (ls : List Run) (r : Run) : List Run := ls.take (gG ls r ls.length) ++ [r] ++ ls.drop (gG ls r ls.length)
def sK (a b : List Run) : List Run := b.foldl pF a
def lL (rs : List Run) : Bool := rs.all (fun r => !decide (150 < (r.ents.length : Int))) && decide ((rs.length : Int) <= 8)
def sG (lists : List (List Entry)) : List Entry := lists.flatten.foldl gD []
def bO (taken beneath : List Run) : List Run := taken ++ beneath.filter (iV (nO taken).1 (nO taken).2)
def gX (c : List Run) (all : List Run) : Bool := decide (((c.filter (iV (nO all).1 (nO all).2)).length : Int) = 0)
def qW (taken beneath : List Run) (ts : List Int) (bot : Bool) : List Run := sK (beneath.filter fun r => !iV (nO taken).1 (nO taken).2 r) (uN (eC (sG ((bO taken beneath).map Run.ents)) ts bot))
def mT (t : Tree) (level pick : Int) : Tree × Bool := match t.levels with
  | [a, b, c] =>
    if (decide (level = 0) && decide (0 < (a.length : Int))) = true then
      if lL (qW a b t.snaps (gX c (bO a b))) = false then (t, false) else (⟨t.seq, t.mem, [[], qW a b t.snaps (gX c (bO a b)), c], t.snaps⟩, true)
    else if ((decide (level = 1) && decide (0 <= pick)) && decide (pick < (b.length : Int))) = true then
      if lL (qW (aF b pick.toNat) c t.snaps true) = false then (t, false) else (⟨t.seq, t.mem, [a, qG b pick.toNat, qW (aF b pick.toNat) c t.snaps true], t.snaps⟩, true)
    else (t, false)
  | _ => (t, false)
def leB (x y : List UInt8) : (Op.bytesLess x y || x == y) = !Op.bytesLess y x := by
  cases h : Op.bytesLess y x with
  | true =>
    rw [yA h, Bool.false_or]
    show (x == y) = false
    refine beq_eq_false_iff_ne.2 fun e => ?_
    rw [e, cA] at h; cases h
  | false =>
    cases h2 : Op.bytesLess x y with
    | true => rfl
    | false => rw [wC x y h2 h]; simp
def aWq : jR = rngStep := by
  funext st r
  unfold jR rngStep bOq aTn; rw [leB, leB]
  cases Op.bytesLess (aC r).toList st.1.toList <;> cases h : Op.bytesLess st.2.toList (aG r).toList <;> simp
def aVh (rs : List Run) : nO rs = aD rs := by unfold nO aD; rw [aWq]
def aVe {α : Type} {p : α -> Bool} : ∀ {ls : List α}, (ls.Pairwise fun a b => p b = true -> p a = true) -> ∀ i x, ls[i]? = some x -> (p x = true ↔ i < (ls.takeWhile p).length)
  | [], _, i, x, h => by cases h
  | y :: r, hp, i, x, h => by
    obtain ⟨h1, h2⟩ := List.pairwise_cons.1 hp
    cases hy : p y with
    | true =>
      rw [List.takeWhile_cons_of_pos hy, B7]
      cases i with
      | zero => cases h; exact ⟨fun _ => Nat.succ_pos _, fun _ => hy⟩
      | succ i => rw [aVe h2 i x h]; omega
    | false =>
      rw [List.takeWhile_cons_of_neg (by rw [hy]; simp)]
      refine ⟨fun hx => ?_, fun h => absurd h (I0 _)⟩
      cases i with
      | zero => cases h; rw [hy] at hx; cases hx
      | succ i => have := h1 x (G2 h) hx; rw [hy] at this; cases this
def wY {α : Type} {q : α -> Bool} : ∀ {ls : List α} {f t : Nat}, f <= t -> (∀ i x, ls[i]? = some x -> q x = decide (f <= i /\ i < t)) -> ls.filter q = (ls.take t).drop f /\ ls.filter (fun x => !q x) = ls.take f ++ ls.drop t
  | [], f, t, _, _ => by simp
  | y :: r, f, t, hft, h => by
    have h0 := h 0 y rfl
    match f, t, hft with
    | 0, 0, _ =>
      obtain ⟨g1, g2⟩ := wY (q := q) (ls := r) (f := 0) (t := 0) (A0 _) fun i x hx => (h (i + 1) x hx).trans (decide_eq_decide.2 og)
      have hq : q y = false := by rw [h0]; simp
      simp only [List.filter_cons, hq, g1, g2]
      simp
    | 0, t + 1, _ =>
      obtain ⟨g1, g2⟩ := wY (q := q) (ls := r) (f := 0) (t := t) (A6 _) fun i x hx => (h (i + 1) x hx).trans (decide_eq_decide.2 og)
      have hq : q y = true := by rw [h0]; simp
      simp only [List.filter_cons, hq, g1, g2]
      simp
    | f + 1, t + 1, hft =>
      obtain ⟨g1, g2⟩ := wY (q := q) (ls := r) (f := f) (t := t) og fun i x hx => (h (i + 1) x hx).trans (decide_eq_decide.2 og)
      have hq : q y = false := by rw [h0]; simp
      simp only [List.filter_cons, hq, g1, g2]
      simp
def Lvl (rs : List Run) : Prop := (∀ r ∈ rs, cW r = true) /\ rs.Pairwise fun a b => Op.bytesLess (aG a).toList (aC b).toList = true
def aNn (h : Lvl rs) (low : ByteArray) : ∀ i x, rs[i]? = some x -> (Op.bytesLess (aG x).toList low.toList = true ↔ i < frm rs low) := by
  refine aVe (List.Pairwise.imp_of_mem (fun {a b} ha hb hab hp => ?_) h.2)
  exact sB _ _ _ (rS hab (aEz (h.1 b hb))) hp
def aGa (h : Lvl rs) (high : ByteArray) : ∀ i x, rs[i]? = some x -> ((!Op.bytesLess high.toList (aC x).toList) = true ↔ i < aTm rs high) := by
  refine aVe (List.Pairwise.imp_of_mem (fun {a b} ha hb hab hp => ?_) h.2)
  simp only [Bool.not_eq_true'] at hp ⊢
  cases hq : Op.bytesLess high.toList (aC a).toList with
  | false => rfl
  | true =>
    have := sB _ _ _ (rS hq (aEz (h.1 a ha))) hab
    rw [hp] at this; cases this
def bFz (h : Lvl rs) (low high : ByteArray) : ∀ i x, rs[i]? = some x -> iV low high x = decide (frm rs low <= i /\ i < aW rs low high) := by
  intro i x hx
  have h1 := aNn h low i x hx
  have h2 := aGa h high i x hx
  unfold iV aW; rw [leB, leB, Bool.eq_iff_iff, C8, decide_eq_true_eq, h2]; simp only [Bool.not_eq_true', Bool.eq_false_iff, ne_eq, h1]; omega
def aUa (h : Lvl rs) (low high : ByteArray) : rs.filter (iV low high) = eJ rs low high /\ rs.filter (fun r => !iV low high r) = rs.take (frm rs low) ++ rs.drop (aW rs low high) :=
  wY (by unfold aW; omega) (bFz h low high)
def bQn {x y : Entry} (h1 : entLt x y = false) (h2 : entLt y x = false) : x.key = y.key := by
  have e : x.key.toList = y.key.toList := by
    simp only [entLt, Bool.or_eq_false_iff] at h1 h2
    exact wC _ _ h1.1 h2.1
  have := wF x.key y.key
  rw [e] at this
  simpa using this.symm
def aHw (L : List (List Entry)) : Prop := ∀ x ∈ L.flatten, ∀ y ∈ L.flatten, entLt x y = false -> entLt y x = false -> x = y
def bKp {L : List (List Entry)} (h1 : ∀ l ∈ L, cV l = true) (h2 : L.Pairwise fun a b => mD b a = true) : aHw L := by
  intro x hx y hy e1 e2
  obtain ⟨l1, hl1, hx⟩ := List.mem_flatten.1 hx
  obtain ⟨l2, hl2, hy⟩ := List.mem_flatten.1 hy
  obtain ⟨i, hi, gi⟩ := nC hl1
  obtain ⟨j, hj, gj⟩ := nC hl2
  rw [A1 hi] at gi; rw [A1 hj] at gj
  cases gi; cases gj
  have hk := bQn e1 e2
  have hs := bIp e1 e2
  have hp := H7.1 h2
  rcases Nat.lt_trichotomy i j with h | h | h
  . have := (gW _ _).1 (hp i j hi hj h) y hy x hx hk.symm; omega
  . subst h; exact aHe (vR (h1 _ hl1)) x hx y hy e1 e2
  have := (gW _ _).1 (hp j i hj hi h) x hx y hy hk; omega
def aHc {L M : List (List Entry)} (h : aHw L) (hs : ∀ l ∈ M, l ∈ L) : aHw M := fun x hx y hy => by
  have g : ∀ z ∈ M.flatten, z ∈ L.flatten := fun z hz => by
    obtain ⟨l, hl, hz⟩ := List.mem_flatten.1 hz
    exact List.mem_flatten.2 ⟨l, hs l hl, hz⟩
  exact h x (g x hx) y (g y hy)
def bQv {L : List (List Entry)} (h : aHw L) : Plain.mergeAll entLt L = sG L := by
  have hf : L.flatMap id = L.flatten := by simp [List.flatMap]
  rw [Plain.mergeAll_put mY L (by rw [hf]; exact h) L.flatten (by rw [hf])]
  unfold sG
  congr 1
  funext a b
  exact bLz a b
def bEo : ∀ (rs : List Run) (st : ByteArray × ByteArray), (∀ r ∈ rs, Op.bytesLess (aC r).toList (rs.foldl rngStep st).1.toList = false) /\ Op.bytesLess st.1.toList (rs.foldl rngStep st).1.toList = false /\ ((rs.foldl rngStep st).1 = st.1 ∨ ∃ r ∈ rs, (rs.foldl rngStep st).1 = aC r)
  | [], st => ⟨fun r hr => by (cases hr), cA _, .inl rfl⟩
  | r :: rs, st => by
    obtain ⟨h1, h2, h3⟩ := bEo rs (rngStep st r)
    have e : (rngStep st r).1 = if Op.bytesLess (aC r).toList st.1.toList = true then aC r else st.1 := by rw [<- aWq]; rfl
    have g : Op.bytesLess (aC r).toList (rngStep st r).1.toList = false /\ Op.bytesLess st.1.toList (rngStep st r).1.toList = false /\ ((rngStep st r).1 = st.1 ∨ (rngStep st r).1 = aC r) := by
      rw [e]; split
      . rename_i h; exact ⟨cA _, yA h, .inr rfl⟩
      rename_i h; exact ⟨by simpa using h, cA _, .inl rfl⟩
    refine ⟨fun x hx => ?_, sR _ _ _ g.2.1 h2, ?_⟩
    . rcases B1.1 hx with rfl | hx
      . exact sR _ _ _ g.1 h2
      exact h1 x hx
    rcases h3 with h3 | ⟨x, hx, h3⟩
    . rcases g.2.2 with h4 | h4
      . exact .inl (h3.trans h4)
      exact .inr ⟨r, A5, h3.trans h4⟩
    exact .inr ⟨x, A4 _ hx, h3⟩
def aZa : ∀ (rs : List Run) (st : ByteArray × ByteArray), (∀ r ∈ rs, Op.bytesLess (rs.foldl rngStep st).2.toList (aG r).toList = false) /\ Op.bytesLess (rs.foldl rngStep st).2.toList st.2.toList = false /\ ((rs.foldl rngStep st).2 = st.2 ∨ ∃ r ∈ rs, (rs.foldl rngStep st).2 = aG r)
  | [], st => ⟨fun r hr => by (cases hr), cA _, .inl rfl⟩
  | r :: rs, st => by
    obtain ⟨h1, h2, h3⟩ := aZa rs (rngStep st r)
    have g : Op.bytesLess (rngStep st r).2.toList (aG r).toList = false /\ Op.bytesLess (rngStep st r).2.toList st.2.toList = false /\ ((rngStep st r).2 = st.2 ∨ (rngStep st r).2 = aG r) := by
      show Op.bytesLess (aTn st.2 (aG r)).toList _ = _ /\ Op.bytesLess (aTn st.2 (aG r)).toList _ = _ /\ (aTn st.2 (aG r) = _ ∨ aTn st.2 (aG r) = _)
      unfold aTn; split
      . rename_i h; exact ⟨by simpa using h, cA _, .inl rfl⟩
      rename_i h; exact ⟨cA _, yA (by simpa using h), .inr rfl⟩
    refine ⟨fun x hx => ?_, sR _ _ _ h2 g.2.1, ?_⟩
    . rcases B1.1 hx with rfl | hx
      . exact sR _ _ _ h2 g.1
      exact h1 x hx
    rcases h3 with h3 | ⟨x, hx, h3⟩
    . rcases g.2.2 with h4 | h4
      . exact .inl (h3.trans h4)
      exact .inr ⟨r, A5, h3.trans h4⟩
    exact .inr ⟨x, A4 _ hx, h3⟩
def aTu (hne : rs ≠ []) : (∀ r ∈ rs, Op.bytesLess (aC r).toList (aD rs).1.toList = false /\ Op.bytesLess (aD rs).2.toList (aG r).toList = false) /\ (∃ r ∈ rs, (aD rs).1 = aC r) /\ (∃ r ∈ rs, (aD rs).2 = aG r) := by
  obtain ⟨x, r, rfl⟩ := G1 hne
  obtain ⟨h1, h2, h3⟩ := bEo r (aC x, aG x)
  obtain ⟨k1, k2, k3⟩ := aZa r (aC x, aG x)
  show (∀ y ∈ x :: r, Op.bytesLess (aC y).toList (r.foldl rngStep (aC x, aG x)).1.toList = false /\ Op.bytesLess (r.foldl rngStep (aC x, aG x)).2.toList (aG y).toList = false) /\ (∃ y ∈ x :: r, (r.foldl rngStep (aC x, aG x)).1 = aC y) /\ ∃ y ∈ x :: r, (r.foldl rngStep (aC x, aG x)).2 = aG y
  refine ⟨fun y hy => ?_, ?_, ?_⟩
  . rcases B1.1 hy with rfl | hy
    . exact ⟨h2, k2⟩
    exact ⟨h1 y hy, k1 y hy⟩
  . rcases h3 with h3 | ⟨y, hy, h3⟩
    . exact ⟨x, A5, h3⟩
    exact ⟨y, A4 _ hy, h3⟩
  rcases k3 with k3 | ⟨y, hy, k3⟩
  . exact ⟨x, A5, k3⟩
  exact ⟨y, A4 _ hy, k3⟩
def bJq (hne : rs ≠ []) (hr : ∀ r ∈ rs, cW r = true) {e : Entry} (he : e ∈ (rs.map Run.ents).flatten) : Op.bytesLess e.key.toList (aD rs).1.toList = false /\ Op.bytesLess (aD rs).2.toList e.key.toList = false := by
  obtain ⟨l, hl, he⟩ := List.mem_flatten.1 he
  obtain ⟨r, hm, rfl⟩ := B3.1 hl
  have h1 := (aTu hne).1 r hm
  have h2 := yW (hr r hm) he
  exact ⟨sR _ _ _ h2.1 h1.1, sR _ _ _ h1.2 h2.2⟩
def aMc {a b : ByteArray} (h : a.toList = b.toList) : a = b := by
  have := wF a b
  rw [h] at this
  simpa using this.symm
def aZe (hne : rs ≠ []) (hr : ∀ r ∈ rs, cW r = true) {M : List Entry} (hp : M.Perm (rs.map Run.ents).flatten) (hs : M.Pairwise (Plain.leB entLt)) : M ≠ [] /\ (gA M 0).key = (aD rs).1 /\ (gA M (M.length - 1)).key = (aD rs).2 := by
  have hlen : ∀ r ∈ rs, 0 < r.ents.length := fun r h => by have := eG (hr r h); omega
  have hmem : ∀ r ∈ rs, ∀ i, (h : i < r.ents.length) -> r.ents[i] ∈ M := fun r h i hi => hp.mem_iff.2 (List.mem_flatten.2 ⟨_, D5 h, D7 hi⟩)
  have hkey := fun e (he : e ∈ M) => bJq hne hr (hp.mem_iff.1 he)
  obtain ⟨_, ⟨rl, hrl, el⟩, ⟨rh, hrh, eh⟩⟩ := aTu hne
  have hM : M ≠ [] := fun e => by have := hmem rl hrl 0 (hlen rl hrl); rw [e] at this; cases this
  have hl := E8.2 hM
  have hge := H7.1 hs
  have kle : ∀ a b : Entry, Plain.leB entLt a b -> Op.bytesLess b.key.toList a.key.toList = false := fun a b h => by
    simp only [Plain.leB, entLt, Bool.or_eq_false_iff] at h; exact h.1
  have e0 : gA M 0 = M[0] := by unfold gA; rw [A1 hl]; rfl
  have e1 : gA M (M.length - 1) = M[M.length - 1] := by unfold gA; rw [A1 og]; rfl
  refine ⟨hM, ?_, ?_⟩
  . refine aMc (wC _ _ ?_ ?_)
    . rw [e0]; exact (hkey _ (D7 hl)).1
    have hx := hmem rl hrl 0 (hlen rl hrl)
    obtain ⟨j, hj, gj⟩ := List.mem_iff_getElem.1 hx
    have ek : (aD rs).1 = M[j].key := by rw [el, gj]; unfold aC; rw [A1 (hlen rl hrl)]; rfl
    rw [e0, ek]
    rcases Nat.eq_zero_or_pos j with h0 | h0
    . subst h0; exact cA _
    exact kle _ _ (hge 0 j hl hj h0)
  refine aMc (wC _ _ ?_ ?_)
  . have hx := hmem rh hrh (rh.ents.length - 1) (by have := hlen rh hrh; omega)
    obtain ⟨j, hj, gj⟩ := List.mem_iff_getElem.1 hx
    have ek : (aD rs).2 = M[j].key := by rw [eh, gj]; unfold aG; rw [A1 (by have := hlen rh hrh; omega)]; rfl
    rw [e1, ek]
    rcases Nat.lt_or_ge j (M.length - 1) with h0 | h0
    . exact kle _ _ (hge j (M.length - 1) hj og h0)
    have : j = M.length - 1 := by omega
    subst this; exact cA _
  rw [e1]; exact (hkey _ (D7 og)).2
def aIq (ls : List Entry) : ∀ f e, e <= ls.length -> e <= cP ls f e /\ cP ls f e <= ls.length
  | 0, e, h => ⟨A0 _, h⟩
  | f + 1, e, h => by
    unfold cP; split
    . rename_i hc
      have hlt : e < ls.length := by simp only [vA, C8, decide_eq_true_eq] at hc; omega
      have := aIq ls f (e + 1) hlt
      omega
    exact ⟨A0 _, h⟩
def aAl (h : ls ≠ []) : 1 <= eZ ls /\ eZ ls <= ls.length := aIq ls _ 1 (E8.2 h)
def aYw {s i : Nat} (h : s < i) (hi : i <= ls.length) : vA (ls.drop s) (i - s) = !tR ls s i := by
  have e1 : gA (ls.drop s) (i - s) = gA ls i := by unfold gA; rw [H4, show s + (i - s) = i by omega]
  have e2 : bT (ls.drop s) (i - s) = bT ls i := by unfold bT; rw [H4, show s + (i - s - 1) = i - 1 by omega]
  unfold vA tR; rw [e1, e2, B0]
  by_cases g1 : i = ls.length
  . rw [decide_eq_false (show ¬ (((i - s : Nat) : Int) < ((ls.length - s : Nat) : Int)) by omega), decide_eq_true (show (i : Int) = ls.length by omega)]; rfl
  rw [decide_eq_true (show (((i - s : Nat) : Int) < ((ls.length - s : Nat) : Int)) by omega), decide_eq_false (show ¬ (i : Int) = ls.length by omega)]
  by_cases g2 : 20 <= i - s
  . rw [decide_eq_false (show ¬ ((i - s : Nat) : Int) < 20 by omega), decide_eq_true (show (20 : Int) <= (i : Int) - (s : Int) by omega)]
    by_cases g3 : (gA ls i).key = (bT ls i).key <;> simp [g3]
  rw [decide_eq_true (show ((i - s : Nat) : Int) < 20 by omega), decide_eq_false (show ¬ (20 : Int) <= (i : Int) - (s : Int) by omega)]; rfl
def bDa {ls : List Entry} {s : Nat} : ∀ (d i : Nat), s < i -> i + d = ls.length -> ∀ g, d <= g -> rD ls (d + 1) s i = (ls.take (s + cP (ls.drop s) g (i - s))).drop s :: rD ls (ls.length - (s + cP (ls.drop s) g (i - s))) (s + cP (ls.drop s) g (i - s)) (s + cP (ls.drop s) g (i - s) + 1)
  | 0, i, h, hi, g, _ => by
    have hi : i = ls.length := by omega
    have hc := aYw h (Nat.le_of_eq hi)
    have ha : tR ls s i = true := by unfold tR; rw [decide_eq_true (show (i : Int) = ls.length by omega), Bool.true_or]
    have he : cP (ls.drop s) g (i - s) = i - s := by
      cases g with
      | zero => rfl
      | succ g => unfold cP; rw [hc, ha, if_neg oS]
    rw [he, show s + (i - s) = i by omega]; unfold rD; rw [if_pos ha, show ls.length - i = 0 by omega]
    simp [rD]
  | d + 1, i, h, hi, g, hg => by
    obtain ⟨g, rfl⟩ : ∃ k, g = k + 1 := ⟨g - 1, og⟩
    have hc := aYw h (show i <= ls.length by omega)
    have h1 : rD ls (d + 1 + 1) s i = if tR ls s i = true then (ls.take i).drop s :: rD ls (d + 1) i (i + 1) else rD ls (d + 1) s (i + 1) := rfl
    have h2 : cP (ls.drop s) (g + 1) (i - s) = if vA (ls.drop s) (i - s) = true then cP (ls.drop s) g (i - s + 1) else i - s := rfl
    rw [h1, h2, hc]
    cases ha : tR ls s i with
    | true =>
      simp only [Bool.not_true, B9, if_false, if_true]; rw [show s + (i - s) = i by omega, show ls.length - i = d + 1 by omega]
    | false =>
      simp only [Bool.not_false, B9, if_false, if_true]
      have := bDa (ls := ls) (s := s) d (i + 1) og og g og
      rw [show i + 1 - s = i - s + 1 by omega] at this; exact this
def aKa (ls : List Entry) : ∀ f s, s <= ls.length -> ls.length - s <= f -> sT f (ls.drop s) = rD ls (ls.length - s) s (s + 1)
  | 0, s, h, hf => by rw [show ls.length - s = 0 by omega]; rfl
  | f + 1, s, h, hf => by
    unfold sT
    rcases Nat.eq_or_lt_of_le h with h0 | h0
    . rw [h0, List.drop_length, if_pos rfl, Nat.sub_self]; rfl
    have hne : ls.drop s ≠ [] := by intro e; have := congrArg List.length e; rw [B0, List.length_nil] at this; omega
    have hb := aAl hne
    rw [B0] at hb; rw [if_neg hne, List.drop_drop, aKa ls f (s + eZ (ls.drop s)) og og]
    obtain ⟨d, hd⟩ : ∃ d, ls.length - s = d + 1 := ⟨ls.length - s - 1, og⟩
    have := bDa (ls := ls) (s := s) d (s + 1) og og (ls.drop s).length (by rw [B0]; omega)
    rw [show s + 1 - s = 1 by omega] at this; rw [hd, this]
    have hc : cP (ls.drop s) (ls.drop s).length 1 = eZ (ls.drop s) := rfl
    rw [hc]
    congr 1
    rw [List.take_drop]
def aAn (ls : List Entry) : uN ls = (wD ls).map fun p => ⟨p, mA p⟩ := by
  have := aKa ls ls.length 0 (A6 _) og
  rw [List.drop_zero, Nat.sub_zero] at this; unfold uN wD; rw [this]
def aEr : ∀ f (ls : List Entry), ls.length <= f -> (sT f ls).flatten = ls /\ ∀ p ∈ sT f ls, p ≠ []
  | 0, ls, h => by rw [List.length_eq_zero_iff.1 (Nat.le_zero.1 h)]; exact ⟨rfl, fun p hp => by (cases hp)⟩
  | f + 1, ls, h => by
    unfold sT; split
    . rename_i e; rw [e]; exact ⟨rfl, fun p hp => by (cases hp)⟩
    rename_i hne
    have hb := aAl hne
    obtain ⟨h1, h2⟩ := aEr f (ls.drop (eZ ls)) (by rw [B0]; omega)
    refine ⟨by rw [List.flatten_cons, h1, List.take_append_drop], fun p hp => ?_⟩
    rcases B1.1 hp with rfl | hp
    . intro e; have := congrArg List.length e; rw [A7, List.length_nil] at this; omega
    exact h2 p hp
def bCz {X Y : List Run} {r : Run} (hX : ∀ x ∈ X, Op.bytesLess (aC r).toList (aC x).toList = false) (hY : ∀ y ∈ Y, Op.bytesLess (aC r).toList (aC y).toList = true) : ∀ d, d <= Y.length -> gG (X ++ Y) r (X.length + d) = X.length
  | 0, _ => by
    rcases Nat.eq_zero_or_pos X.length with h0 | h0
    . rw [h0]; rfl
    obtain ⟨k, hk⟩ : ∃ k, X.length = k + 1 := ⟨X.length - 1, og⟩
    rw [Nat.add_zero, hk]; unfold gG; rw [leB, G9 og, A1 og, Option.getD_some, hX _ (D7 _)]
    simp
  | d + 1, h => by
    rw [show X.length + (d + 1) = X.length + d + 1 by omega]; unfold gG; rw [leB, G7 og, show X.length + d - X.length = d by omega, A1 og, Option.getD_some, hY _ (D7 _)]; simp only [Bool.not_true, Bool.not_false, if_true]
    exact bCz hX hY d og
def bOb {X Y : List Run} (hX : ∀ x ∈ X, Op.bytesLess (aC r).toList (aC x).toList = false) (hY : ∀ y ∈ Y, Op.bytesLess (aC r).toList (aC y).toList = true) : pF (X ++ Y) r = X ++ [r] ++ Y := by
  have := bCz hX hY Y.length (A0 _)
  unfold pF; rw [A3, this, List.take_left, List.drop_left]
def aWv : ∀ (M A B : List Run), (∀ m ∈ M, (∀ x ∈ A, Op.bytesLess (aC m).toList (aC x).toList = false) /\ ∀ y ∈ B, Op.bytesLess (aC m).toList (aC y).toList = true) -> (M.Pairwise fun a b => Op.bytesLess (aC b).toList (aC a).toList = false) -> sK (A ++ B) M = A ++ M ++ B
  | [], A, B, _, _ => by simp [sK]
  | m :: M, A, B, h, hp => by
    obtain ⟨p1, p2⟩ := List.pairwise_cons.1 hp
    have hm := h m A5
    have := aWv M (A ++ [m]) B (fun x hx => ⟨fun y hy => ?_, (h x (A4 _ hx)).2⟩) p2
    . unfold sK at this ⊢
      rw [List.foldl_cons, bOb hm.1 hm.2, this]
      simp
    rcases B4.1 hy with hy | hy
    . exact (h x (A4 _ hx)).1 y hy
    rw [B6.1 hy]; exact p1 x hx
def bHw (ls : List Entry) (ts : List Int) (b : Bool) : cV (aK ls ts b) = true /\ ∀ e ∈ aK ls ts b, ∃ f ∈ ls, e.key = f.key := by
  cases ho : cV ls with
  | false => unfold aK; rw [ho]; exact ⟨rfl, fun e he => by (cases he)⟩
  | true =>
    refine ⟨(bCm ho).1, fun e he => ?_⟩
    have hok := fun e he => vN ho (e := e) he
    have hsub : ((aK ls ts b).map kp).Sublist (ls.map kp) := by
      unfold aK; rw [if_pos ho]
      have := aOs (g := fun c => sqK ts c b) (ls := ls) (fun c hc => (aTt (fun e he => hok e (hc e he)) b).1) ls.length 0
      simpa using this
    obtain ⟨f, hf, e2⟩ := B3.1 (hsub.subset (D5 he))
    exact ⟨f, hf, (congrArg Prod.fst e2).symm⟩
def bFh (h : cV ls = true) (hs : p.Sublist ls) : cV p = true :=
  aZs (fun e he => vN h (hs.subset he)) ((vR h).sublist hs)
def bBw (h : cV p = true) (hne : p ≠ []) : (dO p).2 = !decide (150 < (p.length : Int)) /\ ((dO p).2 = true -> (dO p).1 = ⟨p, mA p⟩) := by
  have hl := E8.2 hne
  unfold dO; rw [aRq h]
  by_cases h1 : 150 < p.length
  . rw [if_pos (.inl (.inr h1)), decide_eq_true (show (150 : Int) < p.length by omega)]
    exact ⟨rfl, fun e => by cases e⟩
  rw [if_neg (fun hb => by
    rcases hb with (hb | hb) | hb
    . omega
    . exact h1 hb
    rw [h] at hb; cases hb), decide_eq_false (show ¬ (150 : Int) < p.length by omega)]
  exact ⟨rfl, fun _ => rfl⟩
def bOv (h : cV ls = true) : (pL ls).2 = (uN ls).all (fun r => !decide (150 < (r.ents.length : Int))) /\ ((pL ls).2 = true -> (pL ls).1 = uN ls) := by
  obtain ⟨h1, h2⟩ := aEr ls.length ls (A0 _)
  have hin : ∀ p ∈ wD ls, cV p = true /\ p ≠ [] := fun p hp => ⟨bFh h (by rw [<- h1]; exact I1 hp), h2 p hp⟩
  have ha : (wD ls).all (fun p => (dO p).2) = (uN ls).all (fun r => !decide (150 < (r.ents.length : Int))) := by
    rw [aAn, List.all_map, Bool.eq_iff_iff, C4, C4]
    exact ⟨fun g p hp => by rw [Function.comp]; show (!decide (150 < (p.length : Int))) = true; rw [<- (bBw (hin p hp).1 (hin p hp).2).1]; exact g p hp, fun g p hp => by rw [(bBw (hin p hp).1 (hin p hp).2).1]; exact g p hp⟩
  unfold pL; rw [<- ha]; split
  . rename_i hc
    refine ⟨hc.symm, fun _ => ?_⟩
    rw [aAn]
    exact D9 fun p hp => (bBw (hin p hp).1 (hin p hp).2).2 (C4.1 hc p hp)
  rename_i hc
  exact ⟨by simpa using hc, fun e => by cases e⟩
def bNz (h : cV ls = true) : (∀ r ∈ uN ls, ∃ e ∈ ls, aC r = e.key) /\ (uN ls).Pairwise fun a b => Op.bytesLess (aC b).toList (aC a).toList = false := by
  obtain ⟨h1, h2⟩ := aEr ls.length ls (A0 _)
  have hk : ∀ p ∈ wD ls, ∃ e ∈ p, aC (⟨p, mA p⟩ : Run) = e.key := fun p hp => by
    obtain ⟨y, r, rfl⟩ := G1 (h2 p hp)
    exact ⟨y, A5, rfl⟩
  have hp : (wD ls).Pairwise fun p q => ∀ x ∈ p, ∀ y ∈ q, entLt x y = true := by
    have := vR h
    rw [<- h1] at this
    exact (List.pairwise_flatten.1 this).2
  rw [aAn]
  refine ⟨fun r hr => ?_, ?_⟩
  . obtain ⟨p, hp, rfl⟩ := B3.1 hr
    obtain ⟨e, he, ek⟩ := hk p hp
    exact ⟨e, by rw [<- h1]; exact List.mem_flatten.2 ⟨p, hp, he⟩, ek⟩
  rw [List.pairwise_map]
  refine List.Pairwise.imp_of_mem (fun {p q} hp hq g => ?_) hp
  obtain ⟨x, hx, ex⟩ := hk p hp
  obtain ⟨y, hy, ey⟩ := hk q hq
  rw [ex, ey]
  exact bAk (g x hx y hy)
def aAo {low high : ByteArray} (h : r ∈ eJ rs low high) : r ∈ rs := D2 (D1 h)
def bIl {ts : List Int} {bot : Bool} (ht : taken ≠ []) (hr : ∀ r ∈ taken, cW r = true) (hb : Lvl beneath) (ha : aHw ((taken ++ beneath).map Run.ents)) :
    xT taken beneath ts bot = if lL (qW taken beneath ts bot) = true then (qW taken beneath ts bot, true) else ([], false) := by
  obtain ⟨q1, q2⟩ := aUa hb (aD taken).1 (aD taken).2
  have hall : bO taken beneath = taken ++ eJ beneath (aD taken).1 (aD taken).2 := by unfold bO; rw [aVh, q1]
  have hAr : ∀ r ∈ taken ++ eJ beneath (aD taken).1 (aD taken).2, cW r = true := fun r h => by
    rcases B4.1 h with h | h
    . exact hr r h
    exact hb.1 r (aAo h)
  have hm : bB taken beneath = sG ((bO taken beneath).map Run.ents) := by
    rw [hall]
    refine bQv (aHc ha fun l hl => ?_)
    obtain ⟨r, h, rfl⟩ := B3.1 hl
    refine D5 ?_
    rcases B4.1 h with h | h
    . exact List.mem_append_left _ h
    exact List.mem_append_right _ (aAo h)
  have hperm : (bB taken beneath).Perm ((taken ++ eJ beneath (aD taken).1 (aD taken).2).map Run.ents).flatten := by
    have := (Plain.mergeAll_ok mY ((taken ++ eJ beneath (aD taken).1 (aD taken).2).map Run.ents)).1
    have hf : ∀ L : List (List Entry), L.flatMap id = L.flatten := fun L => by simp [List.flatMap]
    rw [hf] at this; exact this
  obtain ⟨s1, s2⟩ := bHw (bB taken beneath) ts bot
  obtain ⟨c1, c2⟩ := bOv s1
  obtain ⟨l1, l2⟩ := bNz s1
  have hsq : eC (sG ((bO taken beneath).map Run.ents)) ts bot = aK (bB taken beneath) ts bot := by rw [<- hm]; exact bGa _ _ _
  generalize hL : aK (bB taken beneath) ts bot = L at s1 s2 c1 c2 l1 l2 hsq
  generalize hf : frm beneath (aD taken).1 = f at q2
  generalize hto : aW beneath (aD taken).1 (aD taken).2 = t at q2
  have hft : f <= t /\ t <= beneath.length := by
    rw [<- hf, <- hto]; unfold aW
    have h1 : frm beneath (aD taken).1 <= beneath.length := List.Sublist.length_le (List.takeWhile_sublist _)
    have h2 : aTm beneath (aD taken).2 <= beneath.length := List.Sublist.length_le (List.takeWhile_sublist _)
    omega
  have hord : qW taken beneath ts bot = beneath.take f ++ uN L ++ beneath.drop t := by
    unfold qW; rw [aVh, q2, hsq]
    refine aWv _ _ _ (fun m hm => ?_) l2
    obtain ⟨e, he, ek⟩ := l1 m hm
    obtain ⟨g, hg, ek2⟩ := s2 e he
    rw [ek, ek2]
    obtain ⟨l, hl, hgl⟩ := List.mem_flatten.1 (hperm.mem_iff.1 hg)
    obtain ⟨r, hrm, rfl⟩ := B3.1 hl
    have hrk := yW (hAr r hrm) hgl
    have hfc := aNn hb (aD taken).1
    have huc := aGa hb (aD taken).2
    have hpw := H7.1 hb.2
    refine ⟨fun x hx => ?_, fun y hy => ?_⟩
    . obtain ⟨i, hi, gi⟩ := List.mem_iff_getElem.1 hx
      have hi2 : i < f := by rw [A7] at hi; omega
      rw [List.getElem_take] at gi
      have hxr := hb.1 x (D2 hx)
      have hlow := aEz hxr
      have hgt : Op.bytesLess (aG x).toList g.key.toList = true := by
        rcases B4.1 hrm with h | h
        . have h1 := (hfc i x (by rw [A1 og, gi])).2 og
          exact rS (rS h1 ((aTu ht).1 r h).1) hrk.1
        rw [eJ, hf, hto] at h
        obtain ⟨j, hj, gj⟩ := List.mem_iff_getElem.1 h
        rw [B0, A7] at hj; rw [List.getElem_drop, List.getElem_take] at gj
        have h1 := hpw i (f + j) og og og
        rw [gi, gj] at h1
        exact rS h1 hrk.1
      exact yA (aDq hlow hgt)
    obtain ⟨i, hi, gi⟩ := List.mem_iff_getElem.1 hy
    rw [B0] at hi; rw [List.getElem_drop] at gi
    rcases B4.1 hrm with h | h
    . have h1 : ¬ (!Op.bytesLess (aD taken).2.toList (aC y).toList) = true := fun hc => by
        have := (huc (t + i) y (by rw [A1 og, gi])).1 hc
        have h3 : aTm beneath (aD taken).2 <= t := by rw [<- hto]; unfold aW; omega
        omega
      have h1 : Op.bytesLess (aD taken).2.toList (aC y).toList = true := by simpa using h1
      exact aDq (sR _ _ _ ((aTu ht).1 r h).2 hrk.2) h1
    . rw [eJ, hf, hto] at h
      obtain ⟨j, hj, gj⟩ := List.mem_iff_getElem.1 h
      rw [B0, A7] at hj; rw [List.getElem_drop, List.getElem_take] at gj
      have h1 := hpw (f + j) (t + i) og og og
      rw [gi, gj] at h1
      exact aDq hrk.2 h1
  have hfit : lL (qW taken beneath ts bot) = ((pL L).2 && !decide (8 < ((beneath.length : Int) - ((t : Int) - (f : Int)) + ((uN L).length : Int)))) := by
    rw [hord, c1]; unfold lL
    have h150 : ∀ r ∈ beneath, (!decide (150 < (r.ents.length : Int))) = true := fun r h => by have := eG (hb.1 r h); simp; omega
    have e1 : (beneath.take f).all (fun r => !decide (150 < (r.ents.length : Int))) = true := C4.2 fun r h => h150 r (D2 h)
    have e2 : (beneath.drop t).all (fun r => !decide (150 < (r.ents.length : Int))) = true := C4.2 fun r h => h150 r (D1 h)
    rw [List.all_append, List.all_append, e1, e2, Bool.true_and, Bool.and_true]
    congr 1
    rw [A3, A3, A7, B0, Bool.eq_iff_iff]; simp only [decide_eq_true_eq, Bool.not_eq_true', decide_eq_false_iff_not]; omega
  unfold xT; simp only [hL, hf, hto]; rw [hfit]
  cases hc : (pL L).2 with
  | false => simp
  | true =>
    rw [c2 hc, hord]
    cases decide (8 < ((beneath.length : Int) - ((t : Int) - (f : Int)) + ((uN L).length : Int))) <;> simp
def bQm {taken beneath c : List Run} (ht : taken ≠ []) (hr : ∀ r ∈ taken, cW r = true) (hb : Lvl beneath) (hc : Lvl c) : tZ c (bB taken beneath) = gX c (bO taken beneath) := by
  obtain ⟨q1, _⟩ := aUa hb (aD taken).1 (aD taken).2
  have hall : bO taken beneath = taken ++ eJ beneath (aD taken).1 (aD taken).2 := by unfold bO; rw [aVh, q1]
  have hAr : ∀ r ∈ taken ++ eJ beneath (aD taken).1 (aD taken).2, cW r = true := fun r h => by
    rcases B4.1 h with h | h
    . exact hr r h
    exact hb.1 r (aAo h)
  obtain ⟨g1, g2⟩ := Plain.mergeAll_ok mY ((taken ++ eJ beneath (aD taken).1 (aD taken).2).map Run.ents)
  have hf : ∀ L : List (List Entry), L.flatMap id = L.flatten := fun L => by simp [List.flatMap]
  rw [hf] at g1
  obtain ⟨_, e1, e2⟩ := aZe (by simp [ht]) hAr g1 g2
  unfold tZ gX; rw [hall, aVh]; unfold bB; rw [e1, e2, (aUa hc _ _).1]
  generalize (aD (taken ++ eJ beneath (aD taken).1 (aD taken).2)).1 = lo
  generalize (aD (taken ++ eJ beneath (aD taken).1 (aD taken).2)).2 = hi
  unfold eJ; rw [B0, A7, Bool.eq_iff_iff]
  have h1 : frm c lo <= c.length := List.Sublist.length_le (List.takeWhile_sublist _)
  have h2 : aTm c hi <= c.length := List.Sublist.length_le (List.takeWhile_sublist _)
  unfold aW; simp only [decide_eq_true_eq]; omega
def bDh {t : Tree} (h : bR t = true) (level pick : Int) : dX t level pick = mT t level pick := by
  unfold bR at h; split at h
  . cases h
  rename_i hb
  unfold qP at hb
  simp only [F8, decide_eq_true_eq, Bool.not_eq_true', decide_eq_false_iff_not, not_or] at hb
  split at h
  . cases h
  rename_i hb2
  obtain ⟨a, b, c, hlv⟩ : ∃ a b c, t.levels = [a, b, c] := by
    have h3 : t.levels.length = 3 := by omega
    match hl : t.levels, h3 with
    | [a, b, c], _ => exact ⟨a, b, c, rfl⟩
  split at h
  . cases h
  rename_i hb3
  have hb3 : vV t.levels = true := by simpa using hb3
  unfold vV at hb3; rw [jZ, hlv] at hb3
  have l0 := hb3 0 oS
  have l1 := hb3 1 oS
  have l2 := hb3 2 oS
  simp only [List.getElem?_cons_zero, List.getElem?_cons_succ, Option.getD_some] at l0 l1 l2
  obtain ⟨_, b0, -⟩ := (gH _ _).1 l0
  obtain ⟨_, b1, c1⟩ := (gH _ _).1 l1
  obtain ⟨_, b2, c2⟩ := (gH _ _).1 l2
  have v1 : Lvl b := ⟨b1, aDh (c1 og) b1⟩
  have v2 : Lvl c := ⟨b2, aDh (c2 og) b2⟩
  have hlay : iU t.levels t.mem = (c.map Run.ents ++ (b.map Run.ents ++ a.map Run.ents)) ++ [t.mem] := by unfold iU; rw [hlv]; simp
  have hpw := ((wA _ _ _).1 h).2
  rw [hlay] at hpw
  have hal : aHw (c.map Run.ents ++ (b.map Run.ents ++ a.map Run.ents)) := by
    refine bKp (fun l hl => ?_) (List.pairwise_append.1 hpw).1
    have g : ∀ r : Run, cW r = true -> cV r.ents = true := fun r hr => by simp only [cW, C8] at hr; exact hr.1.2
    simp only [B4, B3] at hl
    rcases hl with ⟨r, hr, rfl⟩ | ⟨r, hr, rfl⟩ | ⟨r, hr, rfl⟩
    . exact g r (b2 r hr)
    . exact g r (b1 r hr)
    exact g r (b0 r hr)
  unfold dX mT; simp only [hlv]
  by_cases h0 : level = 0
  . subst h0
    by_cases ha : a = []
    . subst ha; simp
    have hl := E8.2 ha
    have hA : aHw ((a ++ b).map Run.ents) := aHc hal fun l hl => by
      rw [E4, B4] at hl; simp only [B4]
      exact hl.elim (fun h => .inr (.inr h)) fun h => .inr (.inl h)
    rw [if_pos rfl, if_neg ha, bIl ha b0 v1 hA, bQm ha b0 v1 v2, if_pos (show (decide ((0 : Int) = 0) && decide (0 < (a.length : Int))) = true by simp; exact hl)]
    cases hf : lL (qW a b t.snaps (gX c (bO a b))) <;> simp
  rw [if_neg h0, if_neg (show ¬ (decide (level = 0) && decide (0 < (a.length : Int))) = true by simp [h0])]
  by_cases h1 : level = 1
  . subst h1; rw [if_pos rfl]
    by_cases hp : 0 <= pick /\ pick < (b.length : Int)
    . rw [if_neg (show ¬ (decide (pick < 0) || decide ((b.length : Int) <= pick)) = true by simp; omega), if_pos (show ((decide ((1 : Int) = 1) && decide (0 <= pick)) && decide (pick < (b.length : Int))) = true by simp; omega)]
      have hne : aF b pick.toNat ≠ [] := by
        intro e
        have := congrArg List.length e
        unfold aF at this; rw [B0, A7, List.length_nil] at this; omega
      have hsub : ∀ r ∈ aF b pick.toNat, r ∈ b := fun r hr => D2 (D1 hr)
      have hA : aHw ((aF b pick.toNat ++ c).map Run.ents) := aHc hal fun l hl => by
        rw [E4, B4] at hl; simp only [B4]
        refine hl.elim (fun h => ?_) fun h => .inl h
        obtain ⟨r, hr, rfl⟩ := B3.1 h
        exact .inr (.inl (D5 (hsub r hr)))
      rw [bIl hne (fun r hr => b1 r (hsub r hr)) v2 hA]
      cases hf : lL (qW (aF b pick.toNat) c t.snaps true) <;> simp
    rw [if_pos (show (decide (pick < 0) || decide ((b.length : Int) <= pick)) = true by simp; omega), if_neg (show ¬ ((decide ((1 : Int) = 1) && decide (0 <= pick)) && decide (pick < (b.length : Int))) = true by simp; omega)]
  rw [if_neg h1, if_neg (by simp [h1])]
end
def xM (rs : List Run) (level pick : Int) : List Run × List Run × Bool := if level = 0 then (rs, [], decide (0 < (rs.length : Int))) else if (decide (pick < 0) || decide ((rs.length : Int) <= pick)) = true then ([], [], false) else (aF rs pick.toNat, qG rs pick.toNat, true)
def bKh (rs : List Run) (k : ByteArray) : frm rs k <= rs.length := List.Sublist.length_le (List.takeWhile_sublist _)
def bEe (rs : List Run) (k : ByteArray) : aTm rs k <= rs.length := List.Sublist.length_le (List.takeWhile_sublist _)
def bHy {ls : List Entry} (h : ls ≠ []) : ∀ f, ls.length <= f -> sT f ls = ls.take (eZ ls) :: sT (f - 1) (ls.drop (eZ ls))
  | 0, hf => absurd (List.length_eq_zero_iff.1 (Nat.le_zero.1 hf)) h
  | f + 1, _ => by
    conv => lhs; unfold sT
    rw [if_neg h]; rfl
def bGr (ls : List Entry) : ∀ f, ls.length <= f -> sT f ls = wD ls := by
  intro f hf
  have h1 := aKa ls f 0 (A6 _) og
  have h2 := aKa ls ls.length 0 (A6 _) og
  rw [List.drop_zero] at h1 h2
  exact h1.trans h2.symm
def aQz {ls : List Entry} (h : ls ≠ []) : wD ls = ls.take (eZ ls) :: wD (ls.drop (eZ ls)) := by
  have hl := E8.2 h
  have hb := aAl h
  have := bHy h ls.length (A0 _)
  rw [bGr (ls.drop (eZ ls)) (ls.length - 1) (by rw [B0]; omega)] at this
  exact this
def aYf {ls : List Entry} {e f : Nat} (h : vA ls e = true) : cP ls (f + 1) e = cP ls f (e + 1) := by rw [cP, if_pos h]
def aIl {ls : List Entry} {e f : Nat} (h : vA ls e = false) : cP ls f e = e := by
  cases f with
  | zero => rfl
  | succ f => rw [cP, h]; rfl
def xL (rs : List Run) (level pick : Int) (hl : rs.length <= 1000000) : aB P 86 [rsA rs, Ni level, Ni pick] [] 0 (.tup [.sl 2 ((xM rs level pick).1.map rA), .sl 2 ((xM rs level pick).2.1.map rA), .raw (.bool (xM rs level pick).2.2)]) := by
 refine (pq 39 [.tmp 6, .tmp 7, .tmp 8] func86) ?_
 simp only [rsA]
 have hmx := mxl
 refine (aj) ?_
 refine sq fun k2 => wb ((aj) ((cdA) ?_ ?_)) <;> intro hc1
 . have h9 : xM rs level pick = (rs, [], decide (0 < (rs.length : Int))) := if_pos (by simpa using hc1)
   refine (aj) ?_
   refine dZ (t := 7) 109 2 rfl dg ?_
   refine (ja) ?_
   refine aFz 0 rfl ?_
   refine (Ag) (wR ((Ad) ?_))
   refine fO ?_ ⟨bX _ _, bX _ _, trivial, trivial⟩
   exact Bn h9
 have hl0 : ¬ level = 0 := by simpa using hc1
 refine (aj) ((cdA) ?_ ?_) <;> intro hc2
 . have h9 : xM rs level pick = ([], [], false) := (if_neg hl0).trans (if_pos hc2)
   refine (aj) ?_
   refine dZ (t := 6) 109 2 rfl dg ?_
   refine (ja) ?_
   refine dZ (t := 7) 109 2 rfl dg ?_
   refine (ja) ?_
   refine aFz 0 rfl ?_
   refine (Ag) ?_
   refine aFz 1 rfl ?_
   refine (Ag) (wR ((Ad) ?_))
   refine fO ?_ ⟨bX _ _, bX _ _, trivial, trivial⟩
   exact Bn h9
 have h9 : xM rs level pick = (aF rs pick.toNat, qG rs pick.toNat, true) := (if_neg hl0).trans (if_neg (by rw [hc2]; simp))
 have hp0 : 0 <= pick /\ pick < (rs.length : Int) := by simp at hc2; omega
 obtain ⟨p, rfl⟩ := Int.eq_ofNat_of_zero_le hp0.1
 have hwp := wiS p og
 have htl : (rs.map rA).take rs.length = rs.map rA := List.take_of_length_le oS
 refine wk ((jt) (k2 ?_))
 refine sdT 12 mixed rfl fun k7 => ?_
 simp only [go_sem, hwp, Int.toNat_natCast, A2, Int.toNat_zero, htl]
 refine (jr) ?_
 refine aM (fun hN => aAd (e := 107) (sz := 1) (xs := [rsA (rs.take p), rsA (rs.drop (p + 1))]) rfl hN (by simp only [go_sem, rsA, D0, E5, Int.toNat_zero, htl]) trivial oS) (.inr dg) ?_
 simp only [go_sem, fzL, AV.fz, qS, rsA, hwp, Int.toNat_natCast, A2, Int.toNat_zero, htl]
 refine (jr) ?_
 refine tp rfl rfl rfl ⟨func91, rfl, rfl⟩ (aGy [rs.take p, rs.drop (p + 1)] oS (by simp; omega)) Ai Ai ?_
 simp only [go_sem, List.flatten_cons, List.flatten_nil, List.append_nil]
 refine (jr) ((jy) (k7 (wR ?_)))
 refine fO ?_ ⟨bX _ _, bX _ _, trivial, trivial⟩
 simp only [go_sem, h9, aF, qG, E4, D0, E5]
def aMb (q : Run) (qs : List Run) (hq : 1 <= q.ents.length /\ q.ents.length <= 1048576) (hr : ∀ r ∈ qs, 1 <= r.ents.length /\ r.ents.length <= 1048576) (hl : qs.length <= 1000000) : aB P 87 [rsA (q :: qs)] [] 0 (.tup [.raw (.string (aD (q :: qs)).1), .raw (.string (aD (q :: qs)).2)]) := by
 refine (pq 34 [.tmp 2, .tmp 3] func87) ?_
 simp only [rsA, List.map_cons]
 have hg : aD (q :: qs) = qs.foldl rngStep (aC q, aG q) := rfl
 refine (aj) ?_
 refine sd mixed rfl fun k2 => ?_
 simp only [go_sem, rA, Int.toNat_zero, List.getElem?_cons_zero]
 refine (jr) ?_
 refine tp rfl rfl rfl ⟨func135, rfl, rfl⟩ (pV q hq.1) Ac Ac ?_
 simp only [go_sem, rA, Int.toNat_zero, List.getElem?_cons_zero]
 refine (jr) ?_
 refine tp rfl rfl rfl ⟨func136, rfl, rfl⟩ (mV q hq.1 og) Ac Ac ?_
 refine (ja) ((jr) ((jy) (k2 (sq fun k3 => sr rfl fun k4 => ?_))))
 simp only [go_sem, B7, A2]
 refine (jr) (k4 (wb ?_))
 refine wn qs.length (fun x => ([(4, .raw (.string ((qs.take x).foldl rngStep (aC q, aG q)).1)), (5, .raw (.string ((qs.take x).foldl rngStep (aC q, aG q)).2)), (17, .sl 2 (qs.map rA)), (18, Ni (qs.length : Int)), (19, Ni (x : Int))], [])) 0 [] ?_ ?_
 . simp only [go_sem, List.take_zero, List.foldl_nil, Int.natCast_zero] <;> simp [List.take_of_length_le]
 rintro i hi
 refine (aj) ?_
 refine sq fun k6 => (cdB) ?_ ?_ <;> intro hc1
 . have hge := gec hc1
   have hie : i = qs.length := by omega
   subst hie; rw [C6]
   refine we ((jt) (k3 ((aj) (wR ?_))))
   refine fO ?_ ⟨trivial, trivial, trivial⟩
   exact Ab hg
 obtain ⟨hlt, l, hlx, hdrop, hml⟩ := ixc hc1
 have hst : (qs.take (i + 1)).foldl rngStep (aC q, aG q) = rngStep ((qs.take i).foldl rngStep (aC q, aG q)) l := by rw [E7, hlx, List.foldl_append]; rfl
 refine wk (k6 (sq fun k7 => wb (sr rfl fun k8 => (Ao hlx) ((jr) (k8 (sr rfl fun k9 => (Bw) ?_))))))
 refine (vr rfl rfl rfl func135 (pV l (hr l hml).1) Ac Ac) (k9 (wg rfl ((Bw) ?_)))
 refine (vr rfl rfl rfl func136 (mV l (hr l hml).1 (by have := (hr l hml).2; omega)) Ac Ac) ((jt) (k7 ((jw (wiS i og)) ((jt) ?_))))
 refine ⟨i + 1, og, og, [], ?_⟩
 simp only [go_sem, hst, rngStep] <;> simp
def aFq (rs : List Run) (k : ByteArray) (i : Nat) (r : Run) (hx : rs[i]? = some r) (hr : 1 <= r.ents.length /\ r.ents.length <= 1048576) : aH P 138 [Ni (i : Int), .ptr 0 0, .ptr 1 0] [(0, .cells 107 [.sl 2 (rs.map rA)]), (1, .cells 9 [Ns k])] 2 (Nb (!Op.bytesLess (aG r).toList k.toList)) [(0, .cells 107 [.sl 2 (rs.map rA)]), (1, .cells 9 [Ns k])] 2 := by
 refine (gq 12 [.tmp 4] func138) ?_
 have hlt := (A9.1 hx).1
 refine (aj) ?_
 refine sd mixed rfl fun k2 => (Ao hx) ((jr) ?_)
 refine tp rfl rfl rfl ⟨func136, rfl, rfl⟩ (mV r hr.1 og) Ac Ac ?_
 refine (ja) ((jr) ((jy) (k2 (wR ?_))))
 refine ⟨[], ?_⟩; exact jz
def aFy (rs : List Run) (k : ByteArray) (i : Nat) (r : Run) (hx : rs[i]? = some r) (hr : 1 <= r.ents.length /\ r.ents.length <= 1048576) : aH P 139 [Ni (i : Int), .ptr 0 0, .ptr 1 0] [(0, .cells 107 [.sl 2 (rs.map rA)]), (1, .cells 9 [Ns k])] 2 (Nb (!(Op.bytesLess (aC r).toList k.toList || (aC r).toList == k.toList))) [(0, .cells 107 [.sl 2 (rs.map rA)]), (1, .cells 9 [Ns k])] 2 := by
 refine (gq 12 [.tmp 4] func139) ?_
 have hlt := (A9.1 hx).1
 refine (aj) ?_
 refine sd mixed rfl fun k2 => (Ao hx) ((jr) ?_)
 refine tp rfl rfl rfl ⟨func135, rfl, rfl⟩ (pV r hr.1) Ac Ac ?_
 refine (ja) ((jr) ((jy) (k2 (wR ?_))))
 refine ⟨[], ?_⟩; exact jz
def bHb (rs : List Run) (k : ByteArray) (m : Nat) (hm : m <= rs.length) (hl : rs.length <= 1000000) (hr : ∀ r ∈ rs, 1 <= r.ents.length /\ r.ents.length <= 1048576) (hc : ∀ i r, rs[i]? = some r -> ((!Op.bytesLess (aG r).toList k.toList) = true ↔ m <= i)) : aH P 137 [Ni (rs.length : Int), .fn (.func 138) [] [.ptr 0 0, .ptr 1 0]] [(0, .cells 107 [.sl 2 (rs.map rA)]), (1, .cells 9 [Ns k])] 2 (Ni (m : Int)) [(0, .cells 107 [.sl 2 (rs.map rA)]), (1, .cells 9 [Ns k])] 2 := by
 refine (gq 26 [.tmp 4] func137) ((aj) ((aj) ?_))
 refine sq fun k3 => wb ?_
 refine wl (α := Nat × Nat) (fun x => x.1 <= m /\ m <= x.2 /\ x.2 <= rs.length) (fun x => x.2 - x.1) (fun x => ([(1, .fn (.func 138) [] [.ptr 0 0, .ptr 1 0]), (5, Ni (x.1 : Int)), (6, Ni (x.2 : Int))], [(0, .cells 107 [.sl 2 (rs.map rA)]), (1, .cells 9 [Ns k])])) 2 (0, rs.length) ⟨A6 _, hm, A0 _⟩ [] ?_ ?_
 . exact jp
 rintro ⟨i, j⟩ ⟨hi, hj, hjl⟩
 simp only at hi hj hjl ⊢
 refine sq fun k4 => (aj) ((cdB) ?_ ?_) <;> intro hc1
 . have hge : ¬ i < j := by simpa using hc1
   have hie : i = m := by omega
   subst hie
   refine we ((jt) (k3 ((aj) (wR ?_))))
   refine ⟨[], ?_⟩; exact jz
 have hlt : i < j := by simpa using hc1
 obtain ⟨r, hrx, _, hrm⟩ := ix (xs := rs) (i := (i + j) / 2) og
 have hcx := hc _ r hrx
 have hma := wr ((i : Int) + (j : Int)) (((i + j : Nat) : Int)) og
 have hmb : IntKind.u64.wrap ((i + j : Nat) : Int) = ((i + j : Nat) : Int) := by rw [IntKind.wrap_u64]; omega
 have hmc : Int.fdiv ((i + j : Nat) : Int) (2 ^ min (Int.toNat 1) 64) = (((i + j) / 2 : Nat) : Int) := by show Int.fdiv ((i + j : Nat) : Int) 2 = _; rw [Int.fdiv_eq_ediv_of_nonneg _ og]; omega
 have hmd := wr (((i + j) / 2 : Nat) : Int) ((((i + j) / 2 : Nat) : Int)) og
 refine wk (k4 (wb (sr rfl fun k6 => (Ax hma hmb hmc hmd) ?_)))
 refine ⟨og, ?_⟩
 refine k6 (sr rfl fun k7 => (ja) ?_)
 refine vC (fun hN => rJ [] 0 (xs := [Ni (((i + j) / 2 : Nat) : Int)]) rfl rfl rfl rfl ⟨func138, rfl, rfl⟩ hN (aFq rs k ((i + j) / 2) r hrx (hr r hrm)) rfl oG (by simp only [go_sem, AV.ren, aA]) oG (mP (.inl rfl) oG oG Au Au oS ⟨rfl, rfl⟩ dg)) (.inl rfl) ?_
 refine (jn) (k7 ((cdA) ?_ ?_)) <;> intro hc2
 . have hp : (i + j) / 2 < m := by have : ¬ m <= (i + j) / 2 := fun h => (by rw [hcx.2 h] at hc2; cases hc2); omega
   have hw5 := wr ((((i + j) / 2 : Nat) : Int) + 1) ((((i + j) / 2 + 1 : Nat) : Int)) og
   refine wg rfl ((Aa hw5) ((jt) ((jt) ?_)))
   refine ⟨((i + j) / 2 + 1, j), ⟨by simp only; omega, by simp only; omega, hjl⟩, by simp only; omega, [], ?_⟩
   exact jz
 have hp : m <= (i + j) / 2 := hcx.1 (by simpa using hc2)
 have hwm : True := trivial
 refine wg rfl ((ja) ((jt) ((jt) ?_)))
 refine ⟨(i, (i + j) / 2), ⟨hi, by simp only; omega, by simp only; omega⟩, by simp only; omega, [], ?_⟩
 exact jz
def bGz (rs : List Run) (k : ByteArray) (m : Nat) (hm : m <= rs.length) (hl : rs.length <= 1000000) (hr : ∀ r ∈ rs, 1 <= r.ents.length /\ r.ents.length <= 1048576) (hc : ∀ i r, rs[i]? = some r -> ((!(Op.bytesLess (aC r).toList k.toList || (aC r).toList == k.toList)) = true ↔ m <= i)) : aH P 137 [Ni (rs.length : Int), .fn (.func 139) [] [.ptr 0 0, .ptr 1 0]] [(0, .cells 107 [.sl 2 (rs.map rA)]), (1, .cells 9 [Ns k])] 2 (Ni (m : Int)) [(0, .cells 107 [.sl 2 (rs.map rA)]), (1, .cells 9 [Ns k])] 2 := by
 refine (gq 26 [.tmp 4] func137) ((aj) ((aj) ?_))
 refine sq fun k3 => wb ?_
 refine wl (α := Nat × Nat) (fun x => x.1 <= m /\ m <= x.2 /\ x.2 <= rs.length) (fun x => x.2 - x.1) (fun x => ([(1, .fn (.func 139) [] [.ptr 0 0, .ptr 1 0]), (5, Ni (x.1 : Int)), (6, Ni (x.2 : Int))], [(0, .cells 107 [.sl 2 (rs.map rA)]), (1, .cells 9 [Ns k])])) 2 (0, rs.length) ⟨A6 _, hm, A0 _⟩ [] ?_ ?_
 . exact jp
 rintro ⟨i, j⟩ ⟨hi, hj, hjl⟩
 simp only at hi hj hjl ⊢
 refine sq fun k4 => (aj) ((cdB) ?_ ?_) <;> intro hc1
 . have hge : ¬ i < j := by simpa using hc1
   have hie : i = m := by omega
   subst hie
   refine we ((jt) (k3 ((aj) (wR ?_))))
   refine ⟨[], ?_⟩; exact jz
 have hlt : i < j := by simpa using hc1
 obtain ⟨r, hrx, _, hrm⟩ := ix (xs := rs) (i := (i + j) / 2) og
 have hcx := hc _ r hrx
 have hma := wr ((i : Int) + (j : Int)) (((i + j : Nat) : Int)) og
 have hmb : IntKind.u64.wrap ((i + j : Nat) : Int) = ((i + j : Nat) : Int) := by rw [IntKind.wrap_u64]; omega
 have hmc : Int.fdiv ((i + j : Nat) : Int) (2 ^ min (Int.toNat 1) 64) = (((i + j) / 2 : Nat) : Int) := by show Int.fdiv ((i + j : Nat) : Int) 2 = _; rw [Int.fdiv_eq_ediv_of_nonneg _ og]; omega
 have hmd := wr (((i + j) / 2 : Nat) : Int) ((((i + j) / 2 : Nat) : Int)) og
 refine wk (k4 (wb (sr rfl fun k6 => (Ax hma hmb hmc hmd) ?_)))
 refine ⟨og, ?_⟩
 refine k6 (sr rfl fun k7 => (ja) ?_)
 refine vC (fun hN => rJ [] 0 (xs := [Ni (((i + j) / 2 : Nat) : Int)]) rfl rfl rfl rfl ⟨func139, rfl, rfl⟩ hN (aFy rs k ((i + j) / 2) r hrx (hr r hrm)) rfl oG (by simp only [go_sem, AV.ren, aA]) oG (mP (.inl rfl) oG oG Au Au oS ⟨rfl, rfl⟩ dg)) (.inl rfl) ?_
 refine (jn) (k7 ((cdA) ?_ ?_)) <;> intro hc2
 . have hp : (i + j) / 2 < m := by have : ¬ m <= (i + j) / 2 := fun h => (by rw [hcx.2 h] at hc2; cases hc2); omega
   have hw5 := wr ((((i + j) / 2 : Nat) : Int) + 1) ((((i + j) / 2 + 1 : Nat) : Int)) og
   refine wg rfl ((Aa hw5) ((jt) ((jt) ?_)))
   refine ⟨((i + j) / 2 + 1, j), ⟨by simp only; omega, by simp only; omega, hjl⟩, by simp only; omega, [], ?_⟩
   exact jz
 have hp : m <= (i + j) / 2 := hcx.1 (by simpa using hc2)
 have hwm : True := trivial
 refine wg rfl ((ja) ((jt) ((jt) ?_)))
 refine ⟨(i, (i + j) / 2), ⟨hi, by simp only; omega, by simp only; omega⟩, by simp only; omega, [], ?_⟩
 exact jz
def sD (rs : List Run) (low high : ByteArray) (h : Lvl rs) (hl : rs.length <= 1000000) : aB P 88 [rsA rs, Ns low, Ns high] [] 0 (.tup [Ni (frm rs low : Int), Ni (aW rs low high : Int)]) := by
 refine (pq 22 [.tmp 6, .tmp 7] func88) ?_
 simp only [rsA]
 have hr : ∀ r ∈ rs, 1 <= r.ents.length /\ r.ents.length <= 1048576 := fun r hm => by have := eG (h.1 r hm); omega
 have q1 : ∀ i r, rs[i]? = some r -> ((!Op.bytesLess (aG r).toList low.toList) = true ↔ frm rs low <= i) := fun i r hx => by
   have := aNn h low i r hx
   simp only [Bool.not_eq_true', Bool.eq_false_iff, ne_eq, this]; omega
 have q2 : ∀ i r, rs[i]? = some r -> ((!(Op.bytesLess (aC r).toList high.toList || (aC r).toList == high.toList)) = true ↔ aTm rs high <= i) := fun i r hx => by
   have := aGa h high i r hx
   rw [leB]
   simp only [Bool.not_eq_true', Bool.eq_false_iff, ne_eq] at this ⊢
   rw [this]; omega
 refine (aj) ?_
 refine sr rfl fun k2 => (ja) ?_
 refine vg [] 0 rfl rfl rfl ⟨func137, rfl, rfl⟩ (bHb rs low (frm rs low) (bKh _ _) hl hr q1) rfl (by simp only [go_sem, AV.ren, aA]) oG (mP (.inl rfl) oG oG Au Au oS ⟨rfl, rfl⟩ dg) (.inl rfl) ?_
 refine (jn) (k2 (sr rfl fun k3 => (ja) ?_))
 refine vg [(0, 0), (1, 2)] 0 rfl rfl rfl ⟨func137, rfl, rfl⟩ (bGz rs high (aTm rs high) (bEe _ _) hl hr q2) rfl Bx oG (mP (.inr ⟨0, 2, by decide, rfl⟩) (by simp only [go_sem, sg, AObj.ren, AV.ren, aA] <;> simp [Abs.get, aQx]) Cz Au Au oS ⟨rfl, rfl⟩ dg) (.inl rfl) ?_
 refine (jn) (k3 ((aj) (wR ?_)))
 have h9 : max (frm rs low : Int) (aTm rs high : Int) = (aW rs low high : Int) := by unfold aW; omega
 refine fO ?_ ⟨trivial, trivial, trivial⟩
 exact Ab h9
def aBg (rs : List Run) (hl : rs.length <= 1000000) : aB P 90 [rsA rs] [] 0 (.sl 1 ((rs.map Run.ents).map esA)) := by
 refine (pq 19 [.tmp 2] func90) ?_
 simp only [rsA]
 have hmx := mxl
 refine (aj) ((aj) ?_)
 refine sq fun k3 => (aj) (wb ?_)
 refine dZ (t := 3) 33 1 rfl dg ?_
 refine (ja) ?_
 refine wn rs.length (fun x => ([(3, .ref 0), (6, .sl 2 (rs.map rA)), (7, Ni (rs.length : Int)), (8, Ni (x : Int))], [(0, .row 33 1 (((rs.take x).map Run.ents).map esA))])) 1 [] ?_ ?_
 . exact Ca
 rintro i hi
 refine (aj) ?_
 refine sq fun k6 => (cdB) ?_ ?_ <;> intro hc1
 . have hge := gec hc1
   have hie : i = rs.length := by omega
   subst hie; rw [C6]
   refine we ((jt) (k3 ((aj) ?_)))
   refine aFz 0 rfl ?_
   refine (Ag) (wR ?_)
   refine fO ?_ (pJ _ _)
   exact Aj
 obtain ⟨hlt, l, hlx, hdrop, hml⟩ := ixc hc1
 refine wk (k6 (sq fun k7 => wb (sr rfl fun k8 => (Ao hlx) ((jr) (k8 (wg rfl ((At) ((jr) ((jt) (k7 ?_))))))))))
 have hw := wiS i og
 have htk : (((rs.take i).map Run.ents).map esA) ++ [AV.sl 5 (l.ents.map enA)] = (((rs.take (i + 1)).map Run.ents).map esA) := by
   rw [E7, hlx]; simp [esA]
 refine wg rfl ((Aa hw) ((jt) ?_))
 refine ⟨i + 1, og, og, [(0, 3)], ?_⟩
 simp only [go_sem, AObj.bel, AObj.ren, AV.ren, aA, sg, Int.natCast_zero] <;> simp
 first | exact htk | simpa using htk
def yD (ls : List Entry) (hz : dB ls) (hl : ls.length <= 1048576) : aB P 92 [.sl 5 (ls.map enA)] [] 0 (.tup [.sl 2 ((pL ls).1.map rA), .raw (.bool (pL ls).2)]) := by
 refine (pq 52 [.tmp 2, .tmp 3] func92) ?_
 have hmx := mxl
 refine (aj) ((aj) ?_)
 refine sq fun k3 => wb ?_
 refine dZ (t := 4) 109 2 rfl dg ?_
 refine (ja) ?_
 refine wl (α := List Entry × List Run) (fun x => x.1.length + x.2.length <= ls.length /\ (∀ e ∈ x.1, e ∈ ls) /\ ∃ ps, wD ls = ps ++ wD x.1 /\ (∀ p ∈ ps, (dO p).2 = true) /\ x.2 = ps.map fun p => (dO p).1) (fun x => x.1.length) (fun x => ([(0, .sl 5 (x.1.map enA)), (4, .ref 0)], [(0, .row 109 2 (x.2.map rA))])) 1 (ls, []) ⟨by simp, fun e he => he, [], rfl, (by intro p hp; cases hp), rfl⟩ [] ?_ ?_
 . simp only [go_sem, AObj.bel, List.map_nil] <;> simp
 rintro ⟨rest, acc⟩ ⟨hrl, hrm, ps, hcs, hps, hac⟩
 simp only at hrl hrm hcs hps hac ⊢
 refine sq fun k4 => (aj) ((cdB) ?_ ?_) <;> intro hc1
 . have hre : rest = [] := by simpa using hc1
   have h9 : pL ls = (acc, true) := by
     unfold pL; rw [hcs, hre]
     have : wD [] = [] := rfl
     rw [this, List.append_nil, if_pos (C4.2 hps), hac]
   refine we ((jt) (k3 ((aj) ?_)))
   refine aFz 0 rfl ?_
   refine (Ag) (wR ?_)
   refine fO ?_ ⟨bX _ _, trivial, trivial⟩
   exact Ab h9
 have hlen : 0 < rest.length := by simp at hc1; omega
 have hne : rest ≠ [] := E8.1 hlen
 have hb := aAl hne
 have hzt : dB (rest.take (eZ rest)) := ⟨by rw [A7]; omega, fun e he => hz.2 e (hrm e (D2 he))⟩
 refine wk (k4 (wb ((aj) ?_)))
 refine vW (α := Unit) (fun x => True) (fun x => ([(0, .sl 5 (rest.map enA)), (4, .ref 0), (5, Ni (eZ rest : Int))], [(0, .row 109 2 (acc.map rA))])) 1 ?_ ?_
 . refine wb ?_
   refine wl (α := Nat) (fun x => 1 <= x /\ x <= rest.length /\ ∃ f, rest.length <= x + f /\ cP rest f x = eZ rest) (fun x => rest.length - x) (fun x => ([(0, .sl 5 (rest.map enA)), (4, .ref 0), (5, Ni (x : Int))], [(0, .row 109 2 (acc.map rA))])) 1 1 ⟨A0 _, og, rest.length, og, rfl⟩ [] ?_ ?_
   . exact jz
   rintro e ⟨he0, he1, f, hf, hend⟩
   refine sq fun k8 => ?_
   have hw1 := wr ((e : Int) - 1) ((e : Int) - 1) og
   have hpn : ((e : Int) - 1).toNat = e - 1 := by omega
   have hpv : rest[e - 1]? = some (bT rest e) := by unfold bT; rw [A1 og]; rfl
   by_cases hle : e < rest.length
   . have hlx := eL hle
     have hdf : decide ((e : Int) < (rest.length : Int)) = true := by simp; omega
     refine sd mixed rfl fun k9 => (By hdf hlx hpv hw1 hpn) ((jr) ((jy) (k9 ((cdB) ?_ ?_)))) <;> intro hc2
     . have hon : vA rest e = false := by unfold vA; rw [hdf]; simp only [wF] at hc2; simpa using hc2
       rw [aIl hon] at hend; rw [hend]
       refine we ((jt) ?_)
       try simp only [aCx]
       refine ⟨(), trivial, [], ?_⟩
       exact jz
     have hon : vA rest e = true := by unfold vA; rw [hdf]; simp only [wF] at hc2; simpa using hc2
     have hstep : ∃ g, rest.length <= e + 1 + g /\ cP rest g (e + 1) = eZ rest := by
       obtain ⟨g, rfl⟩ : ∃ g, f = g + 1 := ⟨f - 1, og⟩
       exact ⟨g, og, by rw [<- hend, aYf hon]⟩
     refine wk (k8 (wb ?_))
     have hw5 := wiS e og
     refine wg rfl ((Aa hw5) ((jt) ((jt) ?_)))
     refine ⟨e + 1, ⟨og, og, hstep⟩, og, [], ?_⟩
     exact jz
   have hee : e = rest.length := by omega
   have hdf : decide ((e : Int) < (rest.length : Int)) = false := by simp; omega
   have hnn : rest[e]? = none := D6 og
   refine sd mixed rfl fun k9 => (By hdf hnn hpv hw1 hpn) ?_
   repeat (first | refine ⟨og, ?_⟩ | refine ⟨fun hg => hg.1.elim, ?_⟩)
   refine aM (fun hN => bD (rt := []) (rd := []) (val := Ns ⟨#[]⟩) hN rfl rfl rfl rfl trivial (fun hg => absurd hg oS) (by trivial)) (.inl rfl) ?_
   refine (By hdf hnn hpv hw1 hpn) ((jr) ((jy) (k9 ((cdA) ?_ ?_)))) <;> intro hc3
   . exfalso; simp at hc3
   have hon : vA rest e = false := by unfold vA; rw [hdf]; rfl
   rw [aIl hon] at hend; rw [hend]
   refine we ((jt) ?_)
   try simp only [aCx]
   refine ⟨(), trivial, [], ?_⟩
   exact jz
 rintro ⟨⟩ -
 refine sr rfl fun k10 => ?_
 simp only [go_sem, Int.toNat_natCast, Int.toNat_zero, A2, <- D0]
 refine (jr) ?_
 refine vs rfl rfl rfl func133 (aEu (rest.take (eZ rest)) hzt) oG oG ?_
 refine (Bw) ((jr) (k10 (sq fun k11 => (aj) ((cdB) ?_ ?_)))) <;> intro hc4
 . have hok : (dO (rest.take (eZ rest))).2 = true := by simpa using hc4
   refine wk (k11 (sr rfl fun k14 => (At) ((jr) (k14 (wg rfl ?_)))))
   simp only [go_sem, Int.toNat_natCast, A2, C6, <- E5, B0]
   refine (jr) ((jt) ((jt) ?_))
   refine ⟨(rest.drop (eZ rest), acc ++ [(dO (rest.take (eZ rest))).1]), ⟨by simp only [B0, A3, List.length_singleton]; omega, fun e he => hrm e (D1 he), ps ++ [rest.take (eZ rest)], by rw [hcs, aQz hne]; simp, (by intro p hp; rcases B4.1 hp with hp | hp; exact hps p hp; rw [B6.1 hp]; exact hok), by simp [hac]⟩, by simp only [B0]; omega, [(0, 3)], ?_⟩
   simp only [go_sem, AObj.bel, AObj.ren, AV.ren, aA, sg] <;> simp [rA, List.take_of_length_le]
 have hbad : (dO (rest.take (eZ rest))).2 = false := by simpa using hc4
 have h9 : pL ls = ([], false) := by
   unfold pL
   rw [if_neg (fun h => by
     have := C4.1 h (rest.take (eZ rest)) (by rw [hcs, aQz hne]; simp)
     rw [hbad] at this; cases this)]
 refine (aj) ?_
 refine dZ (t := 2) 109 2 rfl dg ?_
 refine (ja) ?_
 refine aFz 2 rfl ?_
 refine (Ag) (wR ((Ad) ?_))
 refine fO ?_ ⟨bX _ _, trivial, trivial⟩
 exact Bn h9
section
variable {i : Nat} {rs : List Run} {l : Run}
def bQi {α : Type} {ls : List α} {k : Nat} {x : α} (h : ls[k]? = some x) (h1 : 1 <= k) : (ls.take (k + 1)).drop 1 = (ls.take k).drop 1 ++ [x] := by
  have := bPn (fun y => y) h h1
  simpa using this
def bCt {ls : List (List Entry)} {l : List Entry} (h : ls.drop i = l :: ls.drop (i + 1)) (m : List Entry) : (ls.drop i).flatten.foldl gD m = (ls.drop (i + 1)).flatten.foldl gD (l.foldl gD m) := by
  rw [h, List.flatten_cons, List.foldl_append]
def aQr (q : Run -> Bool) (h : rs[i]? = some l) : (rs.take (i + 1)).filter q = (rs.take i).filter q ++ (if q l = true then [l] else []) := by
  rw [E7, h, List.filter_append]; simp only [Option.toList_some, List.filter_cons, List.filter_nil]
def aTo (ls : List Run) (r : Run) : ∀ k, gG ls r k <= k
  | 0 => A0 _
  | k + 1 => by
    unfold gG; split
    . exact Nat.le_succ_of_le (aTo ls r k)
    exact A0 _
def aNy (ls : List Run) (r : Run) : (pF ls r).length = ls.length + 1 := by
  have := aTo ls r ls.length
  unfold pF; simp only [A3, A7, B0, List.length_singleton]; omega
def bNj (h : rs[i]? = some l) (h1 : (150 : Int) < (l.ents.length : Int)) : lL rs = false := by
  unfold lL
  have : rs.all (fun r => !decide (150 < (r.ents.length : Int))) = false := by
    rw [List.all_eq_false]
    exact ⟨l, G2 h, by simpa using h1⟩
  rw [this]; rfl
def bKk {q : Run -> Bool} (h : rs[i]? = some l) (h0 : (rs.take i).all q = true) (h1 : q l = true) : (rs.take (i + 1)).all q = true := by
  rw [E7, h, List.all_append, h0]
  simp [h1]
def bKb {ls : List Entry} {f s i : Nat} : rD ls (f + 1) s i = if tR ls s i = true then (ls.take i).drop s :: rD ls f i (i + 1) else rD ls f s (i + 1) := rfl
def slR : cN P 107 = some (109, some (2, 32)) := kr
def zcR : zC P 109 = some [.slice none 0 0, .int .i64 0] := kr
def bGo (ls : List Run) : ∀ x ∈ ls.map rA, aRb x := fun x hx => by
  obtain ⟨r, _, rfl⟩ := B3.1 hx
  refine bHx fun y hy => ?_
  simp only [B1, List.not_mem_nil, or_false] at hy
  rcases hy with rfl | rfl
  . exact bKd _ _
  exact bFj _
def aHj {ls : List Run} {r : Run} {p : Run -> Prop} (h : ∀ x ∈ ls, p x) (hr : p r) : ∀ x ∈ pF ls r, p x := fun x hx => by
  unfold pF at hx
  simp only [B4, B6] at hx
  rcases hx with (hx | rfl) | hx
  . exact h x (D2 hx)
  . exact hr
  exact h x (D1 hx)
def aIx (ls : List (List Entry)) (hb : ls.length <= 1048576) (hs : ∀ b ∈ ls, b.length <= 1048576) : aB P 181 [.sl 1 (ls.map esA)] [] 0 (.sl 5 ((sG ls).map enA)) := by
 refine (pq 32 [.tmp 2] func181) ?_
 have hmx := mxl
 refine (aj) ?_
 refine sr rfl fun k2 => (ja) ((jr) (k2 (sq fun k3 => ?_)))
 refine aFz 0 rfl ?_
 refine (Ag) ((aj) (wb ?_))
 refine wl (α := Nat × List Entry) (fun x => x.1 <= ls.length /\ x.2.length <= 1048576 * x.1 /\ (ls.drop x.1).flatten.foldl gD x.2 = sG ls) (fun x => ls.length - x.1) (fun x => ([(0, .sl 1 (ls.map esA)), (3, .sl 5 (x.2.map enA)), (4, Ni (x.1 : Int))], [])) 0 (0, []) ⟨A6 _, by simp, rfl⟩ [] ?_ ?_
 . simp only [go_sem, List.map_nil, Int.natCast_zero] <;> simp
 rintro ⟨i, st⟩ ⟨hi, hol, hfold⟩
 simp only at hi hol hfold ⊢
 refine sq fun k5 => (aj) ((cdB) ?_ ?_) <;> intro hc1
 . have hge := gec hc1
   refine we ((jt) (k3 ((aj) (wR ?_))))
   rw [E9 hge] at hfold
   have h9 : sG ls = st := hfold.symm
   refine fO ?_ (enB _ _)
   exact Ab h9
 obtain ⟨hlt, l, hl, hdrop, hml⟩ := ixc hc1
 have hll := hs l hml
 refine wk (k5 (sq fun k7 => wb ((aj) (wb ?_))))
 refine wl (α := Nat × List Entry) (fun x => x.1 <= l.length /\ x.2.length <= 1048576 * i + x.1 /\ (l.drop x.1).foldl gD x.2 = l.foldl gD st) (fun x => l.length - x.1) (fun x => ([(0, .sl 1 (ls.map esA)), (3, .sl 5 (x.2.map enA)), (4, Ni (i : Int)), (5, Ni (x.1 : Int))], [])) 0 (0, st) ⟨A6 _, by simpa using hol, rfl⟩ [] ?_ ?_
 . exact jc
 rintro ⟨k, out⟩ ⟨hk, hol2, hfold2⟩
 simp only at hk hol2 hfold2 ⊢
 refine sq fun k9 => sr rfl fun k10 => (Ay hl) ((jr) (k10 ((cdB) ?_ ?_))) <;> intro hc2
 . have hgek : l.length <= k := by have h9 : ¬ k < l.length := (by simpa using hc2); omega
   rw [E9 hgek] at hfold2
   simp only [List.foldl_nil] at hfold2
   refine we ((jt) ((jt) (k7 ((jw (wiS i og)) ((jt) ?_)))))
   refine ⟨(i + 1, out), ⟨og, by simp only; omega, by rw [bCt hdrop, <- hfold2] at hfold; exact hfold⟩, og, [], ?_⟩
   exact jo
 have hltk : k < l.length := by simpa using hc2
 obtain ⟨e, he, hdrop2, hme⟩ := ix hltk
 refine wk (k9 (sq fun k11 => wb (wg rfl ?_)))
 simp only [go_sem, hl, he, esA, enA]
 refine (jr) ?_
 refine (vr rfl rfl rfl func108 (aEg out e og) Ah Ah) ((jr) ((jt) (k11 ?_)))
 have hwk := wiS k og
 refine wg rfl ((Aa hwk) ((jt) ?_))
 refine ⟨(k + 1, gD out e), ⟨og, by have := aCe out e; simp only; omega, by rw [hdrop2] at hfold2; exact hfold2⟩, og, [], ?_⟩
 exact jo
def yS (rs : List Run) (hne : rs ≠ []) (hr : ∀ r ∈ rs, 1 <= r.ents.length /\ r.ents.length <= 1048576) (hl : rs.length <= 1000000) : aB P 179 [.sl 2 (rs.map rA)] [] 0 (.tup [.raw (.string (nO rs).1), .raw (.string (nO rs).2)]) := by
 refine (pq 47 [.tmp 2, .tmp 3] func179) ?_
 have hlen := E8.2 hne
 have h0 : rs[0]? = some (wT rs) := by unfold wT; rw [A1 hlen]; rfl
 have hq := hr (wT rs) (G2 h0)
 refine (aj) ?_
 refine sr rfl fun k2 => ?_
 simp only [go_sem, h0, rA, Int.toNat_zero]
 refine (jr) ?_
 refine (vr rfl rfl rfl func152 (eR (wT rs) hq.1) Ac Ac) ((jr) (k2 (sr rfl fun k3 => ?_)))
 simp only [go_sem, h0, rA, Int.toNat_zero]
 refine (jr) ?_
 refine (vr rfl rfl rfl func151 (lK (wT rs) hq.1 og) Ac Ac) ((jr) (k3 (sq fun k4 => (aj) (wb ?_))))
 refine wl (α := Nat) (fun x => 1 <= x /\ x <= rs.length) (fun x => rs.length - x) (fun x => ([(0, .sl 2 (rs.map rA)), (4, .raw (.string (((rs.take x).drop 1).foldl jR (aC (wT rs), aG (wT rs))).1)), (5, .raw (.string (((rs.take x).drop 1).foldl jR (aC (wT rs), aG (wT rs))).2)), (6, Ni (x : Int))], [])) 0 1 ⟨A0 _, hlen⟩ [] ?_ ?_
 . have e1 : (rs.take 1).drop 1 = [] := by cases rs <;> rfl
   simp only [go_sem, e1, List.foldl_nil] <;> simp
 rintro i ⟨hi1, hi⟩
 refine sq fun k6 => (aj) ((cdB) ?_ ?_) <;> intro hc1
 . have hge := gec hc1
   have hie : i = rs.length := by omega
   subst hie; rw [C6]
   refine we ((jt) (k4 ((aj) (wR ?_))))
   refine fO ?_ ⟨trivial, trivial, trivial⟩
   simp only [go_sem, nO]
 obtain ⟨hlt, l, hlx, hdrop, hml⟩ := ixc hc1
 have hst : ((rs.take (i + 1)).drop 1).foldl jR (aC (wT rs), aG (wT rs)) = jR (((rs.take i).drop 1).foldl jR (aC (wT rs), aG (wT rs))) l := by rw [bQi hlx hi1, List.foldl_append]; rfl
 obtain ⟨lo, hgh, hfo⟩ : ∃ lo hgh, ((rs.take i).drop 1).foldl jR (aC (wT rs), aG (wT rs)) = (lo, hgh) := ⟨_, _, rfl⟩
 have hst2 := hst
 rw [hfo] at hst2; rw [hfo]
 refine wk (k6 (sq fun k8 => wb ?_))
 refine vW (α := Unit) (fun x => True) (fun x => ([(0, .sl 2 (rs.map rA)), (4, Ns (if Op.bytesLess (aC l).toList lo.toList = true then aC l else lo)), (5, Ns hgh), (6, Ni (i : Int))], [])) 0 ?_ ?_
 . refine sr rfl fun k10 => (Ao hlx) ((jr) ?_)
   refine vs rfl rfl rfl func152 (eR l (hr l hml).1) Ac Ac ?_
   refine (Ao hlx) ((jr) (k10 ((cdB) ?_ ?_))) <;> intro hc2
   . have hx2 : Op.bytesLess (aC l).toList lo.toList = false := hc2
     refine wk ?_; try simp only [aCx]
     refine ⟨(), trivial, [], ?_⟩
     exact Co hx2
   have hx2 : Op.bytesLess (aC l).toList lo.toList = true := hc2
   refine wg rfl ((Ao hlx) ((jr) ?_))
   refine vs rfl rfl rfl func152 (eR l (hr l hml).1) Ac Ac ?_
   refine (Ao hlx) ((jr) ?_)
   try simp only [aCx]
   refine ⟨(), trivial, [], ?_⟩
   exact Co hx2
 rintro ⟨⟩ -
 refine sr rfl fun k11 => (Ao hlx) ((jr) ?_)
 refine vs rfl rfl rfl func151 (lK l (hr l hml).1 (by have := (hr l hml).2; omega)) Ac Ac ?_
 refine (Ao hlx) ((jr) (k11 ((cdB) ?_ ?_))) <;> intro hc3
 . have hx3 : (!(Op.bytesLess (aG l).toList hgh.toList || (aG l).toList == hgh.toList)) = false := hc3
   refine wk ((jt) (k8 ((jw (wiS i og)) ((jt) ?_))))
   refine ⟨i + 1, ⟨og, og⟩, og, [], ?_⟩
   simp only [go_sem, hst2, jR, hx3, if_true, B9, if_false] <;> simp
 have hx3 : (!(Op.bytesLess (aG l).toList hgh.toList || (aG l).toList == hgh.toList)) = true := hc3
 refine wg rfl ((Ao hlx) ((jr) ?_))
 refine vs rfl rfl rfl func151 (lK l (hr l hml).1 (by have := (hr l hml).2; omega)) Ac Ac ?_
 refine (Ao hlx) ((jr) ((jt) (k8 ((jw (wiS i og)) ((jt) ?_)))))
 refine ⟨i + 1, ⟨og, og⟩, og, [], ?_⟩
 simp only [go_sem, hst2, jR, hx3, if_true, B9, if_false] <;> simp
def aPf (r : Run) (low high : ByteArray) (h1 : 1 <= r.ents.length) (h2 : r.ents.length <= 1048576) : aB P 210 [rA r, Ns low, Ns high] [] 0 (Nb (iV low high r)) := by
 refine (pq 17 [.tmp 6] func210) ?_
 simp only [rA]
 refine (aj) ?_
 refine sr rfl fun k2 => (ja) ?_
 refine vs rfl rfl rfl func152 (eR r h1) Ac Ac ?_
 refine (Bw) ?_
 refine vpg rfl rfl rfl rfl rfl rfl ⟨func151, rfl, rfl⟩ (fun hg => lK r h1 og) oG (fun hg => Ac) Ac trivial ?_
 refine (Bw) (k2 (wR (fO ?_ trivial)))
 simp only [go_sem, iV]
def aBv (rs : List Run) (low high : ByteArray) (hr : ∀ r ∈ rs, 1 <= r.ents.length /\ r.ents.length <= 1048576) (hl : rs.length <= 1000000) : aB P 180 [.sl 2 (rs.map rA), Ns low, Ns high] [] 0 (.tup [.sl 2 ((rs.filter (iV low high)).map rA), .sl 2 ((rs.filter (fun r => !iV low high r)).map rA)]) := by
 refine (pq 42 [.tmp 6, .tmp 7] func180) ?_
 have hmx := mxl
 refine (aj) ?_
 refine sr rfl fun k2 => (ja) ((jr) (k2 (sr rfl fun k3 => (ja) ((jr) (k3 (sq fun k4 => (aj) (wb ?_)))))))
 refine wn rs.length (fun x => ([(0, .sl 2 (rs.map rA)), (1, Ns low), (2, Ns high), (8, .ref 0), (9, .ref 1), (10, Ni (x : Int))], [(0, .row 109 2 (((rs.take x).filter (iV low high)).map rA)), (1, .row 109 2 (((rs.take x).filter (fun r => !iV low high r)).map rA))])) 2 [] ?_ ?_
 . simp only [go_sem, AObj.bel, List.take_zero, List.filter_nil, List.map_nil, Int.natCast_zero] <;> simp
 rintro i hi
 refine sq fun k6 => (aj) ((cdB) ?_ ?_) <;> intro hc1
 . have hge := gec hc1
   have hie : i = rs.length := by omega
   subst hie; rw [C6]
   refine we ((jt) (k4 ((aj) ?_)))
   refine aFz 0 rfl ?_
   refine (Ag) ?_
   refine aFz 1 rfl ?_
   refine (Ag) (wR ?_)
   refine fO ?_ ⟨bX _ _, bX _ _, trivial⟩
   exact Aj
 obtain ⟨hlt, l, hlx, hdrop, hml⟩ := ixc hc1
 have hf1 := aQr (iV low high) hlx
 have hf2 := aQr (fun r => !iV low high r) hlx
 have hfl1 : ((rs.take i).filter (iV low high)).length <= i := G6 (List.length_filter_le _ _) (by rw [A7]; omega)
 have hfl2 : ((rs.take i).filter (fun r => !iV low high r)).length <= i := G6 (List.length_filter_le _ _) (by rw [A7]; omega)
 refine wk (k6 (sq fun k8 => wb (sr rfl fun k9 => (Ao hlx) ((jr) ?_))))
 refine vs rfl rfl rfl func210 (aPf l low high (hr l hml).1 (hr l hml).2) Ac Ac ?_
 refine (Ao hlx) ((jr) (k9 ((cdA) ?_ ?_))) <;> intro hc2
 . rw [if_pos hc2] at hf1
   rw [if_neg (by rw [hc2]; simp), List.append_nil] at hf2
   refine wg rfl ((Dj hlx) ((jr) ((jt) (k8 ((jw (wiS i og)) ((jt) ?_))))))
   refine ⟨i + 1, og, og, [(0, 3), (1, 1)], ?_⟩
   rw [hf1, hf2]
   simp only [go_sem, AObj.bel, AObj.ren, AV.ren, aA, sg] <;> simp [rA]
 rw [if_neg (by rw [hc2]; simp), List.append_nil] at hf1
 rw [if_pos (by rw [hc2]; rfl)] at hf2
 refine wg rfl ((Dj hlx) ((jr) ((jt) (k8 ((jw (wiS i og)) ((jt) ?_))))))
 refine ⟨i + 1, og, og, [(0, 0), (1, 3)], ?_⟩
 rw [hf1, hf2]
 simp only [go_sem, AObj.bel, AObj.ren, AV.ren, aA, sg] <;> simp [rA]
def aLb (rs : List Run) (hl : rs.length <= 1000000) : aB P 182 [.sl 2 (rs.map rA)] [] 0 (.sl 1 ((rs.map Run.ents).map esA)) := by
 refine (pq 21 [.tmp 2] func182) ?_
 have hmx := mxl
 refine (aj) ?_
 refine sr rfl fun k2 => (ja) ((jr) (k2 (sq fun k3 => (aj) (wb ?_))))
 refine wn rs.length (fun x => ([(0, .sl 2 (rs.map rA)), (3, .ref 0), (4, Ni (x : Int))], [(0, .row 33 1 (((rs.take x).map Run.ents).map esA))])) 1 [] ?_ ?_
 . exact Ca
 rintro i hi
 refine sq fun k5 => (aj) ((cdB) ?_ ?_) <;> intro hc1
 . have hge := gec hc1
   have hie : i = rs.length := by omega
   subst hie; rw [C6]
   refine we ((jt) (k3 ((aj) ?_)))
   refine aFz 0 rfl ?_
   refine (Ag) (wR ?_)
   refine fO ?_ (pJ _ _)
   exact Aj
 obtain ⟨hlt, l, hlx, hdrop, hml⟩ := ixc hc1
 refine wk (k5 (sq fun k7 => wb (wg rfl ((Dj hlx) ((jr) ((jt) (k7 ?_)))))))
 have hw := wiS i og
 have htk : (((rs.take i).map Run.ents).map esA) ++ [AV.sl 5 (l.ents.map enA)] = (((rs.take (i + 1)).map Run.ents).map esA) := by
   rw [E7, hlx]; simp [esA]
 refine wg rfl ((Aa hw) ((jt) ?_))
 refine ⟨i + 1, og, og, [(0, 2)], ?_⟩
 simp only [go_sem, AObj.bel, AObj.ren, AV.ren, aA, sg, Int.natCast_zero] <;> simp
 first | exact htk | simpa using htk
def aOu (rs : List Run) (hl : rs.length <= 1000000) : aB P 186 [.sl 2 (rs.map rA)] [] 0 (Nb (lL rs)) := by
 refine (pq 20 [.tmp 2] func186) ((aj) ?_)
 refine sq fun k2 => (aj) (wb ?_)
 refine wl (α := Nat) (fun x => x <= rs.length /\ (rs.take x).all (fun r => !decide (150 < (r.ents.length : Int))) = true) (fun x => rs.length - x) (fun x => ([(0, .sl 2 (rs.map rA)), (3, Ni (x : Int))], [])) 0 0 ⟨A6 _, rfl⟩ [] ?_ ?_
 . exact jc
 rintro i ⟨hi, hall⟩
 refine sq fun k4 => (aj) ((cdB) ?_ ?_) <;> intro hc1
 . have hge := gec hc1
   have hie : i = rs.length := by omega
   subst hie; rw [C6] at hall
   refine we ((jt) (k2 ((aj) (wR ?_))))
   have h9 : lL rs = decide ((rs.length : Int) <= 8) := by unfold lL; rw [hall]; rfl
   exact fq h9
 obtain ⟨hlt, l, hlx, hdrop, hml⟩ := ixc hc1
 refine wk (k4 (sq fun k6 => wb (sr rfl fun k7 => ?_)))
 simp only [go_sem, hlx, rA, A2]
 refine (jr) (k7 ((cdA) ?_ ?_)) <;> intro hc2
 . have hg : (150 : Int) < (l.ents.length : Int) := by simpa using hc2
   have h9 := bNj hlx hg
   exact (aj) (wR ((Ad) (fq h9)))
 refine wk ((jt) (k6 ((jw (wiS i og)) ((jt) ?_))))
 refine ⟨i + 1, ⟨og, bKk hlx hall (by rw [hc2]; rfl)⟩, og, [], ?_⟩
 exact jo
def aOb (a b : List Run) (ha : ∀ r ∈ a, 1 <= r.ents.length /\ r.ents.length <= 1048576) (hb : ∀ r ∈ b, 1 <= r.ents.length /\ r.ents.length <= 1048576) (hla : a.length <= 1000000) (hlb : b.length <= 1000000) : aB P 184 [.sl 2 (a.map rA), .sl 2 (b.map rA)] [] 0 (.sl 2 ((sK a b).map rA)) := by
 refine (pq 55 [.tmp 4] func184) ?_
 have hmx := mxl
 refine (aj) ?_
 refine sr rfl fun k2 => (ja) ((jr) (k2 (sq fun k3 => (aj) (wb ?_))))
 refine wl (α := Nat × List Run) (fun x => x.1 <= b.length /\ x.2.length = a.length + x.1 /\ (b.drop x.1).foldl pF x.2 = sK a b /\ ∀ r ∈ x.2, 1 <= r.ents.length /\ r.ents.length <= 1048576) (fun x => b.length - x.1) (fun x => ([(1, .sl 2 (b.map rA)), (5, .ref 0), (6, Ni (x.1 : Int))], [(0, .row 109 2 (x.2.map rA))])) 1 (0, a) ⟨A6 _, rfl, rfl, ha⟩ [(0, 1)] ?_ ?_
 . exact Db
 rintro ⟨i, out⟩ ⟨hi, hol, hfold, hgo⟩
 simp only at hi hol hfold hgo ⊢
 refine sq fun k5 => (aj) ((cdB) ?_ ?_) <;> intro hc1
 . have hge := gec hc1
   have hie : i = b.length := by omega
   subst hie; rw [List.drop_length] at hfold
   have h9 : sK a b = out := hfold.symm
   refine we ((jt) (k3 ((aj) ?_)))
   refine aFz 0 rfl ?_
   refine (Ag) (wR ?_)
   refine fO ?_ (bX _ _)
   exact Ab h9
 obtain ⟨hlt, l, hlx, hdrop, hml⟩ := ixc hc1
 refine wk (k5 (sq fun k7 => wb ((aj) ?_)))
 refine vW (α := Unit) (fun x => True) (fun x => ([(1, .sl 2 (b.map rA)), (5, .ref 0), (6, Ni (i : Int)), (7, Ni ((gG out l out.length : Nat) : Int))], [(0, .row 109 2 (out.map rA))])) 1 ?_ ?_
 . refine wb ?_
   refine wl (α := Nat) (fun x => x <= out.length /\ gG out l x = gG out l out.length) (fun x => x) (fun x => ([(1, .sl 2 (b.map rA)), (5, .ref 0), (6, Ni (i : Int)), (7, Ni (x : Int))], [(0, .row 109 2 (out.map rA))])) 1 out.length ⟨A0 _, rfl⟩ [] ?_ ?_
   . exact jp
   rintro k ⟨hk, hpos⟩
   refine sq fun k10 => ?_
   have hw1 := wr ((k : Int) - 1) ((k : Int) - 1) og
   have hpn : ((k : Int) - 1).toNat = k - 1 := by omega
   by_cases hoe : out = []
   . have hk0 : k = 0 := by rw [hoe] at hk; exact Nat.le_zero.1 hk
     have hdf : decide (0 < (k : Int)) = false := by simp; omega
     have hnn : out[k - 1]? = none := by rw [hoe]; rfl
     refine sd mixed rfl fun k11 => ?_
     simp only [go_sem, hdf, hw1, hpn, hlx, rA, hnn]
     repeat (first | refine ⟨og, ?_⟩ | refine ⟨fun hg => by simp at hg, ?_⟩)
     refine aM (fun hN => bD (rt := []) (rd := []) (val := rA xJ) hN rfl rfl rfl rfl trivial (fun hg => absurd hg oS) (by exact aVo _ _)) (.inl rfl) ?_
     simp only [go_sem, rA, hdf, hw1, hpn, hlx, rA, hnn]
     refine (jr) ?_
     refine tpg rfl rfl rfl rfl rfl rfl ⟨func152, rfl, rfl⟩ (fun hg => eR xJ (by simp at hg)) oG (fun hg => Ac) Ac trivial ?_
     refine (Bc hdf hw1 hpn hlx) ((jr) ?_)
     refine tpg rfl rfl rfl rfl rfl rfl ⟨func152, rfl, rfl⟩ (fun hg => eR l (hb l hml).1) oG (fun hg => Ac) Ac trivial ?_
     refine (Bc hdf hw1 hpn hlx) ((jr) ((jy) (k11 ((cdA) ?_ ?_)))) <;> intro hc2
     . exfalso; simp at hc2
     rw [hk0] at hpos
     have hke : (k : Int) = ((gG out l out.length : Nat) : Int) := by rw [<- hpos, hk0]; rfl
     rw [hke]
     refine we ((jt) ?_)
     try simp only [aCx]
     refine ⟨(), trivial, [], ?_⟩
     exact jp
   have hop := E8.2 hoe
   obtain ⟨q, hqx, _, hqm⟩ := ix (xs := out) (i := k - 1) og
   have hrp : gG out l k = if (decide (0 < (k : Int)) && !(Op.bytesLess (aC q).toList (aC l).toList || (aC q).toList == (aC l).toList)) = true then gG out l (k - 1) else k := by
     rcases Nat.eq_zero_or_pos k with h0 | h0
     . subst h0; rfl
     obtain ⟨j, rfl⟩ : ∃ j, k = j + 1 := ⟨k - 1, og⟩
     rw [Nat.add_sub_cancel] at hqx ⊢
     rw [decide_eq_true og, Bool.true_and]
     conv => lhs; unfold gG
     rw [hqx]; rfl
   refine sd mixed rfl fun k11 => (Bc hw1 hpn hlx hqx) ((jr) ?_)
   refine tpg rfl rfl rfl rfl rfl rfl ⟨func152, rfl, rfl⟩ (fun hg => eR q (hgo q hqm).1) oG (fun hg => Ac) Ac trivial ?_
   refine (Bc hw1 hpn hlx hqx) ((jr) ?_)
   refine tpg rfl rfl rfl rfl rfl rfl ⟨func152, rfl, rfl⟩ (fun hg => eR l (hb l hml).1) oG (fun hg => Ac) Ac trivial ?_
   refine (Bc hw1 hpn hlx hqx) ((jr) ((jy) (k11 ((cdB) ?_ ?_)))) <;> intro hc3
   . have hke : k = gG out l out.length := by rw [hrp, if_neg (by rw [hc3]; simp)] at hpos; exact hpos
     rw [hke]
     refine we ((jt) ?_)
     try simp only [aCx]
     refine ⟨(), trivial, [], ?_⟩
     exact jp
   have hkp : 0 < k := by simp at hc3; omega
   have hstep : gG out l (k - 1) = gG out l out.length := by rw [hrp, if_pos (by exact hc3)] at hpos; exact hpos
   refine wk (k10 (wb ?_))
   have hw7 := wr ((k : Int) - 1) (((k - 1 : Nat) : Int)) og
   refine wg rfl ((Aa hw7) ((jt) ((jt) ?_)))
   refine ⟨k - 1, ⟨og, hstep⟩, og, [], ?_⟩
   exact jp
 rintro ⟨⟩ -
 have hpl := aTo out l out.length
 have h9 : ((out.take (gG out l out.length)).map rA ++ [AV.agg [AV.sl 5 (l.ents.map enA), .raw (.int .i64 l.mask)]]) ++ (out.drop (gG out l out.length)).map rA = (pF out l).map rA := by unfold pF; simp [rA]
 refine sr rfl fun k12 => (Bp) ((jr) ?_)
 refine bGe (j := 1) (zs := [.slice none 0 0, .int .i64 0]) (lo := ((gG out l out.length : Nat) : Int)) rfl rfl rfl rfl rfl rfl rfl rfl slR zcR rfl dg rfl rfl rfl rfl rfl dg og (by simpa using hpl) (aKu _) (bGo _) (by simp [maxLen]; omega) (by simp; omega) dg ?_
 simp only [go_sem, Int.toNat_natCast, List.nil_append, A2]
 refine (jr) (k12 ?_)
 refine jF mixed rfl ?_
 simp only [go_sem, hlx, rA, A7, A3, List.length_singleton, A2, B0, Int.toNat_natCast, <- D0, <- E5]
 refine (jr) ?_
 refine aM (fun hN => aQm (h := ((gG out l out.length : Nat) : Int)) rfl rfl hN slR rfl rfl rfl og (by simpa using hpl)) (.inr dg) ?_
 simp only [go_sem, hlx, rA, Int.toNat_natCast, hlx, rA, A7, A3, List.length_singleton, A2, B0, Int.toNat_natCast, <- D0, <- E5]
 refine (jr) ((jy) ((jt) (k7 ((jw (wiS i og)) ((jt) ?_)))))
 refine ⟨(i + 1, pF out l), ⟨og, by have := aNy out l; simp only; omega, by rw [hdrop] at hfold; exact hfold, aHj hgo (hb l hml)⟩, og, [(0, 6)], ?_⟩
 simp only [go_sem, AObj.bel, AObj.ren, AV.ren, aA, sg, Int.natCast_zero] <;> simp
 first | exact h9 | simpa using h9
def aUm (ls : List Entry) (hz : dB ls) (hl : ls.length <= 1048576) : aB P 185 [.sl 5 (ls.map enA)] [] 0 (.sl 2 ((uN ls).map rA)) := by
 refine (pq 49 [.tmp 2] func185) ?_
 have hmx := mxl
 refine (aj) ?_
 refine sr rfl fun k2 => (ja) ((jr) (k2 ((aj) ?_)))
 refine sq fun k4 => (aj) (wb ?_)
 refine wl (α := Nat × Nat × List Run) (fun x => x.2.1 < x.1 /\ x.1 <= ls.length + 1 /\ x.2.2.length <= x.2.1 /\ x.2.2 ++ (rD ls (ls.length + 1 - x.1) x.2.1 x.1).map (fun p : List Entry => (⟨p, mA p⟩ : Run)) = uN ls) (fun x => ls.length + 1 - x.1) (fun x => ([(0, .sl 5 (ls.map enA)), (3, .ref 0), (4, Ni (x.2.1 : Int)), (5, Ni (x.1 : Int))], [(0, .row 109 2 (x.2.2.map rA))])) 1 (1, 0, []) ⟨by decide, by simp only; omega, by simp, by simp [uN]⟩ [] ?_ ?_
 . exact Cc
 rintro ⟨i, s, out⟩ ⟨his, hi, hol, hgo⟩
 simp only at his hi hol hgo ⊢
 refine sq fun k6 => (aj) ((cdB) ?_ ?_) <;> intro hc1
 . have hgt : ls.length + 1 - i = 0 := by simp at hc1; omega
   rw [hgt] at hgo
   have h9 : uN ls = out := by rw [<- hgo]; simp [rD]
   refine we ((jt) (k4 ((aj) ?_)))
   refine aFz 0 rfl ?_
   refine (Ag) (wR ?_)
   refine fO ?_ (bX _ _)
   exact Ab h9
 have hle1 : i <= ls.length := by simpa using hc1
 rw [show ls.length + 1 - i = (ls.length - i) + 1 by omega, bKb] at hgo
 have hzp : dB ((ls.take i).drop s) := ⟨by rw [B0, A7]; omega, fun e he => hz.2 e (D2 (D1 he))⟩
 have hpl : ((ls.take i).drop s).length = i - s := by rw [B0, A7]; omega
 refine wk (k6 (sq fun k8 => wb ?_))
 have hw1 := wr ((i : Int) - 1) ((i : Int) - 1) og
 have hw2 := wr ((i : Int) - (s : Int)) ((i : Int) - (s : Int)) og
 have hpn : ((i : Int) - 1).toNat = i - 1 := by omega
 have hpv : ls[i - 1]? = some (bT ls i) := by unfold bT; rw [A1 og]; rfl
 by_cases hle : i < ls.length
 . have hlx := eL hle
   refine sd mixed rfl fun k9 => (By hlx hpv hw1 hw2 hpn) ((jr) ((jy) (k9 ((cdB) ?_ ?_)))) <;> intro hc2
   . have hap : ¬ tR ls s i = true := by unfold tR; simpa [wF] using hc2
     rw [if_neg hap] at hgo
     refine wk ((jt) (k8 ((jw (wiS i og)) ((jt) ?_))))
     refine ⟨(i + 1, s, out), ⟨by simp only; omega, by simp only; omega, hol, by simp only [Nat.add_sub_add_right]; exact hgo⟩, by simp only; omega, [(0, 0)], ?_⟩
     exact Db
   have hap : tR ls s i = true := by unfold tR; simpa [wF] using hc2
   rw [if_pos hap] at hgo
   refine sr rfl fun k10 => (Dy) ((jr) ?_)
   refine dL 2 rfl ?_
   refine (Ag) ?_
   refine vs rfl rfl rfl func131 (aDn ((ls.take i).drop s) hzp) oG oG ?_
   refine (Dz) ((jr) (k10 (wg rfl ((ja) ((jt) (k8 ((jw (wiS i og)) ((jt) ?_))))))))
   refine ⟨(i + 1, i, out ++ [⟨((ls.take i).drop s), mA ((ls.take i).drop s)⟩]), ⟨by simp only; omega, by simp only; omega, by simp only [A3, List.length_singleton]; omega, by simp only [Nat.add_sub_add_right]; rw [F6]; exact hgo⟩, by simp only; omega, [(0, 4)], ?_⟩
   exact Db
 have hee : i = ls.length := by omega
 have hdf : decide ((i : Int) = (ls.length : Int)) = true := by simp; omega
 have hnn : ls[i]? = none := D6 og
 refine sd mixed rfl fun k9 => ?_
 simp only [go_sem, hdf, hnn, hpv, hw1, hw2, hpn, enA]
 repeat (first | refine ⟨og, ?_⟩ | refine ⟨fun hg => absurd hg.1 oS, ?_⟩)
 refine aM (fun hN => bD (rt := []) (rd := []) (val := Ns ⟨#[]⟩) hN rfl rfl rfl rfl trivial (fun hg => absurd hg oS) (by trivial)) (.inl rfl) ?_
 simp only [go_sem, hdf, hnn, hpv, hw1, hw2, hpn, enA]
 refine (jr) ((jy) (k9 ((cdB) ?_ ?_))) <;> intro hc3
 . exfalso; simp at hc3
 have hap : tR ls s i = true := by unfold tR; rw [hdf]; rfl
 rw [if_pos hap] at hgo
 refine sr rfl fun k11 => (Dy) ((jr) ?_)
 refine dL 2 rfl ?_
 refine (Ag) ?_
 refine vs rfl rfl rfl func131 (aDn ((ls.take i).drop s) hzp) oG oG ?_
 refine (Dz) ((jr) (k11 (wg rfl ((ja) ((jt) (k8 ((jw (wiS i og)) ((jt) ?_))))))))
 refine ⟨(i + 1, i, out ++ [⟨((ls.take i).drop s), mA ((ls.take i).drop s)⟩]), ⟨by simp only; omega, by simp only; omega, by simp only [A3, List.length_singleton]; omega, by simp only [Nat.add_sub_add_right]; rw [F6]; exact hgo⟩, by simp only; omega, [(0, 4)], ?_⟩
 exact Db
end
def qD (rs : List Run) : Prop := (∀ r ∈ rs, cW r = true) /\ rs.length <= 8
def vF {rs : List Run} (h : qD rs) : ∀ r ∈ rs, 1 <= r.ents.length /\ r.ents.length <= 1048576 := fun r hr => by have := eG (h.1 r hr); omega
def bJy {rs ss : List Run} (h : qD rs) (hs : ∀ r ∈ ss, r ∈ rs) (hl : ss.length <= 8) : qD ss := ⟨fun r hr => h.1 r (hs r hr), hl⟩
def aFs {rs : List Run} (h : ∀ r ∈ rs, cW r = true) (hl : rs.length <= 16) : (sG (rs.map Run.ents)).length <= 2400 /\ dB (sG (rs.map Run.ents)) /\ (∀ b ∈ rs.map Run.ents, b.length <= 1048576) /\ gY (sG (rs.map Run.ents)) := by
  have hp : (sG (rs.map Run.ents)).Perm (rs.map Run.ents).flatten := lZ _
  have hlen : ∀ (ss : List Run), (∀ r ∈ ss, cW r = true) -> (ss.map Run.ents).flatten.length <= 150 * ss.length := fun ss => by
    induction ss with
    | nil => intro _; simp
    | cons x r ih =>
      intro h
      have h1 := ih fun y hy => h y (A4 _ hy)
      have h2 := eG (h x A5)
      simp only [List.map_cons, List.flatten_cons, A3, B7] at h1 ⊢
      omega
  have h1 := hlen rs h
  rw [<- hp.length_eq] at h1
  have hs : ∀ e ∈ sG (rs.map Run.ents), e.key.size <= 1048576 /\ e.text.size <= 1048576 := fun e he => by
    obtain ⟨l, hl, he⟩ := List.mem_flatten.1 (hp.mem_iff.1 he)
    obtain ⟨r, hr, rfl⟩ := B3.1 hl
    have := h r hr
    simp only [cW, C8] at this
    exact eW (vN this.1.2 he)
  refine ⟨og, ⟨og, fun e he => ?_⟩, fun b hb => ?_, ⟨og, hs⟩⟩
  . have := hs e he; exact ⟨og, og⟩
  obtain ⟨r, hr, rfl⟩ := B3.1 hb
  have := eG (h r hr); omega
def aRw (ls : List Entry) (hl : ls.length <= 2400) : (∀ r ∈ uN ls, 1 <= r.ents.length /\ r.ents.length <= 1048576) /\ (uN ls).length <= 2400 := by
  obtain ⟨h1, h2⟩ := aEr ls.length ls (A0 _)
  have hlen : ∀ (L : List (List Entry)), (∀ p ∈ L, p ≠ []) -> L.length <= L.flatten.length := fun L => by
    induction L with
    | nil => intro _; simp
    | cons x r ih =>
      intro h
      have g1 := ih fun y hy => h y (A4 _ hy)
      have g2 := E8.2 (h x A5)
      simp only [List.flatten_cons, A3, B7] at g1 ⊢
      omega
  have h3 : (wD ls).length <= ls.length := by have := hlen (wD ls) h2; rw [show (wD ls).flatten = ls from h1] at this; exact this
  rw [aAn]
  refine ⟨fun r hr => ?_, by rw [A2]; omega⟩
  obtain ⟨p, hp, rfl⟩ := B3.1 hr
  have g1 := E8.2 (h2 p hp)
  have g2 : p.length <= ls.length := by
    have := List.Sublist.length_le (I1 hp)
    rw [show (wD ls).flatten = ls from h1] at this; exact this
  exact ⟨g1, by show p.length <= 1048576; omega⟩
def aLf : ∀ (b a : List Run), (sK a b).length = a.length + b.length
  | [], a => rfl
  | r :: b, a => by
    have := aLf b (pF a r)
    unfold sK at this ⊢
    rw [List.foldl_cons, this, aNy, B7]; omega
def bPb {ls : List (List Run)} (i j : Nat) (x y : List Run) : fzL (((ls.map rsO).set i (AV.sl 2 (x.map rA))).set j (AV.sl 2 (y.map rA))) = ((ls.set i x).set j y).map rsA := by
  refine List.ext_getElem? fun k => ?_
  simp only [aKh, B5, G3, D3, A2]
  by_cases h1 : j = k
  . subst h1
    by_cases h2 : j < ls.length
    . simp [h2, AV.fz, rsA, qS]
    simp [h2]
  by_cases h3 : i = k
  . subst h3
    by_cases h2 : i < ls.length
    . simp [h1, h2, AV.fz, rsA, qS]
    simp [h1, h2]
  simp only [if_neg h1, if_neg h3]
  cases ls[k]? with
  | none => rfl
  | some r => simp [bAb]
def uJ (t : Tree) (lv : Nat) (taken rest b c : List Run) : Tree × Bool :=
  if lL (qW taken b t.snaps (if (lv : Int) + 1 = 2 then true else gX c (bO taken b))) = false then (t, false)
  else (⟨t.seq, t.mem, (t.levels.set lv rest).set (lv + 1) (qW taken b t.snaps (if (lv : Int) + 1 = 2 then true else gX c (bO taken b))), t.snaps⟩, true)
def bLn (seq : Int) (mem : List Entry) (a b c : List Run) (snaps : List Int) : uJ ⟨seq, mem, [a, b, c], snaps⟩ 0 a [] b c = if lL (qW a b snaps (gX c (bO a b))) = false then (⟨seq, mem, [a, b, c], snaps⟩, false) else (⟨seq, mem, [[], qW a b snaps (gX c (bO a b)), c], snaps⟩, true) := by
  unfold uJ; rw [if_neg (show ¬ ((0 : Nat) : Int) + 1 = 2 by decide)]; rfl
def bIs (seq : Int) (mem : List Entry) (a b c k r : List Run) (snaps : List Int) : uJ ⟨seq, mem, [a, b, c], snaps⟩ 1 k r c c = if lL (qW k c snaps true) = false then (⟨seq, mem, [a, b, c], snaps⟩, false) else (⟨seq, mem, [a, r, qW k c snaps true], snaps⟩, true) := by
  unfold uJ; rw [if_pos (show ((1 : Nat) : Int) + 1 = 2 by decide)]; rfl
def bAi {b : List Run} {p : Nat} (h : p < b.length) : aF b p ≠ [] := by
  intro e
  have := congrArg List.length e
  unfold aF at this; rw [B0, A7, List.length_nil] at this; omega
def xV {b : List Run} (h : qD b) (p : Nat) : qD (aF b p) :=
  bJy h (fun r hr => D2 (D1 hr)) (by have := h.2; unfold aF; rw [B0, A7]; omega)
def aPy (t : Tree) (c : List Run) (n : Int) (all : List Run) (h2 : t.levels[2]? = some c) (hne : all ≠ []) (hr : ∀ r ∈ all, 1 <= r.ents.length /\ r.ents.length <= 1048576) (hl : all.length <= 1000000) (hc : ∀ r ∈ c, 1 <= r.ents.length /\ r.ents.length <= 1048576) (hcl : c.length <= 1000000) : aB P 183 [trA t, Ni n, .sl 2 (all.map rA)] [] 0 (Nb (if n = 2 then true else gX c all)) := by
 refine (pq 31 [.tmp 6] func183) ?_
 simp only [trA]
 have hlt : 2 < t.levels.length := (A9.1 h2).1
 refine (aj) ?_
 refine sq fun k2 => (aj) ((cdA) ?_ ?_) <;> intro hc1
 . have h9 : (if n = 2 then true else gX c all) = true := if_pos (by simpa using hc1)
   exact (aj) (wR (fq h9))
 have h9 : (if n = 2 then true else gX c all) = gX c all := if_neg (by simpa using hc1)
 refine wk (k2 (sr rfl fun k5 => (ja) ((vq func179 (yS all hne hr hl)) (k5 (sr rfl fun k6 => ?_)))))
 simp only [go_sem, tn2, B5, h2, rsA, Option.map_some, A2]
 refine (jr) ((vq func180 (aBv c (nO all).1 (nO all).2 hc hcl)) ((jr) (k6 (sr rfl fun k7 => (Bp) (k7 (wR ?_))))))
 rw [h9]; refine fO ?_ trivial; simp only [go_sem, gX]
def zD (t : Tree) (lv : Nat) (taken rest b c : List Run) (hb : t.levels[lv + 1]? = some b) (hc : t.levels[2]? = some c) (ht : gS t) (hne : taken ≠ []) (hto : qD taken) (hbo : qD b) (hco : qD c) (hlv : lv <= 1) : aB P 134 [trA t, Ni (lv : Int), .sl 2 (taken.map rA), .sl 2 (rest.map rA)] [] 0 (.tup [trA (uJ t lv taken rest b c).1, .raw (.bool (uJ t lv taken rest b c).2)]) := by
 refine (pq 73 [.cell 8 36, .tmp 9] func134) ?_
 simp only [trA]
 have hmx := mxl
 have hlt := (A9.1 hb).1
 have hw1 := wr ((lv : Int) + 1) ((lv : Int) + 1) og
 have hpn : ((lv : Int) + 1).toNat = lv + 1 := by omega
 have hin : (b.filter (iV (nO taken).1 (nO taken).2)).length <= b.length := List.length_filter_le _ _
 have hoff : (b.filter fun r => !iV (nO taken).1 (nO taken).2 r).length <= b.length := List.length_filter_le _ _
 have htl := hto.2
 have hbl := hbo.2
 have hal : (bO taken b).length <= 16 := by unfold bO; rw [A3]; omega
 have hao : ∀ r ∈ bO taken b, cW r = true := fun r hr => by
   rcases B4.1 hr with h | h
   . exact hto.1 r h
   exact hbo.1 r (List.mem_filter.1 h).1
 have hag : ∀ r ∈ bO taken b, 1 <= r.ents.length /\ r.ents.length <= 1048576 := fun r hr => by have := eG (hao r hr); omega
 have han : bO taken b ≠ [] := by unfold bO; simp [hne]
 obtain ⟨hm1, hm2, hm3, _⟩ := aFs hao hal
 have hall : taken ++ b.filter (iV (nO taken).1 (nO taken).2) = bO taken b := rfl
 have hsl := yY (sG ((bO taken b).map Run.ents)) t.snaps (if (lv : Int) + 1 = 2 then true else gX c (bO taken b))
 obtain ⟨hc1', hc2'⟩ := aRw (eC (sG ((bO taken b).map Run.ents)) t.snaps (if (lv : Int) + 1 = 2 then true else gX c (bO taken b))) og
 have hol := aLf (uN (eC (sG ((bO taken b).map Run.ents)) t.snaps (if (lv : Int) + 1 = 2 then true else gX c (bO taken b)))) (b.filter fun r => !iV (nO taken).1 (nO taken).2 r)
 have hnew : sK (b.filter fun r => !iV (nO taken).1 (nO taken).2 r) (uN (eC (sG ((bO taken b).map Run.ents)) t.snaps (if (lv : Int) + 1 = 2 then true else gX c (bO taken b)))) = (qW taken b t.snaps (if (lv : Int) + 1 = 2 then true else gX c (bO taken b))) := rfl
 obtain ⟨a, ha, _, _⟩ := ix (xs := t.levels) (i := lv) og
 have hse : ((t.levels.map rsO).set lv (AV.sl 2 (rest.map rA)))[lv + 1]? = some (rsO b) := by rw [List.getElem?_set_ne og, B5, hb]; rfl
 have hnl : (qW taken b t.snaps (if (lv : Int) + 1 = 2 then true else gX c (bO taken b))).length <= 1000000 := by rw [<- hnew, hol]; omega
 refine (aj) ?_
 refine sr rfl fun k2 => (Aa hw1) (k2 (sr rfl fun k3 => (ja) ((vq func179 (yS taken hne (vF hto) og)) (k3 (sr rfl fun k4 => ?_)))))
 simp only [go_sem, hpn, B5, hb, rsA, Option.map_some, A2]
 refine (jr) ((vq func180 (aBv b (nO taken).1 (nO taken).2 (vF hbo) og)) ((jr) (k4 (sr rfl fun k5 => ?_))))
 simp only [go_sem, A2, List.nil_append, A3, <- E4]
 refine (jr) (k5 ?_)
 refine aFz 4 rfl ?_
 simp only [go_sem, fzL, AV.fz, hall]
 refine sd mixed rfl fun k6 => (ja) ?_
 refine tp rfl rfl rfl ⟨func182, rfl, rfl⟩ (aLb (bO taken b) og) oG oG ?_
 refine (ja) ?_
 refine tp rfl rfl rfl ⟨func181, rfl, rfl⟩ (aIx ((bO taken b).map Run.ents) (by rw [A2]; omega) hm3) oG oG ?_
 refine (ja) ?_
 refine tp rfl rfl rfl ⟨func183, rfl, rfl⟩ (aPy t c ((lv : Int) + 1) (bO taken b) hc han hag og (vF hco) (by have := hco.2; omega)) Af Af ?_
 refine (ja) ?_
 refine tp rfl rfl rfl ⟨func132, rfl, rfl⟩ (aPn (sG ((bO taken b).map Run.ents)) t.snaps (if (lv : Int) + 1 = 2 then true else gX c (bO taken b)) hm2 og ht.2.2) oG oG ?_
 refine (ja) ((jy) (k6 (sr rfl fun k7 => (ja) ((vq func185 (aUm (eC (sG ((bO taken b).map Run.ents)) t.snaps (if (lv : Int) + 1 = 2 then true else gX c (bO taken b))) (bBq hm2) og)) ?_))))
 refine vs rfl rfl rfl func184 (aOb (b.filter fun r => !iV (nO taken).1 (nO taken).2 r) (uN (eC (sG ((bO taken b).map Run.ents)) t.snaps (if (lv : Int) + 1 = 2 then true else gX c (bO taken b)))) (fun r hr => vF hbo r (List.mem_filter.1 hr).1) hc1' og og) oG oG ?_
 refine (Aa hnew) (k7 (sq fun k8 => sr rfl fun k9 => (ja) ((vq func186 (aOu (qW taken b t.snaps (if (lv : Int) + 1 = 2 then true else gX c (bO taken b))) hnl)) (k9 ((cdA) ?_ ?_))))) <;> intro hc1
 . have hf : lL (qW taken b t.snaps (if (lv : Int) + 1 = 2 then true else gX c (bO taken b))) = false := by simpa using hc1
   have h9 : (uJ t lv taken rest b c) = (t, false) := if_pos hf
   refine (aj) (wR ?_)
   rw [h9]
   refine fO ?_ ⟨⟨trivial, enB _ _, aX _ _, bZ _ _, trivial⟩, trivial, trivial⟩
   exact Af
 have hf : ¬ lL (qW taken b t.snaps (if (lv : Int) + 1 = 2 then true else gX c (bO taken b))) = false := by simpa using hc1
 have h9 : (uJ t lv taken rest b c) = (⟨t.seq, t.mem, (t.levels.set lv rest).set (lv + 1) (qW taken b t.snaps (if (lv : Int) + 1 = 2 then true else gX c (bO taken b))), t.snaps⟩, true) := if_neg hf
 refine wk (k8 (sr rfl fun k11 => (ja) ?_))
 refine vn 3 rfl rfl rfl ⟨func65, rfl, rfl⟩ (lR t ht) Af Af oS dg ?_
 refine (jn) (k11 (sr rfl fun k12 => ?_))
 simp only [go_sem, Int.toNat_natCast, A2, B5, ha, Option.map_some]
 refine (jr) (k12 (sr rfl fun k13 => ?_))
 simp only [go_sem, hpn, A2, D3, hse]
 refine (jr) (k13 ((aj) ?_))
 refine aFz 5 rfl ?_
 refine (Ag) ?_
 refine aFz 6 rfl ?_
 simp only [go_sem, fzL, AV.fz, bPb]
 refine aFz 7 rfl ?_
 refine (Ag) (wR ?_)
 rw [h9]
 refine fO ?_ ⟨⟨trivial, enB _ _, aX _ _, bZ _ _, trivial⟩, trivial, trivial⟩
 exact Af
def aGk (seq : Int) (mem : List Entry) (a b c : List Run) (snaps : List Int) (level pick : Int) (ht : gS ⟨seq, mem, [a, b, c], snaps⟩) (hao : qD a) (hbo : qD b) (hco : qD c) : aB P 84 [trA ⟨seq, mem, [a, b, c], snaps⟩, Ni level, Ni pick] [] 0 (.tup [trA (mT ⟨seq, mem, [a, b, c], snaps⟩ level pick).1, .raw (.bool (mT ⟨seq, mem, [a, b, c], snaps⟩ level pick).2)]) := by
 refine (pq 73 [.cell 6 36, .tmp 7] func84) ?_
 simp only [trA, List.map_cons, List.map_nil]
 have hmx := mxl
 have hn0 : ((0 : Nat) : Int) = 0 := rfl
 have hn1 : ((1 : Nat) : Int) = 1 := rfl
 have hbl := hbo.2
 refine (aj) ?_
 refine sq fun k2 => sr rfl fun k3 => (Dk) ((jr) (k3 ((cdA) ?_ ?_))) <;> intro hc1
 . have hne : a ≠ [] := by intro e; rw [e] at hc1; simp at hc1
   have hm9 : uJ ⟨seq, mem, [a, b, c], snaps⟩ 0 a [] b c = (mT ⟨seq, mem, [a, b, c], snaps⟩ level pick) := (bLn _ _ _ _ _ _).trans (if_pos hc1).symm
   refine sdT 5 mixed rfl fun k4 => ?_
   refine (Dk) ((jr) ?_)
   refine aM (fun hN => aAd (e := 109) (sz := 2) (xs := []) rfl hN oG trivial oS) (.inr dg) ?_
   simp only [go_sem, fzL, Int.toNat_zero, tn1, tn2, List.getElem?_cons_zero, List.getElem?_cons_succ, rsA, A2]
   refine (jr) ?_
   refine tp rfl rfl rfl ⟨func134, rfl, rfl⟩ (zD ⟨seq, mem, [a, b, c], snaps⟩ 0 a [] b c rfl rfl ht hne hao hbo hco dg) (by simp only [go_sem, trA, hn0, List.map_nil, List.map_cons, rsA]) (by simp only [go_sem, trA, hn0, List.map_nil, List.map_cons, rsA]) ?_
   simp only [go_sem, hm9, trA]
   refine (jr) ((jy) (k4 (wR ?_)))
   refine fO ?_ ⟨jT _ _, trivial, trivial⟩
   exact Af
 refine wk (k2 (sq fun k5 => sr rfl fun k6 => (Dk) ((jr) (k6 ((cdB) ?_ ?_))))) <;> intro hc2
 . have h9 : (mT ⟨seq, mem, [a, b, c], snaps⟩ level pick) = (⟨seq, mem, [a, b, c], snaps⟩, false) := (if_neg (by rw [hc1]; simp)).trans (if_neg (by rw [hc2]; simp))
   refine wk (k5 ((aj) (wR ?_)))
   rw [h9]
   refine fO ?_ ⟨jT _ ⟨seq, mem, [a, b, c], snaps⟩, trivial, trivial⟩
   exact Bv
 have hp0 : 0 <= pick /\ pick < (b.length : Int) := by simp at hc2; omega
 obtain ⟨p, rfl⟩ := Int.eq_ofNat_of_zero_le hp0.1
 have hpl : p < b.length := by omega
 have hwp := wiS p og
 have hm9 : uJ ⟨seq, mem, [a, b, c], snaps⟩ 1 (aF b p) (qG b p) c c = (mT ⟨seq, mem, [a, b, c], snaps⟩ level (p : Int)) := (bIs _ _ _ _ _ _ _ _).trans ((if_neg (by rw [hc1]; simp)).trans (if_pos hc2)).symm
 refine sd mixed rfl fun k7 => ?_
 simp only [go_sem, Int.toNat_zero, tn1, tn2, List.getElem?_cons_zero, List.getElem?_cons_succ, rsA, A2, Int.toNat_natCast, hwp, List.nil_append, A3, A7, B0, C6, <- D0, <- E5, <- E4]
 refine (jr) ((jy) (k7 ?_))
 refine aFz 4 rfl ?_
 simp only [go_sem, fzL, AV.fz, <- D0, <- E5, <- E4, qS]
 refine sd mixed rfl fun k8 => ?_
 simp only [go_sem, Int.toNat_zero, tn1, tn2, List.getElem?_cons_zero, List.getElem?_cons_succ, rsA, A2, Int.toNat_natCast, hwp, <- D0, <- E5]
 refine (jr) ?_
 refine tp rfl rfl rfl ⟨func134, rfl, rfl⟩ (zD ⟨seq, mem, [a, b, c], snaps⟩ 1 (aF b p) (qG b p) c c rfl rfl ht (bAi hpl) (xV hbo p) hco hco dg) (by simp only [go_sem, trA, hn1, aF, qG, List.map_nil, List.map_cons, rsA]) (by simp only [go_sem, trA, hn1, aF, qG, List.map_nil, List.map_cons, rsA]) ?_
 simp only [go_sem, hm9, trA]
 refine (jr) ((jy) (k8 (wR ?_)))
 refine fO ?_ ⟨jT _ _, trivial, trivial⟩
 exact Af
def aAh {t : Tree} (h : bR t = true) : ∃ a b c, t.levels = [a, b, c] /\ qD a /\ qD b /\ qD c /\ Lvl b /\ Lvl c := by
  unfold bR at h; split at h
  . cases h
  rename_i hb
  unfold qP at hb
  simp only [F8, decide_eq_true_eq, Bool.not_eq_true', decide_eq_false_iff_not, not_or] at hb
  split at h
  . cases h
  split at h
  . cases h
  rename_i hb3
  obtain ⟨a, b, c, hlv⟩ : ∃ a b c, t.levels = [a, b, c] := by
    have h3 : t.levels.length = 3 := by omega
    match hl : t.levels, h3 with
    | [a, b, c], _ => exact ⟨a, b, c, rfl⟩
  have hb3 : vV t.levels = true := by simpa using hb3
  unfold vV at hb3; rw [jZ, hlv] at hb3
  have l0 := hb3 0 oS
  have l1 := hb3 1 oS
  have l2 := hb3 2 oS
  simp only [List.getElem?_cons_zero, List.getElem?_cons_succ, Option.getD_some] at l0 l1 l2
  obtain ⟨a0, b0, -⟩ := (gH _ _).1 l0
  obtain ⟨a1, b1, c1⟩ := (gH _ _).1 l1
  obtain ⟨a2, b2, c2⟩ := (gH _ _).1 l2
  have r0 : aBo ((0 : Nat) : Int) = 4 := rfl
  have r1 : aBo ((1 : Nat) : Int) = 8 := rfl
  have r2 : aBo ((2 : Nat) : Int) = 8 := rfl
  rw [r0] at a0; rw [r1] at a1; rw [r2] at a2
  exact ⟨a, b, c, hlv, ⟨b0, og⟩, ⟨b1, og⟩, ⟨b2, og⟩, ⟨b1, aDh (c1 dg) b1⟩, ⟨b2, aDh (c2 dg) b2⟩⟩
def aOo {p : Run -> Prop} : ∀ (b a : List Run), (∀ r ∈ a, p r) -> (∀ r ∈ b, p r) -> ∀ r ∈ sK a b, p r
  | [], a, ha, _ => ha
  | x :: b, a, ha, hb => aOo b (pF a x) (aHj ha (hb x A5)) fun r hr => hb r (A4 _ hr)
def bQt {ls : List Entry} (h : gY ls) : ∀ r ∈ uN ls, gY r.ents := fun r hr => by
  rw [aAn] at hr
  obtain ⟨p, hp, rfl⟩ := B3.1 hr
  have h1 : (wD ls).flatten = ls := (aEr ls.length ls (A0 _)).1
  have hs : p.Sublist ls := by rw [<- h1]; exact I1 hp
  exact ⟨G6 hs.length_le h.1, fun e he => h.2 e (hs.subset he)⟩
def bIj {taken b : List Run} {ts : List Int} {bot : Bool} (hto : qD taken) (hbo : qD b) (hb : xB b) (hf : lL (qW taken b ts bot) = true) : xB (qW taken b ts bot) := by
  have hal : (bO taken b).length <= 16 := by
    have h1 := hto.2
    have h2 := hbo.2
    have : (b.filter (iV (nO taken).1 (nO taken).2)).length <= b.length := List.length_filter_le _ _
    unfold bO; rw [A3]; omega
  have hao : ∀ r ∈ bO taken b, cW r = true := fun r hr => by
    rcases B4.1 hr with h | h
    . exact hto.1 r h
    exact hbo.1 r (List.mem_filter.1 h).1
  have hsq : gY (eC (sG ((bO taken b).map Run.ents)) ts bot) := bFi (aFs hao hal).2.2.2
  refine ⟨?_, aOo _ _ (fun r hr => hb.2 r (List.mem_filter.1 hr).1) (bQt hsq)⟩
  unfold lL at hf
  simp only [C8, decide_eq_true_eq] at hf
  have := hf.2
  omega
def aTq {t : Tree} (h : bR t = true) (ht : gS t) (level pick : Int) : gS (mT t level pick).1 := by
  obtain ⟨a, b, c, hlv, ha, hb, hc, _, _⟩ := aAh h
  have hl := ht.2.1
  rw [hlv] at hl
  have sa := hl.2 a oS
  have sb := hl.2 b oS
  have sc := hl.2 c oS
  have mk : ∀ x y z : List Run, xB x -> xB y -> xB z -> gS ⟨t.seq, t.mem, [x, y, z], t.snaps⟩ := fun x y z hx hy hz => ⟨ht.1, ⟨by simp, fun r hr => by
    simp only [B1, List.not_mem_nil, or_false] at hr
    rcases hr with rfl | rfl | rfl
    . exact hx
    . exact hy
    exact hz⟩, ht.2.2⟩
  have hnil : xB [] := ⟨A6 _, fun r hr => by cases hr⟩
  unfold mT; simp only [hlv]; split
  . split
    . exact ht
    rename_i hf
    exact mk _ _ _ hnil (bIj ha hb sb (by simpa using hf)) sc
  split
  . split
    . exact ht
    rename_i hf
    refine mk _ _ _ sa ?_ (bIj (xV hb _) hc sc (by simpa using hf))
    unfold qG
    refine ⟨by have := sb.1; rw [A3, A7, B0]; omega, fun r hr => ?_⟩
    rcases B4.1 hr with hr | hr
    . exact sb.2 r (D2 hr)
    exact sb.2 r (D1 hr)
  exact ht
def bNr (t : Tree) (level pick : Int) (h : bR t = true) (ht : gS t) : aB P 84 [trA t, Ni level, Ni pick] [] 0 (.tup [trA (mT t level pick).1, .raw (.bool (mT t level pick).2)]) := by
  obtain ⟨a, b, c, hlv, ha, hb, hc, _, _⟩ := aAh h
  obtain ⟨seq, mem, lv, snaps⟩ := t
  obtain rfl : lv = [a, b, c] := hlv
  exact aGk seq mem a b c snaps level pick ht ha hb hc
def cC (t : Tree) (level pick : Int) : Tree × Bool := if eH t = false then (mM, false) else mT t level pick
def cG (s : Store) (level pick : Int) : Store × Bool := if gB s = false then (zStore, false) else if s.up = false then (lD s, false) else
  if (cC s.tree level pick).2 = false then (lD s, false) else (⟨(lD s).up, (cC s.tree level pick).1, { (lD s).disk with levels := (cC s.tree level pick).1.levels }⟩, true)
def aIb {t : Tree} (ht : gS t) (level pick : Int) : gS (cC t level pick).1 := by
  unfold cC; split
  . exact ⟨⟨A6 _, by intro e he; cases he⟩, ⟨A6 _, by intro e he; cases he⟩, A6 _⟩
  rename_i h
  exact aTq (by rw [pQ]; simpa using h) ht level pick
def aDa (t : Tree) (level pick : Int) (ht : gS t) : aB P 52 [trA t, Ni level, Ni pick] [] 0 (.tup [trA (cC t level pick).1, .raw (.bool (cC t level pick).2)]) := by
 refine (pq 25 [.cell 6 36, .tmp 7] func52) ?_
 simp only [trA]
 refine (aj) ?_
 refine sq fun k2 => sr rfl fun k3 => (ja) ?_
 refine (vr rfl rfl rfl func58 (uD t ht) Af Af) (k3 ((cdA) ?_ ?_)) <;> intro hc1
 . have hok : eH t = false := by simpa using hc1
   have h9 : (cC t level pick) = (mM, false) := if_pos hok
   refine (aj) ?_
   refine hZ 1 (ds := [Ni 0, .sl 5 [], .sl 1 [], .sl 1 []]) rfl (by repeat (first | exact LeL.nil | refine LeL.cons (by first | exact Le.refl _ | exact Le.nil _) ?_)) oG ?_
   refine (ja) (wR ?_)
   rw [h9]
   refine fO ?_ ⟨jT _ mM, trivial, trivial⟩
   simp only [go_sem, mM, trA, List.map_nil]
 have hok : eH t = true := by simpa using hc1
 have hoI : bR t = true := by rw [pQ]; exact hok
 have h9 : (cC t level pick) = mT t level pick := if_neg (by rw [hok]; simp)
 refine wk (k2 (sr rfl fun k5 => (ja) ?_))
 refine vn 3 rfl rfl rfl ⟨func65, rfl, rfl⟩ (lR t ht) Af Af oS dg ?_
 refine (jn) ?_
 refine dL 2 rfl ?_
 refine (Bz) ?_
 refine dL 3 rfl ?_
 refine (Bz) ?_
 refine dL 4 rfl ?_
 refine (Bz) ?_
 refine vs rfl rfl rfl func84 (bNr t level pick hoI ht) Af Af ?_
 simp only [go_sem, trA]
 refine k5 (sr rfl fun k6 => (ja) ?_)
 refine vn 3 rfl rfl rfl ⟨func65, rfl, rfl⟩ (lR (mT t level pick).1 (aTq hoI ht level pick)) Af Af oS dg ?_
 refine (jn) (k6 ?_)
 refine aFz 6 rfl ?_
 simp only [go_sem, fzL, AV.fz, cF, bK, dH]
 refine aFz 7 rfl ?_
 simp only [go_sem, fzL, AV.fz, cF, bK, dH]
 refine aFz 8 rfl ?_
 simp only [go_sem, fzL, AV.fz, cF, bK, dH]; refine wR ?_; rw [h9]
 refine fO ?_ ⟨jT _ _, trivial, trivial⟩
 exact Af
def aAw (s : Store) (level pick : Int) (hs : dM s) (hlg : s.disk.log.size <= 1048576) : aB P 22 [stA s, Ni level, Ni pick] [] 0 (.tup [stA (cG s level pick).1, .raw (.bool (cG s level pick).2)]) := by
 refine (pq 35 [.cell 6 40, .tmp 7] func22) ?_
 simp only [stA]
 refine (aj) ?_
 refine sq fun k2 => sr rfl fun k3 => (ja) ?_
 refine (vr rfl rfl rfl func27 (aNw s hs hlg) Ae Ae) (k3 ((cdA) ?_ ?_)) <;> intro hc1
 . have hok : gB s = false := by simpa using hc1
   have h9 : (cG s level pick) = (zStore, false) := by unfold cG; rw [if_pos hok]
   refine (aj) ?_
   refine hZ 1 (ds := [Nb false, Ni 0, .sl 5 [], .sl 1 [], .sl 1 [], Ns ⟨#[]⟩, Ni 0, .sl 1 [], Ni 0]) rfl (by repeat (first | exact LeL.nil | refine LeL.cons (by first | exact Le.refl _ | exact Le.nil _) ?_)) oG ?_
   refine (ja) (wR ?_)
   rw [h9]
   refine fO ?_ ⟨dT _ zStore, trivial, trivial⟩
   simp only [go_sem, stA, zStore, mM, bKx, List.map_nil]
 have hok : gB s = true := by simpa using hc1
 refine wk (k2 (sr rfl fun k5 => (ja) ?_))
 refine vs rfl rfl rfl func29 (aPb s hs) Ae Ae ?_
 refine (Br) (k5 (sq fun k6 => (aj) ((cdA) ?_ ?_))) <;> intro hc2
 . have hup : s.up = false := by simpa using hc2
   have h9 : (cG s level pick) = (lD s, false) := by unfold cG; rw [if_neg (by rw [hok]; simp), if_pos hup]
   refine (aj) (wR ?_)
   rw [h9]
   refine fO ?_ ⟨dT _ _, trivial, trivial⟩
   exact Ae
 have hup : s.up = true := by simpa using hc2
 refine wk (k6 (sr rfl fun k9 => (ja) ?_))
 refine vs rfl rfl rfl func52 (aDa s.tree level pick hs.1) Af Af ?_
 simp only [go_sem, trA]
 refine k9 (sq fun k10 => (aj) ((cdA) ?_ ?_)) <;> intro hc3
 . have hf : (cC s.tree level pick).2 = false := by simpa using hc3
   have h9 : (cG s level pick) = (lD s, false) := by unfold cG; rw [if_neg (by rw [hok]; simp), if_neg (by rw [hup]; simp), if_pos hf]
   refine (aj) (wR ?_)
   rw [h9]
   refine fO ?_ ⟨dT _ _, trivial, trivial⟩
   exact Ae
 have hf : ¬ (cC s.tree level pick).2 = false := by simpa using hc3
 have h9 : (cG s level pick) = (⟨(lD s).up, (cC s.tree level pick).1, { (lD s).disk with levels := (cC s.tree level pick).1.levels }⟩, true) := by unfold cG; rw [if_neg (by rw [hok]; simp), if_neg (by rw [hup]; simp), if_neg hf]
 refine wk (k10 (sr rfl fun k13 => (ja) ?_))
 refine vs rfl rfl rfl func53 (aJi (lD s) (cC s.tree level pick).1 (aIb hs.1 level pick).2.1) (by simp only [go_sem, stA, trA]) (by simp only [go_sem, stA, trA]) ?_
 refine (Br) (k13 (wR ?_))
 rw [h9]
 refine fO ?_ ⟨dT _ _, trivial, trivial⟩
 exact Ae
end Go.Proofs.S
end
