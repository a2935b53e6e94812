/-
  The abstract layer, the walks and the plain laws that the claim leans on, part 4 of 7 (working texts S4 to S17). It proves lemmas alone; no condition of its own.
-/
import Derived.Test.YthbibdnkiklemaaGreatDoorP3
import Derived.Laws.StructEq
import Derived.ChangeKeysEq
set_option linter.all false
set_option maxRecDepth 20000
section
open Go Go.Abs Go.Proofs
namespace Go.Proofs.S
section
variable {α : Type} {z : AV} {i : Nat} {xs : List α}
def mix (f : α → AV) (xs : List α) (z : AV) (i : Nat) : List AV := (xs.take i).map f ++ List.replicate (xs.length - i) z
theorem mix_zero (f : α → AV) (xs : List α) (z : AV) : mix f xs z 0 = List.replicate xs.length z := by simp [mix]
theorem mix_end (f : α → AV) (xs : List α) (z : AV) : mix f xs z xs.length = xs.map f := by simp [mix]
theorem mix_len (f : α → AV) (h : i ≤ xs.length) : (mix f xs z i).length = xs.length := by simp [mix]; omega
theorem mix_get (f : α → AV) (h : i < xs.length) : (mix f xs z i)[i]? = some z := by
  unfold mix
  have hl : ((xs.take i).map f).length = i := by rw [List.length_map, List.length_take]; omega
  rw [List.getElem?_append_right (by omega), hl, Nat.sub_self, List.getElem?_replicate, if_pos (by omega)]
theorem mix_set (f : α → AV) {x : α} (h : xs[i]? = some x) : (mix f xs z i).set i (f x) = mix f xs z (i + 1) := by
  have hlt := (List.getElem?_eq_some_iff.1 h).1
  have hl : ((xs.take i).map f).length = i := by rw [List.length_map, List.length_take]; omega
  unfold mix; rw [List.set_append_right _ _ (by omega), hl, Nat.sub_self, List.take_add_one, h]
  have hr : xs.length - i = (xs.length - (i + 1)) + 1 := by omega
  rw [hr, List.replicate_succ, List.set_cons_zero]
  simp
abbrev zEnt : AV := .agg [.raw (.string ⟨#[]⟩), .raw (.int .i64 0), .raw (.int .i64 0), .raw (.string ⟨#[]⟩), .raw (.int .i64 0)]
abbrev zRun : AV := .agg [.raw (.slice none 0 0), .raw (.int .i64 0)]
abbrev zSl : AV := .raw (.slice none 0 0)
abbrev zInt : AV := .raw (.int .i64 0)
theorem rep_bel (U : Nat → Prop) (n : Nat) (h : z.bel U) : aC U (List.replicate n z) := by
  rw [bLi]; intro x hx; rw [(List.mem_replicate.1 hx).2]; exact h
theorem mix_bel {f : α → AV} (U : Nat → Prop) (xs : List α) (i : Nat) (hf : ∀ U a, (f a).bel U) (hz : z.bel U) : aC U (mix f xs z i) := by
  unfold mix
  rw [bLi]; intro x hx
  rcases List.mem_append.1 hx with h | h
  · exact bLi.1 (nD hf U (xs.take i)) x h
  exact bLi.1 (rep_bel U _ hz) x h
theorem mixE_bel (U : Nat → Prop) (ls : List Entry) (i : Nat) : aC U (mix enA ls zEnt i) := mix_bel U ls i eN ⟨trivial, trivial, trivial, trivial, trivial, trivial⟩
theorem mixR_bel (U : Nat → Prop) (ls : List Run) (i : Nat) : aC U (mix runOwn ls zRun i) := mix_bel U ls i runOwn_b ⟨trivial, trivial, trivial⟩
theorem mixL_bel (U : Nat → Prop) (ls : List (List Run)) (i : Nat) : aC U (mix rsO ls zSl i) := mix_bel U ls i qI trivial
theorem mixI_bel (U : Nat → Prop) (ls : List Int) (i : Nat) : aC U (mix inA ls zInt i) := mix_bel U ls i (fun _ _ => trivial) trivial
theorem zE_bel (U : Nat → Prop) (n : Nat) : aC U (List.replicate n zEnt) := rep_bel U n ⟨trivial, trivial, trivial, trivial, trivial, trivial⟩
theorem zR_bel (U : Nat → Prop) (n : Nat) : aC U (List.replicate n zRun) := rep_bel U n ⟨trivial, trivial, trivial⟩
theorem zL_bel (U : Nat → Prop) (n : Nat) : aC U (List.replicate n zSl) := rep_bel U n trivial
theorem zI_bel (U : Nat → Prop) (n : Nat) : aC U (List.replicate n zInt) := rep_bel U n trivial
def gD (ls : List Entry) : Prop := ls.length ≤ 1048576 ∧ ∀ e ∈ ls, e.key.size ≤ 1048576 ∧ e.text.size ≤ 1048576
def sRuns (ls : List Run) : Prop := ls.length ≤ 1048576 ∧ ∀ r ∈ ls, gD r.ents
def mR (ls : List (List Run)) : Prop := ls.length ≤ 1048576 ∧ ∀ r ∈ ls, sRuns r
theorem w_laws_toEntry (e : Entry) : aB P 32 [enA e] [] 0 (enA e) := by
 refine pq 20 [.cell 2 65] Tryz.func32 ?_
 simp only [enA]; refine aj ?_; refine aj ?_; refine aj ?_; refine aj ?_; refine aj ?_; refine aj ?_; refine aj ?_
 refine aj (wR ?_)
 refine fO ?_ ⟨trivial, trivial, trivial, trivial, trivial, trivial⟩
 simp only [go_sem, enA]
theorem tV (ls : List Entry) (hs : gD ls) : aD P 11 [.sl 5 (ls.map enA)] [] 0 (.ref 0) [(0, .row 65 5 (ls.map enA))] 1 := by
 refine gq 23 [.tmp 2] Tryz.func11 ?_
 have hmx : maxLen = 9223372036854775807 := rfl
 have hlen := hs.1
 refine aj ?_
 refine sr rfl fun _ k2 => ja ?_
 refine ⟨⟨by omega, by omega, by omega, by simp [maxLen]; omega⟩, ?_⟩
 refine k2 (sq fun _ k3 => (aj (wb ?_)))
 refine wl (α := Nat) (fun x => x ≤ ls.length) (fun x => ls.length - x) (fun x => ([(0, .sl 5 (ls.map enA)), (3, .ref 0), (4, .raw (.int .i64 (x : Int)))], [(0, .row 65 5 (mix enA ls zEnt x))])) 1 0 (Nat.zero_le _) [] ?_ ?_
 · rw [mix_zero]
   simp only [go_sem, AObj.bel, Nat.reduceLeDiff, Nat.reduceLT, Nat.reduceAdd, zE_bel, Int.natCast_zero] <;> simp [zE_bel]
 rintro i hi
 refine sq fun _ k5 => aj ?_
 refine cdS rfl (fun hc1 => ?_) fun hc1 => ?_
 · have hge : ls.length ≤ i := Nat.not_lt.1 (by simpa using hc1)
   refine we (jt (k3 ?_))
   refine aj (wR ?_)
   have hie : i = ls.length := by omega
   subst hie; rw [mix_end]; refine ⟨[], ?_⟩
   simp only [go_sem, AObj.bel, Nat.reduceLeDiff, Nat.reduceLT, Nat.reduceAdd] <;> simp
 have hlt : i < ls.length := (by simpa using hc1); obtain ⟨l, hl, hdrop, hml⟩ := ix hlt
 have hmg := mix_get enA (z := zEnt) hlt
 have hms := mix_set enA (z := zEnt) hl
 have hml2 := mix_len enA (xs := ls) (z := zEnt) hi
 refine wk (k5 (sq fun _ k7 => (wb ?_)))
 refine wg rfl ?_; simp only [go_sem, hl, enA]
 repeat (first | refine ⟨by omega, ?_⟩ | refine ⟨fun hg => by (try simp at hg); omega, ?_⟩)
 refine vs rfl rfl rfl Tryz.func32 (w_laws_toEntry l) (by simp only [go_sem, enA]) (by simp only [go_sem, enA]) ?_
 simp only [go_sem, enA, hmg, hml2]
 repeat (first | refine ⟨by omega, ?_⟩ | refine ⟨fun hg => by (try simp at hg); omega, ?_⟩)
 have hms' : (mix enA ls zEnt i).set i (.agg [.raw (.string l.key), .raw (.int .i64 l.seq), .raw (.int .i64 l.kind), .raw (.string l.text), .raw (.int .i64 l.n)]) = mix enA ls zEnt (i + 1) := hms
 rw [hms']
 refine jt (k7 ?_)
 refine jw (wiS i (by omega)) ?_
 refine jt ?_
 refine ⟨i + 1, by omega, by omega, [], ?_⟩
 simp only [go_sem, AObj.bel, Nat.reduceLeDiff, Nat.reduceLT, Nat.reduceAdd, mixE_bel] <;> simp
theorem w_laws_toIntS (ls : List Int) (hs : ls.length ≤ 1048576) : aD P 67 [.sl 1 (ls.map inA)] [] 0 (.ref 0) [(0, .row 3 1 (ls.map inA))] 1 := by
 refine gq 22 [.tmp 2] Tryz.func67 ?_
 have hmx : maxLen = 9223372036854775807 := rfl
 have hlen := hs
 refine aj ?_
 refine sr rfl fun _ k2 => ja ?_
 refine ⟨⟨by omega, by omega, by omega, by simp [maxLen]; omega⟩, ?_⟩
 refine k2 (sq fun _ k3 => (aj (wb ?_)))
 refine wl (α := Nat) (fun x => x ≤ ls.length) (fun x => ls.length - x) (fun x => ([(0, .sl 1 (ls.map inA)), (3, .ref 0), (4, .raw (.int .i64 (x : Int)))], [(0, .row 3 1 (mix inA ls zInt x))])) 1 0 (Nat.zero_le _) [] ?_ ?_
 · rw [mix_zero]
   simp only [go_sem, AObj.bel, Nat.reduceLeDiff, Nat.reduceLT, Nat.reduceAdd, zI_bel, Int.natCast_zero] <;> simp [zI_bel]
 rintro i hi
 refine sq fun _ k5 => aj ?_
 refine cdS rfl (fun hc1 => ?_) fun hc1 => ?_
 · have hge : ls.length ≤ i := Nat.not_lt.1 (by simpa using hc1)
   refine we (jt (k3 ?_))
   refine aj (wR ?_)
   have hie : i = ls.length := by omega
   subst hie; rw [mix_end]; refine ⟨[], ?_⟩
   simp only [go_sem, AObj.bel, Nat.reduceLeDiff, Nat.reduceLT, Nat.reduceAdd] <;> simp
 have hlt : i < ls.length := (by simpa using hc1); obtain ⟨l, hl, hdrop, hml⟩ := ix hlt
 have hmg := mix_get inA (z := zInt) hlt
 have hms := mix_set inA (z := zInt) hl
 have hml2 := mix_len inA (xs := ls) (z := zInt) hi
 refine wk (k5 (sq fun _ k7 => (wb ?_)))
 refine wg rfl ?_; simp only [go_sem, hl, hmg, hml2, inA]
 repeat (first | refine ⟨by omega, ?_⟩ | refine ⟨fun hg => by (try simp at hg); omega, ?_⟩)
 have hms' : (mix inA ls zInt i).set i (.raw (.int .i64 l)) = mix inA ls zInt (i + 1) := hms
 rw [hms']
 refine jt (k7 ?_)
 refine jw (wiS i (by omega)) ?_
 refine jt ?_
 refine ⟨i + 1, by omega, by omega, [], ?_⟩
 simp only [go_sem, AObj.bel, Nat.reduceLeDiff, Nat.reduceLT, Nat.reduceAdd, mixI_bel] <;> simp
theorem w_laws_toRun (r : Run) (hs : gD r.ents) : aD P 159 [rA r] [] 0 (.agg [.ref 0, .raw (.int .i64 r.mask)]) [(0, .row 65 5 (r.ents.map enA))] 1 := by
 refine gq 12 [.cell 2 109] Tryz.func159 ?_
 simp only [rA]; refine aj ?_; refine aj ?_
 refine sr rfl fun _ k3 => ja ?_
 refine vn 1 rfl rfl rfl ⟨Tryz.func11, rfl, rfl⟩ (tV r.ents hs) (by simp only [go_sem]) (by simp only [go_sem]) (by simp) (by decide) ?_
 simp only [go_sem, AV.ren, AObj.ren, aA, shift, sg, Nat.le_refl, Nat.add_zero, Nat.sub_self]
 refine k3 (aj ?_)
 refine aj (wR ?_)
 refine ⟨[(0, 3)], ?_⟩
 simp only [go_sem, AObj.bel, AObj.ren, AV.ren, aA, sg] <;> simp
theorem w_laws_toRunS (ls : List Run) (hs : sRuns ls) : aD P 111 [.sl 2 (ls.map rA)] [] 0 (.ref 0) [(0, .row 109 2 (ls.map runOwn))] 1 := by
 refine gq 23 [.tmp 2] Tryz.func111 ?_
 have hmx : maxLen = 9223372036854775807 := rfl
 have hlen := hs.1
 refine aj ?_
 refine sr rfl fun _ k2 => ja ?_
 refine ⟨⟨by omega, by omega, by omega, by simp [maxLen]; omega⟩, ?_⟩
 refine k2 (sq fun _ k3 => (aj (wb ?_)))
 refine wl (α := Nat) (fun x => x ≤ ls.length) (fun x => ls.length - x) (fun x => ([(0, .sl 2 (ls.map rA)), (3, .ref 0), (4, .raw (.int .i64 (x : Int)))], [(0, .row 109 2 (mix runOwn ls zRun x))])) 1 0 (Nat.zero_le _) [] ?_ ?_
 · rw [mix_zero]
   simp only [go_sem, AObj.bel, Nat.reduceLeDiff, Nat.reduceLT, Nat.reduceAdd, zR_bel, Int.natCast_zero] <;> simp [zR_bel]
 rintro i hi
 refine sq fun _ k5 => aj ?_
 refine cdS rfl (fun hc1 => ?_) fun hc1 => ?_
 · have hge : ls.length ≤ i := Nat.not_lt.1 (by simpa using hc1)
   refine we (jt (k3 ?_))
   refine aj (wR ?_)
   have hie : i = ls.length := by omega
   subst hie; rw [mix_end]; refine ⟨[], ?_⟩
   simp only [go_sem, AObj.bel, Nat.reduceLeDiff, Nat.reduceLT, Nat.reduceAdd] <;> simp
 have hlt : i < ls.length := (by simpa using hc1); obtain ⟨l, hl, hdrop, hml⟩ := ix hlt
 have hmg := mix_get runOwn (z := zRun) hlt
 have hms := mix_set runOwn (z := zRun) hl
 have hml2 := mix_len runOwn (xs := ls) (z := zRun) hi
 refine wk (k5 (sq fun _ k7 => (wb ?_)))
 refine wg rfl ?_; simp only [go_sem, hl, rA]
 repeat (first | refine ⟨by omega, ?_⟩ | refine ⟨fun hg => by (try simp at hg); omega, ?_⟩)
 refine vn 1 rfl rfl rfl ⟨Tryz.func159, rfl, rfl⟩ (w_laws_toRun l (hs.2 l hml)) (by simp only [go_sem, rA]) (by simp only [go_sem, rA]) (by simp) (by decide) ?_
 simp only [go_sem, AV.ren, AObj.ren, aA, shift, sg, Nat.le_refl, Nat.add_zero, Nat.sub_self, hmg, hml2]
 repeat (first | refine ⟨by omega, ?_⟩ | refine ⟨fun hg => by (try simp at hg); omega, ?_⟩)
 have hms' : (mix runOwn ls zRun i).set i (.agg [.own 65 5 (l.ents.map enA), .raw (.int .i64 l.mask)]) = mix runOwn ls zRun (i + 1) := hms
 rw [hms']
 refine jt (k7 ?_)
 refine jw (wiS i (by omega)) ?_
 refine jt ?_
 refine ⟨i + 1, by omega, by omega, [], ?_⟩
 simp only [go_sem, AObj.bel, Nat.reduceLeDiff, Nat.reduceLT, Nat.reduceAdd, mixR_bel] <;> simp
theorem vD (ls : List (List Run)) (hs : mR ls) : aD P 66 [.sl 1 (ls.map rsA)] [] 0 (.ref 0) [(0, .row 107 1 (ls.map rsO))] 1 := by
 refine gq 23 [.tmp 2] Tryz.func66 ?_
 have hmx : maxLen = 9223372036854775807 := rfl
 have hlen := hs.1
 refine aj ?_
 refine sr rfl fun _ k2 => ja ?_
 refine ⟨⟨by omega, by omega, by omega, by simp [maxLen]; omega⟩, ?_⟩
 refine k2 (sq fun _ k3 => (aj (wb ?_)))
 refine wl (α := Nat) (fun x => x ≤ ls.length) (fun x => ls.length - x) (fun x => ([(0, .sl 1 (ls.map rsA)), (3, .ref 0), (4, .raw (.int .i64 (x : Int)))], [(0, .row 107 1 (mix rsO ls zSl x))])) 1 0 (Nat.zero_le _) [] ?_ ?_
 · rw [mix_zero]
   simp only [go_sem, AObj.bel, Nat.reduceLeDiff, Nat.reduceLT, Nat.reduceAdd, zL_bel, Int.natCast_zero] <;> simp [zL_bel]
 rintro i hi
 refine sq fun _ k5 => aj ?_
 refine cdS rfl (fun hc1 => ?_) fun hc1 => ?_
 · have hge : ls.length ≤ i := Nat.not_lt.1 (by simpa using hc1)
   refine we (jt (k3 ?_))
   refine aj (wR ?_)
   have hie : i = ls.length := by omega
   subst hie; rw [mix_end]; refine ⟨[], ?_⟩
   simp only [go_sem, AObj.bel, Nat.reduceLeDiff, Nat.reduceLT, Nat.reduceAdd] <;> simp
 have hlt : i < ls.length := (by simpa using hc1); obtain ⟨l, hl, hdrop, hml⟩ := ix hlt
 have hmg := mix_get rsO (z := zSl) hlt
 have hms := mix_set rsO (z := zSl) hl
 have hml2 := mix_len rsO (xs := ls) (z := zSl) hi
 refine wk (k5 (sq fun _ k7 => (wb ?_)))
 refine wg rfl ?_; simp only [go_sem, hl, rsA]
 repeat (first | refine ⟨by omega, ?_⟩ | refine ⟨fun hg => by (try simp at hg); omega, ?_⟩)
 refine vn 1 rfl rfl rfl ⟨Tryz.func111, rfl, rfl⟩ (w_laws_toRunS l (hs.2 l hml)) (by simp only [go_sem, rsA]) (by simp only [go_sem, rsA]) (by simp) (by decide) ?_
 simp only [go_sem, AV.ren, AObj.ren, aA, shift, sg, Nat.le_refl, Nat.add_zero, Nat.sub_self, hmg, hml2]
 repeat (first | refine ⟨by omega, ?_⟩ | refine ⟨fun hg => by (try simp at hg); omega, ?_⟩)
 have hms' : (mix rsO ls zSl i).set i (.own 109 2 (l.map runOwn)) = mix rsO ls zSl (i + 1) := hms
 rw [hms']
 refine jt (k7 ?_)
 refine jw (wiS i (by omega)) ?_
 refine jt ?_
 refine ⟨i + 1, by omega, by omega, [], ?_⟩
 simp only [go_sem, AObj.bel, Nat.reduceLeDiff, Nat.reduceLT, Nat.reduceAdd, mixL_bel] <;> simp
theorem w_laws_toTree (t : Tree) (h1 : gD t.mem) (h2 : mR t.levels) (h3 : t.snaps.length ≤ 1048576) : aD P 30 [trA t] [] 0 (.agg [.raw (.int .i64 t.seq), .ref 0, .ref 1, .ref 2]) [(0, .row 65 5 (t.mem.map enA)), (1, .row 107 1 (t.levels.map rsO)), (2, .row 3 1 (t.snaps.map inA))] 3 := by
 refine gq 20 [.cell 2 36] Tryz.func30 ?_
 simp only [trA]; refine aj ?_; refine aj ?_; refine aj ?_
 refine sr rfl fun _ k4 => ja ?_
 refine vn 1 rfl rfl rfl ⟨Tryz.func11, rfl, rfl⟩ (tV t.mem h1) (by simp only [go_sem]) (by simp only [go_sem]) (by simp) (by decide) ?_
 simp only [go_sem, AV.ren, AObj.ren, aA, shift, sg, Nat.le_refl, Nat.add_zero, Nat.sub_self]
 refine k4 (sr rfl fun _ k5 => (ja ?_))
 refine vn 1 rfl rfl rfl ⟨Tryz.func66, rfl, rfl⟩ (vD t.levels h2) (by simp only [go_sem]) (by simp only [go_sem]) (by simp) (by decide) ?_
 simp only [go_sem, AV.ren, AObj.ren, aA, shift, sg, Nat.le_refl, Nat.add_zero, Nat.sub_self]
 refine k5 (sr rfl fun _ k6 => (ja ?_))
 refine vn 1 rfl rfl rfl ⟨Tryz.func67, rfl, rfl⟩ (w_laws_toIntS t.snaps h3) (by simp only [go_sem]) (by simp only [go_sem]) (by simp) (by decide) ?_
 simp only [go_sem, AV.ren, AObj.ren, aA, shift, sg, Nat.le_refl, Nat.add_zero, Nat.sub_self]
 refine k6 (aj (wR ?_))
 refine ⟨[(0, 3), (1, 4), (2, 5)], ?_⟩
 simp only [go_sem, AObj.bel, AObj.ren, AV.ren, aA, sg] <;> simp
theorem w_laws_toDisk (d : Disk) (h2 : mR d.levels) : aD P 31 [dkA d] [] 0 (.agg [.raw (.string d.log), .raw (.int .i64 d.safe), .ref 0, .raw (.int .i64 d.seq)]) [(0, .row 107 1 (d.levels.map rsO))] 1 := by
 refine gq 18 [.cell 2 38] Tryz.func31 ?_
 simp only [dkA]; refine aj ?_; refine aj ?_; refine aj ?_; refine aj ?_
 refine sr rfl fun _ k5 => ja ?_
 refine vn 1 rfl rfl rfl ⟨Tryz.func66, rfl, rfl⟩ (vD d.levels h2) (by simp only [go_sem]) (by simp only [go_sem]) (by simp) (by decide) ?_
 simp only [go_sem, AV.ren, AObj.ren, aA, shift, sg, Nat.le_refl, Nat.add_zero, Nat.sub_self]
 refine k5 (aj ?_)
 refine aj (wR ?_)
 refine ⟨[(0, 3)], ?_⟩
 simp only [go_sem, AObj.bel, AObj.ren, AV.ren, aA, sg] <;> simp
theorem lV (s : Store) (h1 : gD s.tree.mem) (h2 : mR s.tree.levels) (h3 : s.tree.snaps.length ≤ 1048576) (h4 : mR s.disk.levels) : aD P 10 [stA s] [] 0 (.agg [.raw (.bool s.up), .raw (.int .i64 s.tree.seq), .ref 0, .ref 1, .ref 2, .raw (.string s.disk.log), .raw (.int .i64 s.disk.safe), .ref 3, .raw (.int .i64 s.disk.seq)]) [(0, .row 65 5 (s.tree.mem.map enA)), (1, .row 107 1 (s.tree.levels.map rsO)), (2, .row 3 1 (s.tree.snaps.map inA)), (3, .row 107 1 (s.disk.levels.map rsO))] 4 := by
 refine gq 16 [.cell 2 40] Tryz.func10 ?_
 simp only [stA]; refine aj ?_; refine aj ?_; refine aj ?_
 refine sr rfl fun _ k4 => ja ?_
 refine vn 3 rfl rfl rfl ⟨Tryz.func30, rfl, rfl⟩ (w_laws_toTree s.tree h1 h2 h3) (by simp only [go_sem, trA]) (by simp only [go_sem, trA]) (by simp) (by decide) ?_
 simp only [go_sem, AV.ren, AObj.ren, aA, shift, sg, Nat.le_refl, Nat.add_zero, Nat.sub_self]
 refine k4 (sr rfl fun _ k5 => (ja ?_))
 refine vn 1 rfl rfl rfl ⟨Tryz.func31, rfl, rfl⟩ (w_laws_toDisk s.disk h4) (by simp only [go_sem, dkA]) (by simp only [go_sem, dkA]) (by simp) (by decide) ?_
 simp only [go_sem, AV.ren, AObj.ren, aA, shift, sg, Nat.le_refl, Nat.add_zero, Nat.sub_self]
 refine k5 (aj (wR ?_))
 refine ⟨[(0, 3), (1, 4), (2, 5), (3, 6)], ?_⟩
 simp only [go_sem, AObj.bel, AObj.ren, AV.ren, aA, sg] <;> simp
end
theorem w_laws_eqEntry (e : Entry) : aB P 38 [enA e, enA e] [] 0 (.raw (.bool true)) := by
 refine pq 30 [.tmp 4] Tryz.func38 ?_
 simp only [enA]; refine aj ?_
 refine sq fun _ k2 => sr rfl fun _ k3 => ?_
 simp only [go_sem, beq_self_eq_true, Bool.not_true]; apply k3
 refine cd rfl (fun hc => by simp at hc) fun hc1 => ?_
 refine wk (k2 (sq fun _ k4 => (sr rfl fun _ k5 => ?_)))
 simp only [go_sem, decide_true, Bool.not_true]; apply k5
 refine cd rfl (fun hc => by simp at hc) fun hc2 => ?_
 refine wk (k4 (sq fun _ k6 => (sr rfl fun _ k7 => ?_)))
 simp only [go_sem, decide_true, Bool.not_true]; apply k7
 refine cd rfl (fun hc => by simp at hc) fun hc3 => ?_
 refine wk (k6 (sq fun _ k8 => (sr rfl fun _ k9 => ?_)))
 simp only [go_sem, beq_self_eq_true, Bool.not_true]; apply k9
 refine cd rfl (fun hc => by simp at hc) fun hc4 => ?_
 refine wk (k8 (sq fun _ k10 => (sr rfl fun _ k11 => ?_)))
 simp only [go_sem, decide_true, Bool.not_true]; apply k11
 refine cd rfl (fun hc => by simp at hc) fun hc5 => ?_
 refine wk (k10 (aj (wR ?_)))
 refine fO ?_ trivial; simp only [go_sem]
theorem uD (ls : List Entry) (hs : gD ls) : aB P 14 [.sl 5 (ls.map enA), .sl 5 (ls.map enA)] [] 0 (.raw (.bool true)) := by
 refine pq 27 [.tmp 4] Tryz.func14 ?_
 have hlen := hs.1
 refine aj ?_
 refine sq fun _ k2 => sr rfl fun _ k3 => ?_
 simp only [go_sem, decide_true, Bool.not_true]; apply k3
 refine cd rfl (fun hc => by simp at hc) fun hc1 => ?_
 refine wk (k2 (sq fun _ k4 => (aj (wb ?_))))
 refine wl (α := Nat) (fun x => x ≤ ls.length) (fun x => ls.length - x) (fun x => ([(0, .sl 5 (ls.map enA)), (1, .sl 5 (ls.map enA)), (5, .raw (.int .i64 (x : Int)))], [])) 0 0 (Nat.zero_le _) [] ?_ ?_
 · simp only [go_sem, Int.natCast_zero] <;> simp
 rintro i hi
 refine sq fun _ k6 => aj ?_
 refine cdS rfl (fun hc2 => ?_) fun hc2 => ?_
 · have hge : ls.length ≤ i := Nat.not_lt.1 (by simpa using hc2)
   refine we (jt (k4 ?_))
   refine aj (wR ?_)
   refine fO ?_ trivial; simp only [go_sem]
 have hlt : i < ls.length := (by simpa using hc2); obtain ⟨l, hl, hdrop, hml⟩ := ix hlt
 refine wk (k6 (sq fun _ k8 => (wb (sd mixed rfl fun _ k9 => ?_))))
 simp only [go_sem, hl, enA]
 refine ⟨⟨by omega, by omega⟩, ⟨by omega, by omega⟩, ?_⟩
 refine tp rfl rfl rfl ⟨Tryz.func38, rfl, rfl⟩ (w_laws_eqEntry l) (by simp only [go_sem, enA]) (by simp only [go_sem, enA]) ?_
 simp only [go_sem, Bool.not_true]; refine jr ?_; refine ⟨by rfl, ?_⟩; apply k9
 refine cd rfl (fun hc => by simp at hc) fun hc3 => ?_
 refine wk (jt (k8 ?_))
 refine jw (wiS i (by omega)) ?_
 refine jt ?_
 refine ⟨i + 1, by omega, by omega, [], ?_⟩
 simp only [go_sem] <;> simp
theorem w_laws_eqIntS (ls : List Int) (hs : ls.length ≤ 1048576) : aB P 74 [.sl 1 (ls.map inA), .sl 1 (ls.map inA)] [] 0 (.raw (.bool true)) := by
 refine pq 26 [.tmp 4] Tryz.func74 ?_
 have hlen := hs
 refine aj ?_
 refine sq fun _ k2 => sr rfl fun _ k3 => ?_
 simp only [go_sem, decide_true, Bool.not_true]; apply k3
 refine cd rfl (fun hc => by simp at hc) fun hc1 => ?_
 refine wk (k2 (sq fun _ k4 => (aj (wb ?_))))
 refine wl (α := Nat) (fun x => x ≤ ls.length) (fun x => ls.length - x) (fun x => ([(0, .sl 1 (ls.map inA)), (1, .sl 1 (ls.map inA)), (5, .raw (.int .i64 (x : Int)))], [])) 0 0 (Nat.zero_le _) [] ?_ ?_
 · simp only [go_sem, Int.natCast_zero] <;> simp
 rintro i hi
 refine sq fun _ k6 => aj ?_
 refine cdS rfl (fun hc2 => ?_) fun hc2 => ?_
 · have hge : ls.length ≤ i := Nat.not_lt.1 (by simpa using hc2)
   refine we (jt (k4 ?_))
   refine aj (wR ?_)
   refine fO ?_ trivial; simp only [go_sem]
 have hlt : i < ls.length := (by simpa using hc2); obtain ⟨l, hl, hdrop, hml⟩ := ix hlt
 refine wk (k6 (sq fun _ k8 => (wb (sd mixed rfl fun _ k9 => ?_))))
 simp only [go_sem, hl, inA, decide_true, Bool.not_true]
 refine ⟨⟨by omega, by omega⟩, ⟨by omega, by omega⟩, ?_⟩
 refine ⟨by rfl, ?_⟩; apply k9
 refine cd rfl (fun hc => by simp at hc) fun hc3 => ?_
 refine wk (jt (k8 ?_))
 refine jw (wiS i (by omega)) ?_
 refine jt ?_
 refine ⟨i + 1, by omega, by omega, [], ?_⟩
 simp only [go_sem] <;> simp
theorem w_laws_eqRun (r : Run) (hs : gD r.ents) : aB P 174 [rA r, rA r] [] 0 (.raw (.bool true)) := by
 refine pq 16 [.tmp 4] Tryz.func174 ?_
 simp only [rA]; refine aj ?_
 refine sq fun _ k2 => sr rfl fun _ k3 => ja ?_
 refine vs rfl rfl rfl Tryz.func14 (uD r.ents hs) (by simp only [go_sem]) (by simp only [go_sem]) ?_
 simp only [go_sem, Bool.not_true]; apply k3
 refine cd rfl (fun hc => by simp at hc) fun hc1 => ?_
 refine wk (k2 (sq fun _ k4 => (sr rfl fun _ k5 => ?_)))
 simp only [go_sem, decide_true, Bool.not_true]; apply k5
 refine cd rfl (fun hc => by simp at hc) fun hc2 => ?_
 refine wk (k4 (aj (wR ?_)))
 refine fO ?_ trivial; simp only [go_sem]
theorem w_laws_eqRunS (ls : List Run) (hs : sRuns ls) : aB P 128 [.sl 2 (ls.map rA), .sl 2 (ls.map rA)] [] 0 (.raw (.bool true)) := by
 refine pq 27 [.tmp 4] Tryz.func128 ?_
 have hlen := hs.1
 refine aj ?_
 refine sq fun _ k2 => sr rfl fun _ k3 => ?_
 simp only [go_sem, decide_true, Bool.not_true]; apply k3
 refine cd rfl (fun hc => by simp at hc) fun hc1 => ?_
 refine wk (k2 (sq fun _ k4 => (aj (wb ?_))))
 refine wl (α := Nat) (fun x => x ≤ ls.length) (fun x => ls.length - x) (fun x => ([(0, .sl 2 (ls.map rA)), (1, .sl 2 (ls.map rA)), (5, .raw (.int .i64 (x : Int)))], [])) 0 0 (Nat.zero_le _) [] ?_ ?_
 · simp only [go_sem, Int.natCast_zero] <;> simp
 rintro i hi
 refine sq fun _ k6 => aj ?_
 refine cdS rfl (fun hc2 => ?_) fun hc2 => ?_
 · have hge : ls.length ≤ i := Nat.not_lt.1 (by simpa using hc2)
   refine we (jt (k4 ?_))
   refine aj (wR ?_)
   refine fO ?_ trivial; simp only [go_sem]
 have hlt : i < ls.length := (by simpa using hc2); obtain ⟨l, hl, hdrop, hml⟩ := ix hlt
 refine wk (k6 (sq fun _ k8 => (wb (sd mixed rfl fun _ k9 => ?_))))
 simp only [go_sem, hl, rA]
 refine ⟨⟨by omega, by omega⟩, ⟨by omega, by omega⟩, ?_⟩
 refine tp rfl rfl rfl ⟨Tryz.func174, rfl, rfl⟩ (w_laws_eqRun l (hs.2 l hml)) (by simp only [go_sem, rA]) (by simp only [go_sem, rA]) ?_
 simp only [go_sem, Bool.not_true]; refine jr ?_; refine ⟨by rfl, ?_⟩; apply k9
 refine cd rfl (fun hc => by simp at hc) fun hc3 => ?_
 refine wk (jt (k8 ?_))
 refine jw (wiS i (by omega)) ?_
 refine jt ?_
 refine ⟨i + 1, by omega, by omega, [], ?_⟩
 simp only [go_sem] <;> simp
theorem wB (ls : List (List Run)) (hs : mR ls) : aB P 73 [.sl 1 (ls.map rsA), .sl 1 (ls.map rsA)] [] 0 (.raw (.bool true)) := by
 refine pq 27 [.tmp 4] Tryz.func73 ?_
 have hlen := hs.1
 refine aj ?_
 refine sq fun _ k2 => sr rfl fun _ k3 => ?_
 simp only [go_sem, decide_true, Bool.not_true]; apply k3
 refine cd rfl (fun hc => by simp at hc) fun hc1 => ?_
 refine wk (k2 (sq fun _ k4 => (aj (wb ?_))))
 refine wl (α := Nat) (fun x => x ≤ ls.length) (fun x => ls.length - x) (fun x => ([(0, .sl 1 (ls.map rsA)), (1, .sl 1 (ls.map rsA)), (5, .raw (.int .i64 (x : Int)))], [])) 0 0 (Nat.zero_le _) [] ?_ ?_
 · simp only [go_sem, Int.natCast_zero] <;> simp
 rintro i hi
 refine sq fun _ k6 => aj ?_
 refine cdS rfl (fun hc2 => ?_) fun hc2 => ?_
 · have hge : ls.length ≤ i := Nat.not_lt.1 (by simpa using hc2)
   refine we (jt (k4 ?_))
   refine aj (wR ?_)
   refine fO ?_ trivial; simp only [go_sem]
 have hlt : i < ls.length := (by simpa using hc2); obtain ⟨l, hl, hdrop, hml⟩ := ix hlt
 refine wk (k6 (sq fun _ k8 => (wb (sd mixed rfl fun _ k9 => ?_))))
 simp only [go_sem, hl, rsA]
 refine ⟨⟨by omega, by omega⟩, ⟨by omega, by omega⟩, ?_⟩
 refine tp rfl rfl rfl ⟨Tryz.func128, rfl, rfl⟩ (w_laws_eqRunS l (hs.2 l hml)) (by simp only [go_sem, rsA]) (by simp only [go_sem, rsA]) ?_
 simp only [go_sem, Bool.not_true]; refine jr ?_; refine ⟨by rfl, ?_⟩; apply k9
 refine cd rfl (fun hc => by simp at hc) fun hc3 => ?_
 refine wk (jt (k8 ?_))
 refine jw (wiS i (by omega)) ?_
 refine jt ?_
 refine ⟨i + 1, by omega, by omega, [], ?_⟩
 simp only [go_sem] <;> simp
theorem w_laws_eqTree (t : Tree) (h1 : gD t.mem) (h2 : mR t.levels) (h3 : t.snaps.length ≤ 1048576) : aB P 36 [trA t, trA t] [] 0 (.raw (.bool true)) := by
 refine pq 28 [.tmp 4] Tryz.func36 ?_
 simp only [trA]; refine aj ?_
 refine sq fun _ k2 => sr rfl fun _ k3 => ?_
 simp only [go_sem, decide_true, Bool.not_true]; apply k3
 refine cd rfl (fun hc => by simp at hc) fun hc1 => ?_
 refine wk (k2 (sq fun _ k4 => (sr rfl fun _ k5 => (ja ?_))))
 refine vs rfl rfl rfl Tryz.func14 (uD t.mem h1) (by simp only [go_sem]) (by simp only [go_sem]) ?_
 simp only [go_sem, Bool.not_true]; apply k5
 refine cd rfl (fun hc => by simp at hc) fun hc2 => ?_
 refine wk (k4 (sq fun _ k6 => (sr rfl fun _ k7 => (ja ?_))))
 refine vs rfl rfl rfl Tryz.func73 (wB t.levels h2) (by simp only [go_sem]) (by simp only [go_sem]) ?_
 simp only [go_sem, Bool.not_true]; apply k7
 refine cd rfl (fun hc => by simp at hc) fun hc3 => ?_
 refine wk (k6 (sq fun _ k8 => (sr rfl fun _ k9 => (ja ?_))))
 refine vs rfl rfl rfl Tryz.func74 (w_laws_eqIntS t.snaps h3) (by simp only [go_sem]) (by simp only [go_sem]) ?_
 simp only [go_sem, Bool.not_true]; apply k9
 refine cd rfl (fun hc => by simp at hc) fun hc4 => ?_
 refine wk (k8 (aj (wR ?_)))
 refine fO ?_ trivial; simp only [go_sem]
theorem w_laws_eqDisk (d : Disk) (h2 : mR d.levels) : aB P 37 [dkA d, dkA d] [] 0 (.raw (.bool true)) := by
 refine pq 26 [.tmp 4] Tryz.func37 ?_
 simp only [dkA]; refine aj ?_
 refine sq fun _ k2 => sr rfl fun _ k3 => ?_
 simp only [go_sem, beq_self_eq_true, Bool.not_true]; apply k3
 refine cd rfl (fun hc => by simp at hc) fun hc1 => ?_
 refine wk (k2 (sq fun _ k4 => (sr rfl fun _ k5 => ?_)))
 simp only [go_sem, decide_true, Bool.not_true]; apply k5
 refine cd rfl (fun hc => by simp at hc) fun hc2 => ?_
 refine wk (k4 (sq fun _ k6 => (sr rfl fun _ k7 => (ja ?_))))
 refine vs rfl rfl rfl Tryz.func73 (wB d.levels h2) (by simp only [go_sem]) (by simp only [go_sem]) ?_
 simp only [go_sem, Bool.not_true]; apply k7
 refine cd rfl (fun hc => by simp at hc) fun hc3 => ?_
 refine wk (k6 (sq fun _ k8 => (sr rfl fun _ k9 => ?_)))
 simp only [go_sem, decide_true, Bool.not_true]; apply k9
 refine cd rfl (fun hc => by simp at hc) fun hc4 => ?_
 refine wk (k8 (aj (wR ?_)))
 refine fO ?_ trivial; simp only [go_sem]
theorem lR (s : Store) (h1 : gD s.tree.mem) (h2 : mR s.tree.levels) (h3 : s.tree.snaps.length ≤ 1048576) (h4 : mR s.disk.levels) : aB P 13 [stA s, stA s] [] 0 (.raw (.bool true)) := by
 refine pq 22 [.tmp 4] Tryz.func13 ?_
 simp only [stA]; refine aj ?_
 refine sq fun _ k2 => sr rfl fun _ k3 => ?_
 simp only [go_sem, bne_self_eq_false, decide_true, Bool.not_true, beq_self_eq_true]; apply k3
 refine cd rfl (fun hc => by simp at hc) fun hc1 => ?_
 refine wk (k2 (sq fun _ k4 => (sr rfl fun _ k5 => (ja ?_))))
 refine vs rfl rfl rfl Tryz.func36 (w_laws_eqTree s.tree h1 h2 h3) (by simp only [go_sem, trA]) (by simp only [go_sem, trA]) ?_
 simp only [go_sem, Bool.not_true]; apply k5
 refine cd rfl (fun hc => by simp at hc) fun hc2 => ?_
 refine wk (k4 (sq fun _ k6 => (sr rfl fun _ k7 => (ja ?_))))
 refine vs rfl rfl rfl Tryz.func37 (w_laws_eqDisk s.disk h4) (by simp only [go_sem, dkA]) (by simp only [go_sem, dkA]) ?_
 simp only [go_sem, Bool.not_true]; apply k7
 refine cd rfl (fun hc => by simp at hc) fun hc3 => ?_
 refine wk (k6 (aj (wR ?_)))
 refine fO ?_ trivial; simp only [go_sem]
section
def dig (k : Int) : ByteArray := ByteArray.empty.push (UInt8.ofNat (IntKind.u8.wrap (IntKind.i64.wrap (48 + k.tmod 10))).toNat)
def digs : Nat → Int → ByteArray → ByteArray
  | 0, _, out => out
  | f + 1, k, out => if k ≤ 0 then out else digs f (k.tdiv 10) (dig k ++ out)
def tS (k : Int) : ByteArray := if k ≤ 0 then ⟨#[109, 48]⟩ else ⟨#[109]⟩ ++ digs 20 k ⟨#[]⟩
theorem FB : Tryz.prog.underlying 100 = some (.slice 5) ∧ Tryz.prog.underlying 5 = some (.int .u8) ∧ Tryz.prog.underlying 9 = some .string := by refine ⟨?_, ?_, ?_⟩ <;> kernel_rfl
theorem FI : eC Tryz.prog 3 = some .i64 ∧ eC Tryz.prog 5 = some .u8 := by refine ⟨?_, ?_⟩ <;> kernel_rfl
theorem h10 : ((10 : Int) = 0) = False := by simp
theorem jE (k : Int) (hk : k < 1000000000000000000) : aB P 41 [.raw (.int .i64 k)] [] 0 (.raw (.string (tS k))) := by
  refine pq 20 [.tmp 2] Tryz.func41 ?_
  refine sq fun K1 hK1 => ?_; refine wg rfl ?_; simp only [go_sem]
  apply hK1; clear hK1 K1
  refine sq fun K2 hK2 => ?_; refine sq fun K3 hK3 => ?_; refine wg rfl ?_; simp only [go_sem]
  apply hK3; clear hK3 K3
  refine cd rfl ?_ ?_
  · intro hc1
    have h0 : k ≤ 0 := by simpa using hc1
    refine sq fun K4 hK4 => ?_; refine wg rfl ?_; simp only [go_sem]
    apply hK4; clear hK4 K4
    refine wR (fO ?_ trivial)
    simp only [go_sem, tS, h0]
  intro hc1
  have h0 : ¬ k ≤ 0 := by simpa using hc1
  refine wk ?_; try simp only [athen]
  apply hK2; clear hK2 K2
  refine sq fun K6 hK6 => ?_; refine wg rfl ?_; simp only [go_sem]
  apply hK6; clear hK6 K6
  refine sq fun K5 hK5 => ?_; refine wb ?_
  refine wl (α := Nat × Int × ByteArray) (fun x => 0 ≤ x.2.1 ∧ x.2.1 < 10 ^ x.1 ∧ x.2.2.size + x.1 ≤ 20 ∧ x.2.1 < 1000000000000000000 ∧ digs x.1 x.2.1 x.2.2 = digs 20 k ⟨#[]⟩) (fun x => x.2.1.toNat) (fun x => ([(0, .raw (.int .i64 x.2.1)), (3, .raw (.string x.2.2))], [])) 0 (20, k, ⟨#[]⟩) ⟨by simp only; omega, by simp only; omega, by simp [ByteArray.size], hk, rfl⟩ [] ?_ ?_
  · simp only [go_sem] <;> simp
  rintro ⟨f, m, out⟩ ⟨hm0, hmf, hsz, hmk, hd⟩
  simp only at hm0 hmf hsz hmk hd ⊢
  refine sq fun K7 hK7 => ?_; refine sq fun K8 hK8 => ?_; refine wg rfl ?_; simp only [go_sem]
  apply hK8; clear hK8 K8
  refine cd rfl ?_ ?_
  · intro hc2
    have hpos : 0 < m := by simpa using hc2
    obtain ⟨g, rfl⟩ : ∃ g, f = g + 1 := by
      cases f with
      | zero => simp at hmf; omega
      | succ g => exact ⟨g, rfl⟩
    refine wk ?_; try simp only [athen]
    apply hK7; clear hK7 K7
    refine wb ?_; refine sq fun K9 hK9 => ?_; refine wg rfl ?_; simp only [go_sem, FI, h10, Option.isSome_some]
    refine vC (fun hN => rP (n := IntKind.u8.wrap (IntKind.i64.wrap (48 + m.tmod 10))) rfl rfl hN FB.1 FB.2.1 FB.2.2 rfl rfl) (.inl rfl) ?_
    have hd1 : ByteArray.empty.push (UInt8.ofNat (IntKind.u8.wrap (IntKind.i64.wrap (48 + m.tmod 10))).toNat) = dig m := rfl
    have hds : (dig m).size = 1 := rfl
    have hsz' : (dig m).size + out.size ≤ 9223372036854775807 := by rw [hds]; omega
    simp only [go_sem, hd1]
    refine ⟨hsz', ?_⟩
    apply hK9; clear hK9 K9
    refine wg rfl ?_
    have hq : m.tdiv 10 = m / 10 := Int.tdiv_eq_ediv_of_nonneg (by omega)
    have hwq : IntKind.i64.wrap (m.tdiv 10) = m.tdiv 10 := by
      rw [IntKind.wrap_i64, hq]; omega
    simp only [go_sem, FI, h10, hwq, Option.isSome_some]; simp only [lQ]
    have hstep : digs (g + 1) m out = digs g (m.tdiv 10) (dig m ++ out) := by simp [digs]; omega
    refine ⟨(g, m.tdiv 10, dig m ++ out), ⟨by simp only; omega, ?_, ?_, by simp only; omega, by rw [← hd, hstep]⟩, ?_, [], ?_⟩
    · simp only
      rw [hq]
      have h9 : m < 10 ^ g * 10 := by rw [← Int.pow_succ]; exact hmf
      omega
    · simp only [ByteArray.size_append]
      rw [hds]; omega
    · simp only; omega
    simp only [go_sem] <;> simp
  intro hc2
  have hm : m ≤ 0 := by have h9 : ¬ 0 < m := (by simpa using hc2); omega
  refine we (jt ?_)
  clear hK7 K7
  apply hK5; clear hK5 K5
  have hm' : m = 0 := by omega
  subst hm'
  have hd0 : digs f 0 out = out := by cases f <;> simp [digs]
  rw [hd0] at hd; refine sq fun K10 hK10 => ?_; refine wg rfl ?_
  have hsz' : (#[(109 : UInt8)] : Array UInt8).size + out.size ≤ 9223372036854775807 := by
    have : (#[(109 : UInt8)] : Array UInt8).size = 1 := rfl
    omega
  simp only [go_sem]
  refine ⟨hsz', ?_⟩
  apply hK10; clear hK10 K10
  refine wR (fO ?_ trivial)
  simp only [go_sem, tS, h0, ← hd]
section
variable {α : Type} (mk : α → Int → α) (st : α → Int → Int)
def mGo : List α → Int → List α
  | [], _ => []
  | x :: r, k => mk x k :: mGo r (st x k)
def kGo : List α → Int → Int
  | [], k => k
  | x :: r, k => kGo r (st x k)
theorem kGo_app : ∀ (xs ys : List α) (k : Int), kGo st (xs ++ ys) k = kGo st ys (kGo st xs k)
  | [], ys, k => rfl
  | x :: r, ys, k => by simp only [List.cons_append, kGo, kGo_app r ys]
theorem mY (h : ∀ x k, k ≤ st x k) : ∀ (xs : List α) (k : Int), k ≤ kGo st xs k
  | [], k => Int.le_refl _
  | x :: r, k => by
    have h1 := h x k
    have h2 := mY h r (st x k)
    simp only [kGo]; omega
theorem nX {ls : List α} {k : Int} {i : Nat} {x : α} (h : ls[i]? = some x) : kGo st (ls.take (i + 1)) k = st x (kGo st (ls.take i) k) := by
  rw [List.take_add_one, h, kGo_app]; rfl
theorem dQ (h : ∀ x k, k ≤ st x k) (ls : List α) (k : Int) (i : Nat) : k ≤ kGo st (ls.take i) k ∧ kGo st (ls.take i) k ≤ kGo st ls k := by
  refine ⟨mY st h _ _, ?_⟩
  have h1 := kGo_app st (ls.take i) (ls.drop i) k
  rw [List.take_append_drop] at h1; rw [h1]
  exact mY st h _ _
theorem rI : ∀ (ls : List α) (k : Int), (mGo mk st ls k).length = ls.length
  | [], _ => rfl
  | _ :: r, k => by simp [mGo, rI r]
theorem mGo_app : ∀ (xs ys : List α) (k : Int), mGo mk st (xs ++ ys) k = mGo mk st xs k ++ mGo mk st ys (kGo st xs k)
  | [], ys, k => rfl
  | x :: r, ys, k => by simp only [List.cons_append, mGo, kGo, mGo_app r ys]
theorem zR : ∀ {ls : List α} (k : Int) {i : Nat} {x : α}, ls[i]? = some x → (mGo mk st ls k)[i]? = some (mk x (kGo st (ls.take i) k))
  | [], _, _, _, h => by simp at h
  | y :: r, k, 0, x, h => by simp at h; subst h; simp [mGo, kGo]
  | y :: r, k, i + 1, x, h => by
    simp only [mGo, List.getElem?_cons_succ, List.take_succ_cons, kGo]
    exact zR _ (by simpa using h)
def mAt (ls : List α) (k : Int) (i : Nat) : List α := mGo mk st (ls.take i) k ++ ls.drop i
theorem mAt_zero (ls : List α) (k : Int) : mAt mk st ls k 0 = ls := by simp [mAt, mGo]
theorem mAt_end (ls : List α) (k : Int) : mAt mk st ls k ls.length = mGo mk st ls k := by simp [mAt]
theorem qP (ls : List α) (k : Int) (i : Nat) : (mAt mk st ls k i).length = ls.length := by simp [mAt, rI]; omega
theorem mAt_get {ls : List α} (k : Int) {i : Nat} {l : α} (h : ls[i]? = some l) : (mAt mk st ls k i)[i]? = some l := by
  have hlt := (List.getElem?_eq_some_iff.1 h).1
  have hl : (mGo mk st (ls.take i) k).length = i := by rw [rI, List.length_take]; omega
  unfold mAt; rw [List.getElem?_append_right (by omega), hl, Nat.sub_self, qF h]; rfl
theorem mAt_set {ls : List α} (k : Int) {i : Nat} {l : α} (h : ls[i]? = some l) : (mAt mk st ls k i).set i (mk l (kGo st (ls.take i) k)) = mAt mk st ls k (i + 1) := by
  have hlt := (List.getElem?_eq_some_iff.1 h).1
  have hl : (mGo mk st (ls.take i) k).length = i := by rw [rI, List.length_take]; omega
  unfold mAt; rw [List.set_append_right _ _ (by omega), hl, Nat.sub_self, qF h, List.set_cons_zero, List.take_add_one, h, Option.toList_some, mGo_app]
  simp [mGo]
end
def stE (_ : Entry) (k : Int) : Int := k + 5
def cW (_ : Entry) (k : Int) : Entry := ⟨tS k, k + 1, k + 2, tS (k + 3), k + 4⟩
def stI (_ : Int) (k : Int) : Int := k + 1
def gK (_ : Int) (k : Int) : Int := k
def stR (r : Run) (k : Int) : Int := kGo stE r.ents k + 1
def aS (r : Run) (k : Int) : Run := ⟨mGo cW stE r.ents k, kGo stE r.ents k⟩
abbrev kRuns := kGo stR
theorem uM (x : Entry) (k : Int) : k ≤ stE x k := by unfold stE; omega
theorem stI_ge (x : Int) (k : Int) : k ≤ stI x k := by unfold stI; omega
theorem stR_ge (x : Run) (k : Int) : k ≤ stR x k := by have := mY stE uM x.ents k; unfold stR; omega
theorem stL_ge (x : List Run) (k : Int) : k ≤ kRuns x k := mY stR stR_ge x k
theorem fit_one {H : Heap} {k : Nat} {o o' : AObj} (h : get H k = some (o.ren (sg [(0, k)]))) (hb : o.bel (UU 1)) : FitC H [(0, k)] [(0, o)] 1 0 [(0, o')] where
  objs := ⟨h, .inl (by omega), hb, trivial⟩
  inj := by simp
  cov := fun i hi => by have : i = 0 := by omega
                        subst this; rfl
  sk := fun p hp => by rw [List.mem_singleton.1 hp]; rfl
  dom := fun p hp => by rw [List.mem_singleton.1 hp]; exact .inl rfl
  all := fun p hp => by rw [List.mem_singleton.1 hp]; rfl
  far := by omega
theorem qS (ls : List Entry) (k : Int) (hs : gD ls) (h0 : 0 ≤ k) (hk : kGo stE ls k ≤ 1000000000000000000) : aD P 16 [.ref 0, .raw (.int .i64 k)] [(0, .row 65 5 (ls.map enA))] 1 (.raw (.int .i64 (kGo stE ls k))) [(0, .row 65 5 ((mGo cW stE ls k).map enA))] 1 := by
 refine gq 50 [.tmp 4] Tryz.func16 ?_
 have hlen := hs.1
 refine aj ?_
 refine sq fun _ k2 => aj (wb ?_)
 refine wl (α := Nat) (fun x => x ≤ ls.length) (fun x => ls.length - x) (fun x => ([(0, .ref 0), (1, .raw (.int .i64 (kGo stE (ls.take x) k))), (5, .raw (.int .i64 (x : Int)))], [(0, .row 65 5 ((mAt cW stE ls k x).map enA))])) 1 0 (Nat.zero_le _) [] ?_ ?_
 · rw [mAt_zero]
   simp only [go_sem, AObj.bel, Nat.reduceLeDiff, Nat.reduceLT, Nat.reduceAdd, kGo, List.take_zero, Int.natCast_zero] <;> simp
 rintro i hi
 refine sq fun _ k4 => ?_
 have hmal := qP cW stE ls k i
 refine sr rfl fun _ k5 => ?_; simp only [go_sem, hmal]; apply k5
 refine cdS rfl (fun hc1 => ?_) fun hc1 => ?_
 · have hge : ls.length ≤ i := Nat.not_lt.1 (by simpa using hc1)
   refine we (jt (k2 ?_))
   refine aj (wR ?_)
   have hie : i = ls.length := by omega
   subst hie; rw [mAt_end, List.take_length]; refine ⟨[], ?_⟩
   simp only [go_sem, AObj.bel, Nat.reduceLeDiff, Nat.reduceLT, Nat.reduceAdd] <;> simp
 have hlt : i < ls.length := (by simpa using hc1); obtain ⟨l, hl, hdrop, hml⟩ := ix hlt
 have hgL := mAt_get cW stE k hl
 have hset := mAt_set cW stE k hl
 have hks := nX stE (k := k) hl
 have hkb := dQ stE uM ls k i
 have hkb2 := dQ stE uM ls k (i + 1)
 rw [hks] at hkb2
 have hmal := qP cW stE ls k i
 generalize hkk : kGo stE (ls.take i) k = kk at hks hkb hkb2 hset ⊢
 have hse : stE l kk = kk + 5 := rfl
 rw [hse] at hkb2
 have hg0 : ((mAt cW stE ls k i).map enA)[i]? = some (.agg [.raw (.string l.key), .raw (.int .i64 l.seq), .raw (.int .i64 l.kind), .raw (.string l.text), .raw (.int .i64 l.n)]) := by rw [List.getElem?_map, hgL]; rfl
 have hgs : ∀ a, (((mAt cW stE ls k i).map enA).set i a)[i]? = some a := fun a => gM hg0
 have hw1 : IntKind.i64.wrap (kk + 1) = kk + 1 := by rw [w64]; omega
 have hw2 : IntKind.i64.wrap (kk + 1 + 1) = kk + 2 := by rw [w64]; omega
 have hw3 : IntKind.i64.wrap (kk + 2 + 1) = kk + 3 := by rw [w64]; omega
 have hw4 : IntKind.i64.wrap (kk + 3 + 1) = kk + 4 := by rw [w64]; omega
 have hw5 : IntKind.i64.wrap (kk + 4 + 1) = kk + 5 := by rw [w64]; omega
 refine wk (k4 (sq fun _ k6 => (wb (sr rfl fun _ k7 => (ja ?_)))))
 refine jr ?_
 refine vs rfl rfl rfl Tryz.func41 (jE kk (by omega)) rfl (by simp only [go_sem]) ?_
 simp only [go_sem, hg0, enA, hmal]
 refine ⟨⟨by omega, by omega⟩, ?_⟩
 refine k7 (sr rfl fun _ k8 => ?_)
 simp only [go_sem, hw1]
 refine k8 (sr rfl fun _ k9 => ?_)
 simp only [go_sem, hgs, hmal, List.length_set]
 refine ⟨⟨by omega, by omega⟩, ?_⟩
 refine k9 (sr rfl fun _ k10 => ?_)
 simp only [go_sem, hw2]
 refine k10 (sr rfl fun _ k11 => ?_)
 simp only [go_sem, hgs, hmal, List.length_set, List.set_set]
 refine ⟨⟨by omega, by omega⟩, ?_⟩
 refine k11 (sr rfl fun _ k12 => ?_)
 simp only [go_sem, hw3]
 refine k12 (sr rfl fun _ k13 => (ja ?_))
 refine jr ?_
 refine vs rfl rfl rfl Tryz.func41 (jE (kk + 3) (by omega)) rfl (by simp only [go_sem]) ?_
 simp only [go_sem, hgs, hmal, List.length_set, List.set_set]
 refine ⟨⟨by omega, by omega⟩, ?_⟩
 refine k13 (sr rfl fun _ k14 => ?_)
 simp only [go_sem, hw4]
 refine k14 (sr rfl fun _ k15 => ?_)
 simp only [go_sem, hgs, hmal, List.length_set, List.set_set]
 refine ⟨⟨by omega, by omega⟩, ?_⟩
 apply k15; refine wg rfl ?_; simp only [go_sem, hw5]
 refine jt (k6 ?_)
 have hw := wiS i (by omega)
 have hset : ((mAt cW stE ls k i).map enA).set i (.agg [.raw (.string (tS kk)), .raw (.int .i64 (kk + 1)), .raw (.int .i64 (kk + 2)), .raw (.string (tS (kk + 3))), .raw (.int .i64 (kk + 4))]) = (mAt cW stE ls k (i + 1)).map enA := by
   rw [← hset, List.map_set]; rfl
 rw [hset]; refine wg rfl ?_; simp only [go_sem, hw]; refine jt ?_
 refine ⟨i + 1, by omega, by omega, [], ?_⟩
 rw [hks]
 simp only [go_sem, AObj.bel, Nat.reduceLeDiff, Nat.reduceLT, Nat.reduceAdd, stE] <;> simp
theorem w_laws_markIntS (ls : List Int) (k : Int) (hs : ls.length ≤ 1048576) (h0 : 0 ≤ k) (hk : kGo stI ls k ≤ 1000000000000000000) : aD P 76 [.ref 0, .raw (.int .i64 k)] [(0, .row 3 1 (ls.map inA))] 1 (.raw (.int .i64 (kGo stI ls k))) [(0, .row 3 1 ((mGo gK stI ls k).map inA))] 1 := by
 refine gq 19 [.tmp 4] Tryz.func76 ?_
 have hlen := hs
 refine aj ?_
 refine sq fun _ k2 => aj (wb ?_)
 refine wl (α := Nat) (fun x => x ≤ ls.length) (fun x => ls.length - x) (fun x => ([(0, .ref 0), (1, .raw (.int .i64 (kGo stI (ls.take x) k))), (5, .raw (.int .i64 (x : Int)))], [(0, .row 3 1 ((mAt gK stI ls k x).map inA))])) 1 0 (Nat.zero_le _) [] ?_ ?_
 · rw [mAt_zero]
   simp only [go_sem, AObj.bel, Nat.reduceLeDiff, Nat.reduceLT, Nat.reduceAdd, kGo, List.take_zero, Int.natCast_zero] <;> simp
 rintro i hi
 refine sq fun _ k4 => ?_
 have hmal := qP gK stI ls k i
 refine sr rfl fun _ k5 => ?_; simp only [go_sem, hmal]; apply k5
 refine cdS rfl (fun hc1 => ?_) fun hc1 => ?_
 · have hge : ls.length ≤ i := Nat.not_lt.1 (by simpa using hc1)
   refine we (jt (k2 ?_))
   refine aj (wR ?_)
   have hie : i = ls.length := by omega
   subst hie; rw [mAt_end, List.take_length]; refine ⟨[], ?_⟩
   simp only [go_sem, AObj.bel, Nat.reduceLeDiff, Nat.reduceLT, Nat.reduceAdd] <;> simp
 have hlt : i < ls.length := (by simpa using hc1); obtain ⟨l, hl, hdrop, hml⟩ := ix hlt
 have hgL := mAt_get gK stI k hl
 have hset := mAt_set gK stI k hl
 have hks := nX stI (k := k) hl
 have hkb := dQ stI stI_ge ls k i
 have hkb2 := dQ stI stI_ge ls k (i + 1)
 rw [hks] at hkb2
 have hmal := qP gK stI ls k i
 generalize hkk : kGo stI (ls.take i) k = kk at hks hkb hkb2 hset ⊢
 have hse : stI l kk = kk + 1 := rfl
 rw [hse] at hkb2
 have hg0 : ((mAt gK stI ls k i).map inA)[i]? = some (.raw (.int .i64 l)) := by rw [List.getElem?_map, hgL]; rfl
 have hw1 : IntKind.i64.wrap (kk + 1) = kk + 1 := by rw [w64]; omega
 refine wk (k4 (sq fun _ k6 => (wb (sr rfl fun _ k7 => ?_))))
 simp only [go_sem, hg0, hmal]
 refine ⟨⟨by omega, by omega⟩, ?_⟩
 apply k7; refine wg rfl ?_; simp only [go_sem, hw1]
 refine jt (k6 ?_)
 have hw := wiS i (by omega)
 have hset : ((mAt gK stI ls k i).map inA).set i (.raw (.int .i64 kk)) = (mAt gK stI ls k (i + 1)).map inA := by
   rw [← hset, List.map_set]; rfl
 rw [hset]; refine wg rfl ?_; simp only [go_sem, hw]; refine jt ?_
 refine ⟨i + 1, by omega, by omega, [], ?_⟩
 rw [hks]
 simp only [go_sem, AObj.bel, Nat.reduceLeDiff, Nat.reduceLT, Nat.reduceAdd, stI] <;> simp
theorem w_laws_markRunS (ls : List Run) (k : Int) (hs : sRuns ls) (h0 : 0 ≤ k) (hk : kGo stR ls k ≤ 1000000000000000000) : aD P 129 [.ref 0, .raw (.int .i64 k)] [(0, .row 109 2 (ls.map runOwn))] 1 (.raw (.int .i64 (kGo stR ls k))) [(0, .row 109 2 ((mGo aS stR ls k).map runOwn))] 1 := by
 refine gq 27 [.tmp 4] Tryz.func129 ?_
 have hlen := hs.1
 refine aj ?_
 refine sq fun _ k2 => aj (wb ?_)
 refine wl (α := Nat) (fun x => x ≤ ls.length) (fun x => ls.length - x) (fun x => ([(0, .ref 0), (1, .raw (.int .i64 (kGo stR (ls.take x) k))), (5, .raw (.int .i64 (x : Int)))], [(0, .row 109 2 ((mAt aS stR ls k x).map runOwn))])) 1 0 (Nat.zero_le _) [] ?_ ?_
 · rw [mAt_zero]
   simp only [go_sem, AObj.bel, Nat.reduceLeDiff, Nat.reduceLT, Nat.reduceAdd, kGo, List.take_zero, Int.natCast_zero] <;> simp
 rintro i hi
 refine sq fun _ k4 => ?_
 have hmal := qP aS stR ls k i
 refine sr rfl fun _ k5 => ?_; simp only [go_sem, hmal]; apply k5
 refine cdS rfl (fun hc1 => ?_) fun hc1 => ?_
 · have hge : ls.length ≤ i := Nat.not_lt.1 (by simpa using hc1)
   refine we (jt (k2 ?_))
   refine aj (wR ?_)
   have hie : i = ls.length := by omega
   subst hie; rw [mAt_end, List.take_length]; refine ⟨[], ?_⟩
   simp only [go_sem, AObj.bel, Nat.reduceLeDiff, Nat.reduceLT, Nat.reduceAdd] <;> simp
 have hlt : i < ls.length := (by simpa using hc1); obtain ⟨l, hl, hdrop, hml⟩ := ix hlt
 have hgL := mAt_get aS stR k hl
 have hset := mAt_set aS stR k hl
 have hks := nX stR (k := k) hl
 have hkb := dQ stR stR_ge ls k i
 have hkb2 := dQ stR stR_ge ls k (i + 1)
 rw [hks] at hkb2
 have hmal := qP aS stR ls k i
 generalize hkk : kGo stR (ls.take i) k = kk at hks hkb hkb2 hset ⊢
 have hkl := mY stE uM l.ents kk
 have hse : stR l kk = kGo stE l.ents kk + 1 := rfl
 rw [hse] at hkb2
 have hg0 : ((mAt aS stR ls k i).map runOwn)[i]? = some (.agg [.own 65 5 (l.ents.map enA), .raw (.int .i64 l.mask)]) := by rw [List.getElem?_map, hgL]; rfl
 have hgs : ∀ a, (((mAt aS stR ls k i).map runOwn).set i a)[i]? = some a := fun a => gM hg0
 have hw1 : IntKind.i64.wrap (kGo stE l.ents kk + 1) = kGo stE l.ents kk + 1 := by rw [w64]; omega
 refine wk (k4 (sq fun _ k6 => (wb ?_)))
 refine awp_split (i := 0) (j := i) (q := 0) (by omega) rfl hg0 rfl ?_
 refine sr rfl fun _ k7 => ?_; simp only [go_sem, hgs, hmal, List.length_set]
 refine ⟨⟨by omega, by omega⟩, ?_⟩
 refine vC (fun hN => bU (s := [(0, 1)]) 0 rfl rfl rfl ⟨Tryz.func16, rfl, rfl⟩ hN (qS l.ents kk (hs.2 l hml) (by omega) (by omega)) rfl (by simp only [go_sem, aA, AV.ren, sg]) ?_ (fit_one (by simp only [AObj.ren, dX]; rfl) (enB _ _))) (.inl rfl) ?_
 · simp only [go_sem, Nat.reduceLT]
 simp only [aR, AObj.ren, AV.ren, dX, sg]; simp only [go_sem]
 refine jr (k7 ?_)
 refine sr rfl fun _ k8 => ?_; simp only [go_sem, hgs, hmal, List.length_set, List.set_set]
 refine ⟨⟨by omega, by omega⟩, ?_⟩
 apply k8; refine wg rfl ?_; simp only [go_sem, hw1]
 refine jt (k6 ?_)
 have hw := wiS i (by omega)
 refine awp_join (i := 0) (n := 1) (j := i) (q := 0) (by omega) rfl rfl (hgs _) rfl ?_
 have hset' : ((mAt aS stR ls k i).map runOwn).set i (.agg [.own 65 5 ((mGo cW stE l.ents kk).map enA), .raw (.int .i64 (kGo stE l.ents kk))]) = (mAt aS stR ls k (i + 1)).map runOwn := by
   rw [← hset, List.map_set]; rfl
 simp only [go_sem, List.set_set, hset']; refine wg rfl ?_; simp only [go_sem, hw]; refine jt ?_
 refine ⟨i + 1, by omega, by omega, [], ?_⟩
 rw [hks]
 simp only [go_sem, AObj.bel, Nat.reduceLeDiff, Nat.reduceLT, Nat.reduceAdd, stR] <;> simp
theorem sL (ls : List (List Run)) (k : Int) (hs : mR ls) (h0 : 0 ≤ k) (hk : kGo kRuns ls k ≤ 1000000000000000000) : aD P 75 [.ref 0, .raw (.int .i64 k)] [(0, .row 107 1 (ls.map rsO))] 1 (.raw (.int .i64 (kGo kRuns ls k))) [(0, .row 107 1 ((mGo (mGo aS stR) kRuns ls k).map rsO))] 1 := by
 refine gq 19 [.tmp 4] Tryz.func75 ?_
 have hlen := hs.1
 refine aj ?_
 refine sq fun _ k2 => aj (wb ?_)
 refine wl (α := Nat) (fun x => x ≤ ls.length) (fun x => ls.length - x) (fun x => ([(0, .ref 0), (1, .raw (.int .i64 (kGo kRuns (ls.take x) k))), (5, .raw (.int .i64 (x : Int)))], [(0, .row 107 1 ((mAt (mGo aS stR) kRuns ls k x).map rsO))])) 1 0 (Nat.zero_le _) [] ?_ ?_
 · rw [mAt_zero]
   simp only [go_sem, AObj.bel, Nat.reduceLeDiff, Nat.reduceLT, Nat.reduceAdd, kGo, List.take_zero, Int.natCast_zero] <;> simp
 rintro i hi
 refine sq fun _ k4 => ?_
 have hmal := qP (mGo aS stR) kRuns ls k i
 refine sr rfl fun _ k5 => ?_; simp only [go_sem, hmal]; apply k5
 refine cdS rfl (fun hc1 => ?_) fun hc1 => ?_
 · have hge : ls.length ≤ i := Nat.not_lt.1 (by simpa using hc1)
   refine we (jt (k2 ?_))
   refine aj (wR ?_)
   have hie : i = ls.length := by omega
   subst hie; rw [mAt_end, List.take_length]; refine ⟨[], ?_⟩
   simp only [go_sem, AObj.bel, Nat.reduceLeDiff, Nat.reduceLT, Nat.reduceAdd] <;> simp
 have hlt : i < ls.length := (by simpa using hc1); obtain ⟨l, hl, hdrop, hml⟩ := ix hlt
 have hgL := mAt_get (mGo aS stR) kRuns k hl
 have hset := mAt_set (mGo aS stR) kRuns k hl
 have hks := nX kRuns (k := k) hl
 have hkb := dQ kRuns stL_ge ls k i
 have hkb2 := dQ kRuns stL_ge ls k (i + 1)
 rw [hks] at hkb2
 have hmal := qP (mGo aS stR) kRuns ls k i
 generalize hkk : kGo kRuns (ls.take i) k = kk at hks hkb hkb2 hset ⊢
 have hg0 : ((mAt (mGo aS stR) kRuns ls k i).map rsO)[i]? = some (.own 109 2 (l.map runOwn)) := by rw [List.getElem?_map, hgL]; rfl
 have hgs : ∀ a, (((mAt (mGo aS stR) kRuns ls k i).map rsO).set i a)[i]? = some a := fun a => gM hg0
 refine wk (k4 (sq fun _ k6 => (wb ?_)))
 refine tM (i := 0) (j := i) (by omega) rfl hg0 ?_
 refine wg rfl ?_; simp only [go_sem, hgs, hmal, List.length_set]
 refine ⟨⟨by omega, by omega⟩, ?_⟩
 refine vC (fun hN => bU (s := [(0, 1)]) 0 rfl rfl rfl ⟨Tryz.func129, rfl, rfl⟩ hN (w_laws_markRunS l kk (hs.2 l hml) (by omega) (show kRuns l kk ≤ _ by omega)) rfl (by simp only [go_sem, aA, AV.ren, sg]) ?_ (fit_one (by simp only [AObj.ren, yI]; rfl) (qI _ _))) (.inl rfl) ?_
 · simp only [go_sem, Nat.reduceLT]
 simp only [aR, AObj.ren, AV.ren, yI, sg]; simp only [go_sem]; refine jr ?_
 refine jt (k6 ?_)
 have hw := wiS i (by omega)
 refine awp_join1 (i := 0) (n := 1) (j := i) (by omega) rfl rfl (hgs _) ?_
 have hset' : ((mAt (mGo aS stR) kRuns ls k i).map rsO).set i (.own 109 2 ((mGo aS stR l kk).map runOwn)) = (mAt (mGo aS stR) kRuns ls k (i + 1)).map rsO := by
   rw [← hset, List.map_set]; rfl
 simp only [go_sem, List.set_set, hset']; refine wg rfl ?_; simp only [go_sem, hw]; refine jt ?_
 refine ⟨i + 1, by omega, by omega, [], ?_⟩
 rw [hks]
 simp only [go_sem, AObj.bel, Nat.reduceLeDiff, Nat.reduceLT, Nat.reduceAdd, kRuns] <;> simp
end
theorem pK {H H1 nd : Heap} {s : List (Nat × Nat)} {m0 : Nat} (ho : eX (sg s) m0 H nd) (hn : (nd.map fun p => sg s p.1).Nodup) (hc : ∀ i, i < m0 → i ∈ nd.map (·.1)) (hs : ∀ p ∈ s, p.1 ∈ nd.map (·.1)) (hk : nd.map (·.1) = H1.map (·.1)) (hm : m0 ≤ 1000) : FitC H s nd m0 0 H1 where
  objs := ho
  inj := hn
  cov := fun i hi => by obtain ⟨o, ho⟩ := iZ (hc i hi); rw [ho]; rfl
  sk := fun p hp => by obtain ⟨o, ho⟩ := iZ (hs p hp); rw [ho]; rfl
  dom := fun p hp => .inl (by obtain ⟨o, ho⟩ := iZ (l := nd) (i := p.1) (by rw [hk]; exact List.mem_map_of_mem hp); rw [ho]; rfl)
  all := fun p hp => by obtain ⟨o, ho⟩ := iZ (l := H1) (i := p.1) (by rw [← hk]; exact List.mem_map_of_mem hp); rw [ho]; rfl
  far := by omega
abbrev markLvs := mGo (mGo aS stR) kRuns
def iT (t : Tree) (k : Int) : Int := kGo stI t.snaps (kGo kRuns t.levels (kGo stE t.mem k))
def pY (t : Tree) (k : Int) : Tree := ⟨t.seq, mGo cW stE t.mem k, markLvs t.levels (kGo stE t.mem k), mGo gK stI t.snaps (kGo kRuns t.levels (kGo stE t.mem k))⟩
def uG (d : Disk) (k : Int) : Int := kGo kRuns d.levels k
def wH (d : Disk) (k : Int) : Disk := { d with levels := markLvs d.levels k }
def gT (s : Store) (k : Int) : Int := uG s.disk (iT s.tree k)
def mG (s : Store) (k : Int) : Store := ⟨s.up, pY s.tree k, wH s.disk (iT s.tree k)⟩
def gN (t : Tree) : Prop := gD t.mem ∧ mR t.levels ∧ t.snaps.length ≤ 1048576
def bM (s : Store) : Prop := gN s.tree ∧ mR s.disk.levels
theorem kTree_ge (t : Tree) (k : Int) : k ≤ kGo stE t.mem k ∧ kGo stE t.mem k ≤ kGo kRuns t.levels (kGo stE t.mem k) ∧ kGo kRuns t.levels (kGo stE t.mem k) ≤ iT t k :=
  ⟨mY stE uM _ _, mY kRuns stL_ge _ _, mY stI stI_ge _ _⟩
theorem kDisk_ge (d : Disk) (k : Int) : k ≤ uG d k := mY kRuns stL_ge _ _
theorem w_laws_markTree (t : Tree) (k : Int) (hs : gN t) (h0 : 0 ≤ k) (hk : iT t k ≤ 1000000000000000000) : aD P 39 [.agg [.raw (.int .i64 t.seq), .ref 0, .ref 1, .ref 2], .raw (.int .i64 k)] [(0, .row 65 5 (t.mem.map enA)), (1, .row 107 1 (t.levels.map rsO)), (2, .row 3 1 (t.snaps.map inA))] 3 (.raw (.int .i64 (iT t k))) [(0, .row 65 5 ((pY t k).mem.map enA)), (1, .row 107 1 ((pY t k).levels.map rsO)), (2, .row 3 1 ((pY t k).snaps.map inA))] 3 := by
 refine gq 18 [.tmp 4] Tryz.func39 ?_
 obtain ⟨hs1, hs2, hs3⟩ := hs
 obtain ⟨hk1, hk2, hk3⟩ := kTree_ge t k
 refine aj ?_
 refine sr rfl fun _ k2 => ja ?_
 refine vC (fun hN => bU (s := [(0, 0)]) 0 rfl rfl rfl ⟨Tryz.func16, rfl, rfl⟩ hN (qS t.mem k hs1 h0 (by omega)) rfl (by simp only [go_sem, aA, AV.ren, sg]) ?_ (pK (by simp [eX, sg, Abs.get, AObj.ren, AObj.bel, UU, dX, enB]) (by simp [sg, Abs.get]) (by intro i hi; simp; omega) (by simp) rfl (by omega))) (.inl rfl) ?_
 · simp only [go_sem]
 simp only [go_sem, aR, AObj.ren, AV.ren, dX, sg]
 refine k2 (sr rfl fun _ k3 => (ja ?_))
 refine vC (fun hN => bU (s := [(0, 1)]) 0 rfl rfl rfl ⟨Tryz.func75, rfl, rfl⟩ hN (sL t.levels (kGo stE t.mem k) hs2 (by omega) (by omega)) rfl (by simp only [go_sem, aA, AV.ren, sg]) ?_ (pK (by simp [eX, sg, Abs.get, AObj.ren, AObj.bel, UU, bH, eH]) (by simp [sg, Abs.get]) (by intro i hi; simp; omega) (by simp) rfl (by omega))) (.inl rfl) ?_
 · simp only [go_sem]
 simp only [go_sem, aR, AObj.ren, AV.ren, bH, sg]
 refine k3 (sr rfl fun _ k4 => (ja ?_))
 refine vC (fun hN => bU (s := [(0, 2)]) 0 rfl rfl rfl ⟨Tryz.func76, rfl, rfl⟩ hN (w_laws_markIntS t.snaps (kGo kRuns t.levels (kGo stE t.mem k)) hs3 (by omega) hk) rfl (by simp only [go_sem, aA, AV.ren, sg]) ?_ (pK (by simp [eX, sg, Abs.get, AObj.ren, AObj.bel, UU, eW, bE]) (by simp [sg, Abs.get]) (by intro i hi; simp; omega) (by simp) rfl (by omega))) (.inl rfl) ?_
 · simp only [go_sem]
 simp only [go_sem, aR, AObj.ren, AV.ren, eW, sg]
 refine k4 (aj (wR ?_))
 refine ⟨[], ?_⟩
 simp only [go_sem, iT, pY, AObj.bel, AObj.ren, AV.ren, aA, sg] <;> simp
theorem w_laws_markDisk (d : Disk) (k : Int) (hs : mR d.levels) (h0 : 0 ≤ k) (hk : uG d k ≤ 1000000000000000000) : aD P 40 [.agg [.raw (.string d.log), .raw (.int .i64 d.safe), .ref 0, .raw (.int .i64 d.seq)], .raw (.int .i64 k)] [(0, .row 107 1 (d.levels.map rsO))] 1 (.raw (.int .i64 (uG d k))) [(0, .row 107 1 ((wH d k).levels.map rsO))] 1 := by
 refine gq 10 [.tmp 4] Tryz.func40 ?_
 refine aj ?_
 refine sr rfl fun _ k2 => ja ?_
 refine vC (fun hN => bU (s := [(0, 0)]) 0 rfl rfl rfl ⟨Tryz.func75, rfl, rfl⟩ hN (sL d.levels k hs h0 hk) rfl (by simp only [go_sem, aA, AV.ren, sg]) ?_ (pK (by simp [eX, sg, Abs.get, AObj.ren, AObj.bel, UU, bH, eH]) (by simp [sg, Abs.get]) (by intro i hi; simp; omega) (by simp) rfl (by omega))) (.inl rfl) ?_
 · simp only [go_sem]
 simp only [go_sem, aR, AObj.ren, AV.ren, bH, sg]
 refine k2 (aj (wR ?_))
 refine ⟨[], ?_⟩
 simp only [go_sem, uG, wH, AObj.bel, AObj.ren, AV.ren, aA, sg] <;> simp
theorem sN (s : Store) (k : Int) (hs : bM s) (h0 : 0 ≤ k) (hk : gT s k ≤ 1000000000000000000) : aD P 15 [.agg [.raw (.bool s.up), .raw (.int .i64 s.tree.seq), .ref 0, .ref 1, .ref 2, .raw (.string s.disk.log), .raw (.int .i64 s.disk.safe), .ref 3, .raw (.int .i64 s.disk.seq)], .raw (.int .i64 k)] [(0, .row 65 5 (s.tree.mem.map enA)), (1, .row 107 1 (s.tree.levels.map rsO)), (2, .row 3 1 (s.tree.snaps.map inA)), (3, .row 107 1 (s.disk.levels.map rsO))] 4 (.raw (.int .i64 (gT s k))) [(0, .row 65 5 ((mG s k).tree.mem.map enA)), (1, .row 107 1 ((mG s k).tree.levels.map rsO)), (2, .row 3 1 ((mG s k).tree.snaps.map inA)), (3, .row 107 1 ((mG s k).disk.levels.map rsO))] 4 := by
 refine gq 14 [.tmp 4] Tryz.func15 ?_
 obtain ⟨hs1, hs2⟩ := hs
 have hk1 := kDisk_ge s.disk (iT s.tree k)
 have hk2 : uG s.disk (iT s.tree k) ≤ 1000000000000000000 := hk
 obtain ⟨hk3, hk4, hk5⟩ := kTree_ge s.tree k
 refine aj ?_
 refine sr rfl fun _ k2 => ja ?_
 refine vC (fun hN => bU (s := [(0, 0), (1, 1), (2, 2)]) 0 rfl rfl rfl ⟨Tryz.func39, rfl, rfl⟩ hN (w_laws_markTree s.tree k hs1 h0 (by omega)) rfl (by simp only [go_sem, aA, AV.ren, sg]) ?_ (pK (by simp [eX, sg, Abs.get, AObj.ren, AObj.bel, UU, dX, bH, eW, enB, eH, bE]) (by simp [sg, Abs.get]) (by intro i hi; simp; omega) (by simp) rfl (by omega))) (.inl rfl) ?_
 · simp only [go_sem]
 simp only [go_sem, aR, AObj.ren, AV.ren, dX, bH, eW, sg]
 refine k2 (sr rfl fun _ k3 => (ja ?_))
 refine vC (fun hN => bU (s := [(0, 3)]) 0 rfl rfl rfl ⟨Tryz.func40, rfl, rfl⟩ hN (w_laws_markDisk s.disk (iT s.tree k) hs2 (by omega) hk2) rfl (by simp only [go_sem, aA, AV.ren, sg]) ?_ (pK (by simp [eX, sg, Abs.get, AObj.ren, AObj.bel, UU, bH, eH]) (by simp [sg, Abs.get]) (by intro i hi; simp; omega) (by simp) rfl (by omega))) (.inl rfl) ?_
 · simp only [go_sem]
 simp only [go_sem, aR, AObj.ren, AV.ren, bH, sg]
 refine k3 (aj (wR ?_))
 refine ⟨[], ?_⟩
 simp only [go_sem, gT, mG, AObj.bel, AObj.ren, AV.ren, aA, sg] <;> simp
theorem qT (ls : List Entry) (k : Int) (hs : gD ls) (h0 : 0 ≤ k) (hk : kGo stE ls k ≤ 1000000000000000000) : aB P 77 [.sl 5 ((mGo cW stE ls k).map enA), .raw (.int .i64 k)] [] 0 (.raw (.int .i64 (kGo stE ls k))) := by
 refine pq 60 [.tmp 4] Tryz.func77 ?_
 have hlen := hs.1
 have hmal := rI cW stE ls k
 refine aj ?_
 refine sq fun _ k2 => aj (wb ?_)
 refine wl (α := Nat) (fun x => x ≤ ls.length) (fun x => ls.length - x) (fun x => ([(0, .sl 5 ((mGo cW stE ls k).map enA)), (1, .raw (.int .i64 (kGo stE (ls.take x) k))), (5, .raw (.int .i64 (x : Int)))], [])) 0 0 (Nat.zero_le _) [] ?_ ?_
 · simp only [go_sem, kGo, List.take_zero, Int.natCast_zero] <;> simp
 rintro i hi
 refine sq fun _ k4 => sr rfl fun _ k5 => ?_
 simp only [go_sem, hmal]; apply k5
 refine cdS rfl (fun hc1 => ?_) fun hc1 => ?_
 · have hge : ls.length ≤ i := Nat.not_lt.1 (by simpa using hc1)
   refine we (jt (k2 ?_))
   refine aj (wR ?_)
   have hie : i = ls.length := by omega
   subst hie; rw [List.take_length]; refine fO ?_ trivial; simp only [go_sem]
 have hlt : i < ls.length := (by simpa using hc1); obtain ⟨l, hl, hdrop, hml⟩ := ix hlt
 have hgL := zR cW stE k hl
 have hks := nX stE (k := k) hl
 have hkb := dQ stE uM ls k i
 have hkb2 := dQ stE uM ls k (i + 1)
 rw [hks] at hkb2
 generalize hkk : kGo stE (ls.take i) k = kk at hks hkb hkb2 hgL ⊢
 have hse : stE l kk = kk + 5 := rfl
 rw [hse] at hkb2
 have hw1 : IntKind.i64.wrap (kk + 1) = kk + 1 := by rw [w64]; omega
 have hw2 : IntKind.i64.wrap (kk + 1 + 1) = kk + 2 := by rw [w64]; omega
 have hw3 : IntKind.i64.wrap (kk + 2 + 1) = kk + 3 := by rw [w64]; omega
 have hw4 : IntKind.i64.wrap (kk + 3 + 1) = kk + 4 := by rw [w64]; omega
 have hw5 : IntKind.i64.wrap (kk + 4 + 1) = kk + 5 := by rw [w64]; omega
 refine wk (k4 (sq fun _ k6 => (wb (sq fun _ k7 => (sd mixed rfl fun _ k8 => ?_)))))
 simp only [go_sem, hgL, cW, enA, hmal]
 refine ⟨⟨by omega, by omega⟩, ?_⟩
 refine tp rfl rfl rfl ⟨Tryz.func41, rfl, rfl⟩ (jE kk (by omega)) rfl (by simp only [go_sem]) ?_
 simp only [go_sem, beq_self_eq_true, Bool.not_true]; refine jr ?_; refine ⟨by rfl, ?_⟩; apply k8
 refine cd rfl (fun hc => by simp at hc) fun hc2 => ?_
 refine wk (k7 (sr rfl fun _ k9 => ?_))
 simp only [go_sem, hw1]
 refine k9 (sq fun _ k10 => (sr rfl fun _ k11 => ?_))
 simp only [go_sem, hgL, cW, enA, hmal, decide_true, Bool.not_true]
 refine ⟨⟨by omega, by omega⟩, ?_⟩
 apply k11
 refine cd rfl (fun hc => by simp at hc) fun hc3 => ?_
 refine wk (k10 (sr rfl fun _ k12 => ?_))
 simp only [go_sem, hw2]
 refine k12 (sq fun _ k13 => (sr rfl fun _ k14 => ?_))
 simp only [go_sem, hgL, cW, enA, hmal, decide_true, Bool.not_true]
 refine ⟨⟨by omega, by omega⟩, ?_⟩
 apply k14
 refine cd rfl (fun hc => by simp at hc) fun hc4 => ?_
 refine wk (k13 (sr rfl fun _ k15 => ?_))
 simp only [go_sem, hw3]
 refine k15 (sq fun _ k16 => (sd mixed rfl fun _ k17 => ?_))
 simp only [go_sem, hgL, cW, enA, hmal]
 refine ⟨⟨by omega, by omega⟩, ?_⟩
 refine tp rfl rfl rfl ⟨Tryz.func41, rfl, rfl⟩ (jE (kk + 3) (by omega)) rfl (by simp only [go_sem]) ?_
 simp only [go_sem, beq_self_eq_true, Bool.not_true]; refine jr ?_; refine ⟨by rfl, ?_⟩; apply k17
 refine cd rfl (fun hc => by simp at hc) fun hc5 => ?_
 refine wk (k16 (sr rfl fun _ k18 => ?_))
 simp only [go_sem, hw4]
 refine k18 (sq fun _ k19 => (sr rfl fun _ k20 => ?_))
 simp only [go_sem, hgL, cW, enA, hmal, decide_true, Bool.not_true]
 refine ⟨⟨by omega, by omega⟩, ?_⟩
 apply k20
 refine cd rfl (fun hc => by simp at hc) fun hc6 => ?_
 refine wk (k19 ?_)
 refine wg rfl ?_; simp only [go_sem, hw5]
 refine jt (k6 ?_)
 refine jw (wiS i (by omega)) ?_
 refine jt ?_
 refine ⟨i + 1, by omega, by omega, [], ?_⟩
 rw [hks]
 simp only [go_sem, stE] <;> simp
theorem w_laws_heldIntS (ls : List Int) (k : Int) (hs : ls.length ≤ 1048576) (h0 : 0 ≤ k) (hk : kGo stI ls k ≤ 1000000000000000000) : aB P 79 [.sl 1 ((mGo gK stI ls k).map inA), .raw (.int .i64 k)] [] 0 (.raw (.int .i64 (kGo stI ls k))) := by
 refine pq 21 [.tmp 4] Tryz.func79 ?_
 have hlen := hs
 have hmal := rI gK stI ls k
 refine aj ?_
 refine sq fun _ k2 => aj (wb ?_)
 refine wl (α := Nat) (fun x => x ≤ ls.length) (fun x => ls.length - x) (fun x => ([(0, .sl 1 ((mGo gK stI ls k).map inA)), (1, .raw (.int .i64 (kGo stI (ls.take x) k))), (5, .raw (.int .i64 (x : Int)))], [])) 0 0 (Nat.zero_le _) [] ?_ ?_
 · simp only [go_sem, kGo, List.take_zero, Int.natCast_zero] <;> simp
 rintro i hi
 refine sq fun _ k4 => sr rfl fun _ k5 => ?_
 simp only [go_sem, hmal]; apply k5
 refine cdS rfl (fun hc1 => ?_) fun hc1 => ?_
 · have hge : ls.length ≤ i := Nat.not_lt.1 (by simpa using hc1)
   refine we (jt (k2 ?_))
   refine aj (wR ?_)
   have hie : i = ls.length := by omega
   subst hie; rw [List.take_length]; refine fO ?_ trivial; simp only [go_sem]
 have hlt : i < ls.length := (by simpa using hc1); obtain ⟨l, hl, hdrop, hml⟩ := ix hlt
 have hgL := zR gK stI k hl
 have hks := nX stI (k := k) hl
 have hkb := dQ stI stI_ge ls k i
 have hkb2 := dQ stI stI_ge ls k (i + 1)
 rw [hks] at hkb2
 generalize hkk : kGo stI (ls.take i) k = kk at hks hkb hkb2 hgL ⊢
 have hse : stI l kk = kk + 1 := rfl
 rw [hse] at hkb2
 have hw1 : IntKind.i64.wrap (kk + 1) = kk + 1 := by rw [w64]; omega
 refine wk (k4 (sq fun _ k6 => (wb (sq fun _ k7 => (sr rfl fun _ k8 => ?_)))))
 simp only [go_sem, hgL, gK, inA, hmal, decide_true, Bool.not_true]
 refine ⟨⟨by omega, by omega⟩, ?_⟩
 apply k8
 refine cd rfl (fun hc => by simp at hc) fun hc2 => ?_
 refine wk (k7 ?_)
 refine wg rfl ?_; simp only [go_sem, hw1]
 refine jt (k6 ?_)
 refine jw (wiS i (by omega)) ?_
 refine jt ?_
 refine ⟨i + 1, by omega, by omega, [], ?_⟩
 rw [hks]
 simp only [go_sem, stI] <;> simp
theorem w_laws_heldRunS (ls : List Run) (k : Int) (hs : sRuns ls) (h0 : 0 ≤ k) (hk : kGo stR ls k ≤ 1000000000000000000) : aB P 130 [.sl 2 ((mGo aS stR ls k).map rA), .raw (.int .i64 k)] [] 0 (.raw (.int .i64 (kGo stR ls k))) := by
 refine pq 31 [.tmp 4] Tryz.func130 ?_
 have hlen := hs.1
 have hmal := rI aS stR ls k
 refine aj ?_
 refine sq fun _ k2 => aj (wb ?_)
 refine wl (α := Nat) (fun x => x ≤ ls.length) (fun x => ls.length - x) (fun x => ([(0, .sl 2 ((mGo aS stR ls k).map rA)), (1, .raw (.int .i64 (kGo stR (ls.take x) k))), (5, .raw (.int .i64 (x : Int)))], [])) 0 0 (Nat.zero_le _) [] ?_ ?_
 · simp only [go_sem, kGo, List.take_zero, Int.natCast_zero] <;> simp
 rintro i hi
 refine sq fun _ k4 => sr rfl fun _ k5 => ?_
 simp only [go_sem, hmal]; apply k5
 refine cdS rfl (fun hc1 => ?_) fun hc1 => ?_
 · have hge : ls.length ≤ i := Nat.not_lt.1 (by simpa using hc1)
   refine we (jt (k2 ?_))
   refine aj (wR ?_)
   have hie : i = ls.length := by omega
   subst hie; rw [List.take_length]; refine fO ?_ trivial; simp only [go_sem]
 have hlt : i < ls.length := (by simpa using hc1); obtain ⟨l, hl, hdrop, hml⟩ := ix hlt
 have hgL := zR aS stR k hl
 have hks := nX stR (k := k) hl
 have hkb := dQ stR stR_ge ls k i
 have hkb2 := dQ stR stR_ge ls k (i + 1)
 rw [hks] at hkb2
 generalize hkk : kGo stR (ls.take i) k = kk at hks hkb hkb2 hgL ⊢
 have hkl := mY stE uM l.ents kk
 have hse : stR l kk = kGo stE l.ents kk + 1 := rfl
 rw [hse] at hkb2
 have hw1 : IntKind.i64.wrap (kGo stE l.ents kk + 1) = kGo stE l.ents kk + 1 := by rw [w64]; omega
 have hn : decide (kGo stE l.ents kk < 0) = false := by simp; omega
 refine wk (k4 (sq fun _ k6 => (wb (sr rfl fun _ k7 => ?_))))
 simp only [go_sem, hgL, aS, rA, hmal]
 refine ⟨⟨by omega, by omega⟩, ?_⟩
 refine vr rfl rfl rfl Tryz.func77 (qT l.ents kk (hs.2 l hml) (by omega) (by omega)) rfl (by simp only [go_sem]) ?_
 refine jr (k7 ?_)
 refine sq fun _ k8 => sr rfl fun _ k9 => ?_
 simp only [go_sem, hn]; apply k9
 refine cd rfl (fun hc => by simp at hc) fun hc2 => ?_
 refine wk (k8 (sq fun _ k10 => (sr rfl fun _ k11 => ?_)))
 simp only [go_sem, hgL, aS, rA, hmal, decide_true, Bool.not_true]
 refine ⟨⟨by omega, by omega⟩, ?_⟩
 apply k11
 refine cd rfl (fun hc => by simp at hc) fun hc3 => ?_
 refine wk (k10 ?_)
 refine wg rfl ?_; simp only [go_sem, hw1]
 refine jt (k6 ?_)
 refine jw (wiS i (by omega)) ?_
 refine jt ?_
 refine ⟨i + 1, by omega, by omega, [], ?_⟩
 rw [hks]
 simp only [go_sem, stR] <;> simp
theorem sP (ls : List (List Run)) (k : Int) (hs : mR ls) (h0 : 0 ≤ k) (hk : kGo kRuns ls k ≤ 1000000000000000000) : aB P 78 [.sl 1 ((mGo (mGo aS stR) kRuns ls k).map rsA), .raw (.int .i64 k)] [] 0 (.raw (.int .i64 (kGo kRuns ls k))) := by
 refine pq 21 [.tmp 4] Tryz.func78 ?_
 have hlen := hs.1
 have hmal := rI (mGo aS stR) kRuns ls k
 refine aj ?_
 refine sq fun _ k2 => aj (wb ?_)
 refine wl (α := Nat) (fun x => x ≤ ls.length) (fun x => ls.length - x) (fun x => ([(0, .sl 1 ((mGo (mGo aS stR) kRuns ls k).map rsA)), (1, .raw (.int .i64 (kGo kRuns (ls.take x) k))), (5, .raw (.int .i64 (x : Int)))], [])) 0 0 (Nat.zero_le _) [] ?_ ?_
 · simp only [go_sem, kGo, List.take_zero, Int.natCast_zero] <;> simp
 rintro i hi
 refine sq fun _ k4 => sr rfl fun _ k5 => ?_
 simp only [go_sem, hmal]; apply k5
 refine cdS rfl (fun hc1 => ?_) fun hc1 => ?_
 · have hge : ls.length ≤ i := Nat.not_lt.1 (by simpa using hc1)
   refine we (jt (k2 ?_))
   refine aj (wR ?_)
   have hie : i = ls.length := by omega
   subst hie; rw [List.take_length]; refine fO ?_ trivial; simp only [go_sem]
 have hlt : i < ls.length := (by simpa using hc1); obtain ⟨l, hl, hdrop, hml⟩ := ix hlt
 have hgL := zR (mGo aS stR) kRuns k hl
 have hks := nX kRuns (k := k) hl
 have hkb := dQ kRuns stL_ge ls k i
 have hkb2 := dQ kRuns stL_ge ls k (i + 1)
 rw [hks] at hkb2
 generalize hkk : kGo kRuns (ls.take i) k = kk at hks hkb hkb2 hgL ⊢
 have hn : decide (kGo stR l kk < 0) = false := by have h9 : kGo stR l kk = kRuns l kk := rfl; simp; omega
 refine wk (k4 (sq fun _ k6 => (wb (sr rfl fun _ k7 => ?_))))
 simp only [go_sem, hgL, rsA, hmal]
 refine ⟨⟨by omega, by omega⟩, ?_⟩
 refine vr rfl rfl rfl Tryz.func130 (w_laws_heldRunS l kk (hs.2 l hml) (by omega) (show kRuns l kk ≤ _ by omega)) rfl (by simp only [go_sem]) ?_
 refine jr (k7 ?_)
 refine sr rfl fun _ k8 => ?_; simp only [go_sem, hn]; apply k8
 refine cd rfl (fun hc => by simp at hc) fun hc2 => ?_
 refine wk (jt (k6 ?_))
 refine jw (wiS i (by omega)) ?_
 refine jt ?_
 refine ⟨i + 1, by omega, by omega, [], ?_⟩
 rw [hks]
 simp only [go_sem, kRuns] <;> simp
theorem w_laws_heldTree (t : Tree) (k : Int) (hs : gN t) (h0 : 0 ≤ k) (hk : iT t k ≤ 1000000000000000000) : aB P 42 [trA (pY t k), .raw (.int .i64 k)] [] 0 (.raw (.int .i64 (iT t k))) := by
 refine pq 24 [.tmp 4] Tryz.func42 ?_
 simp only [trA, pY]
 obtain ⟨hs1, hs2, hs3⟩ := hs
 obtain ⟨hk1, hk2, hk3⟩ := kTree_ge t k
 have n1 : decide (kGo stE t.mem k < 0) = false := by simp; omega
 have n2 : decide (kGo kRuns t.levels (kGo stE t.mem k) < 0) = false := by simp; omega
 have n3 : decide (kGo stI t.snaps (kGo kRuns t.levels (kGo stE t.mem k)) < 0) = false := by have h9 : iT t k = kGo stI t.snaps (kGo kRuns t.levels (kGo stE t.mem k)) := rfl; simp; omega
 refine aj ?_
 refine sr rfl fun _ k2 => ja ?_
 refine vr rfl rfl rfl Tryz.func77 (qT t.mem k hs1 h0 (by omega)) rfl (by simp only [go_sem]) (k2 ?_)
 refine sq fun _ k3 => sr rfl fun _ k4 => ?_
 simp only [go_sem, n1]; apply k4
 refine cd rfl (fun hc => by simp at hc) fun hc1 => ?_
 refine wk (k3 (sr rfl fun _ k5 => (ja ?_)))
 refine vr rfl rfl rfl Tryz.func78 (sP t.levels (kGo stE t.mem k) hs2 (by omega) (by omega)) rfl (by simp only [go_sem]) (k5 ?_)
 refine sq fun _ k6 => sr rfl fun _ k7 => ?_
 simp only [go_sem, n2]; apply k7
 refine cd rfl (fun hc => by simp at hc) fun hc2 => ?_
 refine wk (k6 (sr rfl fun _ k8 => (ja ?_)))
 refine vr rfl rfl rfl Tryz.func79 (w_laws_heldIntS t.snaps (kGo kRuns t.levels (kGo stE t.mem k)) hs3 (by omega) hk) rfl (by simp only [go_sem]) (k8 ?_)
 refine sq fun _ k9 => sr rfl fun _ k10 => ?_
 simp only [go_sem, n3]; apply k10
 refine cd rfl (fun hc => by simp at hc) fun hc3 => ?_
 refine wk (k9 (aj (wR ?_)))
 refine fO ?_ trivial; simp only [go_sem, iT]
theorem w_laws_heldDisk (d : Disk) (k : Int) (hs : mR d.levels) (h0 : 0 ≤ k) (hk : uG d k ≤ 1000000000000000000) : aB P 43 [dkA (wH d k), .raw (.int .i64 k)] [] 0 (.raw (.int .i64 (uG d k))) := by
 refine pq 12 [.tmp 4] Tryz.func43 ?_
 simp only [dkA, wH]
 have hk1 := kDisk_ge d k
 have n1 : decide (kGo kRuns d.levels k < 0) = false := by have h9 : uG d k = kGo kRuns d.levels k := rfl; simp; omega
 refine aj ?_
 refine sr rfl fun _ k2 => ja ?_
 refine vr rfl rfl rfl Tryz.func78 (sP d.levels k hs h0 hk) rfl (by simp only [go_sem]) (k2 ?_)
 refine sq fun _ k3 => sr rfl fun _ k4 => ?_
 simp only [go_sem, n1]; apply k4
 refine cd rfl (fun hc => by simp at hc) fun hc1 => ?_
 refine wk (k3 (aj (wR ?_)))
 refine fO ?_ trivial; simp only [go_sem, uG]
theorem sH (s : Store) (k : Int) (hs : bM s) (h0 : 0 ≤ k) (hk : gT s k ≤ 1000000000000000000) : aB P 17 [stA (mG s k), .raw (.int .i64 k)] [] 0 (.raw (.int .i64 (gT s k))) := by
 refine pq 18 [.tmp 4] Tryz.func17 ?_
 simp only [stA, mG]
 obtain ⟨hs1, hs2⟩ := hs
 have hk1 := kDisk_ge s.disk (iT s.tree k)
 have hk2 : uG s.disk (iT s.tree k) ≤ 1000000000000000000 := hk
 obtain ⟨hk3, hk4, hk5⟩ := kTree_ge s.tree k
 have n1 : decide (iT s.tree k < 0) = false := by simp; omega
 have n2 : decide (uG s.disk (iT s.tree k) < 0) = false := by simp; omega
 refine aj ?_
 refine sr rfl fun _ k2 => ja ?_
 refine vr rfl rfl rfl Tryz.func42 (w_laws_heldTree s.tree k hs1 h0 (by omega)) (by simp only [go_sem, trA]) (by simp only [go_sem, trA]) (k2 ?_)
 refine sq fun _ k3 => sr rfl fun _ k4 => ?_
 simp only [go_sem, n1]; apply k4
 refine cd rfl (fun hc => by simp at hc) fun hc1 => ?_
 refine wk (k3 (sr rfl fun _ k5 => (ja ?_)))
 refine vr rfl rfl rfl Tryz.func43 (w_laws_heldDisk s.disk (iT s.tree k) hs2 (by omega) hk2) (by simp only [go_sem, dkA]) (by simp only [go_sem, dkA]) (k5 ?_)
 refine sq fun _ k6 => sr rfl fun _ k7 => ?_
 simp only [go_sem, n2]; apply k7
 refine cd rfl (fun hc => by simp at hc) fun hc2 => ?_
 refine wk (k6 (aj (wR ?_)))
 refine fO ?_ trivial; simp only [go_sem, gT]
theorem e65 : P.underlying 65 = some (.struct (P.fieldsOf 65)) ∧ P.stoodInHeld 65 = false ∧ P.eqGuardType P.depth 65 = false ∧ P.underlying 9 = some .string ∧ P.underlying 3 = some (.int .i64) := by refine ⟨?_, ?_, ?_, ?_, ?_⟩ <;> kernel_rfl
theorem f65 : (P.fieldsOf 65).toList = [{ name := "Key", type := 9, offset := 0, embedded := false, tag := "", pkgPath := "", byteOffset := 0 }, { name := "Seq", type := 3, offset := 1, embedded := false, tag := "", pkgPath := "", byteOffset := 16 },
  { name := "Kind", type := 3, offset := 2, embedded := false, tag := "", pkgPath := "", byteOffset := 24 }, { name := "Text", type := 9, offset := 3, embedded := false, tag := "", pkgPath := "", byteOffset := 32 }, { name := "N", type := 3, offset := 4, embedded := false, tag := "", pkgPath := "", byteOffset := 48 }] := by kernel_rfl
theorem p65 : P.plainKey 9 = true ∧ P.plainKey 3 = true := by refine ⟨?_, ?_⟩ <;> kernel_rfl
def xJ (e : Entry) : Array Value := #[.string e.key, .int .i64 e.seq, .int .i64 e.kind, .string e.text, .int .i64 e.n]
theorem ba_beq (a b : ByteArray) : (a.toList == b.toList) = decide (a = b) := by
  rw [← beq_toListBytes]
  obtain ⟨⟨x⟩⟩ := a
  obtain ⟨⟨y⟩⟩ := b
  by_cases h : x = y
  · subst h; rw [decide_eq_true rfl]; show (({ toList := x } : Array UInt8) == { toList := x }) = true; simp
  have h1 : (({ data := { toList := x } } : ByteArray) = { data := { toList := y } }) ↔ x = y := by simp
  simp [h]
  show (({ toList := x } : Array UInt8) == { toList := y }) = false
  simpa using h
theorem run_eqEnt (e f : Entry) (w : World) : (Op.equalIn 10000 65 (.agg (xJ e)) (.agg (xJ f))).run P w = .ok (decide (e = f)) w := by
  rw [run_equalIn_agg w 9999 65 _ _ e65.1 e65.2.1, f65]
  have h0 : ∀ e : Entry, (part 9 (xJ e) 0).run P w = .ok (.string e.key) w := fun e => run_part_plain w p65.1 rfl
  have h1 : ∀ e : Entry, (part 3 (xJ e) 1).run P w = .ok (.int .i64 e.seq) w := fun e => run_part_plain w p65.2 rfl
  have h2 : ∀ e : Entry, (part 3 (xJ e) 2).run P w = .ok (.int .i64 e.kind) w := fun e => run_part_plain w p65.2 rfl
  have h3 : ∀ e : Entry, (part 9 (xJ e) 3).run P w = .ok (.string e.text) w := fun e => run_part_plain w p65.1 rfl
  have h4 : ∀ e : Entry, (part 3 (xJ e) 4).run P w = .ok (.int .i64 e.n) w := fun e => run_part_plain w p65.2 rfl
  have hs : ∀ a b : ByteArray, (Op.equalIn 9999 9 (.string a) (.string b)).run P w = .ok (decide (a = b)) w := fun a b => by rw [run_equalIn_string w 9998 9 a b e65.2.2.2.1, ba_beq]
  have hi : ∀ a b : Int, (Op.equalIn 9999 3 (.int .i64 a) (.int .i64 b)).run P w = .ok (a == b) w := fun a b => run_equalIn_int w 9998 3 .i64 .i64 a b e65.2.2.2.2
  have hd : decide (e = f) = (decide (e.key = f.key) && ((e.seq == f.seq) && ((e.kind == f.kind) && (decide (e.text = f.text) && (e.n == f.n))))) := by
    obtain ⟨a1, a2, a3, a4, a5⟩ := e
    obtain ⟨b1, b2, b3, b4, b5⟩ := f
    rw [Bool.eq_iff_iff]
    simp [and_assoc]
  rw [hd]; simp only [Op.eqFields, Sem.run_bind, Sem.run_ite, Sem.run_pure, h0, h1, h2, h3, h4, hs, hi, Result.andThen_ok, ne_eq, String.reduceEq, not_false_eq_true, if_true]
  generalize decide (e.key = f.key) = c1
  generalize (e.seq == f.seq) = c2
  generalize (e.kind == f.kind) = c3
  generalize decide (e.text = f.text) = c4
  generalize (e.n == f.n) = c5
  cases c1 <;> cases c2 <;> cases c3 <;> cases c4 <;> cases c5 <;> rfl
theorem lstep_neqEnt {ro : Option Nat} {N : Nat} {E : Env} {H : Heap} {nx : Nat} {o : Oper} {b0 : Nat} {ds : List (Option Tmp)} {x y : Operand} {t' : TypeId} {e f : Entry} (hg : o.guard = none) (ho : o.op = .binOp .neq 65 x y t') (hN : ∀ d, o.dst = some d → d < N)
    (hx : opv E x = some (enA e)) (hy : opv E y = some (enA f)) : bC P ro N ds o b0 E H (tO [x, y]) [] (.raw (.bool (!decide (e = f)))) [] nx 0 := by
  refine lsO hg fun E' H' U hE hH' _ => ?_
  rw [aU0]
  have hops := oCg hE
  refine aG (by simp [ho, Op.noDefer]) hN fun C a w hR => ?_
  obtain ⟨h1, _⟩ := hR.opv (x := x) (r := enA e) (by rw [hops x (by simp)]; exact hx)
  obtain ⟨h2, _⟩ := hR.opv (x := y) (r := enA f) (by rw [hops y (by simp)]; exact hy)
  have hv : ∀ (e : Entry) (v : Value), Rep C.ρ (C.avoid H') w.heap (enA e) v → v = .agg (xJ e) := fun e v h => by
    cases h with
    | agg _ vs hn hr =>
      have k0 := hr 0 _ rfl
      have k1 := hr 1 _ rfl
      have k2 := hr 2 _ rfl
      have k3 := hr 3 _ rfl
      have k4 := hr 4 _ rfl
      have hsz : vs.size = 5 := hn
      have g : ∀ j u, vs.getD j undef = u → j < 5 → vs[j]? = some u := fun j u h hj => by
        rw [Array.getD_eq_getD_getElem?, Array.getElem?_eq_getElem (by omega)] at h; rw [Array.getElem?_eq_getElem (by omega)]
        exact congrArg some h
      have i0 : vs.getD 0 undef = .string e.key := by generalize vs.getD 0 undef = u at k0; cases k0; rfl
      have i1 : vs.getD 1 undef = .int .i64 e.seq := by generalize vs.getD 1 undef = u at k1; cases k1; rfl
      have i2 : vs.getD 2 undef = .int .i64 e.kind := by generalize vs.getD 2 undef = u at k2; cases k2; rfl
      have i3 : vs.getD 3 undef = .string e.text := by generalize vs.getD 3 undef = u at k3; cases k3; rfl
      have i4 : vs.getD 4 undef = .int .i64 e.n := by generalize vs.getD 4 undef = u at k4; cases k4; rfl
      congr 1
      refine Array.ext_getElem? fun j => ?_
      match j with
      | 0 => exact g 0 _ i0 (by omega)
      | 1 => exact g 1 _ i1 (by omega)
      | 2 => exact g 2 _ i2 (by omega)
      | 3 => exact g 3 _ i3 (by omega)
      | 4 => exact g 4 _ i4 (by omega)
      | j + 5 => rw [Array.getElem?_eq_none (by omega)]; rfl
  have hev := hv e _ h1
  have hfv := hv f _ h2
  refine ⟨trivial, _, ?_, .raw _⟩
  have hgd := run_eqGuard_agg (P := P) w .neq 65 x y (xJ e) (xJ f) e65.2.2.1
  simp only [execOp, ho, hev, hfv, Sem.run_bind, hgd, Result.andThen_ok, run_neq_struct, run_eqEnt, Sem.run_pure]
theorem bP {p : Nat → Bool} {i : Nat} (h : ∀ j, j < i → p j = true) (hp : p i = true) : ∀ j, j < i + 1 → p j = true := fun j hj => by
  by_cases e : j = i
  · rw [e]; exact hp
  exact h j (by omega)
theorem eP {p : Nat → Bool} {i n : Nat} (hi : i < n) (hp : p i = false) : (List.range n).all p = false := by
  rw [List.all_eq_false]
  exact ⟨i, List.mem_range.2 hi, by simp [hp]⟩
theorem dU {p : Nat → Bool} {i n : Nat} (hi : n ≤ i) (h : ∀ j, j < i → p j = true) : (List.range n).all p = true := by
  rw [List.all_eq_true]; intro j hj
  exact h j (by have := List.mem_range.1 hj; omega)
abbrev beq0 (s : ByteArray) : Bool := s.toList == (⟨#[]⟩ : ByteArray).toList
def tU (s : ByteArray) (i : Nat) : Bool := !((decide (aE s i < 97) || decide (122 < aE s i)) && (decide (aE s i < 47) || decide (57 < aE s i)))
def iJ (s : ByteArray) : Bool := (List.range s.size).all (tU s) && (decide (1 ≤ (s.size : Int)) && decide ((s.size : Int) ≤ 8))
def lX (n : Int) : Bool := decide (-1000000 ≤ n) && decide (n ≤ 1000000)
def iA (e : Entry) : Bool := !iJ e.key || decide (e.seq < 1) || decide (100000 < e.seq) || !lX e.n || decide (60 < (e.text.size : Int))
def bF (e : Entry) : Bool := if iA e = true then false else if e.kind = 1 then true else if e.kind = 2 then beq0 e.text && decide (e.n = 0) else if e.kind = 3 then beq0 e.text else false
def entLt (a b : Entry) : Bool := Op.bytesLess a.key.toList b.key.toList || (a.key.toList == b.key.toList && decide (b.seq < a.seq))
def dO (ls : List Entry) (i : Nat) : Entry := (ls[i - 1]?).getD ⟨⟨#[]⟩, 0, 0, ⟨#[]⟩, 0⟩
def xC (ls : List Entry) (i : Nat) : Bool := match ls[i]? with
  | some e => !(!bF e || (decide (0 < (i : Int)) && !entLt (dO ls i) e))
  | none => true
def dL (ls : List Entry) : Bool := (List.range ls.length).all (xC ls)
def mxEnt (e : Entry) : Prop := e.key.size ≤ 4611686018427387904 ∧ e.text.size ≤ 4611686018427387904
def dK (ls : List Entry) : Prop := ls.length ≤ 4611686018427387904 ∧ ∀ e ∈ ls, mxEnt e
def qJ {α : Type} [DecidableEq α] (a b : List α) (i : Nat) : Bool := decide (a[i]? = b[i]?)
theorem mS {α : Type} [DecidableEq α] {a b : List α} (hl : a.length = b.length) (h : ∀ j, j < a.length → qJ a b j = true) : a = b := by
  refine List.ext_getElem? fun j => ?_
  by_cases hj : j < a.length
  · simpa [qJ] using h j hj
  rw [List.getElem?_eq_none (by omega), List.getElem?_eq_none (by omega)]
def nT (ls : List Entry) (seq : Int) (i : Nat) : Bool := match ls[i]? with | some e => !decide (seq < e.seq) | none => true
def jM (ls : List Entry) (seq : Int) : Bool := (List.range ls.length).all (nT ls seq)
theorem w_spec_KeyOk (s : ByteArray) (hz : s.size ≤ 4611686018427387904) : aB P 157 [.raw (.string s)] [] 0 (.raw (.bool (iJ s))) := by
 refine pq 40 [.tmp 2] Tryz.func157 ?_
 refine aj ?_
 refine sq fun _ k2 => aj (wb ?_)
 refine wl (α := Nat) (fun x => x ≤ s.size ∧ ∀ j, j < x → tU s j = true) (fun x => s.size - x) (fun x => ([(0, .raw (.string s)), (3, .raw (.int .i64 (x : Int)))], [])) 0 0 ⟨Nat.zero_le _, fun j hj => absurd hj (Nat.not_lt_zero _)⟩ [] ?_ ?_
 · simp only [go_sem, Int.natCast_zero] <;> simp
 rintro i ⟨hi, hall⟩
 refine sq fun _ k4 => aj ?_
 refine cdS rfl (fun hc1 => ?_) fun hc1 => ?_
 · have hge : s.size ≤ i := Nat.not_lt.1 (by simpa using hc1)
   refine we (jt (k2 ?_))
   refine aj (wR ?_)
   have h9 : iJ s = (decide (1 ≤ (s.size : Int)) && decide ((s.size : Int) ≤ 8)) := by unfold iJ; rw [dU hge hall]; rfl
   refine fO ?_ trivial; simp only [go_sem, h9]
 have hlt : i < s.size := by simpa using hc1
 refine wk (k4 (sq fun _ k6 => (wb (sr rfl fun _ k7 => (ja ?_)))))
 refine jr (k7 ?_)
 refine cd rfl (fun hc2 => ?_) fun hc2 => ?_
 · have hp : tU s i = false := by unfold tU; rw [hc2]; rfl
   refine aj (wR ?_)
   simp only [go_sem, lQ]
   have h9 : iJ s = false := by unfold iJ; rw [eP hlt hp]; rfl
   refine fO ?_ trivial; simp only [go_sem, h9]
 have hp : tU s i = true := by unfold tU; rw [hc2]; rfl
 refine wk (jt (k6 ?_))
 refine jw (wiS i (by omega)) ?_
 refine jt ?_
 refine ⟨i + 1, ⟨by omega, bP hall hp⟩, by omega, [], ?_⟩
 simp only [go_sem] <;> simp
theorem lM (n : Int) : aB P 158 [.raw (.int .i64 n)] [] 0 (.raw (.bool (lX n))) := by
 refine pq 9 [.tmp 2] Tryz.func158 ?_
 refine aj ?_
 refine aj (wR ?_)
 refine fO ?_ trivial; simp only [go_sem, lX]
theorem uV (e : Entry) (hz : mxEnt e) : aB P 107 [enA e] [] 0 (.raw (.bool (bF e))) := by
 refine pq 48 [.tmp 2] Tryz.func107 ?_
 simp only [enA]; refine aj ?_
 refine sq fun _ k2 => sr rfl fun _ k3 => ja ?_
 refine vq Tryz.func157 (w_spec_KeyOk e.key hz.1) ?_
 refine vpg rfl rfl rfl rfl rfl rfl ⟨Tryz.func158, rfl, rfl⟩ (fun hg => lM e.n) (by simp only [go_sem]) (fun hg => (by simp only [go_sem])) (by simp only [go_sem]) trivial ?_
 simp only [go_sem]; apply k3
 refine cd rfl (fun hc1 => ?_) fun hc1 => ?_
 · have hb : iA e = true := hc1
   refine aj (wR ?_)
   refine fO ?_ trivial; simp only [go_sem, bF, hb]
 have hb : iA e = false := hc1
 refine wk (k2 (sq fun _ k5 => (aj (wb ?_))))
 refine aj ?_
 refine cd rfl (fun hc2 => ?_) fun hc2 => ?_
 · have k1 : e.kind = 1 := by simpa using hc2
   refine aj (wR ?_)
   simp only [go_sem, lQ]; refine fO ?_ trivial; simp only [go_sem, bF, hb, Bool.false_eq_true, if_false, if_pos k1]
 have k1 : ¬ (e.kind = 1) := by simpa using hc2
 refine aj ?_
 refine cd rfl (fun hc3 => ?_) fun hc3 => ?_
 · have k2 : e.kind = 2 := by simpa using hc3
   refine aj (wR ?_)
   simp only [go_sem, lQ]; refine fO ?_ trivial; simp only [go_sem, bF, hb, Bool.false_eq_true, if_false, if_neg k1, if_pos k2]
 have k2 : ¬ (e.kind = 2) := by simpa using hc3
 refine aj ?_
 refine cd rfl (fun hc4 => ?_) fun hc4 => ?_
 · have k3 : e.kind = 3 := by simpa using hc4
   refine aj (wR ?_)
   simp only [go_sem, lQ]; refine fO ?_ trivial; simp only [go_sem, bF, hb, Bool.false_eq_true, if_false, if_neg k1, if_neg k2, if_pos k3]
 have k3 : ¬ (e.kind = 3) := by simpa using hc4
 refine wk (jt (k5 ?_))
 refine aj (wR ?_)
 refine fO ?_ trivial; simp only [go_sem, bF, hb, Bool.false_eq_true, if_false, if_neg k1, if_neg k2, if_neg k3]
theorem mW (a b : Entry) : aB P 149 [enA a, enA b] [] 0 (.raw (.bool (entLt a b))) := by
 refine pq 24 [.tmp 4] Tryz.func149 ?_
 simp only [enA]; refine aj ?_
 refine aj (wR ?_)
 refine fO ?_ trivial; simp only [go_sem, entLt]
theorem qC (ls : List Entry) (hz : dK ls) : aB P 96 [.sl 5 (ls.map enA)] [] 0 (.raw (.bool (dL ls))) := by
 refine pq 33 [.tmp 2] Tryz.func96 ?_
 have hlen := hz.1
 refine aj ?_
 refine sq fun _ k2 => aj (wb ?_)
 refine wl (α := Nat) (fun x => x ≤ ls.length ∧ ∀ j, j < x → xC ls j = true) (fun x => ls.length - x) (fun x => ([(0, .sl 5 (ls.map enA)), (3, .raw (.int .i64 (x : Int)))], [])) 0 0 ⟨Nat.zero_le _, fun j hj => absurd hj (Nat.not_lt_zero _)⟩ [] ?_ ?_
 · simp only [go_sem, Int.natCast_zero] <;> simp
 rintro i ⟨hi, hall⟩
 refine sq fun _ k4 => aj ?_
 refine cdS rfl (fun hc1 => ?_) fun hc1 => ?_
 · have hge : ls.length ≤ i := Nat.not_lt.1 (by simpa using hc1)
   refine we (jt (k2 ?_))
   refine aj (wR ?_)
   have h9 : dL ls = true := by unfold dL; exact dU hge hall
   refine fO ?_ trivial; simp only [go_sem, h9]
 have hlt : i < ls.length := (by simpa using hc1); obtain ⟨l, hl, hdrop, hml⟩ := ix hlt
 have hw1 : IntKind.i64.wrap ((i : Int) - 1) = (i : Int) - 1 := by rw [w64]; omega
 have hpn : ((i : Int) - 1).toNat = i - 1 := by omega
 have hpv : ls[i - 1]? = some (dO ls i) := by unfold dO; rw [List.getElem?_eq_getElem (by omega)]; rfl
 refine wk (k4 (sq fun _ k6 => (wb (sd mixed rfl fun _ k7 => ?_))))
 simp only [go_sem, hl, hw1, hpn, hpv, enA]; refine jr ?_
 refine tp rfl rfl rfl ⟨Tryz.func107, rfl, rfl⟩ (uV l (hz.2 l hml)) (by simp only [go_sem, enA]) (by simp only [go_sem, enA]) ?_
 simp only [go_sem, hl, hw1, hpn, hpv, enA]; refine jr ?_
 refine tpg rfl rfl rfl rfl rfl rfl ⟨Tryz.func149, rfl, rfl⟩ (fun hg => mW (dO ls i) l) (by simp only [go_sem]) (fun hg => (by simp only [go_sem, enA])) (by simp only [go_sem, enA]) trivial ?_
 simp only [go_sem, hl, hw1, hpn, hpv, enA]; refine jr ?_; refine ⟨by rfl, ?_⟩; apply k7
 refine cd rfl (fun hc2 => ?_) fun hc2 => ?_
 · have hp : xC ls i = false := by unfold xC; rw [hl]; simp only [hc2]; rfl
   refine aj (wR ?_)
   simp only [go_sem, lQ]
   have h9 : dL ls = false := by unfold dL; exact eP hlt hp
   refine fO ?_ trivial; simp only [go_sem, h9]
 have hp : xC ls i = true := by unfold xC; rw [hl]; simp only [hc2]; rfl
 refine wk (jt (k6 ?_))
 refine jw (wiS i (by omega)) ?_
 refine jt ?_
 refine ⟨i + 1, ⟨by omega, bP hall hp⟩, by omega, [], ?_⟩
 simp only [go_sem] <;> simp
theorem rQ (a b : List Entry) (hz : a.length ≤ 4611686018427387904) : aB P 104 [.sl 5 (a.map enA), .sl 5 (b.map enA)] [] 0 (.raw (.bool (decide (a = b)))) := by
 refine pq 26 [.tmp 4] Tryz.func104 ?_
 refine aj ?_
 refine sq fun _ k2 => aj ?_
 refine cd rfl (fun hc1 => ?_) fun hc1 => ?_
 · have hne : a ≠ b := fun e => by rw [e] at hc1; simp at hc1
   refine aj (wR ?_)
   refine fO ?_ trivial; simp only [go_sem, decide_eq_false hne]
 have hlen : a.length = b.length := by simp at hc1; omega
 refine wk (k2 (sq fun _ k5 => (aj (wb ?_))))
 refine wl (α := Nat) (fun x => x ≤ a.length ∧ ∀ j, j < x → qJ a b j = true) (fun x => a.length - x) (fun x => ([(0, .sl 5 (a.map enA)), (1, .sl 5 (b.map enA)), (5, .raw (.int .i64 (x : Int)))], [])) 0 0 ⟨Nat.zero_le _, fun j hj => absurd hj (Nat.not_lt_zero _)⟩ [] ?_ ?_
 · simp only [go_sem, Int.natCast_zero] <;> simp
 rintro i ⟨hi, hall⟩
 refine sq fun _ k7 => aj ?_
 refine cdS rfl (fun hc2 => ?_) fun hc2 => ?_
 · have hge : a.length ≤ i := Nat.not_lt.1 (by simpa using hc2)
   refine we (jt (k5 ?_))
   refine aj (wR ?_)
   have hie : i = a.length := by omega
   subst hie
   have he := mS hlen hall
   refine fO ?_ trivial; simp only [go_sem, decide_eq_true he]
 have hlt : i < a.length := (by simpa using hc2); obtain ⟨l, hl, _, _⟩ := ix hlt
 obtain ⟨m, hm, _, _⟩ := ix (xs := b) (i := i) (by omega)
 refine wk (k7 (sq fun _ k9 => (wb (sd mixed rfl fun _ k10 => ?_))))
 simp only [go_sem, hl, hm, enA]; refine jr ?_
 refine bQ (fun hN => lstep_neqEnt rfl rfl hN rfl rfl) (.inl rfl) ?_
 simp only [go_sem, hl, hm, enA]; refine jr ?_; refine ⟨by rfl, ?_⟩; apply k10
 refine cd rfl (fun hc3 => ?_) fun hc3 => ?_
 · have hne : a ≠ b := fun e => by
     rw [e, hm] at hl; cases hl; simp at hc3
   refine aj (wR ?_)
   simp only [go_sem, lQ]; refine fO ?_ trivial; simp only [go_sem, decide_eq_false hne]
 · have hp : qJ a b i = true := by unfold qJ; rw [hl, hm]; simpa using hc3
   refine wk (jt (k9 ?_))
   refine jw (wiS i (by omega)) ?_
   refine jt ?_
   refine ⟨i + 1, ⟨by omega, bP hall hp⟩, by omega, [], ?_⟩
   simp only [go_sem] <;> simp
theorem w_spec_l5Ints (a b : List Int) (hz : a.length ≤ 4611686018427387904) : aB P 105 [.sl 1 (a.map inA), .sl 1 (b.map inA)] [] 0 (.raw (.bool (decide (a = b)))) := by
 refine pq 26 [.tmp 4] Tryz.func105 ?_
 refine aj ?_
 refine sq fun _ k2 => aj ?_
 refine cd rfl (fun hc1 => ?_) fun hc1 => ?_
 · have hne : a ≠ b := fun e => by rw [e] at hc1; simp at hc1
   refine aj (wR ?_)
   refine fO ?_ trivial; simp only [go_sem, decide_eq_false hne]
 have hlen : a.length = b.length := by simp at hc1; omega
 refine wk (k2 (sq fun _ k5 => (aj (wb ?_))))
 refine wl (α := Nat) (fun x => x ≤ a.length ∧ ∀ j, j < x → qJ a b j = true) (fun x => a.length - x) (fun x => ([(0, .sl 1 (a.map inA)), (1, .sl 1 (b.map inA)), (5, .raw (.int .i64 (x : Int)))], [])) 0 0 ⟨Nat.zero_le _, fun j hj => absurd hj (Nat.not_lt_zero _)⟩ [] ?_ ?_
 · simp only [go_sem, Int.natCast_zero] <;> simp
 rintro i ⟨hi, hall⟩
 refine sq fun _ k7 => aj ?_
 refine cdS rfl (fun hc2 => ?_) fun hc2 => ?_
 · have hge : a.length ≤ i := Nat.not_lt.1 (by simpa using hc2)
   refine we (jt (k5 ?_))
   refine aj (wR ?_)
   have hie : i = a.length := by omega
   subst hie
   have he := mS hlen hall
   refine fO ?_ trivial; simp only [go_sem, decide_eq_true he]
 have hlt : i < a.length := (by simpa using hc2); obtain ⟨l, hl, _, _⟩ := ix hlt
 obtain ⟨m, hm, _, _⟩ := ix (xs := b) (i := i) (by omega)
 refine wk (k7 (sq fun _ k9 => (wb (sd mixed rfl fun _ k10 => ?_))))
 simp only [go_sem, hl, hm, inA]; refine jr ?_; refine ⟨by rfl, ?_⟩; apply k10
 refine cd rfl (fun hc3 => ?_) fun hc3 => ?_
 · have hne : a ≠ b := fun e => by
     rw [e, hm] at hl; cases hl; simp at hc3
   refine aj (wR ?_)
   simp only [go_sem, lQ]; refine fO ?_ trivial; simp only [go_sem, decide_eq_false hne]
 · have hp : qJ a b i = true := by unfold qJ; rw [hl, hm]; simpa using hc3
   refine wk (jt (k9 ?_))
   refine jw (wiS i (by omega)) ?_
   refine jt ?_
   refine ⟨i + 1, ⟨by omega, bP hall hp⟩, by omega, [], ?_⟩
   simp only [go_sem] <;> simp
theorem uH (ls : List Entry) (seq : Int) (hz : ls.length ≤ 4611686018427387904) : aB P 97 [.sl 5 (ls.map enA), .raw (.int .i64 seq)] [] 0 (.raw (.bool (jM ls seq))) := by
 refine pq 19 [.tmp 4] Tryz.func97 ?_
 refine aj ?_
 refine sq fun _ k2 => aj (wb ?_)
 refine wl (α := Nat) (fun x => x ≤ ls.length ∧ ∀ j, j < x → nT ls seq j = true) (fun x => ls.length - x) (fun x => ([(0, .sl 5 (ls.map enA)), (1, .raw (.int .i64 seq)), (5, .raw (.int .i64 (x : Int)))], [])) 0 0 ⟨Nat.zero_le _, fun j hj => absurd hj (Nat.not_lt_zero _)⟩ [] ?_ ?_
 · simp only [go_sem, Int.natCast_zero] <;> simp
 rintro i ⟨hi, hall⟩
 refine sq fun _ k4 => aj ?_
 refine cdS rfl (fun hc1 => ?_) fun hc1 => ?_
 · have hge : ls.length ≤ i := Nat.not_lt.1 (by simpa using hc1)
   refine we (jt (k2 ?_))
   refine aj (wR ?_)
   have h9 : jM ls seq = true := by unfold jM; exact dU hge hall
   refine fO ?_ trivial; simp only [go_sem, h9]
 have hlt : i < ls.length := (by simpa using hc1); obtain ⟨l, hl, hdrop, hml⟩ := ix hlt
 refine wk (k4 (sq fun _ k6 => (wb (sr rfl fun _ k7 => ?_))))
 simp only [go_sem, hl, enA]
 refine jr (k7 ?_)
 refine cd rfl (fun hc2 => ?_) fun hc2 => ?_
 · have hp : nT ls seq i = false := by unfold nT; rw [hl]; simp only [hc2]; rfl
   refine aj (wR ?_)
   simp only [go_sem, lQ]
   have h9 : jM ls seq = false := by unfold jM; exact eP hlt hp
   refine fO ?_ trivial; simp only [go_sem, h9]
 have hp : nT ls seq i = true := by unfold nT; rw [hl]; simp only [hc2]; rfl
 refine wk (jt (k6 ?_))
 refine jw (wiS i (by omega)) ?_
 refine jt ?_
 refine ⟨i + 1, ⟨by omega, bP hall hp⟩, by omega, [], ?_⟩
 simp only [go_sem] <;> simp
theorem z2 : ((2 : Int) = 0) = False := by simp
theorem z10 : ((10 : Int) = 0) = False := by simp
theorem z16 : ((16 : Int) = 0) = False := by simp
theorem z65521 : ((65521 : Int) = 0) = False := by simp
theorem intI : eC Tryz.prog 3 = some .i64 ∧ eC Tryz.prog 5 = some .u8 := by refine ⟨?_, ?_⟩ <;> kernel_rfl
attribute [go_sem] z2 z10 z16 z65521 intI Option.isSome_some
theorem lU (s : ByteArray) (i : Nat) : 0 ≤ aE s i ∧ aE s i ≤ 255 := by
  unfold aE
  have := (s.data.toList.getD i 0).toNat_lt
  omega
def bitZ (n : Int) : Int := 2 ^ n.toNat
theorem bitZ_nat (i : Nat) : bitZ (i : Int) = 2 ^ i := rfl
theorem two_le {i j : Nat} (h : i ≤ j) : (2 : Int) ^ i ≤ 2 ^ j := by
  have : (2 : Nat) ^ i ≤ 2 ^ j := Nat.pow_le_pow_right (by omega) h
  exact_mod_cast this
theorem two_pos (i : Nat) : (0 : Int) < 2 ^ i := by
  have : 0 < (2 : Nat) ^ i := Nat.pow_pos (by omega)
  exact_mod_cast this
def orT (a b : Int) (i : Nat) : Bool := decide ((a.tdiv (2 ^ i)).tmod 2 = 1) || decide ((b.tdiv (2 ^ i)).tmod 2 = 1)
def orGo (a b : Int) : Nat → Int → Int
  | 0, out => out
  | i + 1, out => orGo a b i (if orT a b i = true then out * 2 + 1 else out * 2)
def orZ (a b : Int) : Int := orGo a b 16 0
theorem yN (a b : Int) : ∀ (i : Nat) (out : Int), 0 ≤ out → 0 ≤ orGo a b i out ∧ orGo a b i out ≤ out * 2 ^ i + 2 ^ i - 1
  | 0, out, h => by simp only [orGo, Int.pow_zero]; omega
  | i + 1, out, h => by
    unfold orGo
    have hp := two_pos i
    have h2 : (2 : Int) ^ (i + 1) = 2 * 2 ^ i := by rw [Int.pow_succ]; omega
    rw [h2]; split
    · have := yN a b i (out * 2 + 1) (by omega)
      refine ⟨this.1, Int.le_trans this.2 ?_⟩
      have : (out * 2 + 1) * 2 ^ i = out * (2 * 2 ^ i) + 2 ^ i := by rw [Int.add_mul, Int.mul_assoc, Int.one_mul]
      omega
    have := yN a b i (out * 2) (by omega)
    refine ⟨this.1, Int.le_trans this.2 ?_⟩
    have : out * 2 * 2 ^ i = out * (2 * 2 ^ i) := by rw [Int.mul_assoc]
    omega
theorem pP (a b : Int) : 0 ≤ orZ a b ∧ orZ a b ≤ 65535 := by
  have := yN a b 16 0 (by omega)
  simpa [orZ] using this
def cN (s : ByteArray) : Nat → Int
  | 0 => 7
  | i + 1 => (cN s i * 31 + aE s i).tmod 65521
theorem nN (s : ByteArray) : ∀ i, 0 ≤ cN s i ∧ cN s i < 65521
  | 0 => by simp [cN]
  | i + 1 => by
    have h1 := nN s i
    have h2 := lU s i
    unfold cN; rw [Int.tmod_eq_emod_of_nonneg (by omega)]; omega
def tK (s : ByteArray) : Int := orZ (bitZ ((cN s s.size).tmod 16)) (bitZ (((cN s s.size).tdiv 16).tmod 16))
def nG (m : Int) (e : Entry) : Int := orZ m (tK e.key)
def jJ (ls : List Entry) : Int := ls.foldl nG 0
theorem qE {n : Int} (h0 : 0 ≤ n) (h : n ≤ 15) : 0 ≤ bitZ n ∧ bitZ n ≤ 65535 := by
  unfold bitZ
  have h1 := two_le (i := n.toNat) (j := 15) (by omega)
  have h2 := two_pos n.toNat
  have h3 : (2 : Int) ^ 15 = 32768 := rfl
  omega
def gC (r : Run) : Bool := ((decide (1 ≤ (r.ents.length : Int)) && decide ((r.ents.length : Int) ≤ 150)) && dL r.ents) && decide (r.mask = jJ r.ents)
def zRunV : Run := ⟨[], 0⟩
def lD : Entry := ⟨⟨#[]⟩, 0, 0, ⟨#[]⟩, 0⟩
def mV (r : Run) : ByteArray := ((r.ents[0]?).getD lD).key
def iQ (r : Run) : ByteArray := ((r.ents[r.ents.length - 1]?).getD lD).key
def gZ (ls : List Run) (i : Nat) : Run := (ls[i - 1]?).getD zRunV
def mX (ls : List Run) (ap : Bool) (seq : Int) (i : Nat) : Bool := match ls[i]? with
  | some r => !(!gC r || !jM r.ents seq) && !((ap && decide (0 < (i : Int))) && !Op.bytesLess (iQ (gZ ls i)).toList (mV r).toList)
  | none => true
def dY (ls : List Run) (most : Int) (ap : Bool) (seq : Int) : Bool := if most < (ls.length : Int) then false else (List.range ls.length).all (mX ls ap seq)
def prevInt (ls : List Int) (i : Nat) : Int := (ls[i - 1]?).getD 0
def pA (ls : List Int) (seq : Int) (i : Nat) : Bool := match ls[i]? with
  | some n => !((decide (n < 0) || decide (seq < n)) || (decide (0 < (i : Int)) && decide (n ≤ prevInt ls i)))
  | none => true
def lS (ls : List Int) (seq : Int) : Bool := (List.range ls.length).all (pA ls seq) && decide ((ls.length : Int) ≤ 4)
def mxRuns (ls : List Run) : Prop := ls.length ≤ 4611686018427387904 ∧ ∀ r ∈ ls, dK r.ents
theorem pL {r : Run} (h : gC r = true) : 1 ≤ r.ents.length ∧ r.ents.length ≤ 150 := by
  simp [gC] at h
  omega
theorem runsAt_ok {ls : List Run} {ap : Bool} {seq : Int} {i : Nat} {r : Run} (h : mX ls ap seq i = true) (hr : ls[i]? = some r) : gC r = true := by
  unfold mX at h; rw [hr] at h; simp at h
  exact h.1.1
theorem w_spec_l1Max (a b : Int) : aB P 82 [.raw (.int .i64 a), .raw (.int .i64 b)] [] 0 (.raw (.int .i64 (max a b))) := by
 refine pq 10 [.tmp 4] Tryz.func82 ?_
 refine aj ?_
 refine sq fun _ k2 => aj ?_
 refine cd rfl (fun hc1 => ?_) fun hc1 => ?_
 · have n1 : b < a := by simpa using hc1
   refine aj (wR ?_)
   have h9 : max a b = a := by omega
   refine fO ?_ trivial; simp only [go_sem, h9]
 have n1 : ¬ (b < a) := by simpa using hc1
 refine wk (k2 (aj (wR ?_)))
 have h9 : max a b = b := by omega
 refine fO ?_ trivial; simp only [go_sem, h9]
theorem pH (n : Int) (h0 : 0 ≤ n) (hn : n ≤ 15) : aB P 228 [.raw (.int .i64 n)] [] 0 (.raw (.int .i64 (bitZ n))) := by
 refine pq 13 [.tmp 2] Tryz.func228 ?_
 obtain ⟨m, rfl⟩ := Int.eq_ofNat_of_zero_le h0
 refine aj ?_; refine aj ?_
 refine sq fun _ k3 => aj (wb ?_)
 refine wl (α := Nat) (fun x => x ≤ m) (fun x => m - x) (fun x => ([(0, .raw (.int .i64 (m : Int))), (3, .raw (.int .i64 (2 ^ x))), (4, .raw (.int .i64 (x : Int)))], [])) 0 0 (Nat.zero_le _) [] ?_ ?_
 · simp only [go_sem, Int.natCast_zero, Int.pow_zero] <;> simp
 rintro i hi
 refine sq fun _ k5 => aj ?_
 refine cdS rfl (fun hc1 => ?_) fun hc1 => ?_
 · have hge : m ≤ i := Nat.not_lt.1 (by simpa using hc1)
   refine we (jt (k3 ?_))
   refine aj (wR ?_)
   have hie : i = m := by omega
   subst hie
   have h9 := bitZ_nat i
   refine fO ?_ trivial; simp only [go_sem, h9]
 have hlt : i < m := by simpa using hc1
 refine wk (k5 (sq fun _ k7 => (wb ?_)))
 have h15 := two_le (i := i) (j := 15) (by omega)
 have hp := two_pos i
 have h3 : (2 : Int) ^ 15 = 32768 := rfl
 have hw2 : IntKind.i64.wrap (2 ^ i * 2) = 2 ^ i * 2 := by rw [w64]; omega
 refine wg rfl ?_; simp only [go_sem, hw2]
 refine jt (k7 ?_)
 refine jw (wiS i (by omega)) ?_
 refine jt ?_
 refine ⟨i + 1, by omega, by omega, [], ?_⟩
 simp only [go_sem] <;> simp [Int.pow_succ]
theorem w_spec_l4Or (a b : Int) (ha : 0 ≤ a) (ha1 : a ≤ 65535) (hb : 0 ≤ b) (hb1 : b ≤ 65535) : aB P 206 [.raw (.int .i64 a), .raw (.int .i64 b)] [] 0 (.raw (.int .i64 (orZ a b))) := by
 refine pq 30 [.tmp 4] Tryz.func206 ?_
 refine aj ?_; refine aj ?_
 refine sq fun _ k3 => aj (wb ?_)
 refine wl (α := Nat × Int) (fun x => x.1 ≤ 16 ∧ 0 ≤ x.2 ∧ x.2 < 2 ^ (16 - x.1) ∧ orGo a b x.1 x.2 = orGo a b 16 0) (fun x => x.1) (fun x => ([(0, .raw (.int .i64 a)), (1, .raw (.int .i64 b)), (5, .raw (.int .i64 x.2)), (6, .raw (.int .i64 ((x.1 : Int) - 1)))], [])) 0 (16, 0) ⟨by simp only; omega, by simp only; omega, by simp, rfl⟩ [] ?_ ?_
 · simp only [go_sem] <;> simp
 rintro ⟨j, out⟩ ⟨hj, ho, ho1, hgo⟩
 simp only at hj ho ho1 hgo ⊢
 refine sq fun _ k5 => aj ?_
 refine cdS rfl (fun hc1 => ?_) fun hc1 => ?_
 · have hj0 : j = 0 := by have h9 : ¬ (0 : Int) ≤ (j : Int) - 1 := (by simpa using hc1); omega
   subst hj0
   refine we (jt (k3 ?_))
   refine aj (wR ?_)
   have h9 : orZ a b = out := by unfold orZ; rw [← hgo]; rfl
   refine fO ?_ trivial; simp only [go_sem, h9]
 obtain ⟨i, rfl⟩ : ∃ i, j = i + 1 := ⟨j - 1, by have h9 : (0 : Int) ≤ (j : Int) - 1 := (by simpa using hc1); omega⟩
 have hi1 : (((i + 1 : Nat) : Int) - 1) = (i : Int) := by omega
 have h16 := two_le (i := 16 - (i + 1)) (j := 15) (by omega)
 have h15 := two_le (i := i) (j := 15) (by omega)
 have hp := two_pos i
 have h3 : (2 : Int) ^ 15 = 32768 := rfl
 have hw1 : IntKind.i64.wrap (out * 2) = out * 2 := by rw [w64]; omega
 have hw2 : IntKind.i64.wrap (out * 2 + 1) = out * 2 + 1 := by rw [w64]; omega
 have hz : ((2 : Int) ^ i = 0) = False := by simp; omega
 have hq : ∀ c : Int, 0 ≤ c → c ≤ 65535 → IntKind.i64.wrap (c.tdiv (2 ^ i)) = c.tdiv (2 ^ i) := fun c h0 h1 => by
   have h4 : 0 ≤ c.tdiv (2 ^ i) := Int.tdiv_nonneg h0 (by omega)
   have h5 : c.tdiv (2 ^ i) ≤ c := by rw [Int.tdiv_eq_ediv_of_nonneg h0]; exact Int.ediv_le_self _ h0
   rw [w64]; omega
 have hqa := hq a ha ha1
 have hqb := hq b hb hb1
 simp only [hi1]
 refine wk (k5 (sq fun _ k7 => (wb (sr rfl fun _ k8 => ?_))))
 simp only [go_sem, hw1]
 refine k8 (sr rfl fun _ k9 => ?_)
 simp only [go_sem, hqa, hqb]
 refine vs rfl rfl rfl Tryz.func228 (pH (i : Int) (by omega) (by omega)) (by simp only [go_sem]) (by simp only [go_sem]) ?_
 simp only [go_sem, bitZ_nat, hz, hqa, hqb]
 refine vpg rfl rfl rfl rfl rfl rfl ⟨Tryz.func228, rfl, rfl⟩ (fun hg => pH (i : Int) (by omega) (by omega)) (by simp only [go_sem]) (fun hg => (by simp only [go_sem])) (by simp only [go_sem]) trivial ?_
 simp only [go_sem, bitZ_nat, hz, hqa, hqb]; apply k9
 refine cd rfl (fun hc2 => ?_) fun hc2 => ?_
 · have hx : orT a b i = true := hc2
   refine wg rfl ?_; simp only [go_sem, hw2]
   refine jt (k7 ?_)
   have hw4 : IntKind.i64.wrap ((i : Int) - 1) = (i : Int) - 1 := by rw [w64]; omega
   refine wg rfl ?_; simp only [go_sem, hw4]; refine jt ?_
   refine ⟨(i, if orT a b i = true then out * 2 + 1 else out * 2), ⟨by simp only; omega, by simp only; split <;> omega, by
     simp only
     have e1 : 16 - i = (16 - (i + 1)) + 1 := by omega
     rw [e1, Int.pow_succ]
     split <;> omega, by simp only; exact hgo⟩, by simp only; omega, [], ?_⟩
   simp only [go_sem, hx, if_true, if_false, Bool.false_eq_true] <;> simp
 have hx : orT a b i = false := hc2
 refine wk (jt (k7 ?_))
 have hw4 : IntKind.i64.wrap ((i : Int) - 1) = (i : Int) - 1 := by rw [w64]; omega
 refine wg rfl ?_; simp only [go_sem, hw4]; refine jt ?_
 refine ⟨(i, if orT a b i = true then out * 2 + 1 else out * 2), ⟨by simp only; omega, by simp only; split <;> omega, by
   simp only
   have e1 : 16 - i = (16 - (i + 1)) + 1 := by omega
   rw [e1, Int.pow_succ]
   split <;> omega, by simp only; exact hgo⟩, by simp only; omega, [], ?_⟩
 simp only [go_sem, hx, if_true, if_false, Bool.false_eq_true] <;> simp
theorem w_spec_KeyMask (s : ByteArray) (hs : s.size ≤ 4611686018427387904) : aB P 207 [.raw (.string s)] [] 0 (.raw (.int .i64 (tK s))) := by
 refine pq 27 [.tmp 2] Tryz.func207 ?_
 refine aj ?_; refine aj ?_
 refine sq fun _ k3 => aj (wb ?_)
 refine wl (α := Nat) (fun x => x ≤ s.size) (fun x => s.size - x) (fun x => ([(0, .raw (.string s)), (3, .raw (.int .i64 (cN s x))), (4, .raw (.int .i64 (x : Int)))], [])) 0 0 (Nat.zero_le _) [] ?_ ?_
 · simp only [go_sem, cN, Int.natCast_zero] <;> simp
 rintro i hi
 refine sq fun _ k5 => aj ?_
 refine cd rfl (fun hc1 => ?_) fun hc1 => ?_
 · have hlt : i < s.size := by simpa using hc1
   have hh := nN s i
   have hb := lU s i
   have hw0 : IntKind.i64.wrap (aE s i) = aE s i := by rw [w64]; omega
   have hw1 : IntKind.i64.wrap (cN s i * 31) = cN s i * 31 := by rw [w64]; omega
   have hw2 : IntKind.i64.wrap (cN s i * 31 + aE s i) = cN s i * 31 + aE s i := by rw [w64]; omega
   refine wk (k5 (sq fun _ k7 => (wb ?_)))
   refine wg rfl ?_; simp only [go_sem, hw0, hw1, hw2]; refine jr ?_
   refine jt (k7 ?_)
   refine jw (wiS i (by omega)) ?_
   refine jt ?_
   refine ⟨i + 1, by omega, by omega, [], ?_⟩
   simp only [go_sem, cN] <;> simp
 have hge : i = s.size := by have h9 : ¬ i < s.size := (by simpa using hc1); omega
 subst hge
 refine we (jt (k3 ?_))
 have hh := nN s s.size
 have hq : IntKind.i64.wrap ((cN s s.size).tdiv 16) = (cN s s.size).tdiv 16 := by
   rw [Int.tdiv_eq_ediv_of_nonneg (by omega), IntKind.wrap_i64]; omega
 have hm1 : 0 ≤ (cN s s.size).tmod 16 ∧ (cN s s.size).tmod 16 ≤ 15 := by rw [Int.tmod_eq_emod_of_nonneg (by omega)]; omega
 have hd : 0 ≤ (cN s s.size).tdiv 16 := Int.tdiv_nonneg (by omega) (by omega)
 have hm2 : 0 ≤ ((cN s s.size).tdiv 16).tmod 16 ∧ ((cN s s.size).tdiv 16).tmod 16 ≤ 15 := by rw [Int.tmod_eq_emod_of_nonneg hd]; omega
 have hr1 := qE hm1.1 hm1.2
 have hr2 := qE hm2.1 hm2.2
 refine sr rfl fun _ k8 => ?_; simp only [go_sem, hq]
 refine vs rfl rfl rfl Tryz.func228 (pH _ hm1.1 hm1.2) (by simp only [go_sem]) (by simp only [go_sem]) ?_
 simp only [go_sem, hq]
 refine vq Tryz.func228 (pH _ hm2.1 hm2.2) ?_
 refine vq Tryz.func206 (w_spec_l4Or _ _ hr1.1 hr1.2 hr2.1 hr2.2) (k8 (wR ?_))
 refine fO ?_ trivial; simp only [go_sem, tK]
theorem yB (ls : List Entry) (hz : dK ls) : aB P 175 [.sl 5 (ls.map enA)] [] 0 (.raw (.int .i64 (jJ ls))) := by
 refine pq 20 [.tmp 2] Tryz.func175 ?_
 have hlen := hz.1
 refine aj ?_; refine aj ?_
 refine sq fun _ k3 => aj (wb ?_)
 refine wl (α := Nat × Int) (fun x => x.1 ≤ ls.length ∧ 0 ≤ x.2 ∧ x.2 ≤ 65535 ∧ (ls.drop x.1).foldl nG x.2 = ls.foldl nG 0) (fun x => ls.length - x.1) (fun x => ([(0, .sl 5 (ls.map enA)), (3, .raw (.int .i64 x.2)), (4, .raw (.int .i64 (x.1 : Int)))], [])) 0 (0, 0) ⟨Nat.zero_le _, by simp, by simp, by simp⟩ [] ?_ ?_
 · simp only [go_sem, Int.natCast_zero] <;> simp
 rintro ⟨i, m⟩ ⟨hi, hm0, hm1, hfold⟩
 simp only at hi hm0 hm1 hfold ⊢
 refine sq fun _ k5 => aj ?_
 refine cdS rfl (fun hc1 => ?_) fun hc1 => ?_
 · have hge : ls.length ≤ i := Nat.not_lt.1 (by simpa using hc1)
   refine we (jt (k3 ?_))
   refine aj (wR ?_)
   rw [List.drop_eq_nil_of_le hge] at hfold
   have h9 : jJ ls = m := hfold.symm
   refine fO ?_ trivial; simp only [go_sem, h9]
 have hlt : i < ls.length := (by simpa using hc1); obtain ⟨l, hl, hdrop, hml⟩ := ix hlt
 have hkr := pP (bitZ ((cN l.key l.key.size).tmod 16)) (bitZ (((cN l.key l.key.size).tdiv 16).tmod 16))
 refine wk (k5 (sq fun _ k7 => (wb ?_)))
 refine wg rfl ?_; simp only [go_sem, hl, enA]; refine jr ?_
 refine vq Tryz.func207 (w_spec_KeyMask l.key (hz.2 l hml).1) ?_
 refine vq Tryz.func206 (w_spec_l4Or m (tK l.key) hm0 hm1 hkr.1 hkr.2) ?_
 refine jt (k7 ?_)
 refine jw (wiS i (by omega)) ?_
 refine jt ?_
 refine ⟨(i + 1, nG m l), ⟨by omega, (pP _ _).1, (pP _ _).2, by rw [hdrop] at hfold; exact hfold⟩, by omega, [], ?_⟩
 simp only [go_sem, nG] <;> simp
theorem w_spec_RunOk (r : Run) (hz : dK r.ents) : aB P 150 [rA r] [] 0 (.raw (.bool (gC r))) := by
 refine pq 26 [.tmp 2] Tryz.func150 ?_
 simp only [rA]; refine aj ?_
 refine sd mixed rfl fun _ k2 => ja ?_
 refine tpg rfl rfl rfl rfl rfl rfl ⟨Tryz.func96, rfl, rfl⟩ (fun hg => qC r.ents hz) (by simp only [go_sem]) (fun hg => (by simp only [go_sem])) (by simp only [go_sem]) trivial ?_
 simp only [go_sem]
 refine tpg rfl rfl rfl rfl rfl rfl ⟨Tryz.func175, rfl, rfl⟩ (fun hg => yB r.ents hz) (by simp only [go_sem]) (fun hg => (by simp only [go_sem])) (by simp only [go_sem]) trivial ?_
 simp only [go_sem]; refine ⟨by rfl, ?_⟩
 refine k2 (wR (fO ?_ trivial))
 simp only [go_sem, gC]
theorem w_spec_RunSame (a b : Run) (hz : a.ents.length ≤ 4611686018427387904) : aB P 155 [rA a, rA b] [] 0 (.raw (.bool (decide (a.mask = b.mask) && decide (a.ents = b.ents)))) := by
 refine pq 17 [.tmp 4] Tryz.func155 ?_
 simp only [rA]; refine aj ?_
 refine sr rfl fun _ k2 => ja ?_
 refine vpg rfl rfl rfl rfl rfl rfl ⟨Tryz.func104, rfl, rfl⟩ (fun hg => rQ a.ents b.ents hz) (by simp only [go_sem]) (fun hg => (by simp only [go_sem])) (by simp only [go_sem]) trivial ?_
 simp only [go_sem]
 refine k2 (wR (fO ?_ trivial))
 simp only [go_sem]
theorem w_spec_l5Low (r : Run) (h1 : 1 ≤ r.ents.length) : aB P 152 [rA r] [] 0 (.raw (.string (mV r))) := by
 refine pq 8 [.tmp 2] Tryz.func152 ?_
 simp only [rA]
 have hl : r.ents[0]? = some ((r.ents[0]?).getD lD) := by rw [List.getElem?_eq_getElem (by omega)]; rfl
 generalize hg : (r.ents[0]?).getD lD = l at hl
 have hk : mV r = l.key := by unfold mV; rw [hg]
 rw [hk]; refine aj ?_; refine sr rfl fun _ k2 => ?_; simp only [go_sem, hl, enA, Int.toNat_zero]
 refine jr (k2 (wR ?_))
 refine fO ?_ trivial; simp only [go_sem]
theorem w_spec_l5High (r : Run) (h1 : 1 ≤ r.ents.length) (h2 : r.ents.length ≤ 4611686018427387904) : aB P 151 [rA r] [] 0 (.raw (.string (iQ r))) := by
 refine pq 12 [.tmp 2] Tryz.func151 ?_
 simp only [rA]
 have hl : r.ents[r.ents.length - 1]? = some ((r.ents[r.ents.length - 1]?).getD lD) := by rw [List.getElem?_eq_getElem (by omega)]; rfl
 generalize hg : (r.ents[r.ents.length - 1]?).getD lD = l at hl
 have hk : iQ r = l.key := by unfold iQ; rw [hg]
 rw [hk]
 have hw1 : IntKind.i64.wrap ((r.ents.length : Int) - 1) = (r.ents.length : Int) - 1 := by rw [w64]; omega
 have hpn : ((r.ents.length : Int) - 1).toNat = r.ents.length - 1 := by omega
 refine aj ?_; refine sr rfl fun _ k2 => ?_; simp only [go_sem, hl, hw1, hpn, enA]
 refine jr (k2 (wR ?_))
 refine fO ?_ trivial; simp only [go_sem]
theorem rS (ls : List Run) (most : Int) (ap : Bool) (seq : Int) (hz : mxRuns ls) : aB P 99 [.sl 2 (ls.map rA), .raw (.int .i64 most), .raw (.bool ap), .raw (.int .i64 seq)] [] 0 (.raw (.bool (dY ls most ap seq))) := by
 refine pq 55 [.tmp 8] Tryz.func99 ?_
 have hlen := hz.1
 refine aj ?_
 refine sq fun _ k2 => aj ?_
 refine cd rfl (fun hc1 => ?_) fun hc1 => ?_
 · have n1 : most < (ls.length : Int) := by simpa using hc1
   refine aj (wR ?_)
   refine fO ?_ trivial; simp only [go_sem, dY, n1]
 have n1 : ¬ (most < (ls.length : Int)) := by simpa using hc1
 refine wk (k2 (sq fun _ k5 => (aj (wb ?_))))
 refine wl (α := Nat) (fun x => x ≤ ls.length ∧ ∀ j, j < x → mX ls ap seq j = true) (fun x => ls.length - x) (fun x => ([(0, .sl 2 (ls.map rA)), (2, .raw (.bool ap)), (3, .raw (.int .i64 seq)), (9, .raw (.int .i64 (x : Int)))], [])) 0 0 ⟨Nat.zero_le _, fun j hj => absurd hj (Nat.not_lt_zero _)⟩ [] ?_ ?_
 · simp only [go_sem, Int.natCast_zero] <;> simp
 rintro i ⟨hi, hall⟩
 refine sq fun _ k7 => aj ?_
 refine cdS rfl (fun hc2 => ?_) fun hc2 => ?_
 · have hge : ls.length ≤ i := Nat.not_lt.1 (by simpa using hc2)
   refine we (jt (k5 ?_))
   refine aj (wR ?_)
   have h9 : dY ls most ap seq = true := by unfold dY; rw [if_neg n1]; exact dU hge hall
   refine fO ?_ trivial; simp only [go_sem, h9]
 have hlt : i < ls.length := (by simpa using hc2); obtain ⟨l, hl, hdrop, hml⟩ := ix hlt
 have hw1 : IntKind.i64.wrap ((i : Int) - 1) = (i : Int) - 1 := by rw [w64]; omega
 have hpn : ((i : Int) - 1).toNat = i - 1 := by omega
 have hpv : ls[i - 1]? = some (gZ ls i) := by unfold gZ; rw [List.getElem?_eq_getElem (by omega)]; rfl
 have hprev : 0 < i → 1 ≤ (gZ ls i).ents.length ∧ (gZ ls i).ents.length ≤ 150 := fun h0 => pL (runsAt_ok (hall (i - 1) (by omega)) hpv)
 refine wk (k7 (sq fun _ k9 => (wb (sq fun _ k10 => (sr rfl fun _ k11 => ?_)))))
 simp only [go_sem, hl, rA]; refine jr ?_
 refine vs rfl rfl rfl Tryz.func150 (w_spec_RunOk l (hz.2 l hml)) (by simp only [go_sem, rA]) (by simp only [go_sem, rA]) ?_
 simp only [go_sem, hl, rA]; refine jr ?_
 refine vpg rfl rfl rfl rfl rfl rfl ⟨Tryz.func97, rfl, rfl⟩ (fun hg => uH l.ents seq (hz.2 l hml).1) (by simp only [go_sem]) (fun hg => (by simp only [go_sem])) (by simp only [go_sem]) trivial ?_
 simp only [go_sem, hl, rA]
 refine jr (k11 ?_)
 refine cd rfl (fun hc3 => ?_) fun hc3 => ?_
 · have hp : mX ls ap seq i = false := by unfold mX; rw [hl]; simp only [hc3]; rfl
   refine aj (wR ?_)
   simp only [go_sem, lQ]
   have h9 : dY ls most ap seq = false := by unfold dY; rw [if_neg n1]; exact eP hlt hp
   refine fO ?_ trivial; simp only [go_sem, h9]
 have hr1 : gC l = true := by simp at hc3; exact hc3.1
 have hl1 := pL hr1
 refine wk (k10 (sd mixed rfl fun _ k13 => ?_))
 simp only [go_sem, hl, hw1, hpn, hpv, rA]; refine jr ?_
 refine tpg rfl rfl rfl rfl rfl rfl ⟨Tryz.func151, rfl, rfl⟩ (fun hg => w_spec_l5High (gZ ls i) (hprev (by simp at hg; omega)).1 (by have := (hprev (by simp at hg; omega)).2; omega)) (by simp only [go_sem]) (fun hg => (by simp only [go_sem, rA])) (by simp only [go_sem, rA]) trivial ?_
 simp only [go_sem, hl, hw1, hpn, hpv, rA]; refine jr ?_
 refine tpg rfl rfl rfl rfl rfl rfl ⟨Tryz.func152, rfl, rfl⟩ (fun hg => w_spec_l5Low l hl1.1) (by simp only [go_sem]) (fun hg => (by simp only [go_sem, rA])) (by simp only [go_sem, rA]) trivial ?_
 simp only [go_sem, hl, hw1, hpn, hpv, rA]; refine jr ?_; refine ⟨by rfl, ?_⟩; apply k13
 refine cd rfl (fun hc4 => ?_) fun hc4 => ?_
 · have hp : mX ls ap seq i = false := by unfold mX; rw [hl]; simp only [hc3, hc4]; rfl
   refine aj (wR ?_)
   simp only [go_sem, lQ]
   have h9 : dY ls most ap seq = false := by unfold dY; rw [if_neg n1]; exact eP hlt hp
   refine fO ?_ trivial; simp only [go_sem, h9]
 have hp : mX ls ap seq i = true := by unfold mX; rw [hl]; simp only [hc3, hc4]; rfl
 refine wk (jt (k9 ?_))
 refine jw (wiS i (by omega)) ?_
 refine jt ?_
 refine ⟨i + 1, ⟨by omega, bP hall hp⟩, by omega, [], ?_⟩
 simp only [go_sem] <;> simp
theorem w_spec_l5Snaps (t : Tree) (hz : t.snaps.length ≤ 4611686018427387904) : aB P 98 [trA t] [] 0 (.raw (.bool (lS t.snaps t.seq))) := by
 refine pq 49 [.tmp 2] Tryz.func98 ?_
 simp only [trA]; refine aj ?_
 refine sq fun _ k2 => aj (wb ?_)
 refine wl (α := Nat) (fun x => x ≤ t.snaps.length ∧ ∀ j, j < x → pA t.snaps t.seq j = true) (fun x => t.snaps.length - x) (fun x => ([(1, .ptr 0 0), (3, .raw (.int .i64 (x : Int)))], [(0, .cells 36 [.raw (.int .i64 t.seq), .sl 5 (t.mem.map enA), .sl 1 (t.levels.map rsA), .sl 1 (t.snaps.map inA)])])) 1 0 ⟨Nat.zero_le _, fun j hj => absurd hj (Nat.not_lt_zero _)⟩ [] ?_ ?_
 · simp only [go_sem, AObj.bel, Int.natCast_zero] <;> simp
 rintro i ⟨hi, hall⟩
 refine sq fun _ k4 => aj ?_
 refine cdS rfl (fun hc1 => ?_) fun hc1 => ?_
 · have hge : t.snaps.length ≤ i := Nat.not_lt.1 (by simpa using hc1)
   refine we (jt (k2 ?_))
   refine aj (wR ?_)
   have h9 : lS t.snaps t.seq = decide ((t.snaps.length : Int) ≤ 4) := by unfold lS; rw [dU hge hall]; rfl
   refine fO ?_ trivial; simp only [go_sem, h9]
 have hlt : i < t.snaps.length := by simpa using hc1
 obtain ⟨l, hl, hdrop, hml⟩ := ix hlt
 have hw1 : IntKind.i64.wrap ((i : Int) - 1) = (i : Int) - 1 := by rw [w64]; omega
 have hpn : ((i : Int) - 1).toNat = i - 1 := by omega
 have hpv : t.snaps[i - 1]? = some (prevInt t.snaps i) := by unfold prevInt; rw [List.getElem?_eq_getElem (by omega)]; rfl
 refine wk (k4 (sq fun _ k6 => (wb (sd mixed rfl fun _ k7 => ?_))))
 simp only [go_sem, hl, hw1, hpn, hpv, inA]; refine jr ?_; refine ⟨by rfl, ?_⟩; apply k7
 refine cd rfl (fun hc2 => ?_) fun hc2 => ?_
 · have hp : pA t.snaps t.seq i = false := by unfold pA; rw [hl]; simp only [hc2]; rfl
   refine aj (wR ?_)
   simp only [go_sem, lQ]
   have h9 : lS t.snaps t.seq = false := by unfold lS; rw [eP hlt hp]; rfl
   refine fO ?_ trivial; simp only [go_sem, h9]
 have hp : pA t.snaps t.seq i = true := by unfold pA; rw [hl]; simp only [hc2]; rfl
 refine wk (jt (k6 ?_))
 refine jw (wiS i (by omega)) ?_
 refine jt ?_
 refine ⟨i + 1, ⟨by omega, bP hall hp⟩, by omega, [], ?_⟩
 simp only [go_sem, AObj.bel] <;> simp
def abvAt (a b : List Entry) (i k : Nat) : Bool := match a[i]?, b[k]? with
  | some e, some f => !((e.key.toList == f.key.toList) && decide (e.seq ≤ f.seq))
  | _, _ => true
def abvRow (a b : List Entry) (i : Nat) : Bool := (List.range b.length).all (abvAt a b i)
def lK (a b : List Entry) : Bool := (List.range a.length).all (abvRow a b)
def lvAt (a b : List (List Run)) (i : Nat) : Bool := decide (a[i]? = b[i]?)
theorem runEq (a b : Run) : (decide (a.mask = b.mask) && decide (a.ents = b.ents)) = decide (a = b) := by
  obtain ⟨a1, a2⟩ := a
  obtain ⟨b1, b2⟩ := b
  rw [Bool.eq_iff_iff]
  simp [and_comm]
def mxLvs (ls : List (List Run)) : Prop := ls.length ≤ 4611686018427387904 ∧ ∀ r ∈ ls, mxRuns r
def mxTree (t : Tree) : Prop := dK t.mem ∧ mxLvs t.levels ∧ t.snaps.length ≤ 4611686018427387904
def gP (a b : Tree) : Bool := ((decide (a.seq = b.seq) && decide (a.mem = b.mem)) && decide (a.levels = b.levels)) && decide (a.snaps = b.snaps)
def xQ (ls : List Entry) (e : Entry) : Nat → Nat
  | 0 => 0
  | k + 1 => if entLt e ((ls[k]?).getD lD) = true then xQ ls e k else k + 1
def yK (ls : List Entry) (e : Entry) : Nat := xQ ls e ls.length
def jF (ls : List Entry) (e : Entry) : List Entry := ls.take (yK ls e) ++ e :: ls.drop (yK ls e)
theorem posGo_le (ls : List Entry) (e : Entry) : ∀ k, xQ ls e k ≤ k
  | 0 => Nat.le_refl _
  | k + 1 => by
    unfold xQ; split
    · have := posGo_le ls e k; omega
    exact Nat.le_refl _
def esA (es : List Entry) : AV := .sl 5 (es.map enA)
theorem tC (U : Nat → Prop) (ls : List (List Entry)) : aC U (ls.map esA) := nD enB U ls
theorem entsAV_ren (σ : Nat → Nat) (ls : List (List Entry)) : aA σ (ls.map esA) = ls.map esA := cO σ (tC _ ls)
theorem entsAV_elem (ls : List (List Entry)) : (ls.map esA).all AV.elem = true := by
  rw [List.all_map, List.all_eq_true]; intro l _; rfl
theorem entsAV_fz (ls : List (List Entry)) : fzL (ls.map esA) = ls.map esA := by rw [qW]; exact List.map_congr_left fun r _ => by simp [esA, AV.fz, dH]
theorem runOwn_elem (ls : List Run) : (ls.map runOwn).all AV.elem = true := by
  rw [List.all_map, List.all_eq_true]; intro l _; rfl
theorem runsOwn_elem (ls : List (List Run)) : (ls.map rsO).all AV.elem = true := by
  rw [List.all_map, List.all_eq_true]; intro l _; rfl
attribute [go_sem] tC entsAV_ren entsAV_elem entsAV_fz runOwn_elem runsOwn_elem
theorem w_spec_l5Above (a b : List Entry) (ha : a.length ≤ 4611686018427387904) (hb : b.length ≤ 4611686018427387904) : aB P 154 [.sl 5 (a.map enA), .sl 5 (b.map enA)] [] 0 (.raw (.bool (lK a b))) := by
 refine pq 43 [.tmp 4] Tryz.func154 ?_
 refine aj ?_
 refine sq fun _ k2 => aj (wb ?_)
 refine wl (α := Nat) (fun x => x ≤ a.length ∧ ∀ j, j < x → abvRow a b j = true) (fun x => a.length - x) (fun x => ([(0, .sl 5 (a.map enA)), (1, .sl 5 (b.map enA)), (5, .raw (.int .i64 (x : Int)))], [])) 0 0 ⟨Nat.zero_le _, fun j hj => absurd hj (Nat.not_lt_zero _)⟩ [] ?_ ?_
 · simp only [go_sem, Int.natCast_zero] <;> simp
 rintro i ⟨hi, hall⟩
 refine sq fun _ k4 => aj ?_
 refine cdS rfl (fun hc1 => ?_) fun hc1 => ?_
 · have hge : a.length ≤ i := Nat.not_lt.1 (by simpa using hc1)
   refine we (jt (k2 ?_))
   refine aj (wR ?_)
   have h9 : lK a b = true := by unfold lK; exact dU hge hall
   refine fO ?_ trivial; simp only [go_sem, h9]
 have hlt : i < a.length := (by simpa using hc1); obtain ⟨l, hl, _, _⟩ := ix hlt
 refine wk (k4 (sq fun _ k6 => (wb (aj (wb ?_)))))
 refine wl (α := Nat) (fun x => x ≤ b.length ∧ ∀ j, j < x → abvAt a b i j = true) (fun x => b.length - x) (fun x => ([(0, .sl 5 (a.map enA)), (1, .sl 5 (b.map enA)), (5, .raw (.int .i64 (i : Int))), (6, .raw (.int .i64 (x : Int)))], [])) 0 0 ⟨Nat.zero_le _, fun j hj => absurd hj (Nat.not_lt_zero _)⟩ [] ?_ ?_
 · simp only [go_sem, Int.natCast_zero] <;> simp
 rintro k ⟨hk, hallk⟩
 refine sq fun _ k8 => aj ?_
 refine cdS rfl (fun hc2 => ?_) fun hc2 => ?_
 · have hgek : b.length ≤ k := by have h9 : ¬ k < b.length := (by simpa using hc2); omega
   refine we (jt ?_)
   refine jt (k6 ?_)
   have hp : abvRow a b i = true := dU hgek hallk
   refine jw (wiS i (by omega)) ?_
   refine jt ?_
   refine ⟨i + 1, ⟨by omega, bP hall hp⟩, by omega, [], ?_⟩
   simp only [go_sem] <;> simp
 have hltk : k < b.length := by simpa using hc2
 obtain ⟨m, hm, _, _⟩ := ix hltk
 refine wk (k8 (sq fun _ k10 => (wb (sd mixed rfl fun _ k11 => ?_))))
 simp only [go_sem, hl, hm, enA]; refine jr ?_; refine ⟨by rfl, ?_⟩; apply k11
 refine cd rfl (fun hc3 => ?_) fun hc3 => ?_
 · have hpk : abvAt a b i k = false := by unfold abvAt; rw [hl, hm]; simp only [hc3]; rfl
   have hp : abvRow a b i = false := eP hltk hpk
   refine aj (wR ?_)
   simp only [go_sem, lQ]
   have h9 : lK a b = false := by unfold lK; exact eP hlt hp
   refine fO ?_ trivial; simp only [go_sem, h9]
 have hpk : abvAt a b i k = true := by unfold abvAt; rw [hl, hm]; simp only [hc3]; rfl
 refine wk (jt (k10 ?_))
 have hwk := wiS k (by omega)
 refine wg rfl ?_; simp only [go_sem, hwk]; refine jt ?_
 refine ⟨k + 1, ⟨by omega, bP hallk hpk⟩, by omega, [], ?_⟩
 simp only [go_sem] <;> simp
theorem uE (a b : List (List Run)) (ha : mxLvs a) : aB P 101 [.sl 1 (a.map rsA), .sl 1 (b.map rsA)] [] 0 (.raw (.bool (decide (a = b)))) := by
 refine pq 54 [.tmp 4] Tryz.func101 ?_
 have hlena := ha.1
 refine aj ?_
 refine sq fun _ k2 => aj ?_
 refine cd rfl (fun hc1 => ?_) fun hc1 => ?_
 · have hne : a ≠ b := fun e => by rw [e] at hc1; simp at hc1
   refine aj (wR ?_)
   refine fO ?_ trivial; simp only [go_sem, decide_eq_false hne]
 have hlen : a.length = b.length := by simp at hc1; omega
 refine wk (k2 (sq fun _ k5 => (aj (wb ?_))))
 refine wl (α := Nat) (fun x => x ≤ a.length ∧ ∀ j, j < x → lvAt a b j = true) (fun x => a.length - x) (fun x => ([(0, .sl 1 (a.map rsA)), (1, .sl 1 (b.map rsA)), (5, .raw (.int .i64 (x : Int)))], [])) 0 0 ⟨Nat.zero_le _, fun j hj => absurd hj (Nat.not_lt_zero _)⟩ [] ?_ ?_
 · simp only [go_sem, Int.natCast_zero] <;> simp
 rintro i ⟨hi, hall⟩
 refine sq fun _ k7 => aj ?_
 refine cdS rfl (fun hc2 => ?_) fun hc2 => ?_
 · have hge : a.length ≤ i := Nat.not_lt.1 (by simpa using hc2)
   refine we (jt (k5 ?_))
   refine aj (wR ?_)
   have hie : i = a.length := by omega
   subst hie
   have he : a = b := by
     refine List.ext_getElem? fun j => ?_
     by_cases hj : j < a.length
     · simpa [lvAt] using hall j hj
     rw [List.getElem?_eq_none (by omega), List.getElem?_eq_none (by omega)]
   refine fO ?_ trivial; simp only [go_sem, decide_eq_true he]
 have hlt : i < a.length := (by simpa using hc2); obtain ⟨l, hl, _, hml⟩ := ix hlt
 obtain ⟨m, hm, _, _⟩ := ix (xs := b) (i := i) (by omega)
 have hll := (ha.2 l hml).1
 refine wk (k7 (sq fun _ k9 => (wb (sq fun _ k10 => (sd mixed rfl fun _ k11 => ?_)))))
 simp only [go_sem, hl, hm, rsA]; refine jr ?_; refine ⟨by rfl, ?_⟩; apply k11
 refine cd rfl (fun hc3 => ?_) fun hc3 => ?_
 · have hne : a ≠ b := fun e => by
     rw [e, hm] at hl; cases hl; simp at hc3
   refine aj (wR ?_)
   simp only [go_sem, lQ]; refine fO ?_ trivial; simp only [go_sem, decide_eq_false hne]
 · have hlm : l.length = m.length := by simp at hc3; omega
   refine wk (k10 (aj (wb ?_)))
   refine wl (α := Nat) (fun x => x ≤ l.length ∧ ∀ j, j < x → qJ l m j = true) (fun x => l.length - x) (fun x => ([(0, .sl 1 (a.map rsA)), (1, .sl 1 (b.map rsA)), (5, .raw (.int .i64 (i : Int))), (6, .raw (.int .i64 (x : Int)))], [])) 0 0 ⟨Nat.zero_le _, fun j hj => absurd hj (Nat.not_lt_zero _)⟩ [] ?_ ?_
   · simp only [go_sem, Int.natCast_zero] <;> simp
   rintro k ⟨hk, hallk⟩
   refine sq fun _ k14 => sr rfl fun _ k15 => ?_
   simp only [go_sem, hl, rsA]
   refine jr (k15 ?_)
   refine cdS rfl (fun hc4 => ?_) fun hc4 => ?_
   · have hgek : l.length ≤ k := by have h9 : ¬ k < l.length := (by simpa using hc4); omega
     refine we (jt ?_)
     refine jt (k9 ?_)
     have hp : lvAt a b i = true := by
       have hlm : l = m := mS hlm (fun j hj => hallk j (by omega))
       unfold lvAt; rw [hl, hm, hlm]; simp
     refine jw (wiS i (by omega)) ?_
     refine jt ?_
     refine ⟨i + 1, ⟨by omega, bP hall hp⟩, by omega, [], ?_⟩
     simp only [go_sem] <;> simp
   have hltk : k < l.length := by simpa using hc4
   obtain ⟨x, hx, _, hmx⟩ := ix hltk
   obtain ⟨y, hy, _, _⟩ := ix (xs := m) (i := k) (by omega)
   refine wk (k14 (sq fun _ k16 => (wb (sd mixed rfl fun _ k17 => ?_))))
   simp only [go_sem, hl, hm, hx, hy, rsA, rA]; refine jr ?_
   refine tp rfl rfl rfl ⟨Tryz.func155, rfl, rfl⟩ (w_spec_RunSame x y ((ha.2 l hml).2 x hmx).1) (by simp only [go_sem, rA]) (by simp only [go_sem, rA]) ?_
   simp only [go_sem, runEq]; refine ⟨by rfl, ?_⟩; apply k17
   refine cdS rfl (fun hc5 => ?_) fun hc5 => ?_
   · have hpk : qJ l m k = true := by unfold qJ; rw [hx, hy]; simpa using hc5
     refine wk (jt (k16 ?_))
     have hwk := wiS k (by omega)
     refine wg rfl ?_; simp only [go_sem, hwk]; refine jt ?_
     refine ⟨k + 1, ⟨by omega, bP hallk hpk⟩, by omega, [], ?_⟩
     simp only [go_sem] <;> simp
   have hne : a ≠ b := fun e => by
     rw [e, hm] at hl; cases hl; rw [hx] at hy; cases hy; simp at hc5
   refine aj (wR ?_)
   simp only [go_sem, lQ]; refine fO ?_ trivial; simp only [go_sem, decide_eq_false hne]
theorem w_spec_TreeSame (a b : Tree) (ha : mxTree a) : aB P 60 [trA a, trA b] [] 0 (.raw (.bool (gP a b))) := by
 refine pq 31 [.tmp 4] Tryz.func60 ?_
 simp only [trA]; refine aj ?_
 refine sr rfl fun _ k2 => ja ?_
 refine vpg rfl rfl rfl rfl rfl rfl ⟨Tryz.func104, rfl, rfl⟩ (fun hg => rQ a.mem b.mem ha.1.1) (by simp only [go_sem]) (fun hg => (by simp only [go_sem])) (by simp only [go_sem]) trivial ?_
 simp only [go_sem]
 refine vpg rfl rfl rfl rfl rfl rfl ⟨Tryz.func101, rfl, rfl⟩ (fun hg => uE a.levels b.levels ha.2.1) (by simp only [go_sem]) (fun hg => (by simp only [go_sem])) (by simp only [go_sem]) trivial ?_
 simp only [go_sem]
 refine vpg rfl rfl rfl rfl rfl rfl ⟨Tryz.func105, rfl, rfl⟩ (fun hg => w_spec_l5Ints a.snaps b.snaps ha.2.2) (by simp only [go_sem]) (fun hg => (by simp only [go_sem])) (by simp only [go_sem]) trivial ?_
 simp only [go_sem]
 refine k2 (wR (fO ?_ trivial))
 simp only [go_sem, gP]
theorem w_spec_l4Put_c (ls : List Entry) (e : Entry) (hne : 0 < ls.length) (hz : ls.length ≤ 1099511627776) : aD P 108 [.sl 5 (ls.map enA), enA e] [] 0 (.ref 0) [(0, .row 65 5 ((jF ls e).map enA))] 1 := by
 refine gq 37 [.tmp 4] Tryz.func108 ?_
 simp only [enA]
 have hmx : maxLen = 9223372036854775807 := rfl
 refine aj ?_; refine aj ?_
 refine sq fun _ k3 => wb ?_
 refine wl (α := Nat) (fun x => x ≤ ls.length ∧ xQ ls e x = yK ls e) (fun x => x) (fun x => ([(0, .sl 5 (ls.map enA)), (3, .ptr 0 0), (5, .raw (.int .i64 (x : Int)))], [(0, .cells 65 [.raw (.string e.key), .raw (.int .i64 e.seq), .raw (.int .i64 e.kind), .raw (.string e.text), .raw (.int .i64 e.n)])])) 1 ls.length ⟨Nat.le_refl _, rfl⟩ [] ?_ ?_
 · simp only [go_sem, AObj.bel] <;> simp
 rintro i ⟨hi, hpos⟩
 refine sq fun _ k4 => ?_
 have hw1 : IntKind.i64.wrap ((i : Int) - 1) = (i : Int) - 1 := by rw [w64]; omega
 have hpn : ((i : Int) - 1).toNat = i - 1 := by omega
 obtain ⟨p, hpv, hpd⟩ : ∃ p, ls[i - 1]? = some p ∧ p = ((ls[i - 1]?).getD lD) := ⟨_, by rw [List.getElem?_eq_getElem (by omega)]; rfl, rfl⟩
 have hgo : xQ ls e i = if (decide (0 < (i : Int)) && entLt e p) = true then xQ ls e (i - 1) else i := by
   rcases Nat.eq_zero_or_pos i with h0 | h0
   · subst h0; rfl
   obtain ⟨m, rfl⟩ : ∃ m, i = m + 1 := ⟨i - 1, by omega⟩
   have h1 : decide (0 < ((m + 1 : Nat) : Int)) = true := by rw [decide_eq_true_eq]; omega
   rw [h1, hpd, Bool.true_and]; rfl
 refine sd mixed rfl fun _ k5 => ?_; simp only [go_sem, hw1, hpn, hpv, enA]; refine jr ?_
 refine tpg rfl rfl rfl rfl rfl rfl ⟨Tryz.func149, rfl, rfl⟩ (fun hg => mW e p) (by simp only [go_sem]) (fun hg => (by simp only [go_sem, enA])) (by simp only [go_sem, enA]) trivial ?_
 simp only [go_sem, enA, hw1, hpn, hpv]; refine jr ?_; refine ⟨by rfl, ?_⟩; apply k5
 refine cd rfl (fun hc1 => ?_) fun hc1 => ?_
 · have hi0 : 0 < i := by simp at hc1; omega
   have hpos2 : xQ ls e (i - 1) = yK ls e := by rw [hgo, if_pos hc1] at hpos; exact hpos
   have hw2 : IntKind.i64.wrap ((i : Int) - 1) = ((i - 1 : Nat) : Int) := by rw [w64]; omega
   refine wk (k4 (wb ?_))
   refine wg rfl ?_; simp only [go_sem, hw2]; refine jt ?_; refine jt ?_
   refine ⟨i - 1, ⟨by omega, hpos2⟩, by omega, [], ?_⟩
   simp only [go_sem, AObj.bel] <;> simp
 have hpos3 : i = yK ls e := by rw [hgo, hc1, if_neg (by simp)] at hpos; exact hpos
 refine we (jt (k3 ?_))
 refine sr rfl fun _ k6 => ?_; simp only [go_sem, ← List.map_drop, ← List.map_take, List.length_take, List.length_drop, List.length_append, Int.toNat_natCast]
 refine jr (k6 ?_)
 refine sd mixed rfl fun _ k7 => ?_; simp only [go_sem, ← List.map_drop, ← List.map_take, List.length_take, List.length_drop, List.length_append, Int.toNat_natCast]; refine jr ?_; refine ⟨by rfl, ?_⟩
 refine k7 (wR ?_)
 have h9 : List.take i (List.map enA ls) ++ .agg [.raw (.string e.key), .raw (.int .i64 e.seq), .raw (.int .i64 e.kind), .raw (.string e.text), .raw (.int .i64 e.n)] :: List.drop i (List.map enA ls) = (jF ls e).map enA := by unfold jF; rw [← hpos3]; simp [enA]
 refine ⟨[(0, 7)], ?_⟩
 simp only [go_sem, AObj.bel, AObj.ren, AV.ren, aA, sg] <;> simp
 exact h9
theorem w_spec_l4Put_n (e : Entry) : aD P 108 [.sl 5 [], enA e] [] 0 (.ref 0) [(0, .row 65 5 [enA e])] 1 := by
 refine gq 37 [.tmp 4] Tryz.func108 ?_
 simp only [enA]
 have hmx : maxLen = 9223372036854775807 := rfl
 refine aj ?_; refine aj ?_
 refine sq fun _ k3 => wb ?_
 refine wl (α := Nat) (fun x => x = 0) (fun x => x) (fun x => ([(0, .sl 5 []), (3, .ptr 0 0), (5, .raw (.int .i64 0))], [(0, .cells 65 [.raw (.string e.key), .raw (.int .i64 e.seq), .raw (.int .i64 e.kind), .raw (.string e.text), .raw (.int .i64 e.n)])])) 1 0 rfl [] ?_ ?_
 · simp only [go_sem, AObj.bel, Int.natCast_zero] <;> simp
 rintro i hi
 refine sq fun _ k4 => ?_
 have hw1 : IntKind.i64.wrap ((0 : Int) - 1) = -1 := by rw [w64]; omega
 have hpn : (-1 : Int).toNat = 0 := rfl
 have hg0 : decide ((0 : Int) < 0) = false := rfl
 refine sd mixed rfl fun _ k5 => ?_; simp only [go_sem, hw1, hpn, hg0, enA]; refine jr ?_
 refine bQ (fun hN => cH (rt := []) (rd := []) (val := enA lD) hN rfl rfl rfl rfl trivial (fun hg => absurd hg (by simp)) (by exact eN _ _)) (.inl rfl) ?_
 simp only [go_sem, enA, lD, hg0, hw1, hpn, hg0, enA]; refine jr ?_
 refine tpg rfl rfl rfl rfl rfl rfl ⟨Tryz.func149, rfl, rfl⟩ (fun hg => mW e lD) (by simp only [go_sem]) (fun hg => (by simp only [go_sem, enA, lD])) (by simp only [go_sem, enA, lD]) trivial ?_
 simp only [go_sem, hg0]; refine ⟨by rfl, ?_⟩; apply k5
 refine cd rfl (fun hc => by simp at hc) fun hc1 => ?_
 refine we (jt (k3 ?_))
 refine sr rfl fun _ k6 => ?_; simp only [go_sem, ← List.map_drop, ← List.map_take, List.length_take, List.length_drop, List.length_append, Int.toNat_natCast, Int.toNat_zero]
 refine jr (k6 ?_)
 refine sd mixed rfl fun _ k7 => ?_; simp only [go_sem, ← List.map_drop, ← List.map_take, List.length_take, List.length_drop, List.length_append, Int.toNat_natCast, Int.toNat_zero]; refine jr ?_; refine ⟨by rfl, ?_⟩
 refine k7 (wR ?_)
 refine ⟨[(0, 7)], ?_⟩
 simp only [go_sem, enA, AObj.bel, AObj.ren, AV.ren, aA, sg] <;> simp
theorem w_spec_l4Put_o (ls : List Entry) (e : Entry) (hz : ls.length ≤ 1099511627776) : aD P 108 [.sl 5 (ls.map enA), enA e] [] 0 (.ref 0) [(0, .row 65 5 ((jF ls e).map enA))] 1 := by
  match ls, hz with
  | [], _ => exact w_spec_l4Put_n e
  | x :: r, hz => exact w_spec_l4Put_c (x :: r) e (by simp) hz
theorem w_spec_l4Put (ls : List Entry) (e : Entry) (hz : ls.length ≤ 1099511627776) : aB P 108 [.sl 5 (ls.map enA), enA e] [] 0 (.sl 5 ((jF ls e).map enA)) :=
  bX (w_spec_l4Put_o ls e hz) (by simp only [go_sem]) (by simp only [go_sem])
section
variable {rs : List Run} {k : Nat} {r : Run} {t : Tree}
def dS (rs : List Run) : List Entry := rs.flatMap Run.ents
def dB (t : Tree) : List (List Entry) := t.mem :: (((t.levels[0]?).getD []).reverse.map Run.ents ++ (t.levels.drop 1).map dS)
def wG (ps : List (List Entry)) (i k : Nat) : Bool := match ps[i]?, ps[k]? with
  | some a, some b => lK a b
  | _, _ => true
def agedRow (ps : List (List Entry)) (i : Nat) : Bool := (List.range (ps.length - (i + 1))).all fun d => wG ps i (i + 1 + d)
def agedS (ps : List (List Entry)) : Bool := (List.range ps.length).all (agedRow ps)
def lv (t : Tree) (i : Nat) : List Run := (t.levels[i]?).getD []
def sM (t : Tree) : Bool := ((((((decide (t.seq < 0) || decide (100000 < t.seq)) || decide (60 < (t.mem.length : Int))) || !dL t.mem) || !jM t.mem t.seq) || !decide ((t.levels.length : Int) = 3)) || !lS t.snaps t.seq)
def eS (t : Tree) : Bool := if sM t = true then false else ((dY (lv t 0) 4 false t.seq && dY (lv t 1) 8 true t.seq) && dY (lv t 2) 8 true t.seq) && agedS (dB t)
theorem runOwn_take (h : rs[k]? = some r) : (rs.take k).map runOwn ++ [runOwn r] = (rs.take (k + 1)).map runOwn := by
  rw [List.take_add_one, h]; simp
theorem zX {ls : List (List Run)} {i : Nat} (h : ls[i]? = some rs) : (ls.take i).map rsO ++ [rsO rs] = (ls.take (i + 1)).map rsO := by
  rw [List.take_add_one, h]; simp
theorem tn0 : (0 : Int).toNat = 0 := rfl
theorem tn1 : (1 : Int).toNat = 1 := rfl
theorem tn2 : (2 : Int).toNat = 2 := rfl
theorem partAll_take (h : rs[k]? = some r) : dS (rs.take (k + 1)) = dS (rs.take k) ++ r.ents := by
  unfold dS
  rw [List.take_add_one, h]; simp
theorem partAll_len (h : ∀ r ∈ rs, r.ents.length ≤ 1048576) : (dS rs).length ≤ 1048576 * rs.length := by
  induction rs with
  | nil => simp [dS]
  | cons r rs ih =>
    have h1 := ih fun x hx => h x (List.mem_cons_of_mem _ hx)
    have h2 := h r List.mem_cons_self
    simp only [dS, List.flatMap_cons, List.length_append, List.length_cons] at h1 ⊢
    omega
theorem rev_drop (h : rs[k]? = some r) : (rs.drop k).reverse.map Run.ents = (rs.drop (k + 1)).reverse.map Run.ents ++ [r.ents] := by
  rw [qF h, List.reverse_cons, List.map_append]; rfl
theorem take1 {α β : Type} {ls : List α} {x : α} (f : α → β) (h : ls[k]? = some x) (h1 : 1 ≤ k) : ((ls.take (k + 1)).drop 1).map f = ((ls.take k).drop 1).map f ++ [f x] := by
  have hlt := (List.getElem?_eq_some_iff.1 h).1
  rw [List.take_add_one, h, List.drop_append_of_le_length (by rw [List.length_take]; omega), List.map_append]; rfl
def lG (t : Tree) (k : Nat) : List (List Entry) := t.mem :: ((lv t 0).reverse.map Run.ents ++ ((t.levels.take k).drop 1).map dS)
theorem partsTo_end (t : Tree) : lG t t.levels.length = dB t := by unfold lG dB lv; rw [List.take_length]
theorem parts_small (h : gN t) : ∀ p ∈ dB t, p.length ≤ 4611686018427387904 := by
  obtain ⟨h1, h2, h3⟩ := h
  intro p hp
  rcases List.mem_cons.1 hp with e | hp
  · rw [e]; have := h1.1; omega
  rcases List.mem_append.1 hp with hp | hp
  · obtain ⟨r, hr, rfl⟩ := List.mem_map.1 hp
    have hr' := List.mem_reverse.1 hr
    cases hq : t.levels[0]? with
    | none => rw [hq] at hr'; cases hr'
    | some rs =>
      rw [hq] at hr'
      have := ((h2.2 rs (List.mem_of_getElem? hq)).2 r hr').1
      omega
  obtain ⟨rs, hr, rfl⟩ := List.mem_map.1 hp
  have h4 := h2.2 rs (List.mem_of_mem_drop hr)
  have := partAll_len fun r hr => (h4.2 r hr).1
  have h5 := h4.1
  have : 1048576 * rs.length ≤ 1048576 * 1048576 := Nat.mul_le_mul_left _ h5
  omega
theorem parts_len (h : gN t) : (dB t).length ≤ 3145728 := by
  obtain ⟨h1, h2, h3⟩ := h
  have h4 := h2.1
  have h5 : ((t.levels[0]?).getD []).length ≤ 1048576 := by
    cases hq : t.levels[0]? with
    | none => simp
    | some rs => exact (h2.2 rs (List.mem_of_getElem? hq)).1
  simp only [dB, List.length_cons, List.length_append, List.length_map, List.length_reverse, List.length_drop]; omega
theorem entsAV_b1 (U : Nat → Prop) (p : List Entry) : (esA p).bel U := enB _ _
theorem entsAV_r1 (σ : Nat → Nat) (p : List Entry) : (esA p).ren σ = esA p := AV.ren_closed σ (entsAV_b1 _ p)
attribute [go_sem] entsAV_b1 entsAV_r1
theorem bW (ls : List (List Run)) (hs : mR ls) : aD P 48 [.sl 1 (ls.map rsA)] [] 0 (.ref 0) [(0, .row 107 1 (ls.map rsO))] 1 := by
 refine gq 51 [.tmp 2] Tryz.func48 ?_
 have hmx : maxLen = 9223372036854775807 := rfl
 have hlen := hs.1
 refine aj ?_
 refine sr rfl fun _ k2 => ja ?_
 refine jr (k2 ?_)
 refine sq fun _ k3 => aj (wb ?_)
 refine wl (α := Nat) (fun x => x ≤ ls.length) (fun x => ls.length - x) (fun x => ([(0, .sl 1 (ls.map rsA)), (3, .ref 0), (4, .raw (.int .i64 (x : Int)))], [(0, .row 107 1 ((ls.take x).map rsO))])) 1 0 (Nat.zero_le _) [] ?_ ?_
 · simp only [go_sem, AObj.bel, List.take_zero, List.map_nil, Int.natCast_zero] <;> simp
 rintro i hi
 refine sq fun _ k5 => aj ?_
 refine cdS rfl (fun hc1 => ?_) fun hc1 => ?_
 · have hge : ls.length ≤ i := Nat.not_lt.1 (by simpa using hc1)
   refine we (jt (k3 ?_))
   refine aj (wR ?_)
   have hie : i = ls.length := by omega
   subst hie; rw [List.take_length]; refine ⟨[], ?_⟩
   simp only [go_sem, AObj.bel] <;> simp
 have hlt : i < ls.length := (by simpa using hc1); obtain ⟨l, hl, hdrop, hml⟩ := ix hlt
 have hsl := hs.2 l hml
 have hll := hsl.1
 refine wk (k5 (sq fun _ k7 => (wb (sr rfl fun _ k8 => (ja ?_)))))
 refine jr (k8 ?_)
 refine sq fun _ k9 => aj (wb ?_)
 refine wl (α := Nat) (fun x => x ≤ l.length) (fun x => l.length - x) (fun x => ([(0, .sl 1 (ls.map rsA)), (3, .ref 0), (4, .raw (.int .i64 (i : Int))), (5, .ref 1), (6, .raw (.int .i64 (x : Int)))], [(0, .row 107 1 ((ls.take i).map rsO)), (1, .row 109 2 ((l.take x).map runOwn))])) 2 0 (Nat.zero_le _) [] ?_ ?_
 · simp only [go_sem, AObj.bel, List.take_zero, List.map_nil, Int.natCast_zero] <;> simp
 rintro k hk
 refine sq fun _ k11 => sr rfl fun _ k12 => ?_
 simp only [go_sem, hl, rsA]
 refine jr (k12 ?_)
 refine cdS rfl (fun hc2 => ?_) fun hc2 => ?_
 · have hgek : l.length ≤ k := by have h9 : ¬ k < l.length := (by simpa using hc2); omega
   refine we (jt (k9 ?_))
   have hfull : l.take k = l := List.take_of_length_le (by omega)
   refine wg rfl ?_; simp only [go_sem, hfull, List.length_take, List.length_append, List.nil_append, List.length_map, List.length_reverse, List.length_drop]; refine jr ?_
   refine jt (k7 ?_)
   have hw := wiS i (by omega)
   have htl : List.take i (List.map rsO ls) ++ [AV.own 109 2 (List.map runOwn l)] = List.take (i + 1) (List.map rsO ls) := by rw [← List.map_take, ← List.map_take]; exact zX hl
   refine wg rfl ?_; simp only [go_sem, hw]; refine jt ?_
   refine ⟨i + 1, by omega, by omega, [(0, 3)], ?_⟩
   simp only [go_sem, AObj.bel, AObj.ren, AV.ren, aA, sg] <;> simp
   exact htl
 have hltk : k < l.length := by simpa using hc2
 obtain ⟨r, hr, _, hmr⟩ := ix hltk
 have hrl := (hsl.2 r hmr).1
 refine wk (k11 (sq fun _ k13 => (wb ?_)))
 refine nS mixed rfl ?_
 simp only [go_sem, hl, hr, rsA, rA, List.length_take, List.length_append, List.nil_append, List.length_map, List.length_reverse, List.length_drop]; refine jr ?_; refine ⟨by rfl, ?_⟩
 refine jt (k13 ?_)
 have hwk := wiS k (by omega)
 have htk : List.take k (List.map runOwn l) ++ [AV.agg [AV.own 65 5 (List.map enA r.ents), AV.raw (Value.int IntKind.i64 r.mask)]] = List.take (k + 1) (List.map runOwn l) := by rw [← List.map_take, ← List.map_take]; exact runOwn_take hr
 refine wg rfl ?_; simp only [go_sem, hwk]; refine jt ?_
 refine ⟨k + 1, by omega, by omega, [(1, 5)], ?_⟩
 simp only [go_sem, AObj.bel, AObj.ren, AV.ren, aA, sg] <;> simp
 exact htk
theorem tZ (t : Tree) (hs : gN t) : aD P 65 [trA t] [] 0 (.agg [.raw (.int .i64 t.seq), .ref 0, .ref 1, .ref 2]) [(0, .row 65 5 (t.mem.map enA)), (1, .row 107 1 (t.levels.map rsO)), (2, .row 3 1 (t.snaps.map inA))] 3 := by
 refine gq 17 [.cell 2 36] Tryz.func65 ?_
 simp only [trA]
 have hmx : maxLen = 9223372036854775807 := rfl
 obtain ⟨⟨hs1, _⟩, hs2, hs3⟩ := hs
 refine aj ?_; refine sd mixed rfl fun _ k2 => ?_; simp only [go_sem, List.length_take, List.length_append, List.nil_append, List.length_map, List.length_reverse, List.length_drop]; refine jr ?_
 refine tn 1 rfl rfl rfl ⟨Tryz.func48, rfl, rfl⟩ (bW t.levels hs2) (by simp only [go_sem]) (by simp only [go_sem]) (by simp) (by decide) ?_
 simp only [go_sem, AV.ren, AObj.ren, aA, shift, sg, Nat.le_refl, Nat.add_zero, Nat.sub_self]; refine jr ?_; refine ⟨by rfl, ?_⟩
 refine k2 (wR ?_)
 refine ⟨[(0, 3), (1, 4), (2, 6)], ?_⟩
 simp only [go_sem, AObj.bel, AObj.ren, AV.ren, aA, sg] <;> simp
theorem w_spec_l5Parts_o (t : Tree) (hs : gN t) (h1 : 1 ≤ t.levels.length) : aD P 153 [trA t] [] 0 (.ref 0) [(0, .row 33 1 ((dB t).map esA))] 1 := by
 refine gq 66 [.tmp 2] Tryz.func153 ?_
 simp only [trA]
 have hmx : maxLen = 9223372036854775807 := rfl
 obtain ⟨⟨hs1, _⟩, hs2, hs3⟩ := hs
 have hl0 : t.levels[0]? = some (lv t 0) := by unfold lv; rw [List.getElem?_eq_getElem (by omega)]; rfl
 have hm0 := hs2.2 _ (List.mem_of_getElem? hl0)
 have hz0 := hm0.1
 have hlen := hs2.1
 refine aj ?_
 refine sr rfl fun _ k2 => ja ?_
 refine jr (k2 ?_)
 refine sq fun _ k3 => ?_
 have hw0 : IntKind.i64.wrap (((lv t 0).length : Int) - 1) = ((lv t 0).length : Int) - 1 := by rw [w64]; omega
 refine sr rfl fun _ k4 => ?_; simp only [go_sem, hl0, tn0, rsA, hw0]
 refine jr (k4 (wb ?_))
 refine wl (α := Nat) (fun x => x ≤ (lv t 0).length) (fun x => x) (fun x => ([(1, .ptr 0 0), (3, .ref 1), (4, .raw (.int .i64 ((x : Int) - 1)))], [(0, .cells 36 [.raw (.int .i64 t.seq), .sl 5 (t.mem.map enA), .sl 1 (t.levels.map rsA), .sl 1 (t.snaps.map inA)]), (1, .row 33 1 ((t.mem :: ((lv t 0).drop x).reverse.map Run.ents).map esA))])) 2 (lv t 0).length (Nat.le_refl _) [] ?_ ?_
 · simp only [go_sem, AObj.bel, List.drop_length, List.reverse_nil, List.map_cons, List.map_nil, esA] <;> simp
 rintro j hj
 refine sq fun _ k5 => aj ?_
 refine cd rfl (fun hc1 => ?_) fun hc1 => ?_
 · obtain ⟨i, rfl⟩ : ∃ i, j = i + 1 := ⟨j - 1, by have h9 : (0 : Int) ≤ (j : Int) - 1 := (by simpa using hc1); omega⟩
   have hi1 : (((i + 1 : Nat) : Int) - 1) = (i : Int) := by omega
   obtain ⟨r, hr, _, hmr⟩ := ix (xs := lv t 0) (i := i) (by omega)
   simp only [hi1]
   refine wk (k5 (sq fun _ k7 => (wb ?_)))
   refine wg rfl ?_; simp only [go_sem, hl0, tn0, hr, rsA, rA, List.length_take, List.length_append, List.nil_append, List.length_map, List.length_reverse, List.length_drop]; refine jr ?_
   refine jt (k7 ?_)
   have hw4 : IntKind.i64.wrap ((i : Int) - 1) = (i : Int) - 1 := by rw [w64]; omega
   have htn : List.map esA (List.map Run.ents (List.drop (i + 1) (lv t 0)).reverse) ++ [AV.sl 5 (List.map enA r.ents)] = List.map esA (List.map Run.ents (List.drop i (lv t 0)).reverse) := by rw [rev_drop hr, List.map_append]; rfl
   refine wg rfl ?_; simp only [go_sem, hw4]; refine jt ?_
   refine ⟨i, by omega, by omega, [(1, 3)], ?_⟩
   simp only [go_sem, AObj.bel, AObj.ren, AV.ren, aA, sg] <;> simp
   first | exact htn | simpa using htn
 have hj0 : j = 0 := by have h9 : ¬ (0 : Int) ≤ (j : Int) - 1 := (by simpa using hc1); omega
 subst hj0; rw [List.drop_zero]
 refine we (jt (k3 ?_))
 refine sq fun _ k8 => ?_
 have hb0 : esA t.mem :: List.map esA (List.map Run.ents (lv t 0).reverse) = List.map esA (lG t 1) := by unfold lG; rw [List.drop_eq_nil_of_le (by rw [List.length_take]; omega)]; simp
 refine aj (wb ?_)
 refine wl (α := Nat) (fun x => 1 ≤ x ∧ x ≤ t.levels.length) (fun x => t.levels.length - x) (fun x => ([(1, .ptr 0 0), (3, .ref 1), (5, .raw (.int .i64 (x : Int)))], [(0, .cells 36 [.raw (.int .i64 t.seq), .sl 5 (t.mem.map enA), .sl 1 (t.levels.map rsA), .sl 1 (t.snaps.map inA)]), (1, .row 33 1 ((lG t x).map esA))])) 2 1 ⟨Nat.le_refl _, h1⟩ [] ?_ ?_
 · simp only [go_sem, AObj.bel, AObj.ren, AV.ren, aA, sg] <;> simp
   first | exact hb0 | simpa using hb0
 rintro k ⟨hk1, hk⟩
 refine sq fun _ k10 => aj ?_
 refine cdS rfl (fun hc2 => ?_) fun hc2 => ?_
 · have hke : k = t.levels.length := by have h9 : ¬ k < t.levels.length := (by simpa using hc2); omega
   subst hke; rw [partsTo_end]
   refine we (jt (k8 ?_))
   refine aj (wR ?_)
   refine ⟨[(0, 1)], ?_⟩
   simp only [go_sem, AObj.bel, AObj.ren, AV.ren, aA, sg] <;> simp
 have hltk : k < t.levels.length := by simpa using hc2
 obtain ⟨l, hl, _, hml⟩ := ix hltk
 have hsl := hs2.2 l hml
 have hll := hsl.1
 have hpl : (lG t k).length ≤ 3145728 := by simp only [lG, List.length_cons, List.length_append, List.length_map, List.length_reverse, List.length_drop, List.length_take]; omega
 refine wk (k10 (sq fun _ k12 => (wb (sr rfl fun _ k13 => (ja ?_)))))
 refine jr (k13 ?_)
 refine sq fun _ k14 => aj (wb ?_)
 refine wl (α := Nat) (fun x => x ≤ l.length) (fun x => l.length - x) (fun x => ([(1, .ptr 0 0), (3, .ref 1), (5, .raw (.int .i64 (k : Int))), (6, .ref 2), (7, .raw (.int .i64 (x : Int)))], [(0, .cells 36 [.raw (.int .i64 t.seq), .sl 5 (t.mem.map enA), .sl 1 (t.levels.map rsA), .sl 1 (t.snaps.map inA)]), (1, .row 33 1 ((lG t k).map esA)), (2, .row 65 5 ((dS (l.take x)).map enA))])) 3 0 (Nat.zero_le _) [] ?_ ?_
 · simp only [go_sem, AObj.bel, AObj.ren, AV.ren, aA, sg] <;> simp
   exact rfl
 rintro i hi
 refine sq fun _ k16 => sr rfl fun _ k17 => ?_
 simp only [go_sem, hl, rsA]
 refine jr (k17 ?_)
 refine cd rfl (fun hc3 => ?_) fun hc3 => ?_
 · have hlt : i < l.length := (by simpa using hc3); obtain ⟨x, hx, _, hmx⟩ := ix hlt
   have hxl := (hsl.2 x hmx).1
   have hpa := partAll_len (rs := l.take i) fun r hr => (hsl.2 r (List.mem_of_mem_take hr)).1
   rw [List.length_take] at hpa
   refine wk (k16 (sq fun _ k18 => (wb ?_)))
   refine wg rfl ?_; simp only [go_sem, hl, hx, rsA, rA, List.length_take, List.length_append, List.nil_append, List.length_map, List.length_reverse, List.length_drop]; refine jr ?_
   refine jt (k18 ?_)
   have hw := wiS i (by omega)
   have hta : List.map enA (dS (List.take i l)) ++ List.map enA x.ents = List.map enA (dS (List.take (i + 1) l)) := by rw [partAll_take hx, List.map_append]
   refine wg rfl ?_; simp only [go_sem, hw]; refine jt ?_
   refine ⟨i + 1, by omega, by omega, [(2, 3)], ?_⟩
   simp only [go_sem, AObj.bel, AObj.ren, AV.ren, aA, sg] <;> simp
   first | exact hta | simpa using hta
 have hge : l.length ≤ i := Nat.not_lt.1 (by simpa using hc3)
 refine we (jt (k14 ?_))
 have hfull : l.take i = l := List.take_of_length_le (by omega)
 rw [hfull]
 refine aFz 2 rfl ?_
 simp only [go_sem]; refine wg rfl ?_; simp only [go_sem, List.length_take, List.length_append, List.nil_append, List.length_map, List.length_reverse, List.length_drop]; refine jr ?_
 refine jt (k12 ?_)
 have hwk := wiS k (by omega)
 have htk : List.map esA (lG t k) ++ [AV.sl 5 (List.map enA (dS l))] = List.map esA (lG t (k + 1)) := by
   have e1 := take1 dS hl hk1
   unfold lG; rw [e1]
   simp [esA]
 refine wg rfl ?_; simp only [go_sem, hwk]; refine jt ?_
 refine ⟨k + 1, by omega, by omega, [(1, 4)], ?_⟩
 simp only [go_sem, AObj.bel, AObj.ren, AV.ren, aA, sg] <;> simp
 first | exact htk | simpa using htk
theorem w_spec_l5Aged (t : Tree) (hs : gN t) (h1 : 1 ≤ t.levels.length) : aB P 100 [trA t] [] 0 (.raw (.bool (agedS (dB t)))) := by
 refine pq 32 [.tmp 2] Tryz.func100 ?_
 simp only [trA]
 have hpl := parts_len hs
 have hps := parts_small hs
 generalize hpp : dB t = ps at hpl hps ⊢
 refine aj ?_
 refine sr rfl fun _ k2 => ja ?_
 refine vr rfl rfl rfl Tryz.func153 ((hpp ▸ bX (w_spec_l5Parts_o t hs h1) (by simp only [go_sem]) (by simp only [go_sem]) : aB P 153 [trA t] [] 0 (.sl 1 (ps.map esA)))) (by simp only [go_sem, trA]) (by simp only [go_sem, trA]) (k2 ?_)
 refine sq fun _ k3 => aj (wb ?_)
 refine wl (α := Nat) (fun x => x ≤ ps.length ∧ ∀ j, j < x → agedRow ps j = true) (fun x => ps.length - x) (fun x => ([(3, .sl 1 (ps.map esA)), (4, .raw (.int .i64 (x : Int)))], [(0, .cells 36 [.raw (.int .i64 t.seq), .sl 5 (t.mem.map enA), .sl 1 (t.levels.map rsA), .sl 1 (t.snaps.map inA)])])) 1 0 ⟨Nat.zero_le _, fun j hj => absurd hj (Nat.not_lt_zero _)⟩ [] ?_ ?_
 · simp only [go_sem, AObj.bel, Int.natCast_zero] <;> simp
 rintro i ⟨hi, hall⟩
 refine sq fun _ k5 => aj ?_
 refine cdS rfl (fun hc1 => ?_) fun hc1 => ?_
 · have hge : ps.length ≤ i := Nat.not_lt.1 (by simpa using hc1)
   refine we (jt (k3 ?_))
   refine aj (wR ?_)
   have h9 : agedS ps = true := by unfold agedS; exact dU hge hall
   refine fO ?_ trivial; simp only [go_sem, h9]
 have hlt : i < ps.length := (by simpa using hc1); obtain ⟨p, hp1, _, hmp⟩ := ix hlt
 refine wk (k5 (sq fun _ k7 => (wb ?_)))
 have hw := wiS i (by omega)
 refine sr rfl fun _ k8 => ?_; simp only [go_sem, hw]
 refine k8 (wb ?_)
 refine wl (α := Nat) (fun x => i + 1 + x ≤ ps.length ∧ ∀ d, d < x → wG ps i (i + 1 + d) = true) (fun x => ps.length - (i + 1 + x)) (fun x => ([(3, .sl 1 (ps.map esA)), (4, .raw (.int .i64 (i : Int))), (5, .raw (.int .i64 ((i + 1 + x : Nat) : Int)))], [(0, .cells 36 [.raw (.int .i64 t.seq), .sl 5 (t.mem.map enA), .sl 1 (t.levels.map rsA), .sl 1 (t.snaps.map inA)])])) 1 0 ⟨by omega, fun d hd => absurd hd (Nat.not_lt_zero _)⟩ [] ?_ ?_
 · simp only [go_sem, AObj.bel, AObj.ren, AV.ren, aA, sg] <;> simp
 rintro d ⟨hd, hall2⟩
 refine sq fun _ k9 => aj ?_
 refine cdS rfl (fun hc2 => ?_) fun hc2 => ?_
 · have hgek : ps.length ≤ i + 1 + d := by simp at hc2; omega
   refine we (jt ?_)
   refine jt (k7 ?_)
   have hp : agedRow ps i = true := dU (by omega) hall2
   refine jw (wiS i (by omega)) ?_
   refine jt ?_
   refine ⟨i + 1, ⟨by omega, bP hall hp⟩, by omega, [], ?_⟩
   simp only [go_sem, AObj.bel] <;> simp
 have hltk : i + 1 + d < ps.length := by simp at hc2; omega
 obtain ⟨q, hq1, _, hmq⟩ := ix hltk
 refine wk (k9 (sq fun _ k11 => (wb (sd mixed rfl fun _ k12 => ?_))))
 simp only [go_sem, hp1, hq1, esA]; refine jr ?_
 refine tp rfl rfl rfl ⟨Tryz.func154, rfl, rfl⟩ (w_spec_l5Above p q (hps p hmp) (hps q hmq)) (by simp only [go_sem]) (by simp only [go_sem]) ?_
 simp only [go_sem, hp1, hq1, esA]; refine jr ?_; refine ⟨by rfl, ?_⟩; apply k12
 refine cd rfl (fun hc3 => ?_) fun hc3 => ?_
 · have hpk : wG ps i (i + 1 + d) = false := by unfold wG; rw [hp1, hq1]; simpa using hc3
   have hp : agedRow ps i = false := eP (i := d) (by omega) hpk
   refine aj (wR ?_)
   simp only [go_sem, lQ]
   have h9 : agedS ps = false := by unfold agedS; exact eP hlt hp
   refine fO ?_ trivial; simp only [go_sem, h9]
 have hpk : wG ps i (i + 1 + d) = true := by unfold wG; rw [hp1, hq1]; simpa using hc3
 refine wk (jt (k11 ?_))
 have hwk : IntKind.i64.wrap (((i + 1 + d : Nat) : Int) + 1) = ((i + 1 + (d + 1) : Nat) : Int) := by rw [w64]; omega
 refine wg rfl ?_; simp only [go_sem, hwk]; refine jt ?_
 refine ⟨d + 1, ⟨by omega, bP hall2 hpk⟩, by omega, [], ?_⟩
 simp only [go_sem, AObj.bel, AObj.ren, AV.ren, aA, sg] <;> simp
theorem yD (t : Tree) (hs : gN t) : aB P 58 [trA t] [] 0 (.raw (.bool (eS t))) := by
 refine pq 71 [.tmp 2] Tryz.func58 ?_
 simp only [trA]
 have hs0 := hs
 obtain ⟨hs1, hs2, hs3⟩ := hs
 have hz1 : dK t.mem := ⟨by have := hs1.1; omega, fun e he => ⟨by have := (hs1.2 e he).1; omega, by have := (hs1.2 e he).2; omega⟩⟩
 have hzr : ∀ i, i < t.levels.length → mxRuns (lv t i) := fun i hi => by
   have h1 := hs2.2 (lv t i) (by unfold lv; rw [List.getElem?_eq_getElem hi]; exact List.getElem_mem hi)
   exact ⟨by have := h1.1; omega, fun r hr => ⟨by have := (h1.2 r hr).1; omega, fun e he => ⟨by have := ((h1.2 r hr).2 e he).1; omega, by have := ((h1.2 r hr).2 e he).2; omega⟩⟩⟩
 refine aj ?_
 refine sq fun _ k2 => sr rfl fun _ k3 => ja ?_
 refine vpg rfl rfl rfl rfl rfl rfl ⟨Tryz.func96, rfl, rfl⟩ (fun hg => qC t.mem hz1) (by simp only [go_sem]) (fun hg => (by simp only [go_sem])) (by simp only [go_sem]) trivial ?_
 simp only [go_sem]
 refine vpg rfl rfl rfl rfl rfl rfl ⟨Tryz.func97, rfl, rfl⟩ (fun hg => uH t.mem t.seq hz1.1) (by simp only [go_sem]) (fun hg => (by simp only [go_sem])) (by simp only [go_sem]) trivial ?_
 simp only [go_sem]
 refine vpg rfl rfl rfl rfl rfl rfl ⟨Tryz.func98, rfl, rfl⟩ (fun hg => w_spec_l5Snaps t (by omega)) (by simp only [go_sem]) (fun hg => (by simp only [go_sem, trA])) (by simp only [go_sem, trA]) trivial ?_
 simp only [go_sem]; apply k3
 refine cd rfl (fun hc1 => ?_) fun hc1 => ?_
 · have hb : sM t = true := hc1
   refine aj (wR ?_)
   refine fO ?_ trivial; simp only [go_sem, eS, hb]
 have hb : sM t = false := hc1
 have h3 : t.levels.length = 3 := by simp at hc1; omega
 have hl0 : t.levels[0]? = some (lv t 0) := by unfold lv; rw [List.getElem?_eq_getElem (by omega)]; rfl
 have hl1 : t.levels[1]? = some (lv t 1) := by unfold lv; rw [List.getElem?_eq_getElem (by omega)]; rfl
 have hl2 : t.levels[2]? = some (lv t 2) := by unfold lv; rw [List.getElem?_eq_getElem (by omega)]; rfl
 refine wk (k2 (sd mixed rfl fun _ k5 => ?_))
 simp only [go_sem, hl0, hl1, hl2, tn0, tn1, tn2, rsA]; refine jr ?_
 refine tp rfl rfl rfl ⟨Tryz.func99, rfl, rfl⟩ (rS (lv t 0) 4 false t.seq (hzr 0 (by omega))) (by simp only [go_sem]) (by simp only [go_sem]) ?_
 simp only [go_sem, hl0, hl1, hl2, tn0, tn1, tn2, rsA]; refine jr ?_
 refine tpg rfl rfl rfl rfl rfl rfl ⟨Tryz.func99, rfl, rfl⟩ (fun hg => rS (lv t 1) 8 true t.seq (hzr 1 (by omega))) (by simp only [go_sem]) (fun hg => (by simp only [go_sem])) (by simp only [go_sem]) trivial ?_
 simp only [go_sem, hl0, hl1, hl2, tn0, tn1, tn2, rsA]; refine jr ?_
 refine tpg rfl rfl rfl rfl rfl rfl ⟨Tryz.func99, rfl, rfl⟩ (fun hg => rS (lv t 2) 8 true t.seq (hzr 2 (by omega))) (by simp only [go_sem]) (fun hg => (by simp only [go_sem])) (by simp only [go_sem]) trivial ?_
 simp only [go_sem, hl0, hl1, hl2, tn0, tn1, tn2, rsA]; refine jr ?_
 refine tpg rfl rfl rfl rfl rfl rfl ⟨Tryz.func100, rfl, rfl⟩ (fun hg => w_spec_l5Aged t hs0 (by omega)) (by simp only [go_sem]) (fun hg => (by simp only [go_sem, trA])) (by simp only [go_sem, trA]) trivial ?_
 simp only [go_sem]; refine jr ?_; refine ⟨by rfl, ?_⟩
 refine k5 (wR (fO ?_ trivial))
 simp only [go_sem, eS, hb, Bool.false_eq_true, if_false]
end
def jD (ls : List Entry) (i : Nat) : Bool := match ls[i]? with
  | some e => !(!bF e || (decide (0 < (i : Int)) && !decide (e.seq = IntKind.i64.wrap ((dO ls i).seq + 1))))
  | none => true
def isB (ls : List Entry) : Bool := (List.range ls.length).all (jD ls) && (decide (1 ≤ (ls.length : Int)) && decide ((ls.length : Int) ≤ 12))
def dchr (n : Int) : ByteArray := ByteArray.empty.push (UInt8.ofNat (IntKind.u8.wrap (IntKind.i64.wrap (48 + n))).toNat)
def qR : Nat → Int → ByteArray → ByteArray
  | 0, n, out => dchr n ++ out
  | f + 1, n, out => if 9 < n then qR f (n.tdiv 10) (dchr (n.tmod 10) ++ out) else dchr n ++ out
def decP (n : Int) : ByteArray := qR 19 n ⟨#[]⟩
def dec (n : Int) : ByteArray := if n < 0 then ⟨#[45]⟩ ++ decP (-n) else decP n
theorem yV : ∀ (f : Nat) (n : Int) (out : ByteArray), (qR f n out).size ≤ out.size + f + 1
  | 0, n, out => by simp only [qR, ByteArray.size_append]; have : (dchr n).size = 1 := rfl; omega
  | f + 1, n, out => by
    unfold qR
    have h1 : ∀ m, (dchr m).size = 1 := fun _ => rfl
    split
    · have := yV f (n.tdiv 10) (dchr (n.tmod 10) ++ out)
      rw [ByteArray.size_append, h1] at this; omega
    rw [ByteArray.size_append, h1]; omega
theorem eM (n : Int) : (dec n).size ≤ 21 := by
  have h : ∀ m, (decP m).size ≤ 20 := fun m => yV 19 m ⟨#[]⟩
  unfold dec; split
  · rw [ByteArray.size_append]; have := h (-n); have : (⟨#[45]⟩ : ByteArray).size = 1 := rfl; omega
  have := h n; omega
abbrev spB : ByteArray := ⟨#[32]⟩
abbrev nlB : ByteArray := ⟨#[10]⟩
theorem bD : spB.size = 1 := rfl
theorem mC : nlB.size = 1 := rfl
def mL (out : ByteArray) (e : Entry) : ByteArray := out ++ e.key ++ spB ++ dec e.seq ++ spB ++ dec e.kind ++ spB ++ dec e.n ++ spB ++ dec (e.text.size : Int) ++ spB ++ e.text
def bTx (ls : List Entry) : ByteArray := ls.foldl mL ⟨#[]⟩
def fTx (ls : List Entry) : ByteArray := if isB ls = true then dec ((bTx ls).size : Int) ++ spB ++ bTx ls ++ nlB else ⟨#[]⟩
def spGo (s : ByteArray) : Nat → Nat → Option Nat
  | 0, _ => none
  | f + 1, i => if aE s i = 32 then some i else spGo s f (i + 1)
def iF (s : ByteArray) (at' : Nat) : ByteArray × Int := match spGo s (s.size - at') at' with
  | some i => (s.extract at' i, (i : Int) + 1)
  | none => (⟨#[]⟩, -1)
theorem spGo_lt (s : ByteArray) : ∀ (f i j : Nat), spGo s f i = some j → i ≤ j ∧ j < i + f
  | 0, i, j, h => by cases h
  | f + 1, i, j, h => by
    unfold spGo at h; split at h
    · cases h; omega
    have := spGo_lt s f (i + 1) j h; omega
theorem wordS_le (s : ByteArray) (a : Nat) : -1 ≤ (iF s a).2 ∧ (iF s a).2 ≤ s.size := by
  unfold iF; split
  · rename_i i h
    have := spGo_lt s _ _ _ h
    simp only
    omega
  simp only; omega
theorem mA (s : ByteArray) (a b : Nat) (h : b ≤ s.size) : (s.extract a b).size = b - a := by
  rw [ByteArray.size_extract]; omega
theorem wordS_size (s : ByteArray) (a : Nat) : (iF s a).1.size ≤ s.size := by
  unfold iF; split
  · rename_i i h
    have := spGo_lt s _ _ _ h
    simp only
    rw [ByteArray.size_extract]; omega
  exact Nat.zero_le _
def iS (t : ByteArray) : Nat → Option Int
  | 0 => some 0
  | i + 1 => match iS t i with
    | some n => if (decide (aE t i < 48) || decide (57 < aE t i)) = true then none else some (n * 10 + (aE t i - 48))
    | none => none
theorem jY (t : ByteArray) : ∀ (i : Nat) (n : Int), iS t i = some n → 0 ≤ n ∧ n < 10 ^ i
  | 0, n, h => by cases h; simp
  | i + 1, n, h => by
    unfold iS at h; split at h
    · rename_i m hm
      split at h
      · cases h
      rename_i hd
      cases h
      have := jY t i m hm
      simp at hd; rw [Int.pow_succ]; omega
    cases h
theorem numGo_no {t : ByteArray} {i : Nat} (h : iS t i = none) : ∀ j, i ≤ j → iS t j = none := by
  intro j hj
  induction j with
  | zero => have : i = 0 := by omega
            subst this; exact h
  | succ j ih =>
    by_cases e : i = j + 1
    · subst e; exact h
    unfold iS; rw [ih (by omega)]
def rC (s : ByteArray) : Bool := decide (0 < (s.size : Int)) && decide (aE s 0 = 45)
def jP (s : ByteArray) : ByteArray := if rC s = true then s.extract 1 s.size else s
def rT (t : ByteArray) (neg : Bool) : Bool := (decide ((t.size : Int) = 0) || decide (17 < (t.size : Int))) || (decide (aE t 0 = 48) && (decide (1 < (t.size : Int)) || neg))
def numS (s : ByteArray) : Option Int := if rT (jP s) (rC s) = true then none else (iS (jP s) (jP s).size).map fun n => if rC s = true then -n else n
def numV (s : ByteArray) : Int × Bool := match numS s with
  | some n => (n, true)
  | none => (0, false)
def bA (s : ByteArray) (a : Int) : Int × Int := if a < 0 then (0, -1) else match numS (iF s a.toNat).1 with
  | some n => (n, (iF s a.toNat).2)
  | none => (0, -1)
theorem sS (s : ByteArray) (a : Int) : -1 ≤ (bA s a).2 ∧ (bA s a).2 ≤ s.size := by
  unfold bA; split
  · simp only; omega
  split
  · exact wordS_le s a.toNat
  simp only; omega
theorem numS_range {s : ByteArray} {n : Int} (h : numS s = some n) : -100000000000000000 < n ∧ n < 100000000000000000 := by
  unfold numS at h; split at h
  · cases h
  rename_i hb
  obtain ⟨m, hm, rfl⟩ := Option.map_eq_some_iff.1 h
  have h1 := jY _ _ _ hm
  have h2 : (jP s).size ≤ 17 := by simp [rT] at hb; omega
  have h3 : (10 : Int) ^ (jP s).size ≤ 10 ^ 17 := by
    have : (10 : Nat) ^ (jP s).size ≤ 10 ^ 17 := Nat.pow_le_pow_right (by omega) h2
    exact_mod_cast this
  have h4 : (10 : Int) ^ 17 = 100000000000000000 := rfl
  split <;> omega
theorem nJ (s : ByteArray) (a : Int) : -100000000000000000 < (bA s a).1 ∧ (bA s a).1 < 100000000000000000 := by
  unfold bA; split
  · simp only; omega
  split
  · rename_i n h; exact numS_range h
  simp only; omega
def gF : Entry := ⟨⟨#[]⟩, 0, 0, ⟨#[]⟩, 0⟩
def e1 (s : ByteArray) (a : Nat) := iF s a
def e2 (s : ByteArray) (a : Nat) := bA s (e1 s a).2
def e3 (s : ByteArray) (a : Nat) := bA s (e2 s a).2
def e4 (s : ByteArray) (a : Nat) := bA s (e3 s a).2
def e5 (s : ByteArray) (a : Nat) := bA s (e4 s a).2
def vM (s : ByteArray) (a : Nat) : Bool := (decide ((e5 s a).2 < 0) || decide ((e5 s a).1 < 0)) || decide ((s.size : Int) - (e5 s a).2 < (e5 s a).1)
def sZ (s : ByteArray) (a : Nat) : Entry × Int := if vM s a = true then (gF, -1) else
  (⟨(e1 s a).1, (e2 s a).1, (e3 s a).1, s.extract (e5 s a).2.toNat ((e5 s a).2 + (e5 s a).1).toNat, (e4 s a).1⟩, (e5 s a).2 + (e5 s a).1)
theorem w_spec_l6Batch (ls : List Entry) (hz : dK ls) : aB P 109 [.sl 5 (ls.map enA)] [] 0 (.raw (.bool (isB ls))) := by
 refine pq 43 [.tmp 2] Tryz.func109 ?_
 have hlen := hz.1
 refine aj ?_
 refine sq fun _ k2 => aj (wb ?_)
 refine wl (α := Nat) (fun x => x ≤ ls.length ∧ ∀ j, j < x → jD ls j = true) (fun x => ls.length - x) (fun x => ([(0, .sl 5 (ls.map enA)), (3, .raw (.int .i64 (x : Int)))], [])) 0 0 ⟨Nat.zero_le _, fun j hj => absurd hj (Nat.not_lt_zero _)⟩ [] ?_ ?_
 · simp only [go_sem, Int.natCast_zero] <;> simp
 rintro i ⟨hi, hall⟩
 refine sq fun _ k4 => aj ?_
 refine cdS rfl (fun hc1 => ?_) fun hc1 => ?_
 · have hge : ls.length ≤ i := Nat.not_lt.1 (by simpa using hc1)
   refine we (jt (k2 ?_))
   refine aj (wR ?_)
   have h9 : isB ls = (decide (1 ≤ (ls.length : Int)) && decide ((ls.length : Int) ≤ 12)) := by unfold isB; rw [dU hge hall]; rfl
   refine fO ?_ trivial; simp only [go_sem, h9]
 have hlt : i < ls.length := (by simpa using hc1); obtain ⟨l, hl, hdrop, hml⟩ := ix hlt
 have hw1 : IntKind.i64.wrap ((i : Int) - 1) = (i : Int) - 1 := by rw [w64]; omega
 have hpn : ((i : Int) - 1).toNat = i - 1 := by omega
 have hpv : ls[i - 1]? = some (dO ls i) := by unfold dO; rw [List.getElem?_eq_getElem (by omega)]; rfl
 refine wk (k4 (sq fun _ k6 => (wb (sd mixed rfl fun _ k7 => ?_))))
 simp only [go_sem, hl, hw1, hpn, hpv, enA]; refine jr ?_
 refine tp rfl rfl rfl ⟨Tryz.func107, rfl, rfl⟩ (uV l (hz.2 l hml)) (by simp only [go_sem, enA]) (by simp only [go_sem, enA]) ?_
 simp only [go_sem, hl, hw1, hpn, hpv, enA]; refine jr ?_; refine ⟨by rfl, ?_⟩; apply k7
 refine cd rfl (fun hc2 => ?_) fun hc2 => ?_
 · have hp : jD ls i = false := by unfold jD; rw [hl]; simp only [hc2]; rfl
   refine aj (wR ?_)
   simp only [go_sem, lQ]
   have h9 : isB ls = false := by unfold isB; rw [eP hlt hp]; rfl
   refine fO ?_ trivial; simp only [go_sem, h9]
 have hp : jD ls i = true := by unfold jD; rw [hl]; simp only [hc2]; rfl
 refine wk (jt (k6 ?_))
 refine jw (wiS i (by omega)) ?_
 refine jt ?_
 refine ⟨i + 1, ⟨by omega, bP hall hp⟩, by omega, [], ?_⟩
 simp only [go_sem] <;> simp
theorem uP (n : Int) (h0 : 0 ≤ n) (hn : n < 1000000000000000000) : aB P 110 [.raw (.int .i64 n)] [] 0 (.raw (.string (decP n))) := by
 refine pq 31 [.tmp 2] Tryz.func110 ?_
 have hmx : maxLen = 9223372036854775807 := rfl
 have hd1 : ∀ m, ByteArray.empty.push (UInt8.ofNat (IntKind.u8.wrap (IntKind.i64.wrap (48 + m))).toNat) = dchr m := fun _ => rfl
 have hds : ∀ m, (dchr m).size = 1 := fun _ => rfl
 refine aj ?_
 refine sq fun _ k2 => aj ?_
 refine cd rfl (fun hc1 => ?_) fun hc1 => ?_
 · exfalso; simp at hc1; omega
 refine wk (k2 (sq fun _ k4 => (aj ?_)))
 refine cd rfl (fun hc2 => ?_) fun hc2 => ?_
 · exfalso; simp at hc2; omega
 refine wk (k4 (aj ?_))
 refine sq fun _ k7 => wb ?_
 refine wl (α := Nat × Int × ByteArray) (fun x => 0 ≤ x.2.1 ∧ x.2.1 < 10 ^ (x.1 + 1) ∧ x.2.2.size + x.1 ≤ 20 ∧ x.2.1 < 1000000000000000000 ∧ qR x.1 x.2.1 x.2.2 = decP n) (fun x => x.2.1.toNat) (fun x => ([(0, .raw (.int .i64 x.2.1)), (3, .raw (.string x.2.2))], [])) 0 (19, n, ⟨#[]⟩) ⟨by simp only; omega, by simp only; omega, by simp [ByteArray.size], hn, rfl⟩ [] ?_ ?_
 · simp only [go_sem, Int.natCast_zero] <;> simp
 rintro ⟨f, m, out⟩ ⟨hm0, hmf, hsz, hmk, hd⟩
 simp only at hm0 hmf hsz hmk hd ⊢
 refine sq fun _ k8 => aj ?_
 refine cdS rfl (fun hc3 => ?_) fun hc3 => ?_
 · have hle : ¬ 9 < m := by simpa using hc3
   have hd0 : qR f m out = dchr m ++ out := by cases f with | zero => rfl | succ g => rw [qR, if_neg hle]
   rw [hd0] at hd
   have hds1 := hds m
   refine we (jt (k7 ?_))
   refine sr rfl fun _ k11 => ?_; simp only [go_sem, hd1]; refine jr ?_
   refine vC (fun hN => rP (n := IntKind.u8.wrap (IntKind.i64.wrap (48 + m))) rfl rfl hN FB.1 FB.2.1 FB.2.2 rfl rfl) (.inl rfl) ?_
   simp only [go_sem, hd1]
   refine jr (k11 (wR ?_))
   refine fO ?_ trivial; simp only [go_sem, hd]
 have hpos : 9 < m := by simpa using hc3
 obtain ⟨g, rfl⟩ : ∃ g, f = g + 1 := by
   cases f with
   | zero => simp at hmf; omega
   | succ g => exact ⟨g, rfl⟩
 have hq : m.tdiv 10 = m / 10 := Int.tdiv_eq_ediv_of_nonneg (by omega)
 have hwq : IntKind.i64.wrap (m.tdiv 10) = m.tdiv 10 := by rw [IntKind.wrap_i64, hq]; omega
 have hds1 := hds (m.tmod 10)
 have hstep : qR (g + 1) m out = qR g (m.tdiv 10) (dchr (m.tmod 10) ++ out) := by rw [qR, if_pos hpos]
 refine wk (k8 (wb (sr rfl fun _ k10 => ?_)))
 simp only [go_sem, hd1]; refine jr ?_
 refine vC (fun hN => rP (n := IntKind.u8.wrap (IntKind.i64.wrap (48 + m.tmod 10))) rfl rfl hN FB.1 FB.2.1 FB.2.2 rfl rfl) (.inl rfl) ?_
 simp only [go_sem, hd1]
 refine jr (k10 ?_)
 refine wg rfl ?_; simp only [go_sem, hwq]; refine jt ?_; refine jt ?_
 refine ⟨(g, m.tdiv 10, dchr (m.tmod 10) ++ out), ⟨by simp only; omega, by
   simp only
   rw [hq]
   have h9 : m < 10 ^ (g + 1) * 10 := by rw [← Int.pow_succ]; exact hmf
   omega, by simp only [ByteArray.size_append]; omega, by simp only; omega, by rw [← hd, hstep]⟩, by simp only; omega, [], ?_⟩
 simp only [go_sem] <;> simp
theorem w_spec_l9Dec_n (n : Int) (h0 : -1000000000000000000 < n) (hn : n < 0) : aB P 110 [.raw (.int .i64 n)] [] 0 (.raw (.string (dec n))) := by
 refine pq 31 [.tmp 2] Tryz.func110 ?_
 have hmx : maxLen = 9223372036854775807 := rfl
 have hw : IntKind.i64.wrap (-n) = -n := by rw [w64]; omega
 have hsz := yV 19 (-n) ⟨#[]⟩
 have hsz0 : (⟨#[]⟩ : ByteArray).size = 0 := rfl
 have hsz1 : (#[(45 : UInt8)] : Array UInt8).size = 1 := rfl
 have hszp : (decP (-n)).size ≤ 20 := hsz
 have h9 : dec n = ⟨#[45]⟩ ++ decP (-n) := by unfold dec; rw [if_pos hn]
 refine aj ?_
 refine sq fun _ k2 => aj ?_
 refine cd rfl (fun hc1 => ?_) fun hc1 => ?_
 · exfalso; simp at hc1; omega
 refine wk (k2 (sq fun _ k4 => (aj ?_)))
 refine cdS rfl (fun hc2 => ?_) fun hc2 => ?_
 · exfalso; simp at hc2; omega
 refine sr rfl fun _ k6 => ?_; simp only [go_sem, hw]
 refine vq Tryz.func110 (uP (-n) (by omega) (by omega)) ?_
 repeat (first | refine ⟨by omega, ?_⟩ | refine ⟨fun hg => by (try simp at hg); omega, ?_⟩)
 refine k6 (wR (fO ?_ trivial))
 simp only [go_sem, h9]
theorem lI (n : Int) (h0 : -1000000000000000000 < n) (hn : n < 1000000000000000000) : aB P 110 [.raw (.int .i64 n)] [] 0 (.raw (.string (dec n))) := by
  by_cases hneg : n < 0
  · exact w_spec_l9Dec_n n h0 hneg
  have h9 : dec n = decP n := by unfold dec; rw [if_neg hneg]
  rw [h9]
  exact uP n (by omega) hn
theorem eL {e : Entry} (h : bF e = true) : 1 ≤ e.seq ∧ e.seq ≤ 100000 ∧ 1 ≤ e.kind ∧ e.kind ≤ 3 ∧ -1000000 ≤ e.n ∧ e.n ≤ 1000000 ∧ e.text.size ≤ 60 ∧ e.key.size ≤ 8 := by
  unfold bF at h; split at h
  · cases h
  rename_i hb
  simp [iA, lX, iJ] at hb
  have hk : 1 ≤ e.kind ∧ e.kind ≤ 3 := by
    split at h
    · omega
    split at h
    · omega
    split at h
    · omega
    cases h
  omega
theorem cK {ls : List Entry} (h : isB ls = true) : (∀ e ∈ ls, bF e = true) ∧ 1 ≤ ls.length ∧ ls.length ≤ 12 := by
  simp [isB] at h
  refine ⟨fun e he => ?_, by omega, by omega⟩
  obtain ⟨i, hi⟩ := List.getElem?_of_mem he
  have := h.1 i (List.getElem?_eq_some_iff.1 hi).1
  unfold jD at this; rw [hi] at this; simp at this
  exact this.1
theorem frStep_size (out : ByteArray) (e : Entry) : (mL out e).size ≤ out.size + e.key.size + e.text.size + 89 := by
  have h1 := eM e.seq
  have h2 := eM e.kind
  have h3 := eM e.n
  have h4 := eM (e.text.size : Int)
  simp only [mL, ByteArray.size_append, bD]; omega
theorem qV : ∀ (ls : List Entry) (out : ByteArray), (∀ e ∈ ls, e.text.size ≤ 60 ∧ e.key.size ≤ 8) → (ls.foldl mL out).size ≤ out.size + 157 * ls.length
  | [], out, _ => by simp
  | e :: r, out, h => by
    have h1 := frStep_size out e
    have h2 := h e List.mem_cons_self
    have h3 := qV r (mL out e) fun x hx => h x (List.mem_cons_of_mem _ hx)
    simp only [List.foldl_cons, List.length_cons]; omega
def jL (s : ByteArray) : Nat → Int → List Entry → List Entry
  | 0, _, out => out
  | f + 1, a, out => if ((decide (0 ≤ a) && decide (a < (s.size : Int))) && decide ((out.length : Int) ≤ 12)) = true then jL s f (sZ s a.toNat).2 (out ++ [(sZ s a.toNat).1]) else out
def bodyS (s : ByteArray) : List Entry := jL s 14 0 []
theorem entS_le (s : ByteArray) (a : Nat) : -1 ≤ (sZ s a).2 ∧ (sZ s a).2 ≤ s.size := by
  unfold sZ; split
  · simp only; omega
  rename_i h
  have h1 := sS s (e4 s a).2
  have h2 : e5 s a = bA s (e4 s a).2 := rfl
  simp [vM] at h
  rw [h2] at h ⊢
  simp only
  omega
theorem entS_mx (s : ByteArray) (hs : s.size ≤ 1048576) (a : Nat) : (sZ s a).1.key.size ≤ 1048576 ∧ (sZ s a).1.text.size ≤ 1048576 := by
  unfold sZ; split
  · exact ⟨by decide, by decide⟩
  have h1 := wordS_size s a
  refine ⟨?_, ?_⟩
  · show (e1 s a).1.size ≤ _
    unfold e1; omega
  simp only [ByteArray.size_extract]; omega
theorem bodyGo_mx (s : ByteArray) (hs : s.size ≤ 1048576) : ∀ (f : Nat) (a : Int) (out : List Entry), (∀ e ∈ out, e.key.size ≤ 1048576 ∧ e.text.size ≤ 1048576) → out.length ≤ 13 → (∀ e ∈ jL s f a out, e.key.size ≤ 1048576 ∧ e.text.size ≤ 1048576) ∧ (jL s f a out).length ≤ 13
  | 0, a, out, h, hl => ⟨h, hl⟩
  | f + 1, a, out, h, hl => by
    unfold jL; split
    · rename_i hc
      simp at hc
      refine bodyGo_mx s hs f _ _ (fun e he => ?_) (by simp; omega)
      rcases List.mem_append.1 he with h1 | h1
      · exact h e h1
      rw [List.mem_singleton.1 h1]; exact entS_mx s hs _
    exact ⟨h, hl⟩
theorem bodyS_mx {s : ByteArray} (hs : s.size ≤ 1048576) : gD (bodyS s) := by
  have := bodyGo_mx s hs 14 0 [] (by simp) (by simp)
  exact ⟨by have := this.2; show (jL s 14 0 []).length ≤ _; omega, this.1⟩
def iI (s : ByteArray) (a : Nat) : Bool := (decide ((bA s (a : Int)).2 < 0) || decide ((bA s (a : Int)).1 < 0)) || decide ((s.size : Int) - (bA s (a : Int)).2 - 1 < (bA s (a : Int)).1)
def mT (s : ByteArray) (a : Nat) : List Entry := bodyS (s.extract (bA s (a : Int)).2.toNat ((bA s (a : Int)).2 + (bA s (a : Int)).1).toNat)
def aW (s : ByteArray) (a : Nat) : List Entry × Int := if iI s a = true then ([], -1) else
  if (!((fTx (mT s a)).toList == (s.extract a ((bA s (a : Int)).2 + (bA s (a : Int)).1 + 1).toNat).toList)) = true then ([], -1) else (mT s a, (bA s (a : Int)).2 + (bA s (a : Int)).1 + 1)
theorem wJ (s : ByteArray) (a : Nat) : -1 ≤ (aW s a).2 ∧ (aW s a).2 ≤ s.size := by
  unfold aW; split
  · simp only; omega
  rename_i h
  simp [iI] at h
  split
  · simp only; omega
  simp only; omega
def eY (s : ByteArray) : Nat → Nat → List (List Entry) → List (List Entry) × Int
  | 0, a, out => (out, a)
  | f + 1, a, out => if a < s.size then (if (aW s a).2 < 0 then (out, a) else eY s f (aW s a).2.toNat (out ++ [(aW s a).1])) else (out, a)
def dC (s : ByteArray) : List (List Entry) × Int := eY s s.size 0 []
theorem unNeg_size (s : ByteArray) : (jP s).size ≤ s.size := by
  unfold jP; split
  · rw [ByteArray.size_extract]; omega
  exact Nat.le_refl _
theorem numV_bad {s : ByteArray} (h : rT (jP s) (rC s) = true) : numV s = (0, false) := by
  have : numS s = none := by unfold numS; rw [if_pos h]
  unfold numV; rw [this]
theorem numV_go {s : ByteArray} (h : rT (jP s) (rC s) = false) : numV s = match iS (jP s) (jP s).size with
    | some n => (if rC s = true then -n else n, true)
    | none => (0, false) := by
  unfold numV numS; rw [h]; simp only [Bool.false_eq_true, if_false]
  cases iS (jP s) (jP s).size with
  | none => rfl
  | some n => rfl
theorem numV_eq (s : ByteArray) : (numV s).2 = false → numS s = none := by
  unfold numV; split
  · intro h; cases h
  intro _; assumption
theorem numV_some {s : ByteArray} (h : (numV s).2 = true) : numS s = some (numV s).1 := by
  unfold numV at h ⊢
  split
  · assumption
  rename_i hn; rw [hn] at h; cases h
theorem sA (ls : List Entry) (hz : dK ls) : aB P 64 [.sl 5 (ls.map enA)] [] 0 (.raw (.string (fTx ls))) := by
 refine pq 55 [.tmp 2] Tryz.func64 ?_
 have hlen := hz.1
 have hs32 : (#[(32 : UInt8)] : Array UInt8).size = 1 := rfl
 have hs10 : (#[(10 : UInt8)] : Array UInt8).size = 1 := rfl
 refine aj ?_
 refine sq fun _ k2 => sr rfl fun _ k3 => ja ?_
 refine vq Tryz.func109 (w_spec_l6Batch ls hz) (k3 ?_)
 refine cd rfl (fun hc1 => ?_) fun hc1 => ?_
 · have hb : isB ls = false := by simpa using hc1
   refine aj (wR ?_)
   refine fO ?_ trivial; simp only [go_sem, fTx, hb, Bool.false_eq_true, if_false]
 have hb : isB ls = true := by simpa using hc1
 obtain ⟨hok, hb1, hb2⟩ := cK hb
 refine wk (k2 (aj ?_))
 refine sq fun _ k6 => aj (wb ?_)
 refine wl (α := Nat × ByteArray) (fun x => x.1 ≤ ls.length ∧ x.2.size ≤ 157 * x.1 ∧ (ls.drop x.1).foldl mL x.2 = bTx ls) (fun x => ls.length - x.1) (fun x => ([(0, .sl 5 (ls.map enA)), (3, .raw (.string x.2)), (4, .raw (.int .i64 (x.1 : Int)))], [])) 0 (0, ⟨#[]⟩) ⟨Nat.zero_le _, Nat.le_refl _, rfl⟩ [] ?_ ?_
 · simp only [go_sem, Int.natCast_zero] <;> simp
 rintro ⟨i, out⟩ ⟨hi, hsz, hfold⟩
 simp only at hi hsz hfold ⊢
 refine sq fun _ k8 => aj ?_
 refine cdS rfl (fun hc2 => ?_) fun hc2 => ?_
 · have hge : ls.length ≤ i := Nat.not_lt.1 (by simpa using hc2)
   have hie : i = ls.length := by omega
   subst hie
   refine we (jt (k6 ?_))
   refine sr rfl fun _ k12 => ja ?_
   repeat (first | refine ⟨by omega, ?_⟩ | refine ⟨by simp only [ByteArray.size_append, bD, mC]; omega, ?_⟩)
   refine vq Tryz.func110 (lI (out.size : Int) (by omega) (by omega)) ?_
   have hd9 := eM (out.size : Int)
   repeat (first | refine ⟨by omega, ?_⟩ | refine ⟨by simp only [ByteArray.size_append, bD, mC]; omega, ?_⟩)
   refine k12 (wR ?_)
   rw [List.drop_length] at hfold
   have h9 : bTx ls = out := hfold.symm
   refine fO ?_ trivial; simp only [go_sem, fTx, hb, if_true, h9]
 have hlt : i < ls.length := (by simpa using hc2); obtain ⟨l, hl, hdrop, hml⟩ := ix hlt
 obtain ⟨r1, r2, r3, r4, r5, r6, r7, r8⟩ := eL (hok l hml)
 have hd0 := eM (l.seq)
 have hd1 := eM (l.kind)
 have hd2 := eM (l.n)
 have hd3 := eM ((l.text.size : Int))
 refine wk (k8 (sq fun _ k10 => (wb (sr rfl fun _ k11 => ?_))))
 simp only [go_sem, hl, enA]
 repeat (first | refine ⟨by omega, ?_⟩ | refine ⟨fun hg => by (try simp at hg); omega, ?_⟩ | refine ⟨fun hg => by push_cast at hg; omega, ?_⟩)
 apply k11
 refine nS mixed rfl ?_
 simp only [go_sem, hl, enA]
 repeat (first | refine ⟨by omega, ?_⟩ | refine ⟨by simp only [ByteArray.size_append, bD, mC]; omega, ?_⟩)
 refine tp rfl rfl rfl ⟨Tryz.func110, rfl, rfl⟩ (lI l.seq (by omega) (by omega)) (by simp only [go_sem]) (by simp only [go_sem]) ?_
 simp only [go_sem, hl, enA]
 repeat (first | refine ⟨by omega, ?_⟩ | refine ⟨by simp only [ByteArray.size_append, bD, mC]; omega, ?_⟩)
 refine tp rfl rfl rfl ⟨Tryz.func110, rfl, rfl⟩ (lI l.kind (by omega) (by omega)) (by simp only [go_sem]) (by simp only [go_sem]) ?_
 simp only [go_sem, hl, enA]
 repeat (first | refine ⟨by omega, ?_⟩ | refine ⟨by simp only [ByteArray.size_append, bD, mC]; omega, ?_⟩)
 refine tp rfl rfl rfl ⟨Tryz.func110, rfl, rfl⟩ (lI l.n (by omega) (by omega)) (by simp only [go_sem]) (by simp only [go_sem]) ?_
 simp only [go_sem, hl, enA]
 repeat (first | refine ⟨by omega, ?_⟩ | refine ⟨by simp only [ByteArray.size_append, bD, mC]; omega, ?_⟩)
 refine tp rfl rfl rfl ⟨Tryz.func110, rfl, rfl⟩ (lI (l.text.size : Int) (by omega) (by omega)) (by simp only [go_sem]) (by simp only [go_sem]) ?_
 simp only [go_sem, hl, enA]
 repeat (first | refine ⟨by omega, ?_⟩ | refine ⟨by simp only [ByteArray.size_append, bD, mC]; omega, ?_⟩)
 refine ⟨by rfl, ?_⟩
 refine jt (k10 ?_)
 refine jw (wiS i (by omega)) ?_
 refine jt ?_
 refine ⟨(i + 1, mL out l), ⟨by omega, by have := frStep_size out l; simp only; omega, by rw [hdrop] at hfold; exact hfold⟩, by omega, [], ?_⟩
 simp only [go_sem, mL] <;> simp
theorem xO (s : ByteArray) (a : Nat) (ha : a ≤ s.size) (hs : s.size ≤ 1048576) : aB P 219 [.raw (.string s), .raw (.int .i64 (a : Int))] [] 0 (.tup [.raw (.string (iF s a).1), .raw (.int .i64 (iF s a).2)]) := by
 refine pq 24 [.tmp 4, .tmp 5] Tryz.func219 ?_
 refine aj ?_
 refine sq fun _ k2 => aj (wb ?_)
 refine wl (α := Nat) (fun x => a ≤ x ∧ x ≤ s.size ∧ spGo s (s.size - x) x = spGo s (s.size - a) a) (fun x => s.size - x) (fun x => ([(0, .raw (.string s)), (1, .raw (.int .i64 (a : Int))), (6, .raw (.int .i64 (x : Int)))], [])) 0 a ⟨Nat.le_refl _, ha, rfl⟩ [] ?_ ?_
 · simp only [go_sem] <;> simp
 rintro i ⟨hai, hi, hgo⟩
 refine sq fun _ k4 => aj ?_
 refine cdS rfl (fun hc1 => ?_) fun hc1 => ?_
 · have hge : i = s.size := by have h9 : ¬ i < s.size := (by simpa using hc1); omega
   subst hge; rw [Nat.sub_self] at hgo
   have hno : spGo s (s.size - a) a = none := hgo.symm
   refine we (jt (k2 ?_))
   refine aj (wR ?_)
   have h9 : iF s a = (⟨#[]⟩, -1) := by unfold iF; rw [hno]
   refine fO ?_ ⟨trivial, trivial, trivial⟩
   simp only [go_sem, h9]
 have hlt : i < s.size := by simpa using hc1
 have hst : spGo s (s.size - i) i = if aE s i = 32 then some i else spGo s (s.size - (i + 1)) (i + 1) := by
   have e9 : s.size - i = (s.size - (i + 1)) + 1 := by omega
   rw [e9]; rfl
 refine wk (k4 (sq fun _ k6 => (wb (sr rfl fun _ k7 => (ja ?_)))))
 repeat (first | refine ⟨by omega, ?_⟩ | refine ⟨fun hg => by (try simp at hg); omega, ?_⟩ | refine ⟨fun hg => by push_cast at hg; omega, ?_⟩)
 apply k7
 refine cd rfl (fun hc2 => ?_) fun hc2 => ?_
 · have h32 : aE s i = 32 := by simpa using hc2
   have hyes : spGo s (s.size - a) a = some i := by rw [← hgo, hst, if_pos h32]
   have hw5 : IntKind.i64.wrap ((i : Int) + 1) = (i : Int) + 1 := by rw [w64]; omega
   refine sr rfl fun _ k8 => ?_; simp only [go_sem, hw5, Int.toNat_natCast]
   repeat (first | refine ⟨by omega, ?_⟩ | refine ⟨fun hg => by (try simp at hg); omega, ?_⟩ | refine ⟨fun hg => by push_cast at hg; omega, ?_⟩)
   refine k8 (wR ?_)
   simp only [go_sem, lQ]
   have h9 : iF s a = (s.extract a i, (i : Int) + 1) := by unfold iF; rw [hyes]
   refine fO ?_ ⟨trivial, trivial, trivial⟩
   simp only [go_sem, h9]
 have h32 : ¬ aE s i = 32 := by simpa using hc2
 refine wk (jt (k6 ?_))
 refine jw (wiS i (by omega)) ?_
 refine jt ?_
 refine ⟨i + 1, ⟨by omega, by omega, by rw [← hgo, hst, if_neg h32]⟩, by omega, [], ?_⟩
 simp only [go_sem] <;> simp
theorem w_spec_l9Num (s : ByteArray) (hs : s.size ≤ 1048576) : aB P 220 [.raw (.string s)] [] 0 (.tup [.raw (.int .i64 (numV s).1), .raw (.bool (numV s).2)]) := by
 refine pq 67 [.tmp 2, .tmp 3] Tryz.func220 ?_
 refine aj ?_; refine sr rfl fun _ k2 => ?_; simp only [go_sem, tn0]
 repeat (first | refine ⟨by omega, ?_⟩ | refine ⟨fun hg => by (try simp at hg); omega, ?_⟩ | refine ⟨fun hg => by push_cast at hg; omega, ?_⟩)
 refine k2 (sq fun _ k3 => (aj ?_))
 refine cdS rfl (fun hc1 => ?_) fun hc1 => ?_
 · have hn : rC s = false := hc1
   refine wk (k3 (sq fun _ k20 => ?_))
   obtain ⟨t, ht, ht2⟩ : ∃ t, t = jP s ∧ (if rC s = true then s.extract 1 s.size else s) = t := ⟨_, rfl, rfl⟩
   have htz : t.size ≤ 1048576 := by have := unNeg_size s; rw [← ht] at this; omega
   rw [hn] at ht2
   simp only [if_true, Bool.false_eq_true, if_false] at ht2
   simp only [hc1]; rw [ht2]; refine sr rfl fun _ k21 => ?_; simp only [go_sem, tn0]
   repeat (first | refine ⟨by omega, ?_⟩ | refine ⟨fun hg => by (try simp at hg); omega, ?_⟩ | refine ⟨fun hg => by push_cast at hg; omega, ?_⟩)
   apply k21
   refine cd rfl (fun hc6 => ?_) fun hc6 => ?_
   · have hz := numV_bad (s := s) (by rw [← ht, hn]; simpa [rT] using hc6)
     refine aj (wR ?_)
     refine fO ?_ ⟨trivial, trivial, trivial⟩
     simp only [go_sem, ← ht2, hz]
   have hgo := numV_go (s := s) (by rw [← ht, hn]; simpa [rT] using hc6)
   rw [← ht] at hgo
   have h17 : t.size ≤ 17 := by simp at hc6; omega
   refine wk (k20 (aj ?_))
   refine sq fun _ k24 => aj (wb ?_)
   refine wl (α := Nat × Int) (fun x => x.1 ≤ t.size ∧ iS t x.1 = some x.2) (fun x => t.size - x.1) (fun x => ([(0, .raw (.string t)), (4, .raw (.bool false)), (5, .raw (.int .i64 x.2)), (6, .raw (.int .i64 (x.1 : Int)))], [])) 0 (0, 0) ⟨Nat.zero_le _, rfl⟩ [] ?_ ?_
   · simp only [go_sem, Int.natCast_zero] <;> simp
   rintro ⟨i, n⟩ ⟨hi, hnum⟩
   simp only at hi hnum ⊢
   refine sq fun _ k26 => aj ?_
   refine cdS rfl (fun hc7 => ?_) fun hc7 => ?_
   · have hie : i = t.size := by have h9 : ¬ i < t.size := (by simpa using hc7); omega
     subst hie
     obtain ⟨hr0, hr1⟩ := jY t t.size n hnum
     have hr2 : (10 : Int) ^ t.size ≤ 10 ^ 17 := by have : (10 : Nat) ^ t.size ≤ 10 ^ 17 := Nat.pow_le_pow_right (by omega) (by omega)
                                                    exact_mod_cast this
     have hr3 : (10 : Int) ^ 17 = 100000000000000000 := rfl
     rw [hnum, hn] at hgo
     refine we (jt (k24 ?_))
     refine sq fun _ k32 => aj ?_
     refine cd rfl (fun hc => by simp at hc) fun hc9 => ?_
     refine wk (k32 (aj (wR ?_)))
     refine fO ?_ ⟨trivial, trivial, trivial⟩
     simp only [go_sem, ← ht2, hgo, if_true, Bool.false_eq_true, if_false]
   have hlt : i < t.size := by simpa using hc7
   obtain ⟨hr0, hr1⟩ := jY t i n hnum
   have hr2 : (10 : Int) ^ i ≤ 10 ^ 17 := by have : (10 : Nat) ^ i ≤ 10 ^ 17 := Nat.pow_le_pow_right (by omega) (by omega)
                                             exact_mod_cast this
   have hr3 : (10 : Int) ^ 17 = 100000000000000000 := rfl
   have hbr := lU t i
   refine wk (k26 (sq fun _ k28 => (wb (sq fun _ k29 => (sr rfl fun _ k30 => (ja ?_))))))
   repeat (first | refine ⟨by omega, ?_⟩ | refine ⟨fun hg => by (try simp at hg); omega, ?_⟩ | refine ⟨fun hg => by push_cast at hg; omega, ?_⟩)
   apply k30
   refine cd rfl (fun hc8 => ?_) fun hc8 => ?_
   · have hno : iS t (i + 1) = none := by rw [iS, hnum]; simp only []; rw [if_pos hc8]
     rw [numGo_no hno t.size (by omega)] at hgo
     refine aj (wR ?_)
     simp only [go_sem, lQ]
     refine fO ?_ ⟨trivial, trivial, trivial⟩
     simp only [go_sem, ← ht2, hgo]
   have hst : iS t (i + 1) = some (n * 10 + (aE t i - 48)) := by rw [iS, hnum]; simp only []; rw [if_neg (by rw [hc8]; simp)]
   have hd48 : 48 ≤ aE t i ∧ aE t i ≤ 57 := by simp at hc8; omega
   have hw1 : IntKind.i64.wrap (n * 10) = n * 10 := by rw [w64]; omega
   have hw2 : IntKind.u8.wrap (aE t i - 48) = aE t i - 48 := by rw [IntKind.wrap_u8]; omega
   have hw3 : IntKind.i64.wrap (aE t i - 48) = aE t i - 48 := by rw [w64]; omega
   have hw4 : IntKind.i64.wrap (n * 10 + (aE t i - 48)) = n * 10 + (aE t i - 48) := by rw [w64]; omega
   refine wk (k29 ?_)
   refine wg rfl ?_; simp only [go_sem, hw1, hw2, hw3, hw4]
   repeat (first | refine ⟨by omega, ?_⟩ | refine ⟨fun hg => by (try simp at hg); omega, ?_⟩ | refine ⟨fun hg => by push_cast at hg; omega, ?_⟩)
   refine jt (k28 ?_)
   refine jw (wiS i (by omega)) ?_
   refine jt ?_
   refine ⟨(i + 1, n * 10 + (aE t i - 48)), ⟨by omega, hst⟩, by omega, [], ?_⟩
   simp only [go_sem] <;> simp
 have hn : rC s = true := hc1
 have hp1 : 1 ≤ s.size := by simp only [Bool.and_eq_true, decide_eq_true_eq] at hc1; omega
 refine wg rfl ?_; simp only [go_sem, tn1, Int.toNat_natCast]
 repeat (first | refine ⟨by omega, ?_⟩ | refine ⟨fun hg => by (try simp at hg); omega, ?_⟩ | refine ⟨fun hg => by push_cast at hg; omega, ?_⟩)
 refine k3 (sq fun _ k5 => ?_)
 obtain ⟨t, ht, ht2⟩ : ∃ t, t = jP s ∧ (if rC s = true then s.extract 1 s.size else s) = t := ⟨_, rfl, rfl⟩
 have htz : t.size ≤ 1048576 := by have := unNeg_size s; rw [← ht] at this; omega
 rw [hn] at ht2
 simp only [if_true, Bool.false_eq_true, if_false] at ht2
 simp only [hc1]; rw [ht2]; refine sr rfl fun _ k6 => ?_; simp only [go_sem, tn0]
 repeat (first | refine ⟨by omega, ?_⟩ | refine ⟨fun hg => by (try simp at hg); omega, ?_⟩ | refine ⟨fun hg => by push_cast at hg; omega, ?_⟩)
 apply k6
 refine cd rfl (fun hc2 => ?_) fun hc2 => ?_
 · have hz := numV_bad (s := s) (by rw [← ht, hn]; simpa [rT] using hc2)
   refine aj (wR ?_)
   refine fO ?_ ⟨trivial, trivial, trivial⟩
   simp only [go_sem, hz]
 have hgo := numV_go (s := s) (by rw [← ht, hn]; simpa [rT] using hc2)
 rw [← ht] at hgo
 have h17 : t.size ≤ 17 := by simp at hc2; omega
 refine wk (k5 (aj ?_))
 refine sq fun _ k9 => aj (wb ?_)
 refine wl (α := Nat × Int) (fun x => x.1 ≤ t.size ∧ iS t x.1 = some x.2) (fun x => t.size - x.1) (fun x => ([(0, .raw (.string t)), (4, .raw (.bool true)), (5, .raw (.int .i64 x.2)), (6, .raw (.int .i64 (x.1 : Int)))], [])) 0 (0, 0) ⟨Nat.zero_le _, rfl⟩ [] ?_ ?_
 · simp only [go_sem, Int.natCast_zero] <;> simp
 rintro ⟨i, n⟩ ⟨hi, hnum⟩
 simp only at hi hnum ⊢
 refine sq fun _ k11 => aj ?_
 refine cdS rfl (fun hc3 => ?_) fun hc3 => ?_
 · have hie : i = t.size := by have h9 : ¬ i < t.size := (by simpa using hc3); omega
   subst hie
   obtain ⟨hr0, hr1⟩ := jY t t.size n hnum
   have hr2 : (10 : Int) ^ t.size ≤ 10 ^ 17 := by have : (10 : Nat) ^ t.size ≤ 10 ^ 17 := Nat.pow_le_pow_right (by omega) (by omega)
                                                  exact_mod_cast this
   have hr3 : (10 : Int) ^ 17 = 100000000000000000 := rfl
   rw [hnum, hn] at hgo
   refine we (jt (k9 ?_))
   refine sq fun _ k17 => aj ?_
   refine cd rfl (fun hc5 => ?_) (fun hc => by simp at hc)
   have hw5 : IntKind.i64.wrap (-n) = -n := by rw [w64]; omega
   refine wg rfl ?_; simp only [go_sem, hw5]
   refine k17 (aj (wR ?_))
   refine fO ?_ ⟨trivial, trivial, trivial⟩
   simp only [go_sem, hgo, if_true, Bool.false_eq_true, if_false]
 have hlt : i < t.size := by simpa using hc3
 obtain ⟨hr0, hr1⟩ := jY t i n hnum
 have hr2 : (10 : Int) ^ i ≤ 10 ^ 17 := by have : (10 : Nat) ^ i ≤ 10 ^ 17 := Nat.pow_le_pow_right (by omega) (by omega)
                                           exact_mod_cast this
 have hr3 : (10 : Int) ^ 17 = 100000000000000000 := rfl
 have hbr := lU t i
 refine wk (k11 (sq fun _ k13 => (wb (sq fun _ k14 => (sr rfl fun _ k15 => (ja ?_))))))
 repeat (first | refine ⟨by omega, ?_⟩ | refine ⟨fun hg => by (try simp at hg); omega, ?_⟩ | refine ⟨fun hg => by push_cast at hg; omega, ?_⟩)
 apply k15
 refine cd rfl (fun hc4 => ?_) fun hc4 => ?_
 · have hno : iS t (i + 1) = none := by rw [iS, hnum]; simp only []; rw [if_pos hc4]
   rw [numGo_no hno t.size (by omega)] at hgo
   refine aj (wR ?_)
   simp only [go_sem, lQ]
   refine fO ?_ ⟨trivial, trivial, trivial⟩
   simp only [go_sem, hgo]
 have hst : iS t (i + 1) = some (n * 10 + (aE t i - 48)) := by rw [iS, hnum]; simp only []; rw [if_neg (by rw [hc4]; simp)]
 have hd48 : 48 ≤ aE t i ∧ aE t i ≤ 57 := by simp at hc4; omega
 have hw1 : IntKind.i64.wrap (n * 10) = n * 10 := by rw [w64]; omega
 have hw2 : IntKind.u8.wrap (aE t i - 48) = aE t i - 48 := by rw [IntKind.wrap_u8]; omega
 have hw3 : IntKind.i64.wrap (aE t i - 48) = aE t i - 48 := by rw [w64]; omega
 have hw4 : IntKind.i64.wrap (n * 10 + (aE t i - 48)) = n * 10 + (aE t i - 48) := by rw [w64]; omega
 refine wk (k14 ?_)
 refine wg rfl ?_; simp only [go_sem, hw1, hw2, hw3, hw4]
 repeat (first | refine ⟨by omega, ?_⟩ | refine ⟨fun hg => by (try simp at hg); omega, ?_⟩ | refine ⟨fun hg => by push_cast at hg; omega, ?_⟩)
 refine jt (k13 ?_)
 refine jw (wiS i (by omega)) ?_
 refine jt ?_
 refine ⟨(i + 1, n * 10 + (aE t i - 48)), ⟨by omega, hst⟩, by omega, [], ?_⟩
 simp only [go_sem] <;> simp
theorem lZ (s : ByteArray) (a : Int) (h0 : -1 ≤ a) (ha : a ≤ s.size) (hs : s.size ≤ 1048576) : aB P 197 [.raw (.string s), .raw (.int .i64 a)] [] 0 (.tup [.raw (.int .i64 (bA s a).1), .raw (.int .i64 (bA s a).2)]) := by
 refine pq 27 [.tmp 4, .tmp 5] Tryz.func197 ?_
 refine aj ?_
 refine sq fun _ k2 => aj ?_
 refine cd rfl (fun hc1 => ?_) fun hc1 => ?_
 · have hn : a < 0 := by simpa using hc1
   have h9 : bA s a = (0, -1) := by unfold bA; rw [if_pos hn]
   refine aj (wR ?_)
   refine fO ?_ ⟨trivial, trivial, trivial⟩
   simp only [go_sem, h9]
 have hn : ¬ a < 0 := by simpa using hc1
 have hto : ((a.toNat : Nat) : Int) = a := by omega
 refine wk (k2 (sr rfl fun _ k5 => (ja ?_)))
 refine vr rfl rfl rfl Tryz.func219 (xO s a.toNat (by omega) hs) (by simp only [go_sem, hto]) (by simp only [go_sem]) (k5 ?_)
 refine sr rfl fun _ k6 => ja ?_
 refine vq Tryz.func220 (w_spec_l9Num (iF s a.toNat).1 (by have := wordS_size s a.toNat; omega)) (k6 ?_)
 refine sq fun _ k7 => aj ?_
 refine cd rfl (fun hc2 => ?_) fun hc2 => ?_
 · have hv := numV_eq (iF s a.toNat).1 (by simpa using hc2)
   have h9 : bA s a = (0, -1) := by unfold bA; rw [if_neg hn, hv]
   refine aj (wR ?_)
   refine fO ?_ ⟨trivial, trivial, trivial⟩
   simp only [go_sem, h9]
 have hv := numV_some (s := (iF s a.toNat).1) (by simpa using hc2)
 have h9 : bA s a = ((numV (iF s a.toNat).1).1, (iF s a.toNat).2) := by unfold bA; rw [if_neg hn, hv]
 refine wk (k7 (aj (wR ?_)))
 refine fO ?_ ⟨trivial, trivial, trivial⟩
 simp only [go_sem, h9]
theorem numAt_gt (s : ByteArray) (a : Nat) (h : 0 ≤ (bA s (a : Int)).2) : (a : Int) < (bA s (a : Int)).2 := by
  unfold bA at h ⊢
  have ha : ¬ (a : Int) < 0 := by omega
  rw [if_neg ha] at h ⊢
  rw [Int.toNat_natCast] at h ⊢
  split
  · rename_i n hn
    rw [hn] at h
    simp only at h ⊢
    unfold iF at h ⊢
    split
    · rename_i i hi
      have := spGo_lt s _ _ _ hi
      simp only
      omega
    rename_i hi
    rw [hi] at h; simp at h
  rename_i hn
  rw [hn] at h; simp at h
theorem rX (s : ByteArray) (a : Nat) (h : 0 ≤ (aW s a).2) : (a : Int) < (aW s a).2 := by
  unfold aW at h ⊢
  split
  · rename_i hb; rw [if_pos hb] at h; simp at h
  rename_i hb
  rw [if_neg hb] at h; split
  · rename_i hc; rw [if_pos hc] at h; simp at h
  simp [iI] at hb
  have := numAt_gt s a (by omega)
  simp only
  omega
theorem sEnts_mx {ls : List Entry} (h : gD ls) : dK ls := ⟨by have := h.1; omega, fun e he => ⟨by have := (h.2 e he).1; omega, by have := (h.2 e he).2; omega⟩⟩
def gV (seq : Int) (st : List Entry × Int) (e : Entry) : List Entry × Int := if seq < e.seq then (jF st.1 e, max st.2 e.seq) else st
def jN (seq : Int) (st : List Entry × Int) (b : List Entry) : List Entry × Int := b.foldl (gV seq) st
def tA (bs : List (List Entry)) (seq : Int) : List Entry × Int := bs.foldl (jN seq) ([], seq)
theorem putEnt_len (ls : List Entry) (e : Entry) : (jF ls e).length = ls.length + 1 := by
  have := posGo_le ls e ls.length
  unfold jF yK; simp only [List.length_append, List.length_take, List.length_cons, List.length_drop]; omega
def iO (b : List Entry) : Entry := (b[b.length - 1]?).getD lD
def bZ (seq : Int) (out : ByteArray) (b : List Entry) : ByteArray := if seq < (iO b).seq then out ++ fTx b else out
def qY (bs : List (List Entry)) (seq : Int) : ByteArray := bs.foldl (bZ seq) ⟨#[]⟩
theorem yF (b : List Entry) : (fTx b).size ≤ 2000 := by
  unfold fTx; split
  · rename_i hb
    obtain ⟨hok, h1, h2⟩ := cK hb
    have h3 := qV b ⟨#[]⟩ fun e he => by
      have := eL (hok e he)
      omega
    have h4 := eM ((bTx b).size : Int)
    have h5 : (⟨#[]⟩ : ByteArray).size = 0 := rfl
    have h6 : (bTx b).size ≤ (⟨#[]⟩ : ByteArray).size + 157 * b.length := h3
    simp only [ByteArray.size_append, bD, mC]; omega
  exact Nat.zero_le _
theorem w_spec_l6Entry (s : ByteArray) (a : Nat) (ha : a ≤ s.size) (hs : s.size ≤ 1048576) : aB P 221 [.raw (.string s), .raw (.int .i64 (a : Int))] [] 0 (.tup [enA (sZ s a).1, .raw (.int .i64 (sZ s a).2)]) := by
 refine pq 69 [.cell 4 65, .tmp 5] Tryz.func221 ?_
 refine aj ?_; refine aj ?_; refine aj ?_
 refine sr rfl fun _ k4 => ja ?_
 refine vq Tryz.func219 (xO s a ha hs) ?_
 have b1 := wordS_le s a
 generalize hq1 : iF s a = q1 at b1 ⊢
 refine k4 (sr rfl fun _ k5 => (ja ?_))
 refine vq Tryz.func197 (lZ s q1.2 b1.1 b1.2 hs) ?_
 have b2 := sS s q1.2
 have c2 := nJ s q1.2
 generalize hq2 : bA s q1.2 = q2 at b2 c2 ⊢
 refine k5 (sr rfl fun _ k6 => (ja ?_))
 refine vq Tryz.func197 (lZ s q2.2 b2.1 b2.2 hs) ?_
 have b3 := sS s q2.2
 have c3 := nJ s q2.2
 generalize hq3 : bA s q2.2 = q3 at b3 c3 ⊢
 refine k6 (sr rfl fun _ k7 => (ja ?_))
 refine vq Tryz.func197 (lZ s q3.2 b3.1 b3.2 hs) ?_
 have b4 := sS s q3.2
 have c4 := nJ s q3.2
 generalize hq4 : bA s q3.2 = q4 at b4 c4 ⊢
 refine k7 (sr rfl fun _ k8 => (ja ?_))
 refine vq Tryz.func197 (lZ s q4.2 b4.1 b4.2 hs) ?_
 have b5 := sS s q4.2
 have c5 := nJ s q4.2
 generalize hq5 : bA s q4.2 = q5 at b5 c5 ⊢
 refine k8 (sq fun _ k9 => ?_)
 have hw1 : IntKind.i64.wrap ((s.size : Int) - q5.2) = (s.size : Int) - q5.2 := by rw [w64]; omega
 refine sr rfl fun _ k10 => ?_; simp only [go_sem, hw1]; apply k10
 refine cd rfl (fun hc1 => ?_) fun hc1 => ?_
 · have h9 : sZ s a = (gF, -1) := by subst hq5; subst hq4; subst hq3; subst hq2; subst hq1; unfold sZ; exact if_pos hc1
   refine aj (wR ?_)
   refine fO ?_ ⟨eN _ _, trivial, trivial⟩
   simp only [go_sem, h9, enA, gF]
 simp only [Bool.or_eq_false_iff, decide_eq_false_iff_not] at hc1
 have hw2 : IntKind.i64.wrap (q5.2 + q5.1) = q5.2 + q5.1 := by rw [w64]; omega
 have h9 : sZ s a = (⟨q1.1, q2.1, q3.1, s.extract q5.2.toNat (q5.2 + q5.1).toNat, q4.1⟩, q5.2 + q5.1) := by
   subst hq5; subst hq4; subst hq3; subst hq2; subst hq1; unfold sZ
   exact if_neg (by unfold vM e5 e4 e3 e2 e1; simp only [Bool.or_eq_true, decide_eq_true_eq]; omega)
 refine wk (k9 (sr rfl fun _ k12 => ?_))
 simp only [go_sem, hw2]
 refine jr (k12 ?_)
 refine sr rfl fun _ k13 => ?_; simp only [go_sem, hw2]
 refine k13 (wR ?_)
 refine fO ?_ ⟨eN _ _, trivial, trivial⟩
 simp only [go_sem, h9, enA]
theorem w_spec_l6Body_o (s : ByteArray) (hs : s.size ≤ 1048576) : aD P 198 [.raw (.string s)] [] 0 (.ref 0) [(0, .row 65 5 ((bodyS s).map enA))] 1 := by
 refine gq 32 [.tmp 2] Tryz.func198 ?_
 have hmx : maxLen = 9223372036854775807 := rfl
 refine aj ?_
 refine sr rfl fun _ k2 => ja ?_
 refine jr (k2 ?_)
 refine aj ?_
 refine sq fun _ k4 => wb ?_
 refine wl (α := Nat × Int × List Entry) (fun x => x.2.2.length + x.1 = 14 ∧ -1 ≤ x.2.1 ∧ x.2.1 ≤ s.size ∧ jL s x.1 x.2.1 x.2.2 = bodyS s) (fun x => x.1) (fun x => ([(0, .raw (.string s)), (3, .ref 0), (4, .raw (.int .i64 x.2.1))], [(0, .row 65 5 (x.2.2.map enA))])) 1 (14, 0, []) ⟨rfl, by simp only; omega, by simp only; omega, rfl⟩ [] ?_ ?_
 · simp only [go_sem, AObj.bel, List.map_nil] <;> simp
 rintro ⟨f, a, out⟩ ⟨hlf, ha0, ha1, hgo⟩
 simp only at hlf ha0 ha1 hgo ⊢
 refine sq fun _ k5 => aj ?_
 refine cdS rfl (fun hc1 => ?_) fun hc1 => ?_
 · have hend : jL s f a out = out := by cases f with | zero => rfl | succ g => rw [jL, hc1, if_neg (by simp)]
   rw [hend] at hgo
   refine we (jt (k4 ?_))
   refine aj (wR ?_)
   rw [← hgo]
   refine ⟨[(0, 0)], ?_⟩
   simp only [go_sem, AObj.bel, AObj.ren, AV.ren, aA, sg] <;> simp
 obtain ⟨g, rfl⟩ : ∃ g, f = g + 1 := ⟨f - 1, by simp only [Bool.and_eq_true, decide_eq_true_eq] at hc1; omega⟩
 have hto : ((a.toNat : Nat) : Int) = a := by simp only [Bool.and_eq_true, decide_eq_true_eq] at hc1; omega
 have hlt : a < s.size := by simp only [Bool.and_eq_true, decide_eq_true_eq] at hc1; omega
 refine wk (k5 (wb (aj ?_)))
 refine sr rfl fun _ k8 => ja ?_
 refine vs rfl rfl rfl Tryz.func221 (w_spec_l6Entry s a.toNat (by omega) hs) (by simp only [go_sem, hto]) (by simp only [go_sem, enA]) ?_
 simp only [go_sem, enA]
 have b1 := entS_le s a.toNat
 have hst : jL s (g + 1) a out = jL s g (sZ s a.toNat).2 (out ++ [(sZ s a.toNat).1]) := by rw [jL, if_pos hc1]
 rw [hst] at hgo
 generalize hq1 : sZ s a.toNat = q1 at b1 hgo ⊢
 apply k8; refine wg rfl ?_; simp only [go_sem, List.length_take, List.length_append, List.nil_append, List.length_map, List.length_drop, enA]; refine jr ?_; refine jt ?_; refine jt ?_
 refine ⟨(g, q1.2, out ++ [q1.1]), ⟨by simp; omega, b1.1, b1.2, hgo⟩, by simp only; omega, [(0, 3)], ?_⟩
 simp only [go_sem, AObj.bel, AObj.ren, AV.ren, aA, sg, enA] <;> simp [enA]
theorem w_spec_l6Frame (s : ByteArray) (a : Nat) (ha : a ≤ s.size) (hs : s.size ≤ 1048576) : aB P 156 [.raw (.string s), .raw (.int .i64 (a : Int))] [] 0 (.tup [.sl 5 ((aW s a).1.map enA), .raw (.int .i64 (aW s a).2)]) := by
 refine pq 54 [.tmp 4, .tmp 5] Tryz.func156 ?_
 have hmx : maxLen = 9223372036854775807 := rfl
 refine aj ?_
 refine sr rfl fun _ k2 => ja ?_
 refine vq Tryz.func197 (lZ s (a : Int) (by omega) (by omega) hs) ?_
 have b1 := sS s (a : Int)
 have c1 := nJ s (a : Int)
 have g1 := numAt_gt s a
 generalize hq1 : bA s (a : Int) = q1 at b1 c1 g1 ⊢
 refine k2 (sq fun _ k3 => ?_)
 have hw1 : IntKind.i64.wrap ((s.size : Int) - q1.2) = (s.size : Int) - q1.2 := by rw [w64]; omega
 have hw2 : IntKind.i64.wrap ((s.size : Int) - q1.2 - 1) = (s.size : Int) - q1.2 - 1 := by rw [w64]; omega
 refine sr rfl fun _ k4 => ?_; simp only [go_sem, hw1, hw2]; apply k4
 refine cd rfl (fun hc1 => ?_) fun hc1 => ?_
 · have h9 : aW s a = ([], -1) := by subst hq1; unfold aW; exact if_pos hc1
   refine sr rfl fun _ k5 => ja ?_
   refine jr (k5 ?_)
   refine aFz 0 rfl ?_
   simp only [go_sem, fzL, AV.fz]; refine wR ?_
   refine fO ?_ ⟨enB _ _, trivial, trivial⟩
   simp only [go_sem, h9, List.map_nil]
 have hb : iI s a = false := by subst hq1; exact hc1
 simp only [Bool.or_eq_false_iff, decide_eq_false_iff_not] at hc1
 have g2 := g1 (by omega)
 have hw3 : IntKind.i64.wrap (q1.2 + q1.1) = q1.2 + q1.1 := by rw [w64]; omega
 have hw4 : IntKind.i64.wrap (q1.2 + q1.1 + 1) = q1.2 + q1.1 + 1 := by rw [w64]; omega
 have hf : aW s a = if (!((fTx (mT s a)).toList == (s.extract a (q1.2 + q1.1 + 1).toNat).toList)) = true then ([], -1) else (mT s a, q1.2 + q1.1 + 1) := by
   unfold aW; rw [hb, hq1]; simp only [Bool.false_eq_true, if_false]
 refine wk (k3 (sr rfl fun _ k6 => ?_))
 simp only [go_sem, hw3]; refine jr ?_
 refine vq Tryz.func198 ((bX (w_spec_l6Body_o (s.extract q1.2.toNat (q1.2 + q1.1).toNat) (by rw [ByteArray.size_extract]; omega)) (by simp only [go_sem]) (by simp only [go_sem]) : aB P 198 [.raw (.string (s.extract q1.2.toNat (q1.2 + q1.1).toNat))] [] 0 (.sl 5 ((bodyS (s.extract q1.2.toNat (q1.2 + q1.1).toNat)).map enA)))) ?_
 have hsm := bodyS_mx (s := s.extract q1.2.toNat (q1.2 + q1.1).toNat) (by rw [ByteArray.size_extract]; omega)
 have hfb : mT s a = bodyS (s.extract q1.2.toNat (q1.2 + q1.1).toNat) := by unfold mT; rw [hq1]
 rw [← hfb] at hsm ⊢
 refine k6 (sq fun _ k7 => (sd mixed rfl fun _ k8 => ?_))
 simp only [go_sem, hw3, hw4]; refine jr ?_
 refine tp rfl rfl rfl ⟨Tryz.func64, rfl, rfl⟩ (sA (mT s a) (sEnts_mx hsm)) (by simp only [go_sem]) (by simp only [go_sem]) ?_
 simp only [go_sem, hw3, hw4]; refine jr ?_; refine ⟨by rfl, ?_⟩; apply k8
 refine cd rfl (fun hc2 => ?_) fun hc2 => ?_
 · have h9 : aW s a = ([], -1) := by rw [hf, if_pos (by simpa using hc2)]
   refine sr rfl fun _ k9 => ja ?_
   refine jr (k9 ?_)
   refine aFz 0 rfl ?_
   simp only [go_sem, fzL, AV.fz]; refine wR ?_
   refine fO ?_ ⟨enB _ _, trivial, trivial⟩
   simp only [go_sem, h9, List.map_nil]
 have h9 : aW s a = (mT s a, q1.2 + q1.1 + 1) := by rw [hf, hc2]; simp
 refine wk (k7 (sr rfl fun _ k10 => ?_))
 simp only [go_sem, hw3, hw4]
 refine k10 (wR ?_)
 refine fO ?_ ⟨enB _ _, trivial, trivial⟩
 simp only [go_sem, h9]
theorem yW (s : ByteArray) (hs : s.size ≤ 1048576) : aD P 102 [.raw (.string s)] [] 0 (.tup [.ref 0, .raw (.int .i64 (dC s).2)]) [(0, .row 33 1 ((dC s).1.map esA))] 1 := by
 refine gq 30 [.tmp 2, .tmp 3] Tryz.func102 ?_
 have hmx : maxLen = 9223372036854775807 := rfl
 refine aj ?_
 refine sr rfl fun _ k2 => ja ?_
 refine jr (k2 ?_)
 refine aj ?_
 refine sq fun _ k4 => wb ?_
 refine wl (α := Nat × Nat × List (List Entry)) (fun x => x.2.1 ≤ s.size ∧ s.size ≤ x.1 + x.2.1 ∧ x.2.2.length ≤ x.2.1 ∧ eY s x.1 x.2.1 x.2.2 = dC s) (fun x => x.1) (fun x => ([(0, .raw (.string s)), (4, .ref 0), (5, .raw (.int .i64 (x.2.1 : Int)))], [(0, .row 33 1 (x.2.2.map esA))])) 1 (s.size, 0, []) ⟨Nat.zero_le _, by simp, by simp, rfl⟩ [] ?_ ?_
 · simp only [go_sem, AObj.bel, List.map_nil, Int.natCast_zero] <;> simp
 rintro ⟨f, a, out⟩ ⟨ha, hf, hol, hgo⟩
 simp only at ha hf hol hgo ⊢
 refine sq fun _ k5 => aj ?_
 refine cdS rfl (fun hc1 => ?_) fun hc1 => ?_
 · have hge : ¬ a < s.size := by simpa using hc1
   have hend : eY s f a out = (out, (a : Int)) := by cases f with | zero => rfl | succ g => rw [eY, if_neg hge]
   rw [hend] at hgo
   refine we (jt (k4 ?_))
   refine aj (wR ?_)
   rw [← hgo]; refine ⟨[], ?_⟩
   simp only [go_sem, AObj.bel, AObj.ren, AV.ren, aA, sg] <;> simp
 have hlt : a < s.size := by simpa using hc1
 obtain ⟨g, rfl⟩ : ∃ g, f = g + 1 := ⟨f - 1, by omega⟩
 refine wk (k5 (wb (sr rfl fun _ k7 => (ja ?_))))
 refine vq Tryz.func156 (w_spec_l6Frame s a ha hs) ?_
 have b1 := wJ s a
 have b2 := rX s a
 have hst : eY s (g + 1) a out = if (aW s a).2 < 0 then (out, (a : Int)) else eY s g (aW s a).2.toNat (out ++ [(aW s a).1]) := by rw [eY, if_pos hlt]
 rw [hst] at hgo
 generalize hq1 : aW s a = q1 at b1 b2 hgo ⊢
 refine k7 (sq fun _ k8 => (aj ?_))
 refine cd rfl (fun hc2 => ?_) fun hc2 => ?_
 · have hn : q1.2 < 0 := by simpa using hc2
   rw [if_pos hn] at hgo
   refine aj (wR ?_)
   simp only [go_sem, lQ]; rw [← hgo]; refine ⟨[], ?_⟩
   simp only [go_sem, AObj.bel, AObj.ren, AV.ren, aA, sg] <;> simp
 have hn : ¬ q1.2 < 0 := by simpa using hc2
 rw [if_neg hn] at hgo
 have b3 := b2 (by omega)
 have hto : ((q1.2.toNat : Nat) : Int) = q1.2 := by omega
 rw [← hto]
 refine wk (k8 (sr rfl fun _ k11 => ?_))
 simp only [go_sem, List.length_take, List.length_append, List.nil_append, List.length_map, List.length_drop]
 refine jr (k11 ?_)
 refine wg rfl ?_; simp only [go_sem]; refine jt ?_; refine jt ?_
 refine ⟨(g, q1.2.toNat, out ++ [q1.1]), ⟨by simp only; omega, by simp only; omega, by simp; omega, hgo⟩, by simp only; omega, [(0, 2)], ?_⟩
 simp only [go_sem, AObj.bel, AObj.ren, AV.ren, aA, sg] <;> simp [esA]
theorem w_spec_l6Mem (bs : List (List Entry)) (seq : Int) (hb : bs.length ≤ 1048576) (hs : ∀ b ∈ bs, b.length ≤ 1048576) : aB P 103 [.sl 1 (bs.map esA), .raw (.int .i64 seq)] [] 0 (.tup [.sl 5 ((tA bs seq).1.map enA), .raw (.int .i64 (tA bs seq).2)]) := by
 refine pq 58 [.tmp 4, .tmp 5] Tryz.func103 ?_
 have hmx : maxLen = 9223372036854775807 := rfl
 refine aj ?_
 refine sr rfl fun _ k2 => ja ?_
 refine jr (k2 ?_)
 refine aFz 0 rfl ?_
 simp only [go_sem, fzL, AV.fz]; refine aj ?_
 refine sq fun _ k4 => aj (wb ?_)
 refine wl (α := Nat × List Entry × Int) (fun x => x.1 ≤ bs.length ∧ x.2.1.length ≤ 1048576 * x.1 ∧ (bs.drop x.1).foldl (jN seq) x.2 = tA bs seq) (fun x => bs.length - x.1) (fun x => ([(0, .sl 1 (bs.map esA)), (1, .raw (.int .i64 seq)), (6, .sl 5 (x.2.1.map enA)), (7, .raw (.int .i64 x.2.2)), (8, .raw (.int .i64 (x.1 : Int)))], [])) 0 (0, [], seq) ⟨Nat.zero_le _, by simp, by simp [tA]⟩ [] ?_ ?_
 · simp only [go_sem, List.map_nil, Int.natCast_zero] <;> simp
 rintro ⟨i, st⟩ ⟨hi, hol, hfold⟩
 simp only at hi hol hfold ⊢
 refine sq fun _ k6 => aj ?_
 refine cdS rfl (fun hc1 => ?_) fun hc1 => ?_
 · have hge : bs.length ≤ i := Nat.not_lt.1 (by simpa using hc1)
   refine we (jt (k4 ?_))
   refine aj (wR ?_)
   rw [List.drop_eq_nil_of_le hge] at hfold
   have h9 : tA bs seq = st := hfold.symm
   refine fO ?_ ⟨enB _ _, trivial, trivial⟩
   simp only [go_sem, h9]
 have hlt : i < bs.length := (by simpa using hc1); obtain ⟨l, hl, hdrop, hml⟩ := ix hlt
 have hll := hs l hml
 refine wk (k6 (sq fun _ k8 => (wb (aj (wb ?_)))))
 refine wl (α := Nat × List Entry × Int) (fun x => x.1 ≤ l.length ∧ x.2.1.length ≤ 1048576 * i + x.1 ∧ (l.drop x.1).foldl (gV seq) x.2 = jN seq st l) (fun x => l.length - x.1) (fun x => ([(0, .sl 1 (bs.map esA)), (1, .raw (.int .i64 seq)), (6, .sl 5 (x.2.1.map enA)), (7, .raw (.int .i64 x.2.2)), (8, .raw (.int .i64 (i : Int))), (9, .raw (.int .i64 (x.1 : Int)))], [])) 0 (0, st) ⟨Nat.zero_le _, by simpa using hol, by simp [jN]⟩ [] ?_ ?_
 · simp only [go_sem, Int.natCast_zero] <;> simp
 rintro ⟨k, out, last⟩ ⟨hk, hol2, hfold2⟩
 simp only at hk hol2 hfold2 ⊢
 refine sq fun _ k10 => sr rfl fun _ k11 => ?_
 simp only [go_sem, hl, esA]
 refine jr (k11 ?_)
 refine cdS rfl (fun hc2 => ?_) fun hc2 => ?_
 · have hgek : l.length ≤ k := by have h9 : ¬ k < l.length := (by simpa using hc2); omega
   rw [List.drop_eq_nil_of_le hgek] at hfold2
   obtain ⟨st2, hst⟩ : ∃ st2, st2 = (out, last) := ⟨_, rfl⟩
   have hst2 : jN seq st l = st2 := by rw [hst]; exact hfold2.symm
   have ho2 : out = st2.1 := by rw [hst]
   have hl2 : last = st2.2 := by rw [hst]
   rw [ho2, hl2]; rw [ho2] at hol2
   refine we (jt ?_)
   refine jt (k8 ?_)
   refine jw (wiS i (by omega)) ?_
   refine jt ?_
   refine ⟨(i + 1, st2), ⟨by omega, by simp only; omega, by rw [hdrop] at hfold; exact (by rw [List.foldl_cons, hst2] at hfold; exact hfold)⟩, by omega, [], ?_⟩
   simp only [go_sem] <;> simp
 have hltk : k < l.length := by simpa using hc2
 obtain ⟨e, he, hdrop2, hme⟩ := ix hltk
 refine wk (k10 (sq fun _ k12 => (wb (sr rfl fun _ k13 => ?_))))
 simp only [go_sem, hl, he, esA, enA]
 refine jr (k13 ?_)
 refine cdS rfl (fun hc3 => ?_) fun hc3 => ?_
 · have hgt : ¬ seq < e.seq := by simpa using hc3
   have hms : gV seq (out, last) e = (out, last) := if_neg hgt
   have hln : (gV seq (out, last) e).1.length ≤ 1048576 * i + (k + 1) := by rw [hms]; simp only; omega
   refine wk (jt (k12 ?_))
   have hwk := wiS k (by omega)
   refine wg rfl ?_; simp only [go_sem, hwk]; refine jt ?_
   refine ⟨(k + 1, gV seq (out, last) e), ⟨by omega, hln, by rw [hdrop2] at hfold2; exact hfold2⟩, by omega, [], ?_⟩
   simp only [go_sem, hms] <;> simp
 have hgt : seq < e.seq := by simpa using hc3
 have hms : gV seq (out, last) e = (jF out e, max last e.seq) := if_pos hgt
 have hln : (gV seq (out, last) e).1.length ≤ 1048576 * i + (k + 1) := by rw [hms]; have := putEnt_len out e; simp only; omega
 refine sr rfl fun _ k14 => ?_; simp only [go_sem, hl, he, esA, enA]; refine jr ?_
 refine vr rfl rfl rfl Tryz.func108 (w_spec_l4Put out e (by omega)) (by simp only [go_sem, enA]) (by simp only [go_sem, enA]) ?_
 refine jr (k14 ?_)
 refine wg rfl ?_; simp only [go_sem, hl, he, esA, enA]; refine jr ?_
 refine vq Tryz.func82 (w_spec_l1Max last e.seq) ?_
 refine jr ?_
 refine jt (k12 ?_)
 have hwk := wiS k (by omega)
 refine wg rfl ?_; simp only [go_sem, hwk]; refine jt ?_
 refine ⟨(k + 1, gV seq (out, last) e), ⟨by omega, hln, by rw [hdrop2] at hfold2; exact hfold2⟩, by omega, [], ?_⟩
 simp only [go_sem, hms] <;> simp
theorem w_spec_l6Left (bs : List (List Entry)) (seq : Int) (hb : bs.length ≤ 1048576) (hs : ∀ b ∈ bs, gD b ∧ 1 ≤ b.length) : aB P 106 [.sl 1 (bs.map esA), .raw (.int .i64 seq)] [] 0 (.raw (.string (qY bs seq))) := by
 refine pq 36 [.tmp 4] Tryz.func106 ?_
 refine aj ?_; refine aj ?_
 refine sq fun _ k3 => aj (wb ?_)
 refine wl (α := Nat × ByteArray) (fun x => x.1 ≤ bs.length ∧ x.2.size ≤ 2000 * x.1 ∧ (bs.drop x.1).foldl (bZ seq) x.2 = qY bs seq) (fun x => bs.length - x.1) (fun x => ([(0, .sl 1 (bs.map esA)), (1, .raw (.int .i64 seq)), (5, .raw (.string x.2)), (6, .raw (.int .i64 (x.1 : Int)))], [])) 0 (0, ⟨#[]⟩) ⟨Nat.zero_le _, Nat.le_refl _, rfl⟩ [] ?_ ?_
 · simp only [go_sem, Int.natCast_zero] <;> simp
 rintro ⟨i, out⟩ ⟨hi, hsz, hfold⟩
 simp only at hi hsz hfold ⊢
 refine sq fun _ k5 => aj ?_
 refine cdS rfl (fun hc1 => ?_) fun hc1 => ?_
 · have hge : bs.length ≤ i := Nat.not_lt.1 (by simpa using hc1)
   refine we (jt (k3 ?_))
   refine aj (wR ?_)
   rw [List.drop_eq_nil_of_le hge] at hfold
   have h9 : qY bs seq = out := hfold.symm
   refine fO ?_ trivial; simp only [go_sem, h9]
 have hlt : i < bs.length := (by simpa using hc1); obtain ⟨l, hl, hdrop, hml⟩ := ix hlt
 have hsl := hs l hml
 have hsl1 := hsl.1.1
 have hsl2 := hsl.2
 have hle : l[l.length - 1]? = some (iO l) := by unfold iO; rw [List.getElem?_eq_getElem (by omega)]; rfl
 have hw1 : IntKind.i64.wrap ((l.length : Int) - 1) = (l.length : Int) - 1 := by rw [w64]; omega
 have hpn : ((l.length : Int) - 1).toNat = l.length - 1 := by omega
 refine wk (k5 (sq fun _ k7 => (wb (sd mixed rfl fun _ k8 => ?_))))
 simp only [go_sem, hl, hle, hw1, hpn, esA, enA]; refine jr ?_; refine ⟨by rfl, ?_⟩; apply k8
 refine cdS rfl (fun hc2 => ?_) fun hc2 => ?_
 · have hgt : ¬ seq < (iO l).seq := by simpa using hc2
   have hms : bZ seq out l = out := if_neg hgt
   have hln : (bZ seq out l).size ≤ 2000 * (i + 1) := by rw [hms]; omega
   refine wk (jt (k7 ?_))
   refine jw (wiS i (by omega)) ?_
   refine jt ?_
   refine ⟨(i + 1, bZ seq out l), ⟨by omega, hln, by rw [hdrop] at hfold; exact hfold⟩, by omega, [], ?_⟩
   simp only [go_sem, hms] <;> simp
 have hgt : seq < (iO l).seq := by simpa using hc2
 have hms : bZ seq out l = out ++ fTx l := if_pos hgt
 have hln : (bZ seq out l).size ≤ 2000 * (i + 1) := by rw [hms, ByteArray.size_append]; have := yF l; omega
 refine wg rfl ?_; simp only [go_sem, hl, esA]; refine jr ?_
 refine vs rfl rfl rfl Tryz.func64 (sA l (sEnts_mx hsl.1)) (by simp only [go_sem]) (by simp only [go_sem]) ?_
 simp only [go_sem, hl, esA]
 have hfs := yF l
 repeat (refine ⟨by omega, ?_⟩)
 refine jt (k7 ?_)
 refine jw (wiS i (by omega)) ?_
 refine jt ?_
 refine ⟨(i + 1, bZ seq out l), ⟨by omega, hln, by rw [hdrop] at hfold; exact hfold⟩, by omega, [], ?_⟩
 simp only [go_sem, hms] <;> simp
theorem eG {e : Entry} (h : bF e = true) : e.key.size ≤ 1048576 ∧ e.text.size ≤ 1048576 := by
  have := eL h; omega
theorem putEnt_mem {ls : List Entry} {e x : Entry} (h : x ∈ jF ls e) : x = e ∨ x ∈ ls := by
  unfold jF at h
  rcases List.mem_append.1 h with h | h
  · exact .inr (List.mem_of_mem_take h)
  rcases List.mem_cons.1 h with h | h
  · exact .inl h
  exact .inr (List.mem_of_mem_drop h)
theorem frameS_ok (s : ByteArray) (hs : s.size ≤ 1048576) (a : Nat) (h : 0 ≤ (aW s a).2) : isB (aW s a).1 = true := by
  have hg := rX s a h
  unfold aW at h hg ⊢
  generalize hfb : mT s a = b at h hg ⊢
  split
  · rename_i hb; rw [if_pos hb] at h; simp at h
  rename_i hb
  rw [if_neg hb] at h hg
  split
  · rename_i hc; rw [if_pos hc] at h; simp at h
  rename_i hc
  rw [if_neg hc] at h hg
  simp only at h hg ⊢
  by_cases hi : isB b = true
  · exact hi
  exfalso
  have he : fTx b = ⟨#[]⟩ := by unfold fTx; rw [if_neg hi]
  rw [he] at hc
  simp [iI] at hb
  have hsz : (s.extract a ((bA s (a : Int)).2 + (bA s (a : Int)).1 + 1).toNat).size = ((bA s (a : Int)).2 + (bA s (a : Int)).1 + 1).toNat - a := mA s _ _ (by omega)
  have key : ∀ x : ByteArray, x.toList.length = x.size := fun x => by rw [ByteArray.toList_eq]; rfl
  have hl := (key _).trans hsz
  have he2 : (⟨#[]⟩ : ByteArray).toList = (s.extract a ((bA s (a : Int)).2 + (bA s (a : Int)).1 + 1).toNat).toList := by simpa using hc
  rw [← he2, key] at hl
  have h0 : (⟨#[]⟩ : ByteArray).size = 0 := rfl
  omega
theorem readGo_ok (s : ByteArray) (hs : s.size ≤ 1048576) : ∀ (f a : Nat) (out : List (List Entry)), (∀ b ∈ out, isB b = true) → out.length ≤ a → a ≤ s.size → (∀ b ∈ (eY s f a out).1, isB b = true) ∧ (eY s f a out).1.length ≤ s.size
  | 0, a, out, h, hl, ha => ⟨h, by simp only [eY]; omega⟩
  | f + 1, a, out, h, hl, ha => by
    unfold eY; split
    · split
      · exact ⟨h, by simp only; omega⟩
      rename_i hn
      have h1 := rX s a (by omega)
      have h2 := wJ s a
      refine readGo_ok s hs f _ _ (fun b hb => ?_) (by simp; omega) (by omega)
      rcases List.mem_append.1 hb with h3 | h3
      · exact h b h3
      rw [List.mem_singleton.1 h3]; exact frameS_ok s hs a (by omega)
    exact ⟨h, by simp only; omega⟩
theorem readS_ok {s : ByteArray} (hs : s.size ≤ 1048576) : (∀ b ∈ (dC s).1, isB b = true) ∧ (dC s).1.length ≤ s.size := readGo_ok s hs s.size 0 [] (fun b hb => by cases hb) (Nat.le_refl 0) (Nat.zero_le _)
theorem rO {b : List Entry} (h : isB b = true) : gD b ∧ 1 ≤ b.length ∧ b.length ≤ 12 := by
  obtain ⟨h1, h2, h3⟩ := cK h
  exact ⟨⟨by omega, fun e he => eG (h1 e he)⟩, h2, h3⟩
theorem memRow_small (seq : Int) : ∀ (b : List Entry) (st : List Entry × Int), (∀ e ∈ b, bF e = true) → (∀ e ∈ st.1, e.key.size ≤ 1048576 ∧ e.text.size ≤ 1048576) → (jN seq st b).1.length ≤ st.1.length + b.length ∧ ∀ e ∈ (jN seq st b).1, e.key.size ≤ 1048576 ∧ e.text.size ≤ 1048576
  | [], st, _, h => ⟨by simp [jN], h⟩
  | x :: r, st, hb, h => by
    have h1 : (gV seq st x).1.length ≤ st.1.length + 1 ∧ ∀ e ∈ (gV seq st x).1, e.key.size ≤ 1048576 ∧ e.text.size ≤ 1048576 := by
      unfold gV; split
      · simp only [putEnt_len]
        exact ⟨Nat.le_refl _, fun e he => by
          rcases putEnt_mem he with h2 | h2
          · rw [h2]; exact eG (hb x List.mem_cons_self)
          exact h e h2⟩
      exact ⟨by omega, h⟩
    have h2 := memRow_small seq r (gV seq st x) (fun e he => hb e (List.mem_cons_of_mem _ he)) h1.2
    simp only [jN, List.foldl_cons, List.length_cons] at h2 ⊢
    exact ⟨by omega, h2.2⟩
theorem memS_small {bs : List (List Entry)} (seq : Int) (hb : ∀ b ∈ bs, isB b = true) : (tA bs seq).1.length ≤ 12 * bs.length ∧ ∀ e ∈ (tA bs seq).1, e.key.size ≤ 1048576 ∧ e.text.size ≤ 1048576 := by
  have aux : ∀ (bs : List (List Entry)) (st : List Entry × Int), (∀ b ∈ bs, isB b = true) → (∀ e ∈ st.1, e.key.size ≤ 1048576 ∧ e.text.size ≤ 1048576) → (bs.foldl (jN seq) st).1.length ≤ st.1.length + 12 * bs.length ∧ ∀ e ∈ (bs.foldl (jN seq) st).1, e.key.size ≤ 1048576 ∧ e.text.size ≤ 1048576 := by
    intro bs
    induction bs with
    | nil => intro st _ h; exact ⟨by simp, h⟩
    | cons b r ih =>
      intro st hb h
      obtain ⟨k1, k2, k3⟩ := cK (hb b List.mem_cons_self)
      have h1 := memRow_small seq b st k1 h
      have h2 := ih (jN seq st b) (fun x hx => hb x (List.mem_cons_of_mem _ hx)) h1.2
      simp only [List.foldl_cons, List.length_cons]
      exact ⟨by omega, h2.2⟩
  have := aux bs ([], seq) hb (by simp)
  simpa [tA] using this
def gE : Tree := ⟨0, [], [], []⟩
def zDisk : Disk := ⟨⟨#[]⟩, 0, [], 0⟩
def zStore : Store := ⟨false, gE, zDisk⟩
def nF (s : Store) : Store :=
  ⟨true, ⟨(tA (dC s.disk.log).1 s.disk.seq).2, (tA (dC s.disk.log).1 s.disk.seq).1, s.disk.levels, []⟩, ⟨qY (dC s.disk.log).1 s.disk.seq, ((qY (dC s.disk.log).1 s.disk.seq).size : Int), s.disk.levels, s.disk.seq⟩⟩
def upBad (s : Store) : Bool := ((!eS s.tree || !decide (s.disk.levels = s.tree.levels)) || decide (s.disk.seq < 0)) || decide (s.tree.seq < s.disk.seq)
def upS (s : Store) : Bool := if upBad s = true then false else
  (decide ((dC s.disk.log).2 = (s.disk.log.size : Int)) && decide ((tA (dC s.disk.log).1 s.disk.seq).1 = s.tree.mem)) && decide ((tA (dC s.disk.log).1 s.disk.seq).2 = s.tree.seq)
def nA (s : Store) : Bool := (decide (12000 < (s.disk.log.size : Int)) || decide (s.disk.safe < 0)) || decide ((s.disk.log.size : Int) < s.disk.safe)
def eA (s : Store) : Bool := if nA s = true then false else if eS ⟨s.disk.seq, [], s.disk.levels, []⟩ = false then false else
  if s.up = true then upS s else gP s.tree gE && upS (nF s)
def aJ (s : Store) : Store := if s.up = true then s else { s with tree := gE }
theorem dN (U : Nat → Prop) (s : Store) : (stA s).bel U := ⟨trivial, trivial, enB _ _, aF _ _, bE _ _, trivial, trivial, aF _ _, trivial, trivial⟩
theorem lJ (U : Nat → Prop) (t : Tree) : (trA t).bel U := ⟨trivial, enB _ _, aF _ _, bE _ _, trivial⟩
theorem xV (s : Store) (hs : bM s) : aB P 29 [stA s] [] 0 (stA (aJ s)) := by
 refine pq 21 [.cell 2 40] Tryz.func29 ?_
 simp only [stA]; refine aj ?_; refine aj ?_
 refine sr rfl fun _ k3 => ja ?_
 refine vs rfl rfl rfl Tryz.func65 ((bX (tZ s.tree hs.1) (by simp only [go_sem, trA]) (by simp only [go_sem, trA]) : aB P 65 [trA s.tree] [] 0 (trA s.tree))) (by simp only [go_sem, trA]) (by simp only [go_sem, trA]) ?_
 simp only [go_sem, trA]
 refine k3 (sq fun _ k4 => (aj ?_))
 refine cdS rfl (fun hc1 => ?_) fun hc1 => ?_
 · have hu : s.up = true := by simpa using hc1
   refine wk (k4 (sr rfl fun _ k8 => (ja ?_)))
   refine vq Tryz.func48 ((bX (bW s.disk.levels hs.2) (by simp only [go_sem]) (by simp only [go_sem]) : aB P 48 [.sl 1 (s.disk.levels.map rsA)] [] 0 (.sl 1 (s.disk.levels.map rsA)))) (k8 ?_)
   refine aj (wR ?_)
   refine fO ?_ (dN _ _)
   simp only [go_sem, aJ, hu, if_true, stA]
 have hu : s.up = false := by simpa using hc1
 refine wg rfl ?_; simp only [go_sem]
 refine k4 (sr rfl fun _ k6 => (ja ?_))
 refine vq Tryz.func48 ((bX (bW s.disk.levels hs.2) (by simp only [go_sem]) (by simp only [go_sem]) : aB P 48 [.sl 1 (s.disk.levels.map rsA)] [] 0 (.sl 1 (s.disk.levels.map rsA)))) (k6 ?_)
 refine aj ?_
 refine cG 1 (ds := [.raw (.bool s.up), .raw (.int .i64 0), .sl 5 [], .sl 1 [], .sl 1 [], .raw (.string s.disk.log), .raw (.int .i64 s.disk.safe), .sl 1 (s.disk.levels.map rsA), .raw (.int .i64 s.disk.seq)]) rfl (by repeat (first | exact LeL.nil | refine LeL.cons (by first | exact Le.refl _ | exact Le.nil _) ?_)) (by simp only [go_sem]) ?_
 simp only [go_sem]; refine wR ?_
 refine fO ?_ (dN _ _)
 simp only [go_sem, aJ, hu, Bool.false_eq_true, if_false, stA, gE, List.map_nil]
section
variable {i j m : Nat}
theorem iL : ∀ x : List UInt8, Op.bytesLess x x = false
  | [] => rfl
  | a :: x => by simp [Op.bytesLess, iL x]
theorem bl_trans : ∀ x y z : List UInt8, Op.bytesLess x y = true → Op.bytesLess y z = true → Op.bytesLess x z = true
  | [], _ :: _, _ :: _, _, _ => rfl
  | [], [], _, h, _ => by cases h
  | _ :: _, [], _, h, _ => by cases h
  | _, _ :: _, [], _, h => by cases h
  | a :: x, b :: y, c :: z, h1, h2 => by
    simp only [Op.bytesLess, Bool.or_eq_true, decide_eq_true_eq, Bool.and_eq_true, beq_iff_eq] at h1 h2 ⊢
    rcases h1 with h1 | ⟨h1, h1'⟩ <;> rcases h2 with h2 | ⟨h2, h2'⟩
    · exact .inl (UInt8.lt_trans h1 h2)
    · exact .inl (h2 ▸ h1)
    · exact .inl (h1 ▸ h2)
    exact .inr ⟨h1.trans h2, bl_trans x y z h1' h2'⟩
theorem bl_tri : ∀ x y : List UInt8, Op.bytesLess x y = false → Op.bytesLess y x = false → x = y
  | [], [], _, _ => rfl
  | [], _ :: _, h, _ => by cases h
  | _ :: _, [], _, h => by cases h
  | a :: x, b :: y, h1, h2 => by
    simp only [Op.bytesLess, Bool.or_eq_false_iff, decide_eq_false_iff_not, Bool.and_eq_false_iff] at h1 h2
    have hab : a = b := UInt8.le_antisymm (UInt8.not_lt.1 h2.1) (UInt8.not_lt.1 h1.1)
    subst hab
    have e1 := h1.2.resolve_left (by simp)
    have e2 := h2.2.resolve_left (by simp)
    rw [bl_tri x y e1 e2]
theorem bl_neg (x y z : List UInt8) (h1 : Op.bytesLess x y = false) (h2 : Op.bytesLess y z = false) : Op.bytesLess x z = false := by
  cases h3 : Op.bytesLess x z with
  | false => rfl
  | true =>
    cases h4 : Op.bytesLess y x with
    | true => have := bl_trans y x z h4 h3; rw [h2] at this; cases this
    | false => have := bl_tri x y h1 h4; subst this; rw [h2] at h3; cases h3
theorem uO : Plain.WO entLt fun _ => True where
  irrefl := fun x _ => by simp [entLt, iL]
  trans := fun x y z _ _ _ h1 h2 => by
    simp only [entLt, Bool.or_eq_true, Bool.and_eq_true, beq_iff_eq, decide_eq_true_eq] at h1 h2 ⊢
    rcases h1 with h1 | ⟨h1, h1'⟩ <;> rcases h2 with h2 | ⟨h2, h2'⟩
    · exact .inl (bl_trans _ _ _ h1 h2)
    · exact .inl (h2 ▸ h1)
    · exact .inl (h1 ▸ h2)
    exact .inr ⟨h1.trans h2, by omega⟩
  neg := fun x y z _ _ _ h1 h2 => by
    simp only [entLt, Bool.or_eq_false_iff, Bool.and_eq_false_iff, beq_eq_false_iff_ne, decide_eq_false_iff_not] at h1 h2 ⊢
    refine ⟨bl_neg _ _ _ h1.1 h2.1, ?_⟩
    by_cases e : x.key.toList = z.key.toList
    · right
      have hzy : Op.bytesLess z.key.toList y.key.toList = false := e ▸ h1.1
      have e2 := bl_tri _ _ hzy h2.1
      have e1 := e.trans e2
      have k1 := h1.2.resolve_left (fun h => h e1)
      have k2 := h2.2.resolve_left (fun h => h e2.symm)
      omega
    exact .inl e
def cmpS (x y : ByteArray) : Int := if Op.bytesLess x.toList y.toList = true then -1 else if Op.bytesLess y.toList x.toList = true then 1 else 0
def cmpI (x y : Int) : Int := if x < y then -1 else if y < x then 1 else 0
def entCmp (a b : Entry) : Int := if cmpS a.key b.key ≠ 0 then cmpS a.key b.key else cmpI b.seq a.seq
theorem wM (a b : Entry) : decide (entCmp a b < 0) = entLt a b := by
  unfold entCmp cmpS cmpI entLt
  by_cases h1 : Op.bytesLess a.key.toList b.key.toList = true
  · simp [h1]
  by_cases h2 : Op.bytesLess b.key.toList a.key.toList = true
  · have : ¬ a.key.toList = b.key.toList := fun e => by rw [e, iL] at h2; cases h2
    simp [h1, h2, this]
  have e := bl_tri _ _ (by simpa using h1) (by simpa using h2)
  rw [e]; simp only [iL, Bool.false_eq_true, if_false, ne_eq, not_true_eq_false, beq_self_eq_true, Bool.true_and, Bool.false_or]; split
  · rename_i h; simp [h]
  rename_i h
  split <;> simp [h]
theorem keyOk_len {s : ByteArray} (h : iJ s = true) : 1 ≤ s.size ∧ s.size ≤ 8 := by
  simp [iJ] at h; omega
theorem set_ne {α : Type} {l : List α} (h : i ≠ j) (y : α) : (l.set i y)[j]? = l[j]? := List.getElem?_set_ne h
abbrev bY (d : Nat → Entry) (n : Nat) (σ : Nat → Nat) : AObj := .row 65 5 ((List.range n).map fun k => enA (d (σ k)))
abbrev eZ : AV := .fn (.func 141) [] []
theorem rowE_bel (U : Nat → Prop) (d : Nat → Entry) (n : Nat) (σ : Nat → Nat) : aC U ((List.range n).map fun k => enA (d (σ k))) := by
  rw [bLi]; intro x hx; obtain ⟨k, _, rfl⟩ := List.mem_map.1 hx; exact eN U _
theorem rowE_ren (s : Nat → Nat) (d : Nat → Entry) (n : Nat) (σ : Nat → Nat) : aA s ((List.range n).map fun k => enA (d (σ k))) = (List.range n).map fun k => enA (d (σ k)) := cO s (rowE_bel _ d n σ)
attribute [go_sem] rowE_bel rowE_ren
theorem row_sw (d : Nat → Entry) (n : Nat) (σ : Nat → Nat) {p q : Nat} (hp : p < n) (hq : q < n) : (((List.range n).map fun k => enA (d (σ k))).set p (enA (d (σ q)))).set q (enA (d (σ p))) = (List.range n).map fun k => enA (d (Plain.swp σ p q k)) := by
  refine List.ext_getElem? fun i => ?_
  rw [List.getElem?_set, List.getElem?_set, List.getElem?_map, List.getElem?_map]; simp only [List.length_set, List.length_map, List.length_range]
  by_cases hi : i < n
  · rw [List.getElem?_range hi]; unfold Plain.swp; simp only [Option.map_some]
    by_cases h1 : i = q
    · subst h1; rw [if_pos rfl, if_pos hi]
      by_cases h2 : i = p
      · subst h2; simp
      rw [if_neg h2, if_pos rfl]
    rw [if_neg (fun e => h1 e.symm)]
    by_cases h2 : i = p
    · subst h2; rw [if_pos rfl, if_pos rfl, if_pos hp]
    rw [if_neg (fun e => h2 e.symm), if_neg h2, if_neg h1]
  rw [List.getElem?_eq_none (by simp; omega)]; rw [if_neg (by omega), if_neg (by omega)]; rfl
def swr (σ : Nat → Nat) (a b m : Nat) : Nat → Nat := fun k => if a ≤ k ∧ k < a + m then σ (k - a + b) else if b ≤ k ∧ k < b + m then σ (k - b + a) else σ k
theorem swr_step (σ : Nat → Nat) {a b i : Nat} (h : a + i < b) : Plain.swp (swr σ a b i) (a + i) (b + i) = swr σ a b (i + 1) := by
  funext k
  unfold Plain.swp swr
  by_cases h1 : k = a + i
  · subst h1; rw [if_pos rfl, if_neg (by omega), if_neg (by omega), if_pos (by omega)]
    congr 1; omega
  rw [if_neg h1]
  by_cases h2 : k = b + i
  · subst h2; rw [if_pos rfl, if_neg (by omega), if_neg (by omega), if_neg (by omega), if_pos (by omega)]
    congr 1; omega
  rw [if_neg h2]
  by_cases h3 : a ≤ k ∧ k < a + i
  · rw [if_pos h3, if_pos (by omega)]
  rw [if_neg h3]
  by_cases h4 : b ≤ k ∧ k < b + i
  · rw [if_pos h4, if_neg (by omega), if_pos (by omega)]
  rw [if_neg h4, if_neg (by omega), if_neg (by omega)]
theorem swr_zero (σ : Nat → Nat) (a b : Nat) : swr σ a b 0 = σ := by
  funext k; unfold swr; rw [if_neg (by omega), if_neg (by omega)]
theorem rot_big (σ : Nat → Nat) (h1 : j < i) (h2 : i ≤ m) (h3 : 0 < j) : Plain.rot (swr σ (m - i) m j) (m - (i - j)) m (m + j) = Plain.rot σ (m - i) m (m + j) := by
  funext k
  unfold Plain.rot swr
  repeat' split
  all_goals first | (exfalso; omega) | (congr 1; omega) | rfl
theorem rot_small (σ : Nat → Nat) (h1 : i < j) (h2 : i ≤ m) (h3 : 0 < i) : Plain.rot (swr σ (m - i) (m + j - i) i) (m - i) m (m + (j - i)) = Plain.rot σ (m - i) m (m + j) := by
  funext k
  unfold Plain.rot swr
  repeat' split
  all_goals first | (exfalso; omega) | (congr 1; omega) | rfl
theorem rot_eq (σ : Nat → Nat) (h2 : i ≤ m) : swr σ (m - i) m i = Plain.rot σ (m - i) m (m + i) := by
  funext k
  unfold Plain.rot swr; simp only [Nat.add_sub_cancel_left]
  by_cases c1 : m - i ≤ k ∧ k < m - i + i
  · rw [if_pos c1, if_pos c1]; congr 1; omega
  rw [if_neg c1, if_neg c1]
  by_cases c2 : m ≤ k ∧ k < m + i
  · rw [if_pos c2, if_pos (by omega)]; congr 1; omega
  rw [if_neg c2, if_neg (by omega)]
def orI : List Int → Int
  | [] => 0
  | x :: r => if x = 0 then orI r else x
theorem entCmp_or (a b : Entry) : orI [cmpS a.key b.key, cmpI b.seq a.seq] = entCmp a b := by
  unfold entCmp
  by_cases h : cmpS a.key b.key = 0
  · rw [if_neg (by simp [h]), orI, if_pos h, orI, orI]
    split <;> rename_i h2
    · exact h2.symm
    rfl
  rw [if_pos h, orI, if_neg h]
theorem pR (s : ByteArray) : aB P 213 [.raw (.string s)] [] 0 (.raw (.bool false)) := by
 refine pq 6 [.tmp 2] Tryz.func213 ?_
 refine aj ?_
 refine aj (wR ?_)
 refine fO ?_ trivial; simp only [go_sem, beq_self_eq_true, Bool.not_true]
theorem uC (n : Int) : aB P 214 [.raw (.int .i64 n)] [] 0 (.raw (.bool false)) := by
 refine pq 6 [.tmp 2] Tryz.func214 ?_
 refine aj ?_
 refine aj (wR ?_)
 refine fO ?_ trivial; simp only [go_sem, decide_true, Bool.not_true]
theorem vX (x y : ByteArray) : aB P 189 [.raw (.string x), .raw (.string y)] [] 0 (.raw (.int .i64 (cmpS x y))) := by
 refine pq 20 [.tmp 4] Tryz.func189 ?_
 refine aj ?_
 refine sr rfl fun _ k2 => ja ?_
 refine vq Tryz.func213 (pR x) (k2 ?_)
 refine sr rfl fun _ k3 => ja ?_
 refine vq Tryz.func213 (pR y) (k3 ?_)
 refine sq fun _ k4 => aj ?_
 refine cd rfl (fun hc => by simp at hc) fun hc1 => ?_
 refine wk (k4 (sq fun _ k6 => (aj ?_)))
 refine cd rfl (fun hc => by simp at hc) fun hc2 => ?_
 refine wk (k6 (sq fun _ k8 => (aj ?_)))
 refine cd rfl (fun hc3 => ?_) fun hc3 => ?_
 · refine aj (wR ?_)
   refine fO ?_ trivial; simp only [go_sem, cmpS, if_pos hc3]
 refine wk (k8 (sq fun _ k11 => (aj ?_)))
 refine cd rfl (fun hc4 => ?_) fun hc4 => ?_
 · refine aj (wR ?_)
   have h9 : cmpS x y = 1 := by
     unfold cmpS; rw [hc3]; simp at hc4
     cases h8 : Op.bytesLess y.toList x.toList with
     | true => simp
     | false => exact absurd (bl_tri _ _ hc3 h8) hc4.2
   refine fO ?_ trivial; simp only [go_sem, h9]
 refine wk (k11 (aj (wR ?_)))
 have h9 : cmpS x y = 0 := by
   unfold cmpS; simp at hc4; rw [hc3, hc4 hc3, iL]
   simp
 refine fO ?_ trivial; simp only [go_sem, h9]
theorem w_cmp_Compare_int (x y : Int) : aB P 190 [.raw (.int .i64 x), .raw (.int .i64 y)] [] 0 (.raw (.int .i64 (cmpI x y))) := by
 refine pq 20 [.tmp 4] Tryz.func190 ?_
 refine aj ?_
 refine sr rfl fun _ k2 => ja ?_
 refine vq Tryz.func214 (uC x) (k2 ?_)
 refine sr rfl fun _ k3 => ja ?_
 refine vq Tryz.func214 (uC y) (k3 ?_)
 refine sq fun _ k4 => aj ?_
 refine cd rfl (fun hc => by simp at hc) fun hc1 => ?_
 refine wk (k4 (sq fun _ k6 => (aj ?_)))
 refine cd rfl (fun hc => by simp at hc) fun hc2 => ?_
 refine wk (k6 (sq fun _ k8 => (aj ?_)))
 refine cd rfl (fun hc3 => ?_) fun hc3 => ?_
 · have n3 : x < y := by simpa using hc3
   refine aj (wR ?_)
   refine fO ?_ trivial; simp only [go_sem, cmpI, if_pos n3]
 have n3 : ¬ (x < y) := by simpa using hc3
 refine wk (k8 (sq fun _ k11 => (aj ?_)))
 refine cd rfl (fun hc4 => ?_) fun hc4 => ?_
 · have n4 : y < x := by simpa using hc4
   refine aj (wR ?_)
   refine fO ?_ trivial; simp only [go_sem, cmpI, if_neg n3, if_pos n4]
 have n4 : ¬ (y < x) := by simpa using hc4
 refine wk (k11 (aj (wR ?_)))
 refine fO ?_ trivial; simp only [go_sem, cmpI, if_neg n3, if_neg n4]
theorem w_cmp_Or_int (ls : List Int) (hz : ls.length ≤ 4611686018427387904) : aB P 188 [.sl 1 (ls.map inA)] [] 0 (.raw (.int .i64 (orI ls))) := by
 refine pq 18 [.tmp 2] Tryz.func188 ?_
 refine aj ?_; refine aj ?_
 refine sq fun _ k3 => aj (wb ?_)
 refine wl (α := Nat) (fun x => x ≤ ls.length ∧ orI (ls.drop x) = orI ls) (fun x => ls.length - x) (fun x => ([(3, .raw (.int .i64 0)), (6, .sl 1 (ls.map inA)), (7, .raw (.int .i64 (ls.length : Int))), (8, .raw (.int .i64 (x : Int)))], [])) 0 0 ⟨Nat.zero_le _, rfl⟩ [] ?_ ?_
 · simp only [go_sem, Int.natCast_zero] <;> simp
 rintro i ⟨hi, hor⟩
 refine aj ?_; refine sq fun _ k6 => ?_
 refine cdS rfl (fun hc1 => ?_) fun hc1 => ?_
 · have hge : ls.length ≤ i := Nat.not_lt.1 (by simpa using hc1)
   refine we (jt (k3 ?_))
   refine aj (wR ?_)
   rw [List.drop_eq_nil_of_le hge, orI] at hor; refine fO ?_ trivial; simp only [go_sem, hor]
 have hlt : i < ls.length := (by simpa using hc1); obtain ⟨l, hl, hdrop, hml⟩ := ix hlt
 refine wk (k6 (sq fun _ k7 => (wb (sr rfl fun _ k8 => ?_))))
 simp only [go_sem, hl, inA]
 refine jr (k8 ?_)
 refine aj ?_
 refine cd rfl (fun hc2 => ?_) fun hc2 => ?_
 · have n2 : ¬ l = 0 := by simpa using hc2
   refine aj (wR ?_)
   simp only [go_sem, lQ]; rw [hdrop, orI, if_neg n2] at hor; refine fO ?_ trivial; simp only [go_sem, hor]
 have n2 : l = 0 := by simpa using hc2
 refine wk (jt (k7 ?_))
 refine jw (wiS i (by omega)) ?_
 refine jt ?_
 refine ⟨i + 1, ⟨by omega, by rw [hdrop, orI, if_pos n2] at hor; exact hor⟩, by omega, [], ?_⟩
 simp only [go_sem] <;> simp
theorem gX (a b : Entry) : aB P 141 [enA a, enA b] [] 0 (.raw (.int .i64 (entCmp a b))) := by
 refine pq 17 [.tmp 4] Tryz.func141 ?_
 simp only [enA]
 have hmx : maxLen = 9223372036854775807 := rfl
 refine aj ?_
 refine sd mixed rfl fun _ k2 => ja ?_
 refine jr ?_
 refine tp rfl rfl rfl ⟨Tryz.func189, rfl, rfl⟩ (vX a.key b.key) (by simp only [go_sem]) (by simp only [go_sem]) ?_
 simp only [go_sem]; refine jr ?_
 refine tp rfl rfl rfl ⟨Tryz.func190, rfl, rfl⟩ (w_cmp_Compare_int b.seq a.seq) (by simp only [go_sem]) (by simp only [go_sem]) ?_
 simp only [go_sem]; refine jr ?_
 refine tl [2] (xs := [.ref 2]) rfl rfl rfl ⟨Tryz.func188, rfl, rfl⟩ (w_cmp_Or_int [cmpS a.key b.key, cmpI b.seq a.seq] (by simp)) rfl (by simp [wF, nV, Abs.get, fzL, AV.fz, inA]) ⟨⟨trivial, trivial, trivial⟩, trivial⟩ rfl ?_
 simp only [go_sem]; refine jr ?_; refine ⟨by rfl, ?_⟩
 refine k2 (wR (fO ?_ trivial))
 simp only [go_sem, entCmp_or]
theorem w_impl_EntryLess (a b : Entry) : aB P 193 [enA a, enA b] [] 0 (.raw (.bool (entLt a b))) := by
 refine pq 20 [.tmp 4] Tryz.func193 ?_
 simp only [enA]; refine aj ?_
 refine sq fun _ k2 => aj ?_
 refine cd rfl (fun hc1 => ?_) fun hc1 => ?_
 · refine aj (wR ?_)
   have h9 : entLt a b = Op.bytesLess a.key.toList b.key.toList := by
     have hk : (a.key.toList == b.key.toList) = false := by simpa using hc1
     unfold entLt; rw [hk]; simp
   refine fO ?_ trivial; simp only [go_sem, h9]
 refine wk (k2 (aj (wR ?_)))
 have h9 : entLt a b = decide (b.seq < a.seq) := by
   have hk : a.key.toList = b.key.toList := by simpa using hc1
   unfold entLt; rw [hk, iL]; simp
 refine fO ?_ trivial; simp only [go_sem, h9]
theorem w_impl_KeyOk (s : ByteArray) (hz : s.size ≤ 4611686018427387904) : aB P 171 [.raw (.string s)] [] 0 (.raw (.bool (iJ s))) := by
 refine pq 41 [.tmp 2] Tryz.func171 ?_
 refine aj ?_
 refine sq fun _ k2 => aj ?_
 refine cd rfl (fun hc1 => ?_) fun hc1 => ?_
 · have h9 : iJ s = false := Bool.eq_false_iff.2 fun h => by have := keyOk_len h; simp at hc1; omega
   refine aj (wR ?_)
   refine fO ?_ trivial; simp only [go_sem, h9]
 have hsz : 1 ≤ s.size ∧ s.size ≤ 8 := by simp at hc1; omega
 refine wk (k2 (sq fun _ k5 => (aj (wb ?_))))
 refine wl (α := Nat) (fun x => x ≤ s.size ∧ ∀ j, j < x → tU s j = true) (fun x => s.size - x) (fun x => ([(0, .raw (.string s)), (14, .raw (.int .i64 (s.size : Int))), (15, .raw (.int .i64 (x : Int)))], [])) 0 0 ⟨Nat.zero_le _, fun j hj => absurd hj (Nat.not_lt_zero _)⟩ [] ?_ ?_
 · simp only [go_sem, Int.natCast_zero] <;> simp
 rintro i ⟨hi, hall⟩
 refine aj ?_; refine sq fun _ k8 => ?_
 refine cdS rfl (fun hc2 => ?_) fun hc2 => ?_
 · have hge : s.size ≤ i := Nat.not_lt.1 (by simpa using hc2)
   refine we (jt (k5 ?_))
   refine aj (wR ?_)
   have h9 : iJ s = true := by unfold iJ; rw [dU hge hall]; simp; omega
   refine fO ?_ trivial; simp only [go_sem, h9]
 have hlt : i < s.size := by simpa using hc2
 refine wk (k8 (sq fun _ k9 => (wb (aj ?_))))
 refine sr rfl fun _ k11 => ja ?_
 refine jr (k11 ?_)
 refine aj ?_
 refine cd rfl (fun hc3 => ?_) fun hc3 => ?_
 · have hp : tU s i = false := by unfold tU; simp at hc3 ⊢; omega
   refine aj (wR ?_)
   simp only [go_sem, lQ]
   have h9 : iJ s = false := by unfold iJ; rw [eP hlt hp]; rfl
   refine fO ?_ trivial; simp only [go_sem, h9]
 have hp : tU s i = true := by unfold tU; simp at hc3 ⊢; omega
 refine wk (jt (k9 ?_))
 refine jw (wiS i (by omega)) ?_
 refine jt ?_
 refine ⟨i + 1, ⟨by omega, bP hall hp⟩, by omega, [], ?_⟩
 simp only [go_sem] <;> simp
theorem wC (e : Entry) (hz : mxEnt e) : aB P 122 [enA e] [] 0 (.raw (.bool (bF e))) := by
 refine pq 50 [.tmp 2] Tryz.func122 ?_
 simp only [enA]; refine aj ?_
 refine sq fun _ k2 => sr rfl fun _ k3 => ja ?_
 refine vq Tryz.func171 (w_impl_KeyOk e.key hz.1) (k3 ?_)
 refine cd rfl (fun hc1 => ?_) fun hc1 => ?_
 · have hb : iA e = true := by unfold iA; revert hc1; cases iJ e.key <;> simp <;> omega
   refine aj (wR ?_)
   refine fO ?_ trivial; simp only [go_sem, bF, hb]
 refine wk (k2 (sq fun _ k5 => (aj ?_)))
 refine cd rfl (fun hc2 => ?_) fun hc2 => ?_
 · have hb : iA e = true := by unfold iA lX; simp at hc2 ⊢; omega
   refine aj (wR ?_)
   refine fO ?_ trivial; simp only [go_sem, bF, hb]
 have hb : iA e = false := by unfold iA lX; revert hc1; cases iJ e.key <;> simp at hc2 ⊢ <;> omega
 refine wk (k5 (sq fun _ k8 => (aj (wb ?_))))
 refine aj ?_
 refine cd rfl (fun hc3 => ?_) fun hc3 => ?_
 · have k1 : e.kind = 1 := by simpa using hc3
   refine aj (wR ?_)
   simp only [go_sem, lQ]; refine fO ?_ trivial; simp only [go_sem, bF, hb, Bool.false_eq_true, if_false, if_pos k1]
 have k1 : ¬ (e.kind = 1) := by simpa using hc3
 refine aj ?_
 refine cd rfl (fun hc4 => ?_) fun hc4 => ?_
 · have k2 : e.kind = 2 := by simpa using hc4
   refine aj (wR ?_)
   simp only [go_sem, lQ]; refine fO ?_ trivial; simp only [go_sem, bF, hb, Bool.false_eq_true, if_false, if_neg k1, if_pos k2]
 have k2 : ¬ (e.kind = 2) := by simpa using hc4
 refine aj ?_
 refine cd rfl (fun hc5 => ?_) fun hc5 => ?_
 · have k3 : e.kind = 3 := by simpa using hc5
   refine aj (wR ?_)
   simp only [go_sem, lQ]; refine fO ?_ trivial; simp only [go_sem, bF, hb, Bool.false_eq_true, if_false, if_neg k1, if_neg k2, if_pos k3]
 have k3 : ¬ (e.kind = 3) := by simpa using hc5
 refine wk (jt (k8 ?_))
 refine aj (wR ?_)
 refine fO ?_ trivial; simp only [go_sem, bF, hb, Bool.false_eq_true, if_false, if_neg k1, if_neg k2, if_neg k3]
theorem pS (ls : List Entry) (hz : dK ls) : aB P 146 [.sl 5 (ls.map enA)] [] 0 (.raw (.bool (dL ls))) := by
 refine pq 30 [.tmp 2] Tryz.func146 ?_
 have hlen := hz.1
 refine aj ?_
 refine sq fun _ k2 => aj (wb ?_)
 refine wl (α := Nat) (fun x => x ≤ ls.length ∧ ∀ j, j < x → xC ls j = true) (fun x => ls.length - x) (fun x => ([(0, .sl 5 (ls.map enA)), (5, .sl 5 (ls.map enA)), (6, .raw (.int .i64 (ls.length : Int))), (7, .raw (.int .i64 (x : Int)))], [])) 0 0 ⟨Nat.zero_le _, fun j hj => absurd hj (Nat.not_lt_zero _)⟩ [] ?_ ?_
 · simp only [go_sem, Int.natCast_zero] <;> simp
 rintro i ⟨hi, hall⟩
 refine aj ?_; refine sq fun _ k5 => ?_
 refine cdS rfl (fun hc1 => ?_) fun hc1 => ?_
 · have hge : ls.length ≤ i := Nat.not_lt.1 (by simpa using hc1)
   refine we (jt (k2 ?_))
   refine aj (wR ?_)
   have h9 : dL ls = true := by unfold dL; exact dU hge hall
   refine fO ?_ trivial; simp only [go_sem, h9]
 have hlt : i < ls.length := (by simpa using hc1); obtain ⟨l, hl, hdrop, hml⟩ := ix hlt
 have hw1 : IntKind.i64.wrap ((i : Int) - 1) = (i : Int) - 1 := by rw [w64]; omega
 have hpn : ((i : Int) - 1).toNat = i - 1 := by omega
 have hpv : ls[i - 1]? = some (dO ls i) := by unfold dO; rw [List.getElem?_eq_getElem (by omega)]; rfl
 refine wk (k5 (sq fun _ k6 => (wb (sr rfl fun _ k7 => ?_))))
 simp only [go_sem, hl, enA]
 refine jr (k7 ?_)
 refine sd mixed rfl fun _ k8 => ?_; simp only [go_sem, hl, hw1, hpn, hpv, enA]; refine jr ?_
 refine tp rfl rfl rfl ⟨Tryz.func122, rfl, rfl⟩ (wC l (hz.2 l hml)) (by simp only [go_sem, enA]) (by simp only [go_sem, enA]) ?_
 simp only [go_sem, hl, hw1, hpn, hpv, enA]; refine jr ?_
 refine tpg rfl rfl rfl rfl rfl rfl ⟨Tryz.func193, rfl, rfl⟩ (fun hg => w_impl_EntryLess (dO ls i) l) (by simp only [go_sem]) (fun hg => (by simp only [go_sem, enA])) (by simp only [go_sem, enA]) trivial ?_
 simp only [go_sem, hl, hw1, hpn, hpv, enA]; refine jr ?_; refine ⟨by rfl, ?_⟩; apply k8
 refine cd rfl (fun hc2 => ?_) fun hc2 => ?_
 · have hp : xC ls i = false := by unfold xC; rw [hl]; simp only [hc2]; rfl
   refine aj (wR ?_)
   simp only [go_sem, lQ]
   have h9 : dL ls = false := by unfold dL; exact eP hlt hp
   refine fO ?_ trivial; simp only [go_sem, h9]
 have hp : xC ls i = true := by unfold xC; rw [hl]; simp only [hc2]; rfl
 refine wk (jt (k6 ?_))
 refine jw (wiS i (by omega)) ?_
 refine jt ?_
 refine ⟨i + 1, ⟨by omega, bP hall hp⟩, by omega, [], ?_⟩
 simp only [go_sem] <;> simp
theorem bN (a b : List Entry) (hz : a.length ≤ 4611686018427387904) : aB P 119 [.sl 5 (a.map enA), .sl 5 (b.map enA)] [] 0 (.raw (.bool (decide (a = b)))) := by
 refine pq 26 [.tmp 4] Tryz.func119 ?_
 refine aj ?_
 refine sq fun _ k2 => aj ?_
 refine cd rfl (fun hc1 => ?_) fun hc1 => ?_
 · have hne : a ≠ b := fun e => by rw [e] at hc1; simp at hc1
   refine aj (wR ?_)
   refine fO ?_ trivial; simp only [go_sem, decide_eq_false hne]
 have hlen : a.length = b.length := by simp at hc1; omega
 refine wk (k2 (sq fun _ k5 => (aj (wb ?_))))
 refine wl (α := Nat) (fun x => x ≤ a.length ∧ ∀ j, j < x → qJ a b j = true) (fun x => a.length - x) (fun x => ([(0, .sl 5 (a.map enA)), (1, .sl 5 (b.map enA)), (12, .raw (.int .i64 (a.length : Int))), (13, .raw (.int .i64 (x : Int)))], [])) 0 0 ⟨Nat.zero_le _, fun j hj => absurd hj (Nat.not_lt_zero _)⟩ [] ?_ ?_
 · simp only [go_sem, Int.natCast_zero] <;> simp
 rintro i ⟨hi, hall⟩
 refine aj ?_; refine sq fun _ k8 => ?_
 refine cdS rfl (fun hc2 => ?_) fun hc2 => ?_
 · have hge : a.length ≤ i := Nat.not_lt.1 (by simpa using hc2)
   refine we (jt (k5 ?_))
   refine aj (wR ?_)
   have hie : i = a.length := by omega
   subst hie
   have he := mS hlen hall
   refine fO ?_ trivial; simp only [go_sem, decide_eq_true he]
 have hlt : i < a.length := (by simpa using hc2); obtain ⟨l, hl, _, _⟩ := ix hlt
 obtain ⟨m, hm, _, _⟩ := ix (xs := b) (i := i) (by omega)
 refine wk (k8 (sq fun _ k9 => (wb (aj ?_))))
 refine sd mixed rfl fun _ k11 => ?_; simp only [go_sem, hl, hm, enA]; refine jr ?_
 refine bQ (fun hN => lstep_neqEnt rfl rfl hN rfl rfl) (.inl rfl) ?_
 simp only [go_sem, hl, hm, enA]; refine jr ?_; refine ⟨by rfl, ?_⟩; apply k11
 refine cd rfl (fun hc3 => ?_) fun hc3 => ?_
 · have hne : a ≠ b := fun e => by
     rw [e, hm] at hl; cases hl; simp at hc3
   refine aj (wR ?_)
   simp only [go_sem, lQ]; refine fO ?_ trivial; simp only [go_sem, decide_eq_false hne]
 · have hp : qJ a b i = true := by unfold qJ; rw [hl, hm]; simpa using hc3
   refine wk (jt (k9 ?_))
   refine jw (wiS i (by omega)) ?_
   refine jt ?_
   refine ⟨i + 1, ⟨by omega, bP hall hp⟩, by omega, [], ?_⟩
   simp only [go_sem] <;> simp
theorem sE (a b : List Int) (hz : a.length ≤ 4611686018427387904) : aB P 160 [.sl 1 (a.map inA), .sl 1 (b.map inA)] [] 0 (.raw (.bool (decide (a = b)))) := by
 refine pq 26 [.tmp 4] Tryz.func160 ?_
 refine aj ?_
 refine sq fun _ k2 => aj ?_
 refine cd rfl (fun hc1 => ?_) fun hc1 => ?_
 · have hne : a ≠ b := fun e => by rw [e] at hc1; simp at hc1
   refine aj (wR ?_)
   refine fO ?_ trivial; simp only [go_sem, decide_eq_false hne]
 have hlen : a.length = b.length := by simp at hc1; omega
 refine wk (k2 (sq fun _ k5 => (aj (wb ?_))))
 refine wl (α := Nat) (fun x => x ≤ a.length ∧ ∀ j, j < x → qJ a b j = true) (fun x => a.length - x) (fun x => ([(0, .sl 1 (a.map inA)), (1, .sl 1 (b.map inA)), (12, .raw (.int .i64 (a.length : Int))), (13, .raw (.int .i64 (x : Int)))], [])) 0 0 ⟨Nat.zero_le _, fun j hj => absurd hj (Nat.not_lt_zero _)⟩ [] ?_ ?_
 · simp only [go_sem, Int.natCast_zero] <;> simp
 rintro i ⟨hi, hall⟩
 refine aj ?_; refine sq fun _ k8 => ?_
 refine cdS rfl (fun hc2 => ?_) fun hc2 => ?_
 · have hge : a.length ≤ i := Nat.not_lt.1 (by simpa using hc2)
   refine we (jt (k5 ?_))
   refine aj (wR ?_)
   have hie : i = a.length := by omega
   subst hie
   have he := mS hlen hall
   refine fO ?_ trivial; simp only [go_sem, decide_eq_true he]
 have hlt : i < a.length := (by simpa using hc2); obtain ⟨l, hl, _, _⟩ := ix hlt
 obtain ⟨m, hm, _, _⟩ := ix (xs := b) (i := i) (by omega)
 refine wk (k8 (sq fun _ k9 => (wb (aj ?_))))
 refine sd mixed rfl fun _ k11 => ?_; simp only [go_sem, hl, hm, inA]; refine jr ?_; refine ⟨by rfl, ?_⟩; apply k11
 refine cd rfl (fun hc3 => ?_) fun hc3 => ?_
 · have hne : a ≠ b := fun e => by
     rw [e, hm] at hl; cases hl; simp at hc3
   refine aj (wR ?_)
   simp only [go_sem, lQ]; refine fO ?_ trivial; simp only [go_sem, decide_eq_false hne]
 · have hp : qJ a b i = true := by unfold qJ; rw [hl, hm]; simpa using hc3
   refine wk (jt (k9 ?_))
   refine jw (wiS i (by omega)) ?_
   refine jt ?_
   refine ⟨i + 1, ⟨by omega, bP hall hp⟩, by omega, [], ?_⟩
   simp only [go_sem] <;> simp
theorem w_impl_lowKey (r : Run) (h1 : 1 ≤ r.ents.length) : aB P 135 [rA r] [] 0 (.raw (.string (mV r))) := by
 refine pq 8 [.tmp 2] Tryz.func135 ?_
 simp only [rA]
 have hl : r.ents[0]? = some ((r.ents[0]?).getD lD) := by rw [List.getElem?_eq_getElem (by omega)]; rfl
 generalize hg : (r.ents[0]?).getD lD = l at hl
 have hk : mV r = l.key := by unfold mV; rw [hg]
 rw [hk]; refine aj ?_; refine sr rfl fun _ k2 => ?_; simp only [go_sem, hl, enA, Int.toNat_zero]
 refine jr (k2 (wR ?_))
 refine fO ?_ trivial; simp only [go_sem]
theorem w_impl_highKey (r : Run) (h1 : 1 ≤ r.ents.length) (h2 : r.ents.length ≤ 4611686018427387904) : aB P 136 [rA r] [] 0 (.raw (.string (iQ r))) := by
 refine pq 12 [.tmp 2] Tryz.func136 ?_
 simp only [rA]
 have hl : r.ents[r.ents.length - 1]? = some ((r.ents[r.ents.length - 1]?).getD lD) := by rw [List.getElem?_eq_getElem (by omega)]; rfl
 generalize hg : (r.ents[r.ents.length - 1]?).getD lD = l at hl
 have hk : iQ r = l.key := by unfold iQ; rw [hg]
 rw [hk]
 have hw1 : IntKind.i64.wrap ((r.ents.length : Int) - 1) = (r.ents.length : Int) - 1 := by rw [w64]; omega
 have hpn : ((r.ents.length : Int) - 1).toNat = r.ents.length - 1 := by omega
 refine aj ?_; refine sr rfl fun _ k2 => ?_; simp only [go_sem, hl, hw1, hpn, enA]
 refine jr (k2 (wR ?_))
 refine fO ?_ trivial; simp only [go_sem]
theorem wA (a b : Run) (hz : a.ents.length ≤ 4611686018427387904) : aB P 168 [rA a, rA b] [] 0 (.raw (.bool (decide (a.mask = b.mask) && decide (a.ents = b.ents)))) := by
 refine pq 17 [.tmp 4] Tryz.func168 ?_
 simp only [rA]; refine aj ?_
 refine sr rfl fun _ k2 => ja ?_
 refine vpg rfl rfl rfl rfl rfl rfl ⟨Tryz.func119, rfl, rfl⟩ (fun hg => bN a.ents b.ents hz) (by simp only [go_sem]) (fun hg => (by simp only [go_sem])) (by simp only [go_sem]) trivial ?_
 simp only [go_sem]
 refine k2 (wR (fO ?_ trivial))
 simp only [go_sem]
end
end Go.Proofs.S
end
