/-
  The abstract layer, the walks and the plain laws that the claim leans on, part 4 of 7 (working texts S5 to S15). It proves lemmas alone; no condition of its own.
-/
import Derived.Test.YthbibdnkiklemaaGreatDoorP3
import Derived.Laws.StructEq
import Derived.ChangeKeysEq
set_option linter.all false
set_option maxRecDepth 20000
section
open Go Go.Abs Go.Proofs
namespace Go.Proofs.S
theorem w_laws_eqEntry (e : Entry) : aB P 38 [enA e, enA e] [] 0 (.raw (.bool true)) := by
 refine pw (N := 30) (vs := [.tmp 4]) ⟨Tryz.func38, rfl, rfl⟩ rfl rfl (by simp) ?_
 simp only [eE, enA]; refine sr rfl fun _ J => ?_; simp only [go_sem]; apply J; refine sq fun _ k2 => ?_; refine sr rfl fun _ J => ?_; simp only [go_sem, beq_self_eq_true, Bool.not_true]; apply J
 refine cd rfl (fun hc => by simp at hc) fun hc1 => ?_
 refine wk ?_; apply k2; refine sq fun _ k4 => ?_; refine sr rfl fun _ J => ?_; simp only [go_sem, decide_true, Bool.not_true]; apply J
 refine cd rfl (fun hc => by simp at hc) fun hc2 => ?_
 refine wk ?_; apply k4; refine sq fun _ k6 => ?_; refine sr rfl fun _ J => ?_; simp only [go_sem, decide_true, Bool.not_true]; apply J
 refine cd rfl (fun hc => by simp at hc) fun hc3 => ?_
 refine wk ?_; apply k6; refine sq fun _ k8 => ?_; refine sr rfl fun _ J => ?_; simp only [go_sem, beq_self_eq_true, Bool.not_true]; apply J
 refine cd rfl (fun hc => by simp at hc) fun hc4 => ?_
 refine wk ?_; apply k8; refine sq fun _ k10 => ?_; refine sr rfl fun _ J => ?_; simp only [go_sem, decide_true, Bool.not_true]; apply J
 refine cd rfl (fun hc => by simp at hc) fun hc5 => ?_
 refine wk ?_; apply k10; refine sr rfl fun _ J => ?_; simp only [go_sem]; apply J; refine wR ?_; refine fO ?_ trivial; simp only [go_sem]
theorem w_laws_eqEntryS (ls : List Entry) (hs : sEnts ls) : aB P 14 [.sl 5 (ls.map enA), .sl 5 (ls.map enA)] [] 0 (.raw (.bool true)) := by
 refine pw (N := 27) (vs := [.tmp 4]) ⟨Tryz.func14, rfl, rfl⟩ rfl rfl (by simp) ?_
 simp only [eE]
 have hlen := hs.1
 refine sr rfl fun _ J => ?_; simp only [go_sem]; apply J; refine sq fun _ k2 => ?_; refine sr rfl fun _ J => ?_; simp only [go_sem, decide_true, Bool.not_true]; apply J
 refine cd rfl (fun hc => by simp at hc) fun hc1 => ?_
 refine wk ?_; apply k2; refine sq fun _ k4 => ?_; refine sr rfl fun _ J => ?_; simp only [go_sem]; apply J; refine wb ?_
 refine wl (α := Nat) (fun x => x ≤ ls.length) (fun x => ls.length - x) (fun x => ([(0, .sl 5 (ls.map enA)), (1, .sl 5 (ls.map enA)), (5, .raw (.int .i64 (x : Int)))], [])) 0 0 (Nat.zero_le _) [] ?_ ?_
 · simp only [go_sem, Int.natCast_zero] <;> simp
 rintro i hi
 refine sq fun _ k6 => ?_; refine sr rfl fun _ J => ?_; simp only [go_sem]; apply J
 refine cd rfl (fun hc2 => ?_) fun hc2 => ?_
 · have hlt : i < ls.length := (by simpa using hc2); obtain ⟨l, hl, hdrop, hml⟩ := ix hlt; refine wk ?_; apply k6; refine sq fun _ k8 => ?_; refine wb ?_; refine sd mixed rfl fun _ k9 => ?_; simp only [go_sem, hl, enA]
   refine ⟨⟨by omega, by omega⟩, ⟨by omega, by omega⟩, ?_⟩
   refine tp rfl rfl rfl ⟨Tryz.func38, rfl, rfl⟩ (w_laws_eqEntry l) (by simp only [go_sem, enA]) (by simp only [go_sem, enA]) ?_
   simp only [go_sem, Bool.not_true]
   repeat (first | refine ⟨by first | omega | (intro hg; simp at hg; omega), ?_⟩ | fail)
   refine ⟨by rfl, ?_⟩; apply k9
   refine cd rfl (fun hc => by simp at hc) fun hc3 => ?_
   refine wk ?_; try simp only [go_sem, lQ]
   apply k8
   have hw : IntKind.i64.wrap ((i : Int) + 1) = ((i + 1 : Nat) : Int) := by rw [IntKind.wrap_i64]; omega
   refine wg rfl ?_; simp only [go_sem, hw]; try simp only [go_sem, lQ]
   refine ⟨i + 1, by omega, by omega, [], ?_⟩
   simp only [go_sem] <;> simp
 have hge : ls.length ≤ i := Nat.not_lt.1 (by simpa using hc2)
 refine we ?_; try simp only [go_sem, lQ]
 apply k4; refine sr rfl fun _ J => ?_; simp only [go_sem]; apply J; refine wR ?_; refine fO ?_ trivial; simp only [go_sem]
theorem w_laws_eqIntS (ls : List Int) (hs : ls.length ≤ 1048576) : aB P 74 [.sl 1 (ls.map inA), .sl 1 (ls.map inA)] [] 0 (.raw (.bool true)) := by
 refine pw (N := 26) (vs := [.tmp 4]) ⟨Tryz.func74, rfl, rfl⟩ rfl rfl (by simp) ?_
 simp only [eE]
 have hlen := hs
 refine sr rfl fun _ J => ?_; simp only [go_sem]; apply J; refine sq fun _ k2 => ?_; refine sr rfl fun _ J => ?_; simp only [go_sem, decide_true, Bool.not_true]; apply J
 refine cd rfl (fun hc => by simp at hc) fun hc1 => ?_
 refine wk ?_; apply k2; refine sq fun _ k4 => ?_; refine sr rfl fun _ J => ?_; simp only [go_sem]; apply J; refine wb ?_
 refine wl (α := Nat) (fun x => x ≤ ls.length) (fun x => ls.length - x) (fun x => ([(0, .sl 1 (ls.map inA)), (1, .sl 1 (ls.map inA)), (5, .raw (.int .i64 (x : Int)))], [])) 0 0 (Nat.zero_le _) [] ?_ ?_
 · simp only [go_sem, Int.natCast_zero] <;> simp
 rintro i hi
 refine sq fun _ k6 => ?_; refine sr rfl fun _ J => ?_; simp only [go_sem]; apply J
 refine cd rfl (fun hc2 => ?_) fun hc2 => ?_
 · have hlt : i < ls.length := (by simpa using hc2); obtain ⟨l, hl, hdrop, hml⟩ := ix hlt; refine wk ?_; apply k6; refine sq fun _ k8 => ?_; refine wb ?_; refine sd mixed rfl fun _ k9 => ?_; simp only [go_sem, hl, inA, decide_true, Bool.not_true]
   refine ⟨⟨by omega, by omega⟩, ⟨by omega, by omega⟩, ?_⟩
   refine ⟨by rfl, ?_⟩; apply k9
   refine cd rfl (fun hc => by simp at hc) fun hc3 => ?_
   refine wk ?_; try simp only [go_sem, lQ]
   apply k8
   have hw : IntKind.i64.wrap ((i : Int) + 1) = ((i + 1 : Nat) : Int) := by rw [IntKind.wrap_i64]; omega
   refine wg rfl ?_; simp only [go_sem, hw]; try simp only [go_sem, lQ]
   refine ⟨i + 1, by omega, by omega, [], ?_⟩
   simp only [go_sem] <;> simp
 have hge : ls.length ≤ i := Nat.not_lt.1 (by simpa using hc2)
 refine we ?_; try simp only [go_sem, lQ]
 apply k4; refine sr rfl fun _ J => ?_; simp only [go_sem]; apply J; refine wR ?_; refine fO ?_ trivial; simp only [go_sem]
theorem w_laws_eqRun (r : Run) (hs : sEnts r.ents) : aB P 174 [rA r, rA r] [] 0 (.raw (.bool true)) := by
 refine pw (N := 16) (vs := [.tmp 4]) ⟨Tryz.func174, rfl, rfl⟩ rfl rfl (by simp) ?_
 simp only [eE, rA]; refine sr rfl fun _ J => ?_; simp only [go_sem]; apply J; refine sq fun _ k2 => ?_; refine sr rfl fun _ k3 => ?_; simp only [go_sem]
 refine vp rfl rfl rfl ⟨Tryz.func14, rfl, rfl⟩ (w_laws_eqEntryS r.ents hs) (by simp only [go_sem]) (by simp only [go_sem]) ?_
 simp only [go_sem, Bool.not_true]; apply k3
 refine cd rfl (fun hc => by simp at hc) fun hc1 => ?_
 refine wk ?_; apply k2; refine sq fun _ k4 => ?_; refine sr rfl fun _ J => ?_; simp only [go_sem, decide_true, Bool.not_true]; apply J
 refine cd rfl (fun hc => by simp at hc) fun hc2 => ?_
 refine wk ?_; apply k4; refine sr rfl fun _ J => ?_; simp only [go_sem]; apply J; refine wR ?_; refine fO ?_ trivial; simp only [go_sem]
theorem w_laws_eqRunS (ls : List Run) (hs : sRuns ls) : aB P 128 [.sl 2 (ls.map rA), .sl 2 (ls.map rA)] [] 0 (.raw (.bool true)) := by
 refine pw (N := 27) (vs := [.tmp 4]) ⟨Tryz.func128, rfl, rfl⟩ rfl rfl (by simp) ?_
 simp only [eE]
 have hlen := hs.1
 refine sr rfl fun _ J => ?_; simp only [go_sem]; apply J; refine sq fun _ k2 => ?_; refine sr rfl fun _ J => ?_; simp only [go_sem, decide_true, Bool.not_true]; apply J
 refine cd rfl (fun hc => by simp at hc) fun hc1 => ?_
 refine wk ?_; apply k2; refine sq fun _ k4 => ?_; refine sr rfl fun _ J => ?_; simp only [go_sem]; apply J; refine wb ?_
 refine wl (α := Nat) (fun x => x ≤ ls.length) (fun x => ls.length - x) (fun x => ([(0, .sl 2 (ls.map rA)), (1, .sl 2 (ls.map rA)), (5, .raw (.int .i64 (x : Int)))], [])) 0 0 (Nat.zero_le _) [] ?_ ?_
 · simp only [go_sem, Int.natCast_zero] <;> simp
 rintro i hi
 refine sq fun _ k6 => ?_; refine sr rfl fun _ J => ?_; simp only [go_sem]; apply J
 refine cd rfl (fun hc2 => ?_) fun hc2 => ?_
 · have hlt : i < ls.length := (by simpa using hc2); obtain ⟨l, hl, hdrop, hml⟩ := ix hlt; refine wk ?_; apply k6; refine sq fun _ k8 => ?_; refine wb ?_; refine sd mixed rfl fun _ k9 => ?_; simp only [go_sem, hl, rA]
   refine ⟨⟨by omega, by omega⟩, ⟨by omega, by omega⟩, ?_⟩
   refine tp rfl rfl rfl ⟨Tryz.func174, rfl, rfl⟩ (w_laws_eqRun l (hs.2 l hml)) (by simp only [go_sem, rA]) (by simp only [go_sem, rA]) ?_
   simp only [go_sem, Bool.not_true]
   repeat (first | refine ⟨by first | omega | (intro hg; simp at hg; omega), ?_⟩ | fail)
   refine ⟨by rfl, ?_⟩; apply k9
   refine cd rfl (fun hc => by simp at hc) fun hc3 => ?_
   refine wk ?_; try simp only [go_sem, lQ]
   apply k8
   have hw : IntKind.i64.wrap ((i : Int) + 1) = ((i + 1 : Nat) : Int) := by rw [IntKind.wrap_i64]; omega
   refine wg rfl ?_; simp only [go_sem, hw]; try simp only [go_sem, lQ]
   refine ⟨i + 1, by omega, by omega, [], ?_⟩
   simp only [go_sem] <;> simp
 have hge : ls.length ≤ i := Nat.not_lt.1 (by simpa using hc2)
 refine we ?_; try simp only [go_sem, lQ]
 apply k4; refine sr rfl fun _ J => ?_; simp only [go_sem]; apply J; refine wR ?_; refine fO ?_ trivial; simp only [go_sem]
theorem w_laws_eqRunSS (ls : List (List Run)) (hs : sLvs ls) : aB P 73 [.sl 1 (ls.map rsA), .sl 1 (ls.map rsA)] [] 0 (.raw (.bool true)) := by
 refine pw (N := 27) (vs := [.tmp 4]) ⟨Tryz.func73, rfl, rfl⟩ rfl rfl (by simp) ?_
 simp only [eE]
 have hlen := hs.1
 refine sr rfl fun _ J => ?_; simp only [go_sem]; apply J; refine sq fun _ k2 => ?_; refine sr rfl fun _ J => ?_; simp only [go_sem, decide_true, Bool.not_true]; apply J
 refine cd rfl (fun hc => by simp at hc) fun hc1 => ?_
 refine wk ?_; apply k2; refine sq fun _ k4 => ?_; refine sr rfl fun _ J => ?_; simp only [go_sem]; apply J; refine wb ?_
 refine wl (α := Nat) (fun x => x ≤ ls.length) (fun x => ls.length - x) (fun x => ([(0, .sl 1 (ls.map rsA)), (1, .sl 1 (ls.map rsA)), (5, .raw (.int .i64 (x : Int)))], [])) 0 0 (Nat.zero_le _) [] ?_ ?_
 · simp only [go_sem, Int.natCast_zero] <;> simp
 rintro i hi
 refine sq fun _ k6 => ?_; refine sr rfl fun _ J => ?_; simp only [go_sem]; apply J
 refine cd rfl (fun hc2 => ?_) fun hc2 => ?_
 · have hlt : i < ls.length := (by simpa using hc2); obtain ⟨l, hl, hdrop, hml⟩ := ix hlt; refine wk ?_; apply k6; refine sq fun _ k8 => ?_; refine wb ?_; refine sd mixed rfl fun _ k9 => ?_; simp only [go_sem, hl, rsA]
   refine ⟨⟨by omega, by omega⟩, ⟨by omega, by omega⟩, ?_⟩
   refine tp rfl rfl rfl ⟨Tryz.func128, rfl, rfl⟩ (w_laws_eqRunS l (hs.2 l hml)) (by simp only [go_sem, rsA]) (by simp only [go_sem, rsA]) ?_
   simp only [go_sem, Bool.not_true]
   repeat (first | refine ⟨by first | omega | (intro hg; simp at hg; omega), ?_⟩ | fail)
   refine ⟨by rfl, ?_⟩; apply k9
   refine cd rfl (fun hc => by simp at hc) fun hc3 => ?_
   refine wk ?_; try simp only [go_sem, lQ]
   apply k8
   have hw : IntKind.i64.wrap ((i : Int) + 1) = ((i + 1 : Nat) : Int) := by rw [IntKind.wrap_i64]; omega
   refine wg rfl ?_; simp only [go_sem, hw]; try simp only [go_sem, lQ]
   refine ⟨i + 1, by omega, by omega, [], ?_⟩
   simp only [go_sem] <;> simp
 have hge : ls.length ≤ i := Nat.not_lt.1 (by simpa using hc2)
 refine we ?_; try simp only [go_sem, lQ]
 apply k4; refine sr rfl fun _ J => ?_; simp only [go_sem]; apply J; refine wR ?_; refine fO ?_ trivial; simp only [go_sem]
theorem w_laws_eqTree (t : Tree) (h1 : sEnts t.mem) (h2 : sLvs t.levels) (h3 : t.snaps.length ≤ 1048576) : aB P 36 [trA t, trA t] [] 0 (.raw (.bool true)) := by
 refine pw (N := 28) (vs := [.tmp 4]) ⟨Tryz.func36, rfl, rfl⟩ rfl rfl (by simp) ?_
 simp only [eE, trA]; refine sr rfl fun _ J => ?_; simp only [go_sem]; apply J; refine sq fun _ k2 => ?_; refine sr rfl fun _ J => ?_; simp only [go_sem, decide_true, Bool.not_true]; apply J
 refine cd rfl (fun hc => by simp at hc) fun hc1 => ?_
 refine wk ?_; apply k2; refine sq fun _ k4 => ?_; refine sr rfl fun _ k5 => ?_; simp only [go_sem]
 refine vp rfl rfl rfl ⟨Tryz.func14, rfl, rfl⟩ (w_laws_eqEntryS t.mem h1) (by simp only [go_sem]) (by simp only [go_sem]) ?_
 simp only [go_sem, Bool.not_true]; apply k5
 refine cd rfl (fun hc => by simp at hc) fun hc2 => ?_
 refine wk ?_; apply k4; refine sq fun _ k6 => ?_; refine sr rfl fun _ k7 => ?_; simp only [go_sem]
 refine vp rfl rfl rfl ⟨Tryz.func73, rfl, rfl⟩ (w_laws_eqRunSS t.levels h2) (by simp only [go_sem]) (by simp only [go_sem]) ?_
 simp only [go_sem, Bool.not_true]; apply k7
 refine cd rfl (fun hc => by simp at hc) fun hc3 => ?_
 refine wk ?_; apply k6; refine sq fun _ k8 => ?_; refine sr rfl fun _ k9 => ?_; simp only [go_sem]
 refine vp rfl rfl rfl ⟨Tryz.func74, rfl, rfl⟩ (w_laws_eqIntS t.snaps h3) (by simp only [go_sem]) (by simp only [go_sem]) ?_
 simp only [go_sem, Bool.not_true]; apply k9
 refine cd rfl (fun hc => by simp at hc) fun hc4 => ?_
 refine wk ?_; apply k8; refine sr rfl fun _ J => ?_; simp only [go_sem]; apply J; refine wR ?_; refine fO ?_ trivial; simp only [go_sem]
theorem w_laws_eqDisk (d : Disk) (h2 : sLvs d.levels) : aB P 37 [dkA d, dkA d] [] 0 (.raw (.bool true)) := by
 refine pw (N := 26) (vs := [.tmp 4]) ⟨Tryz.func37, rfl, rfl⟩ rfl rfl (by simp) ?_
 simp only [eE, dkA]; refine sr rfl fun _ J => ?_; simp only [go_sem]; apply J; refine sq fun _ k2 => ?_; refine sr rfl fun _ J => ?_; simp only [go_sem, beq_self_eq_true, Bool.not_true]; apply J
 refine cd rfl (fun hc => by simp at hc) fun hc1 => ?_
 refine wk ?_; apply k2; refine sq fun _ k4 => ?_; refine sr rfl fun _ J => ?_; simp only [go_sem, decide_true, Bool.not_true]; apply J
 refine cd rfl (fun hc => by simp at hc) fun hc2 => ?_
 refine wk ?_; apply k4; refine sq fun _ k6 => ?_; refine sr rfl fun _ k7 => ?_; simp only [go_sem]
 refine vp rfl rfl rfl ⟨Tryz.func73, rfl, rfl⟩ (w_laws_eqRunSS d.levels h2) (by simp only [go_sem]) (by simp only [go_sem]) ?_
 simp only [go_sem, Bool.not_true]; apply k7
 refine cd rfl (fun hc => by simp at hc) fun hc3 => ?_
 refine wk ?_; apply k6; refine sq fun _ k8 => ?_; refine sr rfl fun _ J => ?_; simp only [go_sem, decide_true, Bool.not_true]; apply J
 refine cd rfl (fun hc => by simp at hc) fun hc4 => ?_
 refine wk ?_; apply k8; refine sr rfl fun _ J => ?_; simp only [go_sem]; apply J; refine wR ?_; refine fO ?_ trivial; simp only [go_sem]
theorem w_laws_eqStore (s : Store) (h1 : sEnts s.tree.mem) (h2 : sLvs s.tree.levels) (h3 : s.tree.snaps.length ≤ 1048576) (h4 : sLvs s.disk.levels) : aB P 13 [stA s, stA s] [] 0 (.raw (.bool true)) := by
 refine pw (N := 22) (vs := [.tmp 4]) ⟨Tryz.func13, rfl, rfl⟩ rfl rfl (by simp) ?_
 simp only [eE, stA]; refine sr rfl fun _ J => ?_; simp only [go_sem]; apply J; refine sq fun _ k2 => ?_; refine sr rfl fun _ J => ?_; simp only [go_sem, bne_self_eq_false, decide_true, Bool.not_true, beq_self_eq_true]; apply J
 refine cd rfl (fun hc => by simp at hc) fun hc1 => ?_
 refine wk ?_; apply k2; refine sq fun _ k4 => ?_; refine sr rfl fun _ k5 => ?_; simp only [go_sem]
 refine vp rfl rfl rfl ⟨Tryz.func36, rfl, rfl⟩ (w_laws_eqTree s.tree h1 h2 h3) (by simp only [go_sem, trA]) (by simp only [go_sem, trA]) ?_
 simp only [go_sem, Bool.not_true]; apply k5
 refine cd rfl (fun hc => by simp at hc) fun hc2 => ?_
 refine wk ?_; apply k4; refine sq fun _ k6 => ?_; refine sr rfl fun _ k7 => ?_; simp only [go_sem]
 refine vp rfl rfl rfl ⟨Tryz.func37, rfl, rfl⟩ (w_laws_eqDisk s.disk h4) (by simp only [go_sem, dkA]) (by simp only [go_sem, dkA]) ?_
 simp only [go_sem, Bool.not_true]; apply k7
 refine cd rfl (fun hc => by simp at hc) fun hc3 => ?_
 refine wk ?_; apply k6; refine sr rfl fun _ J => ?_; simp only [go_sem]; apply J; refine wR ?_; refine fO ?_ trivial; simp only [go_sem]
section
def dig (k : Int) : ByteArray := ByteArray.empty.push (UInt8.ofNat (IntKind.u8.wrap (IntKind.i64.wrap (48 + k.tmod 10))).toNat)
def digs : Nat → Int → ByteArray → ByteArray
  | 0, _, out => out
  | f + 1, k, out => if k ≤ 0 then out else digs f (k.tdiv 10) (dig k ++ out)
def markTxt (k : Int) : ByteArray := if k ≤ 0 then ⟨#[109, 48]⟩ else ⟨#[109]⟩ ++ digs 20 k ⟨#[]⟩
theorem FB : Tryz.prog.underlying 100 = some (.slice 5) ∧ Tryz.prog.underlying 5 = some (.int .u8) ∧ Tryz.prog.underlying 9 = some .string := by refine ⟨?_, ?_, ?_⟩ <;> kernel_rfl
theorem FI : intInfo Tryz.prog 3 = some .i64 ∧ intInfo Tryz.prog 5 = some .u8 := by refine ⟨?_, ?_⟩ <;> kernel_rfl
theorem h10 : ((10 : Int) = 0) = False := by simp
theorem w_laws_markText (k : Int) (hk : k < 1000000000000000000) : aB P 41 [.raw (.int .i64 k)] [] 0 (.raw (.string (markTxt k))) := by
  refine pw (N := 20) (vs := [.tmp 2]) ⟨Tryz.func41, rfl, rfl⟩ rfl rfl (by simp) ?_
  simp only [eE]; refine sq fun K1 hK1 => ?_; refine wg rfl ?_; simp only [go_sem]
  apply hK1; clear hK1 K1
  refine sq fun K2 hK2 => ?_; refine sq fun K3 hK3 => ?_; refine wg rfl ?_; simp only [go_sem]
  apply hK3; clear hK3 K3
  refine cd rfl ?_ ?_
  · intro hc1
    have h0 : k ≤ 0 := by simpa using hc1
    refine sq fun K4 hK4 => ?_; refine wg rfl ?_; simp only [go_sem]
    apply hK4; clear hK4 K4
    refine wR (fO ?_ trivial)
    simp only [go_sem, markTxt, h0]
  intro hc1
  have h0 : ¬ k ≤ 0 := by simpa using hc1
  refine wk ?_; try simp only [athen]
  apply hK2; clear hK2 K2
  refine sq fun K6 hK6 => ?_; refine wg rfl ?_; simp only [go_sem]
  apply hK6; clear hK6 K6
  refine sq fun K5 hK5 => ?_; refine wb ?_
  refine wl (α := Nat × Int × ByteArray) (fun x => 0 ≤ x.2.1 ∧ x.2.1 < 10 ^ x.1 ∧ x.2.2.size + x.1 ≤ 20 ∧ x.2.1 < 1000000000000000000 ∧ digs x.1 x.2.1 x.2.2 = digs 20 k ⟨#[]⟩) (fun x => x.2.1.toNat) (fun x => ([(0, .raw (.int .i64 x.2.1)), (3, .raw (.string x.2.2))], [])) 0 (20, k, ⟨#[]⟩) ⟨by simp only; omega, by simp only; omega, by simp [ByteArray.size], hk, rfl⟩ [] ?_ ?_
  · simp only [go_sem] <;> simp
  rintro ⟨f, m, out⟩ ⟨hm0, hmf, hsz, hmk, hd⟩
  simp only at hm0 hmf hsz hmk hd ⊢
  refine sq fun K7 hK7 => ?_; refine sq fun K8 hK8 => ?_; refine wg rfl ?_; simp only [go_sem]
  apply hK8; clear hK8 K8
  refine cd rfl ?_ ?_
  · intro hc2
    have hpos : 0 < m := by simpa using hc2
    obtain ⟨g, rfl⟩ : ∃ g, f = g + 1 := by
      cases f with
      | zero => simp at hmf; omega
      | succ g => exact ⟨g, rfl⟩
    refine wk ?_; try simp only [athen]
    apply hK7; clear hK7 K7
    refine wb ?_; refine sq fun K9 hK9 => ?_; refine wg rfl ?_; simp only [go_sem, FI, h10, Option.isSome_some]
    refine vC (fun hN => lstep_byteStr (n := IntKind.u8.wrap (IntKind.i64.wrap (48 + m.tmod 10))) rfl rfl hN FB.1 FB.2.1 FB.2.2 rfl rfl) (.inl rfl) ?_
    have hd1 : ByteArray.empty.push (UInt8.ofNat (IntKind.u8.wrap (IntKind.i64.wrap (48 + m.tmod 10))).toNat) = dig m := rfl
    have hds : (dig m).size = 1 := rfl
    have hsz' : (dig m).size + out.size ≤ 9223372036854775807 := by rw [hds]; omega
    simp only [go_sem, hd1]
    refine ⟨hsz', ?_⟩
    apply hK9; clear hK9 K9
    refine wg rfl ?_
    have hq : m.tdiv 10 = m / 10 := Int.tdiv_eq_ediv_of_nonneg (by omega)
    have hwq : IntKind.i64.wrap (m.tdiv 10) = m.tdiv 10 := by
      rw [IntKind.wrap_i64, hq]; omega
    simp only [go_sem, FI, h10, hwq, Option.isSome_some]; simp only [lQ]
    have hstep : digs (g + 1) m out = digs g (m.tdiv 10) (dig m ++ out) := by simp [digs]; omega
    refine ⟨(g, m.tdiv 10, dig m ++ out), ⟨by simp only; omega, ?_, ?_, by simp only; omega, by rw [← hd, hstep]⟩, ?_, [], ?_⟩
    · simp only
      rw [hq]
      have h9 : m < 10 ^ g * 10 := by rw [← Int.pow_succ]; exact hmf
      omega
    · simp only [ByteArray.size_append]
      rw [hds]; omega
    · simp only; omega
    simp only [go_sem] <;> simp
  intro hc2
  have hm : m ≤ 0 := by have h9 : ¬ 0 < m := (by simpa using hc2); omega
  refine we ?_; try simp only [go_sem, lQ]
  clear hK7 K7
  apply hK5; clear hK5 K5
  have hm' : m = 0 := by omega
  subst hm'
  have hd0 : digs f 0 out = out := by cases f <;> simp [digs]
  rw [hd0] at hd; refine sq fun K10 hK10 => ?_; refine wg rfl ?_
  have hsz' : (#[(109 : UInt8)] : Array UInt8).size + out.size ≤ 9223372036854775807 := by
    have : (#[(109 : UInt8)] : Array UInt8).size = 1 := rfl
    omega
  simp only [go_sem]
  refine ⟨hsz', ?_⟩
  apply hK10; clear hK10 K10
  refine wR (fO ?_ trivial)
  simp only [go_sem, markTxt, h0, ← hd]
section
variable {α : Type} (mk : α → Int → α) (st : α → Int → Int)
def mGo : List α → Int → List α
  | [], _ => []
  | x :: r, k => mk x k :: mGo r (st x k)
def kGo : List α → Int → Int
  | [], k => k
  | x :: r, k => kGo r (st x k)
theorem kGo_app : ∀ (xs ys : List α) (k : Int), kGo st (xs ++ ys) k = kGo st ys (kGo st xs k)
  | [], ys, k => rfl
  | x :: r, ys, k => by simp only [List.cons_append, kGo, kGo_app r ys]
theorem kGo_ge (h : ∀ x k, k ≤ st x k) : ∀ (xs : List α) (k : Int), k ≤ kGo st xs k
  | [], k => Int.le_refl _
  | x :: r, k => by
    have h1 := h x k
    have h2 := kGo_ge h r (st x k)
    simp only [kGo]; omega
theorem kGo_succ {ls : List α} {k : Int} {i : Nat} {x : α} (h : ls[i]? = some x) : kGo st (ls.take (i + 1)) k = st x (kGo st (ls.take i) k) := by
  rw [List.take_add_one, h, kGo_app]; rfl
theorem dG (h : ∀ x k, k ≤ st x k) (ls : List α) (k : Int) (i : Nat) : k ≤ kGo st (ls.take i) k ∧ kGo st (ls.take i) k ≤ kGo st ls k := by
  refine ⟨kGo_ge st h _ _, ?_⟩
  have h1 := kGo_app st (ls.take i) (ls.drop i) k
  rw [List.take_append_drop] at h1; rw [h1]
  exact kGo_ge st h _ _
theorem mGo_len : ∀ (ls : List α) (k : Int), (mGo mk st ls k).length = ls.length
  | [], _ => rfl
  | _ :: r, k => by simp [mGo, mGo_len r]
theorem mGo_app : ∀ (xs ys : List α) (k : Int), mGo mk st (xs ++ ys) k = mGo mk st xs k ++ mGo mk st ys (kGo st xs k)
  | [], ys, k => rfl
  | x :: r, ys, k => by simp only [List.cons_append, mGo, kGo, mGo_app r ys]
theorem mGo_get : ∀ {ls : List α} (k : Int) {i : Nat} {x : α}, ls[i]? = some x → (mGo mk st ls k)[i]? = some (mk x (kGo st (ls.take i) k))
  | [], _, _, _, h => by simp at h
  | y :: r, k, 0, x, h => by simp at h; subst h; simp [mGo, kGo]
  | y :: r, k, i + 1, x, h => by
    simp only [mGo, List.getElem?_cons_succ, List.take_succ_cons, kGo]
    exact mGo_get _ (by simpa using h)
def mAt (ls : List α) (k : Int) (i : Nat) : List α := mGo mk st (ls.take i) k ++ ls.drop i
theorem mAt_zero (ls : List α) (k : Int) : mAt mk st ls k 0 = ls := by simp [mAt, mGo]
theorem mAt_end (ls : List α) (k : Int) : mAt mk st ls k ls.length = mGo mk st ls k := by simp [mAt]
theorem mAt_len (ls : List α) (k : Int) (i : Nat) : (mAt mk st ls k i).length = ls.length := by simp [mAt, mGo_len]; omega
theorem mAt_get {ls : List α} (k : Int) {i : Nat} {l : α} (h : ls[i]? = some l) : (mAt mk st ls k i)[i]? = some l := by
  have hlt := (List.getElem?_eq_some_iff.1 h).1
  have hl : (mGo mk st (ls.take i) k).length = i := by rw [mGo_len, List.length_take]; omega
  unfold mAt; rw [List.getElem?_append_right (by omega), hl, Nat.sub_self, drop_get h]; rfl
theorem mAt_set {ls : List α} (k : Int) {i : Nat} {l : α} (h : ls[i]? = some l) : (mAt mk st ls k i).set i (mk l (kGo st (ls.take i) k)) = mAt mk st ls k (i + 1) := by
  have hlt := (List.getElem?_eq_some_iff.1 h).1
  have hl : (mGo mk st (ls.take i) k).length = i := by rw [mGo_len, List.length_take]; omega
  unfold mAt; rw [List.set_append_right _ _ (by omega), hl, Nat.sub_self, drop_get h, List.set_cons_zero, List.take_add_one, h, Option.toList_some, mGo_app]
  simp [mGo]
end
def stE (_ : Entry) (k : Int) : Int := k + 5
def cJ (_ : Entry) (k : Int) : Entry := ⟨markTxt k, k + 1, k + 2, markTxt (k + 3), k + 4⟩
def stI (_ : Int) (k : Int) : Int := k + 1
def markInt (_ : Int) (k : Int) : Int := k
def stR (r : Run) (k : Int) : Int := kGo stE r.ents k + 1
def aO (r : Run) (k : Int) : Run := ⟨mGo cJ stE r.ents k, kGo stE r.ents k⟩
abbrev kRuns := kGo stR
theorem stE_ge (x : Entry) (k : Int) : k ≤ stE x k := by unfold stE; omega
theorem stI_ge (x : Int) (k : Int) : k ≤ stI x k := by unfold stI; omega
theorem stR_ge (x : Run) (k : Int) : k ≤ stR x k := by have := kGo_ge stE stE_ge x.ents k; unfold stR; omega
theorem stL_ge (x : List Run) (k : Int) : k ≤ kRuns x k := kGo_ge stR stR_ge x k
theorem fit_one {H : Heap} {k : Nat} {o o' : AObj} (h : get H k = some (o.ren (sg [(0, k)]))) (hb : o.bel (UU 1)) : FitC H [(0, k)] [(0, o)] 1 0 [(0, o')] where
  objs := ⟨h, .inl (by omega), hb, trivial⟩
  inj := by simp
  cov := fun i hi => by have : i = 0 := by omega
                        subst this; rfl
  sk := fun p hp => by rw [List.mem_singleton.1 hp]; rfl
  dom := fun p hp => by rw [List.mem_singleton.1 hp]; exact .inl rfl
  all := fun p hp => by rw [List.mem_singleton.1 hp]; rfl
  far := by omega
theorem w_laws_markEntryS (ls : List Entry) (k : Int) (hs : sEnts ls) (h0 : 0 ≤ k) (hk : kGo stE ls k ≤ 1000000000000000000) : aD P 16 [.ref 0, .raw (.int .i64 k)] [(0, .row 65 5 (ls.map enA))] 1 (.raw (.int .i64 (kGo stE ls k))) [(0, .row 65 5 ((mGo cJ stE ls k).map enA))] 1 := by
 refine gw (N := 50) (vs := [.tmp 4]) ⟨Tryz.func16, rfl, rfl⟩ rfl rfl (by simp) ?_
 simp only [eE]
 have hlen := hs.1
 refine sr rfl fun _ J => ?_; simp only [go_sem]; apply J; refine sq fun _ k2 => ?_; refine sr rfl fun _ J => ?_; simp only [go_sem]; apply J; refine wb ?_
 refine wl (α := Nat) (fun x => x ≤ ls.length) (fun x => ls.length - x) (fun x => ([(0, .ref 0), (1, .raw (.int .i64 (kGo stE (ls.take x) k))), (5, .raw (.int .i64 (x : Int)))], [(0, .row 65 5 ((mAt cJ stE ls k x).map enA))])) 1 0 (Nat.zero_le _) [] ?_ ?_
 · rw [mAt_zero]
   simp only [go_sem, AObj.bel, Nat.reduceLeDiff, Nat.reduceLT, Nat.reduceAdd, kGo, List.take_zero, Int.natCast_zero] <;> simp
 rintro i hi
 refine sq fun _ k4 => ?_
 have hmal := mAt_len cJ stE ls k i
 refine sr rfl fun _ J => ?_; simp only [go_sem, hmal]; apply J
 refine cd rfl (fun hc1 => ?_) fun hc1 => ?_
 · have hlt : i < ls.length := (by simpa using hc1); obtain ⟨l, hl, hdrop, hml⟩ := ix hlt
   have hgL := mAt_get cJ stE k hl
   have hset := mAt_set cJ stE k hl
   have hks := kGo_succ stE (k := k) hl
   have hkb := dG stE stE_ge ls k i
   have hkb2 := dG stE stE_ge ls k (i + 1)
   rw [hks] at hkb2
   have hmal := mAt_len cJ stE ls k i
   generalize hkk : kGo stE (ls.take i) k = kk at hks hkb hkb2 hset ⊢
   have hse : stE l kk = kk + 5 := rfl
   rw [hse] at hkb2
   have hg0 : ((mAt cJ stE ls k i).map enA)[i]? = some (.agg [.raw (.string l.key), .raw (.int .i64 l.seq), .raw (.int .i64 l.kind), .raw (.string l.text), .raw (.int .i64 l.n)]) := by rw [List.getElem?_map, hgL]; rfl
   have hgs : ∀ a, (((mAt cJ stE ls k i).map enA).set i a)[i]? = some a := fun a => set_get_eq hg0
   have hw1 : IntKind.i64.wrap (kk + 1) = kk + 1 := by rw [IntKind.wrap_i64]; omega
   have hw2 : IntKind.i64.wrap (kk + 1 + 1) = kk + 2 := by rw [IntKind.wrap_i64]; omega
   have hw3 : IntKind.i64.wrap (kk + 2 + 1) = kk + 3 := by rw [IntKind.wrap_i64]; omega
   have hw4 : IntKind.i64.wrap (kk + 3 + 1) = kk + 4 := by rw [IntKind.wrap_i64]; omega
   have hw5 : IntKind.i64.wrap (kk + 4 + 1) = kk + 5 := by rw [IntKind.wrap_i64]; omega
   refine wk ?_; apply k4; refine sq fun _ k6 => ?_; refine wb ?_; refine sr rfl fun _ k7 => ?_; simp only [go_sem]
   repeat (first | refine ⟨by first | omega | (intro hg; simp at hg; omega), ?_⟩ | fail)
   refine vp rfl rfl rfl ⟨Tryz.func41, rfl, rfl⟩ (w_laws_markText kk (by omega)) rfl (by simp only [go_sem]) ?_
   simp only [go_sem, hg0, enA, hmal]
   refine ⟨⟨by omega, by omega⟩, ?_⟩
   apply k7; refine sr rfl fun _ J => ?_; simp only [go_sem, hw1]; apply J; refine sr rfl fun _ k9 => ?_; simp only [go_sem, hgs, hmal, List.length_set]
   refine ⟨⟨by omega, by omega⟩, ?_⟩
   apply k9; refine sr rfl fun _ J => ?_; simp only [go_sem, hw2]; apply J; refine sr rfl fun _ k11 => ?_; simp only [go_sem, hgs, hmal, List.length_set, List.set_set]
   refine ⟨⟨by omega, by omega⟩, ?_⟩
   apply k11; refine sr rfl fun _ J => ?_; simp only [go_sem, hw3]; apply J; refine sr rfl fun _ k13 => ?_; simp only [go_sem]
   repeat (first | refine ⟨by first | omega | (intro hg; simp at hg; omega), ?_⟩ | fail)
   refine vp rfl rfl rfl ⟨Tryz.func41, rfl, rfl⟩ (w_laws_markText (kk + 3) (by omega)) rfl (by simp only [go_sem]) ?_
   simp only [go_sem, hgs, hmal, List.length_set, List.set_set]
   refine ⟨⟨by omega, by omega⟩, ?_⟩
   apply k13; refine sr rfl fun _ J => ?_; simp only [go_sem, hw4]; apply J; refine sr rfl fun _ k15 => ?_; simp only [go_sem, hgs, hmal, List.length_set, List.set_set]
   refine ⟨⟨by omega, by omega⟩, ?_⟩
   apply k15; refine wg rfl ?_; simp only [go_sem, hw5]; try simp only [go_sem, lQ]
   apply k6
   have hw : IntKind.i64.wrap ((i : Int) + 1) = ((i + 1 : Nat) : Int) := by rw [IntKind.wrap_i64]; omega
   have hset : ((mAt cJ stE ls k i).map enA).set i (.agg [.raw (.string (markTxt kk)), .raw (.int .i64 (kk + 1)), .raw (.int .i64 (kk + 2)), .raw (.string (markTxt (kk + 3))), .raw (.int .i64 (kk + 4))]) = (mAt cJ stE ls k (i + 1)).map enA := by
     rw [← hset, List.map_set]; rfl
   rw [hset]; refine wg rfl ?_; simp only [go_sem, hw]; try simp only [go_sem, lQ]
   refine ⟨i + 1, by omega, by omega, [], ?_⟩
   rw [hks]
   simp only [go_sem, AObj.bel, Nat.reduceLeDiff, Nat.reduceLT, Nat.reduceAdd, stE] <;> simp
 have hge : ls.length ≤ i := Nat.not_lt.1 (by simpa using hc1)
 refine we ?_; try simp only [go_sem, lQ]
 apply k2; refine sr rfl fun _ J => ?_; simp only [go_sem]; apply J; refine wR ?_
 have hie : i = ls.length := by omega
 subst hie; rw [mAt_end, List.take_length]; refine ⟨[], ?_⟩
 simp only [go_sem, AObj.bel, Nat.reduceLeDiff, Nat.reduceLT, Nat.reduceAdd] <;> simp
theorem w_laws_markIntS (ls : List Int) (k : Int) (hs : ls.length ≤ 1048576) (h0 : 0 ≤ k) (hk : kGo stI ls k ≤ 1000000000000000000) : aD P 76 [.ref 0, .raw (.int .i64 k)] [(0, .row 3 1 (ls.map inA))] 1 (.raw (.int .i64 (kGo stI ls k))) [(0, .row 3 1 ((mGo markInt stI ls k).map inA))] 1 := by
 refine gw (N := 19) (vs := [.tmp 4]) ⟨Tryz.func76, rfl, rfl⟩ rfl rfl (by simp) ?_
 simp only [eE]
 have hlen := hs
 refine sr rfl fun _ J => ?_; simp only [go_sem]; apply J; refine sq fun _ k2 => ?_; refine sr rfl fun _ J => ?_; simp only [go_sem]; apply J; refine wb ?_
 refine wl (α := Nat) (fun x => x ≤ ls.length) (fun x => ls.length - x) (fun x => ([(0, .ref 0), (1, .raw (.int .i64 (kGo stI (ls.take x) k))), (5, .raw (.int .i64 (x : Int)))], [(0, .row 3 1 ((mAt markInt stI ls k x).map inA))])) 1 0 (Nat.zero_le _) [] ?_ ?_
 · rw [mAt_zero]
   simp only [go_sem, AObj.bel, Nat.reduceLeDiff, Nat.reduceLT, Nat.reduceAdd, kGo, List.take_zero, Int.natCast_zero] <;> simp
 rintro i hi
 refine sq fun _ k4 => ?_
 have hmal := mAt_len markInt stI ls k i
 refine sr rfl fun _ J => ?_; simp only [go_sem, hmal]; apply J
 refine cd rfl (fun hc1 => ?_) fun hc1 => ?_
 · have hlt : i < ls.length := (by simpa using hc1); obtain ⟨l, hl, hdrop, hml⟩ := ix hlt
   have hgL := mAt_get markInt stI k hl
   have hset := mAt_set markInt stI k hl
   have hks := kGo_succ stI (k := k) hl
   have hkb := dG stI stI_ge ls k i
   have hkb2 := dG stI stI_ge ls k (i + 1)
   rw [hks] at hkb2
   have hmal := mAt_len markInt stI ls k i
   generalize hkk : kGo stI (ls.take i) k = kk at hks hkb hkb2 hset ⊢
   have hse : stI l kk = kk + 1 := rfl
   rw [hse] at hkb2
   have hg0 : ((mAt markInt stI ls k i).map inA)[i]? = some (.raw (.int .i64 l)) := by rw [List.getElem?_map, hgL]; rfl
   have hw1 : IntKind.i64.wrap (kk + 1) = kk + 1 := by rw [IntKind.wrap_i64]; omega
   refine wk ?_; apply k4; refine sq fun _ k6 => ?_; refine wb ?_; refine sr rfl fun _ k7 => ?_; simp only [go_sem, hg0, hmal]
   refine ⟨⟨by omega, by omega⟩, ?_⟩
   apply k7; refine wg rfl ?_; simp only [go_sem, hw1]; try simp only [go_sem, lQ]
   apply k6
   have hw : IntKind.i64.wrap ((i : Int) + 1) = ((i + 1 : Nat) : Int) := by rw [IntKind.wrap_i64]; omega
   have hset : ((mAt markInt stI ls k i).map inA).set i (.raw (.int .i64 kk)) = (mAt markInt stI ls k (i + 1)).map inA := by
     rw [← hset, List.map_set]; rfl
   rw [hset]; refine wg rfl ?_; simp only [go_sem, hw]; try simp only [go_sem, lQ]
   refine ⟨i + 1, by omega, by omega, [], ?_⟩
   rw [hks]
   simp only [go_sem, AObj.bel, Nat.reduceLeDiff, Nat.reduceLT, Nat.reduceAdd, stI] <;> simp
 have hge : ls.length ≤ i := Nat.not_lt.1 (by simpa using hc1)
 refine we ?_; try simp only [go_sem, lQ]
 apply k2; refine sr rfl fun _ J => ?_; simp only [go_sem]; apply J; refine wR ?_
 have hie : i = ls.length := by omega
 subst hie; rw [mAt_end, List.take_length]; refine ⟨[], ?_⟩
 simp only [go_sem, AObj.bel, Nat.reduceLeDiff, Nat.reduceLT, Nat.reduceAdd] <;> simp
theorem w_laws_markRunS (ls : List Run) (k : Int) (hs : sRuns ls) (h0 : 0 ≤ k) (hk : kGo stR ls k ≤ 1000000000000000000) : aD P 129 [.ref 0, .raw (.int .i64 k)] [(0, .row 109 2 (ls.map runOwn))] 1 (.raw (.int .i64 (kGo stR ls k))) [(0, .row 109 2 ((mGo aO stR ls k).map runOwn))] 1 := by
 refine gw (N := 27) (vs := [.tmp 4]) ⟨Tryz.func129, rfl, rfl⟩ rfl rfl (by simp) ?_
 simp only [eE]
 have hlen := hs.1
 refine sr rfl fun _ J => ?_; simp only [go_sem]; apply J; refine sq fun _ k2 => ?_; refine sr rfl fun _ J => ?_; simp only [go_sem]; apply J; refine wb ?_
 refine wl (α := Nat) (fun x => x ≤ ls.length) (fun x => ls.length - x) (fun x => ([(0, .ref 0), (1, .raw (.int .i64 (kGo stR (ls.take x) k))), (5, .raw (.int .i64 (x : Int)))], [(0, .row 109 2 ((mAt aO stR ls k x).map runOwn))])) 1 0 (Nat.zero_le _) [] ?_ ?_
 · rw [mAt_zero]
   simp only [go_sem, AObj.bel, Nat.reduceLeDiff, Nat.reduceLT, Nat.reduceAdd, kGo, List.take_zero, Int.natCast_zero] <;> simp
 rintro i hi
 refine sq fun _ k4 => ?_
 have hmal := mAt_len aO stR ls k i
 refine sr rfl fun _ J => ?_; simp only [go_sem, hmal]; apply J
 refine cd rfl (fun hc1 => ?_) fun hc1 => ?_
 · have hlt : i < ls.length := (by simpa using hc1); obtain ⟨l, hl, hdrop, hml⟩ := ix hlt
   have hgL := mAt_get aO stR k hl
   have hset := mAt_set aO stR k hl
   have hks := kGo_succ stR (k := k) hl
   have hkb := dG stR stR_ge ls k i
   have hkb2 := dG stR stR_ge ls k (i + 1)
   rw [hks] at hkb2
   have hmal := mAt_len aO stR ls k i
   generalize hkk : kGo stR (ls.take i) k = kk at hks hkb hkb2 hset ⊢
   have hkl := kGo_ge stE stE_ge l.ents kk
   have hse : stR l kk = kGo stE l.ents kk + 1 := rfl
   rw [hse] at hkb2
   have hg0 : ((mAt aO stR ls k i).map runOwn)[i]? = some (.agg [.own 65 5 (l.ents.map enA), .raw (.int .i64 l.mask)]) := by rw [List.getElem?_map, hgL]; rfl
   have hgs : ∀ a, (((mAt aO stR ls k i).map runOwn).set i a)[i]? = some a := fun a => set_get_eq hg0
   have hw1 : IntKind.i64.wrap (kGo stE l.ents kk + 1) = kGo stE l.ents kk + 1 := by rw [IntKind.wrap_i64]; omega
   refine wk ?_; apply k4; refine sq fun _ k6 => ?_; refine wb ?_
   refine awp_split (i := 0) (j := i) (q := 0) (by omega) rfl hg0 rfl ?_
   refine sr rfl fun _ k7 => ?_; simp only [go_sem, hgs, hmal, List.length_set]
   refine ⟨⟨by omega, by omega⟩, ?_⟩
   refine vC (fun hN => bC (s := [(0, 1)]) 0 rfl rfl rfl ⟨Tryz.func16, rfl, rfl⟩ hN (w_laws_markEntryS l.ents kk (hs.2 l hml) (by omega) (by omega)) rfl (by simp only [go_sem, aA, AV.ren, sg]) ?_ (fit_one (by simp only [AObj.ren, entAV_ren]; rfl) (enB _ _))) (.inl rfl) ?_
   · simp only [go_sem, Nat.reduceLT]
   simp only [aW, AObj.ren, AV.ren, entAV_ren, sg]; simp only [go_sem]
   repeat (first | refine ⟨by first | omega | (intro hg; simp at hg; omega), ?_⟩ | fail)
   apply k7; refine sr rfl fun _ k8 => ?_; simp only [go_sem, hgs, hmal, List.length_set, List.set_set]
   refine ⟨⟨by omega, by omega⟩, ?_⟩
   apply k8; refine wg rfl ?_; simp only [go_sem, hw1]; try simp only [go_sem, lQ]
   apply k6
   have hw : IntKind.i64.wrap ((i : Int) + 1) = ((i + 1 : Nat) : Int) := by rw [IntKind.wrap_i64]; omega
   refine awp_join (i := 0) (n := 1) (j := i) (q := 0) (by omega) rfl rfl (hgs _) rfl ?_
   have hset' : ((mAt aO stR ls k i).map runOwn).set i (.agg [.own 65 5 ((mGo cJ stE l.ents kk).map enA), .raw (.int .i64 (kGo stE l.ents kk))]) = (mAt aO stR ls k (i + 1)).map runOwn := by
     rw [← hset, List.map_set]; rfl
   simp only [go_sem, List.set_set, hset']; refine wg rfl ?_; simp only [go_sem, hw]; try simp only [go_sem, lQ]
   refine ⟨i + 1, by omega, by omega, [], ?_⟩
   rw [hks]
   simp only [go_sem, AObj.bel, Nat.reduceLeDiff, Nat.reduceLT, Nat.reduceAdd, stR] <;> simp
 have hge : ls.length ≤ i := Nat.not_lt.1 (by simpa using hc1)
 refine we ?_; try simp only [go_sem, lQ]
 apply k2; refine sr rfl fun _ J => ?_; simp only [go_sem]; apply J; refine wR ?_
 have hie : i = ls.length := by omega
 subst hie; rw [mAt_end, List.take_length]; refine ⟨[], ?_⟩
 simp only [go_sem, AObj.bel, Nat.reduceLeDiff, Nat.reduceLT, Nat.reduceAdd] <;> simp
theorem w_laws_markRunSS (ls : List (List Run)) (k : Int) (hs : sLvs ls) (h0 : 0 ≤ k) (hk : kGo kRuns ls k ≤ 1000000000000000000) : aD P 75 [.ref 0, .raw (.int .i64 k)] [(0, .row 107 1 (ls.map rsO))] 1 (.raw (.int .i64 (kGo kRuns ls k))) [(0, .row 107 1 ((mGo (mGo aO stR) kRuns ls k).map rsO))] 1 := by
 refine gw (N := 19) (vs := [.tmp 4]) ⟨Tryz.func75, rfl, rfl⟩ rfl rfl (by simp) ?_
 simp only [eE]
 have hlen := hs.1
 refine sr rfl fun _ J => ?_; simp only [go_sem]; apply J; refine sq fun _ k2 => ?_; refine sr rfl fun _ J => ?_; simp only [go_sem]; apply J; refine wb ?_
 refine wl (α := Nat) (fun x => x ≤ ls.length) (fun x => ls.length - x) (fun x => ([(0, .ref 0), (1, .raw (.int .i64 (kGo kRuns (ls.take x) k))), (5, .raw (.int .i64 (x : Int)))], [(0, .row 107 1 ((mAt (mGo aO stR) kRuns ls k x).map rsO))])) 1 0 (Nat.zero_le _) [] ?_ ?_
 · rw [mAt_zero]
   simp only [go_sem, AObj.bel, Nat.reduceLeDiff, Nat.reduceLT, Nat.reduceAdd, kGo, List.take_zero, Int.natCast_zero] <;> simp
 rintro i hi
 refine sq fun _ k4 => ?_
 have hmal := mAt_len (mGo aO stR) kRuns ls k i
 refine sr rfl fun _ J => ?_; simp only [go_sem, hmal]; apply J
 refine cd rfl (fun hc1 => ?_) fun hc1 => ?_
 · have hlt : i < ls.length := (by simpa using hc1); obtain ⟨l, hl, hdrop, hml⟩ := ix hlt
   have hgL := mAt_get (mGo aO stR) kRuns k hl
   have hset := mAt_set (mGo aO stR) kRuns k hl
   have hks := kGo_succ kRuns (k := k) hl
   have hkb := dG kRuns stL_ge ls k i
   have hkb2 := dG kRuns stL_ge ls k (i + 1)
   rw [hks] at hkb2
   have hmal := mAt_len (mGo aO stR) kRuns ls k i
   generalize hkk : kGo kRuns (ls.take i) k = kk at hks hkb hkb2 hset ⊢
   have hg0 : ((mAt (mGo aO stR) kRuns ls k i).map rsO)[i]? = some (.own 109 2 (l.map runOwn)) := by rw [List.getElem?_map, hgL]; rfl
   have hgs : ∀ a, (((mAt (mGo aO stR) kRuns ls k i).map rsO).set i a)[i]? = some a := fun a => set_get_eq hg0
   refine wk ?_; apply k4; refine sq fun _ k6 => ?_; refine wb ?_
   refine awp_split1 (i := 0) (j := i) (by omega) rfl hg0 ?_
   refine wg rfl ?_; simp only [go_sem, hgs, hmal, List.length_set]
   refine ⟨⟨by omega, by omega⟩, ?_⟩
   refine vC (fun hN => bC (s := [(0, 1)]) 0 rfl rfl rfl ⟨Tryz.func129, rfl, rfl⟩ hN (w_laws_markRunS l kk (hs.2 l hml) (by omega) (show kRuns l kk ≤ _ by omega)) rfl (by simp only [go_sem, aA, AV.ren, sg]) ?_ (fit_one (by simp only [AObj.ren, runOwn_ren]; rfl) (runOwn_bel _ _))) (.inl rfl) ?_
   · simp only [go_sem, Nat.reduceLT]
   simp only [aW, AObj.ren, AV.ren, runOwn_ren, sg]; simp only [go_sem]
   repeat (first | refine ⟨by first | omega | (intro hg; simp at hg; omega), ?_⟩ | fail)
   try simp only [go_sem, lQ]
   apply k6
   have hw : IntKind.i64.wrap ((i : Int) + 1) = ((i + 1 : Nat) : Int) := by rw [IntKind.wrap_i64]; omega
   refine awp_join1 (i := 0) (n := 1) (j := i) (by omega) rfl rfl (hgs _) ?_
   have hset' : ((mAt (mGo aO stR) kRuns ls k i).map rsO).set i (.own 109 2 ((mGo aO stR l kk).map runOwn)) = (mAt (mGo aO stR) kRuns ls k (i + 1)).map rsO := by
     rw [← hset, List.map_set]; rfl
   simp only [go_sem, List.set_set, hset']; refine wg rfl ?_; simp only [go_sem, hw]; try simp only [go_sem, lQ]
   refine ⟨i + 1, by omega, by omega, [], ?_⟩
   rw [hks]
   simp only [go_sem, AObj.bel, Nat.reduceLeDiff, Nat.reduceLT, Nat.reduceAdd, kRuns] <;> simp
 have hge : ls.length ≤ i := Nat.not_lt.1 (by simpa using hc1)
 refine we ?_; try simp only [go_sem, lQ]
 apply k2; refine sr rfl fun _ J => ?_; simp only [go_sem]; apply J; refine wR ?_
 have hie : i = ls.length := by omega
 subst hie; rw [mAt_end, List.take_length]; refine ⟨[], ?_⟩
 simp only [go_sem, AObj.bel, Nat.reduceLeDiff, Nat.reduceLT, Nat.reduceAdd] <;> simp
end
theorem fit_put {H H1 nd : Heap} {s : List (Nat × Nat)} {m0 : Nat} (ho : heapOk (sg s) m0 H nd) (hn : (nd.map fun p => sg s p.1).Nodup) (hc : ∀ i, i < m0 → i ∈ nd.map (·.1)) (hs : ∀ p ∈ s, p.1 ∈ nd.map (·.1)) (hk : nd.map (·.1) = H1.map (·.1)) (hm : m0 ≤ 1000) : FitC H s nd m0 0 H1 where
  objs := ho
  inj := hn
  cov := fun i hi => by obtain ⟨o, ho⟩ := get_key (hc i hi); rw [ho]; rfl
  sk := fun p hp => by obtain ⟨o, ho⟩ := get_key (hs p hp); rw [ho]; rfl
  dom := fun p hp => .inl (by obtain ⟨o, ho⟩ := get_key (l := nd) (i := p.1) (by rw [hk]; exact List.mem_map_of_mem hp); rw [ho]; rfl)
  all := fun p hp => by obtain ⟨o, ho⟩ := get_key (l := H1) (i := p.1) (by rw [← hk]; exact List.mem_map_of_mem hp); rw [ho]; rfl
  far := by omega
abbrev markLvs := mGo (mGo aO stR) kRuns
def kTree (t : Tree) (k : Int) : Int := kGo stI t.snaps (kGo kRuns t.levels (kGo stE t.mem k))
def markTree (t : Tree) (k : Int) : Tree := ⟨t.seq, mGo cJ stE t.mem k, markLvs t.levels (kGo stE t.mem k), mGo markInt stI t.snaps (kGo kRuns t.levels (kGo stE t.mem k))⟩
def kDisk (d : Disk) (k : Int) : Int := kGo kRuns d.levels k
def markDisk (d : Disk) (k : Int) : Disk := { d with levels := markLvs d.levels k }
def kStore (s : Store) (k : Int) : Int := kDisk s.disk (kTree s.tree k)
def markStore (s : Store) (k : Int) : Store := ⟨s.up, markTree s.tree k, markDisk s.disk (kTree s.tree k)⟩
def sTree (t : Tree) : Prop := sEnts t.mem ∧ sLvs t.levels ∧ t.snaps.length ≤ 1048576
def bE (s : Store) : Prop := sTree s.tree ∧ sLvs s.disk.levels
theorem kTree_ge (t : Tree) (k : Int) : k ≤ kGo stE t.mem k ∧ kGo stE t.mem k ≤ kGo kRuns t.levels (kGo stE t.mem k) ∧ kGo kRuns t.levels (kGo stE t.mem k) ≤ kTree t k :=
  ⟨kGo_ge stE stE_ge _ _, kGo_ge kRuns stL_ge _ _, kGo_ge stI stI_ge _ _⟩
theorem kDisk_ge (d : Disk) (k : Int) : k ≤ kDisk d k := kGo_ge kRuns stL_ge _ _
theorem w_laws_markTree (t : Tree) (k : Int) (hs : sTree t) (h0 : 0 ≤ k) (hk : kTree t k ≤ 1000000000000000000) : aD P 39 [.agg [.raw (.int .i64 t.seq), .ref 0, .ref 1, .ref 2], .raw (.int .i64 k)] [(0, .row 65 5 (t.mem.map enA)), (1, .row 107 1 (t.levels.map rsO)), (2, .row 3 1 (t.snaps.map inA))] 3 (.raw (.int .i64 (kTree t k))) [(0, .row 65 5 ((markTree t k).mem.map enA)), (1, .row 107 1 ((markTree t k).levels.map rsO)), (2, .row 3 1 ((markTree t k).snaps.map inA))] 3 := by
 refine gw (N := 18) (vs := [.tmp 4]) ⟨Tryz.func39, rfl, rfl⟩ rfl rfl (by simp) ?_
 simp only [eE]
 obtain ⟨hs1, hs2, hs3⟩ := hs
 obtain ⟨hk1, hk2, hk3⟩ := kTree_ge t k
 refine sr rfl fun _ J => ?_; simp only [go_sem]; apply J; refine sr rfl fun _ k2 => ?_; simp only [go_sem]
 refine vC (fun hN => bC (s := [(0, 0)]) 0 rfl rfl rfl ⟨Tryz.func16, rfl, rfl⟩ hN (w_laws_markEntryS t.mem k hs1 h0 (by omega)) rfl (by simp only [go_sem, aA, AV.ren, sg]) ?_ (fit_put (by simp [heapOk, sg, Abs.get, AObj.ren, AObj.bel, UU, entAV_ren, enB]) (by simp [sg, Abs.get]) (by intro i hi; simp; omega) (by simp) rfl (by omega))) (.inl rfl) ?_
 · simp only [go_sem]
 simp only [go_sem, aW, AObj.ren, AV.ren, entAV_ren, sg]; apply k2; refine sr rfl fun _ k3 => ?_; simp only [go_sem]
 refine vC (fun hN => bC (s := [(0, 1)]) 0 rfl rfl rfl ⟨Tryz.func75, rfl, rfl⟩ hN (w_laws_markRunSS t.levels (kGo stE t.mem k) hs2 (by omega) (by omega)) rfl (by simp only [go_sem, aA, AV.ren, sg]) ?_ (fit_put (by simp [heapOk, sg, Abs.get, AObj.ren, AObj.bel, UU, bQ, runsOwn_bel]) (by simp [sg, Abs.get]) (by intro i hi; simp; omega) (by simp) rfl (by omega))) (.inl rfl) ?_
 · simp only [go_sem]
 simp only [go_sem, aW, AObj.ren, AV.ren, bQ, sg]; apply k3; refine sr rfl fun _ k4 => ?_; simp only [go_sem]
 refine vC (fun hN => bC (s := [(0, 2)]) 0 rfl rfl rfl ⟨Tryz.func76, rfl, rfl⟩ hN (w_laws_markIntS t.snaps (kGo kRuns t.levels (kGo stE t.mem k)) hs3 (by omega) hk) rfl (by simp only [go_sem, aA, AV.ren, sg]) ?_ (fit_put (by simp [heapOk, sg, Abs.get, AObj.ren, AObj.bel, UU, intAV_ren, intAV_bel]) (by simp [sg, Abs.get]) (by intro i hi; simp; omega) (by simp) rfl (by omega))) (.inl rfl) ?_
 · simp only [go_sem]
 simp only [go_sem, aW, AObj.ren, AV.ren, intAV_ren, sg]; apply k4; refine sr rfl fun _ J => ?_; simp only [go_sem]; apply J; refine wR ?_; refine ⟨[], ?_⟩
 simp only [go_sem, kTree, markTree, AObj.bel, AObj.ren, AV.ren, aA, sg] <;> simp
theorem w_laws_markDisk (d : Disk) (k : Int) (hs : sLvs d.levels) (h0 : 0 ≤ k) (hk : kDisk d k ≤ 1000000000000000000) : aD P 40 [.agg [.raw (.string d.log), .raw (.int .i64 d.safe), .ref 0, .raw (.int .i64 d.seq)], .raw (.int .i64 k)] [(0, .row 107 1 (d.levels.map rsO))] 1 (.raw (.int .i64 (kDisk d k))) [(0, .row 107 1 ((markDisk d k).levels.map rsO))] 1 := by
 refine gw (N := 10) (vs := [.tmp 4]) ⟨Tryz.func40, rfl, rfl⟩ rfl rfl (by simp) ?_
 simp only [eE]; refine sr rfl fun _ J => ?_; simp only [go_sem]; apply J; refine sr rfl fun _ k2 => ?_; simp only [go_sem]
 refine vC (fun hN => bC (s := [(0, 0)]) 0 rfl rfl rfl ⟨Tryz.func75, rfl, rfl⟩ hN (w_laws_markRunSS d.levels k hs h0 hk) rfl (by simp only [go_sem, aA, AV.ren, sg]) ?_ (fit_put (by simp [heapOk, sg, Abs.get, AObj.ren, AObj.bel, UU, bQ, runsOwn_bel]) (by simp [sg, Abs.get]) (by intro i hi; simp; omega) (by simp) rfl (by omega))) (.inl rfl) ?_
 · simp only [go_sem]
 simp only [go_sem, aW, AObj.ren, AV.ren, bQ, sg]; apply k2; refine sr rfl fun _ J => ?_; simp only [go_sem]; apply J; refine wR ?_; refine ⟨[], ?_⟩
 simp only [go_sem, kDisk, markDisk, AObj.bel, AObj.ren, AV.ren, aA, sg] <;> simp
theorem w_laws_markStore (s : Store) (k : Int) (hs : bE s) (h0 : 0 ≤ k) (hk : kStore s k ≤ 1000000000000000000) : aD P 15 [.agg [.raw (.bool s.up), .raw (.int .i64 s.tree.seq), .ref 0, .ref 1, .ref 2, .raw (.string s.disk.log), .raw (.int .i64 s.disk.safe), .ref 3, .raw (.int .i64 s.disk.seq)], .raw (.int .i64 k)] [(0, .row 65 5 (s.tree.mem.map enA)), (1, .row 107 1 (s.tree.levels.map rsO)), (2, .row 3 1 (s.tree.snaps.map inA)), (3, .row 107 1 (s.disk.levels.map rsO))] 4 (.raw (.int .i64 (kStore s k))) [(0, .row 65 5 ((markStore s k).tree.mem.map enA)), (1, .row 107 1 ((markStore s k).tree.levels.map rsO)), (2, .row 3 1 ((markStore s k).tree.snaps.map inA)), (3, .row 107 1 ((markStore s k).disk.levels.map rsO))] 4 := by
 refine gw (N := 14) (vs := [.tmp 4]) ⟨Tryz.func15, rfl, rfl⟩ rfl rfl (by simp) ?_
 simp only [eE]
 obtain ⟨hs1, hs2⟩ := hs
 have hk1 := kDisk_ge s.disk (kTree s.tree k)
 have hk2 : kDisk s.disk (kTree s.tree k) ≤ 1000000000000000000 := hk
 obtain ⟨hk3, hk4, hk5⟩ := kTree_ge s.tree k
 refine sr rfl fun _ J => ?_; simp only [go_sem]; apply J; refine sr rfl fun _ k2 => ?_; simp only [go_sem]
 refine vC (fun hN => bC (s := [(0, 0), (1, 1), (2, 2)]) 0 rfl rfl rfl ⟨Tryz.func39, rfl, rfl⟩ hN (w_laws_markTree s.tree k hs1 h0 (by omega)) rfl (by simp only [go_sem, aA, AV.ren, sg]) ?_ (fit_put (by simp [heapOk, sg, Abs.get, AObj.ren, AObj.bel, UU, entAV_ren, bQ, intAV_ren, enB, runsOwn_bel, intAV_bel]) (by simp [sg, Abs.get]) (by intro i hi; simp; omega) (by simp) rfl (by omega))) (.inl rfl) ?_
 · simp only [go_sem]
 simp only [go_sem, aW, AObj.ren, AV.ren, entAV_ren, bQ, intAV_ren, sg]; apply k2; refine sr rfl fun _ k3 => ?_; simp only [go_sem]
 refine vC (fun hN => bC (s := [(0, 3)]) 0 rfl rfl rfl ⟨Tryz.func40, rfl, rfl⟩ hN (w_laws_markDisk s.disk (kTree s.tree k) hs2 (by omega) hk2) rfl (by simp only [go_sem, aA, AV.ren, sg]) ?_ (fit_put (by simp [heapOk, sg, Abs.get, AObj.ren, AObj.bel, UU, bQ, runsOwn_bel]) (by simp [sg, Abs.get]) (by intro i hi; simp; omega) (by simp) rfl (by omega))) (.inl rfl) ?_
 · simp only [go_sem]
 simp only [go_sem, aW, AObj.ren, AV.ren, bQ, sg]; apply k3; refine sr rfl fun _ J => ?_; simp only [go_sem]; apply J; refine wR ?_; refine ⟨[], ?_⟩
 simp only [go_sem, kStore, markStore, AObj.bel, AObj.ren, AV.ren, aA, sg] <;> simp
theorem w_laws_heldEntryS (ls : List Entry) (k : Int) (hs : sEnts ls) (h0 : 0 ≤ k) (hk : kGo stE ls k ≤ 1000000000000000000) : aB P 77 [.sl 5 ((mGo cJ stE ls k).map enA), .raw (.int .i64 k)] [] 0 (.raw (.int .i64 (kGo stE ls k))) := by
 refine pw (N := 60) (vs := [.tmp 4]) ⟨Tryz.func77, rfl, rfl⟩ rfl rfl (by simp) ?_
 simp only [eE]
 have hlen := hs.1
 have hmal := mGo_len cJ stE ls k
 refine sr rfl fun _ J => ?_; simp only [go_sem]; apply J; refine sq fun _ k2 => ?_; refine sr rfl fun _ J => ?_; simp only [go_sem]; apply J; refine wb ?_
 refine wl (α := Nat) (fun x => x ≤ ls.length) (fun x => ls.length - x) (fun x => ([(0, .sl 5 ((mGo cJ stE ls k).map enA)), (1, .raw (.int .i64 (kGo stE (ls.take x) k))), (5, .raw (.int .i64 (x : Int)))], [])) 0 0 (Nat.zero_le _) [] ?_ ?_
 · simp only [go_sem, kGo, List.take_zero, Int.natCast_zero] <;> simp
 rintro i hi
 refine sq fun _ k4 => ?_; refine sr rfl fun _ J => ?_; simp only [go_sem, hmal]; apply J
 refine cd rfl (fun hc1 => ?_) fun hc1 => ?_
 · have hlt : i < ls.length := (by simpa using hc1); obtain ⟨l, hl, hdrop, hml⟩ := ix hlt
   have hgL := mGo_get cJ stE k hl
   have hks := kGo_succ stE (k := k) hl
   have hkb := dG stE stE_ge ls k i
   have hkb2 := dG stE stE_ge ls k (i + 1)
   rw [hks] at hkb2
   generalize hkk : kGo stE (ls.take i) k = kk at hks hkb hkb2 hgL ⊢
   have hse : stE l kk = kk + 5 := rfl
   rw [hse] at hkb2
   have hw1 : IntKind.i64.wrap (kk + 1) = kk + 1 := by rw [IntKind.wrap_i64]; omega
   have hw2 : IntKind.i64.wrap (kk + 1 + 1) = kk + 2 := by rw [IntKind.wrap_i64]; omega
   have hw3 : IntKind.i64.wrap (kk + 2 + 1) = kk + 3 := by rw [IntKind.wrap_i64]; omega
   have hw4 : IntKind.i64.wrap (kk + 3 + 1) = kk + 4 := by rw [IntKind.wrap_i64]; omega
   have hw5 : IntKind.i64.wrap (kk + 4 + 1) = kk + 5 := by rw [IntKind.wrap_i64]; omega
   refine wk ?_; apply k4; refine sq fun _ k6 => ?_; refine wb ?_; refine sq fun _ k7 => ?_; refine sd mixed rfl fun _ k8 => ?_; simp only [go_sem, hgL, cJ, enA, hmal]
   refine ⟨⟨by omega, by omega⟩, ?_⟩
   refine tp rfl rfl rfl ⟨Tryz.func41, rfl, rfl⟩ (w_laws_markText kk (by omega)) rfl (by simp only [go_sem]) ?_
   simp only [go_sem, beq_self_eq_true, Bool.not_true]
   repeat (first | refine ⟨by first | omega | (intro hg; simp at hg; omega), ?_⟩ | fail)
   refine ⟨by rfl, ?_⟩; apply k8
   refine cd rfl (fun hc => by simp at hc) fun hc2 => ?_
   refine wk ?_; apply k7; refine sr rfl fun _ J => ?_; simp only [go_sem, hw1]; apply J; refine sq fun _ k10 => ?_; refine sr rfl fun _ k11 => ?_; simp only [go_sem, hgL, cJ, enA, hmal, decide_true, Bool.not_true]
   refine ⟨⟨by omega, by omega⟩, ?_⟩
   apply k11
   refine cd rfl (fun hc => by simp at hc) fun hc3 => ?_
   refine wk ?_; apply k10; refine sr rfl fun _ J => ?_; simp only [go_sem, hw2]; apply J; refine sq fun _ k13 => ?_; refine sr rfl fun _ k14 => ?_; simp only [go_sem, hgL, cJ, enA, hmal, decide_true, Bool.not_true]
   refine ⟨⟨by omega, by omega⟩, ?_⟩
   apply k14
   refine cd rfl (fun hc => by simp at hc) fun hc4 => ?_
   refine wk ?_; apply k13; refine sr rfl fun _ J => ?_; simp only [go_sem, hw3]; apply J; refine sq fun _ k16 => ?_; refine sd mixed rfl fun _ k17 => ?_; simp only [go_sem, hgL, cJ, enA, hmal]
   refine ⟨⟨by omega, by omega⟩, ?_⟩
   refine tp rfl rfl rfl ⟨Tryz.func41, rfl, rfl⟩ (w_laws_markText (kk + 3) (by omega)) rfl (by simp only [go_sem]) ?_
   simp only [go_sem, beq_self_eq_true, Bool.not_true]
   repeat (first | refine ⟨by first | omega | (intro hg; simp at hg; omega), ?_⟩ | fail)
   refine ⟨by rfl, ?_⟩; apply k17
   refine cd rfl (fun hc => by simp at hc) fun hc5 => ?_
   refine wk ?_; apply k16; refine sr rfl fun _ J => ?_; simp only [go_sem, hw4]; apply J; refine sq fun _ k19 => ?_; refine sr rfl fun _ k20 => ?_; simp only [go_sem, hgL, cJ, enA, hmal, decide_true, Bool.not_true]
   refine ⟨⟨by omega, by omega⟩, ?_⟩
   apply k20
   refine cd rfl (fun hc => by simp at hc) fun hc6 => ?_
   refine wk ?_; apply k19; refine wg rfl ?_; simp only [go_sem, hw5]; try simp only [go_sem, lQ]
   apply k6
   have hw : IntKind.i64.wrap ((i : Int) + 1) = ((i + 1 : Nat) : Int) := by rw [IntKind.wrap_i64]; omega
   refine wg rfl ?_; simp only [go_sem, hw]; try simp only [go_sem, lQ]
   refine ⟨i + 1, by omega, by omega, [], ?_⟩
   rw [hks]
   simp only [go_sem, stE] <;> simp
 have hge : ls.length ≤ i := Nat.not_lt.1 (by simpa using hc1)
 refine we ?_; try simp only [go_sem, lQ]
 apply k2; refine sr rfl fun _ J => ?_; simp only [go_sem]; apply J; refine wR ?_
 have hie : i = ls.length := by omega
 subst hie; rw [List.take_length]; refine fO ?_ trivial; simp only [go_sem]
theorem w_laws_heldIntS (ls : List Int) (k : Int) (hs : ls.length ≤ 1048576) (h0 : 0 ≤ k) (hk : kGo stI ls k ≤ 1000000000000000000) : aB P 79 [.sl 1 ((mGo markInt stI ls k).map inA), .raw (.int .i64 k)] [] 0 (.raw (.int .i64 (kGo stI ls k))) := by
 refine pw (N := 21) (vs := [.tmp 4]) ⟨Tryz.func79, rfl, rfl⟩ rfl rfl (by simp) ?_
 simp only [eE]
 have hlen := hs
 have hmal := mGo_len markInt stI ls k
 refine sr rfl fun _ J => ?_; simp only [go_sem]; apply J; refine sq fun _ k2 => ?_; refine sr rfl fun _ J => ?_; simp only [go_sem]; apply J; refine wb ?_
 refine wl (α := Nat) (fun x => x ≤ ls.length) (fun x => ls.length - x) (fun x => ([(0, .sl 1 ((mGo markInt stI ls k).map inA)), (1, .raw (.int .i64 (kGo stI (ls.take x) k))), (5, .raw (.int .i64 (x : Int)))], [])) 0 0 (Nat.zero_le _) [] ?_ ?_
 · simp only [go_sem, kGo, List.take_zero, Int.natCast_zero] <;> simp
 rintro i hi
 refine sq fun _ k4 => ?_; refine sr rfl fun _ J => ?_; simp only [go_sem, hmal]; apply J
 refine cd rfl (fun hc1 => ?_) fun hc1 => ?_
 · have hlt : i < ls.length := (by simpa using hc1); obtain ⟨l, hl, hdrop, hml⟩ := ix hlt
   have hgL := mGo_get markInt stI k hl
   have hks := kGo_succ stI (k := k) hl
   have hkb := dG stI stI_ge ls k i
   have hkb2 := dG stI stI_ge ls k (i + 1)
   rw [hks] at hkb2
   generalize hkk : kGo stI (ls.take i) k = kk at hks hkb hkb2 hgL ⊢
   have hse : stI l kk = kk + 1 := rfl
   rw [hse] at hkb2
   have hw1 : IntKind.i64.wrap (kk + 1) = kk + 1 := by rw [IntKind.wrap_i64]; omega
   refine wk ?_; apply k4; refine sq fun _ k6 => ?_; refine wb ?_; refine sq fun _ k7 => ?_; refine sr rfl fun _ k8 => ?_; simp only [go_sem, hgL, markInt, inA, hmal, decide_true, Bool.not_true]
   refine ⟨⟨by omega, by omega⟩, ?_⟩
   apply k8
   refine cd rfl (fun hc => by simp at hc) fun hc2 => ?_
   refine wk ?_; apply k7; refine wg rfl ?_; simp only [go_sem, hw1]; try simp only [go_sem, lQ]
   apply k6
   have hw : IntKind.i64.wrap ((i : Int) + 1) = ((i + 1 : Nat) : Int) := by rw [IntKind.wrap_i64]; omega
   refine wg rfl ?_; simp only [go_sem, hw]; try simp only [go_sem, lQ]
   refine ⟨i + 1, by omega, by omega, [], ?_⟩
   rw [hks]
   simp only [go_sem, stI] <;> simp
 have hge : ls.length ≤ i := Nat.not_lt.1 (by simpa using hc1)
 refine we ?_; try simp only [go_sem, lQ]
 apply k2; refine sr rfl fun _ J => ?_; simp only [go_sem]; apply J; refine wR ?_
 have hie : i = ls.length := by omega
 subst hie; rw [List.take_length]; refine fO ?_ trivial; simp only [go_sem]
theorem w_laws_heldRunS (ls : List Run) (k : Int) (hs : sRuns ls) (h0 : 0 ≤ k) (hk : kGo stR ls k ≤ 1000000000000000000) : aB P 130 [.sl 2 ((mGo aO stR ls k).map rA), .raw (.int .i64 k)] [] 0 (.raw (.int .i64 (kGo stR ls k))) := by
 refine pw (N := 31) (vs := [.tmp 4]) ⟨Tryz.func130, rfl, rfl⟩ rfl rfl (by simp) ?_
 simp only [eE]
 have hlen := hs.1
 have hmal := mGo_len aO stR ls k
 refine sr rfl fun _ J => ?_; simp only [go_sem]; apply J; refine sq fun _ k2 => ?_; refine sr rfl fun _ J => ?_; simp only [go_sem]; apply J; refine wb ?_
 refine wl (α := Nat) (fun x => x ≤ ls.length) (fun x => ls.length - x) (fun x => ([(0, .sl 2 ((mGo aO stR ls k).map rA)), (1, .raw (.int .i64 (kGo stR (ls.take x) k))), (5, .raw (.int .i64 (x : Int)))], [])) 0 0 (Nat.zero_le _) [] ?_ ?_
 · simp only [go_sem, kGo, List.take_zero, Int.natCast_zero] <;> simp
 rintro i hi
 refine sq fun _ k4 => ?_; refine sr rfl fun _ J => ?_; simp only [go_sem, hmal]; apply J
 refine cd rfl (fun hc1 => ?_) fun hc1 => ?_
 · have hlt : i < ls.length := (by simpa using hc1); obtain ⟨l, hl, hdrop, hml⟩ := ix hlt
   have hgL := mGo_get aO stR k hl
   have hks := kGo_succ stR (k := k) hl
   have hkb := dG stR stR_ge ls k i
   have hkb2 := dG stR stR_ge ls k (i + 1)
   rw [hks] at hkb2
   generalize hkk : kGo stR (ls.take i) k = kk at hks hkb hkb2 hgL ⊢
   have hkl := kGo_ge stE stE_ge l.ents kk
   have hse : stR l kk = kGo stE l.ents kk + 1 := rfl
   rw [hse] at hkb2
   have hw1 : IntKind.i64.wrap (kGo stE l.ents kk + 1) = kGo stE l.ents kk + 1 := by rw [IntKind.wrap_i64]; omega
   have hn : decide (kGo stE l.ents kk < 0) = false := by simp; omega
   refine wk ?_; apply k4; refine sq fun _ k6 => ?_; refine wb ?_; refine sr rfl fun _ k7 => ?_; simp only [go_sem, hgL, aO, rA, hmal]
   refine ⟨⟨by omega, by omega⟩, ?_⟩
   refine vp rfl rfl rfl ⟨Tryz.func77, rfl, rfl⟩ (w_laws_heldEntryS l.ents kk (hs.2 l hml) (by omega) (by omega)) rfl (by simp only [go_sem]) ?_
   simp only [go_sem]
   repeat (first | refine ⟨by first | omega | (intro hg; simp at hg; omega), ?_⟩ | fail)
   apply k7; refine sq fun _ k8 => ?_; refine sr rfl fun _ J => ?_; simp only [go_sem, hn]; apply J
   refine cd rfl (fun hc => by simp at hc) fun hc2 => ?_
   refine wk ?_; apply k8; refine sq fun _ k10 => ?_; refine sr rfl fun _ k11 => ?_; simp only [go_sem, hgL, aO, rA, hmal, decide_true, Bool.not_true]
   refine ⟨⟨by omega, by omega⟩, ?_⟩
   apply k11
   refine cd rfl (fun hc => by simp at hc) fun hc3 => ?_
   refine wk ?_; apply k10; refine wg rfl ?_; simp only [go_sem, hw1]; try simp only [go_sem, lQ]
   apply k6
   have hw : IntKind.i64.wrap ((i : Int) + 1) = ((i + 1 : Nat) : Int) := by rw [IntKind.wrap_i64]; omega
   refine wg rfl ?_; simp only [go_sem, hw]; try simp only [go_sem, lQ]
   refine ⟨i + 1, by omega, by omega, [], ?_⟩
   rw [hks]
   simp only [go_sem, stR] <;> simp
 have hge : ls.length ≤ i := Nat.not_lt.1 (by simpa using hc1)
 refine we ?_; try simp only [go_sem, lQ]
 apply k2; refine sr rfl fun _ J => ?_; simp only [go_sem]; apply J; refine wR ?_
 have hie : i = ls.length := by omega
 subst hie; rw [List.take_length]; refine fO ?_ trivial; simp only [go_sem]
theorem w_laws_heldRunSS (ls : List (List Run)) (k : Int) (hs : sLvs ls) (h0 : 0 ≤ k) (hk : kGo kRuns ls k ≤ 1000000000000000000) : aB P 78 [.sl 1 ((mGo (mGo aO stR) kRuns ls k).map rsA), .raw (.int .i64 k)] [] 0 (.raw (.int .i64 (kGo kRuns ls k))) := by
 refine pw (N := 21) (vs := [.tmp 4]) ⟨Tryz.func78, rfl, rfl⟩ rfl rfl (by simp) ?_
 simp only [eE]
 have hlen := hs.1
 have hmal := mGo_len (mGo aO stR) kRuns ls k
 refine sr rfl fun _ J => ?_; simp only [go_sem]; apply J; refine sq fun _ k2 => ?_; refine sr rfl fun _ J => ?_; simp only [go_sem]; apply J; refine wb ?_
 refine wl (α := Nat) (fun x => x ≤ ls.length) (fun x => ls.length - x) (fun x => ([(0, .sl 1 ((mGo (mGo aO stR) kRuns ls k).map rsA)), (1, .raw (.int .i64 (kGo kRuns (ls.take x) k))), (5, .raw (.int .i64 (x : Int)))], [])) 0 0 (Nat.zero_le _) [] ?_ ?_
 · simp only [go_sem, kGo, List.take_zero, Int.natCast_zero] <;> simp
 rintro i hi
 refine sq fun _ k4 => ?_; refine sr rfl fun _ J => ?_; simp only [go_sem, hmal]; apply J
 refine cd rfl (fun hc1 => ?_) fun hc1 => ?_
 · have hlt : i < ls.length := (by simpa using hc1); obtain ⟨l, hl, hdrop, hml⟩ := ix hlt
   have hgL := mGo_get (mGo aO stR) kRuns k hl
   have hks := kGo_succ kRuns (k := k) hl
   have hkb := dG kRuns stL_ge ls k i
   have hkb2 := dG kRuns stL_ge ls k (i + 1)
   rw [hks] at hkb2
   generalize hkk : kGo kRuns (ls.take i) k = kk at hks hkb hkb2 hgL ⊢
   have hn : decide (kGo stR l kk < 0) = false := by have h9 : kGo stR l kk = kRuns l kk := rfl; simp; omega
   refine wk ?_; apply k4; refine sq fun _ k6 => ?_; refine wb ?_; refine sr rfl fun _ k7 => ?_; simp only [go_sem, hgL, rsA, hmal]
   refine ⟨⟨by omega, by omega⟩, ?_⟩
   refine vp rfl rfl rfl ⟨Tryz.func130, rfl, rfl⟩ (w_laws_heldRunS l kk (hs.2 l hml) (by omega) (show kRuns l kk ≤ _ by omega)) rfl (by simp only [go_sem]) ?_
   simp only [go_sem]
   repeat (first | refine ⟨by first | omega | (intro hg; simp at hg; omega), ?_⟩ | fail)
   apply k7; refine sr rfl fun _ J => ?_; simp only [go_sem, hn]; apply J
   refine cd rfl (fun hc => by simp at hc) fun hc2 => ?_
   refine wk ?_; try simp only [go_sem, lQ]
   apply k6
   have hw : IntKind.i64.wrap ((i : Int) + 1) = ((i + 1 : Nat) : Int) := by rw [IntKind.wrap_i64]; omega
   refine wg rfl ?_; simp only [go_sem, hw]; try simp only [go_sem, lQ]
   refine ⟨i + 1, by omega, by omega, [], ?_⟩
   rw [hks]
   simp only [go_sem, kRuns] <;> simp
 have hge : ls.length ≤ i := Nat.not_lt.1 (by simpa using hc1)
 refine we ?_; try simp only [go_sem, lQ]
 apply k2; refine sr rfl fun _ J => ?_; simp only [go_sem]; apply J; refine wR ?_
 have hie : i = ls.length := by omega
 subst hie; rw [List.take_length]; refine fO ?_ trivial; simp only [go_sem]
theorem w_laws_heldTree (t : Tree) (k : Int) (hs : sTree t) (h0 : 0 ≤ k) (hk : kTree t k ≤ 1000000000000000000) : aB P 42 [trA (markTree t k), .raw (.int .i64 k)] [] 0 (.raw (.int .i64 (kTree t k))) := by
 refine pw (N := 24) (vs := [.tmp 4]) ⟨Tryz.func42, rfl, rfl⟩ rfl rfl (by simp) ?_
 simp only [eE, trA, markTree]
 obtain ⟨hs1, hs2, hs3⟩ := hs
 obtain ⟨hk1, hk2, hk3⟩ := kTree_ge t k
 have n1 : decide (kGo stE t.mem k < 0) = false := by simp; omega
 have n2 : decide (kGo kRuns t.levels (kGo stE t.mem k) < 0) = false := by simp; omega
 have n3 : decide (kGo stI t.snaps (kGo kRuns t.levels (kGo stE t.mem k)) < 0) = false := by have h9 : kTree t k = kGo stI t.snaps (kGo kRuns t.levels (kGo stE t.mem k)) := rfl; simp; omega
 refine sr rfl fun _ J => ?_; simp only [go_sem]; apply J; refine sr rfl fun _ k2 => ?_; simp only [go_sem]
 refine vp rfl rfl rfl ⟨Tryz.func77, rfl, rfl⟩ (w_laws_heldEntryS t.mem k hs1 h0 (by omega)) rfl (by simp only [go_sem]) ?_
 simp only [go_sem]; apply k2; refine sq fun _ k3 => ?_; refine sr rfl fun _ J => ?_; simp only [go_sem, n1]; apply J
 refine cd rfl (fun hc => by simp at hc) fun hc1 => ?_
 refine wk ?_; apply k3; refine sr rfl fun _ k5 => ?_; simp only [go_sem]
 refine vp rfl rfl rfl ⟨Tryz.func78, rfl, rfl⟩ (w_laws_heldRunSS t.levels (kGo stE t.mem k) hs2 (by omega) (by omega)) rfl (by simp only [go_sem]) ?_
 simp only [go_sem]; apply k5; refine sq fun _ k6 => ?_; refine sr rfl fun _ J => ?_; simp only [go_sem, n2]; apply J
 refine cd rfl (fun hc => by simp at hc) fun hc2 => ?_
 refine wk ?_; apply k6; refine sr rfl fun _ k8 => ?_; simp only [go_sem]
 refine vp rfl rfl rfl ⟨Tryz.func79, rfl, rfl⟩ (w_laws_heldIntS t.snaps (kGo kRuns t.levels (kGo stE t.mem k)) hs3 (by omega) hk) rfl (by simp only [go_sem]) ?_
 simp only [go_sem]; apply k8; refine sq fun _ k9 => ?_; refine sr rfl fun _ J => ?_; simp only [go_sem, n3]; apply J
 refine cd rfl (fun hc => by simp at hc) fun hc3 => ?_
 refine wk ?_; apply k9; refine sr rfl fun _ J => ?_; simp only [go_sem]; apply J; refine wR ?_; refine fO ?_ trivial; simp only [go_sem, kTree]
theorem w_laws_heldDisk (d : Disk) (k : Int) (hs : sLvs d.levels) (h0 : 0 ≤ k) (hk : kDisk d k ≤ 1000000000000000000) : aB P 43 [dkA (markDisk d k), .raw (.int .i64 k)] [] 0 (.raw (.int .i64 (kDisk d k))) := by
 refine pw (N := 12) (vs := [.tmp 4]) ⟨Tryz.func43, rfl, rfl⟩ rfl rfl (by simp) ?_
 simp only [eE, dkA, markDisk]
 have hk1 := kDisk_ge d k
 have n1 : decide (kGo kRuns d.levels k < 0) = false := by have h9 : kDisk d k = kGo kRuns d.levels k := rfl; simp; omega
 refine sr rfl fun _ J => ?_; simp only [go_sem]; apply J; refine sr rfl fun _ k2 => ?_; simp only [go_sem]
 refine vp rfl rfl rfl ⟨Tryz.func78, rfl, rfl⟩ (w_laws_heldRunSS d.levels k hs h0 hk) rfl (by simp only [go_sem]) ?_
 simp only [go_sem]; apply k2; refine sq fun _ k3 => ?_; refine sr rfl fun _ J => ?_; simp only [go_sem, n1]; apply J
 refine cd rfl (fun hc => by simp at hc) fun hc1 => ?_
 refine wk ?_; apply k3; refine sr rfl fun _ J => ?_; simp only [go_sem]; apply J; refine wR ?_; refine fO ?_ trivial; simp only [go_sem, kDisk]
theorem w_laws_heldStore (s : Store) (k : Int) (hs : bE s) (h0 : 0 ≤ k) (hk : kStore s k ≤ 1000000000000000000) : aB P 17 [stA (markStore s k), .raw (.int .i64 k)] [] 0 (.raw (.int .i64 (kStore s k))) := by
 refine pw (N := 18) (vs := [.tmp 4]) ⟨Tryz.func17, rfl, rfl⟩ rfl rfl (by simp) ?_
 simp only [eE, stA, markStore]
 obtain ⟨hs1, hs2⟩ := hs
 have hk1 := kDisk_ge s.disk (kTree s.tree k)
 have hk2 : kDisk s.disk (kTree s.tree k) ≤ 1000000000000000000 := hk
 obtain ⟨hk3, hk4, hk5⟩ := kTree_ge s.tree k
 have n1 : decide (kTree s.tree k < 0) = false := by simp; omega
 have n2 : decide (kDisk s.disk (kTree s.tree k) < 0) = false := by simp; omega
 refine sr rfl fun _ J => ?_; simp only [go_sem]; apply J; refine sr rfl fun _ k2 => ?_; simp only [go_sem]
 refine vp rfl rfl rfl ⟨Tryz.func42, rfl, rfl⟩ (w_laws_heldTree s.tree k hs1 h0 (by omega)) (by simp only [go_sem, trA]) (by simp only [go_sem, trA]) ?_
 simp only [go_sem]; apply k2; refine sq fun _ k3 => ?_; refine sr rfl fun _ J => ?_; simp only [go_sem, n1]; apply J
 refine cd rfl (fun hc => by simp at hc) fun hc1 => ?_
 refine wk ?_; apply k3; refine sr rfl fun _ k5 => ?_; simp only [go_sem]
 refine vp rfl rfl rfl ⟨Tryz.func43, rfl, rfl⟩ (w_laws_heldDisk s.disk (kTree s.tree k) hs2 (by omega) hk2) (by simp only [go_sem, dkA]) (by simp only [go_sem, dkA]) ?_
 simp only [go_sem]; apply k5; refine sq fun _ k6 => ?_; refine sr rfl fun _ J => ?_; simp only [go_sem, n2]; apply J
 refine cd rfl (fun hc => by simp at hc) fun hc2 => ?_
 refine wk ?_; apply k6; refine sr rfl fun _ J => ?_; simp only [go_sem]; apply J; refine wR ?_; refine fO ?_ trivial; simp only [go_sem, kStore]
theorem e65 : P.underlying 65 = some (.struct (P.fieldsOf 65)) ∧ P.stoodInHeld 65 = false ∧ P.eqGuardType P.depth 65 = false ∧ P.underlying 9 = some .string ∧ P.underlying 3 = some (.int .i64) := by refine ⟨?_, ?_, ?_, ?_, ?_⟩ <;> kernel_rfl
theorem f65 : (P.fieldsOf 65).toList = [{ name := "Key", type := 9, offset := 0, embedded := false, tag := "", pkgPath := "", byteOffset := 0 }, { name := "Seq", type := 3, offset := 1, embedded := false, tag := "", pkgPath := "", byteOffset := 16 },
  { name := "Kind", type := 3, offset := 2, embedded := false, tag := "", pkgPath := "", byteOffset := 24 }, { name := "Text", type := 9, offset := 3, embedded := false, tag := "", pkgPath := "", byteOffset := 32 }, { name := "N", type := 3, offset := 4, embedded := false, tag := "", pkgPath := "", byteOffset := 48 }] := by kernel_rfl
theorem p65 : P.plainKey 9 = true ∧ P.plainKey 3 = true := by refine ⟨?_, ?_⟩ <;> kernel_rfl
def entCs (e : Entry) : Array Value := #[.string e.key, .int .i64 e.seq, .int .i64 e.kind, .string e.text, .int .i64 e.n]
theorem ba_beq (a b : ByteArray) : (a.toList == b.toList) = decide (a = b) := by
  rw [← beq_toListBytes]
  obtain ⟨⟨x⟩⟩ := a
  obtain ⟨⟨y⟩⟩ := b
  by_cases h : x = y
  · subst h; rw [decide_eq_true rfl]; show (({ toList := x } : Array UInt8) == { toList := x }) = true; simp
  have h1 : (({ data := { toList := x } } : ByteArray) = { data := { toList := y } }) ↔ x = y := by simp
  simp [h]
  show (({ toList := x } : Array UInt8) == { toList := y }) = false
  simpa using h
theorem run_eqEnt (e f : Entry) (w : World) : (Op.equalIn 10000 65 (.agg (entCs e)) (.agg (entCs f))).run P w = .ok (decide (e = f)) w := by
  rw [run_equalIn_agg w 9999 65 _ _ e65.1 e65.2.1, f65]
  have h0 : ∀ e : Entry, (part 9 (entCs e) 0).run P w = .ok (.string e.key) w := fun e => run_part_plain w p65.1 rfl
  have h1 : ∀ e : Entry, (part 3 (entCs e) 1).run P w = .ok (.int .i64 e.seq) w := fun e => run_part_plain w p65.2 rfl
  have h2 : ∀ e : Entry, (part 3 (entCs e) 2).run P w = .ok (.int .i64 e.kind) w := fun e => run_part_plain w p65.2 rfl
  have h3 : ∀ e : Entry, (part 9 (entCs e) 3).run P w = .ok (.string e.text) w := fun e => run_part_plain w p65.1 rfl
  have h4 : ∀ e : Entry, (part 3 (entCs e) 4).run P w = .ok (.int .i64 e.n) w := fun e => run_part_plain w p65.2 rfl
  have hs : ∀ a b : ByteArray, (Op.equalIn 9999 9 (.string a) (.string b)).run P w = .ok (decide (a = b)) w := fun a b => by rw [run_equalIn_string w 9998 9 a b e65.2.2.2.1, ba_beq]
  have hi : ∀ a b : Int, (Op.equalIn 9999 3 (.int .i64 a) (.int .i64 b)).run P w = .ok (a == b) w := fun a b => run_equalIn_int w 9998 3 .i64 .i64 a b e65.2.2.2.2
  have hd : decide (e = f) = (decide (e.key = f.key) && ((e.seq == f.seq) && ((e.kind == f.kind) && (decide (e.text = f.text) && (e.n == f.n))))) := by
    obtain ⟨a1, a2, a3, a4, a5⟩ := e
    obtain ⟨b1, b2, b3, b4, b5⟩ := f
    rw [Bool.eq_iff_iff]
    simp [and_assoc]
  rw [hd]; simp only [Op.eqFields, Sem.run_bind, Sem.run_ite, Sem.run_pure, h0, h1, h2, h3, h4, hs, hi, Result.andThen_ok, ne_eq, String.reduceEq, not_false_eq_true, if_true]
  generalize decide (e.key = f.key) = c1
  generalize (e.seq == f.seq) = c2
  generalize (e.kind == f.kind) = c3
  generalize decide (e.text = f.text) = c4
  generalize (e.n == f.n) = c5
  cases c1 <;> cases c2 <;> cases c3 <;> cases c4 <;> cases c5 <;> rfl
theorem lstep_neqEnt {ro : Option Nat} {N : Nat} {E : Env} {H : Heap} {nx : Nat} {o : Oper} {b0 : Nat} {ds : List (Option Tmp)} {x y : Operand} {t' : TypeId} {e f : Entry} (hg : o.guard = none) (ho : o.op = .binOp .neq 65 x y t') (hN : ∀ d, o.dst = some d → d < N)
    (hx : opv E x = some (enA e)) (hy : opv E y = some (enA f)) : aS P ro N ds o b0 E H (tO [x, y]) [] (.raw (.bool (!decide (e = f)))) [] nx 0 := by
  refine lsO hg fun E' H' U hE hH' _ => ?_
  rw [aU0]
  have hops := oCg hE
  refine aG (by simp [ho, Op.noDefer]) hN fun C a w hR => ?_
  obtain ⟨h1, _⟩ := hR.opv (x := x) (r := enA e) (by rw [hops x (by simp)]; exact hx)
  obtain ⟨h2, _⟩ := hR.opv (x := y) (r := enA f) (by rw [hops y (by simp)]; exact hy)
  have hv : ∀ (e : Entry) (v : Value), Rep C.ρ (C.avoid H') w.heap (enA e) v → v = .agg (entCs e) := fun e v h => by
    cases h with
    | agg _ vs hn hr =>
      have k0 := hr 0 _ rfl
      have k1 := hr 1 _ rfl
      have k2 := hr 2 _ rfl
      have k3 := hr 3 _ rfl
      have k4 := hr 4 _ rfl
      have hsz : vs.size = 5 := hn
      have g : ∀ j u, vs.getD j undef = u → j < 5 → vs[j]? = some u := fun j u h hj => by
        rw [Array.getD_eq_getD_getElem?, Array.getElem?_eq_getElem (by omega)] at h; rw [Array.getElem?_eq_getElem (by omega)]
        exact congrArg some h
      have i0 : vs.getD 0 undef = .string e.key := by generalize vs.getD 0 undef = u at k0; cases k0; rfl
      have i1 : vs.getD 1 undef = .int .i64 e.seq := by generalize vs.getD 1 undef = u at k1; cases k1; rfl
      have i2 : vs.getD 2 undef = .int .i64 e.kind := by generalize vs.getD 2 undef = u at k2; cases k2; rfl
      have i3 : vs.getD 3 undef = .string e.text := by generalize vs.getD 3 undef = u at k3; cases k3; rfl
      have i4 : vs.getD 4 undef = .int .i64 e.n := by generalize vs.getD 4 undef = u at k4; cases k4; rfl
      congr 1
      refine Array.ext_getElem? fun j => ?_
      match j with
      | 0 => exact g 0 _ i0 (by omega)
      | 1 => exact g 1 _ i1 (by omega)
      | 2 => exact g 2 _ i2 (by omega)
      | 3 => exact g 3 _ i3 (by omega)
      | 4 => exact g 4 _ i4 (by omega)
      | j + 5 => rw [Array.getElem?_eq_none (by omega)]; rfl
  have hev := hv e _ h1
  have hfv := hv f _ h2
  refine ⟨trivial, _, ?_, .raw _⟩
  have hgd := run_eqGuard_agg (P := P) w .neq 65 x y (entCs e) (entCs f) e65.2.2.1
  simp only [execOp, ho, hev, hfv, Sem.run_bind, hgd, Result.andThen_ok, run_neq_struct, run_eqEnt, Sem.run_pure]
theorem bN {p : Nat → Bool} {i : Nat} (h : ∀ j, j < i → p j = true) (hp : p i = true) : ∀ j, j < i + 1 → p j = true := fun j hj => by
  by_cases e : j = i
  · rw [e]; exact hp
  exact h j (by omega)
theorem all_no {p : Nat → Bool} {i n : Nat} (hi : i < n) (hp : p i = false) : (List.range n).all p = false := by
  rw [List.all_eq_false]
  exact ⟨i, List.mem_range.2 hi, by simp [hp]⟩
theorem all_yes {p : Nat → Bool} {i n : Nat} (hi : n ≤ i) (h : ∀ j, j < i → p j = true) : (List.range n).all p = true := by
  rw [List.all_eq_true]; intro j hj
  exact h j (by have := List.mem_range.1 hj; omega)
abbrev beq0 (s : ByteArray) : Bool := s.toList == (⟨#[]⟩ : ByteArray).toList
def kByte (s : ByteArray) (i : Nat) : Bool := !((decide (aF s i < 97) || decide (122 < aF s i)) && (decide (aF s i < 47) || decide (57 < aF s i)))
def keyOk (s : ByteArray) : Bool := (List.range s.size).all (kByte s) && (decide (1 ≤ (s.size : Int)) && decide ((s.size : Int) ≤ 8))
def sumOk (n : Int) : Bool := decide (-1000000 ≤ n) && decide (n ≤ 1000000)
def entBad (e : Entry) : Bool := !keyOk e.key || decide (e.seq < 1) || decide (100000 < e.seq) || !sumOk e.n || decide (60 < (e.text.size : Int))
def cY (e : Entry) : Bool := if entBad e = true then false else if e.kind = 1 then true else if e.kind = 2 then beq0 e.text && decide (e.n = 0) else if e.kind = 3 then beq0 e.text else false
def entLt (a b : Entry) : Bool := Op.bytesLess a.key.toList b.key.toList || (a.key.toList == b.key.toList && decide (b.seq < a.seq))
def prevAt (ls : List Entry) (i : Nat) : Entry := (ls[i - 1]?).getD ⟨⟨#[]⟩, 0, 0, ⟨#[]⟩, 0⟩
def okAt (ls : List Entry) (i : Nat) : Bool := match ls[i]? with
  | some e => !(!cY e || (decide (0 < (i : Int)) && !entLt (prevAt ls i) e))
  | none => true
def inOrd (ls : List Entry) : Bool := (List.range ls.length).all (okAt ls)
def mxEnt (e : Entry) : Prop := e.key.size ≤ 4611686018427387904 ∧ e.text.size ≤ 4611686018427387904
def bT (ls : List Entry) : Prop := ls.length ≤ 4611686018427387904 ∧ ∀ e ∈ ls, mxEnt e
def eqAt {α : Type} [DecidableEq α] (a b : List α) (i : Nat) : Bool := decide (a[i]? = b[i]?)
theorem eq_of_all {α : Type} [DecidableEq α] {a b : List α} (hl : a.length = b.length) (h : ∀ j, j < a.length → eqAt a b j = true) : a = b := by
  refine List.ext_getElem? fun j => ?_
  by_cases hj : j < a.length
  · simpa [eqAt] using h j hj
  rw [List.getElem?_eq_none (by omega), List.getElem?_eq_none (by omega)]
def withinAt (ls : List Entry) (seq : Int) (i : Nat) : Bool := match ls[i]? with | some e => !decide (seq < e.seq) | none => true
def within (ls : List Entry) (seq : Int) : Bool := (List.range ls.length).all (withinAt ls seq)
theorem w_spec_KeyOk (s : ByteArray) (hz : s.size ≤ 4611686018427387904) : aB P 157 [.raw (.string s)] [] 0 (.raw (.bool (keyOk s))) := by
 refine pw (N := 40) (vs := [.tmp 2]) ⟨Tryz.func157, rfl, rfl⟩ rfl rfl (by simp) ?_
 simp only [eE]; refine sr rfl fun _ J => ?_; simp only [go_sem]; apply J; refine sq fun _ k2 => ?_; refine sr rfl fun _ J => ?_; simp only [go_sem]; apply J; refine wb ?_
 refine wl (α := Nat) (fun x => x ≤ s.size ∧ ∀ j, j < x → kByte s j = true) (fun x => s.size - x) (fun x => ([(0, .raw (.string s)), (3, .raw (.int .i64 (x : Int)))], [])) 0 0 ⟨Nat.zero_le _, fun j hj => absurd hj (Nat.not_lt_zero _)⟩ [] ?_ ?_
 · simp only [go_sem, Int.natCast_zero] <;> simp
 rintro i ⟨hi, hall⟩
 refine sq fun _ k4 => ?_; refine sr rfl fun _ J => ?_; simp only [go_sem]; apply J
 refine cd rfl (fun hc1 => ?_) fun hc1 => ?_
 · have hlt : i < s.size := by simpa using hc1
   refine wk ?_; apply k4; refine sq fun _ k6 => ?_; refine wb ?_; refine sr rfl fun _ k7 => ?_; simp only [go_sem]
   repeat (first | refine ⟨by first | omega | (intro hg; simp at hg; omega), ?_⟩ | fail)
   apply k7
   refine cd rfl (fun hc2 => ?_) fun hc2 => ?_
   · have hp : kByte s i = false := by unfold kByte; rw [hc2]; rfl
     refine sr rfl fun _ J => ?_; simp only [go_sem]; apply J; refine wR ?_; simp only [go_sem, lQ]
     have h9 : keyOk s = false := by unfold keyOk; rw [all_no hlt hp]; rfl
     refine fO ?_ trivial; simp only [go_sem, h9]
   have hp : kByte s i = true := by unfold kByte; rw [hc2]; rfl
   refine wk ?_; try simp only [go_sem, lQ]
   apply k6
   have hw : IntKind.i64.wrap ((i : Int) + 1) = ((i + 1 : Nat) : Int) := by rw [IntKind.wrap_i64]; omega
   refine wg rfl ?_; simp only [go_sem, hw]; try simp only [go_sem, lQ]
   refine ⟨i + 1, ⟨by omega, bN hall hp⟩, by omega, [], ?_⟩
   simp only [go_sem] <;> simp
 have hge : s.size ≤ i := Nat.not_lt.1 (by simpa using hc1)
 refine we ?_; try simp only [go_sem, lQ]
 apply k2; refine sr rfl fun _ J => ?_; simp only [go_sem]; apply J; refine wR ?_
 have h9 : keyOk s = (decide (1 ≤ (s.size : Int)) && decide ((s.size : Int) ≤ 8)) := by unfold keyOk; rw [all_yes hge hall]; rfl
 refine fO ?_ trivial; simp only [go_sem, h9]
theorem w_spec_l3Sum (n : Int) : aB P 158 [.raw (.int .i64 n)] [] 0 (.raw (.bool (sumOk n))) := by
 refine pw (N := 9) (vs := [.tmp 2]) ⟨Tryz.func158, rfl, rfl⟩ rfl rfl (by simp) ?_
 simp only [eE]; refine sr rfl fun _ J => ?_; simp only [go_sem]; apply J; refine sr rfl fun _ k2 => ?_; simp only [go_sem]; apply k2; refine wR ?_; refine fO ?_ trivial; simp only [go_sem, sumOk]
theorem w_spec_EntryOk (e : Entry) (hz : mxEnt e) : aB P 107 [enA e] [] 0 (.raw (.bool (cY e))) := by
 refine pw (N := 48) (vs := [.tmp 2]) ⟨Tryz.func107, rfl, rfl⟩ rfl rfl (by simp) ?_
 simp only [eE, enA]; refine sr rfl fun _ J => ?_; simp only [go_sem]; apply J; refine sq fun _ k2 => ?_; refine sr rfl fun _ k3 => ?_; simp only [go_sem]
 refine vp rfl rfl rfl ⟨Tryz.func157, rfl, rfl⟩ (w_spec_KeyOk e.key hz.1) (by simp only [go_sem]) (by simp only [go_sem]) ?_
 simp only [go_sem]
 refine vpg rfl rfl rfl rfl rfl rfl ⟨Tryz.func158, rfl, rfl⟩ (fun hg => w_spec_l3Sum e.n) (by simp only [go_sem]) (fun hg => (by simp only [go_sem])) (by simp only [go_sem]) trivial ?_
 simp only [go_sem]; apply k3
 refine cd rfl (fun hc1 => ?_) fun hc1 => ?_
 · have hb : entBad e = true := hc1
   refine sr rfl fun _ J => ?_; simp only [go_sem]; apply J; refine wR ?_; refine fO ?_ trivial; simp only [go_sem, cY, hb]
 have hb : entBad e = false := hc1
 refine wk ?_; apply k2; refine sq fun _ k5 => ?_; refine sr rfl fun _ J => ?_; simp only [go_sem]; apply J; refine wb ?_; refine sr rfl fun _ J => ?_; simp only [go_sem]; apply J
 refine cd rfl (fun hc2 => ?_) fun hc2 => ?_
 · have k1 : e.kind = 1 := by simpa using hc2
   refine sr rfl fun _ J => ?_; simp only [go_sem]; apply J; refine wR ?_; simp only [go_sem, lQ]; refine fO ?_ trivial; simp only [go_sem, cY, hb, Bool.false_eq_true, if_false, if_pos k1]
 have k1 : ¬ (e.kind = 1) := by simpa using hc2
 refine sr rfl fun _ J => ?_; simp only [go_sem]; apply J
 refine cd rfl (fun hc3 => ?_) fun hc3 => ?_
 · have k2 : e.kind = 2 := by simpa using hc3
   refine sr rfl fun _ J => ?_; simp only [go_sem]; apply J; refine wR ?_; simp only [go_sem, lQ]; refine fO ?_ trivial; simp only [go_sem, cY, hb, Bool.false_eq_true, if_false, if_neg k1, if_pos k2]
 have k2 : ¬ (e.kind = 2) := by simpa using hc3
 refine sr rfl fun _ J => ?_; simp only [go_sem]; apply J
 refine cd rfl (fun hc4 => ?_) fun hc4 => ?_
 · have k3 : e.kind = 3 := by simpa using hc4
   refine sr rfl fun _ J => ?_; simp only [go_sem]; apply J; refine wR ?_; simp only [go_sem, lQ]; refine fO ?_ trivial; simp only [go_sem, cY, hb, Bool.false_eq_true, if_false, if_neg k1, if_neg k2, if_pos k3]
 have k3 : ¬ (e.kind = 3) := by simpa using hc4
 refine wk ?_; try simp only [go_sem, lQ]
 apply k5; refine sr rfl fun _ J => ?_; simp only [go_sem]; apply J; refine wR ?_; refine fO ?_ trivial; simp only [go_sem, cY, hb, Bool.false_eq_true, if_false, if_neg k1, if_neg k2, if_neg k3]
theorem w_spec_EntryLess (a b : Entry) : aB P 149 [enA a, enA b] [] 0 (.raw (.bool (entLt a b))) := by
 refine pw (N := 24) (vs := [.tmp 4]) ⟨Tryz.func149, rfl, rfl⟩ rfl rfl (by simp) ?_
 simp only [eE, enA]; refine sr rfl fun _ J => ?_; simp only [go_sem]; apply J; refine sr rfl fun _ k2 => ?_; simp only [go_sem]; apply k2; refine wR ?_; refine fO ?_ trivial; simp only [go_sem, entLt]
theorem w_spec_l4Right (ls : List Entry) (hz : bT ls) : aB P 96 [.sl 5 (ls.map enA)] [] 0 (.raw (.bool (inOrd ls))) := by
 refine pw (N := 33) (vs := [.tmp 2]) ⟨Tryz.func96, rfl, rfl⟩ rfl rfl (by simp) ?_
 simp only [eE]
 have hlen := hz.1
 refine sr rfl fun _ J => ?_; simp only [go_sem]; apply J; refine sq fun _ k2 => ?_; refine sr rfl fun _ J => ?_; simp only [go_sem]; apply J; refine wb ?_
 refine wl (α := Nat) (fun x => x ≤ ls.length ∧ ∀ j, j < x → okAt ls j = true) (fun x => ls.length - x) (fun x => ([(0, .sl 5 (ls.map enA)), (3, .raw (.int .i64 (x : Int)))], [])) 0 0 ⟨Nat.zero_le _, fun j hj => absurd hj (Nat.not_lt_zero _)⟩ [] ?_ ?_
 · simp only [go_sem, Int.natCast_zero] <;> simp
 rintro i ⟨hi, hall⟩
 refine sq fun _ k4 => ?_; refine sr rfl fun _ J => ?_; simp only [go_sem]; apply J
 refine cd rfl (fun hc1 => ?_) fun hc1 => ?_
 · have hlt : i < ls.length := (by simpa using hc1); obtain ⟨l, hl, hdrop, hml⟩ := ix hlt
   have hw1 : IntKind.i64.wrap ((i : Int) - 1) = (i : Int) - 1 := by rw [IntKind.wrap_i64]; omega
   have hpn : ((i : Int) - 1).toNat = i - 1 := by omega
   have hpv : ls[i - 1]? = some (prevAt ls i) := by unfold prevAt; rw [List.getElem?_eq_getElem (by omega)]; rfl
   refine wk ?_; apply k4; refine sq fun _ k6 => ?_; refine wb ?_; refine sd mixed rfl fun _ k7 => ?_; simp only [go_sem, hl, hw1, hpn, hpv, enA]
   repeat (first | refine ⟨by first | omega | (intro hg; simp at hg; omega), ?_⟩ | fail)
   refine tp rfl rfl rfl ⟨Tryz.func107, rfl, rfl⟩ (w_spec_EntryOk l (hz.2 l hml)) (by simp only [go_sem, enA]) (by simp only [go_sem, enA]) ?_
   simp only [go_sem, hl, hw1, hpn, hpv, enA]
   repeat (first | refine ⟨by first | omega | (intro hg; simp at hg; omega), ?_⟩ | fail)
   refine tpg rfl rfl rfl rfl rfl rfl ⟨Tryz.func149, rfl, rfl⟩ (fun hg => w_spec_EntryLess (prevAt ls i) l) (by simp only [go_sem]) (fun hg => (by simp only [go_sem, enA])) (by simp only [go_sem, enA]) trivial ?_
   simp only [go_sem, hl, hw1, hpn, hpv, enA]
   repeat (first | refine ⟨by first | omega | (intro hg; simp at hg; omega), ?_⟩ | fail)
   refine ⟨by rfl, ?_⟩; apply k7
   refine cd rfl (fun hc2 => ?_) fun hc2 => ?_
   · have hp : okAt ls i = false := by unfold okAt; rw [hl]; simp only [hc2]; rfl
     refine sr rfl fun _ J => ?_; simp only [go_sem]; apply J; refine wR ?_; simp only [go_sem, lQ]
     have h9 : inOrd ls = false := by unfold inOrd; exact all_no hlt hp
     refine fO ?_ trivial; simp only [go_sem, h9]
   have hp : okAt ls i = true := by unfold okAt; rw [hl]; simp only [hc2]; rfl
   refine wk ?_; try simp only [go_sem, lQ]
   apply k6
   have hw : IntKind.i64.wrap ((i : Int) + 1) = ((i + 1 : Nat) : Int) := by rw [IntKind.wrap_i64]; omega
   refine wg rfl ?_; simp only [go_sem, hw]; try simp only [go_sem, lQ]
   refine ⟨i + 1, ⟨by omega, bN hall hp⟩, by omega, [], ?_⟩
   simp only [go_sem] <;> simp
 have hge : ls.length ≤ i := Nat.not_lt.1 (by simpa using hc1)
 refine we ?_; try simp only [go_sem, lQ]
 apply k2; refine sr rfl fun _ J => ?_; simp only [go_sem]; apply J; refine wR ?_
 have h9 : inOrd ls = true := by unfold inOrd; exact all_yes hge hall
 refine fO ?_ trivial; simp only [go_sem, h9]
theorem w_spec_l4Same (a b : List Entry) (hz : a.length ≤ 4611686018427387904) : aB P 104 [.sl 5 (a.map enA), .sl 5 (b.map enA)] [] 0 (.raw (.bool (decide (a = b)))) := by
 refine pw (N := 26) (vs := [.tmp 4]) ⟨Tryz.func104, rfl, rfl⟩ rfl rfl (by simp) ?_
 simp only [eE]; refine sr rfl fun _ J => ?_; simp only [go_sem]; apply J; refine sq fun _ k2 => ?_; refine sr rfl fun _ J => ?_; simp only [go_sem]; apply J
 refine cd rfl (fun hc1 => ?_) fun hc1 => ?_
 · have hne : a ≠ b := fun e => by rw [e] at hc1; simp at hc1
   refine sr rfl fun _ J => ?_; simp only [go_sem]; apply J; refine wR ?_; refine fO ?_ trivial; simp only [go_sem, decide_eq_false hne]
 have hlen : a.length = b.length := by simp at hc1; omega
 refine wk ?_; apply k2; refine sq fun _ k5 => ?_; refine sr rfl fun _ J => ?_; simp only [go_sem]; apply J; refine wb ?_
 refine wl (α := Nat) (fun x => x ≤ a.length ∧ ∀ j, j < x → eqAt a b j = true) (fun x => a.length - x) (fun x => ([(0, .sl 5 (a.map enA)), (1, .sl 5 (b.map enA)), (5, .raw (.int .i64 (x : Int)))], [])) 0 0 ⟨Nat.zero_le _, fun j hj => absurd hj (Nat.not_lt_zero _)⟩ [] ?_ ?_
 · simp only [go_sem, Int.natCast_zero] <;> simp
 rintro i ⟨hi, hall⟩
 refine sq fun _ k7 => ?_; refine sr rfl fun _ J => ?_; simp only [go_sem]; apply J
 refine cd rfl (fun hc2 => ?_) fun hc2 => ?_
 · have hlt : i < a.length := (by simpa using hc2); obtain ⟨l, hl, _, _⟩ := ix hlt
   obtain ⟨m, hm, _, _⟩ := ix (xs := b) (i := i) (by omega)
   refine wk ?_; apply k7; refine sq fun _ k9 => ?_; refine wb ?_; refine sd mixed rfl fun _ k10 => ?_; simp only [go_sem, hl, hm, enA]
   repeat (first | refine ⟨by first | omega | (intro hg; simp at hg; omega), ?_⟩ | fail)
   refine dE (fun hN => lstep_neqEnt rfl rfl hN rfl rfl) (.inl rfl) ?_
   simp only [go_sem, hl, hm, enA]
   repeat (first | refine ⟨by first | omega | (intro hg; simp at hg; omega), ?_⟩ | fail)
   refine ⟨by rfl, ?_⟩; apply k10
   refine cd rfl (fun hc3 => ?_) fun hc3 => ?_
   · have hne : a ≠ b := fun e => by
       rw [e, hm] at hl; cases hl; simp at hc3
     refine sr rfl fun _ J => ?_; simp only [go_sem]; apply J; refine wR ?_; simp only [go_sem, lQ]; refine fO ?_ trivial; simp only [go_sem, decide_eq_false hne]
   · have hp : eqAt a b i = true := by unfold eqAt; rw [hl, hm]; simpa using hc3
     refine wk ?_; try simp only [go_sem, lQ]
     apply k9
     have hw : IntKind.i64.wrap ((i : Int) + 1) = ((i + 1 : Nat) : Int) := by rw [IntKind.wrap_i64]; omega
     refine wg rfl ?_; simp only [go_sem, hw]; try simp only [go_sem, lQ]
     refine ⟨i + 1, ⟨by omega, bN hall hp⟩, by omega, [], ?_⟩
     simp only [go_sem] <;> simp
 have hge : a.length ≤ i := Nat.not_lt.1 (by simpa using hc2)
 refine we ?_; try simp only [go_sem, lQ]
 apply k5; refine sr rfl fun _ J => ?_; simp only [go_sem]; apply J; refine wR ?_
 have hie : i = a.length := by omega
 subst hie
 have he := eq_of_all hlen hall
 refine fO ?_ trivial; simp only [go_sem, decide_eq_true he]
theorem w_spec_l5Ints (a b : List Int) (hz : a.length ≤ 4611686018427387904) : aB P 105 [.sl 1 (a.map inA), .sl 1 (b.map inA)] [] 0 (.raw (.bool (decide (a = b)))) := by
 refine pw (N := 26) (vs := [.tmp 4]) ⟨Tryz.func105, rfl, rfl⟩ rfl rfl (by simp) ?_
 simp only [eE]; refine sr rfl fun _ J => ?_; simp only [go_sem]; apply J; refine sq fun _ k2 => ?_; refine sr rfl fun _ J => ?_; simp only [go_sem]; apply J
 refine cd rfl (fun hc1 => ?_) fun hc1 => ?_
 · have hne : a ≠ b := fun e => by rw [e] at hc1; simp at hc1
   refine sr rfl fun _ J => ?_; simp only [go_sem]; apply J; refine wR ?_; refine fO ?_ trivial; simp only [go_sem, decide_eq_false hne]
 have hlen : a.length = b.length := by simp at hc1; omega
 refine wk ?_; apply k2; refine sq fun _ k5 => ?_; refine sr rfl fun _ J => ?_; simp only [go_sem]; apply J; refine wb ?_
 refine wl (α := Nat) (fun x => x ≤ a.length ∧ ∀ j, j < x → eqAt a b j = true) (fun x => a.length - x) (fun x => ([(0, .sl 1 (a.map inA)), (1, .sl 1 (b.map inA)), (5, .raw (.int .i64 (x : Int)))], [])) 0 0 ⟨Nat.zero_le _, fun j hj => absurd hj (Nat.not_lt_zero _)⟩ [] ?_ ?_
 · simp only [go_sem, Int.natCast_zero] <;> simp
 rintro i ⟨hi, hall⟩
 refine sq fun _ k7 => ?_; refine sr rfl fun _ J => ?_; simp only [go_sem]; apply J
 refine cd rfl (fun hc2 => ?_) fun hc2 => ?_
 · have hlt : i < a.length := (by simpa using hc2); obtain ⟨l, hl, _, _⟩ := ix hlt
   obtain ⟨m, hm, _, _⟩ := ix (xs := b) (i := i) (by omega)
   refine wk ?_; apply k7; refine sq fun _ k9 => ?_; refine wb ?_; refine sd mixed rfl fun _ k10 => ?_; simp only [go_sem, hl, hm, inA]
   repeat (first | refine ⟨by first | omega | (intro hg; simp at hg; omega), ?_⟩ | fail)
   refine ⟨by rfl, ?_⟩; apply k10
   refine cd rfl (fun hc3 => ?_) fun hc3 => ?_
   · have hne : a ≠ b := fun e => by
       rw [e, hm] at hl; cases hl; simp at hc3
     refine sr rfl fun _ J => ?_; simp only [go_sem]; apply J; refine wR ?_; simp only [go_sem, lQ]; refine fO ?_ trivial; simp only [go_sem, decide_eq_false hne]
   · have hp : eqAt a b i = true := by unfold eqAt; rw [hl, hm]; simpa using hc3
     refine wk ?_; try simp only [go_sem, lQ]
     apply k9
     have hw : IntKind.i64.wrap ((i : Int) + 1) = ((i + 1 : Nat) : Int) := by rw [IntKind.wrap_i64]; omega
     refine wg rfl ?_; simp only [go_sem, hw]; try simp only [go_sem, lQ]
     refine ⟨i + 1, ⟨by omega, bN hall hp⟩, by omega, [], ?_⟩
     simp only [go_sem] <;> simp
 have hge : a.length ≤ i := Nat.not_lt.1 (by simpa using hc2)
 refine we ?_; try simp only [go_sem, lQ]
 apply k5; refine sr rfl fun _ J => ?_; simp only [go_sem]; apply J; refine wR ?_
 have hie : i = a.length := by omega
 subst hie
 have he := eq_of_all hlen hall
 refine fO ?_ trivial; simp only [go_sem, decide_eq_true he]
theorem w_spec_l5Within (ls : List Entry) (seq : Int) (hz : ls.length ≤ 4611686018427387904) : aB P 97 [.sl 5 (ls.map enA), .raw (.int .i64 seq)] [] 0 (.raw (.bool (within ls seq))) := by
 refine pw (N := 19) (vs := [.tmp 4]) ⟨Tryz.func97, rfl, rfl⟩ rfl rfl (by simp) ?_
 simp only [eE]; refine sr rfl fun _ J => ?_; simp only [go_sem]; apply J; refine sq fun _ k2 => ?_; refine sr rfl fun _ J => ?_; simp only [go_sem]; apply J; refine wb ?_
 refine wl (α := Nat) (fun x => x ≤ ls.length ∧ ∀ j, j < x → withinAt ls seq j = true) (fun x => ls.length - x) (fun x => ([(0, .sl 5 (ls.map enA)), (1, .raw (.int .i64 seq)), (5, .raw (.int .i64 (x : Int)))], [])) 0 0 ⟨Nat.zero_le _, fun j hj => absurd hj (Nat.not_lt_zero _)⟩ [] ?_ ?_
 · simp only [go_sem, Int.natCast_zero] <;> simp
 rintro i ⟨hi, hall⟩
 refine sq fun _ k4 => ?_; refine sr rfl fun _ J => ?_; simp only [go_sem]; apply J
 refine cd rfl (fun hc1 => ?_) fun hc1 => ?_
 · have hlt : i < ls.length := (by simpa using hc1); obtain ⟨l, hl, hdrop, hml⟩ := ix hlt; refine wk ?_; apply k4; refine sq fun _ k6 => ?_; refine wb ?_; refine sr rfl fun _ k7 => ?_; simp only [go_sem, hl, enA]
   repeat (first | refine ⟨by first | omega | (intro hg; simp at hg; omega), ?_⟩ | fail)
   apply k7
   refine cd rfl (fun hc2 => ?_) fun hc2 => ?_
   · have hp : withinAt ls seq i = false := by unfold withinAt; rw [hl]; simp only [hc2]; rfl
     refine sr rfl fun _ J => ?_; simp only [go_sem]; apply J; refine wR ?_; simp only [go_sem, lQ]
     have h9 : within ls seq = false := by unfold within; exact all_no hlt hp
     refine fO ?_ trivial; simp only [go_sem, h9]
   have hp : withinAt ls seq i = true := by unfold withinAt; rw [hl]; simp only [hc2]; rfl
   refine wk ?_; try simp only [go_sem, lQ]
   apply k6
   have hw : IntKind.i64.wrap ((i : Int) + 1) = ((i + 1 : Nat) : Int) := by rw [IntKind.wrap_i64]; omega
   refine wg rfl ?_; simp only [go_sem, hw]; try simp only [go_sem, lQ]
   refine ⟨i + 1, ⟨by omega, bN hall hp⟩, by omega, [], ?_⟩
   simp only [go_sem] <;> simp
 have hge : ls.length ≤ i := Nat.not_lt.1 (by simpa using hc1)
 refine we ?_; try simp only [go_sem, lQ]
 apply k2; refine sr rfl fun _ J => ?_; simp only [go_sem]; apply J; refine wR ?_
 have h9 : within ls seq = true := by unfold within; exact all_yes hge hall
 refine fO ?_ trivial; simp only [go_sem, h9]
theorem z2 : ((2 : Int) = 0) = False := by simp
theorem z10 : ((10 : Int) = 0) = False := by simp
theorem z16 : ((16 : Int) = 0) = False := by simp
theorem z65521 : ((65521 : Int) = 0) = False := by simp
theorem intI : intInfo Tryz.prog 3 = some .i64 ∧ intInfo Tryz.prog 5 = some .u8 := by refine ⟨?_, ?_⟩ <;> kernel_rfl
attribute [go_sem] z2 z10 z16 z65521 intI Option.isSome_some
theorem byteAt_range (s : ByteArray) (i : Nat) : 0 ≤ aF s i ∧ aF s i ≤ 255 := by
  unfold aF
  have := (s.data.toList.getD i 0).toNat_lt
  omega
def bitZ (n : Int) : Int := 2 ^ n.toNat
theorem bitZ_nat (i : Nat) : bitZ (i : Int) = 2 ^ i := rfl
theorem two_le {i j : Nat} (h : i ≤ j) : (2 : Int) ^ i ≤ 2 ^ j := by
  have : (2 : Nat) ^ i ≤ 2 ^ j := Nat.pow_le_pow_right (by omega) h
  exact_mod_cast this
theorem two_pos (i : Nat) : (0 : Int) < 2 ^ i := by
  have : 0 < (2 : Nat) ^ i := Nat.pow_pos (by omega)
  exact_mod_cast this
def orT (a b : Int) (i : Nat) : Bool := decide ((a.tdiv (2 ^ i)).tmod 2 = 1) || decide ((b.tdiv (2 ^ i)).tmod 2 = 1)
def orGo (a b : Int) : Nat → Int → Int
  | 0, out => out
  | i + 1, out => orGo a b i (if orT a b i = true then out * 2 + 1 else out * 2)
def orZ (a b : Int) : Int := orGo a b 16 0
theorem orGo_range (a b : Int) : ∀ (i : Nat) (out : Int), 0 ≤ out → 0 ≤ orGo a b i out ∧ orGo a b i out ≤ out * 2 ^ i + 2 ^ i - 1
  | 0, out, h => by simp only [orGo, Int.pow_zero]; omega
  | i + 1, out, h => by
    unfold orGo
    have hp := two_pos i
    have h2 : (2 : Int) ^ (i + 1) = 2 * 2 ^ i := by rw [Int.pow_succ]; omega
    rw [h2]; split
    · have := orGo_range a b i (out * 2 + 1) (by omega)
      refine ⟨this.1, Int.le_trans this.2 ?_⟩
      have : (out * 2 + 1) * 2 ^ i = out * (2 * 2 ^ i) + 2 ^ i := by rw [Int.add_mul, Int.mul_assoc, Int.one_mul]
      omega
    have := orGo_range a b i (out * 2) (by omega)
    refine ⟨this.1, Int.le_trans this.2 ?_⟩
    have : out * 2 * 2 ^ i = out * (2 * 2 ^ i) := by rw [Int.mul_assoc]
    omega
theorem orZ_range (a b : Int) : 0 ≤ orZ a b ∧ orZ a b ≤ 65535 := by
  have := orGo_range a b 16 0 (by omega)
  simpa [orZ] using this
def bZ (s : ByteArray) : Nat → Int
  | 0 => 7
  | i + 1 => (bZ s i * 31 + aF s i).tmod 65521
theorem hashN_range (s : ByteArray) : ∀ i, 0 ≤ bZ s i ∧ bZ s i < 65521
  | 0 => by simp [bZ]
  | i + 1 => by
    have h1 := hashN_range s i
    have h2 := byteAt_range s i
    unfold bZ; rw [Int.tmod_eq_emod_of_nonneg (by omega)]; omega
def keyMask (s : ByteArray) : Int := orZ (bitZ ((bZ s s.size).tmod 16)) (bitZ (((bZ s s.size).tdiv 16).tmod 16))
def maskStep (m : Int) (e : Entry) : Int := orZ m (keyMask e.key)
def maskOf (ls : List Entry) : Int := ls.foldl maskStep 0
theorem bitZ_range {n : Int} (h0 : 0 ≤ n) (h : n ≤ 15) : 0 ≤ bitZ n ∧ bitZ n ≤ 65535 := by
  unfold bitZ
  have h1 := two_le (i := n.toNat) (j := 15) (by omega)
  have h2 := two_pos n.toNat
  have h3 : (2 : Int) ^ 15 = 32768 := rfl
  omega
def runOk (r : Run) : Bool := ((decide (1 ≤ (r.ents.length : Int)) && decide ((r.ents.length : Int) ≤ 150)) && inOrd r.ents) && decide (r.mask = maskOf r.ents)
def zRunV : Run := ⟨[], 0⟩
def zEntV : Entry := ⟨⟨#[]⟩, 0, 0, ⟨#[]⟩, 0⟩
def lowKey (r : Run) : ByteArray := ((r.ents[0]?).getD zEntV).key
def highKey (r : Run) : ByteArray := ((r.ents[r.ents.length - 1]?).getD zEntV).key
def prevRun (ls : List Run) (i : Nat) : Run := (ls[i - 1]?).getD zRunV
def runsAt (ls : List Run) (ap : Bool) (seq : Int) (i : Nat) : Bool := match ls[i]? with
  | some r => !(!runOk r || !within r.ents seq) && !((ap && decide (0 < (i : Int))) && !Op.bytesLess (highKey (prevRun ls i)).toList (lowKey r).toList)
  | none => true
def runsRight (ls : List Run) (most : Int) (ap : Bool) (seq : Int) : Bool := if most < (ls.length : Int) then false else (List.range ls.length).all (runsAt ls ap seq)
def prevInt (ls : List Int) (i : Nat) : Int := (ls[i - 1]?).getD 0
def snapAt (ls : List Int) (seq : Int) (i : Nat) : Bool := match ls[i]? with
  | some n => !((decide (n < 0) || decide (seq < n)) || (decide (0 < (i : Int)) && decide (n ≤ prevInt ls i)))
  | none => true
def snapsOk (ls : List Int) (seq : Int) : Bool := (List.range ls.length).all (snapAt ls seq) && decide ((ls.length : Int) ≤ 4)
def mxRuns (ls : List Run) : Prop := ls.length ≤ 4611686018427387904 ∧ ∀ r ∈ ls, bT r.ents
theorem runOk_len {r : Run} (h : runOk r = true) : 1 ≤ r.ents.length ∧ r.ents.length ≤ 150 := by
  simp [runOk] at h
  omega
theorem runsAt_ok {ls : List Run} {ap : Bool} {seq : Int} {i : Nat} {r : Run} (h : runsAt ls ap seq i = true) (hr : ls[i]? = some r) : runOk r = true := by
  unfold runsAt at h; rw [hr] at h; simp at h
  exact h.1.1
theorem w_spec_l1Max (a b : Int) : aB P 82 [.raw (.int .i64 a), .raw (.int .i64 b)] [] 0 (.raw (.int .i64 (max a b))) := by
 refine pw (N := 10) (vs := [.tmp 4]) ⟨Tryz.func82, rfl, rfl⟩ rfl rfl (by simp) ?_
 simp only [eE]; refine sr rfl fun _ J => ?_; simp only [go_sem]; apply J; refine sq fun _ k2 => ?_; refine sr rfl fun _ J => ?_; simp only [go_sem]; apply J
 refine cd rfl (fun hc1 => ?_) fun hc1 => ?_
 · have n1 : b < a := by simpa using hc1
   refine sr rfl fun _ J => ?_; simp only [go_sem]; apply J; refine wR ?_
   have h9 : max a b = a := by omega
   refine fO ?_ trivial; simp only [go_sem, h9]
 have n1 : ¬ (b < a) := by simpa using hc1
 refine wk ?_; apply k2; refine sr rfl fun _ J => ?_; simp only [go_sem]; apply J; refine wR ?_
 have h9 : max a b = b := by omega
 refine fO ?_ trivial; simp only [go_sem, h9]
theorem w_spec_l4Bit (n : Int) (h0 : 0 ≤ n) (hn : n ≤ 15) : aB P 228 [.raw (.int .i64 n)] [] 0 (.raw (.int .i64 (bitZ n))) := by
 refine pw (N := 13) (vs := [.tmp 2]) ⟨Tryz.func228, rfl, rfl⟩ rfl rfl (by simp) ?_
 simp only [eE]
 obtain ⟨m, rfl⟩ := Int.eq_ofNat_of_zero_le h0
 refine sr rfl fun _ J => ?_; simp only [go_sem]; apply J; refine sr rfl fun _ k2 => ?_; simp only [go_sem]; apply k2; refine sq fun _ k3 => ?_; refine sr rfl fun _ J => ?_; simp only [go_sem]; apply J; refine wb ?_
 refine wl (α := Nat) (fun x => x ≤ m) (fun x => m - x) (fun x => ([(0, .raw (.int .i64 (m : Int))), (3, .raw (.int .i64 (2 ^ x))), (4, .raw (.int .i64 (x : Int)))], [])) 0 0 (Nat.zero_le _) [] ?_ ?_
 · simp only [go_sem, Int.natCast_zero, Int.pow_zero] <;> simp
 rintro i hi
 refine sq fun _ k5 => ?_; refine sr rfl fun _ J => ?_; simp only [go_sem]; apply J
 refine cd rfl (fun hc1 => ?_) fun hc1 => ?_
 · have hlt : i < m := by simpa using hc1
   refine wk ?_; apply k5; refine sq fun _ k7 => ?_; refine wb ?_
   have h15 := two_le (i := i) (j := 15) (by omega)
   have hp := two_pos i
   have h3 : (2 : Int) ^ 15 = 32768 := rfl
   have hw2 : IntKind.i64.wrap (2 ^ i * 2) = 2 ^ i * 2 := by rw [IntKind.wrap_i64]; omega
   refine wg rfl ?_; simp only [go_sem, hw2]; try simp only [go_sem, lQ]
   apply k7
   have hw : IntKind.i64.wrap ((i : Int) + 1) = ((i + 1 : Nat) : Int) := by rw [IntKind.wrap_i64]; omega
   refine wg rfl ?_; simp only [go_sem, hw]; try simp only [go_sem, lQ]
   refine ⟨i + 1, by omega, by omega, [], ?_⟩
   simp only [go_sem] <;> simp [Int.pow_succ]
 have hge : m ≤ i := Nat.not_lt.1 (by simpa using hc1)
 refine we ?_; try simp only [go_sem, lQ]
 apply k3; refine sr rfl fun _ J => ?_; simp only [go_sem]; apply J; refine wR ?_
 have hie : i = m := by omega
 subst hie
 have h9 := bitZ_nat i
 refine fO ?_ trivial; simp only [go_sem, h9]
theorem w_spec_l4Or (a b : Int) (ha : 0 ≤ a) (ha1 : a ≤ 65535) (hb : 0 ≤ b) (hb1 : b ≤ 65535) : aB P 206 [.raw (.int .i64 a), .raw (.int .i64 b)] [] 0 (.raw (.int .i64 (orZ a b))) := by
 refine pw (N := 30) (vs := [.tmp 4]) ⟨Tryz.func206, rfl, rfl⟩ rfl rfl (by simp) ?_
 simp only [eE]; refine sr rfl fun _ J => ?_; simp only [go_sem]; apply J; refine sr rfl fun _ k2 => ?_; simp only [go_sem]; apply k2; refine sq fun _ k3 => ?_; refine sr rfl fun _ J => ?_; simp only [go_sem]; apply J; refine wb ?_
 refine wl (α := Nat × Int) (fun x => x.1 ≤ 16 ∧ 0 ≤ x.2 ∧ x.2 < 2 ^ (16 - x.1) ∧ orGo a b x.1 x.2 = orGo a b 16 0) (fun x => x.1) (fun x => ([(0, .raw (.int .i64 a)), (1, .raw (.int .i64 b)), (5, .raw (.int .i64 x.2)), (6, .raw (.int .i64 ((x.1 : Int) - 1)))], [])) 0 (16, 0) ⟨by simp only; omega, by simp only; omega, by simp, rfl⟩ [] ?_ ?_
 · simp only [go_sem] <;> simp
 rintro ⟨j, out⟩ ⟨hj, ho, ho1, hgo⟩
 simp only at hj ho ho1 hgo ⊢
 refine sq fun _ k5 => ?_; refine sr rfl fun _ J => ?_; simp only [go_sem]; apply J
 refine cd rfl (fun hc1 => ?_) fun hc1 => ?_
 · obtain ⟨i, rfl⟩ : ∃ i, j = i + 1 := ⟨j - 1, by have h9 : (0 : Int) ≤ (j : Int) - 1 := (by simpa using hc1); omega⟩
   have hi1 : (((i + 1 : Nat) : Int) - 1) = (i : Int) := by omega
   have h16 := two_le (i := 16 - (i + 1)) (j := 15) (by omega)
   have h15 := two_le (i := i) (j := 15) (by omega)
   have hp := two_pos i
   have h3 : (2 : Int) ^ 15 = 32768 := rfl
   have hw1 : IntKind.i64.wrap (out * 2) = out * 2 := by rw [IntKind.wrap_i64]; omega
   have hw2 : IntKind.i64.wrap (out * 2 + 1) = out * 2 + 1 := by rw [IntKind.wrap_i64]; omega
   have hz : ((2 : Int) ^ i = 0) = False := by simp; omega
   have hq : ∀ c : Int, 0 ≤ c → c ≤ 65535 → IntKind.i64.wrap (c.tdiv (2 ^ i)) = c.tdiv (2 ^ i) := fun c h0 h1 => by
     have h4 : 0 ≤ c.tdiv (2 ^ i) := Int.tdiv_nonneg h0 (by omega)
     have h5 : c.tdiv (2 ^ i) ≤ c := by rw [Int.tdiv_eq_ediv_of_nonneg h0]; exact Int.ediv_le_self _ h0
     rw [IntKind.wrap_i64]; omega
   have hqa := hq a ha ha1
   have hqb := hq b hb hb1
   simp only [hi1]; refine wk ?_; apply k5; refine sq fun _ k7 => ?_; refine wb ?_; refine sr rfl fun _ J => ?_; simp only [go_sem, hw1]; apply J; refine sr rfl fun _ k9 => ?_; simp only [go_sem, hqa, hqb]
   refine vp rfl rfl rfl ⟨Tryz.func228, rfl, rfl⟩ (w_spec_l4Bit (i : Int) (by omega) (by omega)) (by simp only [go_sem]) (by simp only [go_sem]) ?_
   simp only [go_sem, bitZ_nat, hz, hqa, hqb]
   refine vpg rfl rfl rfl rfl rfl rfl ⟨Tryz.func228, rfl, rfl⟩ (fun hg => w_spec_l4Bit (i : Int) (by omega) (by omega)) (by simp only [go_sem]) (fun hg => (by simp only [go_sem])) (by simp only [go_sem]) trivial ?_
   simp only [go_sem, bitZ_nat, hz, hqa, hqb]; apply k9
   refine cd rfl (fun hc2 => ?_) fun hc2 => ?_
   · have hx : orT a b i = true := hc2
     refine wg rfl ?_; simp only [go_sem, hw2]; try simp only [go_sem, lQ]
     apply k7
     have hw4 : IntKind.i64.wrap ((i : Int) - 1) = (i : Int) - 1 := by rw [IntKind.wrap_i64]; omega
     refine wg rfl ?_; simp only [go_sem, hw4]; try simp only [go_sem, lQ]
     refine ⟨(i, if orT a b i = true then out * 2 + 1 else out * 2), ⟨by simp only; omega, by simp only; split <;> omega, by
       simp only
       have e1 : 16 - i = (16 - (i + 1)) + 1 := by omega
       rw [e1, Int.pow_succ]
       split <;> omega, by simp only; exact hgo⟩, by simp only; omega, [], ?_⟩
     simp only [go_sem, hx, if_true, if_false, Bool.false_eq_true] <;> simp
   have hx : orT a b i = false := hc2
   refine wk ?_; try simp only [go_sem, lQ]
   apply k7
   have hw4 : IntKind.i64.wrap ((i : Int) - 1) = (i : Int) - 1 := by rw [IntKind.wrap_i64]; omega
   refine wg rfl ?_; simp only [go_sem, hw4]; try simp only [go_sem, lQ]
   refine ⟨(i, if orT a b i = true then out * 2 + 1 else out * 2), ⟨by simp only; omega, by simp only; split <;> omega, by
     simp only
     have e1 : 16 - i = (16 - (i + 1)) + 1 := by omega
     rw [e1, Int.pow_succ]
     split <;> omega, by simp only; exact hgo⟩, by simp only; omega, [], ?_⟩
   simp only [go_sem, hx, if_true, if_false, Bool.false_eq_true] <;> simp
 have hj0 : j = 0 := by have h9 : ¬ (0 : Int) ≤ (j : Int) - 1 := (by simpa using hc1); omega
 subst hj0; refine we ?_; try simp only [go_sem, lQ]
 apply k3; refine sr rfl fun _ J => ?_; simp only [go_sem]; apply J; refine wR ?_
 have h9 : orZ a b = out := by unfold orZ; rw [← hgo]; rfl
 refine fO ?_ trivial; simp only [go_sem, h9]
theorem w_spec_KeyMask (s : ByteArray) (hs : s.size ≤ 4611686018427387904) : aB P 207 [.raw (.string s)] [] 0 (.raw (.int .i64 (keyMask s))) := by
 refine pw (N := 27) (vs := [.tmp 2]) ⟨Tryz.func207, rfl, rfl⟩ rfl rfl (by simp) ?_
 simp only [eE]; refine sr rfl fun _ J => ?_; simp only [go_sem]; apply J; refine sr rfl fun _ k2 => ?_; simp only [go_sem]; apply k2; refine sq fun _ k3 => ?_; refine sr rfl fun _ J => ?_; simp only [go_sem]; apply J; refine wb ?_
 refine wl (α := Nat) (fun x => x ≤ s.size) (fun x => s.size - x) (fun x => ([(0, .raw (.string s)), (3, .raw (.int .i64 (bZ s x))), (4, .raw (.int .i64 (x : Int)))], [])) 0 0 (Nat.zero_le _) [] ?_ ?_
 · simp only [go_sem, bZ, Int.natCast_zero] <;> simp
 rintro i hi
 refine sq fun _ k5 => ?_; refine sr rfl fun _ J => ?_; simp only [go_sem]; apply J
 refine cd rfl (fun hc1 => ?_) fun hc1 => ?_
 · have hlt : i < s.size := by simpa using hc1
   have hh := hashN_range s i
   have hb := byteAt_range s i
   have hw0 : IntKind.i64.wrap (aF s i) = aF s i := by rw [IntKind.wrap_i64]; omega
   have hw1 : IntKind.i64.wrap (bZ s i * 31) = bZ s i * 31 := by rw [IntKind.wrap_i64]; omega
   have hw2 : IntKind.i64.wrap (bZ s i * 31 + aF s i) = bZ s i * 31 + aF s i := by rw [IntKind.wrap_i64]; omega
   refine wk ?_; apply k5; refine sq fun _ k7 => ?_; refine wb ?_; refine wg rfl ?_; simp only [go_sem, hw0, hw1, hw2]
   repeat (first | refine ⟨by first | omega | (intro hg; simp at hg; omega), ?_⟩ | fail)
   try simp only [go_sem, lQ]
   apply k7
   have hw : IntKind.i64.wrap ((i : Int) + 1) = ((i + 1 : Nat) : Int) := by rw [IntKind.wrap_i64]; omega
   refine wg rfl ?_; simp only [go_sem, hw]; try simp only [go_sem, lQ]
   refine ⟨i + 1, by omega, by omega, [], ?_⟩
   simp only [go_sem, bZ] <;> simp
 have hge : i = s.size := by have h9 : ¬ i < s.size := (by simpa using hc1); omega
 subst hge; refine we ?_; try simp only [go_sem, lQ]
 apply k3
 have hh := hashN_range s s.size
 have hq : IntKind.i64.wrap ((bZ s s.size).tdiv 16) = (bZ s s.size).tdiv 16 := by
   rw [Int.tdiv_eq_ediv_of_nonneg (by omega), IntKind.wrap_i64]; omega
 have hm1 : 0 ≤ (bZ s s.size).tmod 16 ∧ (bZ s s.size).tmod 16 ≤ 15 := by rw [Int.tmod_eq_emod_of_nonneg (by omega)]; omega
 have hd : 0 ≤ (bZ s s.size).tdiv 16 := Int.tdiv_nonneg (by omega) (by omega)
 have hm2 : 0 ≤ ((bZ s s.size).tdiv 16).tmod 16 ∧ ((bZ s s.size).tdiv 16).tmod 16 ≤ 15 := by rw [Int.tmod_eq_emod_of_nonneg hd]; omega
 have hr1 := bitZ_range hm1.1 hm1.2
 have hr2 := bitZ_range hm2.1 hm2.2
 refine sr rfl fun _ k8 => ?_; simp only [go_sem, hq]
 refine vp rfl rfl rfl ⟨Tryz.func228, rfl, rfl⟩ (w_spec_l4Bit _ hm1.1 hm1.2) (by simp only [go_sem]) (by simp only [go_sem]) ?_
 simp only [go_sem, hq]
 refine vp rfl rfl rfl ⟨Tryz.func228, rfl, rfl⟩ (w_spec_l4Bit _ hm2.1 hm2.2) (by simp only [go_sem]) (by simp only [go_sem]) ?_
 simp only [go_sem]
 refine vp rfl rfl rfl ⟨Tryz.func206, rfl, rfl⟩ (w_spec_l4Or _ _ hr1.1 hr1.2 hr2.1 hr2.2) (by simp only [go_sem]) (by simp only [go_sem]) ?_
 simp only [go_sem]; apply k8; refine wR ?_; refine fO ?_ trivial; simp only [go_sem, keyMask]
theorem w_spec_l4Mask (ls : List Entry) (hz : bT ls) : aB P 175 [.sl 5 (ls.map enA)] [] 0 (.raw (.int .i64 (maskOf ls))) := by
 refine pw (N := 20) (vs := [.tmp 2]) ⟨Tryz.func175, rfl, rfl⟩ rfl rfl (by simp) ?_
 simp only [eE]
 have hlen := hz.1
 refine sr rfl fun _ J => ?_; simp only [go_sem]; apply J; refine sr rfl fun _ k2 => ?_; simp only [go_sem]; apply k2; refine sq fun _ k3 => ?_; refine sr rfl fun _ J => ?_; simp only [go_sem]; apply J; refine wb ?_
 refine wl (α := Nat × Int) (fun x => x.1 ≤ ls.length ∧ 0 ≤ x.2 ∧ x.2 ≤ 65535 ∧ (ls.drop x.1).foldl maskStep x.2 = ls.foldl maskStep 0) (fun x => ls.length - x.1) (fun x => ([(0, .sl 5 (ls.map enA)), (3, .raw (.int .i64 x.2)), (4, .raw (.int .i64 (x.1 : Int)))], [])) 0 (0, 0) ⟨Nat.zero_le _, by simp, by simp, by simp⟩ [] ?_ ?_
 · simp only [go_sem, Int.natCast_zero] <;> simp
 rintro ⟨i, m⟩ ⟨hi, hm0, hm1, hfold⟩
 simp only at hi hm0 hm1 hfold ⊢
 refine sq fun _ k5 => ?_; refine sr rfl fun _ J => ?_; simp only [go_sem]; apply J
 refine cd rfl (fun hc1 => ?_) fun hc1 => ?_
 · have hlt : i < ls.length := (by simpa using hc1); obtain ⟨l, hl, hdrop, hml⟩ := ix hlt
   have hkr := orZ_range (bitZ ((bZ l.key l.key.size).tmod 16)) (bitZ (((bZ l.key l.key.size).tdiv 16).tmod 16))
   refine wk ?_; apply k5; refine sq fun _ k7 => ?_; refine wb ?_; refine wg rfl ?_; simp only [go_sem, hl, enA]
   repeat (first | refine ⟨by first | omega | (intro hg; simp at hg; omega), ?_⟩ | fail)
   refine vp rfl rfl rfl ⟨Tryz.func207, rfl, rfl⟩ (w_spec_KeyMask l.key (hz.2 l hml).1) (by simp only [go_sem]) (by simp only [go_sem]) ?_
   simp only [go_sem]
   refine vp rfl rfl rfl ⟨Tryz.func206, rfl, rfl⟩ (w_spec_l4Or m (keyMask l.key) hm0 hm1 hkr.1 hkr.2) (by simp only [go_sem]) (by simp only [go_sem]) ?_
   simp only [go_sem]; try simp only [go_sem, lQ]
   apply k7
   have hw : IntKind.i64.wrap ((i : Int) + 1) = ((i + 1 : Nat) : Int) := by rw [IntKind.wrap_i64]; omega
   refine wg rfl ?_; simp only [go_sem, hw]; try simp only [go_sem, lQ]
   refine ⟨(i + 1, maskStep m l), ⟨by omega, (orZ_range _ _).1, (orZ_range _ _).2, by rw [hdrop] at hfold; exact hfold⟩, by omega, [], ?_⟩
   simp only [go_sem, maskStep] <;> simp
 have hge : ls.length ≤ i := Nat.not_lt.1 (by simpa using hc1)
 refine we ?_; try simp only [go_sem, lQ]
 apply k3; refine sr rfl fun _ J => ?_; simp only [go_sem]; apply J; refine wR ?_; rw [List.drop_eq_nil_of_le hge] at hfold
 have h9 : maskOf ls = m := hfold.symm
 refine fO ?_ trivial; simp only [go_sem, h9]
theorem w_spec_RunOk (r : Run) (hz : bT r.ents) : aB P 150 [rA r] [] 0 (.raw (.bool (runOk r))) := by
 refine pw (N := 26) (vs := [.tmp 2]) ⟨Tryz.func150, rfl, rfl⟩ rfl rfl (by simp) ?_
 simp only [eE, rA]; refine sr rfl fun _ J => ?_; simp only [go_sem]; apply J; refine sd mixed rfl fun _ k2 => ?_; simp only [go_sem]
 refine tpg rfl rfl rfl rfl rfl rfl ⟨Tryz.func96, rfl, rfl⟩ (fun hg => w_spec_l4Right r.ents hz) (by simp only [go_sem]) (fun hg => (by simp only [go_sem])) (by simp only [go_sem]) trivial ?_
 simp only [go_sem]
 refine tpg rfl rfl rfl rfl rfl rfl ⟨Tryz.func175, rfl, rfl⟩ (fun hg => w_spec_l4Mask r.ents hz) (by simp only [go_sem]) (fun hg => (by simp only [go_sem])) (by simp only [go_sem]) trivial ?_
 simp only [go_sem]; refine ⟨by rfl, ?_⟩; apply k2; refine wR ?_; refine fO ?_ trivial; simp only [go_sem, runOk]
theorem w_spec_RunSame (a b : Run) (hz : a.ents.length ≤ 4611686018427387904) : aB P 155 [rA a, rA b] [] 0 (.raw (.bool (decide (a.mask = b.mask) && decide (a.ents = b.ents)))) := by
 refine pw (N := 17) (vs := [.tmp 4]) ⟨Tryz.func155, rfl, rfl⟩ rfl rfl (by simp) ?_
 simp only [eE, rA]; refine sr rfl fun _ J => ?_; simp only [go_sem]; apply J; refine sr rfl fun _ k2 => ?_; simp only [go_sem]
 refine vpg rfl rfl rfl rfl rfl rfl ⟨Tryz.func104, rfl, rfl⟩ (fun hg => w_spec_l4Same a.ents b.ents hz) (by simp only [go_sem]) (fun hg => (by simp only [go_sem])) (by simp only [go_sem]) trivial ?_
 simp only [go_sem]; apply k2; refine wR ?_; refine fO ?_ trivial; simp only [go_sem]
theorem w_spec_l5Low (r : Run) (h1 : 1 ≤ r.ents.length) : aB P 152 [rA r] [] 0 (.raw (.string (lowKey r))) := by
 refine pw (N := 8) (vs := [.tmp 2]) ⟨Tryz.func152, rfl, rfl⟩ rfl rfl (by simp) ?_
 simp only [eE, rA]
 have hl : r.ents[0]? = some ((r.ents[0]?).getD zEntV) := by rw [List.getElem?_eq_getElem (by omega)]; rfl
 generalize hg : (r.ents[0]?).getD zEntV = l at hl
 have hk : lowKey r = l.key := by unfold lowKey; rw [hg]
 rw [hk]; refine sr rfl fun _ J => ?_; simp only [go_sem]; apply J; refine sr rfl fun _ k2 => ?_; simp only [go_sem, hl, enA, Int.toNat_zero]
 repeat (first | refine ⟨by first | omega | (intro hg; simp at hg; omega), ?_⟩ | fail)
 apply k2; refine wR ?_; refine fO ?_ trivial; simp only [go_sem]
theorem w_spec_l5High (r : Run) (h1 : 1 ≤ r.ents.length) (h2 : r.ents.length ≤ 4611686018427387904) : aB P 151 [rA r] [] 0 (.raw (.string (highKey r))) := by
 refine pw (N := 12) (vs := [.tmp 2]) ⟨Tryz.func151, rfl, rfl⟩ rfl rfl (by simp) ?_
 simp only [eE, rA]
 have hl : r.ents[r.ents.length - 1]? = some ((r.ents[r.ents.length - 1]?).getD zEntV) := by rw [List.getElem?_eq_getElem (by omega)]; rfl
 generalize hg : (r.ents[r.ents.length - 1]?).getD zEntV = l at hl
 have hk : highKey r = l.key := by unfold highKey; rw [hg]
 rw [hk]
 have hw1 : IntKind.i64.wrap ((r.ents.length : Int) - 1) = (r.ents.length : Int) - 1 := by rw [IntKind.wrap_i64]; omega
 have hpn : ((r.ents.length : Int) - 1).toNat = r.ents.length - 1 := by omega
 refine sr rfl fun _ J => ?_; simp only [go_sem]; apply J; refine sr rfl fun _ k2 => ?_; simp only [go_sem, hl, hw1, hpn, enA]
 repeat (first | refine ⟨by first | omega | (intro hg; simp at hg; omega), ?_⟩ | fail)
 apply k2; refine wR ?_; refine fO ?_ trivial; simp only [go_sem]
theorem w_spec_l5Runs (ls : List Run) (most : Int) (ap : Bool) (seq : Int) (hz : mxRuns ls) : aB P 99 [.sl 2 (ls.map rA), .raw (.int .i64 most), .raw (.bool ap), .raw (.int .i64 seq)] [] 0 (.raw (.bool (runsRight ls most ap seq))) := by
 refine pw (N := 55) (vs := [.tmp 8]) ⟨Tryz.func99, rfl, rfl⟩ rfl rfl (by simp) ?_
 simp only [eE]
 have hlen := hz.1
 refine sr rfl fun _ J => ?_; simp only [go_sem]; apply J; refine sq fun _ k2 => ?_; refine sr rfl fun _ J => ?_; simp only [go_sem]; apply J
 refine cd rfl (fun hc1 => ?_) fun hc1 => ?_
 · have n1 : most < (ls.length : Int) := by simpa using hc1
   refine sr rfl fun _ J => ?_; simp only [go_sem]; apply J; refine wR ?_; refine fO ?_ trivial; simp only [go_sem, runsRight, n1]
 have n1 : ¬ (most < (ls.length : Int)) := by simpa using hc1
 refine wk ?_; apply k2; refine sq fun _ k5 => ?_; refine sr rfl fun _ J => ?_; simp only [go_sem]; apply J; refine wb ?_
 refine wl (α := Nat) (fun x => x ≤ ls.length ∧ ∀ j, j < x → runsAt ls ap seq j = true) (fun x => ls.length - x) (fun x => ([(0, .sl 2 (ls.map rA)), (2, .raw (.bool ap)), (3, .raw (.int .i64 seq)), (9, .raw (.int .i64 (x : Int)))], [])) 0 0 ⟨Nat.zero_le _, fun j hj => absurd hj (Nat.not_lt_zero _)⟩ [] ?_ ?_
 · simp only [go_sem, Int.natCast_zero] <;> simp
 rintro i ⟨hi, hall⟩
 refine sq fun _ k7 => ?_; refine sr rfl fun _ J => ?_; simp only [go_sem]; apply J
 refine cd rfl (fun hc2 => ?_) fun hc2 => ?_
 · have hlt : i < ls.length := (by simpa using hc2); obtain ⟨l, hl, hdrop, hml⟩ := ix hlt
   have hw1 : IntKind.i64.wrap ((i : Int) - 1) = (i : Int) - 1 := by rw [IntKind.wrap_i64]; omega
   have hpn : ((i : Int) - 1).toNat = i - 1 := by omega
   have hpv : ls[i - 1]? = some (prevRun ls i) := by unfold prevRun; rw [List.getElem?_eq_getElem (by omega)]; rfl
   have hprev : 0 < i → 1 ≤ (prevRun ls i).ents.length ∧ (prevRun ls i).ents.length ≤ 150 := fun h0 => runOk_len (runsAt_ok (hall (i - 1) (by omega)) hpv)
   refine wk ?_; apply k7; refine sq fun _ k9 => ?_; refine wb ?_; refine sq fun _ k10 => ?_; refine sr rfl fun _ k11 => ?_; simp only [go_sem, hl, rA]
   repeat (first | refine ⟨by first | omega | (intro hg; simp at hg; omega), ?_⟩ | fail)
   refine vp rfl rfl rfl ⟨Tryz.func150, rfl, rfl⟩ (w_spec_RunOk l (hz.2 l hml)) (by simp only [go_sem, rA]) (by simp only [go_sem, rA]) ?_
   simp only [go_sem, hl, rA]
   repeat (first | refine ⟨by first | omega | (intro hg; simp at hg; omega), ?_⟩ | fail)
   refine vpg rfl rfl rfl rfl rfl rfl ⟨Tryz.func97, rfl, rfl⟩ (fun hg => w_spec_l5Within l.ents seq (hz.2 l hml).1) (by simp only [go_sem]) (fun hg => (by simp only [go_sem])) (by simp only [go_sem]) trivial ?_
   simp only [go_sem, hl, rA]
   repeat (first | refine ⟨by first | omega | (intro hg; simp at hg; omega), ?_⟩ | fail)
   apply k11
   refine cd rfl (fun hc3 => ?_) fun hc3 => ?_
   · have hp : runsAt ls ap seq i = false := by unfold runsAt; rw [hl]; simp only [hc3]; rfl
     refine sr rfl fun _ J => ?_; simp only [go_sem]; apply J; refine wR ?_; simp only [go_sem, lQ]
     have h9 : runsRight ls most ap seq = false := by unfold runsRight; rw [if_neg n1]; exact all_no hlt hp
     refine fO ?_ trivial; simp only [go_sem, h9]
   have hr1 : runOk l = true := by simp at hc3; exact hc3.1
   have hl1 := runOk_len hr1
   refine wk ?_; apply k10; refine sd mixed rfl fun _ k13 => ?_; simp only [go_sem, hl, hw1, hpn, hpv, rA]
   repeat (first | refine ⟨by first | omega | (intro hg; simp at hg; omega), ?_⟩ | fail)
   refine tpg rfl rfl rfl rfl rfl rfl ⟨Tryz.func151, rfl, rfl⟩ (fun hg => w_spec_l5High (prevRun ls i) (hprev (by simp at hg; omega)).1 (by have := (hprev (by simp at hg; omega)).2; omega)) (by simp only [go_sem]) (fun hg => (by simp only [go_sem, rA])) (by simp only [go_sem, rA]) trivial ?_
   simp only [go_sem, hl, hw1, hpn, hpv, rA]
   repeat (first | refine ⟨by first | omega | (intro hg; simp at hg; omega), ?_⟩ | fail)
   refine tpg rfl rfl rfl rfl rfl rfl ⟨Tryz.func152, rfl, rfl⟩ (fun hg => w_spec_l5Low l hl1.1) (by simp only [go_sem]) (fun hg => (by simp only [go_sem, rA])) (by simp only [go_sem, rA]) trivial ?_
   simp only [go_sem, hl, hw1, hpn, hpv, rA]
   repeat (first | refine ⟨by first | omega | (intro hg; simp at hg; omega), ?_⟩ | fail)
   refine ⟨by rfl, ?_⟩; apply k13
   refine cd rfl (fun hc4 => ?_) fun hc4 => ?_
   · have hp : runsAt ls ap seq i = false := by unfold runsAt; rw [hl]; simp only [hc3, hc4]; rfl
     refine sr rfl fun _ J => ?_; simp only [go_sem]; apply J; refine wR ?_; simp only [go_sem, lQ]
     have h9 : runsRight ls most ap seq = false := by unfold runsRight; rw [if_neg n1]; exact all_no hlt hp
     refine fO ?_ trivial; simp only [go_sem, h9]
   have hp : runsAt ls ap seq i = true := by unfold runsAt; rw [hl]; simp only [hc3, hc4]; rfl
   refine wk ?_; try simp only [go_sem, lQ]
   apply k9
   have hw : IntKind.i64.wrap ((i : Int) + 1) = ((i + 1 : Nat) : Int) := by rw [IntKind.wrap_i64]; omega
   refine wg rfl ?_; simp only [go_sem, hw]; try simp only [go_sem, lQ]
   refine ⟨i + 1, ⟨by omega, bN hall hp⟩, by omega, [], ?_⟩
   simp only [go_sem] <;> simp
 have hge : ls.length ≤ i := Nat.not_lt.1 (by simpa using hc2)
 refine we ?_; try simp only [go_sem, lQ]
 apply k5; refine sr rfl fun _ J => ?_; simp only [go_sem]; apply J; refine wR ?_
 have h9 : runsRight ls most ap seq = true := by unfold runsRight; rw [if_neg n1]; exact all_yes hge hall
 refine fO ?_ trivial; simp only [go_sem, h9]
theorem w_spec_l5Snaps (t : Tree) (hz : t.snaps.length ≤ 4611686018427387904) : aB P 98 [trA t] [] 0 (.raw (.bool (snapsOk t.snaps t.seq))) := by
 refine pw (N := 49) (vs := [.tmp 2]) ⟨Tryz.func98, rfl, rfl⟩ rfl rfl (by simp) ?_
 simp only [eE, trA]; refine sr rfl fun _ J => ?_; simp only [go_sem]; apply J; refine sq fun _ k2 => ?_; refine sr rfl fun _ J => ?_; simp only [go_sem]; apply J; refine wb ?_
 refine wl (α := Nat) (fun x => x ≤ t.snaps.length ∧ ∀ j, j < x → snapAt t.snaps t.seq j = true) (fun x => t.snaps.length - x) (fun x => ([(1, .ptr 0 0), (3, .raw (.int .i64 (x : Int)))], [(0, .cells 36 [.raw (.int .i64 t.seq), .sl 5 (t.mem.map enA), .sl 1 (t.levels.map rsA), .sl 1 (t.snaps.map inA)])])) 1 0 ⟨Nat.zero_le _, fun j hj => absurd hj (Nat.not_lt_zero _)⟩ [] ?_ ?_
 · simp only [go_sem, AObj.bel, Int.natCast_zero] <;> simp
 rintro i ⟨hi, hall⟩
 refine sq fun _ k4 => ?_; refine sr rfl fun _ J => ?_; simp only [go_sem]; apply J
 refine cd rfl (fun hc1 => ?_) fun hc1 => ?_
 · have hlt : i < t.snaps.length := by simpa using hc1
   obtain ⟨l, hl, hdrop, hml⟩ := ix hlt
   have hw1 : IntKind.i64.wrap ((i : Int) - 1) = (i : Int) - 1 := by rw [IntKind.wrap_i64]; omega
   have hpn : ((i : Int) - 1).toNat = i - 1 := by omega
   have hpv : t.snaps[i - 1]? = some (prevInt t.snaps i) := by unfold prevInt; rw [List.getElem?_eq_getElem (by omega)]; rfl
   refine wk ?_; apply k4; refine sq fun _ k6 => ?_; refine wb ?_; refine sd mixed rfl fun _ k7 => ?_; simp only [go_sem, hl, hw1, hpn, hpv, inA]
   repeat (first | refine ⟨by first | omega | (intro hg; simp at hg; omega), ?_⟩ | fail)
   refine ⟨by rfl, ?_⟩; apply k7
   refine cd rfl (fun hc2 => ?_) fun hc2 => ?_
   · have hp : snapAt t.snaps t.seq i = false := by unfold snapAt; rw [hl]; simp only [hc2]; rfl
     refine sr rfl fun _ J => ?_; simp only [go_sem]; apply J; refine wR ?_; simp only [go_sem, lQ]
     have h9 : snapsOk t.snaps t.seq = false := by unfold snapsOk; rw [all_no hlt hp]; rfl
     refine fO ?_ trivial; simp only [go_sem, h9]
   have hp : snapAt t.snaps t.seq i = true := by unfold snapAt; rw [hl]; simp only [hc2]; rfl
   refine wk ?_; try simp only [go_sem, lQ]
   apply k6
   have hw : IntKind.i64.wrap ((i : Int) + 1) = ((i + 1 : Nat) : Int) := by rw [IntKind.wrap_i64]; omega
   refine wg rfl ?_; simp only [go_sem, hw]; try simp only [go_sem, lQ]
   refine ⟨i + 1, ⟨by omega, bN hall hp⟩, by omega, [], ?_⟩
   simp only [go_sem, AObj.bel] <;> simp
 have hge : t.snaps.length ≤ i := Nat.not_lt.1 (by simpa using hc1)
 refine we ?_; try simp only [go_sem, lQ]
 apply k2; refine sr rfl fun _ J => ?_; simp only [go_sem]; apply J; refine wR ?_
 have h9 : snapsOk t.snaps t.seq = decide ((t.snaps.length : Int) ≤ 4) := by unfold snapsOk; rw [all_yes hge hall]; rfl
 refine fO ?_ trivial; simp only [go_sem, h9]
def abvAt (a b : List Entry) (i k : Nat) : Bool := match a[i]?, b[k]? with
  | some e, some f => !((e.key.toList == f.key.toList) && decide (e.seq ≤ f.seq))
  | _, _ => true
def abvRow (a b : List Entry) (i : Nat) : Bool := (List.range b.length).all (abvAt a b i)
def above (a b : List Entry) : Bool := (List.range a.length).all (abvRow a b)
def lvAt (a b : List (List Run)) (i : Nat) : Bool := decide (a[i]? = b[i]?)
theorem runEq (a b : Run) : (decide (a.mask = b.mask) && decide (a.ents = b.ents)) = decide (a = b) := by
  obtain ⟨a1, a2⟩ := a
  obtain ⟨b1, b2⟩ := b
  rw [Bool.eq_iff_iff]
  simp [and_comm]
def mxLvs (ls : List (List Run)) : Prop := ls.length ≤ 4611686018427387904 ∧ ∀ r ∈ ls, mxRuns r
def mxTree (t : Tree) : Prop := bT t.mem ∧ mxLvs t.levels ∧ t.snaps.length ≤ 4611686018427387904
def treeSame (a b : Tree) : Bool := ((decide (a.seq = b.seq) && decide (a.mem = b.mem)) && decide (a.levels = b.levels)) && decide (a.snaps = b.snaps)
def posGo (ls : List Entry) (e : Entry) : Nat → Nat
  | 0 => 0
  | k + 1 => if entLt e ((ls[k]?).getD zEntV) = true then posGo ls e k else k + 1
def putPos (ls : List Entry) (e : Entry) : Nat := posGo ls e ls.length
def dH (ls : List Entry) (e : Entry) : List Entry := ls.take (putPos ls e) ++ e :: ls.drop (putPos ls e)
theorem posGo_le (ls : List Entry) (e : Entry) : ∀ k, posGo ls e k ≤ k
  | 0 => Nat.le_refl _
  | k + 1 => by
    unfold posGo; split
    · have := posGo_le ls e k; omega
    exact Nat.le_refl _
def esA (es : List Entry) : AV := .sl 5 (es.map enA)
theorem entsAV_bel (U : Nat → Prop) (ls : List (List Entry)) : aC U (ls.map esA) := map_bel enB U ls
theorem entsAV_ren (σ : Nat → Nat) (ls : List (List Entry)) : aA σ (ls.map esA) = ls.map esA := cX σ (entsAV_bel _ ls)
theorem entsAV_elem (ls : List (List Entry)) : (ls.map esA).all AV.elem = true := by
  rw [List.all_map, List.all_eq_true]; intro l _; rfl
theorem entsAV_fz (ls : List (List Entry)) : fzL (ls.map esA) = ls.map esA := by rw [fzL_map]; exact List.map_congr_left fun r _ => by simp [esA, AV.fz, cA]
theorem runOwn_elem (ls : List Run) : (ls.map runOwn).all AV.elem = true := by
  rw [List.all_map, List.all_eq_true]; intro l _; rfl
theorem runsOwn_elem (ls : List (List Run)) : (ls.map rsO).all AV.elem = true := by
  rw [List.all_map, List.all_eq_true]; intro l _; rfl
attribute [go_sem] entsAV_bel entsAV_ren entsAV_elem entsAV_fz runOwn_elem runsOwn_elem
theorem w_spec_l5Above (a b : List Entry) (ha : a.length ≤ 4611686018427387904) (hb : b.length ≤ 4611686018427387904) : aB P 154 [.sl 5 (a.map enA), .sl 5 (b.map enA)] [] 0 (.raw (.bool (above a b))) := by
 refine pw (N := 43) (vs := [.tmp 4]) ⟨Tryz.func154, rfl, rfl⟩ rfl rfl (by simp) ?_
 simp only [eE]; refine sr rfl fun _ J => ?_; simp only [go_sem]; apply J; refine sq fun _ k2 => ?_; refine sr rfl fun _ J => ?_; simp only [go_sem]; apply J; refine wb ?_
 refine wl (α := Nat) (fun x => x ≤ a.length ∧ ∀ j, j < x → abvRow a b j = true) (fun x => a.length - x) (fun x => ([(0, .sl 5 (a.map enA)), (1, .sl 5 (b.map enA)), (5, .raw (.int .i64 (x : Int)))], [])) 0 0 ⟨Nat.zero_le _, fun j hj => absurd hj (Nat.not_lt_zero _)⟩ [] ?_ ?_
 · simp only [go_sem, Int.natCast_zero] <;> simp
 rintro i ⟨hi, hall⟩
 refine sq fun _ k4 => ?_; refine sr rfl fun _ J => ?_; simp only [go_sem]; apply J
 refine cd rfl (fun hc1 => ?_) fun hc1 => ?_
 · have hlt : i < a.length := (by simpa using hc1); obtain ⟨l, hl, _, _⟩ := ix hlt; refine wk ?_; apply k4; refine sq fun _ k6 => ?_; refine wb ?_; refine sr rfl fun _ J => ?_; simp only [go_sem]; apply J; refine wb ?_
   refine wl (α := Nat) (fun x => x ≤ b.length ∧ ∀ j, j < x → abvAt a b i j = true) (fun x => b.length - x) (fun x => ([(0, .sl 5 (a.map enA)), (1, .sl 5 (b.map enA)), (5, .raw (.int .i64 (i : Int))), (6, .raw (.int .i64 (x : Int)))], [])) 0 0 ⟨Nat.zero_le _, fun j hj => absurd hj (Nat.not_lt_zero _)⟩ [] ?_ ?_
   · simp only [go_sem, Int.natCast_zero] <;> simp
   rintro k ⟨hk, hallk⟩
   refine sq fun _ k8 => ?_; refine sr rfl fun _ J => ?_; simp only [go_sem]; apply J
   refine cd rfl (fun hc2 => ?_) fun hc2 => ?_
   · have hltk : k < b.length := by simpa using hc2
     obtain ⟨m, hm, _, _⟩ := ix hltk
     refine wk ?_; apply k8; refine sq fun _ k10 => ?_; refine wb ?_; refine sd mixed rfl fun _ k11 => ?_; simp only [go_sem, hl, hm, enA]
     repeat (first | refine ⟨by first | omega | (intro hg; simp at hg; omega), ?_⟩ | fail)
     refine ⟨by rfl, ?_⟩; apply k11
     refine cd rfl (fun hc3 => ?_) fun hc3 => ?_
     · have hpk : abvAt a b i k = false := by unfold abvAt; rw [hl, hm]; simp only [hc3]; rfl
       have hp : abvRow a b i = false := all_no hltk hpk
       refine sr rfl fun _ J => ?_; simp only [go_sem]; apply J; refine wR ?_; simp only [go_sem, lQ]
       have h9 : above a b = false := by unfold above; exact all_no hlt hp
       refine fO ?_ trivial; simp only [go_sem, h9]
     have hpk : abvAt a b i k = true := by unfold abvAt; rw [hl, hm]; simp only [hc3]; rfl
     refine wk ?_; try simp only [go_sem, lQ]
     apply k10
     have hwk : IntKind.i64.wrap ((k : Int) + 1) = ((k + 1 : Nat) : Int) := by rw [IntKind.wrap_i64]; omega
     refine wg rfl ?_; simp only [go_sem, hwk]; try simp only [go_sem, lQ]
     refine ⟨k + 1, ⟨by omega, bN hallk hpk⟩, by omega, [], ?_⟩
     simp only [go_sem] <;> simp
   have hgek : b.length ≤ k := by have h9 : ¬ k < b.length := (by simpa using hc2); omega
   refine we ?_; try simp only [go_sem, lQ]
   try simp only [go_sem, lQ]
   apply k6
   have hp : abvRow a b i = true := all_yes hgek hallk
   have hw : IntKind.i64.wrap ((i : Int) + 1) = ((i + 1 : Nat) : Int) := by rw [IntKind.wrap_i64]; omega
   refine wg rfl ?_; simp only [go_sem, hw]; try simp only [go_sem, lQ]
   refine ⟨i + 1, ⟨by omega, bN hall hp⟩, by omega, [], ?_⟩
   simp only [go_sem] <;> simp
 have hge : a.length ≤ i := Nat.not_lt.1 (by simpa using hc1)
 refine we ?_; try simp only [go_sem, lQ]
 apply k2; refine sr rfl fun _ J => ?_; simp only [go_sem]; apply J; refine wR ?_
 have h9 : above a b = true := by unfold above; exact all_yes hge hall
 refine fO ?_ trivial; simp only [go_sem, h9]
theorem w_spec_l5Levels (a b : List (List Run)) (ha : mxLvs a) : aB P 101 [.sl 1 (a.map rsA), .sl 1 (b.map rsA)] [] 0 (.raw (.bool (decide (a = b)))) := by
 refine pw (N := 54) (vs := [.tmp 4]) ⟨Tryz.func101, rfl, rfl⟩ rfl rfl (by simp) ?_
 simp only [eE]
 have hlena := ha.1
 refine sr rfl fun _ J => ?_; simp only [go_sem]; apply J; refine sq fun _ k2 => ?_; refine sr rfl fun _ J => ?_; simp only [go_sem]; apply J
 refine cd rfl (fun hc1 => ?_) fun hc1 => ?_
 · have hne : a ≠ b := fun e => by rw [e] at hc1; simp at hc1
   refine sr rfl fun _ J => ?_; simp only [go_sem]; apply J; refine wR ?_; refine fO ?_ trivial; simp only [go_sem, decide_eq_false hne]
 have hlen : a.length = b.length := by simp at hc1; omega
 refine wk ?_; apply k2; refine sq fun _ k5 => ?_; refine sr rfl fun _ J => ?_; simp only [go_sem]; apply J; refine wb ?_
 refine wl (α := Nat) (fun x => x ≤ a.length ∧ ∀ j, j < x → lvAt a b j = true) (fun x => a.length - x) (fun x => ([(0, .sl 1 (a.map rsA)), (1, .sl 1 (b.map rsA)), (5, .raw (.int .i64 (x : Int)))], [])) 0 0 ⟨Nat.zero_le _, fun j hj => absurd hj (Nat.not_lt_zero _)⟩ [] ?_ ?_
 · simp only [go_sem, Int.natCast_zero] <;> simp
 rintro i ⟨hi, hall⟩
 refine sq fun _ k7 => ?_; refine sr rfl fun _ J => ?_; simp only [go_sem]; apply J
 refine cd rfl (fun hc2 => ?_) fun hc2 => ?_
 · have hlt : i < a.length := (by simpa using hc2); obtain ⟨l, hl, _, hml⟩ := ix hlt
   obtain ⟨m, hm, _, _⟩ := ix (xs := b) (i := i) (by omega)
   have hll := (ha.2 l hml).1
   refine wk ?_; apply k7; refine sq fun _ k9 => ?_; refine wb ?_; refine sq fun _ k10 => ?_; refine sd mixed rfl fun _ k11 => ?_; simp only [go_sem, hl, hm, rsA]
   repeat (first | refine ⟨by first | omega | (intro hg; simp at hg; omega), ?_⟩ | fail)
   refine ⟨by rfl, ?_⟩; apply k11
   refine cd rfl (fun hc3 => ?_) fun hc3 => ?_
   · have hne : a ≠ b := fun e => by
       rw [e, hm] at hl; cases hl; simp at hc3
     refine sr rfl fun _ J => ?_; simp only [go_sem]; apply J; refine wR ?_; simp only [go_sem, lQ]; refine fO ?_ trivial; simp only [go_sem, decide_eq_false hne]
   · have hlm : l.length = m.length := by simp at hc3; omega
     refine wk ?_; apply k10; refine sr rfl fun _ J => ?_; simp only [go_sem]; apply J; refine wb ?_
     refine wl (α := Nat) (fun x => x ≤ l.length ∧ ∀ j, j < x → eqAt l m j = true) (fun x => l.length - x) (fun x => ([(0, .sl 1 (a.map rsA)), (1, .sl 1 (b.map rsA)), (5, .raw (.int .i64 (i : Int))), (6, .raw (.int .i64 (x : Int)))], [])) 0 0 ⟨Nat.zero_le _, fun j hj => absurd hj (Nat.not_lt_zero _)⟩ [] ?_ ?_
     · simp only [go_sem, Int.natCast_zero] <;> simp
     rintro k ⟨hk, hallk⟩
     refine sq fun _ k14 => ?_; refine sr rfl fun _ k15 => ?_; simp only [go_sem, hl, rsA]
     repeat (first | refine ⟨by first | omega | (intro hg; simp at hg; omega), ?_⟩ | fail)
     apply k15
     refine cd rfl (fun hc4 => ?_) fun hc4 => ?_
     · have hltk : k < l.length := by simpa using hc4
       obtain ⟨x, hx, _, hmx⟩ := ix hltk
       obtain ⟨y, hy, _, _⟩ := ix (xs := m) (i := k) (by omega)
       refine wk ?_; apply k14; refine sq fun _ k16 => ?_; refine wb ?_; refine sd mixed rfl fun _ k17 => ?_; simp only [go_sem, hl, hm, hx, hy, rsA, rA]
       repeat (first | refine ⟨by first | omega | (intro hg; simp at hg; omega), ?_⟩ | fail)
       refine tp rfl rfl rfl ⟨Tryz.func155, rfl, rfl⟩ (w_spec_RunSame x y ((ha.2 l hml).2 x hmx).1) (by simp only [go_sem, rA]) (by simp only [go_sem, rA]) ?_
       simp only [go_sem, runEq]; refine ⟨by rfl, ?_⟩; apply k17
       refine cd rfl (fun hc5 => ?_) fun hc5 => ?_
       · have hne : a ≠ b := fun e => by
           rw [e, hm] at hl; cases hl; rw [hx] at hy; cases hy; simp at hc5
         refine sr rfl fun _ J => ?_; simp only [go_sem]; apply J; refine wR ?_; simp only [go_sem, lQ]; refine fO ?_ trivial; simp only [go_sem, decide_eq_false hne]
       · have hpk : eqAt l m k = true := by unfold eqAt; rw [hx, hy]; simpa using hc5
         refine wk ?_; try simp only [go_sem, lQ]
         apply k16
         have hwk : IntKind.i64.wrap ((k : Int) + 1) = ((k + 1 : Nat) : Int) := by rw [IntKind.wrap_i64]; omega
         refine wg rfl ?_; simp only [go_sem, hwk]; try simp only [go_sem, lQ]
         refine ⟨k + 1, ⟨by omega, bN hallk hpk⟩, by omega, [], ?_⟩
         simp only [go_sem] <;> simp
     have hgek : l.length ≤ k := by have h9 : ¬ k < l.length := (by simpa using hc4); omega
     refine we ?_; try simp only [go_sem, lQ]
     try simp only [go_sem, lQ]
     apply k9
     have hp : lvAt a b i = true := by
       have hlm : l = m := eq_of_all hlm (fun j hj => hallk j (by omega))
       unfold lvAt; rw [hl, hm, hlm]; simp
     have hw : IntKind.i64.wrap ((i : Int) + 1) = ((i + 1 : Nat) : Int) := by rw [IntKind.wrap_i64]; omega
     refine wg rfl ?_; simp only [go_sem, hw]; try simp only [go_sem, lQ]
     refine ⟨i + 1, ⟨by omega, bN hall hp⟩, by omega, [], ?_⟩
     simp only [go_sem] <;> simp
 have hge : a.length ≤ i := Nat.not_lt.1 (by simpa using hc2)
 refine we ?_; try simp only [go_sem, lQ]
 apply k5; refine sr rfl fun _ J => ?_; simp only [go_sem]; apply J; refine wR ?_
 have hie : i = a.length := by omega
 subst hie
 have he : a = b := by
   refine List.ext_getElem? fun j => ?_
   by_cases hj : j < a.length
   · simpa [lvAt] using hall j hj
   rw [List.getElem?_eq_none (by omega), List.getElem?_eq_none (by omega)]
 refine fO ?_ trivial; simp only [go_sem, decide_eq_true he]
theorem w_spec_TreeSame (a b : Tree) (ha : mxTree a) : aB P 60 [trA a, trA b] [] 0 (.raw (.bool (treeSame a b))) := by
 refine pw (N := 31) (vs := [.tmp 4]) ⟨Tryz.func60, rfl, rfl⟩ rfl rfl (by simp) ?_
 simp only [eE, trA]; refine sr rfl fun _ J => ?_; simp only [go_sem]; apply J; refine sr rfl fun _ k2 => ?_; simp only [go_sem]
 refine vpg rfl rfl rfl rfl rfl rfl ⟨Tryz.func104, rfl, rfl⟩ (fun hg => w_spec_l4Same a.mem b.mem ha.1.1) (by simp only [go_sem]) (fun hg => (by simp only [go_sem])) (by simp only [go_sem]) trivial ?_
 simp only [go_sem]
 refine vpg rfl rfl rfl rfl rfl rfl ⟨Tryz.func101, rfl, rfl⟩ (fun hg => w_spec_l5Levels a.levels b.levels ha.2.1) (by simp only [go_sem]) (fun hg => (by simp only [go_sem])) (by simp only [go_sem]) trivial ?_
 simp only [go_sem]
 refine vpg rfl rfl rfl rfl rfl rfl ⟨Tryz.func105, rfl, rfl⟩ (fun hg => w_spec_l5Ints a.snaps b.snaps ha.2.2) (by simp only [go_sem]) (fun hg => (by simp only [go_sem])) (by simp only [go_sem]) trivial ?_
 simp only [go_sem]; apply k2; refine wR ?_; refine fO ?_ trivial; simp only [go_sem, treeSame]
theorem w_spec_l4Put_c (ls : List Entry) (e : Entry) (hne : 0 < ls.length) (hz : ls.length ≤ 1099511627776) : aD P 108 [.sl 5 (ls.map enA), enA e] [] 0 (.ref 0) [(0, .row 65 5 ((dH ls e).map enA))] 1 := by
 refine gw (N := 37) (vs := [.tmp 4]) ⟨Tryz.func108, rfl, rfl⟩ rfl rfl (by simp) ?_
 simp only [eE, enA]
 have hmx : maxLen = 9223372036854775807 := rfl
 refine sr rfl fun _ J => ?_; simp only [go_sem]; apply J; refine sr rfl fun _ k2 => ?_; simp only [go_sem]; apply k2; refine sq fun _ k3 => ?_; refine wb ?_
 refine wl (α := Nat) (fun x => x ≤ ls.length ∧ posGo ls e x = putPos ls e) (fun x => x) (fun x => ([(0, .sl 5 (ls.map enA)), (3, .ptr 0 0), (5, .raw (.int .i64 (x : Int)))], [(0, .cells 65 [.raw (.string e.key), .raw (.int .i64 e.seq), .raw (.int .i64 e.kind), .raw (.string e.text), .raw (.int .i64 e.n)])])) 1 ls.length ⟨Nat.le_refl _, rfl⟩ [] ?_ ?_
 · simp only [go_sem, AObj.bel] <;> simp
 rintro i ⟨hi, hpos⟩
 refine sq fun _ k4 => ?_
 have hw1 : IntKind.i64.wrap ((i : Int) - 1) = (i : Int) - 1 := by rw [IntKind.wrap_i64]; omega
 have hpn : ((i : Int) - 1).toNat = i - 1 := by omega
 obtain ⟨p, hpv, hpd⟩ : ∃ p, ls[i - 1]? = some p ∧ p = ((ls[i - 1]?).getD zEntV) := ⟨_, by rw [List.getElem?_eq_getElem (by omega)]; rfl, rfl⟩
 have hgo : posGo ls e i = if (decide (0 < (i : Int)) && entLt e p) = true then posGo ls e (i - 1) else i := by
   rcases Nat.eq_zero_or_pos i with h0 | h0
   · subst h0; rfl
   obtain ⟨m, rfl⟩ : ∃ m, i = m + 1 := ⟨i - 1, by omega⟩
   have h1 : decide (0 < ((m + 1 : Nat) : Int)) = true := by rw [decide_eq_true_eq]; omega
   rw [h1, hpd, Bool.true_and]; rfl
 refine sd mixed rfl fun _ k5 => ?_; simp only [go_sem, hw1, hpn, hpv, enA]
 repeat (first | refine ⟨by first | omega | (intro hg; simp at hg; omega), ?_⟩ | fail)
 refine tpg rfl rfl rfl rfl rfl rfl ⟨Tryz.func149, rfl, rfl⟩ (fun hg => w_spec_EntryLess e p) (by simp only [go_sem]) (fun hg => (by simp only [go_sem, enA])) (by simp only [go_sem, enA]) trivial ?_
 simp only [go_sem, enA, hw1, hpn, hpv]
 repeat (first | refine ⟨by first | omega | (intro hg; simp at hg; omega), ?_⟩ | fail)
 refine ⟨by rfl, ?_⟩; apply k5
 refine cd rfl (fun hc1 => ?_) fun hc1 => ?_
 · have hi0 : 0 < i := by simp at hc1; omega
   have hpos2 : posGo ls e (i - 1) = putPos ls e := by rw [hgo, if_pos hc1] at hpos; exact hpos
   have hw2 : IntKind.i64.wrap ((i : Int) - 1) = ((i - 1 : Nat) : Int) := by rw [IntKind.wrap_i64]; omega
   refine wk ?_; apply k4; refine wb ?_; refine wg rfl ?_; simp only [go_sem, hw2]; try simp only [go_sem, lQ]
   try simp only [go_sem, lQ]
   refine ⟨i - 1, ⟨by omega, hpos2⟩, by omega, [], ?_⟩
   simp only [go_sem, AObj.bel] <;> simp
 have hpos3 : i = putPos ls e := by rw [hgo, hc1, if_neg (by simp)] at hpos; exact hpos
 refine we ?_; try simp only [go_sem, lQ]
 apply k3; refine sr rfl fun _ k6 => ?_; simp only [go_sem, ← List.map_drop, ← List.map_take, List.length_take, List.length_drop, List.length_append, Int.toNat_natCast]
 repeat (first | refine ⟨by first | omega | (intro hg; simp at hg; omega), ?_⟩ | fail)
 apply k6; refine sd mixed rfl fun _ k7 => ?_; simp only [go_sem, ← List.map_drop, ← List.map_take, List.length_take, List.length_drop, List.length_append, Int.toNat_natCast]
 repeat (first | refine ⟨by first | omega | (intro hg; simp at hg; omega), ?_⟩ | fail)
 refine ⟨by rfl, ?_⟩; apply k7; refine wR ?_
 have h9 : List.take i (List.map enA ls) ++ .agg [.raw (.string e.key), .raw (.int .i64 e.seq), .raw (.int .i64 e.kind), .raw (.string e.text), .raw (.int .i64 e.n)] :: List.drop i (List.map enA ls) = (dH ls e).map enA := by unfold dH; rw [← hpos3]; simp [enA]
 refine ⟨[(0, 7)], ?_⟩
 simp only [go_sem, AObj.bel, AObj.ren, AV.ren, aA, sg] <;> simp
 exact h9
theorem w_spec_l4Put_n (e : Entry) : aD P 108 [.sl 5 [], enA e] [] 0 (.ref 0) [(0, .row 65 5 [enA e])] 1 := by
 refine gw (N := 37) (vs := [.tmp 4]) ⟨Tryz.func108, rfl, rfl⟩ rfl rfl (by simp) ?_
 simp only [eE, enA]
 have hmx : maxLen = 9223372036854775807 := rfl
 refine sr rfl fun _ J => ?_; simp only [go_sem]; apply J; refine sr rfl fun _ k2 => ?_; simp only [go_sem]; apply k2; refine sq fun _ k3 => ?_; refine wb ?_
 refine wl (α := Nat) (fun x => x = 0) (fun x => x) (fun x => ([(0, .sl 5 []), (3, .ptr 0 0), (5, .raw (.int .i64 0))], [(0, .cells 65 [.raw (.string e.key), .raw (.int .i64 e.seq), .raw (.int .i64 e.kind), .raw (.string e.text), .raw (.int .i64 e.n)])])) 1 0 rfl [] ?_ ?_
 · simp only [go_sem, AObj.bel, Int.natCast_zero] <;> simp
 rintro i hi
 refine sq fun _ k4 => ?_
 have hw1 : IntKind.i64.wrap ((0 : Int) - 1) = -1 := by rw [IntKind.wrap_i64]; omega
 have hpn : (-1 : Int).toNat = 0 := rfl
 have hg0 : decide ((0 : Int) < 0) = false := rfl
 refine sd mixed rfl fun _ k5 => ?_; simp only [go_sem, hw1, hpn, hg0, enA]
 repeat (first | refine ⟨by first | omega | (intro hg; simp at hg; omega), ?_⟩ | fail)
 refine dE (fun hN => lstep_guard (rt := []) (rd := []) (val := enA zEntV) hN rfl rfl rfl rfl trivial (fun hg => absurd hg (by simp)) (by exact entAV_b _ _)) (.inl rfl) ?_
 simp only [go_sem, enA, zEntV, hg0, hw1, hpn, hg0, enA]
 repeat (first | refine ⟨by first | omega | (intro hg; simp at hg; omega), ?_⟩ | fail)
 refine tpg rfl rfl rfl rfl rfl rfl ⟨Tryz.func149, rfl, rfl⟩ (fun hg => w_spec_EntryLess e zEntV) (by simp only [go_sem]) (fun hg => (by simp only [go_sem, enA, zEntV])) (by simp only [go_sem, enA, zEntV]) trivial ?_
 simp only [go_sem, hg0]; refine ⟨by rfl, ?_⟩; apply k5
 refine cd rfl (fun hc => by simp at hc) fun hc1 => ?_
 refine we ?_; try simp only [go_sem, lQ]
 apply k3; refine sr rfl fun _ k6 => ?_; simp only [go_sem, ← List.map_drop, ← List.map_take, List.length_take, List.length_drop, List.length_append, Int.toNat_natCast, Int.toNat_zero]
 repeat (first | refine ⟨by first | omega | (intro hg; simp at hg; omega), ?_⟩ | fail)
 apply k6; refine sd mixed rfl fun _ k7 => ?_; simp only [go_sem, ← List.map_drop, ← List.map_take, List.length_take, List.length_drop, List.length_append, Int.toNat_natCast, Int.toNat_zero]
 repeat (first | refine ⟨by first | omega | (intro hg; simp at hg; omega), ?_⟩ | fail)
 refine ⟨by rfl, ?_⟩; apply k7; refine wR ?_
 refine ⟨[(0, 7)], ?_⟩
 simp only [go_sem, enA, AObj.bel, AObj.ren, AV.ren, aA, sg] <;> simp
theorem w_spec_l4Put_o (ls : List Entry) (e : Entry) (hz : ls.length ≤ 1099511627776) : aD P 108 [.sl 5 (ls.map enA), enA e] [] 0 (.ref 0) [(0, .row 65 5 ((dH ls e).map enA))] 1 := by
  match ls, hz with
  | [], _ => exact w_spec_l4Put_n e
  | x :: r, hz => exact w_spec_l4Put_c (x :: r) e (by simp) hz
theorem w_spec_l4Put (ls : List Entry) (e : Entry) (hz : ls.length ≤ 1099511627776) : aB P 108 [.sl 5 (ls.map enA), enA e] [] 0 (.sl 5 ((dH ls e).map enA)) :=
  cQ (w_spec_l4Put_o ls e hz) (by simp only [go_sem]) (by simp only [go_sem])
section
variable {rs : List Run} {k : Nat} {r : Run} {t : Tree}
def dI (rs : List Run) : List Entry := rs.flatMap Run.ents
def cO (t : Tree) : List (List Entry) := t.mem :: (((t.levels[0]?).getD []).reverse.map Run.ents ++ (t.levels.drop 1).map dI)
def agedAt (ps : List (List Entry)) (i k : Nat) : Bool := match ps[i]?, ps[k]? with
  | some a, some b => above a b
  | _, _ => true
def agedRow (ps : List (List Entry)) (i : Nat) : Bool := (List.range (ps.length - (i + 1))).all fun d => agedAt ps i (i + 1 + d)
def agedS (ps : List (List Entry)) : Bool := (List.range ps.length).all (agedRow ps)
def lv (t : Tree) (i : Nat) : List Run := (t.levels[i]?).getD []
def treeBadS (t : Tree) : Bool := ((((((decide (t.seq < 0) || decide (100000 < t.seq)) || decide (60 < (t.mem.length : Int))) || !inOrd t.mem) || !within t.mem t.seq) || !decide ((t.levels.length : Int) = 3)) || !snapsOk t.snaps t.seq)
def bU (t : Tree) : Bool := if treeBadS t = true then false else ((runsRight (lv t 0) 4 false t.seq && runsRight (lv t 1) 8 true t.seq) && runsRight (lv t 2) 8 true t.seq) && agedS (cO t)
theorem runOwn_take (h : rs[k]? = some r) : (rs.take k).map runOwn ++ [runOwn r] = (rs.take (k + 1)).map runOwn := by
  rw [List.take_add_one, h]; simp
theorem runsOwn_take {ls : List (List Run)} {i : Nat} (h : ls[i]? = some rs) : (ls.take i).map rsO ++ [rsO rs] = (ls.take (i + 1)).map rsO := by
  rw [List.take_add_one, h]; simp
theorem tn0 : (0 : Int).toNat = 0 := rfl
theorem tn1 : (1 : Int).toNat = 1 := rfl
theorem tn2 : (2 : Int).toNat = 2 := rfl
theorem partAll_take (h : rs[k]? = some r) : dI (rs.take (k + 1)) = dI (rs.take k) ++ r.ents := by
  unfold dI
  rw [List.take_add_one, h]; simp
theorem partAll_len (h : ∀ r ∈ rs, r.ents.length ≤ 1048576) : (dI rs).length ≤ 1048576 * rs.length := by
  induction rs with
  | nil => simp [dI]
  | cons r rs ih =>
    have h1 := ih fun x hx => h x (List.mem_cons_of_mem _ hx)
    have h2 := h r List.mem_cons_self
    simp only [dI, List.flatMap_cons, List.length_append, List.length_cons] at h1 ⊢
    omega
theorem rev_drop (h : rs[k]? = some r) : (rs.drop k).reverse.map Run.ents = (rs.drop (k + 1)).reverse.map Run.ents ++ [r.ents] := by
  rw [drop_get h, List.reverse_cons, List.map_append]; rfl
theorem take1 {α β : Type} {ls : List α} {x : α} (f : α → β) (h : ls[k]? = some x) (h1 : 1 ≤ k) : ((ls.take (k + 1)).drop 1).map f = ((ls.take k).drop 1).map f ++ [f x] := by
  have hlt := (List.getElem?_eq_some_iff.1 h).1
  rw [List.take_add_one, h, List.drop_append_of_le_length (by rw [List.length_take]; omega), List.map_append]; rfl
def partsTo (t : Tree) (k : Nat) : List (List Entry) := t.mem :: ((lv t 0).reverse.map Run.ents ++ ((t.levels.take k).drop 1).map dI)
theorem partsTo_end (t : Tree) : partsTo t t.levels.length = cO t := by unfold partsTo cO lv; rw [List.take_length]
theorem parts_small (h : sTree t) : ∀ p ∈ cO t, p.length ≤ 4611686018427387904 := by
  obtain ⟨h1, h2, h3⟩ := h
  intro p hp
  rcases List.mem_cons.1 hp with e | hp
  · rw [e]; have := h1.1; omega
  rcases List.mem_append.1 hp with hp | hp
  · obtain ⟨r, hr, rfl⟩ := List.mem_map.1 hp
    have hr' := List.mem_reverse.1 hr
    cases hq : t.levels[0]? with
    | none => rw [hq] at hr'; cases hr'
    | some rs =>
      rw [hq] at hr'
      have := ((h2.2 rs (List.mem_of_getElem? hq)).2 r hr').1
      omega
  obtain ⟨rs, hr, rfl⟩ := List.mem_map.1 hp
  have h4 := h2.2 rs (List.mem_of_mem_drop hr)
  have := partAll_len fun r hr => (h4.2 r hr).1
  have h5 := h4.1
  have : 1048576 * rs.length ≤ 1048576 * 1048576 := Nat.mul_le_mul_left _ h5
  omega
theorem parts_len (h : sTree t) : (cO t).length ≤ 3145728 := by
  obtain ⟨h1, h2, h3⟩ := h
  have h4 := h2.1
  have h5 : ((t.levels[0]?).getD []).length ≤ 1048576 := by
    cases hq : t.levels[0]? with
    | none => simp
    | some rs => exact (h2.2 rs (List.mem_of_getElem? hq)).1
  simp only [cO, List.length_cons, List.length_append, List.length_map, List.length_reverse, List.length_drop]; omega
theorem entsAV_b1 (U : Nat → Prop) (p : List Entry) : (esA p).bel U := enB _ _
theorem entsAV_r1 (σ : Nat → Nat) (p : List Entry) : (esA p).ren σ = esA p := AV.ren_closed σ (entsAV_b1 _ p)
attribute [go_sem] entsAV_b1 entsAV_r1
theorem w_spec_l5CopyLevels_o (ls : List (List Run)) (hs : sLvs ls) : aD P 48 [.sl 1 (ls.map rsA)] [] 0 (.ref 0) [(0, .row 107 1 (ls.map rsO))] 1 := by
 refine gw (N := 51) (vs := [.tmp 2]) ⟨Tryz.func48, rfl, rfl⟩ rfl rfl (by simp) ?_
 simp only [eE]
 have hmx : maxLen = 9223372036854775807 := rfl
 have hlen := hs.1
 refine sr rfl fun _ J => ?_; simp only [go_sem]; apply J; refine sr rfl fun _ k2 => ?_; simp only [go_sem]
 repeat (first | refine ⟨by first | omega | (intro hg; simp at hg; omega), ?_⟩ | fail)
 apply k2; refine sq fun _ k3 => ?_; refine sr rfl fun _ J => ?_; simp only [go_sem]; apply J; refine wb ?_
 refine wl (α := Nat) (fun x => x ≤ ls.length) (fun x => ls.length - x) (fun x => ([(0, .sl 1 (ls.map rsA)), (3, .ref 0), (4, .raw (.int .i64 (x : Int)))], [(0, .row 107 1 ((ls.take x).map rsO))])) 1 0 (Nat.zero_le _) [] ?_ ?_
 · simp only [go_sem, AObj.bel, List.take_zero, List.map_nil, Int.natCast_zero] <;> simp
 rintro i hi
 refine sq fun _ k5 => ?_; refine sr rfl fun _ J => ?_; simp only [go_sem]; apply J
 refine cd rfl (fun hc1 => ?_) fun hc1 => ?_
 · have hlt : i < ls.length := (by simpa using hc1); obtain ⟨l, hl, hdrop, hml⟩ := ix hlt
   have hsl := hs.2 l hml
   have hll := hsl.1
   refine wk ?_; apply k5; refine sq fun _ k7 => ?_; refine wb ?_; refine sr rfl fun _ k8 => ?_; simp only [go_sem]
   repeat (first | refine ⟨by first | omega | (intro hg; simp at hg; omega), ?_⟩ | fail)
   apply k8; refine sq fun _ k9 => ?_; refine sr rfl fun _ J => ?_; simp only [go_sem]; apply J; refine wb ?_
   refine wl (α := Nat) (fun x => x ≤ l.length) (fun x => l.length - x) (fun x => ([(0, .sl 1 (ls.map rsA)), (3, .ref 0), (4, .raw (.int .i64 (i : Int))), (5, .ref 1), (6, .raw (.int .i64 (x : Int)))], [(0, .row 107 1 ((ls.take i).map rsO)), (1, .row 109 2 ((l.take x).map runOwn))])) 2 0 (Nat.zero_le _) [] ?_ ?_
   · simp only [go_sem, AObj.bel, List.take_zero, List.map_nil, Int.natCast_zero] <;> simp
   rintro k hk
   refine sq fun _ k11 => ?_; refine sr rfl fun _ k12 => ?_; simp only [go_sem, hl, rsA]
   repeat (first | refine ⟨by first | omega | (intro hg; simp at hg; omega), ?_⟩ | fail)
   apply k12
   refine cd rfl (fun hc2 => ?_) fun hc2 => ?_
   · have hltk : k < l.length := by simpa using hc2
     obtain ⟨r, hr, _, hmr⟩ := ix hltk
     have hrl := (hsl.2 r hmr).1
     refine wk ?_; apply k11; refine sq fun _ k13 => ?_; refine wb ?_
     refine awp_draw mixed rfl ?_
     simp only [go_sem, hl, hr, rsA, rA, List.length_take, List.length_append, List.nil_append, List.length_map, List.length_reverse, List.length_drop]
     repeat (first | refine ⟨by first | omega | (intro hg; simp at hg; omega), ?_⟩ | fail)
     refine ⟨by rfl, ?_⟩; try simp only [go_sem, lQ]
     apply k13
     have hwk : IntKind.i64.wrap ((k : Int) + 1) = ((k + 1 : Nat) : Int) := by rw [IntKind.wrap_i64]; omega
     have htk : List.take k (List.map runOwn l) ++ [AV.agg [AV.own 65 5 (List.map enA r.ents), AV.raw (Value.int IntKind.i64 r.mask)]] = List.take (k + 1) (List.map runOwn l) := by rw [← List.map_take, ← List.map_take]; exact runOwn_take hr
     refine wg rfl ?_; simp only [go_sem, hwk]; try simp only [go_sem, lQ]
     refine ⟨k + 1, by omega, by omega, [(1, 5)], ?_⟩
     simp only [go_sem, AObj.bel, AObj.ren, AV.ren, aA, sg] <;> simp
     exact htk
   have hgek : l.length ≤ k := by have h9 : ¬ k < l.length := (by simpa using hc2); omega
   refine we ?_; try simp only [go_sem, lQ]
   apply k9
   have hfull : l.take k = l := List.take_of_length_le (by omega)
   refine wg rfl ?_; simp only [go_sem, hfull, List.length_take, List.length_append, List.nil_append, List.length_map, List.length_reverse, List.length_drop]
   repeat (first | refine ⟨by first | omega | (intro hg; simp at hg; omega), ?_⟩ | fail)
   try simp only [go_sem, lQ]
   apply k7
   have hw : IntKind.i64.wrap ((i : Int) + 1) = ((i + 1 : Nat) : Int) := by rw [IntKind.wrap_i64]; omega
   have htl : List.take i (List.map rsO ls) ++ [AV.own 109 2 (List.map runOwn l)] = List.take (i + 1) (List.map rsO ls) := by rw [← List.map_take, ← List.map_take]; exact runsOwn_take hl
   refine wg rfl ?_; simp only [go_sem, hw]; try simp only [go_sem, lQ]
   refine ⟨i + 1, by omega, by omega, [(0, 3)], ?_⟩
   simp only [go_sem, AObj.bel, AObj.ren, AV.ren, aA, sg] <;> simp
   exact htl
 have hge : ls.length ≤ i := Nat.not_lt.1 (by simpa using hc1)
 refine we ?_; try simp only [go_sem, lQ]
 apply k3; refine sr rfl fun _ J => ?_; simp only [go_sem]; apply J; refine wR ?_
 have hie : i = ls.length := by omega
 subst hie; rw [List.take_length]; refine ⟨[], ?_⟩
 simp only [go_sem, AObj.bel] <;> simp
theorem w_spec_l5Copy_o (t : Tree) (hs : sTree t) : aD P 65 [trA t] [] 0 (.agg [.raw (.int .i64 t.seq), .ref 0, .ref 1, .ref 2]) [(0, .row 65 5 (t.mem.map enA)), (1, .row 107 1 (t.levels.map rsO)), (2, .row 3 1 (t.snaps.map inA))] 3 := by
 refine gw (N := 17) (vs := [.cell 2 36]) ⟨Tryz.func65, rfl, rfl⟩ rfl rfl (by simp) ?_
 simp only [eE, trA]
 have hmx : maxLen = 9223372036854775807 := rfl
 obtain ⟨⟨hs1, _⟩, hs2, hs3⟩ := hs
 refine sr rfl fun _ J => ?_; simp only [go_sem]; apply J; refine sd mixed rfl fun _ k2 => ?_; simp only [go_sem, List.length_take, List.length_append, List.nil_append, List.length_map, List.length_reverse, List.length_drop]
 repeat (first | refine ⟨by first | omega | (intro hg; simp at hg; omega), ?_⟩ | fail)
 refine tn 1 rfl rfl rfl ⟨Tryz.func48, rfl, rfl⟩ (w_spec_l5CopyLevels_o t.levels hs2) (by simp only [go_sem]) (by simp only [go_sem]) (by simp) (by decide) ?_
 simp only [go_sem, AV.ren, AObj.ren, aA, shift, sg, Nat.le_refl, Nat.add_zero, Nat.sub_self]
 repeat (first | refine ⟨by first | omega | (intro hg; simp at hg; omega), ?_⟩ | fail)
 refine ⟨by rfl, ?_⟩; apply k2; refine wR ?_
 refine ⟨[(0, 3), (1, 4), (2, 6)], ?_⟩
 simp only [go_sem, AObj.bel, AObj.ren, AV.ren, aA, sg] <;> simp
theorem w_spec_l5Parts_o (t : Tree) (hs : sTree t) (h1 : 1 ≤ t.levels.length) : aD P 153 [trA t] [] 0 (.ref 0) [(0, .row 33 1 ((cO t).map esA))] 1 := by
 refine gw (N := 66) (vs := [.tmp 2]) ⟨Tryz.func153, rfl, rfl⟩ rfl rfl (by simp) ?_
 simp only [eE, trA]
 have hmx : maxLen = 9223372036854775807 := rfl
 obtain ⟨⟨hs1, _⟩, hs2, hs3⟩ := hs
 have hl0 : t.levels[0]? = some (lv t 0) := by unfold lv; rw [List.getElem?_eq_getElem (by omega)]; rfl
 have hm0 := hs2.2 _ (List.mem_of_getElem? hl0)
 have hz0 := hm0.1
 have hlen := hs2.1
 refine sr rfl fun _ J => ?_; simp only [go_sem]; apply J; refine sr rfl fun _ k2 => ?_; simp only [go_sem]
 repeat (first | refine ⟨by first | omega | (intro hg; simp at hg; omega), ?_⟩ | fail)
 apply k2; refine sq fun _ k3 => ?_
 have hw0 : IntKind.i64.wrap (((lv t 0).length : Int) - 1) = ((lv t 0).length : Int) - 1 := by rw [IntKind.wrap_i64]; omega
 refine sr rfl fun _ k4 => ?_; simp only [go_sem, hl0, tn0, rsA, hw0]
 repeat (first | refine ⟨by first | omega | (intro hg; simp at hg; omega), ?_⟩ | fail)
 apply k4; refine wb ?_
 refine wl (α := Nat) (fun x => x ≤ (lv t 0).length) (fun x => x) (fun x => ([(1, .ptr 0 0), (3, .ref 1), (4, .raw (.int .i64 ((x : Int) - 1)))], [(0, .cells 36 [.raw (.int .i64 t.seq), .sl 5 (t.mem.map enA), .sl 1 (t.levels.map rsA), .sl 1 (t.snaps.map inA)]), (1, .row 33 1 ((t.mem :: ((lv t 0).drop x).reverse.map Run.ents).map esA))])) 2 (lv t 0).length (Nat.le_refl _) [] ?_ ?_
 · simp only [go_sem, AObj.bel, List.drop_length, List.reverse_nil, List.map_cons, List.map_nil, esA] <;> simp
 rintro j hj
 refine sq fun _ k5 => ?_; refine sr rfl fun _ J => ?_; simp only [go_sem]; apply J
 refine cd rfl (fun hc1 => ?_) fun hc1 => ?_
 · obtain ⟨i, rfl⟩ : ∃ i, j = i + 1 := ⟨j - 1, by have h9 : (0 : Int) ≤ (j : Int) - 1 := (by simpa using hc1); omega⟩
   have hi1 : (((i + 1 : Nat) : Int) - 1) = (i : Int) := by omega
   obtain ⟨r, hr, _, hmr⟩ := ix (xs := lv t 0) (i := i) (by omega)
   simp only [hi1]; refine wk ?_; apply k5; refine sq fun _ k7 => ?_; refine wb ?_; refine wg rfl ?_; simp only [go_sem, hl0, tn0, hr, rsA, rA, List.length_take, List.length_append, List.nil_append, List.length_map, List.length_reverse, List.length_drop]
   repeat (first | refine ⟨by first | omega | (intro hg; simp at hg; omega), ?_⟩ | fail)
   try simp only [go_sem, lQ]
   apply k7
   have hw4 : IntKind.i64.wrap ((i : Int) - 1) = (i : Int) - 1 := by rw [IntKind.wrap_i64]; omega
   have htn : List.map esA (List.map Run.ents (List.drop (i + 1) (lv t 0)).reverse) ++ [AV.sl 5 (List.map enA r.ents)] = List.map esA (List.map Run.ents (List.drop i (lv t 0)).reverse) := by rw [rev_drop hr, List.map_append]; rfl
   refine wg rfl ?_; simp only [go_sem, hw4]; try simp only [go_sem, lQ]
   refine ⟨i, by omega, by omega, [(1, 3)], ?_⟩
   simp only [go_sem, AObj.bel, AObj.ren, AV.ren, aA, sg] <;> simp
   first | exact htn | simpa using htn
 have hj0 : j = 0 := by have h9 : ¬ (0 : Int) ≤ (j : Int) - 1 := (by simpa using hc1); omega
 subst hj0; rw [List.drop_zero]; refine we ?_; try simp only [go_sem, lQ]
 apply k3; refine sq fun _ k8 => ?_
 have hb0 : esA t.mem :: List.map esA (List.map Run.ents (lv t 0).reverse) = List.map esA (partsTo t 1) := by unfold partsTo; rw [List.drop_eq_nil_of_le (by rw [List.length_take]; omega)]; simp
 refine sr rfl fun _ J => ?_; simp only [go_sem]; apply J; refine wb ?_
 refine wl (α := Nat) (fun x => 1 ≤ x ∧ x ≤ t.levels.length) (fun x => t.levels.length - x) (fun x => ([(1, .ptr 0 0), (3, .ref 1), (5, .raw (.int .i64 (x : Int)))], [(0, .cells 36 [.raw (.int .i64 t.seq), .sl 5 (t.mem.map enA), .sl 1 (t.levels.map rsA), .sl 1 (t.snaps.map inA)]), (1, .row 33 1 ((partsTo t x).map esA))])) 2 1 ⟨Nat.le_refl _, h1⟩ [] ?_ ?_
 · simp only [go_sem, AObj.bel, AObj.ren, AV.ren, aA, sg] <;> simp
   first | exact hb0 | simpa using hb0
 rintro k ⟨hk1, hk⟩
 refine sq fun _ k10 => ?_; refine sr rfl fun _ J => ?_; simp only [go_sem]; apply J
 refine cd rfl (fun hc2 => ?_) fun hc2 => ?_
 · have hltk : k < t.levels.length := by simpa using hc2
   obtain ⟨l, hl, _, hml⟩ := ix hltk
   have hsl := hs2.2 l hml
   have hll := hsl.1
   have hpl : (partsTo t k).length ≤ 3145728 := by simp only [partsTo, List.length_cons, List.length_append, List.length_map, List.length_reverse, List.length_drop, List.length_take]; omega
   refine wk ?_; apply k10; refine sq fun _ k12 => ?_; refine wb ?_; refine sr rfl fun _ k13 => ?_; simp only [go_sem]
   repeat (first | refine ⟨by first | omega | (intro hg; simp at hg; omega), ?_⟩ | fail)
   apply k13; refine sq fun _ k14 => ?_; refine sr rfl fun _ J => ?_; simp only [go_sem]; apply J; refine wb ?_
   refine wl (α := Nat) (fun x => x ≤ l.length) (fun x => l.length - x) (fun x => ([(1, .ptr 0 0), (3, .ref 1), (5, .raw (.int .i64 (k : Int))), (6, .ref 2), (7, .raw (.int .i64 (x : Int)))], [(0, .cells 36 [.raw (.int .i64 t.seq), .sl 5 (t.mem.map enA), .sl 1 (t.levels.map rsA), .sl 1 (t.snaps.map inA)]), (1, .row 33 1 ((partsTo t k).map esA)), (2, .row 65 5 ((dI (l.take x)).map enA))])) 3 0 (Nat.zero_le _) [] ?_ ?_
   · simp only [go_sem, AObj.bel, AObj.ren, AV.ren, aA, sg] <;> simp
     exact rfl
   rintro i hi
   refine sq fun _ k16 => ?_; refine sr rfl fun _ k17 => ?_; simp only [go_sem, hl, rsA]
   repeat (first | refine ⟨by first | omega | (intro hg; simp at hg; omega), ?_⟩ | fail)
   apply k17
   refine cd rfl (fun hc3 => ?_) fun hc3 => ?_
   · have hlt : i < l.length := (by simpa using hc3); obtain ⟨x, hx, _, hmx⟩ := ix hlt
     have hxl := (hsl.2 x hmx).1
     have hpa := partAll_len (rs := l.take i) fun r hr => (hsl.2 r (List.mem_of_mem_take hr)).1
     rw [List.length_take] at hpa; refine wk ?_; apply k16; refine sq fun _ k18 => ?_; refine wb ?_; refine wg rfl ?_; simp only [go_sem, hl, hx, rsA, rA, List.length_take, List.length_append, List.nil_append, List.length_map, List.length_reverse, List.length_drop]
     repeat (first | refine ⟨by first | omega | (intro hg; simp at hg; omega), ?_⟩ | fail)
     try simp only [go_sem, lQ]
     apply k18
     have hw : IntKind.i64.wrap ((i : Int) + 1) = ((i + 1 : Nat) : Int) := by rw [IntKind.wrap_i64]; omega
     have hta : List.map enA (dI (List.take i l)) ++ List.map enA x.ents = List.map enA (dI (List.take (i + 1) l)) := by rw [partAll_take hx, List.map_append]
     refine wg rfl ?_; simp only [go_sem, hw]; try simp only [go_sem, lQ]
     refine ⟨i + 1, by omega, by omega, [(2, 3)], ?_⟩
     simp only [go_sem, AObj.bel, AObj.ren, AV.ren, aA, sg] <;> simp
     first | exact hta | simpa using hta
   have hge : l.length ≤ i := Nat.not_lt.1 (by simpa using hc3)
   refine we ?_; try simp only [go_sem, lQ]
   apply k14
   have hfull : l.take i = l := List.take_of_length_le (by omega)
   rw [hfull]
   refine aFz 2 rfl ?_
   simp only [go_sem]; refine wg rfl ?_; simp only [go_sem, List.length_take, List.length_append, List.nil_append, List.length_map, List.length_reverse, List.length_drop]
   repeat (first | refine ⟨by first | omega | (intro hg; simp at hg; omega), ?_⟩ | fail)
   try simp only [go_sem, lQ]
   apply k12
   have hwk : IntKind.i64.wrap ((k : Int) + 1) = ((k + 1 : Nat) : Int) := by rw [IntKind.wrap_i64]; omega
   have htk : List.map esA (partsTo t k) ++ [AV.sl 5 (List.map enA (dI l))] = List.map esA (partsTo t (k + 1)) := by
     have e1 := take1 dI hl hk1
     unfold partsTo; rw [e1]
     simp [esA]
   refine wg rfl ?_; simp only [go_sem, hwk]; try simp only [go_sem, lQ]
   refine ⟨k + 1, by omega, by omega, [(1, 4)], ?_⟩
   simp only [go_sem, AObj.bel, AObj.ren, AV.ren, aA, sg] <;> simp
   first | exact htk | simpa using htk
 have hke : k = t.levels.length := by have h9 : ¬ k < t.levels.length := (by simpa using hc2); omega
 subst hke; rw [partsTo_end]; refine we ?_; try simp only [go_sem, lQ]
 apply k8; refine sr rfl fun _ J => ?_; simp only [go_sem]; apply J; refine wR ?_
 refine ⟨[(0, 1)], ?_⟩
 simp only [go_sem, AObj.bel, AObj.ren, AV.ren, aA, sg] <;> simp
theorem w_spec_l5Aged (t : Tree) (hs : sTree t) (h1 : 1 ≤ t.levels.length) : aB P 100 [trA t] [] 0 (.raw (.bool (agedS (cO t)))) := by
 refine pw (N := 32) (vs := [.tmp 2]) ⟨Tryz.func100, rfl, rfl⟩ rfl rfl (by simp) ?_
 simp only [eE, trA]
 have hpl := parts_len hs
 have hps := parts_small hs
 generalize hpp : cO t = ps at hpl hps ⊢
 refine sr rfl fun _ J => ?_; simp only [go_sem]; apply J; refine sr rfl fun _ k2 => ?_; simp only [go_sem]
 refine vp rfl rfl rfl ⟨Tryz.func153, rfl, rfl⟩ ((hpp ▸ cQ (w_spec_l5Parts_o t hs h1) (by simp only [go_sem]) (by simp only [go_sem]) : aB P 153 [trA t] [] 0 (.sl 1 (ps.map esA)))) (by simp only [go_sem, trA]) (by simp only [go_sem, trA]) ?_
 simp only [go_sem]; apply k2; refine sq fun _ k3 => ?_; refine sr rfl fun _ J => ?_; simp only [go_sem]; apply J; refine wb ?_
 refine wl (α := Nat) (fun x => x ≤ ps.length ∧ ∀ j, j < x → agedRow ps j = true) (fun x => ps.length - x) (fun x => ([(3, .sl 1 (ps.map esA)), (4, .raw (.int .i64 (x : Int)))], [(0, .cells 36 [.raw (.int .i64 t.seq), .sl 5 (t.mem.map enA), .sl 1 (t.levels.map rsA), .sl 1 (t.snaps.map inA)])])) 1 0 ⟨Nat.zero_le _, fun j hj => absurd hj (Nat.not_lt_zero _)⟩ [] ?_ ?_
 · simp only [go_sem, AObj.bel, Int.natCast_zero] <;> simp
 rintro i ⟨hi, hall⟩
 refine sq fun _ k5 => ?_; refine sr rfl fun _ J => ?_; simp only [go_sem]; apply J
 refine cd rfl (fun hc1 => ?_) fun hc1 => ?_
 · have hlt : i < ps.length := (by simpa using hc1); obtain ⟨p, hp1, _, hmp⟩ := ix hlt; refine wk ?_; apply k5; refine sq fun _ k7 => ?_; refine wb ?_
   have hw : IntKind.i64.wrap ((i : Int) + 1) = ((i + 1 : Nat) : Int) := by rw [IntKind.wrap_i64]; omega
   refine sr rfl fun _ J => ?_; simp only [go_sem, hw]; apply J; refine wb ?_
   refine wl (α := Nat) (fun x => i + 1 + x ≤ ps.length ∧ ∀ d, d < x → agedAt ps i (i + 1 + d) = true) (fun x => ps.length - (i + 1 + x)) (fun x => ([(3, .sl 1 (ps.map esA)), (4, .raw (.int .i64 (i : Int))), (5, .raw (.int .i64 ((i + 1 + x : Nat) : Int)))], [(0, .cells 36 [.raw (.int .i64 t.seq), .sl 5 (t.mem.map enA), .sl 1 (t.levels.map rsA), .sl 1 (t.snaps.map inA)])])) 1 0 ⟨by omega, fun d hd => absurd hd (Nat.not_lt_zero _)⟩ [] ?_ ?_
   · simp only [go_sem, AObj.bel, AObj.ren, AV.ren, aA, sg] <;> simp
   rintro d ⟨hd, hall2⟩
   refine sq fun _ k9 => ?_; refine sr rfl fun _ J => ?_; simp only [go_sem]; apply J
   refine cd rfl (fun hc2 => ?_) fun hc2 => ?_
   · have hltk : i + 1 + d < ps.length := by simp at hc2; omega
     obtain ⟨q, hq1, _, hmq⟩ := ix hltk
     refine wk ?_; apply k9; refine sq fun _ k11 => ?_; refine wb ?_; refine sd mixed rfl fun _ k12 => ?_; simp only [go_sem, hp1, hq1, esA]
     repeat (first | refine ⟨by first | omega | (intro hg; simp at hg; omega), ?_⟩ | fail)
     refine tp rfl rfl rfl ⟨Tryz.func154, rfl, rfl⟩ (w_spec_l5Above p q (hps p hmp) (hps q hmq)) (by simp only [go_sem]) (by simp only [go_sem]) ?_
     simp only [go_sem, hp1, hq1, esA]
     repeat (first | refine ⟨by first | omega | (intro hg; simp at hg; omega), ?_⟩ | fail)
     refine ⟨by rfl, ?_⟩; apply k12
     refine cd rfl (fun hc3 => ?_) fun hc3 => ?_
     · have hpk : agedAt ps i (i + 1 + d) = false := by unfold agedAt; rw [hp1, hq1]; simpa using hc3
       have hp : agedRow ps i = false := all_no (i := d) (by omega) hpk
       refine sr rfl fun _ J => ?_; simp only [go_sem]; apply J; refine wR ?_; simp only [go_sem, lQ]
       have h9 : agedS ps = false := by unfold agedS; exact all_no hlt hp
       refine fO ?_ trivial; simp only [go_sem, h9]
     have hpk : agedAt ps i (i + 1 + d) = true := by unfold agedAt; rw [hp1, hq1]; simpa using hc3
     refine wk ?_; try simp only [go_sem, lQ]
     apply k11
     have hwk : IntKind.i64.wrap (((i + 1 + d : Nat) : Int) + 1) = ((i + 1 + (d + 1) : Nat) : Int) := by rw [IntKind.wrap_i64]; omega
     refine wg rfl ?_; simp only [go_sem, hwk]; try simp only [go_sem, lQ]
     refine ⟨d + 1, ⟨by omega, bN hall2 hpk⟩, by omega, [], ?_⟩
     simp only [go_sem, AObj.bel, AObj.ren, AV.ren, aA, sg] <;> simp
   have hgek : ps.length ≤ i + 1 + d := by simp at hc2; omega
   refine we ?_; try simp only [go_sem, lQ]
   try simp only [go_sem, lQ]
   apply k7
   have hp : agedRow ps i = true := all_yes (by omega) hall2
   have hw : IntKind.i64.wrap ((i : Int) + 1) = ((i + 1 : Nat) : Int) := by rw [IntKind.wrap_i64]; omega
   refine wg rfl ?_; simp only [go_sem, hw]; try simp only [go_sem, lQ]
   refine ⟨i + 1, ⟨by omega, bN hall hp⟩, by omega, [], ?_⟩
   simp only [go_sem, AObj.bel] <;> simp
 have hge : ps.length ≤ i := Nat.not_lt.1 (by simpa using hc1)
 refine we ?_; try simp only [go_sem, lQ]
 apply k3; refine sr rfl fun _ J => ?_; simp only [go_sem]; apply J; refine wR ?_
 have h9 : agedS ps = true := by unfold agedS; exact all_yes hge hall
 refine fO ?_ trivial; simp only [go_sem, h9]
theorem w_spec_TreeOk (t : Tree) (hs : sTree t) : aB P 58 [trA t] [] 0 (.raw (.bool (bU t))) := by
 refine pw (N := 71) (vs := [.tmp 2]) ⟨Tryz.func58, rfl, rfl⟩ rfl rfl (by simp) ?_
 simp only [eE, trA]
 have hs0 := hs
 obtain ⟨hs1, hs2, hs3⟩ := hs
 have hz1 : bT t.mem := ⟨by have := hs1.1; omega, fun e he => ⟨by have := (hs1.2 e he).1; omega, by have := (hs1.2 e he).2; omega⟩⟩
 have hzr : ∀ i, i < t.levels.length → mxRuns (lv t i) := fun i hi => by
   have h1 := hs2.2 (lv t i) (by unfold lv; rw [List.getElem?_eq_getElem hi]; exact List.getElem_mem hi)
   exact ⟨by have := h1.1; omega, fun r hr => ⟨by have := (h1.2 r hr).1; omega, fun e he => ⟨by have := ((h1.2 r hr).2 e he).1; omega, by have := ((h1.2 r hr).2 e he).2; omega⟩⟩⟩
 refine sr rfl fun _ J => ?_; simp only [go_sem]; apply J; refine sq fun _ k2 => ?_; refine sr rfl fun _ k3 => ?_; simp only [go_sem]
 refine vpg rfl rfl rfl rfl rfl rfl ⟨Tryz.func96, rfl, rfl⟩ (fun hg => w_spec_l4Right t.mem hz1) (by simp only [go_sem]) (fun hg => (by simp only [go_sem])) (by simp only [go_sem]) trivial ?_
 simp only [go_sem]
 refine vpg rfl rfl rfl rfl rfl rfl ⟨Tryz.func97, rfl, rfl⟩ (fun hg => w_spec_l5Within t.mem t.seq hz1.1) (by simp only [go_sem]) (fun hg => (by simp only [go_sem])) (by simp only [go_sem]) trivial ?_
 simp only [go_sem]
 refine vpg rfl rfl rfl rfl rfl rfl ⟨Tryz.func98, rfl, rfl⟩ (fun hg => w_spec_l5Snaps t (by omega)) (by simp only [go_sem]) (fun hg => (by simp only [go_sem, trA])) (by simp only [go_sem, trA]) trivial ?_
 simp only [go_sem]; apply k3
 refine cd rfl (fun hc1 => ?_) fun hc1 => ?_
 · have hb : treeBadS t = true := hc1
   refine sr rfl fun _ J => ?_; simp only [go_sem]; apply J; refine wR ?_; refine fO ?_ trivial; simp only [go_sem, bU, hb]
 have hb : treeBadS t = false := hc1
 have h3 : t.levels.length = 3 := by simp at hc1; omega
 have hl0 : t.levels[0]? = some (lv t 0) := by unfold lv; rw [List.getElem?_eq_getElem (by omega)]; rfl
 have hl1 : t.levels[1]? = some (lv t 1) := by unfold lv; rw [List.getElem?_eq_getElem (by omega)]; rfl
 have hl2 : t.levels[2]? = some (lv t 2) := by unfold lv; rw [List.getElem?_eq_getElem (by omega)]; rfl
 refine wk ?_; apply k2; refine sd mixed rfl fun _ k5 => ?_; simp only [go_sem, hl0, hl1, hl2, tn0, tn1, tn2, rsA]
 repeat (first | refine ⟨by first | omega | (intro hg; simp at hg; omega), ?_⟩ | fail)
 refine tp rfl rfl rfl ⟨Tryz.func99, rfl, rfl⟩ (w_spec_l5Runs (lv t 0) 4 false t.seq (hzr 0 (by omega))) (by simp only [go_sem]) (by simp only [go_sem]) ?_
 simp only [go_sem, hl0, hl1, hl2, tn0, tn1, tn2, rsA]
 repeat (first | refine ⟨by first | omega | (intro hg; simp at hg; omega), ?_⟩ | fail)
 refine tpg rfl rfl rfl rfl rfl rfl ⟨Tryz.func99, rfl, rfl⟩ (fun hg => w_spec_l5Runs (lv t 1) 8 true t.seq (hzr 1 (by omega))) (by simp only [go_sem]) (fun hg => (by simp only [go_sem])) (by simp only [go_sem]) trivial ?_
 simp only [go_sem, hl0, hl1, hl2, tn0, tn1, tn2, rsA]
 repeat (first | refine ⟨by first | omega | (intro hg; simp at hg; omega), ?_⟩ | fail)
 refine tpg rfl rfl rfl rfl rfl rfl ⟨Tryz.func99, rfl, rfl⟩ (fun hg => w_spec_l5Runs (lv t 2) 8 true t.seq (hzr 2 (by omega))) (by simp only [go_sem]) (fun hg => (by simp only [go_sem])) (by simp only [go_sem]) trivial ?_
 simp only [go_sem, hl0, hl1, hl2, tn0, tn1, tn2, rsA]
 repeat (first | refine ⟨by first | omega | (intro hg; simp at hg; omega), ?_⟩ | fail)
 refine tpg rfl rfl rfl rfl rfl rfl ⟨Tryz.func100, rfl, rfl⟩ (fun hg => w_spec_l5Aged t hs0 (by omega)) (by simp only [go_sem]) (fun hg => (by simp only [go_sem, trA])) (by simp only [go_sem, trA]) trivial ?_
 simp only [go_sem]
 repeat (first | refine ⟨by first | omega | (intro hg; simp at hg; omega), ?_⟩ | fail)
 refine ⟨by rfl, ?_⟩; apply k5; refine wR ?_; refine fO ?_ trivial; simp only [go_sem, bU, hb, Bool.false_eq_true, if_false]
end
def batchAt (ls : List Entry) (i : Nat) : Bool := match ls[i]? with
  | some e => !(!cY e || (decide (0 < (i : Int)) && !decide (e.seq = IntKind.i64.wrap ((prevAt ls i).seq + 1))))
  | none => true
def isB (ls : List Entry) : Bool := (List.range ls.length).all (batchAt ls) && (decide (1 ≤ (ls.length : Int)) && decide ((ls.length : Int) ≤ 12))
def dchr (n : Int) : ByteArray := ByteArray.empty.push (UInt8.ofNat (IntKind.u8.wrap (IntKind.i64.wrap (48 + n))).toNat)
def decGo : Nat → Int → ByteArray → ByteArray
  | 0, n, out => dchr n ++ out
  | f + 1, n, out => if 9 < n then decGo f (n.tdiv 10) (dchr (n.tmod 10) ++ out) else dchr n ++ out
def decP (n : Int) : ByteArray := decGo 19 n ⟨#[]⟩
def dec (n : Int) : ByteArray := if n < 0 then ⟨#[45]⟩ ++ decP (-n) else decP n
theorem decGo_size : ∀ (f : Nat) (n : Int) (out : ByteArray), (decGo f n out).size ≤ out.size + f + 1
  | 0, n, out => by simp only [decGo, ByteArray.size_append]; have : (dchr n).size = 1 := rfl; omega
  | f + 1, n, out => by
    unfold decGo
    have h1 : ∀ m, (dchr m).size = 1 := fun _ => rfl
    split
    · have := decGo_size f (n.tdiv 10) (dchr (n.tmod 10) ++ out)
      rw [ByteArray.size_append, h1] at this; omega
    rw [ByteArray.size_append, h1]; omega
theorem dec_size (n : Int) : (dec n).size ≤ 21 := by
  have h : ∀ m, (decP m).size ≤ 20 := fun m => decGo_size 19 m ⟨#[]⟩
  unfold dec; split
  · rw [ByteArray.size_append]; have := h (-n); have : (⟨#[45]⟩ : ByteArray).size = 1 := rfl; omega
  have := h n; omega
abbrev spB : ByteArray := ⟨#[32]⟩
abbrev nlB : ByteArray := ⟨#[10]⟩
theorem aU : spB.size = 1 := rfl
theorem nlB_size : nlB.size = 1 := rfl
def frStep (out : ByteArray) (e : Entry) : ByteArray := out ++ e.key ++ spB ++ dec e.seq ++ spB ++ dec e.kind ++ spB ++ dec e.n ++ spB ++ dec (e.text.size : Int) ++ spB ++ e.text
def bTx (ls : List Entry) : ByteArray := ls.foldl frStep ⟨#[]⟩
def fTx (ls : List Entry) : ByteArray := if isB ls = true then dec ((bTx ls).size : Int) ++ spB ++ bTx ls ++ nlB else ⟨#[]⟩
def spGo (s : ByteArray) : Nat → Nat → Option Nat
  | 0, _ => none
  | f + 1, i => if aF s i = 32 then some i else spGo s f (i + 1)
def wordS (s : ByteArray) (at' : Nat) : ByteArray × Int := match spGo s (s.size - at') at' with
  | some i => (s.extract at' i, (i : Int) + 1)
  | none => (⟨#[]⟩, -1)
theorem spGo_lt (s : ByteArray) : ∀ (f i j : Nat), spGo s f i = some j → i ≤ j ∧ j < i + f
  | 0, i, j, h => by cases h
  | f + 1, i, j, h => by
    unfold spGo at h; split at h
    · cases h; omega
    have := spGo_lt s f (i + 1) j h; omega
theorem wordS_le (s : ByteArray) (a : Nat) : -1 ≤ (wordS s a).2 ∧ (wordS s a).2 ≤ s.size := by
  unfold wordS; split
  · rename_i i h
    have := spGo_lt s _ _ _ h
    simp only
    omega
  simp only; omega
theorem extract_size (s : ByteArray) (a b : Nat) (h : b ≤ s.size) : (s.extract a b).size = b - a := by
  rw [ByteArray.size_extract]; omega
theorem wordS_size (s : ByteArray) (a : Nat) : (wordS s a).1.size ≤ s.size := by
  unfold wordS; split
  · rename_i i h
    have := spGo_lt s _ _ _ h
    simp only
    rw [ByteArray.size_extract]; omega
  exact Nat.zero_le _
def numGo (t : ByteArray) : Nat → Option Int
  | 0 => some 0
  | i + 1 => match numGo t i with
    | some n => if (decide (aF t i < 48) || decide (57 < aF t i)) = true then none else some (n * 10 + (aF t i - 48))
    | none => none
theorem numGo_range (t : ByteArray) : ∀ (i : Nat) (n : Int), numGo t i = some n → 0 ≤ n ∧ n < 10 ^ i
  | 0, n, h => by cases h; simp
  | i + 1, n, h => by
    unfold numGo at h; split at h
    · rename_i m hm
      split at h
      · cases h
      rename_i hd
      cases h
      have := numGo_range t i m hm
      simp at hd; rw [Int.pow_succ]; omega
    cases h
theorem numGo_no {t : ByteArray} {i : Nat} (h : numGo t i = none) : ∀ j, i ≤ j → numGo t j = none := by
  intro j hj
  induction j with
  | zero => have : i = 0 := by omega
            subst this; exact h
  | succ j ih =>
    by_cases e : i = j + 1
    · subst e; exact h
    unfold numGo; rw [ih (by omega)]
def isNeg (s : ByteArray) : Bool := decide (0 < (s.size : Int)) && decide (aF s 0 = 45)
def unNeg (s : ByteArray) : ByteArray := if isNeg s = true then s.extract 1 s.size else s
def numBad (t : ByteArray) (neg : Bool) : Bool := (decide ((t.size : Int) = 0) || decide (17 < (t.size : Int))) || (decide (aF t 0 = 48) && (decide (1 < (t.size : Int)) || neg))
def numS (s : ByteArray) : Option Int := if numBad (unNeg s) (isNeg s) = true then none else (numGo (unNeg s) (unNeg s).size).map fun n => if isNeg s = true then -n else n
def numV (s : ByteArray) : Int × Bool := match numS s with
  | some n => (n, true)
  | none => (0, false)
def aT (s : ByteArray) (a : Int) : Int × Int := if a < 0 then (0, -1) else match numS (wordS s a.toNat).1 with
  | some n => (n, (wordS s a.toNat).2)
  | none => (0, -1)
theorem numAt_le (s : ByteArray) (a : Int) : -1 ≤ (aT s a).2 ∧ (aT s a).2 ≤ s.size := by
  unfold aT; split
  · simp only; omega
  split
  · exact wordS_le s a.toNat
  simp only; omega
theorem numS_range {s : ByteArray} {n : Int} (h : numS s = some n) : -100000000000000000 < n ∧ n < 100000000000000000 := by
  unfold numS at h; split at h
  · cases h
  rename_i hb
  obtain ⟨m, hm, rfl⟩ := Option.map_eq_some_iff.1 h
  have h1 := numGo_range _ _ _ hm
  have h2 : (unNeg s).size ≤ 17 := by simp [numBad] at hb; omega
  have h3 : (10 : Int) ^ (unNeg s).size ≤ 10 ^ 17 := by
    have : (10 : Nat) ^ (unNeg s).size ≤ 10 ^ 17 := Nat.pow_le_pow_right (by omega) h2
    exact_mod_cast this
  have h4 : (10 : Int) ^ 17 = 100000000000000000 := rfl
  split <;> omega
theorem numAt_range (s : ByteArray) (a : Int) : -100000000000000000 < (aT s a).1 ∧ (aT s a).1 < 100000000000000000 := by
  unfold aT; split
  · simp only; omega
  split
  · rename_i n h; exact numS_range h
  simp only; omega
def zEntry : Entry := ⟨⟨#[]⟩, 0, 0, ⟨#[]⟩, 0⟩
def e1 (s : ByteArray) (a : Nat) := wordS s a
def e2 (s : ByteArray) (a : Nat) := aT s (e1 s a).2
def e3 (s : ByteArray) (a : Nat) := aT s (e2 s a).2
def e4 (s : ByteArray) (a : Nat) := aT s (e3 s a).2
def e5 (s : ByteArray) (a : Nat) := aT s (e4 s a).2
def entBadAt (s : ByteArray) (a : Nat) : Bool := (decide ((e5 s a).2 < 0) || decide ((e5 s a).1 < 0)) || decide ((s.size : Int) - (e5 s a).2 < (e5 s a).1)
def entS (s : ByteArray) (a : Nat) : Entry × Int := if entBadAt s a = true then (zEntry, -1) else
  (⟨(e1 s a).1, (e2 s a).1, (e3 s a).1, s.extract (e5 s a).2.toNat ((e5 s a).2 + (e5 s a).1).toNat, (e4 s a).1⟩, (e5 s a).2 + (e5 s a).1)
theorem w_spec_l6Batch (ls : List Entry) (hz : bT ls) : aB P 109 [.sl 5 (ls.map enA)] [] 0 (.raw (.bool (isB ls))) := by
 refine pw (N := 43) (vs := [.tmp 2]) ⟨Tryz.func109, rfl, rfl⟩ rfl rfl (by simp) ?_
 simp only [eE]
 have hlen := hz.1
 refine sr rfl fun _ J => ?_; simp only [go_sem]; apply J; refine sq fun _ k2 => ?_; refine sr rfl fun _ J => ?_; simp only [go_sem]; apply J; refine wb ?_
 refine wl (α := Nat) (fun x => x ≤ ls.length ∧ ∀ j, j < x → batchAt ls j = true) (fun x => ls.length - x) (fun x => ([(0, .sl 5 (ls.map enA)), (3, .raw (.int .i64 (x : Int)))], [])) 0 0 ⟨Nat.zero_le _, fun j hj => absurd hj (Nat.not_lt_zero _)⟩ [] ?_ ?_
 · simp only [go_sem, Int.natCast_zero] <;> simp
 rintro i ⟨hi, hall⟩
 refine sq fun _ k4 => ?_; refine sr rfl fun _ J => ?_; simp only [go_sem]; apply J
 refine cd rfl (fun hc1 => ?_) fun hc1 => ?_
 · have hlt : i < ls.length := (by simpa using hc1); obtain ⟨l, hl, hdrop, hml⟩ := ix hlt
   have hw1 : IntKind.i64.wrap ((i : Int) - 1) = (i : Int) - 1 := by rw [IntKind.wrap_i64]; omega
   have hpn : ((i : Int) - 1).toNat = i - 1 := by omega
   have hpv : ls[i - 1]? = some (prevAt ls i) := by unfold prevAt; rw [List.getElem?_eq_getElem (by omega)]; rfl
   refine wk ?_; apply k4; refine sq fun _ k6 => ?_; refine wb ?_; refine sd mixed rfl fun _ k7 => ?_; simp only [go_sem, hl, hw1, hpn, hpv, enA]
   repeat (first | refine ⟨by first | omega | (intro hg; simp at hg; omega), ?_⟩ | fail)
   refine tp rfl rfl rfl ⟨Tryz.func107, rfl, rfl⟩ (w_spec_EntryOk l (hz.2 l hml)) (by simp only [go_sem, enA]) (by simp only [go_sem, enA]) ?_
   simp only [go_sem, hl, hw1, hpn, hpv, enA]
   repeat (first | refine ⟨by first | omega | (intro hg; simp at hg; omega), ?_⟩ | fail)
   refine ⟨by rfl, ?_⟩; apply k7
   refine cd rfl (fun hc2 => ?_) fun hc2 => ?_
   · have hp : batchAt ls i = false := by unfold batchAt; rw [hl]; simp only [hc2]; rfl
     refine sr rfl fun _ J => ?_; simp only [go_sem]; apply J; refine wR ?_; simp only [go_sem, lQ]
     have h9 : isB ls = false := by unfold isB; rw [all_no hlt hp]; rfl
     refine fO ?_ trivial; simp only [go_sem, h9]
   have hp : batchAt ls i = true := by unfold batchAt; rw [hl]; simp only [hc2]; rfl
   refine wk ?_; try simp only [go_sem, lQ]
   apply k6
   have hw : IntKind.i64.wrap ((i : Int) + 1) = ((i + 1 : Nat) : Int) := by rw [IntKind.wrap_i64]; omega
   refine wg rfl ?_; simp only [go_sem, hw]; try simp only [go_sem, lQ]
   refine ⟨i + 1, ⟨by omega, bN hall hp⟩, by omega, [], ?_⟩
   simp only [go_sem] <;> simp
 have hge : ls.length ≤ i := Nat.not_lt.1 (by simpa using hc1)
 refine we ?_; try simp only [go_sem, lQ]
 apply k2; refine sr rfl fun _ J => ?_; simp only [go_sem]; apply J; refine wR ?_
 have h9 : isB ls = (decide (1 ≤ (ls.length : Int)) && decide ((ls.length : Int) ≤ 12)) := by unfold isB; rw [all_yes hge hall]; rfl
 refine fO ?_ trivial; simp only [go_sem, h9]
theorem w_spec_l9Dec_p (n : Int) (h0 : 0 ≤ n) (hn : n < 1000000000000000000) : aB P 110 [.raw (.int .i64 n)] [] 0 (.raw (.string (decP n))) := by
 refine pw (N := 31) (vs := [.tmp 2]) ⟨Tryz.func110, rfl, rfl⟩ rfl rfl (by simp) ?_
 simp only [eE]
 have hmx : maxLen = 9223372036854775807 := rfl
 have hd1 : ∀ m, ByteArray.empty.push (UInt8.ofNat (IntKind.u8.wrap (IntKind.i64.wrap (48 + m))).toNat) = dchr m := fun _ => rfl
 have hds : ∀ m, (dchr m).size = 1 := fun _ => rfl
 refine sr rfl fun _ J => ?_; simp only [go_sem]; apply J; refine sq fun _ k2 => ?_; refine sr rfl fun _ J => ?_; simp only [go_sem]; apply J
 refine cd rfl (fun hc1 => ?_) fun hc1 => ?_
 · exfalso; simp at hc1; omega
 refine wk ?_; apply k2; refine sq fun _ k4 => ?_; refine sr rfl fun _ J => ?_; simp only [go_sem]; apply J
 refine cd rfl (fun hc2 => ?_) fun hc2 => ?_
 · exfalso; simp at hc2; omega
 refine wk ?_; apply k4; refine sr rfl fun _ J => ?_; simp only [go_sem]; apply J; refine sq fun _ k7 => ?_; refine wb ?_
 refine wl (α := Nat × Int × ByteArray) (fun x => 0 ≤ x.2.1 ∧ x.2.1 < 10 ^ (x.1 + 1) ∧ x.2.2.size + x.1 ≤ 20 ∧ x.2.1 < 1000000000000000000 ∧ decGo x.1 x.2.1 x.2.2 = decP n) (fun x => x.2.1.toNat) (fun x => ([(0, .raw (.int .i64 x.2.1)), (3, .raw (.string x.2.2))], [])) 0 (19, n, ⟨#[]⟩) ⟨by simp only; omega, by simp only; omega, by simp [ByteArray.size], hn, rfl⟩ [] ?_ ?_
 · simp only [go_sem, Int.natCast_zero] <;> simp
 rintro ⟨f, m, out⟩ ⟨hm0, hmf, hsz, hmk, hd⟩
 simp only at hm0 hmf hsz hmk hd ⊢
 refine sq fun _ k8 => ?_; refine sr rfl fun _ J => ?_; simp only [go_sem]; apply J
 refine cd rfl (fun hc3 => ?_) fun hc3 => ?_
 · have hpos : 9 < m := by simpa using hc3
   obtain ⟨g, rfl⟩ : ∃ g, f = g + 1 := by
     cases f with
     | zero => simp at hmf; omega
     | succ g => exact ⟨g, rfl⟩
   have hq : m.tdiv 10 = m / 10 := Int.tdiv_eq_ediv_of_nonneg (by omega)
   have hwq : IntKind.i64.wrap (m.tdiv 10) = m.tdiv 10 := by rw [IntKind.wrap_i64, hq]; omega
   have hds1 := hds (m.tmod 10)
   have hstep : decGo (g + 1) m out = decGo g (m.tdiv 10) (dchr (m.tmod 10) ++ out) := by rw [decGo, if_pos hpos]
   refine wk ?_; apply k8; refine wb ?_; refine sr rfl fun _ k10 => ?_; simp only [go_sem, hd1]
   repeat (first | refine ⟨by first | omega | (intro hg; simp at hg; omega), ?_⟩ | fail)
   refine vC (fun hN => lstep_byteStr (n := IntKind.u8.wrap (IntKind.i64.wrap (48 + m.tmod 10))) rfl rfl hN FB.1 FB.2.1 FB.2.2 rfl rfl) (.inl rfl) ?_
   simp only [go_sem, hd1]
   repeat (first | refine ⟨by first | omega | (intro hg; simp at hg; omega), ?_⟩ | fail)
   apply k10; refine wg rfl ?_; simp only [go_sem, hwq]; try simp only [go_sem, lQ]
   try simp only [go_sem, lQ]
   refine ⟨(g, m.tdiv 10, dchr (m.tmod 10) ++ out), ⟨by simp only; omega, by
     simp only
     rw [hq]
     have h9 : m < 10 ^ (g + 1) * 10 := by rw [← Int.pow_succ]; exact hmf
     omega, by simp only [ByteArray.size_append]; omega, by simp only; omega, by rw [← hd, hstep]⟩, by simp only; omega, [], ?_⟩
   simp only [go_sem] <;> simp
 have hle : ¬ 9 < m := by simpa using hc3
 have hd0 : decGo f m out = dchr m ++ out := by cases f with | zero => rfl | succ g => rw [decGo, if_neg hle]
 rw [hd0] at hd
 have hds1 := hds m
 refine we ?_; try simp only [go_sem, lQ]
 apply k7; refine sr rfl fun _ k11 => ?_; simp only [go_sem, hd1]
 repeat (first | refine ⟨by first | omega | (intro hg; simp at hg; omega), ?_⟩ | fail)
 refine vC (fun hN => lstep_byteStr (n := IntKind.u8.wrap (IntKind.i64.wrap (48 + m))) rfl rfl hN FB.1 FB.2.1 FB.2.2 rfl rfl) (.inl rfl) ?_
 simp only [go_sem, hd1]
 repeat (first | refine ⟨by first | omega | (intro hg; simp at hg; omega), ?_⟩ | fail)
 apply k11; refine wR ?_; refine fO ?_ trivial; simp only [go_sem, hd]
theorem w_spec_l9Dec_n (n : Int) (h0 : -1000000000000000000 < n) (hn : n < 0) : aB P 110 [.raw (.int .i64 n)] [] 0 (.raw (.string (dec n))) := by
 refine pw (N := 31) (vs := [.tmp 2]) ⟨Tryz.func110, rfl, rfl⟩ rfl rfl (by simp) ?_
 simp only [eE]
 have hmx : maxLen = 9223372036854775807 := rfl
 have hw : IntKind.i64.wrap (-n) = -n := by rw [IntKind.wrap_i64]; omega
 have hsz := decGo_size 19 (-n) ⟨#[]⟩
 have hsz0 : (⟨#[]⟩ : ByteArray).size = 0 := rfl
 have hsz1 : (#[(45 : UInt8)] : Array UInt8).size = 1 := rfl
 have hszp : (decP (-n)).size ≤ 20 := hsz
 have h9 : dec n = ⟨#[45]⟩ ++ decP (-n) := by unfold dec; rw [if_pos hn]
 refine sr rfl fun _ J => ?_; simp only [go_sem]; apply J; refine sq fun _ k2 => ?_; refine sr rfl fun _ J => ?_; simp only [go_sem]; apply J
 refine cd rfl (fun hc1 => ?_) fun hc1 => ?_
 · exfalso; simp at hc1; omega
 refine wk ?_; apply k2; refine sq fun _ k4 => ?_; refine sr rfl fun _ J => ?_; simp only [go_sem]; apply J
 refine cd rfl (fun hc2 => ?_) fun hc2 => ?_
 · refine sr rfl fun _ k6 => ?_; simp only [go_sem, hw]
   refine vp rfl rfl rfl ⟨Tryz.func110, rfl, rfl⟩ (w_spec_l9Dec_p (-n) (by omega) (by omega)) (by simp only [go_sem]) (by simp only [go_sem]) ?_
   simp only [go_sem]
   repeat (first | refine ⟨by omega, ?_⟩ | refine ⟨fun hg => by (try simp at hg); omega, ?_⟩)
   apply k6; refine wR ?_; refine fO ?_ trivial; simp only [go_sem, h9]
 exfalso; simp at hc2; omega
theorem w_spec_l9Dec (n : Int) (h0 : -1000000000000000000 < n) (hn : n < 1000000000000000000) : aB P 110 [.raw (.int .i64 n)] [] 0 (.raw (.string (dec n))) := by
  by_cases hneg : n < 0
  · exact w_spec_l9Dec_n n h0 hneg
  have h9 : dec n = decP n := by unfold dec; rw [if_neg hneg]
  rw [h9]
  exact w_spec_l9Dec_p n (by omega) hn
theorem entOk_range {e : Entry} (h : cY e = true) : 1 ≤ e.seq ∧ e.seq ≤ 100000 ∧ 1 ≤ e.kind ∧ e.kind ≤ 3 ∧ -1000000 ≤ e.n ∧ e.n ≤ 1000000 ∧ e.text.size ≤ 60 ∧ e.key.size ≤ 8 := by
  unfold cY at h; split at h
  · cases h
  rename_i hb
  simp [entBad, sumOk, keyOk] at hb
  have hk : 1 ≤ e.kind ∧ e.kind ≤ 3 := by
    split at h
    · omega
    split at h
    · omega
    split at h
    · omega
    cases h
  omega
theorem cC {ls : List Entry} (h : isB ls = true) : (∀ e ∈ ls, cY e = true) ∧ 1 ≤ ls.length ∧ ls.length ≤ 12 := by
  simp [isB] at h
  refine ⟨fun e he => ?_, by omega, by omega⟩
  obtain ⟨i, hi⟩ := List.getElem?_of_mem he
  have := h.1 i (List.getElem?_eq_some_iff.1 hi).1
  unfold batchAt at this; rw [hi] at this; simp at this
  exact this.1
theorem frStep_size (out : ByteArray) (e : Entry) : (frStep out e).size ≤ out.size + e.key.size + e.text.size + 89 := by
  have h1 := dec_size e.seq
  have h2 := dec_size e.kind
  have h3 := dec_size e.n
  have h4 := dec_size (e.text.size : Int)
  simp only [frStep, ByteArray.size_append, aU]; omega
theorem frFold_size : ∀ (ls : List Entry) (out : ByteArray), (∀ e ∈ ls, e.text.size ≤ 60 ∧ e.key.size ≤ 8) → (ls.foldl frStep out).size ≤ out.size + 157 * ls.length
  | [], out, _ => by simp
  | e :: r, out, h => by
    have h1 := frStep_size out e
    have h2 := h e List.mem_cons_self
    have h3 := frFold_size r (frStep out e) fun x hx => h x (List.mem_cons_of_mem _ hx)
    simp only [List.foldl_cons, List.length_cons]; omega
def bodyGo (s : ByteArray) : Nat → Int → List Entry → List Entry
  | 0, _, out => out
  | f + 1, a, out => if ((decide (0 ≤ a) && decide (a < (s.size : Int))) && decide ((out.length : Int) ≤ 12)) = true then bodyGo s f (entS s a.toNat).2 (out ++ [(entS s a.toNat).1]) else out
def bodyS (s : ByteArray) : List Entry := bodyGo s 14 0 []
theorem entS_le (s : ByteArray) (a : Nat) : -1 ≤ (entS s a).2 ∧ (entS s a).2 ≤ s.size := by
  unfold entS; split
  · simp only; omega
  rename_i h
  have h1 := numAt_le s (e4 s a).2
  have h2 : e5 s a = aT s (e4 s a).2 := rfl
  simp [entBadAt] at h
  rw [h2] at h ⊢
  simp only
  omega
theorem entS_mx (s : ByteArray) (hs : s.size ≤ 1048576) (a : Nat) : (entS s a).1.key.size ≤ 1048576 ∧ (entS s a).1.text.size ≤ 1048576 := by
  unfold entS; split
  · exact ⟨by decide, by decide⟩
  have h1 := wordS_size s a
  refine ⟨?_, ?_⟩
  · show (e1 s a).1.size ≤ _
    unfold e1; omega
  simp only [ByteArray.size_extract]; omega
theorem bodyGo_mx (s : ByteArray) (hs : s.size ≤ 1048576) : ∀ (f : Nat) (a : Int) (out : List Entry), (∀ e ∈ out, e.key.size ≤ 1048576 ∧ e.text.size ≤ 1048576) → out.length ≤ 13 → (∀ e ∈ bodyGo s f a out, e.key.size ≤ 1048576 ∧ e.text.size ≤ 1048576) ∧ (bodyGo s f a out).length ≤ 13
  | 0, a, out, h, hl => ⟨h, hl⟩
  | f + 1, a, out, h, hl => by
    unfold bodyGo; split
    · rename_i hc
      simp at hc
      refine bodyGo_mx s hs f _ _ (fun e he => ?_) (by simp; omega)
      rcases List.mem_append.1 he with h1 | h1
      · exact h e h1
      rw [List.mem_singleton.1 h1]; exact entS_mx s hs _
    exact ⟨h, hl⟩
theorem bodyS_mx {s : ByteArray} (hs : s.size ≤ 1048576) : sEnts (bodyS s) := by
  have := bodyGo_mx s hs 14 0 [] (by simp) (by simp)
  exact ⟨by have := this.2; show (bodyGo s 14 0 []).length ≤ _; omega, this.1⟩
def frameBadAt (s : ByteArray) (a : Nat) : Bool := (decide ((aT s (a : Int)).2 < 0) || decide ((aT s (a : Int)).1 < 0)) || decide ((s.size : Int) - (aT s (a : Int)).2 - 1 < (aT s (a : Int)).1)
def frBody (s : ByteArray) (a : Nat) : List Entry := bodyS (s.extract (aT s (a : Int)).2.toNat ((aT s (a : Int)).2 + (aT s (a : Int)).1).toNat)
def aR (s : ByteArray) (a : Nat) : List Entry × Int := if frameBadAt s a = true then ([], -1) else
  if (!((fTx (frBody s a)).toList == (s.extract a ((aT s (a : Int)).2 + (aT s (a : Int)).1 + 1).toNat).toList)) = true then ([], -1) else (frBody s a, (aT s (a : Int)).2 + (aT s (a : Int)).1 + 1)
theorem frameS_le (s : ByteArray) (a : Nat) : -1 ≤ (aR s a).2 ∧ (aR s a).2 ≤ s.size := by
  unfold aR; split
  · simp only; omega
  rename_i h
  simp [frameBadAt] at h
  split
  · simp only; omega
  simp only; omega
def readGo (s : ByteArray) : Nat → Nat → List (List Entry) → List (List Entry) × Int
  | 0, a, out => (out, a)
  | f + 1, a, out => if a < s.size then (if (aR s a).2 < 0 then (out, a) else readGo s f (aR s a).2.toNat (out ++ [(aR s a).1])) else (out, a)
def cN (s : ByteArray) : List (List Entry) × Int := readGo s s.size 0 []
theorem unNeg_size (s : ByteArray) : (unNeg s).size ≤ s.size := by
  unfold unNeg; split
  · rw [ByteArray.size_extract]; omega
  exact Nat.le_refl _
theorem numV_bad {s : ByteArray} (h : numBad (unNeg s) (isNeg s) = true) : numV s = (0, false) := by
  have : numS s = none := by unfold numS; rw [if_pos h]
  unfold numV; rw [this]
theorem numV_go {s : ByteArray} (h : numBad (unNeg s) (isNeg s) = false) : numV s = match numGo (unNeg s) (unNeg s).size with
    | some n => (if isNeg s = true then -n else n, true)
    | none => (0, false) := by
  unfold numV numS; rw [h]; simp only [Bool.false_eq_true, if_false]
  cases numGo (unNeg s) (unNeg s).size with
  | none => rfl
  | some n => rfl
theorem numV_eq (s : ByteArray) : (numV s).2 = false → numS s = none := by
  unfold numV; split
  · intro h; cases h
  intro _; assumption
theorem numV_some {s : ByteArray} (h : (numV s).2 = true) : numS s = some (numV s).1 := by
  unfold numV at h ⊢
  split
  · assumption
  rename_i hn; rw [hn] at h; cases h
theorem w_spec_FrameText (ls : List Entry) (hz : bT ls) : aB P 64 [.sl 5 (ls.map enA)] [] 0 (.raw (.string (fTx ls))) := by
 refine pw (N := 55) (vs := [.tmp 2]) ⟨Tryz.func64, rfl, rfl⟩ rfl rfl (by simp) ?_
 simp only [eE]
 have hlen := hz.1
 have hs32 : (#[(32 : UInt8)] : Array UInt8).size = 1 := rfl
 have hs10 : (#[(10 : UInt8)] : Array UInt8).size = 1 := rfl
 refine sr rfl fun _ J => ?_; simp only [go_sem]; apply J; refine sq fun _ k2 => ?_; refine sr rfl fun _ k3 => ?_; simp only [go_sem]
 refine vp rfl rfl rfl ⟨Tryz.func109, rfl, rfl⟩ (w_spec_l6Batch ls hz) (by simp only [go_sem]) (by simp only [go_sem]) ?_
 simp only [go_sem]; apply k3
 refine cd rfl (fun hc1 => ?_) fun hc1 => ?_
 · have hb : isB ls = false := by simpa using hc1
   refine sr rfl fun _ J => ?_; simp only [go_sem]; apply J; refine wR ?_; refine fO ?_ trivial; simp only [go_sem, fTx, hb, Bool.false_eq_true, if_false]
 have hb : isB ls = true := by simpa using hc1
 obtain ⟨hok, hb1, hb2⟩ := cC hb
 refine wk ?_; apply k2; refine sr rfl fun _ J => ?_; simp only [go_sem]; apply J; refine sq fun _ k6 => ?_; refine sr rfl fun _ J => ?_; simp only [go_sem]; apply J; refine wb ?_
 refine wl (α := Nat × ByteArray) (fun x => x.1 ≤ ls.length ∧ x.2.size ≤ 157 * x.1 ∧ (ls.drop x.1).foldl frStep x.2 = bTx ls) (fun x => ls.length - x.1) (fun x => ([(0, .sl 5 (ls.map enA)), (3, .raw (.string x.2)), (4, .raw (.int .i64 (x.1 : Int)))], [])) 0 (0, ⟨#[]⟩) ⟨Nat.zero_le _, Nat.le_refl _, rfl⟩ [] ?_ ?_
 · simp only [go_sem, Int.natCast_zero] <;> simp
 rintro ⟨i, out⟩ ⟨hi, hsz, hfold⟩
 simp only at hi hsz hfold ⊢
 refine sq fun _ k8 => ?_; refine sr rfl fun _ J => ?_; simp only [go_sem]; apply J
 refine cd rfl (fun hc2 => ?_) fun hc2 => ?_
 · have hlt : i < ls.length := (by simpa using hc2); obtain ⟨l, hl, hdrop, hml⟩ := ix hlt
   obtain ⟨r1, r2, r3, r4, r5, r6, r7, r8⟩ := entOk_range (hok l hml)
   have hd0 := dec_size (l.seq)
   have hd1 := dec_size (l.kind)
   have hd2 := dec_size (l.n)
   have hd3 := dec_size ((l.text.size : Int))
   refine wk ?_; apply k8; refine sq fun _ k10 => ?_; refine wb ?_; refine sr rfl fun _ k11 => ?_; simp only [go_sem, hl, enA]
   repeat (first | refine ⟨by omega, ?_⟩ | refine ⟨fun hg => by (try simp at hg); omega, ?_⟩ | refine ⟨fun hg => by push_cast at hg; omega, ?_⟩)
   apply k11
   refine awp_draw mixed rfl ?_
   simp only [go_sem, hl, enA]
   repeat (first | refine ⟨by omega, ?_⟩ | refine ⟨by simp only [ByteArray.size_append, aU, nlB_size]; omega, ?_⟩)
   refine tp rfl rfl rfl ⟨Tryz.func110, rfl, rfl⟩ (w_spec_l9Dec l.seq (by omega) (by omega)) (by simp only [go_sem]) (by simp only [go_sem]) ?_
   simp only [go_sem, hl, enA]
   repeat (first | refine ⟨by omega, ?_⟩ | refine ⟨by simp only [ByteArray.size_append, aU, nlB_size]; omega, ?_⟩)
   refine tp rfl rfl rfl ⟨Tryz.func110, rfl, rfl⟩ (w_spec_l9Dec l.kind (by omega) (by omega)) (by simp only [go_sem]) (by simp only [go_sem]) ?_
   simp only [go_sem, hl, enA]
   repeat (first | refine ⟨by omega, ?_⟩ | refine ⟨by simp only [ByteArray.size_append, aU, nlB_size]; omega, ?_⟩)
   refine tp rfl rfl rfl ⟨Tryz.func110, rfl, rfl⟩ (w_spec_l9Dec l.n (by omega) (by omega)) (by simp only [go_sem]) (by simp only [go_sem]) ?_
   simp only [go_sem, hl, enA]
   repeat (first | refine ⟨by omega, ?_⟩ | refine ⟨by simp only [ByteArray.size_append, aU, nlB_size]; omega, ?_⟩)
   refine tp rfl rfl rfl ⟨Tryz.func110, rfl, rfl⟩ (w_spec_l9Dec (l.text.size : Int) (by omega) (by omega)) (by simp only [go_sem]) (by simp only [go_sem]) ?_
   simp only [go_sem, hl, enA]
   repeat (first | refine ⟨by omega, ?_⟩ | refine ⟨by simp only [ByteArray.size_append, aU, nlB_size]; omega, ?_⟩)
   refine ⟨by rfl, ?_⟩; try simp only [go_sem, lQ]
   apply k10
   have hw : IntKind.i64.wrap ((i : Int) + 1) = ((i + 1 : Nat) : Int) := by rw [IntKind.wrap_i64]; omega
   refine wg rfl ?_; simp only [go_sem, hw]; try simp only [go_sem, lQ]
   refine ⟨(i + 1, frStep out l), ⟨by omega, by have := frStep_size out l; simp only; omega, by rw [hdrop] at hfold; exact hfold⟩, by omega, [], ?_⟩
   simp only [go_sem, frStep] <;> simp
 have hge : ls.length ≤ i := Nat.not_lt.1 (by simpa using hc2)
 have hie : i = ls.length := by omega
 subst hie; refine we ?_; try simp only [go_sem, lQ]
 apply k6; refine sr rfl fun _ k12 => ?_; simp only [go_sem]
 repeat (first | refine ⟨by omega, ?_⟩ | refine ⟨by simp only [ByteArray.size_append, aU, nlB_size]; omega, ?_⟩)
 refine vp rfl rfl rfl ⟨Tryz.func110, rfl, rfl⟩ (w_spec_l9Dec (out.size : Int) (by omega) (by omega)) (by simp only [go_sem]) (by simp only [go_sem]) ?_
 simp only [go_sem]
 have hd9 := dec_size (out.size : Int)
 repeat (first | refine ⟨by omega, ?_⟩ | refine ⟨by simp only [ByteArray.size_append, aU, nlB_size]; omega, ?_⟩)
 apply k12; refine wR ?_; rw [List.drop_length] at hfold
 have h9 : bTx ls = out := hfold.symm
 refine fO ?_ trivial; simp only [go_sem, fTx, hb, if_true, h9]
theorem w_spec_l6Word (s : ByteArray) (a : Nat) (ha : a ≤ s.size) (hs : s.size ≤ 1048576) : aB P 219 [.raw (.string s), .raw (.int .i64 (a : Int))] [] 0 (.tup [.raw (.string (wordS s a).1), .raw (.int .i64 (wordS s a).2)]) := by
 refine pw (N := 24) (vs := [.tmp 4, .tmp 5]) ⟨Tryz.func219, rfl, rfl⟩ rfl rfl (by simp) ?_
 simp only [eE]; refine sr rfl fun _ J => ?_; simp only [go_sem]; apply J; refine sq fun _ k2 => ?_; refine sr rfl fun _ J => ?_; simp only [go_sem]; apply J; refine wb ?_
 refine wl (α := Nat) (fun x => a ≤ x ∧ x ≤ s.size ∧ spGo s (s.size - x) x = spGo s (s.size - a) a) (fun x => s.size - x) (fun x => ([(0, .raw (.string s)), (1, .raw (.int .i64 (a : Int))), (6, .raw (.int .i64 (x : Int)))], [])) 0 a ⟨Nat.le_refl _, ha, rfl⟩ [] ?_ ?_
 · simp only [go_sem] <;> simp
 rintro i ⟨hai, hi, hgo⟩
 refine sq fun _ k4 => ?_; refine sr rfl fun _ J => ?_; simp only [go_sem]; apply J
 refine cd rfl (fun hc1 => ?_) fun hc1 => ?_
 · have hlt : i < s.size := by simpa using hc1
   have hst : spGo s (s.size - i) i = if aF s i = 32 then some i else spGo s (s.size - (i + 1)) (i + 1) := by
     have e9 : s.size - i = (s.size - (i + 1)) + 1 := by omega
     rw [e9]; rfl
   refine wk ?_; apply k4; refine sq fun _ k6 => ?_; refine wb ?_; refine sr rfl fun _ k7 => ?_; simp only [go_sem]
   repeat (first | refine ⟨by omega, ?_⟩ | refine ⟨fun hg => by (try simp at hg); omega, ?_⟩ | refine ⟨fun hg => by push_cast at hg; omega, ?_⟩)
   apply k7
   refine cd rfl (fun hc2 => ?_) fun hc2 => ?_
   · have h32 : aF s i = 32 := by simpa using hc2
     have hyes : spGo s (s.size - a) a = some i := by rw [← hgo, hst, if_pos h32]
     have hw5 : IntKind.i64.wrap ((i : Int) + 1) = (i : Int) + 1 := by rw [IntKind.wrap_i64]; omega
     refine sr rfl fun _ k8 => ?_; simp only [go_sem, hw5, Int.toNat_natCast]
     repeat (first | refine ⟨by omega, ?_⟩ | refine ⟨fun hg => by (try simp at hg); omega, ?_⟩ | refine ⟨fun hg => by push_cast at hg; omega, ?_⟩)
     apply k8; refine wR ?_; simp only [go_sem, lQ]
     have h9 : wordS s a = (s.extract a i, (i : Int) + 1) := by unfold wordS; rw [hyes]
     refine fO ?_ ⟨trivial, trivial, trivial⟩
     simp only [go_sem, h9]
   have h32 : ¬ aF s i = 32 := by simpa using hc2
   refine wk ?_; try simp only [go_sem, lQ]
   apply k6
   have hw : IntKind.i64.wrap ((i : Int) + 1) = ((i + 1 : Nat) : Int) := by rw [IntKind.wrap_i64]; omega
   refine wg rfl ?_; simp only [go_sem, hw]; try simp only [go_sem, lQ]
   refine ⟨i + 1, ⟨by omega, by omega, by rw [← hgo, hst, if_neg h32]⟩, by omega, [], ?_⟩
   simp only [go_sem] <;> simp
 have hge : i = s.size := by have h9 : ¬ i < s.size := (by simpa using hc1); omega
 subst hge; rw [Nat.sub_self] at hgo
 have hno : spGo s (s.size - a) a = none := hgo.symm
 refine we ?_; try simp only [go_sem, lQ]
 apply k2; refine sr rfl fun _ J => ?_; simp only [go_sem]; apply J; refine wR ?_
 have h9 : wordS s a = (⟨#[]⟩, -1) := by unfold wordS; rw [hno]
 refine fO ?_ ⟨trivial, trivial, trivial⟩
 simp only [go_sem, h9]
theorem w_spec_l9Num (s : ByteArray) (hs : s.size ≤ 1048576) : aB P 220 [.raw (.string s)] [] 0 (.tup [.raw (.int .i64 (numV s).1), .raw (.bool (numV s).2)]) := by
 refine pw (N := 67) (vs := [.tmp 2, .tmp 3]) ⟨Tryz.func220, rfl, rfl⟩ rfl rfl (by simp) ?_
 simp only [eE]; refine sr rfl fun _ J => ?_; simp only [go_sem]; apply J; refine sr rfl fun _ k2 => ?_; simp only [go_sem, tn0]
 repeat (first | refine ⟨by omega, ?_⟩ | refine ⟨fun hg => by (try simp at hg); omega, ?_⟩ | refine ⟨fun hg => by push_cast at hg; omega, ?_⟩)
 apply k2; refine sq fun _ k3 => ?_; refine sr rfl fun _ J => ?_; simp only [go_sem]; apply J
 refine cd rfl (fun hc1 => ?_) fun hc1 => ?_
 · have hn : isNeg s = true := hc1
   have hp1 : 1 ≤ s.size := by simp only [Bool.and_eq_true, decide_eq_true_eq] at hc1; omega
   refine wg rfl ?_; simp only [go_sem, tn1, Int.toNat_natCast]
   repeat (first | refine ⟨by omega, ?_⟩ | refine ⟨fun hg => by (try simp at hg); omega, ?_⟩ | refine ⟨fun hg => by push_cast at hg; omega, ?_⟩)
   apply k3; refine sq fun _ k5 => ?_
   obtain ⟨t, ht, ht2⟩ : ∃ t, t = unNeg s ∧ (if isNeg s = true then s.extract 1 s.size else s) = t := ⟨_, rfl, rfl⟩
   have htz : t.size ≤ 1048576 := by have := unNeg_size s; rw [← ht] at this; omega
   rw [hn] at ht2
   simp only [if_true, Bool.false_eq_true, if_false] at ht2
   simp only [hc1]; rw [ht2]; refine sr rfl fun _ k6 => ?_; simp only [go_sem, tn0]
   repeat (first | refine ⟨by omega, ?_⟩ | refine ⟨fun hg => by (try simp at hg); omega, ?_⟩ | refine ⟨fun hg => by push_cast at hg; omega, ?_⟩)
   apply k6
   refine cd rfl (fun hc2 => ?_) fun hc2 => ?_
   · have hz := numV_bad (s := s) (by rw [← ht, hn]; simpa [numBad] using hc2)
     refine sr rfl fun _ J => ?_; simp only [go_sem]; apply J; refine wR ?_
     refine fO ?_ ⟨trivial, trivial, trivial⟩
     simp only [go_sem, hz]
   have hgo := numV_go (s := s) (by rw [← ht, hn]; simpa [numBad] using hc2)
   rw [← ht] at hgo
   have h17 : t.size ≤ 17 := by simp at hc2; omega
   refine wk ?_; apply k5; refine sr rfl fun _ J => ?_; simp only [go_sem]; apply J; refine sq fun _ k9 => ?_; refine sr rfl fun _ J => ?_; simp only [go_sem]; apply J; refine wb ?_
   refine wl (α := Nat × Int) (fun x => x.1 ≤ t.size ∧ numGo t x.1 = some x.2) (fun x => t.size - x.1) (fun x => ([(0, .raw (.string t)), (4, .raw (.bool true)), (5, .raw (.int .i64 x.2)), (6, .raw (.int .i64 (x.1 : Int)))], [])) 0 (0, 0) ⟨Nat.zero_le _, rfl⟩ [] ?_ ?_
   · simp only [go_sem, Int.natCast_zero] <;> simp
   rintro ⟨i, n⟩ ⟨hi, hnum⟩
   simp only at hi hnum ⊢
   refine sq fun _ k11 => ?_; refine sr rfl fun _ J => ?_; simp only [go_sem]; apply J
   refine cd rfl (fun hc3 => ?_) fun hc3 => ?_
   · have hlt : i < t.size := by simpa using hc3
     obtain ⟨hr0, hr1⟩ := numGo_range t i n hnum
     have hr2 : (10 : Int) ^ i ≤ 10 ^ 17 := by have : (10 : Nat) ^ i ≤ 10 ^ 17 := Nat.pow_le_pow_right (by omega) (by omega)
                                               exact_mod_cast this
     have hr3 : (10 : Int) ^ 17 = 100000000000000000 := rfl
     have hbr := byteAt_range t i
     refine wk ?_; apply k11; refine sq fun _ k13 => ?_; refine wb ?_; refine sq fun _ k14 => ?_; refine sr rfl fun _ k15 => ?_; simp only [go_sem]
     repeat (first | refine ⟨by omega, ?_⟩ | refine ⟨fun hg => by (try simp at hg); omega, ?_⟩ | refine ⟨fun hg => by push_cast at hg; omega, ?_⟩)
     apply k15
     refine cd rfl (fun hc4 => ?_) fun hc4 => ?_
     · have hno : numGo t (i + 1) = none := by rw [numGo, hnum]; simp only []; rw [if_pos hc4]
       rw [numGo_no hno t.size (by omega)] at hgo; refine sr rfl fun _ J => ?_; simp only [go_sem]; apply J; refine wR ?_; simp only [go_sem, lQ]
       refine fO ?_ ⟨trivial, trivial, trivial⟩
       simp only [go_sem, hgo]
     have hst : numGo t (i + 1) = some (n * 10 + (aF t i - 48)) := by rw [numGo, hnum]; simp only []; rw [if_neg (by rw [hc4]; simp)]
     have hd48 : 48 ≤ aF t i ∧ aF t i ≤ 57 := by simp at hc4; omega
     have hw1 : IntKind.i64.wrap (n * 10) = n * 10 := by rw [IntKind.wrap_i64]; omega
     have hw2 : IntKind.u8.wrap (aF t i - 48) = aF t i - 48 := by rw [IntKind.wrap_u8]; omega
     have hw3 : IntKind.i64.wrap (aF t i - 48) = aF t i - 48 := by rw [IntKind.wrap_i64]; omega
     have hw4 : IntKind.i64.wrap (n * 10 + (aF t i - 48)) = n * 10 + (aF t i - 48) := by rw [IntKind.wrap_i64]; omega
     refine wk ?_; apply k14; refine wg rfl ?_; simp only [go_sem, hw1, hw2, hw3, hw4]
     repeat (first | refine ⟨by omega, ?_⟩ | refine ⟨fun hg => by (try simp at hg); omega, ?_⟩ | refine ⟨fun hg => by push_cast at hg; omega, ?_⟩)
     try simp only [go_sem, lQ]
     apply k13
     have hw : IntKind.i64.wrap ((i : Int) + 1) = ((i + 1 : Nat) : Int) := by rw [IntKind.wrap_i64]; omega
     refine wg rfl ?_; simp only [go_sem, hw]; try simp only [go_sem, lQ]
     refine ⟨(i + 1, n * 10 + (aF t i - 48)), ⟨by omega, hst⟩, by omega, [], ?_⟩
     simp only [go_sem] <;> simp
   have hie : i = t.size := by have h9 : ¬ i < t.size := (by simpa using hc3); omega
   subst hie
   obtain ⟨hr0, hr1⟩ := numGo_range t t.size n hnum
   have hr2 : (10 : Int) ^ t.size ≤ 10 ^ 17 := by have : (10 : Nat) ^ t.size ≤ 10 ^ 17 := Nat.pow_le_pow_right (by omega) (by omega)
                                                  exact_mod_cast this
   have hr3 : (10 : Int) ^ 17 = 100000000000000000 := rfl
   rw [hnum, hn] at hgo; refine we ?_; try simp only [go_sem, lQ]
   apply k9; refine sq fun _ k17 => ?_; refine sr rfl fun _ J => ?_; simp only [go_sem]; apply J
   refine cd rfl (fun hc5 => ?_) (fun hc => by simp at hc)
   have hw5 : IntKind.i64.wrap (-n) = -n := by rw [IntKind.wrap_i64]; omega
   refine wg rfl ?_; simp only [go_sem, hw5]; apply k17; refine sr rfl fun _ J => ?_; simp only [go_sem]; apply J; refine wR ?_
   refine fO ?_ ⟨trivial, trivial, trivial⟩
   simp only [go_sem, hgo, if_true, Bool.false_eq_true, if_false]
 have hn : isNeg s = false := hc1
 refine wk ?_; apply k3; refine sq fun _ k20 => ?_
 obtain ⟨t, ht, ht2⟩ : ∃ t, t = unNeg s ∧ (if isNeg s = true then s.extract 1 s.size else s) = t := ⟨_, rfl, rfl⟩
 have htz : t.size ≤ 1048576 := by have := unNeg_size s; rw [← ht] at this; omega
 rw [hn] at ht2
 simp only [if_true, Bool.false_eq_true, if_false] at ht2
 simp only [hc1]; rw [ht2]; refine sr rfl fun _ k21 => ?_; simp only [go_sem, tn0]
 repeat (first | refine ⟨by omega, ?_⟩ | refine ⟨fun hg => by (try simp at hg); omega, ?_⟩ | refine ⟨fun hg => by push_cast at hg; omega, ?_⟩)
 apply k21
 refine cd rfl (fun hc6 => ?_) fun hc6 => ?_
 · have hz := numV_bad (s := s) (by rw [← ht, hn]; simpa [numBad] using hc6)
   refine sr rfl fun _ J => ?_; simp only [go_sem]; apply J; refine wR ?_
   refine fO ?_ ⟨trivial, trivial, trivial⟩
   simp only [go_sem, ← ht2, hz]
 have hgo := numV_go (s := s) (by rw [← ht, hn]; simpa [numBad] using hc6)
 rw [← ht] at hgo
 have h17 : t.size ≤ 17 := by simp at hc6; omega
 refine wk ?_; apply k20; refine sr rfl fun _ J => ?_; simp only [go_sem]; apply J; refine sq fun _ k24 => ?_; refine sr rfl fun _ J => ?_; simp only [go_sem]; apply J; refine wb ?_
 refine wl (α := Nat × Int) (fun x => x.1 ≤ t.size ∧ numGo t x.1 = some x.2) (fun x => t.size - x.1) (fun x => ([(0, .raw (.string t)), (4, .raw (.bool false)), (5, .raw (.int .i64 x.2)), (6, .raw (.int .i64 (x.1 : Int)))], [])) 0 (0, 0) ⟨Nat.zero_le _, rfl⟩ [] ?_ ?_
 · simp only [go_sem, Int.natCast_zero] <;> simp
 rintro ⟨i, n⟩ ⟨hi, hnum⟩
 simp only at hi hnum ⊢
 refine sq fun _ k26 => ?_; refine sr rfl fun _ J => ?_; simp only [go_sem]; apply J
 refine cd rfl (fun hc7 => ?_) fun hc7 => ?_
 · have hlt : i < t.size := by simpa using hc7
   obtain ⟨hr0, hr1⟩ := numGo_range t i n hnum
   have hr2 : (10 : Int) ^ i ≤ 10 ^ 17 := by have : (10 : Nat) ^ i ≤ 10 ^ 17 := Nat.pow_le_pow_right (by omega) (by omega)
                                             exact_mod_cast this
   have hr3 : (10 : Int) ^ 17 = 100000000000000000 := rfl
   have hbr := byteAt_range t i
   refine wk ?_; apply k26; refine sq fun _ k28 => ?_; refine wb ?_; refine sq fun _ k29 => ?_; refine sr rfl fun _ k30 => ?_; simp only [go_sem]
   repeat (first | refine ⟨by omega, ?_⟩ | refine ⟨fun hg => by (try simp at hg); omega, ?_⟩ | refine ⟨fun hg => by push_cast at hg; omega, ?_⟩)
   apply k30
   refine cd rfl (fun hc8 => ?_) fun hc8 => ?_
   · have hno : numGo t (i + 1) = none := by rw [numGo, hnum]; simp only []; rw [if_pos hc8]
     rw [numGo_no hno t.size (by omega)] at hgo; refine sr rfl fun _ J => ?_; simp only [go_sem]; apply J; refine wR ?_; simp only [go_sem, lQ]
     refine fO ?_ ⟨trivial, trivial, trivial⟩
     simp only [go_sem, ← ht2, hgo]
   have hst : numGo t (i + 1) = some (n * 10 + (aF t i - 48)) := by rw [numGo, hnum]; simp only []; rw [if_neg (by rw [hc8]; simp)]
   have hd48 : 48 ≤ aF t i ∧ aF t i ≤ 57 := by simp at hc8; omega
   have hw1 : IntKind.i64.wrap (n * 10) = n * 10 := by rw [IntKind.wrap_i64]; omega
   have hw2 : IntKind.u8.wrap (aF t i - 48) = aF t i - 48 := by rw [IntKind.wrap_u8]; omega
   have hw3 : IntKind.i64.wrap (aF t i - 48) = aF t i - 48 := by rw [IntKind.wrap_i64]; omega
   have hw4 : IntKind.i64.wrap (n * 10 + (aF t i - 48)) = n * 10 + (aF t i - 48) := by rw [IntKind.wrap_i64]; omega
   refine wk ?_; apply k29; refine wg rfl ?_; simp only [go_sem, hw1, hw2, hw3, hw4]
   repeat (first | refine ⟨by omega, ?_⟩ | refine ⟨fun hg => by (try simp at hg); omega, ?_⟩ | refine ⟨fun hg => by push_cast at hg; omega, ?_⟩)
   try simp only [go_sem, lQ]
   apply k28
   have hw : IntKind.i64.wrap ((i : Int) + 1) = ((i + 1 : Nat) : Int) := by rw [IntKind.wrap_i64]; omega
   refine wg rfl ?_; simp only [go_sem, hw]; try simp only [go_sem, lQ]
   refine ⟨(i + 1, n * 10 + (aF t i - 48)), ⟨by omega, hst⟩, by omega, [], ?_⟩
   simp only [go_sem] <;> simp
 have hie : i = t.size := by have h9 : ¬ i < t.size := (by simpa using hc7); omega
 subst hie
 obtain ⟨hr0, hr1⟩ := numGo_range t t.size n hnum
 have hr2 : (10 : Int) ^ t.size ≤ 10 ^ 17 := by have : (10 : Nat) ^ t.size ≤ 10 ^ 17 := Nat.pow_le_pow_right (by omega) (by omega)
                                                exact_mod_cast this
 have hr3 : (10 : Int) ^ 17 = 100000000000000000 := rfl
 rw [hnum, hn] at hgo; refine we ?_; try simp only [go_sem, lQ]
 apply k24; refine sq fun _ k32 => ?_; refine sr rfl fun _ J => ?_; simp only [go_sem]; apply J
 refine cd rfl (fun hc => by simp at hc) fun hc9 => ?_
 refine wk ?_; apply k32; refine sr rfl fun _ J => ?_; simp only [go_sem]; apply J; refine wR ?_
 refine fO ?_ ⟨trivial, trivial, trivial⟩
 simp only [go_sem, ← ht2, hgo, if_true, Bool.false_eq_true, if_false]
theorem w_spec_l6Num (s : ByteArray) (a : Int) (h0 : -1 ≤ a) (ha : a ≤ s.size) (hs : s.size ≤ 1048576) : aB P 197 [.raw (.string s), .raw (.int .i64 a)] [] 0 (.tup [.raw (.int .i64 (aT s a).1), .raw (.int .i64 (aT s a).2)]) := by
 refine pw (N := 27) (vs := [.tmp 4, .tmp 5]) ⟨Tryz.func197, rfl, rfl⟩ rfl rfl (by simp) ?_
 simp only [eE]; refine sr rfl fun _ J => ?_; simp only [go_sem]; apply J; refine sq fun _ k2 => ?_; refine sr rfl fun _ J => ?_; simp only [go_sem]; apply J
 refine cd rfl (fun hc1 => ?_) fun hc1 => ?_
 · have hn : a < 0 := by simpa using hc1
   have h9 : aT s a = (0, -1) := by unfold aT; rw [if_pos hn]
   refine sr rfl fun _ J => ?_; simp only [go_sem]; apply J; refine wR ?_
   refine fO ?_ ⟨trivial, trivial, trivial⟩
   simp only [go_sem, h9]
 have hn : ¬ a < 0 := by simpa using hc1
 have hto : ((a.toNat : Nat) : Int) = a := by omega
 refine wk ?_; apply k2; refine sr rfl fun _ k5 => ?_; simp only [go_sem]
 refine vp rfl rfl rfl ⟨Tryz.func219, rfl, rfl⟩ (w_spec_l6Word s a.toNat (by omega) hs) (by simp only [go_sem, hto]) (by simp only [go_sem]) ?_
 simp only [go_sem]; apply k5; refine sr rfl fun _ k6 => ?_; simp only [go_sem]
 refine vp rfl rfl rfl ⟨Tryz.func220, rfl, rfl⟩ (w_spec_l9Num (wordS s a.toNat).1 (by have := wordS_size s a.toNat; omega)) (by simp only [go_sem]) (by simp only [go_sem]) ?_
 simp only [go_sem]; apply k6; refine sq fun _ k7 => ?_; refine sr rfl fun _ J => ?_; simp only [go_sem]; apply J
 refine cd rfl (fun hc2 => ?_) fun hc2 => ?_
 · have hv := numV_eq (wordS s a.toNat).1 (by simpa using hc2)
   have h9 : aT s a = (0, -1) := by unfold aT; rw [if_neg hn, hv]
   refine sr rfl fun _ J => ?_; simp only [go_sem]; apply J; refine wR ?_
   refine fO ?_ ⟨trivial, trivial, trivial⟩
   simp only [go_sem, h9]
 have hv := numV_some (s := (wordS s a.toNat).1) (by simpa using hc2)
 have h9 : aT s a = ((numV (wordS s a.toNat).1).1, (wordS s a.toNat).2) := by unfold aT; rw [if_neg hn, hv]
 refine wk ?_; apply k7; refine sr rfl fun _ J => ?_; simp only [go_sem]; apply J; refine wR ?_
 refine fO ?_ ⟨trivial, trivial, trivial⟩
 simp only [go_sem, h9]
theorem numAt_gt (s : ByteArray) (a : Nat) (h : 0 ≤ (aT s (a : Int)).2) : (a : Int) < (aT s (a : Int)).2 := by
  unfold aT at h ⊢
  have ha : ¬ (a : Int) < 0 := by omega
  rw [if_neg ha] at h ⊢
  rw [Int.toNat_natCast] at h ⊢
  split
  · rename_i n hn
    rw [hn] at h
    simp only at h ⊢
    unfold wordS at h ⊢
    split
    · rename_i i hi
      have := spGo_lt s _ _ _ hi
      simp only
      omega
    rename_i hi
    rw [hi] at h; simp at h
  rename_i hn
  rw [hn] at h; simp at h
theorem frameS_gt (s : ByteArray) (a : Nat) (h : 0 ≤ (aR s a).2) : (a : Int) < (aR s a).2 := by
  unfold aR at h ⊢
  split
  · rename_i hb; rw [if_pos hb] at h; simp at h
  rename_i hb
  rw [if_neg hb] at h; split
  · rename_i hc; rw [if_pos hc] at h; simp at h
  simp [frameBadAt] at hb
  have := numAt_gt s a (by omega)
  simp only
  omega
theorem sEnts_mx {ls : List Entry} (h : sEnts ls) : bT ls := ⟨by have := h.1; omega, fun e he => ⟨by have := (h.2 e he).1; omega, by have := (h.2 e he).2; omega⟩⟩
def memStep (seq : Int) (st : List Entry × Int) (e : Entry) : List Entry × Int := if seq < e.seq then (dH st.1 e, max st.2 e.seq) else st
def memRow (seq : Int) (st : List Entry × Int) (b : List Entry) : List Entry × Int := b.foldl (memStep seq) st
def memS (bs : List (List Entry)) (seq : Int) : List Entry × Int := bs.foldl (memRow seq) ([], seq)
theorem putEnt_len (ls : List Entry) (e : Entry) : (dH ls e).length = ls.length + 1 := by
  have := posGo_le ls e ls.length
  unfold dH putPos; simp only [List.length_append, List.length_take, List.length_cons, List.length_drop]; omega
def lastEnt (b : List Entry) : Entry := (b[b.length - 1]?).getD zEntV
def bM (seq : Int) (out : ByteArray) (b : List Entry) : ByteArray := if seq < (lastEnt b).seq then out ++ fTx b else out
def leftS (bs : List (List Entry)) (seq : Int) : ByteArray := bs.foldl (bM seq) ⟨#[]⟩
theorem frameTxt_size (b : List Entry) : (fTx b).size ≤ 2000 := by
  unfold fTx; split
  · rename_i hb
    obtain ⟨hok, h1, h2⟩ := cC hb
    have h3 := frFold_size b ⟨#[]⟩ fun e he => by
      have := entOk_range (hok e he)
      omega
    have h4 := dec_size ((bTx b).size : Int)
    have h5 : (⟨#[]⟩ : ByteArray).size = 0 := rfl
    have h6 : (bTx b).size ≤ (⟨#[]⟩ : ByteArray).size + 157 * b.length := h3
    simp only [ByteArray.size_append, aU, nlB_size]; omega
  exact Nat.zero_le _
theorem w_spec_l6Entry (s : ByteArray) (a : Nat) (ha : a ≤ s.size) (hs : s.size ≤ 1048576) : aB P 221 [.raw (.string s), .raw (.int .i64 (a : Int))] [] 0 (.tup [enA (entS s a).1, .raw (.int .i64 (entS s a).2)]) := by
 refine pw (N := 69) (vs := [.cell 4 65, .tmp 5]) ⟨Tryz.func221, rfl, rfl⟩ rfl rfl (by simp) ?_
 simp only [eE]; refine sr rfl fun _ J => ?_; simp only [go_sem]; apply J; refine sr rfl fun _ k2 => ?_; simp only [go_sem]; apply k2; refine sr rfl fun _ J => ?_; simp only [go_sem]; apply J; refine sr rfl fun _ k4 => ?_; simp only [go_sem]
 refine vp rfl rfl rfl ⟨Tryz.func219, rfl, rfl⟩ (w_spec_l6Word s a ha hs) (by simp only [go_sem]) (by simp only [go_sem]) ?_
 simp only [go_sem]
 have b1 := wordS_le s a
 generalize hq1 : wordS s a = q1 at b1 ⊢
 apply k4; refine sr rfl fun _ k5 => ?_; simp only [go_sem]
 refine vp rfl rfl rfl ⟨Tryz.func197, rfl, rfl⟩ (w_spec_l6Num s q1.2 b1.1 b1.2 hs) (by simp only [go_sem]) (by simp only [go_sem]) ?_
 simp only [go_sem]
 have b2 := numAt_le s q1.2
 have c2 := numAt_range s q1.2
 generalize hq2 : aT s q1.2 = q2 at b2 c2 ⊢
 apply k5; refine sr rfl fun _ k6 => ?_; simp only [go_sem]
 refine vp rfl rfl rfl ⟨Tryz.func197, rfl, rfl⟩ (w_spec_l6Num s q2.2 b2.1 b2.2 hs) (by simp only [go_sem]) (by simp only [go_sem]) ?_
 simp only [go_sem]
 have b3 := numAt_le s q2.2
 have c3 := numAt_range s q2.2
 generalize hq3 : aT s q2.2 = q3 at b3 c3 ⊢
 apply k6; refine sr rfl fun _ k7 => ?_; simp only [go_sem]
 refine vp rfl rfl rfl ⟨Tryz.func197, rfl, rfl⟩ (w_spec_l6Num s q3.2 b3.1 b3.2 hs) (by simp only [go_sem]) (by simp only [go_sem]) ?_
 simp only [go_sem]
 have b4 := numAt_le s q3.2
 have c4 := numAt_range s q3.2
 generalize hq4 : aT s q3.2 = q4 at b4 c4 ⊢
 apply k7; refine sr rfl fun _ k8 => ?_; simp only [go_sem]
 refine vp rfl rfl rfl ⟨Tryz.func197, rfl, rfl⟩ (w_spec_l6Num s q4.2 b4.1 b4.2 hs) (by simp only [go_sem]) (by simp only [go_sem]) ?_
 simp only [go_sem]
 have b5 := numAt_le s q4.2
 have c5 := numAt_range s q4.2
 generalize hq5 : aT s q4.2 = q5 at b5 c5 ⊢
 apply k8; refine sq fun _ k9 => ?_
 have hw1 : IntKind.i64.wrap ((s.size : Int) - q5.2) = (s.size : Int) - q5.2 := by rw [IntKind.wrap_i64]; omega
 refine sr rfl fun _ J => ?_; simp only [go_sem, hw1]; apply J
 refine cd rfl (fun hc1 => ?_) fun hc1 => ?_
 · have h9 : entS s a = (zEntry, -1) := by subst hq5; subst hq4; subst hq3; subst hq2; subst hq1; unfold entS; exact if_pos hc1
   refine sr rfl fun _ J => ?_; simp only [go_sem]; apply J; refine wR ?_
   refine fO ?_ ⟨entAV_b _ _, trivial, trivial⟩
   simp only [go_sem, h9, enA, zEntry]
 simp only [Bool.or_eq_false_iff, decide_eq_false_iff_not] at hc1
 have hw2 : IntKind.i64.wrap (q5.2 + q5.1) = q5.2 + q5.1 := by rw [IntKind.wrap_i64]; omega
 have h9 : entS s a = (⟨q1.1, q2.1, q3.1, s.extract q5.2.toNat (q5.2 + q5.1).toNat, q4.1⟩, q5.2 + q5.1) := by
   subst hq5; subst hq4; subst hq3; subst hq2; subst hq1; unfold entS
   exact if_neg (by unfold entBadAt e5 e4 e3 e2 e1; simp only [Bool.or_eq_true, decide_eq_true_eq]; omega)
 refine wk ?_; apply k9; refine sr rfl fun _ k12 => ?_; simp only [go_sem, hw2]
 repeat (first | refine ⟨by first | omega | (intro hg; simp at hg; omega), ?_⟩ | fail)
 apply k12; refine sr rfl fun _ J => ?_; simp only [go_sem, hw2]; apply J; refine wR ?_
 refine fO ?_ ⟨entAV_b _ _, trivial, trivial⟩
 simp only [go_sem, h9, enA]
theorem w_spec_l6Body_o (s : ByteArray) (hs : s.size ≤ 1048576) : aD P 198 [.raw (.string s)] [] 0 (.ref 0) [(0, .row 65 5 ((bodyS s).map enA))] 1 := by
 refine gw (N := 32) (vs := [.tmp 2]) ⟨Tryz.func198, rfl, rfl⟩ rfl rfl (by simp) ?_
 simp only [eE]
 have hmx : maxLen = 9223372036854775807 := rfl
 refine sr rfl fun _ J => ?_; simp only [go_sem]; apply J; refine sr rfl fun _ k2 => ?_; simp only [go_sem]
 repeat (first | refine ⟨by first | omega | (intro hg; simp at hg; omega), ?_⟩ | fail)
 apply k2; refine sr rfl fun _ J => ?_; simp only [go_sem]; apply J; refine sq fun _ k4 => ?_; refine wb ?_
 refine wl (α := Nat × Int × List Entry) (fun x => x.2.2.length + x.1 = 14 ∧ -1 ≤ x.2.1 ∧ x.2.1 ≤ s.size ∧ bodyGo s x.1 x.2.1 x.2.2 = bodyS s) (fun x => x.1) (fun x => ([(0, .raw (.string s)), (3, .ref 0), (4, .raw (.int .i64 x.2.1))], [(0, .row 65 5 (x.2.2.map enA))])) 1 (14, 0, []) ⟨rfl, by simp only; omega, by simp only; omega, rfl⟩ [] ?_ ?_
 · simp only [go_sem, AObj.bel, List.map_nil] <;> simp
 rintro ⟨f, a, out⟩ ⟨hlf, ha0, ha1, hgo⟩
 simp only at hlf ha0 ha1 hgo ⊢
 refine sq fun _ k5 => ?_; refine sr rfl fun _ J => ?_; simp only [go_sem]; apply J
 refine cd rfl (fun hc1 => ?_) fun hc1 => ?_
 · obtain ⟨g, rfl⟩ : ∃ g, f = g + 1 := ⟨f - 1, by simp only [Bool.and_eq_true, decide_eq_true_eq] at hc1; omega⟩
   have hto : ((a.toNat : Nat) : Int) = a := by simp only [Bool.and_eq_true, decide_eq_true_eq] at hc1; omega
   have hlt : a < s.size := by simp only [Bool.and_eq_true, decide_eq_true_eq] at hc1; omega
   refine wk ?_; apply k5; refine wb ?_; refine sr rfl fun _ J => ?_; simp only [go_sem]; apply J; refine sr rfl fun _ k8 => ?_; simp only [go_sem]
   refine vp rfl rfl rfl ⟨Tryz.func221, rfl, rfl⟩ (w_spec_l6Entry s a.toNat (by omega) hs) (by simp only [go_sem, hto]) (by simp only [go_sem, enA]) ?_
   simp only [go_sem, enA]
   have b1 := entS_le s a.toNat
   have hst : bodyGo s (g + 1) a out = bodyGo s g (entS s a.toNat).2 (out ++ [(entS s a.toNat).1]) := by rw [bodyGo, if_pos hc1]
   rw [hst] at hgo
   generalize hq1 : entS s a.toNat = q1 at b1 hgo ⊢
   apply k8; refine wg rfl ?_; simp only [go_sem, List.length_take, List.length_append, List.nil_append, List.length_map, List.length_drop, enA]
   repeat (first | refine ⟨by first | omega | (intro hg; simp at hg; omega), ?_⟩ | fail)
   try simp only [go_sem, lQ]
   try simp only [go_sem, lQ]
   refine ⟨(g, q1.2, out ++ [q1.1]), ⟨by simp; omega, b1.1, b1.2, hgo⟩, by simp only; omega, [(0, 3)], ?_⟩
   simp only [go_sem, AObj.bel, AObj.ren, AV.ren, aA, sg, enA] <;> simp [enA]
 have hend : bodyGo s f a out = out := by cases f with | zero => rfl | succ g => rw [bodyGo, hc1, if_neg (by simp)]
 rw [hend] at hgo; refine we ?_; try simp only [go_sem, lQ]
 apply k4; refine sr rfl fun _ J => ?_; simp only [go_sem]; apply J; refine wR ?_; rw [← hgo]
 refine ⟨[(0, 0)], ?_⟩
 simp only [go_sem, AObj.bel, AObj.ren, AV.ren, aA, sg] <;> simp
theorem w_spec_l6Frame (s : ByteArray) (a : Nat) (ha : a ≤ s.size) (hs : s.size ≤ 1048576) : aB P 156 [.raw (.string s), .raw (.int .i64 (a : Int))] [] 0 (.tup [.sl 5 ((aR s a).1.map enA), .raw (.int .i64 (aR s a).2)]) := by
 refine pw (N := 54) (vs := [.tmp 4, .tmp 5]) ⟨Tryz.func156, rfl, rfl⟩ rfl rfl (by simp) ?_
 simp only [eE]
 have hmx : maxLen = 9223372036854775807 := rfl
 refine sr rfl fun _ J => ?_; simp only [go_sem]; apply J; refine sr rfl fun _ k2 => ?_; simp only [go_sem]
 refine vp rfl rfl rfl ⟨Tryz.func197, rfl, rfl⟩ (w_spec_l6Num s (a : Int) (by omega) (by omega) hs) (by simp only [go_sem]) (by simp only [go_sem]) ?_
 simp only [go_sem]
 have b1 := numAt_le s (a : Int)
 have c1 := numAt_range s (a : Int)
 have g1 := numAt_gt s a
 generalize hq1 : aT s (a : Int) = q1 at b1 c1 g1 ⊢
 apply k2; refine sq fun _ k3 => ?_
 have hw1 : IntKind.i64.wrap ((s.size : Int) - q1.2) = (s.size : Int) - q1.2 := by rw [IntKind.wrap_i64]; omega
 have hw2 : IntKind.i64.wrap ((s.size : Int) - q1.2 - 1) = (s.size : Int) - q1.2 - 1 := by rw [IntKind.wrap_i64]; omega
 refine sr rfl fun _ J => ?_; simp only [go_sem, hw1, hw2]; apply J
 refine cd rfl (fun hc1 => ?_) fun hc1 => ?_
 · have h9 : aR s a = ([], -1) := by subst hq1; unfold aR; exact if_pos hc1
   refine sr rfl fun _ k5 => ?_; simp only [go_sem]
   repeat (first | refine ⟨by first | omega | (intro hg; simp at hg; omega), ?_⟩ | fail)
   apply k5
   refine aFz 0 rfl ?_
   simp only [go_sem, fzL, AV.fz]; refine wR ?_
   refine fO ?_ ⟨enB _ _, trivial, trivial⟩
   simp only [go_sem, h9, List.map_nil]
 have hb : frameBadAt s a = false := by subst hq1; exact hc1
 simp only [Bool.or_eq_false_iff, decide_eq_false_iff_not] at hc1
 have g2 := g1 (by omega)
 have hw3 : IntKind.i64.wrap (q1.2 + q1.1) = q1.2 + q1.1 := by rw [IntKind.wrap_i64]; omega
 have hw4 : IntKind.i64.wrap (q1.2 + q1.1 + 1) = q1.2 + q1.1 + 1 := by rw [IntKind.wrap_i64]; omega
 have hf : aR s a = if (!((fTx (frBody s a)).toList == (s.extract a (q1.2 + q1.1 + 1).toNat).toList)) = true then ([], -1) else (frBody s a, q1.2 + q1.1 + 1) := by
   unfold aR; rw [hb, hq1]; simp only [Bool.false_eq_true, if_false]
 refine wk ?_; apply k3; refine sr rfl fun _ k6 => ?_; simp only [go_sem, hw3]
 repeat (first | refine ⟨by first | omega | (intro hg; simp at hg; omega), ?_⟩ | fail)
 refine vp rfl rfl rfl ⟨Tryz.func198, rfl, rfl⟩ ((cQ (w_spec_l6Body_o (s.extract q1.2.toNat (q1.2 + q1.1).toNat) (by rw [ByteArray.size_extract]; omega)) (by simp only [go_sem]) (by simp only [go_sem]) : aB P 198 [.raw (.string (s.extract q1.2.toNat (q1.2 + q1.1).toNat))] [] 0 (.sl 5 ((bodyS (s.extract q1.2.toNat (q1.2 + q1.1).toNat)).map enA)))) (by simp only [go_sem]) (by simp only [go_sem]) ?_
 simp only [go_sem]
 have hsm := bodyS_mx (s := s.extract q1.2.toNat (q1.2 + q1.1).toNat) (by rw [ByteArray.size_extract]; omega)
 have hfb : frBody s a = bodyS (s.extract q1.2.toNat (q1.2 + q1.1).toNat) := by unfold frBody; rw [hq1]
 rw [← hfb] at hsm ⊢
 apply k6; refine sq fun _ k7 => ?_; refine sd mixed rfl fun _ k8 => ?_; simp only [go_sem, hw3, hw4]
 repeat (first | refine ⟨by first | omega | (intro hg; simp at hg; omega), ?_⟩ | fail)
 refine tp rfl rfl rfl ⟨Tryz.func64, rfl, rfl⟩ (w_spec_FrameText (frBody s a) (sEnts_mx hsm)) (by simp only [go_sem]) (by simp only [go_sem]) ?_
 simp only [go_sem, hw3, hw4]
 repeat (first | refine ⟨by first | omega | (intro hg; simp at hg; omega), ?_⟩ | fail)
 refine ⟨by rfl, ?_⟩; apply k8
 refine cd rfl (fun hc2 => ?_) fun hc2 => ?_
 · have h9 : aR s a = ([], -1) := by rw [hf, if_pos (by simpa using hc2)]
   refine sr rfl fun _ k9 => ?_; simp only [go_sem]
   repeat (first | refine ⟨by first | omega | (intro hg; simp at hg; omega), ?_⟩ | fail)
   apply k9
   refine aFz 0 rfl ?_
   simp only [go_sem, fzL, AV.fz]; refine wR ?_
   refine fO ?_ ⟨enB _ _, trivial, trivial⟩
   simp only [go_sem, h9, List.map_nil]
 have h9 : aR s a = (frBody s a, q1.2 + q1.1 + 1) := by rw [hf, hc2]; simp
 refine wk ?_; apply k7; refine sr rfl fun _ J => ?_; simp only [go_sem, hw3, hw4]; apply J; refine wR ?_
 refine fO ?_ ⟨enB _ _, trivial, trivial⟩
 simp only [go_sem, h9]
theorem w_spec_FrameRead_o (s : ByteArray) (hs : s.size ≤ 1048576) : aD P 102 [.raw (.string s)] [] 0 (.tup [.ref 0, .raw (.int .i64 (cN s).2)]) [(0, .row 33 1 ((cN s).1.map esA))] 1 := by
 refine gw (N := 30) (vs := [.tmp 2, .tmp 3]) ⟨Tryz.func102, rfl, rfl⟩ rfl rfl (by simp) ?_
 simp only [eE]
 have hmx : maxLen = 9223372036854775807 := rfl
 refine sr rfl fun _ J => ?_; simp only [go_sem]; apply J; refine sr rfl fun _ k2 => ?_; simp only [go_sem]
 repeat (first | refine ⟨by first | omega | (intro hg; simp at hg; omega), ?_⟩ | fail)
 apply k2; refine sr rfl fun _ J => ?_; simp only [go_sem]; apply J; refine sq fun _ k4 => ?_; refine wb ?_
 refine wl (α := Nat × Nat × List (List Entry)) (fun x => x.2.1 ≤ s.size ∧ s.size ≤ x.1 + x.2.1 ∧ x.2.2.length ≤ x.2.1 ∧ readGo s x.1 x.2.1 x.2.2 = cN s) (fun x => x.1) (fun x => ([(0, .raw (.string s)), (4, .ref 0), (5, .raw (.int .i64 (x.2.1 : Int)))], [(0, .row 33 1 (x.2.2.map esA))])) 1 (s.size, 0, []) ⟨Nat.zero_le _, by simp, by simp, rfl⟩ [] ?_ ?_
 · simp only [go_sem, AObj.bel, List.map_nil, Int.natCast_zero] <;> simp
 rintro ⟨f, a, out⟩ ⟨ha, hf, hol, hgo⟩
 simp only at ha hf hol hgo ⊢
 refine sq fun _ k5 => ?_; refine sr rfl fun _ J => ?_; simp only [go_sem]; apply J
 refine cd rfl (fun hc1 => ?_) fun hc1 => ?_
 · have hlt : a < s.size := by simpa using hc1
   obtain ⟨g, rfl⟩ : ∃ g, f = g + 1 := ⟨f - 1, by omega⟩
   refine wk ?_; apply k5; refine wb ?_; refine sr rfl fun _ k7 => ?_; simp only [go_sem]
   refine vp rfl rfl rfl ⟨Tryz.func156, rfl, rfl⟩ (w_spec_l6Frame s a ha hs) (by simp only [go_sem]) (by simp only [go_sem]) ?_
   simp only [go_sem]
   have b1 := frameS_le s a
   have b2 := frameS_gt s a
   have hst : readGo s (g + 1) a out = if (aR s a).2 < 0 then (out, (a : Int)) else readGo s g (aR s a).2.toNat (out ++ [(aR s a).1]) := by rw [readGo, if_pos hlt]
   rw [hst] at hgo
   generalize hq1 : aR s a = q1 at b1 b2 hgo ⊢
   apply k7; refine sq fun _ k8 => ?_; refine sr rfl fun _ J => ?_; simp only [go_sem]; apply J
   refine cd rfl (fun hc2 => ?_) fun hc2 => ?_
   · have hn : q1.2 < 0 := by simpa using hc2
     rw [if_pos hn] at hgo; refine sr rfl fun _ J => ?_; simp only [go_sem]; apply J; refine wR ?_; simp only [go_sem, lQ]; rw [← hgo]; refine ⟨[], ?_⟩
     simp only [go_sem, AObj.bel, AObj.ren, AV.ren, aA, sg] <;> simp
   have hn : ¬ q1.2 < 0 := by simpa using hc2
   rw [if_neg hn] at hgo
   have b3 := b2 (by omega)
   have hto : ((q1.2.toNat : Nat) : Int) = q1.2 := by omega
   rw [← hto]; refine wk ?_; apply k8; refine sr rfl fun _ k11 => ?_; simp only [go_sem, List.length_take, List.length_append, List.nil_append, List.length_map, List.length_drop]
   repeat (first | refine ⟨by first | omega | (intro hg; simp at hg; omega), ?_⟩ | fail)
   apply k11; refine wg rfl ?_; simp only [go_sem]; try simp only [go_sem, lQ]
   try simp only [go_sem, lQ]
   refine ⟨(g, q1.2.toNat, out ++ [q1.1]), ⟨by simp only; omega, by simp only; omega, by simp; omega, hgo⟩, by simp only; omega, [(0, 2)], ?_⟩
   simp only [go_sem, AObj.bel, AObj.ren, AV.ren, aA, sg] <;> simp [esA]
 have hge : ¬ a < s.size := by simpa using hc1
 have hend : readGo s f a out = (out, (a : Int)) := by cases f with | zero => rfl | succ g => rw [readGo, if_neg hge]
 rw [hend] at hgo; refine we ?_; try simp only [go_sem, lQ]
 apply k4; refine sr rfl fun _ J => ?_; simp only [go_sem]; apply J; refine wR ?_; rw [← hgo]; refine ⟨[], ?_⟩
 simp only [go_sem, AObj.bel, AObj.ren, AV.ren, aA, sg] <;> simp
theorem w_spec_l6Mem (bs : List (List Entry)) (seq : Int) (hb : bs.length ≤ 1048576) (hs : ∀ b ∈ bs, b.length ≤ 1048576) : aB P 103 [.sl 1 (bs.map esA), .raw (.int .i64 seq)] [] 0 (.tup [.sl 5 ((memS bs seq).1.map enA), .raw (.int .i64 (memS bs seq).2)]) := by
 refine pw (N := 58) (vs := [.tmp 4, .tmp 5]) ⟨Tryz.func103, rfl, rfl⟩ rfl rfl (by simp) ?_
 simp only [eE]
 have hmx : maxLen = 9223372036854775807 := rfl
 refine sr rfl fun _ J => ?_; simp only [go_sem]; apply J; refine sr rfl fun _ k2 => ?_; simp only [go_sem]
 repeat (first | refine ⟨by first | omega | (intro hg; simp at hg; omega), ?_⟩ | fail)
 apply k2
 refine aFz 0 rfl ?_
 simp only [go_sem, fzL, AV.fz]; refine sr rfl fun _ J => ?_; simp only [go_sem]; apply J; refine sq fun _ k4 => ?_; refine sr rfl fun _ J => ?_; simp only [go_sem]; apply J; refine wb ?_
 refine wl (α := Nat × List Entry × Int) (fun x => x.1 ≤ bs.length ∧ x.2.1.length ≤ 1048576 * x.1 ∧ (bs.drop x.1).foldl (memRow seq) x.2 = memS bs seq) (fun x => bs.length - x.1) (fun x => ([(0, .sl 1 (bs.map esA)), (1, .raw (.int .i64 seq)), (6, .sl 5 (x.2.1.map enA)), (7, .raw (.int .i64 x.2.2)), (8, .raw (.int .i64 (x.1 : Int)))], [])) 0 (0, [], seq) ⟨Nat.zero_le _, by simp, by simp [memS]⟩ [] ?_ ?_
 · simp only [go_sem, List.map_nil, Int.natCast_zero] <;> simp
 rintro ⟨i, st⟩ ⟨hi, hol, hfold⟩
 simp only at hi hol hfold ⊢
 refine sq fun _ k6 => ?_; refine sr rfl fun _ J => ?_; simp only [go_sem]; apply J
 refine cd rfl (fun hc1 => ?_) fun hc1 => ?_
 · have hlt : i < bs.length := (by simpa using hc1); obtain ⟨l, hl, hdrop, hml⟩ := ix hlt
   have hll := hs l hml
   refine wk ?_; apply k6; refine sq fun _ k8 => ?_; refine wb ?_; refine sr rfl fun _ J => ?_; simp only [go_sem]; apply J; refine wb ?_
   refine wl (α := Nat × List Entry × Int) (fun x => x.1 ≤ l.length ∧ x.2.1.length ≤ 1048576 * i + x.1 ∧ (l.drop x.1).foldl (memStep seq) x.2 = memRow seq st l) (fun x => l.length - x.1) (fun x => ([(0, .sl 1 (bs.map esA)), (1, .raw (.int .i64 seq)), (6, .sl 5 (x.2.1.map enA)), (7, .raw (.int .i64 x.2.2)), (8, .raw (.int .i64 (i : Int))), (9, .raw (.int .i64 (x.1 : Int)))], [])) 0 (0, st) ⟨Nat.zero_le _, by simpa using hol, by simp [memRow]⟩ [] ?_ ?_
   · simp only [go_sem, Int.natCast_zero] <;> simp
   rintro ⟨k, out, last⟩ ⟨hk, hol2, hfold2⟩
   simp only at hk hol2 hfold2 ⊢
   refine sq fun _ k10 => ?_; refine sr rfl fun _ k11 => ?_; simp only [go_sem, hl, esA]
   repeat (first | refine ⟨by first | omega | (intro hg; simp at hg; omega), ?_⟩ | fail)
   apply k11
   refine cd rfl (fun hc2 => ?_) fun hc2 => ?_
   · have hltk : k < l.length := by simpa using hc2
     obtain ⟨e, he, hdrop2, hme⟩ := ix hltk
     refine wk ?_; apply k10; refine sq fun _ k12 => ?_; refine wb ?_; refine sr rfl fun _ k13 => ?_; simp only [go_sem, hl, he, esA, enA]
     repeat (first | refine ⟨by first | omega | (intro hg; simp at hg; omega), ?_⟩ | fail)
     apply k13
     refine cd rfl (fun hc3 => ?_) fun hc3 => ?_
     · have hgt : seq < e.seq := by simpa using hc3
       have hms : memStep seq (out, last) e = (dH out e, max last e.seq) := if_pos hgt
       have hln : (memStep seq (out, last) e).1.length ≤ 1048576 * i + (k + 1) := by rw [hms]; have := putEnt_len out e; simp only; omega
       refine sr rfl fun _ k14 => ?_; simp only [go_sem, hl, he, esA, enA]
       repeat (first | refine ⟨by first | omega | (intro hg; simp at hg; omega), ?_⟩ | fail)
       refine vp rfl rfl rfl ⟨Tryz.func108, rfl, rfl⟩ (w_spec_l4Put out e (by omega)) (by simp only [go_sem, enA]) (by simp only [go_sem, enA]) ?_
       simp only [go_sem]
       repeat (first | refine ⟨by first | omega | (intro hg; simp at hg; omega), ?_⟩ | fail)
       apply k14; refine wg rfl ?_; simp only [go_sem, hl, he, esA, enA]
       repeat (first | refine ⟨by first | omega | (intro hg; simp at hg; omega), ?_⟩ | fail)
       refine vp rfl rfl rfl ⟨Tryz.func82, rfl, rfl⟩ (w_spec_l1Max last e.seq) (by simp only [go_sem]) (by simp only [go_sem]) ?_
       simp only [go_sem]
       repeat (first | refine ⟨by first | omega | (intro hg; simp at hg; omega), ?_⟩ | fail)
       try simp only [go_sem, lQ]
       apply k12
       have hwk : IntKind.i64.wrap ((k : Int) + 1) = ((k + 1 : Nat) : Int) := by rw [IntKind.wrap_i64]; omega
       refine wg rfl ?_; simp only [go_sem, hwk]; try simp only [go_sem, lQ]
       refine ⟨(k + 1, memStep seq (out, last) e), ⟨by omega, hln, by rw [hdrop2] at hfold2; exact hfold2⟩, by omega, [], ?_⟩
       simp only [go_sem, hms] <;> simp
     have hgt : ¬ seq < e.seq := by simpa using hc3
     have hms : memStep seq (out, last) e = (out, last) := if_neg hgt
     have hln : (memStep seq (out, last) e).1.length ≤ 1048576 * i + (k + 1) := by rw [hms]; simp only; omega
     refine wk ?_; try simp only [go_sem, lQ]
     apply k12
     have hwk : IntKind.i64.wrap ((k : Int) + 1) = ((k + 1 : Nat) : Int) := by rw [IntKind.wrap_i64]; omega
     refine wg rfl ?_; simp only [go_sem, hwk]; try simp only [go_sem, lQ]
     refine ⟨(k + 1, memStep seq (out, last) e), ⟨by omega, hln, by rw [hdrop2] at hfold2; exact hfold2⟩, by omega, [], ?_⟩
     simp only [go_sem, hms] <;> simp
   have hgek : l.length ≤ k := by have h9 : ¬ k < l.length := (by simpa using hc2); omega
   rw [List.drop_eq_nil_of_le hgek] at hfold2
   obtain ⟨st2, hst⟩ : ∃ st2, st2 = (out, last) := ⟨_, rfl⟩
   have hst2 : memRow seq st l = st2 := by rw [hst]; exact hfold2.symm
   have ho2 : out = st2.1 := by rw [hst]
   have hl2 : last = st2.2 := by rw [hst]
   rw [ho2, hl2]; rw [ho2] at hol2; refine we ?_; try simp only [go_sem, lQ]
   try simp only [go_sem, lQ]
   apply k8
   have hw : IntKind.i64.wrap ((i : Int) + 1) = ((i + 1 : Nat) : Int) := by rw [IntKind.wrap_i64]; omega
   refine wg rfl ?_; simp only [go_sem, hw]; try simp only [go_sem, lQ]
   refine ⟨(i + 1, st2), ⟨by omega, by simp only; omega, by rw [hdrop] at hfold; exact (by rw [List.foldl_cons, hst2] at hfold; exact hfold)⟩, by omega, [], ?_⟩
   simp only [go_sem] <;> simp
 have hge : bs.length ≤ i := Nat.not_lt.1 (by simpa using hc1)
 refine we ?_; try simp only [go_sem, lQ]
 apply k4; refine sr rfl fun _ J => ?_; simp only [go_sem]; apply J; refine wR ?_; rw [List.drop_eq_nil_of_le hge] at hfold
 have h9 : memS bs seq = st := hfold.symm
 refine fO ?_ ⟨enB _ _, trivial, trivial⟩
 simp only [go_sem, h9]
theorem w_spec_l6Left (bs : List (List Entry)) (seq : Int) (hb : bs.length ≤ 1048576) (hs : ∀ b ∈ bs, sEnts b ∧ 1 ≤ b.length) : aB P 106 [.sl 1 (bs.map esA), .raw (.int .i64 seq)] [] 0 (.raw (.string (leftS bs seq))) := by
 refine pw (N := 36) (vs := [.tmp 4]) ⟨Tryz.func106, rfl, rfl⟩ rfl rfl (by simp) ?_
 simp only [eE]; refine sr rfl fun _ J => ?_; simp only [go_sem]; apply J; refine sr rfl fun _ k2 => ?_; simp only [go_sem]; apply k2; refine sq fun _ k3 => ?_; refine sr rfl fun _ J => ?_; simp only [go_sem]; apply J; refine wb ?_
 refine wl (α := Nat × ByteArray) (fun x => x.1 ≤ bs.length ∧ x.2.size ≤ 2000 * x.1 ∧ (bs.drop x.1).foldl (bM seq) x.2 = leftS bs seq) (fun x => bs.length - x.1) (fun x => ([(0, .sl 1 (bs.map esA)), (1, .raw (.int .i64 seq)), (5, .raw (.string x.2)), (6, .raw (.int .i64 (x.1 : Int)))], [])) 0 (0, ⟨#[]⟩) ⟨Nat.zero_le _, Nat.le_refl _, rfl⟩ [] ?_ ?_
 · simp only [go_sem, Int.natCast_zero] <;> simp
 rintro ⟨i, out⟩ ⟨hi, hsz, hfold⟩
 simp only at hi hsz hfold ⊢
 refine sq fun _ k5 => ?_; refine sr rfl fun _ J => ?_; simp only [go_sem]; apply J
 refine cd rfl (fun hc1 => ?_) fun hc1 => ?_
 · have hlt : i < bs.length := (by simpa using hc1); obtain ⟨l, hl, hdrop, hml⟩ := ix hlt
   have hsl := hs l hml
   have hsl1 := hsl.1.1
   have hsl2 := hsl.2
   have hle : l[l.length - 1]? = some (lastEnt l) := by unfold lastEnt; rw [List.getElem?_eq_getElem (by omega)]; rfl
   have hw1 : IntKind.i64.wrap ((l.length : Int) - 1) = (l.length : Int) - 1 := by rw [IntKind.wrap_i64]; omega
   have hpn : ((l.length : Int) - 1).toNat = l.length - 1 := by omega
   refine wk ?_; apply k5; refine sq fun _ k7 => ?_; refine wb ?_; refine sd mixed rfl fun _ k8 => ?_; simp only [go_sem, hl, hle, hw1, hpn, esA, enA]
   repeat (first | refine ⟨by first | omega | (intro hg; simp at hg; omega), ?_⟩ | fail)
   refine ⟨by rfl, ?_⟩; apply k8
   refine cd rfl (fun hc2 => ?_) fun hc2 => ?_
   · have hgt : seq < (lastEnt l).seq := by simpa using hc2
     have hms : bM seq out l = out ++ fTx l := if_pos hgt
     have hln : (bM seq out l).size ≤ 2000 * (i + 1) := by rw [hms, ByteArray.size_append]; have := frameTxt_size l; omega
     refine wg rfl ?_; simp only [go_sem, hl, esA]
     repeat (first | refine ⟨by first | omega | (intro hg; simp at hg; omega), ?_⟩ | fail)
     refine vp rfl rfl rfl ⟨Tryz.func64, rfl, rfl⟩ (w_spec_FrameText l (sEnts_mx hsl.1)) (by simp only [go_sem]) (by simp only [go_sem]) ?_
     simp only [go_sem, hl, esA]
     have hfs := frameTxt_size l
     repeat (refine ⟨by omega, ?_⟩)
     try simp only [go_sem, lQ]
     apply k7
     have hw : IntKind.i64.wrap ((i : Int) + 1) = ((i + 1 : Nat) : Int) := by rw [IntKind.wrap_i64]; omega
     refine wg rfl ?_; simp only [go_sem, hw]; try simp only [go_sem, lQ]
     refine ⟨(i + 1, bM seq out l), ⟨by omega, hln, by rw [hdrop] at hfold; exact hfold⟩, by omega, [], ?_⟩
     simp only [go_sem, hms] <;> simp
   have hgt : ¬ seq < (lastEnt l).seq := by simpa using hc2
   have hms : bM seq out l = out := if_neg hgt
   have hln : (bM seq out l).size ≤ 2000 * (i + 1) := by rw [hms]; omega
   refine wk ?_; try simp only [go_sem, lQ]
   apply k7
   have hw : IntKind.i64.wrap ((i : Int) + 1) = ((i + 1 : Nat) : Int) := by rw [IntKind.wrap_i64]; omega
   refine wg rfl ?_; simp only [go_sem, hw]; try simp only [go_sem, lQ]
   refine ⟨(i + 1, bM seq out l), ⟨by omega, hln, by rw [hdrop] at hfold; exact hfold⟩, by omega, [], ?_⟩
   simp only [go_sem, hms] <;> simp
 have hge : bs.length ≤ i := Nat.not_lt.1 (by simpa using hc1)
 refine we ?_; try simp only [go_sem, lQ]
 apply k3; refine sr rfl fun _ J => ?_; simp only [go_sem]; apply J; refine wR ?_; rw [List.drop_eq_nil_of_le hge] at hfold
 have h9 : leftS bs seq = out := hfold.symm
 refine fO ?_ trivial; simp only [go_sem, h9]
end Go.Proofs.S
end
