/-
  The abstract layer, the walks and the plain laws that the claim leans on, part 6 of 7 (working texts S36 to S77). It proves lemmas alone; no condition of its own.
-/
import Derived.Test.YthbibdnkiklemaaGreatDoorP5
import Derived.ProofKit
import Derived.Test.YthbibdnkiklemaaGreatDoorRows
import Derived.LaidLaws
import Derived.LaidHandle
import Derived.Stop.Joined
import Derived.Lay
import Derived.MakeChecks
import Derived.Shelf.Spec.SlicesGrow
import Derived.Test.YthbibdnkiklemaaGreatDoorProg
import Derived.WalkKit
import Derived.Laws.CopyRow
set_option linter.all false
set_option maxRecDepth 20000
section
open Go Go.Abs Go.Proofs
namespace Go.Proofs.S
inductive StepI where
  | log (t : ByteArray)
  | lev (ls : List (List Run)) (seq : Int)
  | emp
def stAV : StepI → AV
  | .log t => .iface 96 (.agg [.raw (.string t)])
  | .lev ls q => .iface 83 (.agg [.sl 1 (ls.map rsA), .raw (.int .i64 q)])
  | .emp => .iface 103 (.agg [])
def stDo (d : Disk) : StepI → Disk
  | .log t => { d with log := d.log ++ t }
  | .lev ls q => { d with levels := ls, seq := q }
  | .emp => { d with log := ⟨#[]⟩, safe := 0 }
def stSz : StepI → Nat
  | .log t => t.size
  | _ => 0
theorem stAV_b (U : Nat → Prop) (p : StepI) : (stAV p).bel U := by
  cases p with
  | log t => exact ⟨trivial, trivial⟩
  | lev ls q => exact ⟨aF _ _, trivial, trivial⟩
  | emp => trivial
theorem stsAV_b (U : Nat → Prop) (ps : List StepI) : aC U (ps.map stAV) := nD (f := stAV) (fun _ _ => stAV_b _ _) U ps
attribute [go_sem] stAV_b stsAV_b
theorem pQ (U : Nat → Prop) (d : Disk) : (dkA d).bel U := ⟨trivial, trivial, aF _ _, trivial, trivial⟩
theorem w_impl_logStep_to (d : Disk) (t : ByteArray) (hz : d.log.size + t.size ≤ 4611686018427387904) : aB P 271 [.agg [.raw (.string t)], dkA d] [] 0 (dkA (stDo d (.log t))) := by
 refine pq 12 [.cell 4 38] Tryz.func271 ?_
 simp only [dkA]; refine aj ?_
 refine sr rfl fun _ k2 => ja ?_
 refine ⟨by omega, ?_⟩
 refine k2 (aj (wR ?_))
 refine fO ?_ (pQ _ _)
 simp only [go_sem, dkA, stDo]
theorem wZ (d : Disk) (ls : List (List Run)) (q : Int) : aB P 270 [.agg [.sl 1 (ls.map rsA), .raw (.int .i64 q)], dkA d] [] 0 (dkA (stDo d (.lev ls q))) := by
 refine pq 12 [.cell 4 38] Tryz.func270 ?_
 simp only [dkA]; refine aj ?_
 refine sd mixed rfl fun _ k2 => ja ?_
 refine ⟨by rfl, ?_⟩
 refine k2 (aj (wR ?_))
 refine fO ?_ (pQ _ _)
 simp only [go_sem, dkA, stDo]
theorem xB (d : Disk) : aB P 272 [.agg [], dkA d] [] 0 (dkA (stDo d .emp)) := by
 refine pq 8 [.cell 4 38] Tryz.func272 ?_
 simp only [dkA]; refine aj ?_; refine aj ?_
 refine aj (wR ?_)
 refine fO ?_ (pQ _ _)
 simp only [go_sem, dkA, stDo]
theorem mTo1 : qU P 96 "loop.example/comptoir/impl.to" = some (271, false) := by kernel_rfl
theorem mTo2 : qU P 83 "loop.example/comptoir/impl.to" = some (270, false) := by kernel_rfl
theorem mTo3 : qU P 103 "loop.example/comptoir/impl.to" = some (272, false) := by kernel_rfl
theorem pTo : ptrTo P 96 = none ∧ ptrTo P 83 = none ∧ ptrTo P 103 = none := by refine ⟨?_, ?_, ?_⟩ <;> kernel_rfl
theorem uTo : (P.underlying 96).isSome = true ∧ (P.underlying 83).isSome = true ∧ (P.underlying 103).isSome = true := by refine ⟨?_, ?_, ?_⟩ <;> kernel_rfl
theorem lstep_to {ro : Option Nat} {N : Nat} {E : Env} {H : Heap} {nx b0 : Nat} {o : Oper} {ds : List (Option Tmp)} {c : Call} {y : Operand} (p : StepI) (d : Disk) (hz : d.log.size + stSz p ≤ 4611686018427387904) (hg : o.guard = none) (ho : o.op = .call c) (hc : c.callee = .invoke y "loop.example/comptoir/impl.to")
    (hN : ∀ d, o.dst = some d → d < N) (hy : opv E y = some (stAV p)) (hxs : c.args.toList.map (opv E) = [dkA d].map some) : bC P ro N ds o b0 E H (tO (y :: c.args.toList)) [] (dkA (stDo d p)) [] nx 0 := by
  have hfit : FitC H [] [] 0 0 [] := wL (by simp) (by omega)
  cases p with
  | log t =>
    have := tB (b0 := b0) (nx := nx) (ds := ds) (ro := ro) [] 0 hg ho hc hy mTo1 (.inl ⟨pTo.1, rfl⟩) ⟨Tryz.func271, rfl, rfl⟩ hN (w_impl_logStep_to d t hz) rfl hxs (iH _).symm ⟨⟨trivial, trivial⟩, pQ _ _, trivial⟩ hfit uTo.1
    rw [aR, AV.ren_nil] at this; exact this
  | lev ls q =>
    have := tB (b0 := b0) (nx := nx) (ds := ds) (ro := ro) [] 0 hg ho hc hy mTo2 (.inl ⟨pTo.2.1, rfl⟩) ⟨Tryz.func270, rfl, rfl⟩ hN (wZ d ls q) rfl hxs (iH _).symm ⟨⟨aF _ _, trivial, trivial⟩, pQ _ _, trivial⟩ hfit uTo.2.1
    rw [aR, AV.ren_nil] at this; exact this
  | emp =>
    have := tB (b0 := b0) (nx := nx) (ds := ds) (ro := ro) [] 0 hg ho hc hy mTo3 (.inl ⟨pTo.2.2, rfl⟩) ⟨Tryz.func272, rfl, rfl⟩ hN (xB d) rfl hxs (iH _).symm ⟨trivial, pQ _ _, trivial⟩ hfit uTo.2.2
    rw [aR, AV.ren_nil] at this; exact this
def qZ (d : Disk) (ps : List StepI) : Disk := ps.foldl stDo d
def sdI (F : Store → Store × Bool) (s : Store) : Store × Bool := if aM s = false then (zStore, false) else if (F s).2 = false then (s, false) else ((F s).1, true)
theorem okI_seq {s : Store} (h : aM s = true) (hu : s.up = true) : 0 ≤ s.tree.seq ∧ s.tree.seq ≤ 100000 ∧ s.tree.mem.length ≤ 60 := by
  unfold aM at h; rw [if_pos hu] at h; split at h
  · cases h
  unfold upI at h; split at h
  · cases h
  rename_i hb
  unfold vT at hb
  simp only [Bool.or_eq_true, not_or] at hb
  have h1 : dG s.tree = true := by have := hb.1.1; simpa using this
  unfold dG at h1; split at h1
  · cases h1
  rename_i h2
  unfold nM at h2; simp at h2; omega
theorem w_impl_doSteps (d : Disk) (ps : List StepI) (k : Nat) (hk : k ≤ ps.length) (hl : ps.length ≤ 1000) (hz : ∀ i p, (ps.take k)[i]? = some p → (qZ d ((ps.take k).take i)).log.size + stSz p ≤ 4611686018427387904) : aB P 47 [dkA d, .sl 1 (ps.map stAV), .raw (.int .i64 (k : Int))] [] 0 (dkA (qZ d (ps.take k))) := by
 refine pq 22 [.cell 6 38] Tryz.func47 ?_
 simp only [dkA]
 obtain ⟨qs, hqs⟩ : ∃ qs, qs = ps.take k := ⟨_, rfl⟩
 have hql : qs.length = k := by rw [hqs, List.length_take]; omega
 have htk : (ps.map stAV).take k = qs.map stAV := by rw [hqs, List.map_take]
 rw [← hqs] at hz ⊢
 refine aj ?_
 refine sq fun _ k2 => sr rfl fun _ k3 => ?_
 simp only [go_sem, htk, hql, Int.toNat_natCast, List.length_map, List.length_take]
 refine jr (k3 (wb ?_))
 refine wl (α := Nat) (fun x => x ≤ qs.length) (fun x => qs.length - x) (fun x => ([(3, .ptr 0 0), (6, .ptr 1 0), (11, .sl 1 (qs.map stAV)), (12, .raw (.int .i64 (k : Int))), (13, .raw (.int .i64 (x : Int)))], [(0, .cells 38 [.raw (.string (qZ d (qs.take x)).log), .raw (.int .i64 (qZ d (qs.take x)).safe), .sl 1 ((qZ d (qs.take x)).levels.map rsA), .raw (.int .i64 (qZ d (qs.take x)).seq)]), (1, .cells 38 [.raw (.string ⟨#[]⟩), .raw (.int .i64 0), .raw (.slice none 0 0), .raw (.int .i64 0)])])) 2 0 (Nat.zero_le _) [] ?_ ?_
 · simp only [go_sem, AObj.bel, qZ, List.take_zero, List.foldl_nil, Int.natCast_zero] <;> simp [hql]
 rintro i hi
 refine aj ?_; refine sq fun _ k5 => ?_
 refine cdS rfl (fun hc1 => ?_) fun hc1 => ?_
 · have hge : qs.length ≤ i := by simp at hc1; omega
   have hie : i = qs.length := by omega
   subst hie; rw [List.take_length]
   refine we (jt (k2 ?_))
   refine aj (wR ?_)
   refine fO ?_ (pQ _ _)
   simp only [go_sem, dkA]
 have hlt : i < qs.length := by simp at hc1; omega
 obtain ⟨p, hlp, _, _⟩ := ix hlt
 obtain ⟨T, x, hpx⟩ : ∃ T x, stAV p = .iface T x := by cases p <;> exact ⟨_, _, rfl⟩
 have hst : qZ d (qs.take (i + 1)) = stDo (qZ d (qs.take i)) p := by unfold qZ; rw [List.take_add_one, hlp, List.foldl_append]; rfl
 refine wk (k5 (sq fun _ k6 => (wb (sr rfl fun _ k7 => ?_))))
 simp only [go_sem, hlp, hpx]
 refine jr (k7 ?_)
 refine wg rfl ?_; simp only [go_sem, hlp]
 refine vC (fun hN => lstep_to p (qZ d (qs.take i)) (hz i p hlp) rfl rfl rfl hN (by simp only [go_sem, hpx]) (by simp only [go_sem, dkA])) (.inl rfl) ?_
 simp only [go_sem, dkA, hlp]
 refine jt (k6 ?_)
 refine jw (wiS i (by omega)) ?_
 refine jt ?_
 refine ⟨i + 1, by omega, by omega, [], ?_⟩
 simp only [go_sem, AObj.bel, AObj.ren, AV.ren, aA, sg, dkA] <;> simp [hst]
theorem ok_log {s : Store} (h : aM s = true) : s.disk.log.size ≤ 12000 := by
  unfold aM at h; split at h
  · cases h
  rename_i h1; exact dkOk_log (by simpa using h1)
theorem storeAV_r (σ : Nat → Nat) (s : Store) : (stA s).ren σ = stA s := AV.ren_closed σ (dN _ s)
theorem xK (s : ByteArray) (hs : s.size ≤ 1048576) : aB P 102 [.raw (.string s)] [] 0 (.tup [.sl 1 ((dC s).1.map esA), .raw (.int .i64 (dC s).2)]) :=
  bX (yW s hs) (by simp only [go_sem, entsAV_fz]) (by simp only [go_sem])
theorem w_CopyLevels_s (ls : List (List Run)) (hs : mR ls) : aB P 48 [.sl 1 (ls.map rsA)] [] 0 (.sl 1 (ls.map rsA)) :=
  bX (bW ls hs) (by simp only [go_sem]) (by simp only [go_sem])
theorem w_TreeOk_sd (d : Disk) (hs : mR d.levels) : aB P 58 [.agg [.raw (.int .i64 d.seq), .raw (.slice none 0 0), .sl 1 (d.levels.map rsA), .raw (.slice none 0 0)]] [] 0 (.raw (.bool (eS ⟨d.seq, [], d.levels, []⟩))) :=
  (yD ⟨d.seq, [], d.levels, []⟩ ⟨⟨by simp, by simp⟩, hs, by simp⟩).args_le (LeL.cons (Le.aggL (LeL.cons (.refl _) (LeL.cons (.nil _) (LeL.cons (.refl _) (LeL.cons (.nil _) LeL.nil))))) LeL.nil) ⟨lJ _ _, trivial⟩
theorem w_TreeSame_sz (t : Tree) (hs : gN t) : aB P 60 [trA t, .agg [.raw (.int .i64 0), .raw (.slice none 0 0), .raw (.slice none 0 0), .raw (.slice none 0 0)]] [] 0 (.raw (.bool (gP t gE))) :=
  (w_spec_TreeSame t gE (mxTree_of hs)).args_le (LeL.cons (.refl _) (LeL.cons (Le.aggL (LeL.cons (.refl _) (LeL.cons (.nil _) (LeL.cons (.nil _) (LeL.cons (.nil _) LeL.nil))))) LeL.nil)) ⟨lJ _ _, lJ _ _, trivial⟩
theorem readS_bat {s : ByteArray} (hs : s.size ≤ 1048576) : (dC s).1.length ≤ 1048576 ∧ (∀ b ∈ (dC s).1, b.length ≤ 1048576) ∧ ∀ b ∈ (dC s).1, gD b ∧ 1 ≤ b.length := by
  obtain ⟨h1, h2⟩ := readS_ok hs
  exact ⟨by omega, fun b hb => by have := (rO (h1 b hb)).2.2; omega, fun b hb => ⟨(rO (h1 b hb)).1, (rO (h1 b hb)).2.1⟩⟩
theorem frameS_txt (s : ByteArray) (a : Nat) (h : 0 ≤ (aW s a).2) : (fTx (aW s a).1).toList = (s.extract a (aW s a).2.toNat).toList := by
  have hf : aW s a = if iI s a = true then ([], -1) else if (!((fTx (mT s a)).toList == (s.extract a ((bA s (a : Int)).2 + (bA s (a : Int)).1 + 1).toNat).toList)) = true then ([], -1) else (mT s a, (bA s (a : Int)).2 + (bA s (a : Int)).1 + 1) := rfl
  rw [hf] at h ⊢
  split
  · rename_i hb; rw [if_pos hb] at h; simp at h
  rename_i hb
  rw [if_neg hb] at h; split
  · rename_i hc; rw [if_pos hc] at h; simp at h
  rename_i hc
  simpa using hc
theorem toList_size (x : ByteArray) : x.toList.length = x.size := by rw [ByteArray.toList_eq]; rfl
def vE (bs : List (List Entry)) : Nat := (bs.map fun b => (fTx b).size).sum
theorem frSum_app (a b : List (List Entry)) : vE (a ++ b) = vE a + vE b := by simp [vE]
theorem readGo_sum (s : ByteArray) : ∀ (f a : Nat) (out : List (List Entry)), vE out ≤ a → a ≤ s.size → vE (eY s f a out).1 ≤ s.size
  | 0, a, out, h, ha => by simp only [eY]; omega
  | f + 1, a, out, h, ha => by
    unfold eY; split
    · split
      · simp only; omega
      rename_i hn
      have h1 := rX s a (by omega)
      have h2 := wJ s a
      have h3 := congrArg List.length (frameS_txt s a (by omega))
      rw [toList_size, toList_size, mA s _ _ (by omega)] at h3
      refine readGo_sum s f _ _ ?_ (by omega)
      rw [frSum_app]
      simp only [vE, List.map_cons, List.map_nil, List.sum_cons, List.sum_nil] at h ⊢
      omega
    simp only; omega
theorem leftS_size : ∀ (bs : List (List Entry)) (seq : Int) (out : ByteArray), (bs.foldl (bZ seq) out).size ≤ out.size + vE bs
  | [], seq, out => by simp [vE]
  | b :: r, seq, out => by
    have h1 := leftS_size r seq (bZ seq out b)
    have h2 : (bZ seq out b).size ≤ out.size + (fTx b).size := by
      unfold bZ; split
      · rw [ByteArray.size_append]; omega
      omega
    simp only [List.foldl_cons, vE, List.map_cons, List.sum_cons] at h1 ⊢
    omega
theorem openS_lg (s : Store) (h : s.disk.log.size ≤ 12000) : (nF s).disk.log.size ≤ 12000 := by
  have h1 := leftS_size (dC s.disk.log).1 s.disk.seq ⟨#[]⟩
  have h2 := readGo_sum s.disk.log s.disk.log.size 0 [] (by simp [vE]) (Nat.zero_le _)
  have h3 : (⟨#[]⟩ : ByteArray).size = 0 := rfl
  show (qY (dC s.disk.log).1 s.disk.seq).size ≤ _
  unfold qY
  unfold dC at h1 ⊢
  omega
theorem sStore_openS {s : Store} (hs : bM s) (hlog : s.disk.log.size ≤ 12000) : bM (nF s) := by
  have h0 := readS_ok (s := s.disk.log) (by omega)
  have h1 := memS_small (bs := (dC s.disk.log).1) s.disk.seq h0.1
  have h3 := h0.2
  have h2 := hs.2
  unfold bM gN nF
  generalize tA (dC s.disk.log).1 s.disk.seq = f at h1 ⊢
  exact ⟨⟨⟨by show f.1.length ≤ _; omega, h1.2⟩, h2, Nat.zero_le _⟩, h2⟩
theorem w_spec_l6Open (s : Store) (hs : bM s) (hlog : s.disk.log.size ≤ 1048576) : aB P 61 [stA s] [] 0 (stA (nF s)) := by
 refine pq 45 [.cell 2 40] Tryz.func61 ?_
 simp only [stA]
 have hrb := readS_bat hlog
 obtain ⟨hrb1, hrb2, hrb3⟩ := hrb
 refine aj ?_
 refine sr rfl fun _ k2 => ja ?_
 refine vq Tryz.func102 (xK s.disk.log hlog) (k2 ?_)
 refine sr rfl fun _ k3 => ja ?_
 refine vq Tryz.func103 (w_spec_l6Mem (dC s.disk.log).1 s.disk.seq hrb1 hrb2) (k3 ?_)
 refine aj ?_
 refine sr rfl fun _ k5 => ja ?_
 refine vq Tryz.func106 (w_spec_l6Left (dC s.disk.log).1 s.disk.seq hrb1 hrb3) (k5 ?_)
 refine aj ?_
 refine sr rfl fun _ k7 => ja ?_
 refine vq Tryz.func48 (w_CopyLevels_s s.disk.levels hs.2) (k7 ?_)
 refine aj ?_
 refine cG 1 (ds := [.raw (.bool true), .raw (.int .i64 (tA (dC s.disk.log).1 s.disk.seq).2), .sl 5 ((tA (dC s.disk.log).1 s.disk.seq).1.map enA), .sl 1 (s.disk.levels.map rsA), .sl 1 [], .raw (.string (qY (dC s.disk.log).1 s.disk.seq)), .raw (.int .i64 ((qY (dC s.disk.log).1 s.disk.seq).size : Int)), .sl 1 (s.disk.levels.map rsA), .raw (.int .i64 s.disk.seq)]) rfl (by repeat (first | exact LeL.nil | refine LeL.cons (by first | exact Le.refl _ | exact Le.nil _) ?_)) (by simp only [go_sem]) ?_
 simp only [go_sem]; refine wR ?_
 refine fO ?_ (dN _ _)
 simp only [go_sem, nF, stA, List.map_nil]
theorem w_spec_l6Up (s : Store) (hs : bM s) (hlog : s.disk.log.size ≤ 1048576) : aB P 59 [stA s] [] 0 (.raw (.bool (upS s))) := by
 refine pq 71 [.tmp 2] Tryz.func59 ?_
 simp only [stA]
 have hrb := readS_bat hlog
 obtain ⟨hrb1, hrb2, hrb3⟩ := hrb
 refine aj ?_
 refine sq fun _ k2 => sr rfl fun _ k3 => ja ?_
 refine vr rfl rfl rfl Tryz.func58 (yD s.tree hs.1) (by simp only [go_sem, trA]) (by simp only [go_sem, trA]) ?_
 refine vpg rfl rfl rfl rfl rfl rfl ⟨Tryz.func101, rfl, rfl⟩ (fun hg => uE s.disk.levels s.tree.levels (mxLvs_of hs.2)) (by simp only [go_sem]) (fun hg => (by simp only [go_sem])) (by simp only [go_sem]) trivial ?_
 simp only [go_sem]; apply k3
 refine cd rfl (fun hc1 => ?_) fun hc1 => ?_
 · have h9 : upS s = false := by unfold upS; rw [if_pos (show upBad s = true from hc1)]
   refine aj (wR ?_)
   refine fO ?_ trivial; simp only [go_sem, h9]
 have h9 : upS s = ((decide ((dC s.disk.log).2 = (s.disk.log.size : Int)) && decide ((tA (dC s.disk.log).1 s.disk.seq).1 = s.tree.mem)) && decide ((tA (dC s.disk.log).1 s.disk.seq).2 = s.tree.seq)) := by unfold upS; rw [show upBad s = false from hc1, if_neg (by simp)]
 refine wk (k2 (sr rfl fun _ k5 => (ja ?_)))
 refine vq Tryz.func102 (xK s.disk.log hlog) (k5 ?_)
 refine sr rfl fun _ k6 => ja ?_
 refine vq Tryz.func103 (w_spec_l6Mem (dC s.disk.log).1 s.disk.seq hrb1 hrb2) (k6 ?_)
 refine sr rfl fun _ k7 => ja ?_
 refine vpg rfl rfl rfl rfl rfl rfl ⟨Tryz.func104, rfl, rfl⟩ (fun hg => rQ (tA (dC s.disk.log).1 s.disk.seq).1 s.tree.mem (by have := (memS_small (bs := (dC s.disk.log).1) s.disk.seq (readS_ok hlog).1).1; omega)) (by simp only [go_sem]) (fun hg => (by simp only [go_sem])) (by simp only [go_sem]) trivial ?_
 simp only [go_sem]
 refine k7 (wR (fO ?_ trivial))
 simp only [go_sem, h9]
theorem w_spec_StoreOk (s : Store) (hs : bM s) (hlg : s.disk.log.size ≤ 1048576) : aB P 27 [stA s] [] 0 (.raw (.bool (eA s))) := by
 refine pq 46 [.tmp 2] Tryz.func27 ?_
 simp only [stA]; refine aj ?_
 refine sq fun _ k2 => aj ?_
 refine cd rfl (fun hc1 => ?_) fun hc1 => ?_
 · have h9 : eA s = false := by unfold eA; rw [if_pos (show nA s = true from hc1)]
   refine aj (wR ?_)
   refine fO ?_ trivial; simp only [go_sem, h9]
 have hd : nA s = false := hc1
 have hlog : s.disk.log.size ≤ 12000 := by unfold nA at hd; simp at hd; omega
 refine wk (k2 (sq fun _ k5 => (sr rfl fun _ k6 => (ja ?_))))
 refine vq Tryz.func58 (w_TreeOk_sd s.disk hs.2) (k6 ?_)
 refine cd rfl (fun hc2 => ?_) fun hc2 => ?_
 · have ht : eS ⟨s.disk.seq, [], s.disk.levels, []⟩ = false := by simpa using hc2
   have h9 : eA s = false := by unfold eA; rw [hd, if_neg (by simp), if_pos ht]
   refine aj (wR ?_)
   refine fO ?_ trivial; simp only [go_sem, h9]
 have ht : eS ⟨s.disk.seq, [], s.disk.levels, []⟩ = true := by simpa using hc2
 refine wk (k5 (sq fun _ k8 => (aj ?_)))
 refine cd rfl (fun hc3 => ?_) fun hc3 => ?_
 · have hup : s.up = true := hc3
   have h9 : eA s = upS s := by unfold eA; rw [hd, if_neg (by simp), if_neg (by rw [ht]; simp), if_pos hup]
   refine sr rfl fun _ k10 => ja ?_
   refine vr rfl rfl rfl Tryz.func59 (w_spec_l6Up s hs (by omega)) (by simp only [go_sem, stA]) (by simp only [go_sem, stA]) (k10 (wR ?_))
   refine fO ?_ trivial; simp only [go_sem, h9]
 have hup : s.up = false := hc3
 have h9 : eA s = (gP s.tree gE && upS (nF s)) := by unfold eA; rw [hd, if_neg (by simp), if_neg (by rw [ht]; simp), if_neg (by rw [hup]; simp)]
 have hos := sStore_openS hs hlog
 have hol := openS_lg s hlog
 refine wk (k8 (sr rfl fun _ k11 => (ja ?_)))
 refine vr rfl rfl rfl Tryz.func60 (w_TreeSame_sz s.tree hs.1) (by simp only [go_sem, trA]) (by simp only [go_sem, trA]) ?_
 refine vpg rfl rfl rfl rfl rfl rfl ⟨Tryz.func61, rfl, rfl⟩ (fun hg => w_spec_l6Open s hs (by omega)) (by simp only [go_sem]) (fun hg => (by simp only [go_sem, stA])) (by simp only [go_sem, stA]) (dN _ _) ?_
 simp only [go_sem]
 refine vpg rfl rfl rfl rfl rfl rfl ⟨Tryz.func59, rfl, rfl⟩ (fun hg => w_spec_l6Up (nF s) hos (by omega)) (by simp only [go_sem]) (fun hg => (by simp only [go_sem, stA])) (by simp only [go_sem, stA]) trivial ?_
 simp only [go_sem]
 refine k11 (wR (fO ?_ trivial))
 simp only [go_sem, h9]
theorem copyS_s {s : Store} (h : bM s) : bM (aJ s) := by
  unfold aJ; split
  · exact h
  exact ⟨⟨⟨Nat.zero_le _, fun e he => by cases he⟩, ⟨Nat.zero_le _, fun e he => by cases he⟩, Nat.zero_le _⟩, h.2⟩
section
variable {s : ByteArray} {a : Nat}
theorem fg_mem (seq : Int) (bs : List (List Entry)) : tA bs seq = gH bs seq := by
  have step : ∀ (st : List Entry × Int) (e : Entry), gV seq (dD st.1, st.2) e = (dD (jO seq st e).1, (jO seq st e).2) := fun st e => by
    unfold gV jO; split
    · simp [dD, List.foldl_append]
    rfl
  have row : ∀ (b : List Entry) (st : List Entry × Int), jN seq (dD st.1, st.2) b = (dD (lT seq st b).1, (lT seq st b).2) := by
    intro b
    induction b with
    | nil => intro st; rfl
    | cons x r ih =>
      intro st
      have h1 := ih (jO seq st x)
      simp only [jN, lT, List.foldl_cons] at h1 ⊢
      rw [step st x]; exact h1
  have all : ∀ (bs : List (List Entry)) (st : List Entry × Int), bs.foldl (jN seq) (dD st.1, st.2) = (dD (bs.foldl (lT seq) st).1, (bs.foldl (lT seq) st).2) := by
    intro bs
    induction bs with
    | nil => intro st; rfl
    | cons b r ih => intro st; rw [List.foldl_cons, List.foldl_cons, row b st]; exact ih _
  exact all bs ([], seq)
def Has (s : ByteArray) (a : Nat) (t : List UInt8) : Prop := ((bL s).drop a).take t.length = t
theorem Has.len {t : List UInt8} (h : Has s a t) (ha : a ≤ s.size) : a + t.length ≤ s.size := by
  have h1 := congrArg List.length h
  rw [List.length_take, List.length_drop, aK] at h1; omega
theorem Has.split {t u : List UInt8} (h : Has s a (t ++ u)) : Has s a t ∧ Has s (a + t.length) u := by
  unfold Has at h ⊢
  rw [List.length_append] at h
  have h1 := congrArg (List.take t.length) h
  have h2 := congrArg (List.drop t.length) h
  rw [List.take_take, Nat.min_eq_left (by omega), List.take_left'  rfl] at h1; rw [List.drop_take, List.drop_drop, List.drop_left' rfl] at h2
  refine ⟨h1, ?_⟩
  rw [show t.length + u.length - t.length = u.length by omega] at h2; exact h2
theorem ext_bL (s : ByteArray) (a b : Nat) : bL (s.extract a b) = ((bL s).drop a).take (b - a) := by
  unfold bL; rw [ByteArray.data_extract, Array.toList_extract]
theorem Has.ext {t : List UInt8} (h : Has s a t) : s.extract a (a + t.length) = ⟨t.toArray⟩ := by
  rw [← pE (s.extract a (a + t.length)), ext_bL, show a + t.length - a = t.length by omega, h]
theorem Has.of_ext {a b : Nat} {t : List UInt8} (h : bL (s.extract a b) = t) (hb : a + t.length = b) : Has s a t := by
  rw [ext_bL] at h; unfold Has
  rw [show t.length = b - a by omega]; exact h
theorem Has.at {a i : Nat} {t : List UInt8} (h : Has s a t) (hi : i < t.length) : (bL s)[a + i]? = t[i]? := by
  have h1 := congrArg (·[i]?) h
  simp only [List.getElem?_take, if_pos hi, List.getElem?_drop] at h1
  exact h1
theorem Has.rest {t : List UInt8} (h : Has s a t) : ∃ r, (bL s).drop a = t ++ r := ⟨((bL s).drop a).drop t.length, by
  have := List.take_append_drop t.length ((bL s).drop a)
  rw [show ((bL s).drop a).take t.length = t from h] at this
  exact this.symm⟩
theorem idx_at : ∀ (w r : List UInt8), (∀ c ∈ w, c ≠ 32) → Lib.indexByte (w ++ 32 :: r) 32 = (w.length : Int)
  | [], r, _ => by simp [Lib.indexByte]
  | c :: w, r, h => by
    have h1 : (c == 32) = false := by simpa using h c List.mem_cons_self
    have ih := idx_at w r fun x hx => h x (List.mem_cons_of_mem _ hx)
    rw [List.cons_append, Lib.indexByte, h1, ih]; simp only [Bool.false_eq_true, if_false, List.length_cons]; split
    · rename_i h2; simp at h2
    omega
theorem wI_at {w : List UInt8} (ha : a ≤ s.size) (h : Has s a (w ++ [32])) (hw : ∀ c ∈ w, c ≠ 32) (hl : w.length ≤ 8) : wI s a = (⟨w.toArray⟩, true, a + (w.length + 1)) := by
  obtain ⟨r, hr⟩ := h.rest
  have hln := h.len ha
  rw [List.length_append, List.length_singleton] at hln
  have hah : bL (jH s a) = w ++ 32 :: r.take (min s.size (a + 9) - a - (w.length + 1)) := by
    unfold jH
    rw [ext_bL, hr, List.take_append, List.length_append, List.length_singleton, List.take_of_length_le (by rw [List.length_append, List.length_singleton]; omega)]
    simp
  have hsp : zL s a = (w.length : Int) := by
    unfold zL; rw [show (jH s a).data.toList = bL (jH s a) from rfl, hah]
    exact idx_at _ _ hw
  have hx : (jH s a).extract 0 w.length = ⟨w.toArray⟩ := by
    rw [← pE ((jH s a).extract 0 w.length), ext_bL, hah, List.drop_zero, Nat.sub_zero, List.take_left' rfl]
  unfold wI; rw [hsp, if_neg (by omega), Int.toNat_natCast, hx]
end
theorem byteAt_has {s : ByteArray} {a i : Nat} {t : List UInt8} {c : UInt8} (h : Has s a t) (hi : t[i]? = some c) : aE s (a + i) = (c.toNat : Int) := by
  have hl : i < t.length := (List.getElem?_eq_some_iff.1 hi).1
  have h1 := h.at hl
  rw [hi] at h1; unfold aE
  show ((((bL s).getD (a + i) 0).toNat : Nat) : Int) = _
  rw [List.getD_eq_getElem?_getD, h1]; rfl
theorem u8_ne {c : UInt8} (h : c ≠ 32) : (c.toNat : Int) ≠ 32 := by
  intro h1; apply h; apply UInt8.toNat_inj.1
  show c.toNat = 32
  omega
theorem spGo_at {s : ByteArray} : ∀ (w : List UInt8) (a f : Nat), Has s a (w ++ [32]) → (∀ c ∈ w, c ≠ 32) → w.length < f → spGo s f a = some (a + w.length)
  | [], a, 0, _, _, hf => by simp at hf
  | [], a, f + 1, h, _, _ => by
    have h1 := byteAt_has (i := 0) (c := 32) h rfl
    rw [Nat.add_zero] at h1
    rw [spGo, if_pos (by rw [h1]; rfl)]
    rfl
  | c :: w, a, 0, _, _, hf => by simp at hf
  | c :: w, a, f + 1, h, hw, hf => by
    have h1 := byteAt_has (i := 0) (c := c) h rfl
    rw [Nat.add_zero] at h1
    rw [spGo, if_neg (by rw [h1]; exact u8_ne (hw c List.mem_cons_self))]
    have h2 : Has s (a + 1) (w ++ [32]) := (Has.split (t := [c]) (u := w ++ [32]) h).2
    rw [spGo_at w (a + 1) f h2 (fun x hx => hw x (List.mem_cons_of_mem _ hx)) (by rw [List.length_cons] at hf; omega), List.length_cons]
    congr 1; omega
theorem wordS_at {s : ByteArray} {a : Nat} {w : List UInt8} (ha : a ≤ s.size) (h : Has s a (w ++ [32])) (hw : ∀ c ∈ w, c ≠ 32) : iF s a = (⟨w.toArray⟩, ((a + (w.length + 1) : Nat) : Int)) := by
  have hln := h.len ha
  rw [List.length_append, List.length_singleton] at hln; unfold iF; rw [spGo_at w a _ h hw (by omega)]
  simp only
  rw [(Has.split h).1.ext]
  congr 1
theorem tI_at {s : ByteArray} {a : Nat} {t : List UInt8} (ha : a ≤ s.size) (h : Has s a t) : tI s a (t.length : Int) = (⟨t.toArray⟩, true, a + t.length) := by
  have hln := h.len ha
  unfold tI; rw [if_neg (by omega), Int.toNat_natCast, h.ext]
theorem dd_lo {u : Nat} (h : u < 10) : Lib.decDigits u = [UInt8.ofNat (48 + u)] := by rw [Lib.decDigits, dif_pos h]
theorem dd_hi {u : Nat} (h : ¬ u < 10) : Lib.decDigits u = Lib.decDigits (u / 10) ++ [UInt8.ofNat (48 + u % 10)] := by rw [Lib.decDigits, dif_neg h]
theorem dg_nat {m : Nat} (h : m < 10) : (UInt8.ofNat (48 + m)).toNat = 48 + m := by
  rw [UInt8.toNat_ofNat']; omega
theorem dd_dig (u : Nat) : ∀ c ∈ Lib.decDigits u, 48 ≤ c.toNat ∧ c.toNat ≤ 57 := by
  induction u using Nat.strongRecOn with
  | ind u ih =>
    intro c hc
    by_cases h : u < 10
    · rw [dd_lo h] at hc
      rw [List.mem_singleton.1 hc, dg_nat h]; omega
    rw [dd_hi h] at hc
    rcases List.mem_append.1 hc with h1 | h1
    · exact ih (u / 10) (by omega) c h1
    rw [List.mem_singleton.1 h1, dg_nat (by omega)]; omega
theorem dd_parse (u : Nat) : ∀ r, u < 1000000000000000000 → Lib.parseUint10 0 (Lib.decDigits u ++ r) = Lib.parseUint10 u r := by
  have one : ∀ (acc m : Nat) r, m < 10 → acc < 1000000000000000000 → Lib.parseUint10 acc (UInt8.ofNat (48 + m) :: r) = Lib.parseUint10 (acc * 10 + m) r := fun acc m r hm ha => by
    rw [Lib.parseUint10, dg_nat hm, if_pos (by omega), if_neg (by omega), if_neg (by omega), show 48 + m - 48 = m by omega]
  induction u using Nat.strongRecOn with
  | ind u ih =>
    intro r hu
    by_cases h : u < 10
    · rw [dd_lo h, List.singleton_append, one 0 u r h (by omega), Nat.zero_mul, Nat.zero_add]
    rw [dd_hi h, List.append_assoc, ih (u / 10) (by omega) _ (by omega), List.singleton_append, one _ _ r (by omega) (by omega)]
    congr 1; omega
theorem dd_ne (u : Nat) : Lib.decDigits u ≠ [] := by
  by_cases h : u < 10
  · rw [dd_lo h]; simp
  rw [dd_hi h]; simp
def dval (l : List UInt8) : Int := l.foldl (fun a c => a * 10 + ((c.toNat : Int) - 48)) 0
theorem dval_app (l : List UInt8) (c : UInt8) : dval (l ++ [c]) = dval l * 10 + ((c.toNat : Int) - 48) := by unfold dval; rw [List.foldl_append]; rfl
theorem dd_val (u : Nat) : dval (Lib.decDigits u) = (u : Int) := by
  induction u using Nat.strongRecOn with
  | ind u ih =>
    by_cases h : u < 10
    · rw [dd_lo h]
      show (0 : Int) * 10 + (((UInt8.ofNat (48 + u)).toNat : Int) - 48) = _
      rw [dg_nat h]; omega
    rw [dd_hi h, dval_app, ih (u / 10) (by omega), dg_nat (by omega)]; omega
theorem wP {l : List UInt8} {i : Nat} {c : UInt8} (h : l[i]? = some c) : aE ⟨l.toArray⟩ i = (c.toNat : Int) := by
  unfold aE; rw [List.getD_eq_getElem?_getD]
  show (((l[i]?.getD 0).toNat : Nat) : Int) = _
  rw [h]; rfl
theorem numGo_val {l : List UInt8} (hl : ∀ c ∈ l, 48 ≤ c.toNat ∧ c.toNat ≤ 57) : ∀ i, i ≤ l.length → iS ⟨l.toArray⟩ i = some (dval (l.take i))
  | 0, _ => by rw [List.take_zero]; rfl
  | i + 1, h => by
    have he := List.getElem?_eq_getElem (l := l) (i := i) (by omega)
    have hd := hl _ (List.getElem_mem (l := l) (n := i) (by omega))
    have hb := wP he
    rw [iS, numGo_val hl i (by omega)]
    simp only
    rw [hb, if_neg (by simp; omega), List.take_add_one, he]; simp only [Option.toList_some, dval_app]
theorem dd_len {u k : Nat} (h : u < 10 ^ (k + 1)) : (Lib.decDigits u).length ≤ k + 1 := by
  induction k generalizing u with
  | zero => rw [dd_lo (by simpa using h)]; simp
  | succ k ih =>
    by_cases h1 : u < 10
    · rw [dd_lo h1]; simp
    rw [dd_hi h1, List.length_append, List.length_singleton]
    have := ih (u := u / 10) (by rw [Nat.pow_succ] at h; omega)
    omega
theorem dd_head (u : Nat) (h : 1 ≤ u) : ∃ c r, Lib.decDigits u = c :: r ∧ c.toNat ≠ 48 := by
  induction u using Nat.strongRecOn with
  | ind u ih =>
    by_cases h1 : u < 10
    · exact ⟨_, [], dd_lo h1, by rw [dg_nat h1]; omega⟩
    obtain ⟨c, r, h2, h3⟩ := ih (u / 10) (by omega) (by omega)
    exact ⟨c, r ++ [UInt8.ofNat (48 + u % 10)], by rw [dd_hi h1, h2]; rfl, h3⟩
theorem dec_bL {n : Int} (h0 : -1000000000000000000 ≤ n) (h1 : n ≤ 1000000000000000000) : bL (dec n) = if n < 0 then 45 :: Lib.decDigits n.natAbs else Lib.decDigits n.natAbs := by
  rw [← itoaS_dec h0 h1]; unfold itoaS Lib.itoa bL; split
  · simp
  rename_i h
  simp
  rw [show n.toNat = n.natAbs by omega]
abbrev inN (n : Int) : Prop := -10000000000000000 < n ∧ n < 10000000000000000
theorem dec_no32 {n : Int} (h : inN n) : ∀ c ∈ bL (dec n), c ≠ 32 := by
  rw [dec_bL (by omega) (by omega)]
  have hd : ∀ c ∈ Lib.decDigits n.natAbs, c ≠ 32 := fun c hc e => by
    have := dd_dig _ c hc
    rw [e] at this
    exact absurd this.1 (by decide)
  split
  · intro c hc
    rcases List.mem_cons.1 hc with rfl | h1
    · decide
    exact hd c h1
  exact hd
theorem atoiV_dec {n : Int} (h : inN n) : gO (dec n) = (n, true) := by
  have hp := dd_parse n.natAbs [] (by omega)
  rw [List.append_nil] at hp
  have hm : Lib.parseMag (Lib.decDigits n.natAbs) = .ok n.natAbs := by
    unfold Lib.parseMag
    rw [if_neg (dd_ne _), hp]; rfl
  have ha : Lib.atoiAll (bL (dec n)) = .ok n := by
    rw [dec_bL (by omega) (by omega)]; split
    · rename_i hn
      unfold Lib.atoiAll; simp only [show (45 : UInt8).toNat = 45 from rfl, or_true, if_true, hm, not_true_eq_false, false_and, if_false, true_and]; rw [if_neg (by omega)]
      congr 1; omega
    rename_i hn
    obtain ⟨c, r, hc⟩ := List.exists_cons_of_ne_nil (dd_ne n.natAbs)
    have hd := dd_dig n.natAbs c (by rw [hc]; exact List.mem_cons_self)
    rw [hc] at hm ⊢
    unfold Lib.atoiAll
    have e1 : ¬ c.toNat = 45 := by omega
    have e2 : ¬ c.toNat = 43 := by omega
    simp only [e1, e2, or_self, if_false, hm, not_false_eq_true, true_and, false_and]; rw [if_neg (by omega)]
    congr 1; omega
  unfold gO; rw [show (dec n).data.toList = bL (dec n) from rfl, ha]
theorem nI_at {s : ByteArray} {a : Nat} {n : Int} (h : inN n) (hl : (dec n).size ≤ 8) (ha : a ≤ s.size) (hh : Has s a (bL (dec n ++ spB))) : nI s a = (n, true, a + ((dec n).size + 1)) := by
  rw [rM] at hh
  have hw := wI_at ha hh (dec_no32 h) (by rw [aK]; exact hl)
  unfold nI; rw [hw]; simp only [if_true, pE, atoiV_dec h, aK]
theorem dd_len17 {n : Int} (h : inN n) : (Lib.decDigits n.natAbs).length ≤ 17 := dd_len (k := 16) (by omega)
theorem mk_size (l : List UInt8) : (⟨l.toArray⟩ : ByteArray).size = l.length := by show l.toArray.size = _; simp
theorem dd_pos (u : Nat) : 1 ≤ (Lib.decDigits u).length := by
  have := dd_ne u
  cases h : Lib.decDigits u with
  | nil => exact absurd h this
  | cons c r => simp
theorem numBad_dd {u : Nat} {ng : Bool} (hl : (Lib.decDigits u).length ≤ 17) (hn : ng = true → 1 ≤ u) : rT ⟨(Lib.decDigits u).toArray⟩ ng = false := by
  have hp := dd_pos u
  unfold rT; rw [mk_size]
  by_cases h0 : u = 0
  · subst h0
    have : ng = false := by cases ng; rfl; exact absurd (hn rfl) (by omega)
    subst this; rw [dd_lo (by omega)]
    decide
  obtain ⟨c, r, hc, h48⟩ := dd_head u (by omega)
  have hb : aE ⟨(Lib.decDigits u).toArray⟩ 0 = (c.toNat : Int) := wP (by rw [hc]; rfl)
  rw [hb]
  have e1 : decide (((Lib.decDigits u).length : Int) = 0) = false := decide_eq_false (by omega)
  have e2 : decide (17 < ((Lib.decDigits u).length : Int)) = false := decide_eq_false (by omega)
  have e3 : decide ((c.toNat : Int) = 48) = false := decide_eq_false (by omega)
  rw [e1, e2, e3]; rfl
theorem numGo_dd (u : Nat) : iS ⟨(Lib.decDigits u).toArray⟩ (⟨(Lib.decDigits u).toArray⟩ : ByteArray).size = some (u : Int) := by
  rw [mk_size, numGo_val (dd_dig u) _ (Nat.le_refl _), List.take_length, dd_val]
theorem numS_dec {n : Int} (h : inN n) : numS (dec n) = some n := by
  have hb := dec_bL (n := n) (by omega) (by omega)
  have hl := dd_len17 h
  have hp := dd_pos n.natAbs
  by_cases hn : n < 0
  · rw [if_pos hn] at hb
    have hd : dec n = ⟨(45 :: Lib.decDigits n.natAbs).toArray⟩ := by rw [← hb, pE]
    have hng : rC (dec n) = true := by
      unfold rC; rw [hd, wP (i := 0) (c := 45) rfl, mk_size, List.length_cons]
      have e1 : decide (0 < (((Lib.decDigits n.natAbs).length + 1 : Nat) : Int)) = true := decide_eq_true (by omega)
      rw [e1]; rfl
    have hun : jP (dec n) = ⟨(Lib.decDigits n.natAbs).toArray⟩ := by
      unfold jP; rw [if_pos hng, ← pE ((dec n).extract 1 (dec n).size), ext_bL, hb, ← aK, hb]
      simp
    unfold numS; rw [hun, hng, numBad_dd hl (fun _ => by omega), numGo_dd]; simp only [Bool.false_eq_true, if_false, Option.map_some, if_true]
    congr 1; omega
  rw [if_neg hn] at hb
  have hd : dec n = ⟨(Lib.decDigits n.natAbs).toArray⟩ := by rw [← hb, pE]
  obtain ⟨c, r, hc⟩ := List.exists_cons_of_ne_nil (dd_ne n.natAbs)
  have hdg := dd_dig n.natAbs c (by rw [hc]; exact List.mem_cons_self)
  have hng : rC (dec n) = false := by
    unfold rC
    rw [hd, wP (i := 0) (c := c) (by rw [hc]; rfl)]
    have e1 : decide ((c.toNat : Int) = 45) = false := decide_eq_false (by omega)
    rw [e1, Bool.and_false]
  have hun : jP (dec n) = ⟨(Lib.decDigits n.natAbs).toArray⟩ := by
    unfold jP
    rw [hng]; simpa using hd
  unfold numS; rw [hun, hng, numBad_dd hl (fun h => by cases h), numGo_dd]; simp only [Bool.false_eq_true, if_false, Option.map_some]
  congr 1; omega
theorem uX {s : ByteArray} {a : Nat} {n : Int} (h : inN n) (ha : a ≤ s.size) (hh : Has s a (bL (dec n ++ spB))) : bA s (a : Int) = (n, ((a + ((dec n).size + 1) : Nat) : Int)) := by
  rw [rM] at hh
  have hw := wordS_at ha hh (dec_no32 h)
  unfold bA; rw [if_neg (by omega), Int.toNat_natCast, hw, pE, numS_dec h, aK]
abbrev inS (n : Int) : Prop := -10000000 < n ∧ n < 10000000
theorem dec_small {n : Int} (h : inS n) : (dec n).size ≤ 8 := by
  have hl : (Lib.decDigits n.natAbs).length ≤ 7 := dd_len (k := 6) (by omega)
  rw [← aK, dec_bL (by omega) (by omega)]; split
  · rw [List.length_cons]; omega
  omega
theorem numsI_at {s : ByteArray} : ∀ (ns : List Int) (a : Nat), (∀ n ∈ ns, inS n) → a ≤ s.size → Has s a (pC ns) → dR s ns.length a = (ns, true, a + (pC ns).length)
  | [], a, _, _, _ => by simp [dR, pC]
  | n :: r, a, hn, ha, hh => by
    have h0 : pC (n :: r) = bL (dec n ++ spB) ++ pC r := by simp [pC]
    rw [h0] at hh
    have hs := hn n List.mem_cons_self
    have hlen := hh.split.1.len ha
    have hl : (bL (dec n ++ spB)).length = (dec n).size + 1 := by rw [aK, ByteArray.size_append, bD]
    have h1 := nI_at (n := n) ⟨by omega, by omega⟩ (dec_small hs) ha hh.split.1
    rw [hl] at hlen
    have h2 := hh.split.2
    rw [hl] at h2
    have ih := numsI_at r _ (fun m hm => hn m (List.mem_cons_of_mem _ hm)) (by omega) h2
    rw [List.length_cons, dR, h1]; simp only [if_true, ih]; rw [h0, List.length_append, hl]; simp only [Prod.mk.injEq, true_and]; omega
def entL (e : Entry) : List UInt8 := bL (e.key ++ spB) ++ pC (iK e) ++ bL e.text
theorem key_no32 {k : ByteArray} (h : iJ k = true) : ∀ c ∈ bL k, c ≠ 32 := by
  intro c hc e; subst e
  obtain ⟨i, hi, he⟩ := List.mem_iff_getElem.1 hc
  have hb : aE k i = 32 := by
    unfold aE; rw [List.getD_eq_getElem?_getD]
    show ((((bL k)[i]?.getD 0).toNat : Nat) : Int) = _
    rw [List.getElem?_eq_getElem hi, he]; rfl
  rw [aK] at hi
  simp only [iJ, Bool.and_eq_true, List.all_eq_true, List.mem_range] at h
  have := h.1 i hi
  simp [tU, hb] at this
theorem entOk_all {e : Entry} (h : bF e = true) : iJ e.key = true ∧ (∀ n ∈ iK e, inS n) ∧ e.key.size ≤ 8 := by
  have hr := eL h
  refine ⟨?_, ?_, hr.2.2.2.2.2.2.2⟩
  · unfold bF at h; split at h
    · cases h
    rename_i hb
    simp [iA] at hb
    simp [hb]
  intro n hn
  simp only [iK, List.mem_cons, List.not_mem_nil, or_false] at hn
  rcases hn with rfl | rfl | rfl | rfl <;> exact ⟨by omega, by omega⟩
theorem eI_at {s : ByteArray} {a : Nat} {e : Entry} (h : bF e = true) (ha : a ≤ s.size) (hh : Has s a (entL e)) : eI s a = (e, true, a + (entL e).length) := by
  obtain ⟨hk, hn, h8⟩ := entOk_all h
  have hlen := hh.len ha
  unfold entL at hh hlen ⊢
  have hA := hh.split.1.split.1
  have hB := hh.split.1.split.2
  have hC := hh.split.2
  have hlk : (bL (e.key ++ spB)).length = e.key.size + 1 := by rw [aK, ByteArray.size_append, bD]
  simp only [List.length_append, hlk] at hlen hB hC ⊢
  rw [rM] at hA
  have h1 := wI_at ha hA (key_no32 hk) (by rw [aK]; exact h8)
  rw [aK, pE] at h1
  have h2 := numsI_at (iK e) _ hn (by omega) hB
  rw [show (iK e).length = 4 from rfl] at h2
  have h3 := tI_at (by omega) hC
  rw [aK, pE] at h3; unfold eI; rw [h1]; simp only [if_true]; rw [h2]; simp only [if_true]; rw [← Nat.add_assoc a (e.key.size + 1)] at h3; rw [show (iK e).getD 3 0 = (e.text.size : Int) from rfl]; rw [h3]; simp only [if_true, aK]; rw [show (iK e).getD 0 0 = e.seq from rfl, show (iK e).getD 1 0 = e.kind from rfl, show (iK e).getD 2 0 = e.n from rfl]; simp only [Prod.mk.injEq, true_and]; omega
theorem entS_at {s : ByteArray} {a : Nat} {e : Entry} (h : bF e = true) (ha : a ≤ s.size) (hh : Has s a (entL e)) : sZ s a = (e, ((a + (entL e).length : Nat) : Int)) := by
  obtain ⟨hk, hn, h8⟩ := entOk_all h
  have hlen := hh.len ha
  unfold entL at hh hlen ⊢
  have hA := hh.split.1.split.1
  have hB := hh.split.1.split.2
  have hC := hh.split.2
  have hlk : (bL (e.key ++ spB)).length = e.key.size + 1 := by rw [aK, ByteArray.size_append, bD]
  have hnl : pC (iK e) = bL (dec e.seq ++ spB) ++ bL (dec e.kind ++ spB) ++ bL (dec e.n ++ spB) ++ bL (dec (e.text.size : Int) ++ spB) := by simp [pC, iK]
  have hdl : ∀ n, (bL (dec n ++ spB)).length = (dec n).size + 1 := fun n => by rw [aK, ByteArray.size_append, bD]
  rw [rM] at hA
  have i1 := hn e.seq (by simp [iK])
  have i2 := hn e.kind (by simp [iK])
  have i3 := hn e.n (by simp [iK])
  have i4 := hn (e.text.size : Int) (by simp [iK])
  rw [hnl] at hB hC hlen ⊢
  have h1 := wordS_at ha hA (key_no32 hk)
  rw [aK, pE] at h1; rw [hlk] at hB
  have b4 := hB.split.2
  have b3 := hB.split.1.split.2
  have b2 := hB.split.1.split.1.split.2
  have b1 := hB.split.1.split.1.split.1
  simp only [List.length_append, hlk, hdl, aK] at b1 b2 b3 b4 hC hlen ⊢
  have f1 : e1 s a = (e.key, ((a + (e.key.size + 1) : Nat) : Int)) := h1
  have f2 : e2 s a = (e.seq, ((a + (e.key.size + 1) + ((dec e.seq).size + 1) : Nat) : Int)) := by
    unfold e2; rw [f1]; exact uX ⟨by omega, by omega⟩ (by omega) b1
  have f3 : e3 s a = (e.kind, ((a + (e.key.size + 1) + ((dec e.seq).size + 1) + ((dec e.kind).size + 1) : Nat) : Int)) := by
    unfold e3; rw [f2]; exact uX ⟨by omega, by omega⟩ (by omega) b2
  have f4 : e4 s a = (e.n, ((a + (e.key.size + 1) + ((dec e.seq).size + 1 + ((dec e.kind).size + 1)) + ((dec e.n).size + 1) : Nat) : Int)) := by
    unfold e4; rw [f3, Nat.add_assoc (a + (e.key.size + 1))]; exact uX ⟨by omega, by omega⟩ (by omega) b3
  have f5 : e5 s a = ((e.text.size : Int), ((a + (e.key.size + 1) + ((dec e.seq).size + 1 + ((dec e.kind).size + 1) + ((dec e.n).size + 1)) + ((dec (e.text.size : Int)).size + 1) : Nat) : Int)) := by
    unfold e5; rw [f4, Nat.add_assoc (a + (e.key.size + 1))]; exact uX ⟨by omega, by omega⟩ (by omega) b4
  have hb : vM s a = false := by
    unfold vM; rw [f5]
    simp
    omega
  have hx := hC.ext
  rw [aK, pE] at hx; unfold sZ; rw [hb, f1, f2, f3, f4, f5]; simp only [Bool.false_eq_true, if_false, Prod.mk.injEq]
  refine ⟨?_, by omega⟩
  rw [← Int.natCast_add, Int.toNat_natCast, Int.toNat_natCast]
  have e0 : a + (e.key.size + 1) + ((dec e.seq).size + 1 + ((dec e.kind).size + 1) + ((dec e.n).size + 1)) + ((dec (e.text.size : Int)).size + 1) = a + (e.key.size + 1 + ((dec e.seq).size + 1 + ((dec e.kind).size + 1) + ((dec e.n).size + 1) + ((dec (e.text.size : Int)).size + 1))) := by omega
  rw [e0, hx]
theorem entL_frStep (out : ByteArray) (e : Entry) : bL (mL out e) = bL out ++ entL e := by
  unfold mL entL; simp only [rM, pC, iK, List.flatMap_cons, List.flatMap_nil, List.append_assoc, List.append_nil]
theorem bodyTxt_L (ls : List Entry) : bL (bTx ls) = ls.flatMap entL := by
  have : ∀ (ls : List Entry) (out : ByteArray), bL (ls.foldl mL out) = bL out ++ ls.flatMap entL := by
    intro ls
    induction ls with
    | nil => intro out; simp
    | cons e r ih => intro out; rw [List.foldl_cons, ih, entL_frStep, List.flatMap_cons, List.append_assoc]
  unfold bTx
  rw [this]; rfl
theorem entL_pos (e : Entry) : 1 ≤ (entL e).length := by
  unfold entL
  rw [List.length_append, List.length_append, aK, ByteArray.size_append, bD]; omega
theorem flat_len (r : List Entry) : r.length ≤ (r.flatMap entL).length := by
  induction r with
  | nil => simp
  | cons e r ih =>
    have := entL_pos e
    rw [List.flatMap_cons, List.length_append, List.length_cons]; omega
theorem innerI_at {s : ByteArray} : ∀ (r : List Entry) (f a : Nat) (out : List Entry), (∀ e ∈ r, bF e = true) → a ≤ s.size → Has s a (r.flatMap entL) → a + (r.flatMap entL).length = s.size → out.length + r.length ≤ 12 → r.length ≤ f → iB s f a out = (out ++ r, true)
  | [], f, a, out, _, _, _, hl, _, _ => by
    rw [innerI_end (by simp at hl; omega), List.append_nil]
  | e :: r, 0, a, out, _, _, _, _, _, hf => by simp at hf
  | e :: r, f + 1, a, out, he, ha, hh, hl, h12, hf => by
    rw [List.flatMap_cons] at hh hl
    have hp := entL_pos e
    rw [List.length_append] at hl
    have h1 := eI_at (he e List.mem_cons_self) ha hh.split.1
    rw [List.length_cons] at h12 hf
    rw [iB, if_pos (by omega), h1]
    have e1 : decide (12 ≤ (out.length : Int)) = false := decide_eq_false (by omega)
    simp only [e1, Bool.not_true, Bool.or_self, Bool.false_eq_true, if_false]
    rw [innerI_at r f _ _ (fun x hx => he x (List.mem_cons_of_mem _ hx)) (by omega) hh.split.2 (by omega) (by rw [List.length_append, List.length_singleton]; omega) (by omega)]
    simp
theorem bodyGo_at {s : ByteArray} : ∀ (r : List Entry) (f a : Nat) (out : List Entry), (∀ e ∈ r, bF e = true) → a ≤ s.size → Has s a (r.flatMap entL) → a + (r.flatMap entL).length = s.size → out.length + r.length ≤ 12 → r.length < f → jL s f (a : Int) out = out ++ r
  | [], 0, a, out, _, _, _, _, _, hf => by simp at hf
  | [], f + 1, a, out, _, _, _, hl, _, _ => by
    simp at hl
    have e1 : decide ((a : Int) < (s.size : Int)) = false := decide_eq_false (by omega)
    rw [jL, e1]; simp
  | e :: r, 0, a, out, _, _, _, _, _, hf => by simp at hf
  | e :: r, f + 1, a, out, he, ha, hh, hl, h12, hf => by
    rw [List.flatMap_cons] at hh hl
    have hp := entL_pos e
    rw [List.length_append] at hl
    have h1 := entS_at (he e List.mem_cons_self) ha hh.split.1
    rw [List.length_cons] at h12 hf
    rw [jL, if_pos (by simp; omega), Int.toNat_natCast, h1]
    simp only
    rw [bodyGo_at r f _ _ (fun x hx => he x (List.mem_cons_of_mem _ hx)) (by omega) hh.split.2 (by omega) (by rw [List.length_append, List.length_singleton]; omega) (by omega)]
    simp
theorem Has.self (s : ByteArray) : Has s 0 (bL s) := by unfold Has; rw [List.drop_zero, List.take_length]
theorem inner_body {b : List Entry} (h : isB b = true) : iB (bTx b) (bTx b).size 0 [] = (b, true) := by
  obtain ⟨h1, h2, h3⟩ := cK h
  have hs := Has.self (bTx b)
  have hl := aK (bTx b)
  rw [bodyTxt_L] at hs hl
  have hf := flat_len b
  rw [innerI_at b _ 0 [] h1 (Nat.zero_le _) hs (by omega) (by simpa using h3) (by omega)]; rfl
theorem bodyS_body {b : List Entry} (h : isB b = true) : bodyS (bTx b) = b := by
  obtain ⟨h1, h2, h3⟩ := cK h
  have hs := Has.self (bTx b)
  have hl := aK (bTx b)
  rw [bodyTxt_L] at hs hl
  have := bodyGo_at b 14 0 [] h1 (Nat.zero_le _) hs (by omega) (by simpa using h3) (by omega)
  unfold bodyS
  rw [show (0 : Int) = ((0 : Nat) : Int) from rfl, this]; rfl
theorem body_small {b : List Entry} (h : isB b = true) : (bTx b).size ≤ 1884 := by
  obtain ⟨h1, h2, h3⟩ := cK h
  have := qV b ⟨#[]⟩ fun e he => by have := eL (h1 e he); omega
  have h0 : (⟨#[]⟩ : ByteArray).size = 0 := rfl
  unfold bTx; omega
section
variable {b : List Entry} {s t : ByteArray} {a : Nat}
theorem frame_L (h : isB b = true) : bL (fTx b) = bL (dec ((bTx b).size : Int) ++ spB) ++ bL (bTx b) ++ [10] := by
  unfold fTx
  rw [if_pos h, rM, rM]; rfl
theorem frame_size (h : isB b = true) : (fTx b).size = (dec ((bTx b).size : Int)).size + 1 + (bTx b).size + 1 := by
  rw [← aK, frame_L h, List.length_append, List.length_append, aK, aK, ByteArray.size_append, bD]; rfl
theorem Has.extT (h : Has s a (bL t)) : s.extract a (a + t.size) = t := by
  have := h.ext
  rw [aK, pE] at this; exact this
theorem bI_at (h : isB b = true) (ha : a ≤ s.size) (hh : Has s a (bL (fTx b))) : bI s a = (b, true, a + (fTx b).size) := by
  have hsm := body_small h
  have hx := hh.extT
  have hlen := hh.len ha
  rw [aK] at hlen
  rw [frame_size h] at hx hlen ⊢
  rw [frame_L h] at hh
  have hA := hh.split.1.split.1
  have hB := hh.split.1.split.2
  have hC := hh.split.2
  have hl : ∀ n, (bL (dec n ++ spB)).length = (dec n).size + 1 := fun n => by rw [aK, ByteArray.size_append, bD]
  simp only [List.length_append, hl, aK] at hB hC
  have h1 := nI_at (n := ((bTx b).size : Int)) ⟨by omega, by omega⟩ (dec_small ⟨by omega, by omega⟩) ha hA
  have h2 := tI_at (by omega) hB
  rw [aK, pE] at h2
  have h3 := tI_at (by omega) hC
  rw [show ((([10] : List UInt8).length : Nat) : Int) = 1 from rfl, ← Nat.add_assoc a] at h3
  have hbad : bBad s a (a + ((dec ((bTx b).size : Int)).size + 1) + (bTx b).size + ([10] : List UInt8).length) b = false := by
    unfold bBad
    rw [h, show a + ((dec ((bTx b).size : Int)).size + 1) + (bTx b).size + ([10] : List UInt8).length = a + ((dec ((bTx b).size : Int)).size + 1 + (bTx b).size + 1) by simp only [List.length_singleton]; omega, hx]
    simp
  rw [List.length_singleton] at hbad; unfold bI; rw [h1]; simp only [if_true, h2, h3, inner_body h, hbad, Bool.false_eq_true, if_false, List.length_singleton]
  refine Prod.ext rfl (Prod.ext rfl ?_)
  show (_ : Nat) = _
  simp only
  omega
theorem frameS_at (h : isB b = true) (ha : a ≤ s.size) (hh : Has s a (bL (fTx b))) : aW s a = (b, ((a + (fTx b).size : Nat) : Int)) := by
  have hsm := body_small h
  have hx := hh.extT
  have hlen := hh.len ha
  rw [aK] at hlen
  rw [frame_size h] at hx hlen ⊢
  rw [frame_L h] at hh
  have hA := hh.split.1.split.1
  have hB := hh.split.1.split.2
  have hl : ∀ n, (bL (dec n ++ spB)).length = (dec n).size + 1 := fun n => by rw [aK, ByteArray.size_append, bD]
  simp only [hl] at hB
  have h1 := uX (n := ((bTx b).size : Int)) ⟨by omega, by omega⟩ ha hA
  have hbx := hB.extT
  have hb : iI s a = false := by
    unfold iI; rw [h1]
    simp
    omega
  have hf : mT s a = b := by
    unfold mT; rw [h1]
    simp only
    rw [Int.toNat_natCast, ← Int.natCast_add, Int.toNat_natCast, hbx, bodyS_body h]
  unfold aW; rw [hb, hf, h1]; simp only [Bool.false_eq_true, if_false]
  have e : (((a + ((dec ((bTx b).size : Int)).size + 1) : Nat) : Int) + ((bTx b).size : Int) + 1) = ((a + ((dec ((bTx b).size : Int)).size + 1 + (bTx b).size + 1) : Nat) : Int) := by omega
  rw [e, Int.toNat_natCast, hx]
  simp
theorem Has.of_toList {a b : Nat} (h : t.toList = (s.extract a b).toList) (hab : a ≤ b) (hb : b ≤ s.size) : Has s a (bL t) := by
  have e : ∀ x : ByteArray, x.toList = bL x := fun x => by rw [ByteArray.toList_eq]; rfl
  rw [e, e] at h
  have hl := congrArg List.length h
  rw [aK, aK, mA s a b hb] at hl
  exact Has.of_ext h.symm (by rw [aK]; omega)
theorem frame_eq (s : ByteArray) (hs : s.size ≤ 1048576) (a : Nat) (ha : a ≤ s.size) : (0 ≤ (aW s a).2 ↔ (bI s a).2.1 = true) ∧ (0 ≤ (aW s a).2 → (bI s a).1 = (aW s a).1 ∧ (((bI s a).2.2 : Nat) : Int) = (aW s a).2) := by
  have hto : 0 ≤ (aW s a).2 → bI s a = ((aW s a).1, true, (aW s a).2.toNat) := fun h => by
    have hb := frameS_ok s hs a h
    have hg := rX s a h
    have hle := wJ s a
    have hh := Has.of_toList (frameS_txt s a h) (by omega) (by omega)
    have h1 := frameS_at hb ha hh
    rw [bI_at hb ha hh]; rw [Prod.ext_iff] at h1; simp only [Prod.mk.injEq, true_and]
    have h2 := h1.2
    simp only at h2
    omega
  have hfrom : (bI s a).2.1 = true → 0 ≤ (aW s a).2 := fun h => by
    have hg := bI_le (s := s) ha
    generalize hr : bI s a = r at h hg
    unfold bI at hr; split at hr
    · split at hr
      · split at hr
        · split at hr
          · split at hr
            · subst hr; cases h
            rename_i hbad
            subst hr; unfold bBad at hbad
            simp only [Bool.or_eq_true, Bool.not_eq_true', not_or, Bool.not_eq_false, beq_iff_eq] at hbad
            simp only at hg
            have hh := Has.of_toList hbad.2 (by omega) (by omega)
            rw [frameS_at hbad.1 ha hh]
            simp only; omega
          subst hr; cases h
        subst hr; cases h
      subst hr; cases h
    subst hr; cases h
  refine ⟨⟨fun h => by rw [hto h], hfrom⟩, fun h => ?_⟩
  rw [hto h]
  exact ⟨rfl, by simp only; omega⟩
end
theorem read_eq (s : ByteArray) (hs : s.size ≤ 1048576) : ∀ (f g a : Nat) (out : List (List Entry)), a ≤ s.size → s.size - a < f → s.size - a ≤ g → (rF s f a out).1 = (eY s g a out).1 ∧ (((rF s f a out).2 : Nat) : Int) = (eY s g a out).2
  | 0, g, a, out, _, hf, _ => by omega
  | f + 1, 0, a, out, ha, hf, hg => by
    have h1 := bI_le (s := s) ha
    have hno : ¬ (bI s a).2.1 = true := fun h => by have := h1.2.2 h; omega
    rw [rF, if_neg hno, eY]
    exact ⟨rfl, rfl⟩
  | f + 1, g + 1, a, out, ha, hf, hg => by
    have h1 := bI_le (s := s) ha
    obtain ⟨h2, h3⟩ := frame_eq s hs a ha
    by_cases h : (bI s a).2.1 = true
    · have hp := h1.2.2 h
      have h0 := h2.2 h
      obtain ⟨e1, e2⟩ := h3 h0
      rw [rF, if_pos h, eY, if_pos (by omega), if_neg (by omega), ← e1, ← e2, Int.toNat_natCast]
      exact read_eq s hs f g _ _ (by omega) (by omega) (by omega)
    have h0 : (aW s a).2 < 0 := by
      refine Int.not_le.1 fun h0 => h (h2.1 h0)
    rw [rF, if_neg h, eY]; split
    · first | exact ⟨rfl, rfl⟩ | (rw [if_pos h0]; exact ⟨rfl, rfl⟩)
    exact ⟨rfl, rfl⟩
theorem readAll_1 (s : ByteArray) (hs : s.size ≤ 1048576) : (raI s).1 = (dC s).1 := (read_eq s hs _ _ 0 [] (Nat.zero_le _) (by omega) (by omega)).1
theorem readAll_2 (s : ByteArray) (hs : s.size ≤ 1048576) : (((raI s).2 : Nat) : Int) = (dC s).2 := (read_eq s hs _ _ 0 [] (Nat.zero_le _) (by omega) (by omega)).2
theorem open_eq {s : Store} (h : s.disk.log.size ≤ 1048576) : xR s = nF s := by
  unfold xR nF; rw [readAll_1 _ h, ← fg_mem]
theorem up_eq {s : Store} (h : s.disk.log.size ≤ 1048576) (hq : 0 ≤ s.disk.seq) : upI s = upS s := by
  have h2 := readAll_2 s.disk.log h
  have hb : vT s = upBad s := by
    unfold vT upBad; rw [treeOk_eq, show decide (s.disk.seq < 0) = false from decide_eq_false (by omega), Bool.or_false, decide_eq_decide.2 (show s.tree.levels = s.disk.levels ↔ s.disk.levels = s.tree.levels from ⟨Eq.symm, Eq.symm⟩)]
  unfold upI upS; rw [hb, readAll_1 _ h, ← fg_mem, h2]; split
  · rfl
  split
  · rename_i hn
    rw [decide_eq_false hn]; rfl
  rename_i hn
  rw [decide_eq_true (Classical.not_not.1 hn), Bool.true_and, Bool.and_comm]
theorem dkOk_eq (d : Disk) (s : Store) (hs : s.disk = d) : nP d = (!nA s && eS ⟨d.seq, [], d.levels, []⟩) := by
  subst hs; unfold nP nA; rw [treeOk_eq]; split
  · rename_i h
    have e : ((decide (12000 < (s.disk.log.size : Int)) || decide (s.disk.safe < 0)) || decide ((s.disk.log.size : Int) < s.disk.safe)) = true := by
      simp only [Bool.or_eq_true, decide_eq_true_eq]; omega
    rw [e]; rfl
  rename_i h
  have e : ((decide (12000 < (s.disk.log.size : Int)) || decide (s.disk.safe < 0)) || decide ((s.disk.log.size : Int) < s.disk.safe)) = false := by
    simp only [Bool.or_eq_false_iff, decide_eq_false_iff_not]; omega
  rw [e]; rfl
theorem treeOk_seq {t : Tree} (h : eS t = true) : 0 ≤ t.seq := by
  unfold eS at h; split at h
  · cases h
  rename_i hb
  simp [sM] at hb
  omega
theorem tQ (s : Store) : aM s = eA s := by
  have hd := dkOk_eq s.disk s rfl
  unfold aM eA; rw [hd]
  cases h1 : nA s with
  | true => rfl
  | false =>
    cases h2 : eS ⟨s.disk.seq, [], s.disk.levels, []⟩ with
    | false => rfl
    | true =>
      have hq : 0 ≤ s.disk.seq := treeOk_seq h2
      have hl : s.disk.log.size ≤ 12000 := by
        simp [nA] at h1; omega
      simp only [Bool.not_false, Bool.and_self, Bool.true_eq_false, Bool.false_eq_true, if_false]; split
      · exact up_eq (by omega) hq
      have ho := open_eq (s := s) (by omega)
      have hol := openS_lg s hl
      have hdo := dkOk_eq (nF s).disk (nF s) rfl
      have hq2 : (nF s).disk.seq = s.disk.seq := rfl
      have hlv : (nF s).disk.levels = s.disk.levels := rfl
      have hsf : (nF s).disk.safe = ((nF s).disk.log.size : Int) := rfl
      have hb : nA (nF s) = false := by
        unfold nA; rw [hsf]
        simp only [Bool.or_eq_false_iff, decide_eq_false_iff_not]; omega
      rw [hb, hq2, hlv, h2] at hdo; unfold rD
      rw [ho, hdo, if_neg (by decide), up_eq (by omega) (by rw [hq2]; exact hq)]
theorem treeSame_eq {a b : Tree} (h : gP a b = true) : a = b := by
  unfold gP at h
  simp only [Bool.and_eq_true, decide_eq_true_eq] at h
  cases a; cases b
  simp only at h
  obtain ⟨⟨⟨rfl, rfl⟩, rfl⟩, rfl⟩ := h
  rfl
theorem szGo_ok {α : Type} {f : α → Int → Int} (hf : ∀ x n, 0 ≤ n → Lq (f x n) n) : ∀ (ls : List α) (n : Int), 0 ≤ n → 0 ≤ nO f ls n → ∀ x ∈ ls, ∃ m, 0 ≤ m ∧ m ≤ n ∧ 0 ≤ f x m
  | [], _, _, _, x, hx => by cases hx
  | y :: r, n, h0, h, x, hx => by
    unfold nO at h
    have hl := hf y n h0
    unfold Lq at hl; split at h
    · omega
    rename_i hy
    rcases List.mem_cons.1 hx with rfl | h1
    · exact ⟨n, h0, Int.le_refl _, by omega⟩
    obtain ⟨m, a, b, c⟩ := szGo_ok hf r (f y n) (by omega) h x h1
    exact ⟨m, a, by omega, c⟩
theorem szL_ok {α : Type} {f : α → Int → Int} (hf : ∀ x n, 0 ≤ n → Lq (f x n) n) {ls : List α} {n : Int} (h : 0 ≤ szL f ls n) : (ls.length : Int) ≤ n ∧ ∀ x ∈ ls, ∃ m, 0 ≤ m ∧ m ≤ n ∧ 0 ≤ f x m := by
  unfold szL at h; split at h
  · omega
  refine ⟨by omega, fun x hx => ?_⟩
  obtain ⟨m, a, b, c⟩ := szGo_ok hf ls _ (by omega) h x hx
  exact ⟨m, a, by omega, c⟩
theorem kGo_sz {α : Type} {f : α → Int → Int} {g : α → Int → Int} (hf : ∀ x n, 0 ≤ n → Lq (f x n) n) (hg : ∀ x n k, 0 ≤ n → 0 ≤ f x n → g x k ≤ k + 5 + 5 * (n - f x n)) : ∀ (ls : List α) (n k : Int), 0 ≤ n → 0 ≤ nO f ls n → kGo g ls k ≤ k + 5 * (ls.length : Int) + 5 * (n - nO f ls n)
  | [], n, k, _, _ => by simp [kGo, nO]
  | x :: r, n, k, h0, h => by
    unfold nO at h ⊢
    have hl := hf x n h0
    unfold Lq at hl; split at h
    · omega
    rename_i hx
    have h1 := hg x n k h0 (by omega)
    have h2 := kGo_sz hf hg r (f x n) (g x k) (by omega) h
    rw [if_neg hx]; simp only [kGo, List.length_cons]; omega
theorem kL_sz {α : Type} {f : α → Int → Int} {g : α → Int → Int} (hf : ∀ x n, 0 ≤ n → Lq (f x n) n) (hg : ∀ x n k, 0 ≤ n → 0 ≤ f x n → g x k ≤ k + 5 + 5 * (n - f x n)) (ls : List α) (n k : Int) (h : 0 ≤ szL f ls n) : kGo g ls k ≤ k + 5 * (n - szL f ls n) := by
  unfold szL at h ⊢
  split at h
  · omega
  rename_i hx
  have := kGo_sz hf hg ls _ k (by omega) h
  rw [if_neg hx]; omega
theorem kEnts_sz (ls : List Entry) (n k : Int) (h : 0 ≤ szEntryS ls n) : kGo stE ls k ≤ k + 5 * (n - szEntryS ls n) :=
  kL_sz qA (fun x n k h0 _ => by have := qA x n h0; unfold Lq at this; unfold stE; omega) ls n k h
theorem kRun_sz (r : Run) (n k : Int) (h : 0 ≤ nU r n) : stR r k ≤ k + 5 + 5 * (n - nU r n) := by
  unfold nU at h ⊢
  split at h
  · omega
  rename_i hx
  have := kEnts_sz r.ents n k h
  rw [if_neg hx]; unfold stR; omega
theorem sEnts_sz {ls : List Entry} {n : Int} (hn : n ≤ 1048576) (h : 0 ≤ szEntryS ls n) : gD ls := by
  obtain ⟨h1, h2⟩ := szL_ok qA h
  refine ⟨by omega, fun e he => ?_⟩
  obtain ⟨m, a, b, c⟩ := h2 e he
  unfold hP at c
  split at c
  · omega
  split at c
  · omega
  exact ⟨by omega, by omega⟩
theorem kRuns_sz (rs : List Run) (n k : Int) (h : 0 ≤ szRunS rs n) : kGo stR rs k ≤ k + 5 * (n - szRunS rs n) := kL_sz zS (fun x n k _ h => kRun_sz x n k h) rs n k h
theorem sRun_sz {r : Run} {n : Int} (hn : n ≤ 1048576) (h : 0 ≤ nU r n) : gD r.ents := by
  unfold nU at h; split at h
  · omega
  exact sEnts_sz hn h
theorem sRuns_sz {rs : List Run} {n : Int} (hn : n ≤ 1048576) (h : 0 ≤ szRunS rs n) : sRuns rs := by
  obtain ⟨h1, h2⟩ := szL_ok zS h
  refine ⟨by omega, fun r hr => ?_⟩
  obtain ⟨m, a, b, c⟩ := h2 r hr
  exact sRun_sz (by omega) c
theorem sLvs_sz {ls : List (List Run)} {n : Int} (hn : n ≤ 1048576) (h : 0 ≤ szRunSS ls n) : mR ls := by
  obtain ⟨h1, h2⟩ := szL_ok wO h
  refine ⟨by omega, fun r hr => ?_⟩
  obtain ⟨m, a, b, c⟩ := h2 r hr
  exact sRuns_sz (by omega) c
theorem kLvs_sz (ls : List (List Run)) (n k : Int) (h : 0 ≤ szRunSS ls n) : kGo kRuns ls k ≤ k + 5 * (n - szRunSS ls n) :=
  kL_sz wO (fun x n k _ h => by have : kRuns x k ≤ k + 5 * (n - szRunS x n) := kRuns_sz x n k h; omega) ls n k h
theorem kInts_len (ls : List Int) (k : Int) : kGo stI ls k = k + ls.length := by
  induction ls generalizing k with
  | nil => simp [kGo]
  | cons x r ih => rw [kGo, ih, List.length_cons]; unfold stI; omega
theorem tree_sz {t : Tree} {n : Int} (h0 : 0 ≤ n) (hn : n ≤ 1048576) (h : 0 ≤ eD t n) : gN t ∧ ∀ k, iT t k ≤ k + 5 * (n - eD t n) := by
  unfold eD at h ⊢
  have l1 := qX t.mem n h0
  unfold Lq at l1; split at h
  · omega
  rename_i e1
  have l2 := pT t.levels (szEntryS t.mem n) (by omega)
  unfold Lq at l2; split at h
  · omega
  rename_i e2
  rw [if_neg e1, if_neg e2]
  unfold tR at h ⊢
  split at h
  · omega
  rename_i e3
  rw [if_neg e3]
  refine ⟨⟨sEnts_sz hn (by omega), sLvs_sz (by omega) (by omega : 0 ≤ szRunSS t.levels (szEntryS t.mem n)), by omega⟩, fun k => ?_⟩
  unfold iT; rw [kInts_len]
  have a1 := kEnts_sz t.mem n k (by omega)
  have a2 := kLvs_sz t.levels (szEntryS t.mem n) (kGo stE t.mem k) (by omega)
  omega
theorem store_sz {s : Store} {n : Int} (h0 : 0 ≤ n) (hn : n ≤ 1048576) (h : 0 ≤ lL s n) : bM s ∧ s.disk.log.size ≤ 1048576 ∧ ∀ k, gT s k ≤ k + 5 * (n - lL s n) := by
  unfold lL at h ⊢
  have l1 := szTree_le s.tree n h0
  unfold Lq at l1; split at h
  · omega
  rename_i e1
  rw [if_neg e1]
  obtain ⟨a1, a2⟩ := tree_sz h0 hn (by omega : 0 ≤ eD s.tree n)
  unfold pU at h ⊢
  split at h
  · omega
  rename_i e2
  rw [if_neg e2]
  refine ⟨⟨a1, sLvs_sz (by omega) h⟩, by omega, fun k => ?_⟩
  have b1 := a2 k
  have b2 := kLvs_sz s.disk.levels (eD s.tree n - (s.disk.log.size : Int)) (iT s.tree k) h
  show kGo kRuns s.disk.levels (iT s.tree k) ≤ _
  omega
theorem kGo_add {α : Type} {g : α → Int → Int} (hg : ∀ x k, g x k = k + g x 0) : ∀ (ls : List α) (k : Int), kGo g ls k = k + kGo g ls 0
  | [], k => by simp [kGo]
  | x :: r, k => by
    rw [kGo, kGo, kGo_add hg r (g x k), kGo_add hg r (g x 0), hg x k]; omega
theorem wN (ls : List Entry) (k : Int) : kGo stE ls k = k + 5 * ls.length := by
  induction ls generalizing k with
  | nil => simp [kGo]
  | cons x r ih => rw [kGo, ih, List.length_cons]; unfold stE; omega
theorem kLv_add (ls : List (List Run)) (k : Int) : kGo kRuns ls k = k + kGo kRuns ls 0 :=
  kGo_add (fun x k => kGo_add (fun r k => by unfold stR; rw [wN, wN r.ents 0]; omega) x k) ls k
theorem hY (s : Store) (k : Int) : gT s k = k + (5 * (s.tree.mem.length : Int) + kGo kRuns s.tree.levels 0 + (s.tree.snaps.length : Int) + kGo kRuns s.disk.levels 0) := by
  show kGo kRuns s.disk.levels (kGo stI s.tree.snaps (kGo kRuns s.tree.levels (kGo stE s.tree.mem k))) = _
  rw [kLv_add s.disk.levels, kInts_len, kLv_add s.tree.levels, wN]; omega
theorem sT (ls : List (List Run)) : 0 ≤ kGo kRuns ls 0 := mY kRuns (fun x k => mY stR stR_ge x k) ls 0
theorem noFz_ent (ls : List Entry) : jZ (ls.map enA) = true := sK enA (fun _ => rfl) ls
theorem noFz_int (ls : List Int) : jZ (ls.map inA) = true := sK inA (fun _ => rfl) ls
theorem noFz_runs (ls : List (List Run)) : jZ (ls.map rsO) = true := sK rsO (fun rs => by
  show jZ (rs.map runOwn) = true
  exact sK runOwn (fun r => by
    show (jZ (r.ents.map enA) && (true && true)) = true
    rw [noFz_ent]; rfl) rs) ls
theorem sto_nf (s : Store) : ∀ p ∈ [((0 : Nat), AObj.row 65 5 (s.tree.mem.map enA)), (1, .row 107 1 (s.tree.levels.map rsO)), (2, .row 3 1 (s.tree.snaps.map inA)), (3, .row 107 1 (s.disk.levels.map rsO))], p.2.noFz = true := by
  intro p hp
  simp only [List.mem_cons, List.not_mem_nil, or_false] at hp
  rcases hp with rfl | rfl | rfl | rfl
  · exact noFz_ent _
  · exact noFz_runs _
  · exact noFz_int _
  exact noFz_runs _
theorem zM (s : Store) (k : Int) : k ≤ gT s k := by
  have p1 := sT s.tree.levels
  have p2 := sT s.disk.levels
  rw [hY]; omega
section
variable {α : Type} {t n sz o : Nat} {a : Addr} {cs : List Value} {g : α → AV} {good : α → Prop}
section
variable {H : Type} {enc : TypeId × Value → H} {w : World} {base : Nat} {sp : Nat → Bool} {held : Bool} {ρ : Nat → Value} {av : Nat → Prop}
theorem cells_at (h : w.cells? base a n = some cs) : cs.length = n ∧ ∀ (k : Nat) (v : Value), cs[k]? = some v → w.cell? (a.add k) = some v := by
  unfold World.cells? at h
  split at h
  · have hl := mapM_some_length h
    refine ⟨by simpa using hl, fun k v hk => ?_⟩
    have hkl := (List.getElem?_eq_some_iff.1 hk).1
    have hkn : k < n := by have : cs.length = n := by simpa using hl
                           omega
    have := mapM_some_get h k k (by simp [hkn])
    rw [this]; exact hk
  cases h
theorem add_none (h : a.spot = none) (n : Nat) : a.add n = ⟨a.block, a.off + n, none⟩ := by
  unfold Addr.add; split
  · rename_i e; subst e; cases a; simp at h; subst h; rfl
  cases a; rfl
theorem cell_spot {v : Value} (h : w.cell? a = some v) : a.spot = none ∧ ∃ cells t fr, w.heap[a.block]? = some (.cells cells t fr) ∧ cells[a.off]? = some v := by
  unfold World.cell? at h
  split at h
  · rename_i c t fr hh
    cases hs : a.spot with
    | none => rw [hs] at h; exact ⟨rfl, c, t, fr, hh, by simpa using h⟩
    | some s => rw [hs] at h; simp at h
  cases h
theorem rep_sl (val : α → Value) (f : α → AV) (good : α → Prop) (sz : Nat) (hsz : 0 < sz) (hcl : ∀ x, good x → (val x).cells.size = sz) (hrep : ∀ x, good x → Rep ρ av w.heap (f x) (val x))
    (hav : ∀ b, ¬ av b) {len cap : Nat} (hlc : len ≤ cap) (hcm : cap ≤ maxLen)
    (h : ∀ i, i < len → ∃ x, w.cells? base (a.add (i * sz)) sz = some (val x).cells.toList ∧ good x) :
    ∃ xs : List α, xs.length = len ∧ (∀ x ∈ xs, good x) ∧ Rep ρ av w.heap (.sl sz (xs.map f)) (.slice (some a) len cap) := by
  have hlist : ∀ n, n ≤ len → ∃ xs : List α, xs.length = n ∧ ∀ (i : Nat) (x : α), xs[i]? = some x → w.cells? base (a.add (i * sz)) sz = some (val x).cells.toList ∧ good x := by
    intro n
    induction n with
    | zero => exact fun _ => ⟨[], rfl, fun i x hi => by simp at hi⟩
    | succ n ih =>
      intro hn
      obtain ⟨xs, h1, h2⟩ := ih (by omega)
      obtain ⟨x, hx⟩ := h n (by omega)
      refine ⟨xs ++ [x], by simp [h1], fun i y hi => ?_⟩
      rcases Nat.lt_or_ge i n with h3 | h3
      · rw [List.getElem?_append_left (by omega)] at hi
        exact h2 i y hi
      rw [List.getElem?_append_right (by omega)] at hi
      have hin : i = n := by
        have := (List.getElem?_eq_some_iff.1 hi).1
        simp at this; omega
      subst hin; rw [h1] at hi; simp at hi; subst hi; exact hx
  obtain ⟨xs, h1, h2⟩ := hlist len (Nat.le_refl _)
  refine ⟨xs, h1, fun x hx => ?_, ?_⟩
  · obtain ⟨i, hi⟩ := List.getElem?_of_mem hx
    exact (h2 i x hi).2
  rcases Nat.eq_zero_or_pos len with h0 | h0
  · have : xs = [] := List.eq_nil_of_length_eq_zero (by omega)
    subst this; rw [h0]
    exact .sl0 sz (some a) cap hcm
  obtain ⟨x0, hx0⟩ : ∃ x0, xs[0]? = some x0 := ⟨_, List.getElem?_eq_getElem (by omega)⟩
  have hg : ∀ (i : Nat) (x : α), xs[i]? = some x → (val x).cells.size = sz := fun i x hi => hcl x (h2 i x hi).2
  have hcell : ∀ (i : Nat) (x : α), xs[i]? = some x → ∀ k v, (val x).cells.toList[k]? = some v → w.cell? ((a.add (i * sz)).add k) = some v := fun i x hi => (cells_at (h2 i x hi).1).2
  obtain ⟨v0, hv0⟩ : ∃ v0, (val x0).cells.toList[0]? = some v0 := ⟨_, List.getElem?_eq_getElem (by rw [Array.length_toList, hg 0 x0 hx0]; exact hsz)⟩
  have hc0 := hcell 0 x0 hx0 0 v0 hv0
  have h00 : (a.add (0 * sz)).add 0 = a := by simp [Addr.add]
  rw [h00] at hc0
  obtain ⟨hspot, cells, t, fr, hh, _⟩ := cell_spot hc0
  have hget : ∀ (i : Nat) (x : α), xs[i]? = some x → ∀ k v, (val x).cells.toList[k]? = some v → cells[a.off + i * sz + k]? = some v := fun i x hi k v hk => by
    have := hcell i x hi k v hk
    rw [add_none hspot, add_none rfl] at this
    obtain ⟨_, c2, t2, fr2, hh2, h3⟩ := cell_spot this
    have hh2' : w.heap[a.block]? = some (.cells c2 t2 fr2) := hh2
    rw [hh] at hh2'
    cases hh2'
    exact h3
  have hlen : (xs.map f).length = len := by rw [List.length_map, h1]
  have ha : a = ⟨a.block, a.off, none⟩ := by cases a; simp at hspot; subst hspot; rfl
  have hvals : ∀ (i : Nat) (x : α), xs[i]? = some x → ((xs[i]?).map val).getD undef = val x := fun i x hi => by rw [hi]; rfl
  have := Rep.sl (ρ := ρ) (av := av) (hp := w.heap) sz (xs.map f) a.block a.off cap cells t fr (fun i => ((xs[i]?).map val).getD undef) (by omega) (by omega) hcm (hav _) hh (fun j y hj => by
    rw [List.getElem?_map] at hj
    obtain ⟨x, hx, rfl⟩ := Option.map_eq_some_iff.1 hj
    show Rep ρ av w.heap (f x) (((xs[j]?).map val).getD undef)
    rw [hvals j x hx]
    exact hrep x (h2 j x hx).2) (fun j hj => by
    obtain ⟨x, hx⟩ : ∃ x, xs[j]? = some x := ⟨_, List.getElem?_eq_getElem (by omega)⟩
    show (((xs[j]?).map val).getD undef).cells.size = sz ∧ _
    rw [hvals j x hx]
    refine ⟨hg j x hx, fun k hk => ?_⟩
    obtain ⟨v, hv⟩ : ∃ v, (val x).cells.toList[k]? = some v := ⟨_, List.getElem?_eq_getElem (by rw [Array.length_toList, hg j x hx]; exact hk)⟩
    show cells[a.off + j * sz + k]? = (((xs[j]?).map val).getD undef).cells[k]?
    rw [hvals j x hx, hget j x hx k v hv]
    rw [← Array.getElem?_toList, hv])
  rw [hlen] at this; rw [ha]; exact this
def Op (H : Type) (enc : TypeId × Value → H) (w : World) (base : Nat) (sp : Nat → Bool) (held : Bool) (ρ : Nat → Value) (av : Nat → Prop) (t sz : Nat) (g : α → AV) (good : α → Prop) : Prop :=
  ∀ fuel cs x, DataW.trod enc P w base sp held fuel t cs = some x → ∃ a v, good a ∧ v.cells = cs.toArray ∧ cs.length = sz ∧ (sz = 1 → cs = [v]) ∧ (sz ≠ 1 → v = .agg cs.toArray) ∧ Rep ρ av w.heap (g a) v
theorem op_str (u : P.underlying t = some .string) : Op H enc w base sp held ρ av t 1 (fun s : ByteArray => .raw (.string s)) (fun s => s.size ≤ maxLen) := by
  intro fuel cs x h
  obtain ⟨s, rfl, _, hs⟩ := DataW.trod_string u h
  exact ⟨s, _, hs, rfl, rfl, fun _ => rfl, fun h => (h rfl).elim, .raw _⟩
theorem uT (u : P.underlying t = some (.int .i64)) : Op H enc w base sp held ρ av t 1 (fun n : Int => .raw (.int .i64 n)) (fun _ => True) := by
  intro fuel cs x h
  obtain ⟨n, rfl, _⟩ := DataW.trod_int u h
  exact ⟨n, _, trivial, rfl, rfl, fun _ => rfl, fun h => (h rfl).elim, .raw _⟩
theorem op_bool (u : P.underlying t = some .bool) : Op H enc w base sp held ρ av t 1 (fun n : Bool => .raw (.bool n)) (fun _ => True) := by
  intro fuel cs x h
  obtain ⟨n, rfl, _⟩ := DataW.trod_bool u h
  exact ⟨n, _, trivial, rfl, rfl, fun _ => rfl, fun h => (h rfl).elim, .raw _⟩
theorem op_sl {t e sz : Nat} (hav : ∀ b, ¬ av b) (u : P.underlying t = some (.slice e)) (hz : P.cellsOf e = sz) (h0 : 0 < sz) (O : Op H enc w base sp held ρ av e sz g good) :
    Op H enc w base sp held ρ av t 1 (fun ls : List α => .sl sz (ls.map g)) (fun ls => ls.length ≤ maxLen ∧ ∀ l ∈ ls, good l) := by
  intro fuel cs x h
  rcases DataW.trod_slice u h with ⟨h1, _⟩ | ⟨a, len, cap, elems, rest, n, _, h1, _, hb, hlc, hcm, hel, hi, _⟩
  · subst h1
    exact ⟨[], _, ⟨Nat.zero_le _, by simp⟩, rfl, rfl, fun _ => rfl, fun h => (h rfl).elim, .sl0 sz none 0 (Nat.zero_le _)⟩
  subst h1; rw [hz] at hi
  obtain ⟨ls, k1, k2, k3⟩ := rep_sl (w := w) (base := base) (α := α × Value) (fun x => x.2) (fun x => g x.1) (fun x => good x.1 ∧ x.2.cells.size = sz ∧ Rep ρ av w.heap (g x.1) x.2) sz h0 (fun x hx => hx.2.1) (fun x hx => hx.2.2) (ρ := ρ) (av := av) hav hlc hcm (fun i hil => by
      have := hi i hil
      rw [List.getElem?_eq_getElem (by omega)] at this
      obtain ⟨cs, hcs, ht⟩ := Option.bind_eq_some_iff.1 this
      obtain ⟨p, v, q1, q2, q3, _, _, q4⟩ := O _ _ _ ht
      exact ⟨(p, v), by rw [hcs, q2], q1, by rw [q2]; simpa using q3, q4⟩)
  refine ⟨ls.map (·.1), _, ⟨by rw [List.length_map]; omega, fun p hp => ?_⟩, rfl, rfl, fun _ => rfl, fun h => (h rfl).elim, by show Rep ρ av w.heap (.sl sz ((ls.map fun x => x.1).map g)) _; rw [List.map_map]; exact k3⟩
  obtain ⟨q, hq, rfl⟩ := List.mem_map.1 hp
  exact (k2 q hq).1
theorem iU {xs : List (DataW H × List MemPlace)} (j : Nat) (O : Op H enc w base sp held ρ av t 1 g good) (hz : P.cellsOf t = 1) (hj : j < xs.length)
    (h : DataW.trod enc P w base sp held n t ((cs.drop o).take (P.cellsOf t)) = xs[j]?) : ∃ a v, good a ∧ cs[o]? = some v ∧ Rep ρ av w.heap (g a) v := by
  rw [hz, List.getElem?_eq_getElem hj] at h
  obtain ⟨a, v, h1, _, _, h2, _, h3⟩ := O _ _ _ h
  refine ⟨a, v, h1, ?_, h3⟩
  have := congrArg (·[0]?) (h2 rfl)
  simpa [List.getElem?_take, List.getElem?_drop] using this
theorem repAgg {ls : List AV} (hl : cs.length = ls.length) (h : ∀ (j : Nat) (y : AV), ls[j]? = some y → ∃ v, cs[j]? = some v ∧ Rep ρ av w.heap y v) : Rep ρ av w.heap (.agg ls) (.agg cs.toArray) := by
  refine .agg _ _ (by simpa using hl) fun j y hj => ?_
  obtain ⟨v, h1, h2⟩ := h j y hj
  have : cs.toArray.getD j undef = v := by simp [Array.getD_eq_getD_getElem?, h1]
  rw [this]; exact h2
end
section
variable {H : Type} {enc : TypeId × Value → H} {w : World} {base : Nat} {sp : Nat → Bool} {held : Bool} {ρ : Nat → Value} {av : Nat → Prop}
theorem op_flds {xs : List (DataW H × List MemPlace)} (j : Nat) (O : Op H enc w base sp held ρ av t sz g good) (hz : P.cellsOf t = sz) (h1 : sz ≠ 1) (hj : j < xs.length)
    (h : DataW.trod enc P w base sp held n t ((cs.drop o).take (P.cellsOf t)) = xs[j]?) : ∃ a, good a ∧ ∀ ls, g a = .agg ls → ∀ (i : Nat) (y : AV), ls[i]? = some y → ∃ v, cs[o + i]? = some v ∧ Rep ρ av w.heap y v := by
  rw [hz, List.getElem?_eq_getElem hj] at h
  obtain ⟨a, v, k1, _, k3, _, k4, k5⟩ := O _ _ _ h
  refine ⟨a, k1, fun ls hls i y hi => ?_⟩
  rw [hls, k4 h1] at k5
  cases k5 with
  | agg _ _ hn hh =>
    have hil := (List.getElem?_eq_some_iff.1 hi).1
    have hlt : i < ((cs.drop o).take sz).length := by have : ((cs.drop o).take sz).length = ls.length := by simpa using hn
                                                      omega
    refine ⟨_, ?_, hh i y hi⟩
    have e := List.getElem?_eq_getElem hlt
    rw [List.getElem?_take, List.getElem?_drop] at e; split at e
    · rw [e]; simp [Array.getD_eq_getD_getElem?, List.getElem?_eq_getElem hlt]
    cases e
theorem uSt : P.underlying 30 = some (.struct #[{ name := "Up", type := 4, offset := 0, embedded := false, tag := "", pkgPath := "", byteOffset := 0 }, { name := "Tree", type := 26, offset := 1, embedded := false, tag := "", pkgPath := "", byteOffset := 8 }, { name := "Disk", type := 28, offset := 5, embedded := false, tag := "", pkgPath := "", byteOffset := 88 }]) := by kernel_rfl
theorem uTr : P.underlying 26 = some (.struct #[{ name := "Seq", type := 3, offset := 0, embedded := false, tag := "", pkgPath := "", byteOffset := 0 }, { name := "Mem", type := 22, offset := 1, embedded := false, tag := "", pkgPath := "", byteOffset := 8 }, { name := "Levels", type := 23, offset := 2, embedded := false, tag := "", pkgPath := "", byteOffset := 32 }, { name := "Snaps", type := 24, offset := 3, embedded := false, tag := "", pkgPath := "", byteOffset := 56 }]) := by kernel_rfl
theorem uDi : P.underlying 28 = some (.struct #[{ name := "Log", type := 9, offset := 0, embedded := false, tag := "", pkgPath := "", byteOffset := 0 }, { name := "Safe", type := 3, offset := 1, embedded := false, tag := "", pkgPath := "", byteOffset := 16 }, { name := "Levels", type := 23, offset := 2, embedded := false, tag := "", pkgPath := "", byteOffset := 24 }, { name := "Seq", type := 3, offset := 3, embedded := false, tag := "", pkgPath := "", byteOffset := 48 }]) := by kernel_rfl
theorem uEn : P.underlying 60 = some (.struct #[{ name := "Key", type := 9, offset := 0, embedded := false, tag := "", pkgPath := "", byteOffset := 0 }, { name := "Seq", type := 3, offset := 1, embedded := false, tag := "", pkgPath := "", byteOffset := 16 }, { name := "Kind", type := 3, offset := 2, embedded := false, tag := "", pkgPath := "", byteOffset := 24 }, { name := "Text", type := 9, offset := 3, embedded := false, tag := "", pkgPath := "", byteOffset := 32 }, { name := "N", type := 3, offset := 4, embedded := false, tag := "", pkgPath := "", byteOffset := 48 }]) := by kernel_rfl
theorem uRu : P.underlying 173 = some (.struct #[{ name := "Ents", type := 22, offset := 0, embedded := false, tag := "", pkgPath := "", byteOffset := 0 }, { name := "Mask", type := 3, offset := 1, embedded := false, tag := "", pkgPath := "", byteOffset := 24 }]) := by kernel_rfl
theorem uEs : P.underlying 22 = some (.slice 60) := by kernel_rfl
theorem uRs : P.underlying 129 = some (.slice 173) := by kernel_rfl
theorem uLs : P.underlying 23 = some (.slice 129) := by kernel_rfl
theorem uIs : P.underlying 24 = some (.slice 3) := by kernel_rfl
theorem uS : P.underlying 9 = some .string := by kernel_rfl
theorem uI : P.underlying 3 = some (.int .i64) := by kernel_rfl
theorem uB : P.underlying 4 = some .bool := by kernel_rfl
theorem cE : P.cellsOf 60 = 5 := by kernel_rfl
theorem cR : P.cellsOf 173 = 2 := by kernel_rfl
theorem cT : P.cellsOf 26 = 4 := by kernel_rfl
theorem cD : P.cellsOf 28 = 4 := by kernel_rfl
theorem cSt : P.cellsOf 30 = 9 := by kernel_rfl
theorem cS : P.cellsOf 9 = 1 := by kernel_rfl
theorem cI : P.cellsOf 3 = 1 := by kernel_rfl
theorem cB : P.cellsOf 4 = 1 := by kernel_rfl
theorem cEs : P.cellsOf 22 = 1 := by kernel_rfl
theorem cRs : P.cellsOf 129 = 1 := by kernel_rfl
theorem cLs : P.cellsOf 23 = 1 := by kernel_rfl
theorem cIs : P.cellsOf 24 = 1 := by kernel_rfl
theorem op_ent : Op H enc w base sp held ρ av 60 5 enA (fun e => e.key.size ≤ maxLen ∧ e.text.size ≤ maxLen) := by
  intro fuel cs x h
  obtain ⟨xs, n, _, _, hl, hx, hf⟩ := DataW.trod_struct uEn h
  rw [cE] at hl
  have hx5 : xs.length = 5 := by simpa using hx
  obtain ⟨k, v0, g0, e0, r0⟩ := iU 0 (op_str uS) cS (by omega) (hf 0 _ rfl)
  obtain ⟨s, v1, g1, e1, r1⟩ := iU 1 (uT uI) cI (by omega) (hf 1 _ rfl)
  obtain ⟨d, v2, g2, e2, r2⟩ := iU 2 (uT uI) cI (by omega) (hf 2 _ rfl)
  obtain ⟨t, v3, g3, e3, r3⟩ := iU 3 (op_str uS) cS (by omega) (hf 3 _ rfl)
  obtain ⟨m, v4, g4, e4, r4⟩ := iU 4 (uT uI) cI (by omega) (hf 4 _ rfl)
  refine ⟨⟨k, s, d, t, m⟩, _, ⟨g0, g3⟩, rfl, hl, fun h => by omega, fun _ => rfl, repAgg hl fun j y hj => ?_⟩
  match j, hj with
  | 0, hj => cases hj; exact ⟨_, e0, r0⟩
  | 1, hj => cases hj; exact ⟨_, e1, r1⟩
  | 2, hj => cases hj; exact ⟨_, e2, r2⟩
  | 3, hj => cases hj; exact ⟨_, e3, r3⟩
  | 4, hj => cases hj; exact ⟨_, e4, r4⟩
  | j + 5, hj => simp at hj
abbrev gEnts (ls : List Entry) : Prop := ls.length ≤ maxLen ∧ ∀ e ∈ ls, e.key.size ≤ maxLen ∧ e.text.size ≤ maxLen
abbrev gRuns (ls : List Run) : Prop := ls.length ≤ maxLen ∧ ∀ r ∈ ls, gEnts r.ents
abbrev gLvs (ls : List (List Run)) : Prop := ls.length ≤ maxLen ∧ ∀ r ∈ ls, gRuns r
theorem op_ents (hav : ∀ b, ¬ av b) : Op H enc w base sp held ρ av 22 1 (fun ls : List Entry => .sl 5 (ls.map enA)) gEnts := op_sl hav uEs cE (by omega) op_ent
theorem op_run (hav : ∀ b, ¬ av b) : Op H enc w base sp held ρ av 173 2 rA (fun r => gEnts r.ents) := by
  intro fuel cs x h
  obtain ⟨xs, n, _, _, hl, hx, hf⟩ := DataW.trod_struct uRu h
  rw [cR] at hl
  have hx2 : xs.length = 2 := by simpa using hx
  obtain ⟨k, v0, g0, e0, r0⟩ := iU 0 (op_ents hav) cEs (by omega) (hf 0 _ rfl)
  obtain ⟨s, v1, g1, e1, r1⟩ := iU 1 (uT uI) cI (by omega) (hf 1 _ rfl)
  refine ⟨⟨k, s⟩, _, g0, rfl, hl, fun h => by omega, fun _ => rfl, repAgg hl fun j y hj => ?_⟩
  match j, hj with
  | 0, hj => cases hj; exact ⟨_, e0, r0⟩
  | 1, hj => cases hj; exact ⟨_, e1, r1⟩
  | j + 2, hj => simp at hj
theorem op_lvs (hav : ∀ b, ¬ av b) : Op H enc w base sp held ρ av 23 1 (fun ls : List (List Run) => .sl 1 (ls.map rsA)) gLvs := op_sl hav uLs cRs (by omega) (op_sl hav uRs cR (by omega) (op_run hav))
theorem op_ints (hav : ∀ b, ¬ av b) : Op H enc w base sp held ρ av 24 1 (fun ls : List Int => .sl 1 (ls.map inA)) (fun ls => ls.length ≤ maxLen ∧ ∀ l ∈ ls, True) := op_sl hav uIs cI (by omega) (uT uI)
theorem op_tree (hav : ∀ b, ¬ av b) : Op H enc w base sp held ρ av 26 4 trA (fun t => gEnts t.mem ∧ gLvs t.levels ∧ t.snaps.length ≤ maxLen) := by
  intro fuel cs x h
  obtain ⟨xs, n, _, _, hl, hx, hf⟩ := DataW.trod_struct uTr h
  rw [cT] at hl
  have hx4 : xs.length = 4 := by simpa using hx
  obtain ⟨k, v0, g0, e0, r0⟩ := iU 0 (uT uI) cI (by omega) (hf 0 _ rfl)
  obtain ⟨s, v1, g1, e1, r1⟩ := iU 1 (op_ents hav) cEs (by omega) (hf 1 _ rfl)
  obtain ⟨d, v2, g2, e2, r2⟩ := iU 2 (op_lvs hav) cLs (by omega) (hf 2 _ rfl)
  obtain ⟨t, v3, g3, e3, r3⟩ := iU 3 (op_ints hav) cIs (by omega) (hf 3 _ rfl)
  refine ⟨⟨k, s, d, t⟩, _, ⟨g1, g2, g3.1⟩, rfl, hl, fun h => by omega, fun _ => rfl, repAgg hl fun j y hj => ?_⟩
  match j, hj with
  | 0, hj => cases hj; exact ⟨_, e0, r0⟩
  | 1, hj => cases hj; exact ⟨_, e1, r1⟩
  | 2, hj => cases hj; exact ⟨_, e2, r2⟩
  | 3, hj => cases hj; exact ⟨_, e3, r3⟩
  | j + 4, hj => simp at hj
theorem op_disk (hav : ∀ b, ¬ av b) : Op H enc w base sp held ρ av 28 4 dkA (fun t => t.log.size ≤ maxLen ∧ gLvs t.levels) := by
  intro fuel cs x h
  obtain ⟨xs, n, _, _, hl, hx, hf⟩ := DataW.trod_struct uDi h
  rw [cD] at hl
  have hx4 : xs.length = 4 := by simpa using hx
  obtain ⟨k, v0, g0, e0, r0⟩ := iU 0 (op_str uS) cS (by omega) (hf 0 _ rfl)
  obtain ⟨s, v1, g1, e1, r1⟩ := iU 1 (uT uI) cI (by omega) (hf 1 _ rfl)
  obtain ⟨d, v2, g2, e2, r2⟩ := iU 2 (op_lvs hav) cLs (by omega) (hf 2 _ rfl)
  obtain ⟨t, v3, g3, e3, r3⟩ := iU 3 (uT uI) cI (by omega) (hf 3 _ rfl)
  refine ⟨⟨k, s, d, t⟩, _, ⟨g0, g2⟩, rfl, hl, fun h => by omega, fun _ => rfl, repAgg hl fun j y hj => ?_⟩
  match j, hj with
  | 0, hj => cases hj; exact ⟨_, e0, r0⟩
  | 1, hj => cases hj; exact ⟨_, e1, r1⟩
  | 2, hj => cases hj; exact ⟨_, e2, r2⟩
  | 3, hj => cases hj; exact ⟨_, e3, r3⟩
  | j + 4, hj => simp at hj
theorem op_store (hav : ∀ b, ¬ av b) : Op H enc w base sp held ρ av 30 9 stA (fun s => (gEnts s.tree.mem ∧ gLvs s.tree.levels ∧ s.tree.snaps.length ≤ maxLen) ∧ s.disk.log.size ≤ maxLen ∧ gLvs s.disk.levels) := by
  intro fuel cs x h
  obtain ⟨xs, n, _, _, hl, hx, hf⟩ := DataW.trod_struct uSt h
  rw [cSt] at hl
  have hx3 : xs.length = 3 := by simpa using hx
  obtain ⟨u, v0, g0, e0, r0⟩ := iU 0 (op_bool uB) cB (by omega) (hf 0 _ rfl)
  obtain ⟨t, g1, r1⟩ := op_flds 1 (op_tree hav) cT (by omega) (by omega) (hf 1 _ rfl)
  obtain ⟨d, g2, r2⟩ := op_flds 2 (op_disk hav) cD (by omega) (by omega) (hf 2 _ rfl)
  have t1 := r1 _ rfl
  have t2 := r2 _ rfl
  refine ⟨⟨u, t, d⟩, _, ⟨g1, g2⟩, rfl, hl, fun h => by omega, fun _ => rfl, repAgg hl fun j y hj => ?_⟩
  match j, hj with
  | 0, hj => cases hj; exact ⟨_, e0, r0⟩
  | 1, hj => exact t1 0 y hj
  | 2, hj => exact t1 1 y hj
  | 3, hj => exact t1 2 y hj
  | 4, hj => exact t1 3 y hj
  | 5, hj => exact t2 0 y hj
  | 6, hj => exact t2 1 y hj
  | 7, hj => exact t2 2 y hj
  | 8, hj => exact t2 3 y hj
  | j + 9, hj => simp at hj
end
end
end Go.Proofs.S
end
section
open Go Go.Abs Go.Proofs
open Go.ChangeShapes Go.WideShapes Go.RowKit Go.Proofs.YthbibdnkiklemaaGreatDoor
namespace Go.Proofs.S
theorem oKnob : ownKnob P.godebug = none := by kernel_rfl
theorem oLaid : laidOutB P = true := by kernel_rfl
theorem uErr : P.underlying 146 = some (.interface #[("Error", 150)]) := by kernel_rfl
theorem rdSt : P.readableRec 30 = true := by kernel_rfl
theorem laid_at {w : World} : ∀ {l : List (String × DataW Unit)} {ps : List MemPlace}, DataW.LaidVars P w l ps → ∀ {n : String} {d : DataW Unit}, (n, d) ∈ l →
    ∃ t cs fuel p, ∀ g, P.globalNamed n = some g → (P.globals[g]?).map (·.type) = some t ∧ (∃ u fr, w.heap[g]? = some (.cells cs u fr)) ∧ DataW.trod (fun _ => ()) P w 0 (fun _ => true) false fuel t cs.toList = some (d, p)
  | [], _, _, _, _, hm => by cases hm
  | (n', d') :: l, ps, h, n, d, hm => by
    obtain ⟨g, t, cs, fuel, p, q, h1, h2, h3, h4, h5, _⟩ := h
    rcases List.mem_cons.1 hm with e | hm
    · cases e
      refine ⟨t, cs, fuel, p, fun g' hg' => ?_⟩
      obtain rfl := Option.some.inj (h1.symm.trans hg')
      refine ⟨h2, ?_, h4⟩
      simp only [World.var?, h1, Option.bind_some] at h3
      split at h3
      · rename_i cs' u fr hb; cases h3; exact ⟨u, fr, hb⟩
      cases h3
    exact laid_at h5 hm
theorem gl_of {w : World} {l : List (String × DataW Unit)} (hL : laidMet P l w) (m0 : ("internal/strconv.uint64pow10", (Rows.laid_internal_strconv_uint64pow10 : DataW Unit)) ∈ l) (m1 : ("strconv.ErrSyntax", (Rows.laid_strconv_ErrSyntax : DataW Unit)) ∈ l) (m2 : ("strconv.ErrRange", (Rows.laid_strconv_ErrRange : DataW Unit)) ∈ l) :
    ∀ g, Globals.on g → ∃ o, w.heap[g]? = some o ∧ Globals.G0 g o := by
  obtain ⟨ps, hv, _, _⟩ := hL
  intro g hg
  rcases hg with rfl | rfl | rfl
  · obtain ⟨t, cs, fuel, p, h⟩ := laid_at hv m0
    obtain ⟨ht, ⟨u, fr, hh⟩, hd⟩ := h 0 (by kernel_rfl)
    obtain rfl : 254 = t := Option.some.inj ((show (P.globals[0]?).map (·.type) = some 254 by kernel_rfl).symm.trans ht)
    have e := Lib.cells_of_tab (k := .u64) (zs := Lib.pow10Tab) (e := 245) (n := 20) (by kernel_rfl) (by kernel_rfl) (by kernel_rfl) (by kernel_rfl) (show _ = some (Lib.tabData .u64 Lib.pow10Tab, p) from hd)
    have hcs : cs = ((Lib.pow10Tab.map fun z => Value.int .u64 z)).toArray := by rw [← e]
    exact ⟨_, hh, fun _ => ⟨u, fr, by rw [hcs]⟩, fun h => by omega, _, _, _, rfl⟩
  · obtain ⟨t, cs, fuel, p, h⟩ := laid_at hv m1
    obtain ⟨ht, ⟨u, fr, hh⟩, hd⟩ := h 1 (by kernel_rfl)
    obtain rfl : 146 = t := Option.some.inj ((show (P.globals[1]?).map (·.type) = some 146 by kernel_rfl).symm.trans ht)
    obtain ⟨_, a, b, e, _, _⟩ := iface_of_trod (uErr) hd
    have hcs : cs = #[.iface a b] := by cases cs; simpa using e
    exact ⟨_, hh, fun h => by omega, fun _ => ⟨a, b, u, fr, by rw [hcs]⟩, _, _, _, rfl⟩
  obtain ⟨t, cs, fuel, p, h⟩ := laid_at hv m2
  obtain ⟨ht, ⟨u, fr, hh⟩, hd⟩ := h 2 (by kernel_rfl)
  obtain rfl : 146 = t := Option.some.inj ((show (P.globals[2]?).map (·.type) = some 146 by kernel_rfl).symm.trans ht)
  obtain ⟨_, a, b, e, _, _⟩ := iface_of_trod (uErr) hd
  have hcs : cs = #[.iface a b] := by cases cs; simpa using e
  exact ⟨_, hh, fun h => by omega, fun _ => ⟨a, b, u, fr, by rw [hcs]⟩, _, _, _, rfl⟩
def C0 : Conc := { ρ := fun _ => .pointer (some ⟨0, 0, none⟩), one := fun _ => rfl, own := fun _ => [], X := fun _ => False, B := 0 }
theorem C0_av (b : Nat) : ¬ C0.avoid [] b := by
  rintro (h | ⟨i, o, h, _⟩)
  · exact h
  simp [Abs.get] at h
theorem C0_rel {w : World} (gl : ∀ g, Globals.on g → ∃ o, w.heap[g]? = some o ∧ Globals.G0 g o) : RelH C0 [] (UU 0) w where
  obj := fun i o h => by simp [Abs.get] at h
  apart := fun i j oi oj b _ h => by simp [Abs.get] at h
  xapart := fun i o b h => by simp [Abs.get] at h
  xlt := fun b h => h.elim
  objb := fun i o h => by simp [Abs.get] at h
  gl := fun g hg => by obtain ⟨o, h1, h2⟩ := gl g hg; exact ⟨o, h1, h2, C0_av g⟩
theorem C0_below {w w' : World} {C' : Conc} {H' : Heap} (h : StepR C0 [] (UU 0) w C' H' w') : Below w.heap.size w w' :=
  ⟨h.os, h.tape, h.output, h.size, fun k hk => h.keep k hk fun ⟨i, o, hi, _⟩ => by simp [Abs.get] at hi⟩
theorem agg_of {w : World} {base : Nat} {t : Nat} {v : Value} {fs : Array Field} (u : P.underlying t = some (.struct fs)) (h : Value.okWide P w .any base t v) : ∃ cs, v = .agg cs := by
  simp only [Value.okWide, u] at h
  obtain ⟨cs, e, _⟩ := h
  exact ⟨cs, e⟩
end Go.Proofs.S
end
section
open Go.Shelf
namespace Go.Proofs
def Tryz.growE_ren : Go.Shelf.Ren := ⟨fun | 4 => 218 | n => n, fun | 22 => 33 | 25 => 65 | 3 => 3 | 4 => 4 | 9 => 9 | 20 => 20 | 0 => 0 | n => n, fun | n => n⟩
theorem Tryz.growE : Go.Proofs.Lays8.n4 Tryz.prog Tryz.growE_ren := {
  mixed := by kernel_rfl
  f4 := ⟨Tryz.f218.name, by decide, Tryz.func218.trans (congrArg some (by kernel_rfl))⟩
  t0 := Tryz.underlying0
  a0 := Tryz.isAgg0
  z0 := Tryz.sizeOf0
  v0 := Tryz.zeroValue0
  t3 := Tryz.underlying3
  a3 := Tryz.isAgg3
  z3 := Tryz.sizeOf3
  v3 := Tryz.zeroValue3
  t4 := Tryz.underlying4
  a4 := Tryz.isAgg4
  z4 := Tryz.sizeOf4
  v4 := Tryz.zeroValue4
  t9 := Tryz.underlying9
  a9 := Tryz.isAgg9
  z9 := Tryz.sizeOf9
  v9 := Tryz.zeroValue9
  t20 := Tryz.underlying20
  a20 := Tryz.isAgg20
  z20 := Tryz.sizeOf20
  v20 := Tryz.zeroValue20
  t22 := Tryz.underlying33
  a22 := Tryz.isAgg33
  z22 := Tryz.sizeOf33
  v22 := Tryz.zeroValue33 }
def Tryz.growR_ren : Go.Shelf.Ren := ⟨fun | 4 => 145 | n => n, fun | 22 => 107 | 25 => 109 | 3 => 3 | 4 => 4 | 9 => 9 | 20 => 20 | 0 => 0 | n => n, fun | n => n⟩
theorem Tryz.growR : Go.Proofs.Lays8.n4 Tryz.prog Tryz.growR_ren := {
  mixed := by kernel_rfl
  f4 := ⟨Tryz.f145.name, by decide, Tryz.func145.trans (congrArg some (by kernel_rfl))⟩
  t0 := Tryz.underlying0
  a0 := Tryz.isAgg0
  z0 := Tryz.sizeOf0
  v0 := Tryz.zeroValue0
  t3 := Tryz.underlying3
  a3 := Tryz.isAgg3
  z3 := Tryz.sizeOf3
  v3 := Tryz.zeroValue3
  t4 := Tryz.underlying4
  a4 := Tryz.isAgg4
  z4 := Tryz.sizeOf4
  v4 := Tryz.zeroValue4
  t9 := Tryz.underlying9
  a9 := Tryz.isAgg9
  z9 := Tryz.sizeOf9
  v9 := Tryz.zeroValue9
  t20 := Tryz.underlying20
  a20 := Tryz.isAgg20
  z20 := Tryz.sizeOf20
  v20 := Tryz.zeroValue20
  t22 := Tryz.underlying107
  a22 := Tryz.isAgg107
  z22 := Tryz.sizeOf107
  v22 := Tryz.zeroValue107 }
end Go.Proofs
end
section
open Go Go.Abs Go.Proofs
namespace Go.Proofs.S
def napA (older newer : Int) (ts : List Int) (i : Nat) : Bool := match ts[i]? with
  | some s => !(decide (older ≤ s) && decide (s < newer))
  | none => true
def apB (older newer : Int) (ts : List Int) : Bool := !(List.range ts.length).all (napA older newer ts)
def gW : Entry → Bool → List Entry → Entry
  | o, _, [] => o
  | o, f, e :: r => if e.kind = 3 then gW { o with n := o.n + e.n } false r
    else if e.kind = 1 then { o with kind := 1, text := e.text, n := o.n + e.n } else if f = true then { o with kind := 2 } else { o with kind := 1 }
def qG (x : Entry) : Entry := ⟨x.key, x.seq, 3, ⟨#[]⟩, 0⟩
def gJ (ls : List Entry) : Entry := match ls with
  | [] => gF
  | x :: _ => gW (qG x) true ls
def sqC (ls : List Entry) (bare : Bool) : List Entry := if (decide (1000000 < (gJ ls).n) || decide ((gJ ls).n < -1000000)) = true then ls
  else if bare = true then (if (gJ ls).kind = 2 then [] else if (gJ ls).kind = 3 then [{ gJ ls with kind := 1 }] else [gJ ls]) else [gJ ls]
def mO : Entry → Bool → List Entry → Entry
  | o, _, [] => o
  | o, f, e :: r => if e.kind = 1 then { o with kind := 1, text := e.text, n := o.n + e.n }
    else if e.kind = 2 then (if f = true then { o with kind := 2, n := o.n + e.n } else { o with kind := 1, n := o.n + e.n }) else mO { o with n := o.n + e.n } false r
def tH (ls : List Entry) : Entry := match ls with
  | [] => gF
  | x :: _ => mO (qG x) true ls
def jC (ls : List Entry) (last : Bool) : List Entry := if lX (tH ls).n = false then ls
  else if (last && decide ((tH ls).kind = 2)) = true then [] else if (last && decide ((tH ls).kind = 3)) = true then [{ tH ls with kind := 1 }] else [tH ls]
def sF (ls : List Entry) : Prop := ls.length ≤ 1048576 ∧ ∀ e ∈ ls, -1000000 ≤ e.n ∧ e.n ≤ 1000000
theorem w_impl_parted (a b : Entry) (ts : List Int) (hz : ts.length ≤ 4611686018427387904) : aB P 216 [enA a, enA b, .sl 1 (ts.map inA)] [] 0 (.raw (.bool (apB b.seq a.seq ts))) := by
 refine pq 26 [.tmp 6] Tryz.func216 ?_
 simp only [enA]; refine aj ?_
 refine sq fun _ k2 => aj (wb ?_)
 refine wl (α := Nat) (fun x => x ≤ ts.length ∧ ∀ j, j < x → napA b.seq a.seq ts j = true) (fun x => ts.length - x) (fun x => ([(3, .ptr 0 0), (4, .ptr 1 0), (9, .sl 1 (ts.map inA)), (10, .raw (.int .i64 (ts.length : Int))), (11, .raw (.int .i64 (x : Int)))], [(0, .cells 65 [.raw (.string a.key), .raw (.int .i64 a.seq), .raw (.int .i64 a.kind), .raw (.string a.text), .raw (.int .i64 a.n)]), (1, .cells 65 [.raw (.string b.key), .raw (.int .i64 b.seq), .raw (.int .i64 b.kind), .raw (.string b.text), .raw (.int .i64 b.n)])])) 2 0 ⟨Nat.zero_le _, fun j hj => absurd hj (Nat.not_lt_zero _)⟩ [] ?_ ?_
 · simp only [go_sem, AObj.bel, Int.natCast_zero] <;> simp
 rintro i ⟨hi, hall⟩
 refine aj ?_; refine sq fun _ k5 => ?_
 refine cdS rfl (fun hc1 => ?_) fun hc1 => ?_
 · have hge : ts.length ≤ i := Nat.not_lt.1 (by simpa using hc1)
   refine we (jt (k2 ?_))
   refine aj (wR ?_)
   have h9 : apB b.seq a.seq ts = false := by unfold apB; rw [dU hge hall]; rfl
   refine fO ?_ trivial; simp only [go_sem, h9]
 have hlt : i < ts.length := (by simpa using hc1); obtain ⟨l, hl, hdrop, hml⟩ := ix hlt
 refine wk (k5 (sq fun _ k6 => (wb (sr rfl fun _ k7 => ?_))))
 simp only [go_sem, hl, inA]
 refine jr (k7 ?_)
 refine aj ?_
 refine cd rfl (fun hc2 => ?_) fun hc2 => ?_
 · have hp : napA b.seq a.seq ts i = false := by unfold napA; rw [hl]; simp only [hc2]; rfl
   refine aj (wR ?_)
   simp only [go_sem, lQ]
   have h9 : apB b.seq a.seq ts = true := by unfold apB; rw [eP hlt hp]; rfl
   refine fO ?_ trivial; simp only [go_sem, h9]
 have hp : napA b.seq a.seq ts i = true := by unfold napA; rw [hl]; simp only [hc2]; rfl
 refine wk (jt (k6 ?_))
 refine jw (wiS i (by omega)) ?_
 refine jt ?_
 refine ⟨i + 1, ⟨by omega, bP hall hp⟩, by omega, [], ?_⟩
 simp only [go_sem, AObj.bel] <;> simp
theorem w_spec_l4Apart (ts : List Int) (o n : Int) (hz : ts.length ≤ 4611686018427387904) : aB P 209 [.sl 1 (ts.map inA), .raw (.int .i64 o), .raw (.int .i64 n)] [] 0 (.raw (.bool (apB o n ts))) := by
 refine pq 28 [.tmp 6] Tryz.func209 ?_
 refine aj ?_
 refine sq fun _ k2 => aj (wb ?_)
 refine wl (α := Nat) (fun x => x ≤ ts.length ∧ ∀ j, j < x → napA o n ts j = true) (fun x => ts.length - x) (fun x => ([(0, .sl 1 (ts.map inA)), (1, .raw (.int .i64 o)), (2, .raw (.int .i64 n)), (7, .raw (.int .i64 (x : Int)))], [])) 0 0 ⟨Nat.zero_le _, fun j hj => absurd hj (Nat.not_lt_zero _)⟩ [] ?_ ?_
 · simp only [go_sem, Int.natCast_zero] <;> simp
 rintro i ⟨hi, hall⟩
 refine sq fun _ k4 => aj ?_
 refine cdS rfl (fun hc1 => ?_) fun hc1 => ?_
 · have hge : ts.length ≤ i := Nat.not_lt.1 (by simpa using hc1)
   refine we (jt (k2 ?_))
   refine aj (wR ?_)
   have h9 : apB o n ts = false := by unfold apB; rw [dU hge hall]; rfl
   refine fO ?_ trivial; simp only [go_sem, h9]
 have hlt : i < ts.length := (by simpa using hc1); obtain ⟨l, hl, hdrop, hml⟩ := ix hlt
 refine wk (k4 (sq fun _ k6 => (wb (sr rfl fun _ k7 => ?_))))
 simp only [go_sem, hl, inA]
 refine jr (k7 ?_)
 refine cd rfl (fun hc2 => ?_) fun hc2 => ?_
 · have hp : napA o n ts i = false := by unfold napA; rw [hl]; simp only [hc2]; rfl
   refine aj (wR ?_)
   simp only [go_sem, lQ]
   have h9 : apB o n ts = true := by unfold apB; rw [eP hlt hp]; rfl
   refine fO ?_ trivial; simp only [go_sem, h9]
 have hp : napA o n ts i = true := by unfold napA; rw [hl]; simp only [hc2]; rfl
 refine wk (jt (k6 ?_))
 refine jw (wiS i (by omega)) ?_
 refine jt ?_
 refine ⟨i + 1, ⟨by omega, bP hall hp⟩, by omega, [], ?_⟩
 simp only [go_sem] <;> simp
theorem w_impl_classOne (ls : List Entry) (hz : sF ls) (hne : ls ≠ []) : aB P 217 [.sl 5 (ls.map enA)] [] 0 (enA (gJ ls)) := by
 refine pq 53 [.cell 2 65] Tryz.func217 ?_
 have hlen := hz.1
 have hpos : 0 < ls.length := List.length_pos_iff.2 hne
 obtain ⟨y, r, hy⟩ := List.exists_cons_of_ne_nil hne
 have hy0 : ls[0]? = some y := by rw [hy]; rfl
 have h0 : gW (qG y) (decide ((0 : Nat) = 0)) (ls.drop 0) = gJ ls := by rw [hy]; rfl
 refine aj ?_; refine sd mixed rfl fun _ k2 => ?_; simp only [go_sem, hy0, enA, Int.toNat_zero]; refine jr ?_; refine ⟨by rfl, ?_⟩
 refine k2 (sq fun _ k3 => (aj (wb ?_)))
 refine wl (α := Nat × Entry) (fun x => x.1 ≤ ls.length ∧ -(1000000 * (x.1 : Int)) ≤ x.2.n ∧ x.2.n ≤ 1000000 * (x.1 : Int) ∧ gW x.2 (decide (x.1 = 0)) (ls.drop x.1) = gJ ls) (fun x => ls.length - x.1) (fun x => ([(2, .ptr 0 0), (3, .ptr 1 0), (15, .sl 5 (ls.map enA)), (16, .raw (.int .i64 (ls.length : Int))), (17, .raw (.int .i64 (x.1 : Int)))], [(0, .cells 65 [.raw (.string ⟨#[]⟩), .raw (.int .i64 0), .raw (.int .i64 0), .raw (.string ⟨#[]⟩), .raw (.int .i64 0)]), (1, .cells 65 [.raw (.string x.2.key), .raw (.int .i64 x.2.seq), .raw (.int .i64 x.2.kind), .raw (.string x.2.text), .raw (.int .i64 x.2.n)])])) 2 (0, qG y) ⟨Nat.zero_le _, by simp [qG], by simp [qG], h0⟩ [] ?_ ?_
 · simp only [go_sem, AObj.bel, Int.natCast_zero, qG] <;> simp
 rintro ⟨i, o⟩ ⟨hi, hn0, hn1, hgo⟩
 simp only at hi hn0 hn1 hgo ⊢
 refine aj ?_; refine sq fun _ k6 => ?_
 refine cdS rfl (fun hc1 => ?_) fun hc1 => ?_
 · have hge : ls.length ≤ i := Nat.not_lt.1 (by simpa using hc1)
   rw [List.drop_eq_nil_of_le hge, gW] at hgo
   refine we (jt (k3 ?_))
   refine aj (wR ?_)
   refine fO ?_ (eN _ _)
   simp only [go_sem, enA, ← hgo]
 have hlt : i < ls.length := (by simpa using hc1); obtain ⟨l, hl, hdrop, hml⟩ := ix hlt
 have hnl := hz.2 l hml
 have hwn : IntKind.i64.wrap (o.n + l.n) = o.n + l.n := by rw [w64]; omega
 rw [hdrop, gW] at hgo
 refine wk (k6 (sq fun _ k7 => (wb (sr rfl fun _ k8 => ?_))))
 simp only [go_sem, hl, enA]
 refine jr (k8 ?_)
 refine sq fun _ k9 => wb (aj ?_)
 refine cd rfl (fun hc2 => ?_) fun hc2 => ?_
 · have n2 : l.kind = 3 := by simpa using hc2
   rw [if_pos n2] at hgo; refine sr rfl fun _ k11 => ?_; simp only [go_sem, hwn]
   refine k11 (we (jt (k7 ?_)))
   refine jw (wiS i (by omega)) ?_
   refine jt ?_
   refine ⟨(i + 1, { o with n := o.n + l.n }), ⟨by omega, by simp only; omega, by simp only; omega, hgo⟩, by omega, [], ?_⟩
   simp only [go_sem, AObj.bel, AObj.ren, AV.ren, aA, sg] <;> simp
 have n2 : ¬ l.kind = 3 := by simpa using hc2
 rw [if_neg n2] at hgo; refine aj ?_
 refine cd rfl (fun hc3 => ?_) fun hc3 => ?_
 · have n3 : l.kind = 1 := by simpa using hc3
   rw [if_pos n3] at hgo
   refine nS mixed rfl ?_
   simp only [go_sem, hwn]; refine ⟨by rfl, ?_⟩
   refine jt (k9 (we ?_))
   refine jt (k3 ?_)
   refine aj (wR ?_)
   refine fO ?_ (eN _ _)
   simp only [go_sem, enA, ← hgo]
 have n3 : ¬ l.kind = 1 := by simpa using hc3
 rw [if_neg n3] at hgo; refine aj ?_
 refine cd rfl (fun hc4 => ?_) fun hc4 => ?_
 · have n4 : i = 0 := by simp at hc4; omega
   rw [if_pos (by simp [n4])] at hgo
   refine wg rfl ?_; simp only [go_sem]
   refine jt (k9 (we ?_))
   refine jt (k3 ?_)
   refine aj (wR ?_)
   refine fO ?_ (eN _ _)
   simp only [go_sem, enA, ← hgo]
 have n4 : ¬ i = 0 := by simp at hc4; omega
 rw [if_neg (by simp [n4])] at hgo
 refine wg rfl ?_; simp only [go_sem]
 refine jt (k9 (we ?_))
 refine jt (k3 ?_)
 refine aj (wR ?_)
 refine fO ?_ (eN _ _)
 simp only [go_sem, enA, ← hgo]
theorem yQ (ls : List Entry) (bare : Bool) (hz : sF ls) (hne : ls ≠ []) : aB P 195 [.sl 5 (ls.map enA), .raw (.bool bare)] [] 0 (.sl 5 ((sqC ls bare).map enA)) := by
 refine pq 27 [.tmp 4] Tryz.func195 ?_
 have hmx : maxLen = 9223372036854775807 := rfl
 refine aj ?_
 refine sr rfl fun _ k2 => ja ?_
 refine vs rfl rfl rfl Tryz.func217 (w_impl_classOne ls hz hne) (by simp only [go_sem, enA]) (by simp only [go_sem, enA]) ?_
 simp only [go_sem, enA]
 refine k2 (sq fun _ k3 => (aj ?_))
 refine cd rfl (fun hc1 => ?_) fun hc1 => ?_
 · have h9 : sqC ls bare = ls := by unfold sqC; rw [if_pos hc1]
   refine aj (wR ?_)
   refine fO ?_ (enB _ _)
   simp only [go_sem, h9]
 have hb := hc1
 refine wk (k3 (sq fun _ k6 => (aj ?_)))
 refine cdS rfl (fun hc2 => ?_) fun hc2 => ?_
 · have hbr : ¬ bare = true := by simpa using hc2
   refine wk (k6 (sr rfl fun _ k14 => (ja ?_)))
   refine jr (k14 ?_)
   have h9 : sqC ls bare = [gJ ls] := by unfold sqC; rw [hb, if_neg (by simp), if_neg hbr]
   refine aFz 1 rfl ?_
   simp only [go_sem, fzL, AV.fz]; refine wR ?_
   refine fO ?_ (enB _ _)
   simp only [go_sem, h9, List.map_cons, List.map_nil, enA]
 have hbr : bare = true := by simpa using hc2
 refine aj (wb ?_)
 refine aj ?_
 refine cd rfl (fun hc3 => ?_) fun hc3 => ?_
 · have n3 : (gJ ls).kind = 2 := by simpa using hc3
   refine aj ?_
   have h9 : sqC ls bare = [] := by unfold sqC; rw [hb, if_neg (by simp), if_pos hbr, if_pos n3]
   refine eT (t := 4) 65 5 rfl (by decide) ?_
   simp only [go_sem]
   refine aFz 1 rfl ?_
   simp only [go_sem, fzL, AV.fz]; refine wR ?_; simp only [go_sem, lQ]
   refine fO ?_ (enB _ _)
   simp only [go_sem, h9, List.map_nil]
 have n3 : ¬ (gJ ls).kind = 2 := by simpa using hc3
 refine aj ?_
 refine cd rfl (fun hc4 => ?_) fun hc4 => ?_
 · have n4 : (gJ ls).kind = 3 := by simpa using hc4
   refine wg rfl ?_; simp only [go_sem]
   refine jt (k6 ?_)
   refine sr rfl fun _ k12 => ja ?_
   refine jr (k12 ?_)
   have h9 : sqC ls bare = [{ gJ ls with kind := 1 }] := by unfold sqC; rw [hb, if_neg (by simp), if_pos hbr, if_neg n3, if_pos n4]
   refine aFz 1 rfl ?_
   simp only [go_sem, fzL, AV.fz]; refine wR ?_
   refine fO ?_ (enB _ _)
   simp only [go_sem, h9, List.map_cons, List.map_nil, enA]
 have n4 : ¬ (gJ ls).kind = 3 := by simpa using hc4
 refine wk (jt (k6 ?_))
 refine sr rfl fun _ k13 => ja ?_
 refine jr (k13 ?_)
 have h9 : sqC ls bare = [gJ ls] := by unfold sqC; rw [hb, if_neg (by simp), if_pos hbr, if_neg n3, if_neg n4]
 refine aFz 1 rfl ?_
 simp only [go_sem, fzL, AV.fz]; refine wR ?_
 refine fO ?_ (enB _ _)
 simp only [go_sem, h9, List.map_cons, List.map_nil, enA]
theorem w_spec_l4Join (ls : List Entry) (hz : sF ls) (hne : ls ≠ []) : aB P 229 [.sl 5 (ls.map enA)] [] 0 (.tup [enA (tH ls), .raw (.bool (lX (tH ls).n))]) := by
 refine pq 50 [.cell 2 65, .tmp 3] Tryz.func229 ?_
 have hlen := hz.1
 have hpos : 0 < ls.length := List.length_pos_iff.2 hne
 obtain ⟨y, r, hy⟩ := List.exists_cons_of_ne_nil hne
 have hy0 : ls[0]? = some y := by rw [hy]; rfl
 have h0 : mO (qG y) (decide ((0 : Nat) = 0)) (ls.drop 0) = tH ls := by rw [hy]; rfl
 refine aj ?_; refine sd mixed rfl fun _ k2 => ?_; simp only [go_sem, hy0, enA, Int.toNat_zero]; refine jr ?_; refine ⟨by rfl, ?_⟩
 refine k2 (sq fun _ k3 => (aj (wb ?_)))
 refine wl (α := Nat × Entry) (fun x => x.1 ≤ ls.length ∧ -(1000000 * (x.1 : Int)) ≤ x.2.n ∧ x.2.n ≤ 1000000 * (x.1 : Int) ∧ mO x.2 (decide (x.1 = 0)) (ls.drop x.1) = tH ls) (fun x => ls.length - x.1) (fun x => ([(0, .sl 5 (ls.map enA)), (2, .ptr 0 0), (4, .ptr 1 0), (5, .raw (.int .i64 (x.1 : Int)))], [(0, .cells 65 [.raw (.string ⟨#[]⟩), .raw (.int .i64 0), .raw (.int .i64 0), .raw (.string ⟨#[]⟩), .raw (.int .i64 0)]), (1, .cells 65 [.raw (.string x.2.key), .raw (.int .i64 x.2.seq), .raw (.int .i64 x.2.kind), .raw (.string x.2.text), .raw (.int .i64 x.2.n)])])) 2 (0, qG y) ⟨Nat.zero_le _, by simp [qG], by simp [qG], h0⟩ [] ?_ ?_
 · simp only [go_sem, AObj.bel, Int.natCast_zero, qG] <;> simp
 rintro ⟨i, o⟩ ⟨hi, hn0, hn1, hgo⟩
 simp only at hi hn0 hn1 hgo ⊢
 refine sq fun _ k5 => aj ?_
 refine cdS rfl (fun hc1 => ?_) fun hc1 => ?_
 · have hge : ls.length ≤ i := Nat.not_lt.1 (by simpa using hc1)
   rw [List.drop_eq_nil_of_le hge, mO] at hgo
   refine we (jt (k3 ?_))
   refine sd mixed rfl fun _ k21 => ja ?_
   refine tp rfl rfl rfl ⟨Tryz.func158, rfl, rfl⟩ (lM _) rfl (by simp only [go_sem]) ?_
   simp only [go_sem, enA]; refine ⟨by rfl, ?_⟩
   refine k21 (wR ?_)
   refine fO ?_ ⟨eN _ _, trivial, trivial⟩
   simp only [go_sem, enA, ← hgo]
 have hlt : i < ls.length := (by simpa using hc1); obtain ⟨l, hl, hdrop, hml⟩ := ix hlt
 have hnl := hz.2 l hml
 have hwn : IntKind.i64.wrap (o.n + l.n) = o.n + l.n := by rw [w64]; omega
 rw [hdrop, mO] at hgo
 refine wk (k5 (sq fun _ k7 => (wb (sr rfl fun _ k8 => ?_))))
 simp only [go_sem, hl, enA]
 refine jr (k8 ?_)
 refine sr rfl fun _ k9 => ?_; simp only [go_sem, hwn]
 refine k9 (sq fun _ k10 => (aj ?_))
 refine cd rfl (fun hc2 => ?_) fun hc2 => ?_
 · have n2 : l.kind = 1 := by simpa using hc2
   rw [if_pos n2] at hgo; refine aj ?_
   refine aj (we ?_)
   refine jt (k3 ?_)
   refine sd mixed rfl fun _ k14 => ja ?_
   refine tp rfl rfl rfl ⟨Tryz.func158, rfl, rfl⟩ (lM _) rfl (by simp only [go_sem]) ?_
   simp only [go_sem, enA]; refine ⟨by rfl, ?_⟩
   refine k14 (wR ?_)
   refine fO ?_ ⟨eN _ _, trivial, trivial⟩
   simp only [go_sem, enA, ← hgo]
 have n2 : ¬ l.kind = 1 := by simpa using hc2
 rw [if_neg n2] at hgo
 refine wk (k10 (aj ?_))
 refine cdS rfl (fun hc3 => ?_) fun hc3 => ?_
 · have n3 : ¬ l.kind = 2 := by simpa using hc3
   rw [if_neg n3] at hgo
   refine wk (jt (k7 ?_))
   refine jw (wiS i (by omega)) ?_
   refine jt ?_
   refine ⟨(i + 1, { o with n := o.n + l.n }), ⟨by omega, by simp only; omega, by simp only; omega, hgo⟩, by omega, [], ?_⟩
   simp only [go_sem, AObj.bel, AObj.ren, AV.ren, aA, sg] <;> simp
 have n3 : l.kind = 2 := by simpa using hc3
 rw [if_pos n3] at hgo; refine aj ?_
 refine sq fun _ k17 => aj ?_
 refine cd rfl (fun hc4 => ?_) fun hc4 => ?_
 · have n4 : i = 0 := by simp at hc4; omega
   rw [if_pos (by simp [n4])] at hgo
   refine wg rfl ?_; simp only [go_sem]
   refine k17 (we (jt (k3 ?_)))
   refine sd mixed rfl fun _ k19 => ja ?_
   refine tp rfl rfl rfl ⟨Tryz.func158, rfl, rfl⟩ (lM _) rfl (by simp only [go_sem]) ?_
   simp only [go_sem, enA]; refine ⟨by rfl, ?_⟩
   refine k19 (wR ?_)
   refine fO ?_ ⟨eN _ _, trivial, trivial⟩
   simp only [go_sem, enA, ← hgo]
 have n4 : ¬ i = 0 := by simp at hc4; omega
 rw [if_neg (by simp [n4])] at hgo
 refine wk (k17 (we (jt (k3 ?_))))
 refine sd mixed rfl fun _ k20 => ja ?_
 refine tp rfl rfl rfl ⟨Tryz.func158, rfl, rfl⟩ (lM _) rfl (by simp only [go_sem]) ?_
 simp only [go_sem, enA]; refine ⟨by rfl, ?_⟩
 refine k20 (wR ?_)
 refine fO ?_ ⟨eN _ _, trivial, trivial⟩
 simp only [go_sem, enA, ← hgo]
theorem w_spec_l4Class (ls : List Entry) (last : Bool) (hz : sF ls) (hne : ls ≠ []) : aB P 208 [.sl 5 (ls.map enA), .raw (.bool last)] [] 0 (.sl 5 ((jC ls last).map enA)) := by
 refine pq 33 [.tmp 4] Tryz.func208 ?_
 have hmx : maxLen = 9223372036854775807 := rfl
 have hlen := hz.1
 refine aj ?_
 refine sr rfl fun _ k2 => ja ?_
 refine vs rfl rfl rfl Tryz.func229 (w_spec_l4Join ls hz hne) (by simp only [go_sem, enA]) (by simp only [go_sem, enA]) ?_
 simp only [go_sem, enA]
 refine k2 (sq fun _ k3 => (aj ?_))
 refine cd rfl (fun hc1 => ?_) fun hc1 => ?_
 · have hs : lX (tH ls).n = false := by simpa using hc1
   refine sr rfl fun _ k5 => ?_; simp only [go_sem, List.length_take, List.length_append, List.nil_append, List.length_map, List.length_drop]
   refine jr (k5 ?_)
   have h9 : jC ls last = ls := by unfold jC; rw [if_pos hs]
   refine aFz 2 rfl ?_
   simp only [go_sem, fzL, AV.fz]; refine wR ?_
   refine fO ?_ (enB _ _)
   simp only [go_sem, h9]
 have hs : ¬ lX (tH ls).n = false := by simpa using hc1
 refine wk (k3 (sq fun _ k6 => (aj ?_)))
 refine cd rfl (fun hc2 => ?_) fun hc2 => ?_
 · have hl2 := hc2
   refine sr rfl fun _ k8 => ja ?_
   refine jr (k8 ?_)
   have h9 : jC ls last = [] := by unfold jC; rw [if_neg hs, if_pos hl2]
   refine aFz 1 rfl ?_
   simp only [go_sem, fzL, AV.fz]; refine wR ?_
   refine fO ?_ (enB _ _)
   simp only [go_sem, h9, List.map_nil]
 have hl2 := hc2
 refine wk (k6 (sq fun _ k9 => (aj ?_)))
 refine cd rfl (fun hc3 => ?_) fun hc3 => ?_
 · have hl3 := hc3
   refine wg rfl ?_; simp only [go_sem]
   refine k9 (sr rfl fun _ k11 => (ja ?_))
   refine jr (k11 ?_)
   have h9 : jC ls last = [{ tH ls with kind := 1 }] := by unfold jC; rw [if_neg hs, if_neg (by rw [hl2]; simp), if_pos hl3]
   refine aFz 1 rfl ?_
   simp only [go_sem, fzL, AV.fz]; refine wR ?_
   refine fO ?_ (enB _ _)
   simp only [go_sem, h9, List.map_cons, List.map_nil, enA]
 have hl3 := hc3
 refine wk (k9 (sr rfl fun _ k12 => (ja ?_)))
 refine jr (k12 ?_)
 have h9 : jC ls last = [tH ls] := by unfold jC; rw [if_neg hs, if_neg (by rw [hl2]; simp), if_neg (by rw [hl3]; simp)]
 refine aFz 1 rfl ?_
 simp only [go_sem, fzL, AV.fz]; refine wR ?_
 refine fO ?_ (enB _ _)
 simp only [go_sem, h9, List.map_cons, List.map_nil, enA]
def entAt (ls : List Entry) (i : Nat) : Entry := (ls[i]?).getD gF
theorem jT {ls : List Entry} {i : Nat} (h : i < ls.length) : ls[i]? = some (entAt ls i) := by
  unfold entAt; rw [List.getElem?_eq_getElem h]; rfl
def apAt (ts : List Int) (ls : List Entry) (i : Nat) : Bool := apB (entAt ls i).seq (dO ls i).seq ts
def hJ (ts : List Int) (ls : List Entry) : Nat → Nat → Nat → List (List Entry)
  | 0, _, _ => []
  | f + 1, s, i => if (decide ((i : Int) < (ls.length : Int)) && !apAt ts ls i) = true then hJ ts ls f s (i + 1) else (ls.take i).drop s :: hJ ts ls f i (i + 1)
def aY (ts : List Int) (ls : List Entry) : List (List Entry) := hJ ts ls ls.length 0 1
theorem zG (ls : List Entry) (ts : List Int) (hlen : ls.length ≤ 1048576) (hts : ts.length ≤ 1048576) {S : Type} (Hx : S → Heap) (Inv : List (List Entry) → S → Prop) (nxt : S → List Entry → S × Bool) (l : Nat) (s0 : S) (k k' : Nat) (hk : 1000 ≤ k) (hk' : 1000 ≤ k')
  (hb1 : ∀ s, get (Hx s) k = some (.cells 33 [.sl 5 (ls.map enA)])) (hb2 : ∀ s, get (Hx s) k' = some (.cells 24 [.sl 1 (ts.map inA)])) (hF : ∀ s, Far (Hx s) (Hx s)) (hkk : ∀ s s', (Hx s).map (·.1) = (Hx s').map (·.1))
  (hy : ∀ s x r, Inv (x :: r) s → x ∈ aY ts ls → rR P l [.sl 5 (x.map enA)] (Hx s) 0 (.raw (.bool (nxt s x).2)) (Hx (nxt s x).1) ∧ ((nxt s x).2 = true → Inv r (nxt s x).1)) (hI0 : Inv (aY ts ls) s0) : aD P 215 [.raw (.func (.yield l) #[] #[]), .ptr k 0, .ptr k' 0] (Hx s0) 0 (.tup []) (Hx (zI nxt (aY ts ls) s0)) 0 := by
 refine gq 38 [] Tryz.func215 ?_
 refine aj ?_
 refine aj (wb ?_)
 refine wl (α := Nat × Nat × S) (fun x => 1 ≤ x.2.1 ∧ x.2.1 ≤ ls.length + 1 ∧ x.1 ≤ x.2.1 ∧ x.1 ≤ ls.length ∧ Inv (hJ ts ls (ls.length + 1 - x.2.1) x.1 x.2.1) x.2.2 ∧ zI nxt (hJ ts ls (ls.length + 1 - x.2.1) x.1 x.2.1) x.2.2 = zI nxt (aY ts ls) s0 ∧ ∀ c ∈ hJ ts ls (ls.length + 1 - x.2.1) x.1 x.2.1, c ∈ aY ts ls) (fun x => ls.length + 1 - x.2.1) (fun x => ([(0, .raw (.func (.yield l) #[] #[])), (1, .ptr k 0), (2, .ptr k' 0), (4, .raw (.int .i64 (x.1 : Int))), (5, .raw (.int .i64 (x.2.1 : Int)))], Hx x.2.2)) 0 (0, 1, s0) ⟨Nat.le_refl _, by simp only; omega, by simp, by simp, by simpa [aY] using hI0, by simp [aY], by simp [aY]⟩ [] ?_ ?_
 · refine (hF s0).told ?_
   simp only [go_sem, Int.natCast_zero]
   simp [hk, hk']
 rintro ⟨st, i, s⟩ ⟨hi0, hi1, hst, hst2, hIs, hrun, hmem⟩
 simp only at hi0 hi1 hst hst2 hIs hrun hmem ⊢
 refine sq fun _ k3 => sr rfl fun _ k4 => ?_
 simp only [go_sem, hb1]; apply k4
 refine cdS rfl (fun hc1 => ?_) fun hc1 => ?_
 · have hgt : ls.length < i := by simp at hc1; omega
   rw [show ls.length + 1 - i = 0 by omega] at hrun
   refine we (jt ?_)
   rw [← hrun]; exact (hF s).final rfl trivial
 have hle : i ≤ ls.length := by simpa using hc1
 have hw1 : IntKind.i64.wrap ((i : Int) - 1) = (i : Int) - 1 := by rw [w64]; omega
 have hpn : ((i : Int) - 1).toNat = i - 1 := by omega
 have hpv : ls[i - 1]? = some (dO ls i) := by unfold dO; rw [List.getElem?_eq_getElem (by omega)]; rfl
 have hff : ls.length + 1 - i = (ls.length - i) + 1 := by omega
 rw [hff] at hIs hrun hmem
 unfold hJ at hIs hrun hmem
 have hfe : ls.length + 1 - (i + 1) = ls.length - i := by omega
 refine wk (k3 (sq fun _ k5 => (wb (sq fun _ k6 => ?_))))
 by_cases hlt : i < ls.length
 · have hlx := jT hlt
   have hdt : decide ((i : Int) < (ls.length : Int)) = true := by simp; omega
   refine sd mixed rfl fun _ k7 => ?_; simp only [go_sem, hb1, hb2, hpv, hw1, hpn, hlx, enA]; refine jr ?_
   refine tpg rfl rfl rfl rfl rfl rfl ⟨Tryz.func216, rfl, rfl⟩ (fun hg => w_impl_parted (dO ls i) (entAt ls i) ts (by omega)) (by simp only [go_sem]) (fun hg => (by simp only [go_sem, enA])) (by simp only [go_sem]; exact ⟨eN _ _, eN _ _⟩) trivial ?_
   simp only [go_sem, enA, hlx]; refine jr ?_; refine ⟨by rfl, ?_⟩; apply k7
   refine cd rfl (fun hc2 => ?_) fun hc2 => ?_
   · have hcc : (decide ((i : Int) < (ls.length : Int)) && !apAt ts ls i) = true := by simpa [apAt] using hc2
     rw [if_pos hcc] at hIs hrun hmem
     refine we (jt (k5 ?_))
     refine jw (wiS i (by omega)) ?_
     simp only [lQ]
     refine ⟨(st, i + 1, s), ⟨by simp only; omega, by simp only; omega, by simp only; omega, hst2, by simp only [hfe]; exact hIs, by simp only [hfe]; exact hrun, by simp only [hfe]; exact hmem⟩, by simp only; omega, [], ?_⟩
     refine (hF _).told ?_
     simp only [go_sem]
     simp [hk, hk']
   have hcc : ¬ (decide ((i : Int) < (ls.length : Int)) && !apAt ts ls i) = true := by simpa [apAt] using hc2
   rw [if_neg hcc] at hIs hrun hmem
   obtain ⟨hy1, hy2⟩ := hy s _ _ hIs (hmem _ List.mem_cons_self)
   refine wk (k6 (sq fun _ k8 => (sr rfl fun _ k9 => ?_)))
   simp only [go_sem, hb1, ← List.map_take, ← List.map_drop, Int.toNat_natCast]; refine jr ?_
   refine vC (fun hN => lstep_yield rfl rfl rfl rfl hN hy1 rfl ⟨enB _ _, trivial⟩ (Far.fit (hF s) (hkk _ _))) (.inl rfl) ?_
   simp only [go_sem]
   refine jr (k9 ?_)
   refine cd rfl (fun hc3 => ?_) fun hc3 => ?_
   · have hn : (nxt s ((ls.take i).drop st)).2 = false := by simpa using hc3
     rw [zI, hn] at hrun
     simp only [Bool.false_eq_true, if_false] at hrun
     refine wR ?_; simp only [go_sem, lQ]
     rw [← hrun]; exact (hF _).over.final rfl trivial
   have hn : (nxt s ((ls.take i).drop st)).2 = true := by simpa using hc3
   rw [zI, hn] at hrun
   simp only [if_true] at hrun
   refine wk (k8 ?_)
   refine wg rfl ?_; simp only [go_sem]
   refine jt (k5 ?_)
   refine jw (wiS i (by omega)) ?_
   simp only [lQ]
   refine ⟨(i, i + 1, (nxt s ((ls.take i).drop st)).1), ⟨by simp only; omega, by simp only; omega, by simp only; omega, hle, by simp only [hfe]; exact hy2 hn, by simp only [hfe]; exact hrun, by simp only [hfe]; exact fun c hc => hmem c (List.mem_cons_of_mem _ hc)⟩, by simp only; omega, [], ?_⟩
   refine (hF _).over.told ?_
   simp only [go_sem]
   simp [hk, hk']
 have hie : i = ls.length := by omega
 have hdf : decide ((i : Int) < (ls.length : Int)) = false := by simp; omega
 have hnn : ls[i]? = none := List.getElem?_eq_none (by omega)
 refine sd mixed rfl fun _ k7 => ?_; simp only [go_sem, hb1, hb2, hpv, hw1, hpn, hdf, hnn, enA]; refine jr ?_
 refine bQ (fun hN => cH (rt := []) (rd := []) (val := enA gF) hN rfl rfl rfl rfl trivial (fun hg => absurd hg (by simp)) (by exact eN _ _)) (.inl rfl) ?_
 simp only [go_sem, enA, hb1, hb2, hpv, hw1, hpn, hdf, hnn, enA]; refine jr ?_
 refine bQ (fun hN => cH (rt := []) (rd := []) (val := .raw (.bool false)) hN rfl rfl rfl rfl trivial (fun hg => absurd hg (by simp)) (by trivial)) (.inl rfl) ?_
 simp only [go_sem, hb1, hb2, hpv, hw1, hpn, hdf, hnn, enA]; refine jr ?_; refine ⟨by rfl, ?_⟩; apply k7
 refine cd rfl (fun hc4 => ?_) fun hc4 => ?_
 · exfalso
   simp [hdf] at hc4
 have hcc : ¬ (decide ((i : Int) < (ls.length : Int)) && !apAt ts ls i) = true := by rw [hdf]; simp
 rw [if_neg hcc] at hIs hrun hmem
 obtain ⟨hy1, hy2⟩ := hy s _ _ hIs (hmem _ List.mem_cons_self)
 refine wk (k6 (sq fun _ k10 => (sr rfl fun _ k11 => ?_)))
 simp only [go_sem, hb1, ← List.map_take, ← List.map_drop, Int.toNat_natCast]; refine jr ?_
 refine vC (fun hN => lstep_yield rfl rfl rfl rfl hN hy1 rfl ⟨enB _ _, trivial⟩ (Far.fit (hF s) (hkk _ _))) (.inl rfl) ?_
 simp only [go_sem]
 refine jr (k11 ?_)
 refine cd rfl (fun hc5 => ?_) fun hc5 => ?_
 · have hn : (nxt s ((ls.take i).drop st)).2 = false := by simpa using hc5
   rw [zI, hn] at hrun
   simp only [Bool.false_eq_true, if_false] at hrun
   refine wR ?_; simp only [go_sem, lQ]
   rw [← hrun]; exact (hF _).over.final rfl trivial
 have hn : (nxt s ((ls.take i).drop st)).2 = true := by simpa using hc5
 rw [zI, hn] at hrun
 simp only [if_true] at hrun
 refine wk (k10 ?_)
 refine wg rfl ?_; simp only [go_sem]
 refine jt (k5 ?_)
 refine jw (wiS i (by omega)) ?_
 simp only [lQ]
 refine ⟨(i, i + 1, (nxt s ((ls.take i).drop st)).1), ⟨by simp only; omega, by simp only; omega, by simp only; omega, hle, by simp only [hfe]; exact hy2 hn, by simp only [hfe]; exact hrun, by simp only [hfe]; exact fun c hc => hmem c (List.mem_cons_of_mem _ hc)⟩, by simp only; omega, [], ?_⟩
 refine (hF _).over.told ?_
 simp only [go_sem]
 simp [hk, hk']
theorem it_classes (ls : List Entry) (ts : List Int) (hlen : ls.length ≤ 1048576) (hts : ts.length ≤ 1048576) (k k' : Nat) (hk : 1000 ≤ k) (hk' : 1000 ≤ k') :
    Iter P 215 [.ptr k 0, .ptr k' 0] [(k, .cells 33 [.sl 5 (ls.map enA)]), (k', .cells 24 [.sl 1 (ts.map inA)])] (fun c : List Entry => [.sl 5 (c.map enA)]) (aY ts ls) := by
  intro S Hx Inv nxt l s0 hCH hfar hnd hkk hy hI0
  have hF : ∀ s, Far (Hx s) (Hx s) := fun s => ⟨fun q hq => (hfar s q hq).1, fun q hq => (hfar s q hq).2, hnd s⟩
  exact zG ls ts hlen hts Hx Inv nxt l s0 k k' hk hk' (fun s => (hCH s).1) (fun s => (hCH s).2.1) hF hkk hy hI0
theorem w_impl_classesOf (ls : List Entry) (ts : List Int) : aD P 194 [.sl 5 (ls.map enA), .sl 1 (ts.map inA)] [] 0 (.fn (.func 215) [] [.ptr 0 0, .ptr 1 0]) [(0, .cells 33 [.sl 5 (ls.map enA)]), (1, .cells 24 [.sl 1 (ts.map inA)])] 2 := by
  refine gq 6 [.tmp 4] Tryz.func194 ?_
  refine aj ?_
  refine aj (wR ?_)
  refine ⟨[], ?_⟩
  simp only [go_sem, AObj.bel, AObj.ren, AV.ren, aA, sg] <;> simp
end Go.Proofs.S
end
section
open Go Go.Abs Go.Proofs
open Go.Shelf Go.RowKit Go.Lib
namespace Go.Proofs.S
theorem infoE : P.info? 65 = some Tryz.t65 := by kernel_rfl
theorem infoR : P.info? 109 = some Tryz.t109 := by kernel_rfl
theorem grow_new {ρ : Ren} (L : Lays8.n4 P ρ) {i0 : TypeInfo} {z : Value} (hi0 : P.info? (ρ.t 25) = some i0) (hz0 : i0.zero = some z) (hs0 : 0 < i0.size) (hzs : z.cells.size = i0.size) (n : Nat) (hbig : n * i0.bytes ≤ 140737488355328) (h63 : n ≤ 4611686018427387904) :
    aD P (ρ.f 4) [.raw (.slice none 0 0), .raw (.int .i64 (n : Int))] [] 0 (.ref 0) [(0, .row (ρ.t 25) i0.size [])] 1 := by
  refine gives_newRow fun C w vals hR hv => ?_
  have hvals : vals = #[.slice none 0 0, .int .i64 (n : Int)] := by
    obtain ⟨h1, h2⟩ := hv
    match vals, h1 with
    | ⟨[a, b]⟩, _ =>
      have e0 := h2 0 _ rfl
      have e1 := h2 1 _ rfl
      generalize h0 : (#[a, b] : Array Value).getD 0 undef = u at e0
      generalize h0' : (#[a, b] : Array Value).getD 1 undef = u' at e1
      cases e0; cases e1
      have ha : a = .slice none 0 0 := h0
      have hb : b = .int .i64 (n : Int) := h0'
      rw [ha, hb]
  rw [hvals]
  rcases Nat.eq_zero_or_pos n with h0 | h0
  · subst h0
    refine (Any8.slices_Grow_room L none 0 0 0 w (Nat.le_refl _) (by omega) (by omega) (by omega)).mono fun e w' ⟨he, hw⟩ => ?_
    subst hw
    exact ⟨_, [], he, rfl, Below.refl _ _, by simp, List.nodup_nil, fun ρ av => .own0 _ _⟩
  refine (Any8.slices_Grow_grow L i0 z hi0 hz0 hs0 none 0 0 n [] w (Nat.le_refl _) (by omega) (by rw [Nat.zero_add]; exact hbig) (by omega) (by simp) (fun _ => rfl) (fun a h => by cases h)).mono fun e w' ⟨he, hw⟩ => ?_
  have hge := grownCap_ge w (0 + n) 0 (ρ.t 25)
  have hcm : grownCap w (0 + n) 0 (ρ.t 25) ≤ maxLen := grownCap_le_maxLen w (0 + n) 0 (ρ.t 25) (by simp only [maxLen]; omega)
  subst hw
  refine ⟨_, [w.heap.size], he, rfl, ⟨rfl, rfl, rfl, by simp, fun k hk => heap_alloc_old w.drew _ hk⟩, by simp, List.nodup_cons.2 ⟨by simp, List.nodup_nil⟩, fun ρ' av => ?_⟩
  have := RepO.own (ρ := ρ') (av := av) (hp := (w.drew.alloc (.cells ((#[] : Array Value) ++ Builtin.zeroCells z.cells (0 + n - 0) ++ Builtin.zeroCells z.cells (grownCap w (0 + n) 0 (ρ.t 25) - (0 + n))) (ρ.t 25))).heap) (ρ.t 25) i0.size [] w.heap.size (grownCap w (0 + n) 0 (ρ.t 25)) _ (fun _ => undef) (fun _ => []) (heap_alloc_new w.drew _) (by
      simp only [Array.size_append, List.size_toArray, size_zeroCells, hzs, List.length_nil, Array.size_empty]
      have e1 : (0 + n - 0) + (grownCap w (0 + n) 0 (ρ.t 25) - (0 + n)) = grownCap w (0 + n) 0 (ρ.t 25) := by omega
      have e2 := congrArg (· * i0.size) e1
      simp only [Nat.add_mul (0 + n - 0)] at e2
      omega) (Nat.zero_le _) hcm (fun j x hj => by simp at hj) (fun j hj => absurd hj (Nat.not_lt_zero _))
  exact this
theorem w_GrowE (n : Nat) (hn : n ≤ 1048576) : aD P 218 [.raw (.slice none 0 0), .raw (.int .i64 (n : Int))] [] 0 (.ref 0) [(0, .row 65 5 [])] 1 :=
  grow_new Tryz.growE (i0 := Tryz.t65) infoE rfl (by decide) rfl n (show n * 56 ≤ _ by omega) (by omega)
theorem w_GrowR (n : Nat) (hn : n ≤ 1048576) : aD P 145 [.raw (.slice none 0 0), .raw (.int .i64 (n : Int))] [] 0 (.ref 0) [(0, .row 109 2 [])] 1 :=
  grow_new Tryz.growR (i0 := Tryz.t109) infoR rfl (by decide) rfl n (show n * 32 ≤ _ by omega) (by omega)
theorem wT {α : Type} {cs : List (List α)} {i : Nat} {l : List α} (h : cs[i]? = some l) : (cs.take (i + 1)).flatten = (cs.take i).flatten ++ l := by
  rw [List.take_add_one, h]; simp
theorem rJ {α : Type} (cs : List (List α)) (i : Nat) : (cs.take i).flatten.length ≤ cs.flatten.length := by
  have h := congrArg (fun z => z.flatten.length) (List.take_append_drop i cs)
  simp only [List.flatten_append, List.length_append] at h
  omega
theorem w_ConcatE (cs : List (List Entry)) (h1 : cs.length ≤ 1048576) (h2 : cs.flatten.length ≤ 1048576) : aB P 196 [.sl 1 (cs.map esA)] [] 0 (.sl 5 (cs.flatten.map enA)) := by
 refine pq 36 [.tmp 2] Tryz.func196 ?_
 have hmx : maxLen = 9223372036854775807 := rfl
 refine aj ?_; refine aj ?_
 refine sq fun _ k3 => aj (wb ?_)
 refine wl (α := Nat) (fun x => x ≤ cs.length) (fun x => cs.length - x) (fun x => ([(0, .sl 1 (cs.map esA)), (3, .raw (.int .i64 (((cs.take x).flatten.length : Int) : Int))), (9, .sl 1 (cs.map esA)), (10, .raw (.int .i64 (cs.length : Int))), (11, .raw (.int .i64 (x : Int)))], [])) 0 0 (Nat.zero_le _) [] ?_ ?_
 · simp only [go_sem, Int.natCast_zero] <;> simp
 rintro i hi
 refine aj ?_; refine sq fun _ k6 => ?_
 refine cd rfl (fun hc1 => ?_) fun hc1 => ?_
 · have hlt : i < cs.length := (by simpa using hc1); obtain ⟨l, hlx, hdrop, hml⟩ := ix hlt
   have hft := wT hlx
   have hfl1 := rJ cs i
   have hfl2 := rJ cs (i + 1)
   have hfl3 : (cs.take (i + 1)).flatten.length = (cs.take i).flatten.length + l.length := by rw [hft, List.length_append]
   have hws : IntKind.i64.wrap ((((cs.take i).flatten.length : Nat) : Int) + (l.length : Int)) = (((cs.take i).flatten.length + l.length : Nat) : Int) := by rw [w64]; omega
   refine wk (k6 (sq fun _ k7 => (wb (sr rfl fun _ k8 => ?_))))
   simp only [go_sem, hlx, esA]
   refine jr (k8 ?_)
   refine sr rfl fun _ k9 => ?_; simp only [go_sem, hws, esA]
   refine k9 (aj ?_)
   refine cd rfl (fun hc2 => ?_) fun hc2 => ?_
   · exfalso; simp at hc2; omega
   refine wk (jt (k7 ?_))
   refine jw (wiS i (by omega)) ?_
   refine jt ?_
   refine ⟨i + 1, by omega, by omega, [], ?_⟩
   rw [hfl3]
   simp only [go_sem] <;> simp
 have hge : cs.length ≤ i := Nat.not_lt.1 (by simpa using hc1)
 have hie : i = cs.length := by omega
 subst hie; rw [List.take_length]
 refine we (jt (k3 ?_))
 refine sr rfl fun _ k11 => ja ?_
 refine vn 1 rfl rfl rfl ⟨Tryz.func218, rfl, rfl⟩ (w_GrowE cs.flatten.length h2) (by simp only [go_sem]) (by simp only [go_sem]) (by simp) (by decide) ?_
 simp only [go_sem, AV.ren, AObj.ren, aA, shift, sg, Nat.le_refl, Nat.add_zero, Nat.sub_self]
 refine k11 (sq fun _ k12 => (aj (wb ?_)))
 refine wl (α := Nat) (fun x => x ≤ cs.length) (fun x => cs.length - x) (fun x => ([(6, .ref 0), (25, .sl 1 (cs.map esA)), (26, .raw (.int .i64 (cs.length : Int))), (27, .raw (.int .i64 (x : Int)))], [(0, .row 65 5 ((cs.take x).flatten.map enA))])) 1 0 (Nat.zero_le _) [] ?_ ?_
 · simp only [go_sem, AObj.bel, List.take_zero, List.flatten_nil, List.map_nil, Int.natCast_zero] <;> simp
 rintro i hi
 refine aj ?_; refine sq fun _ k15 => ?_
 refine cdS rfl (fun hc3 => ?_) fun hc3 => ?_
 · have hge : cs.length ≤ i := Nat.not_lt.1 (by simpa using hc3)
   have hie : i = cs.length := by omega
   subst hie; rw [List.take_length]
   refine we (jt (k12 ?_))
   refine aj ?_
   refine aFz 0 rfl ?_
   simp only [go_sem, fzL, AV.fz]; refine wR ?_
   refine fO ?_ (enB _ _)
   simp only [go_sem]
 have hlt : i < cs.length := (by simpa using hc3); obtain ⟨l, hlx, hdrop, hml⟩ := ix hlt
 have hft := wT hlx
 have hfl1 := rJ cs i
 have hfl2 := rJ cs (i + 1)
 have hfl3 : (cs.take (i + 1)).flatten.length = (cs.take i).flatten.length + l.length := by rw [hft, List.length_append]
 refine wk (k15 (sq fun _ k16 => (wb (sr rfl fun _ k17 => ?_))))
 simp only [go_sem, hlx, esA]
 refine jr (k17 ?_)
 refine wg rfl ?_; simp only [go_sem, List.length_take, List.length_append, List.nil_append, List.length_map, List.length_drop]; refine jr ?_
 refine jt (k16 ?_)
 refine jw (wiS i (by omega)) ?_
 refine jt ?_
 refine ⟨i + 1, by omega, by omega, [(0, 1)], ?_⟩
 simp only [go_sem, AObj.bel, AObj.ren, AV.ren, aA, sg] <;> simp [hft]
theorem w_ConcatR (cs : List (List Run)) (h1 : cs.length ≤ 1048576) (h2 : cs.flatten.length ≤ 1048576) : aB P 91 [.sl 1 (cs.map rsA)] [] 0 (.sl 2 (cs.flatten.map rA)) := by
 refine pq 36 [.tmp 2] Tryz.func91 ?_
 have hmx : maxLen = 9223372036854775807 := rfl
 refine aj ?_; refine aj ?_
 refine sq fun _ k3 => aj (wb ?_)
 refine wl (α := Nat) (fun x => x ≤ cs.length) (fun x => cs.length - x) (fun x => ([(0, .sl 1 (cs.map rsA)), (3, .raw (.int .i64 (((cs.take x).flatten.length : Int) : Int))), (9, .sl 1 (cs.map rsA)), (10, .raw (.int .i64 (cs.length : Int))), (11, .raw (.int .i64 (x : Int)))], [])) 0 0 (Nat.zero_le _) [] ?_ ?_
 · simp only [go_sem, Int.natCast_zero] <;> simp
 rintro i hi
 refine aj ?_; refine sq fun _ k6 => ?_
 refine cd rfl (fun hc1 => ?_) fun hc1 => ?_
 · have hlt : i < cs.length := (by simpa using hc1); obtain ⟨l, hlx, hdrop, hml⟩ := ix hlt
   have hft := wT hlx
   have hfl1 := rJ cs i
   have hfl2 := rJ cs (i + 1)
   have hfl3 : (cs.take (i + 1)).flatten.length = (cs.take i).flatten.length + l.length := by rw [hft, List.length_append]
   have hws : IntKind.i64.wrap ((((cs.take i).flatten.length : Nat) : Int) + (l.length : Int)) = (((cs.take i).flatten.length + l.length : Nat) : Int) := by rw [w64]; omega
   refine wk (k6 (sq fun _ k7 => (wb (sr rfl fun _ k8 => ?_))))
   simp only [go_sem, hlx, rsA]
   refine jr (k8 ?_)
   refine sr rfl fun _ k9 => ?_; simp only [go_sem, hws, rsA]
   refine k9 (aj ?_)
   refine cd rfl (fun hc2 => ?_) fun hc2 => ?_
   · exfalso; simp at hc2; omega
   refine wk (jt (k7 ?_))
   refine jw (wiS i (by omega)) ?_
   refine jt ?_
   refine ⟨i + 1, by omega, by omega, [], ?_⟩
   rw [hfl3]
   simp only [go_sem] <;> simp
 have hge : cs.length ≤ i := Nat.not_lt.1 (by simpa using hc1)
 have hie : i = cs.length := by omega
 subst hie; rw [List.take_length]
 refine we (jt (k3 ?_))
 refine sr rfl fun _ k11 => ja ?_
 refine vn 1 rfl rfl rfl ⟨Tryz.func145, rfl, rfl⟩ (w_GrowR cs.flatten.length h2) (by simp only [go_sem]) (by simp only [go_sem]) (by simp) (by decide) ?_
 simp only [go_sem, AV.ren, AObj.ren, aA, shift, sg, Nat.le_refl, Nat.add_zero, Nat.sub_self]
 refine k11 (sq fun _ k12 => (aj (wb ?_)))
 refine wl (α := Nat) (fun x => x ≤ cs.length) (fun x => cs.length - x) (fun x => ([(6, .ref 0), (25, .sl 1 (cs.map rsA)), (26, .raw (.int .i64 (cs.length : Int))), (27, .raw (.int .i64 (x : Int)))], [(0, .row 109 2 ((cs.take x).flatten.map rA))])) 1 0 (Nat.zero_le _) [] ?_ ?_
 · simp only [go_sem, AObj.bel, List.take_zero, List.flatten_nil, List.map_nil, Int.natCast_zero] <;> simp
 rintro i hi
 refine aj ?_; refine sq fun _ k15 => ?_
 refine cdS rfl (fun hc3 => ?_) fun hc3 => ?_
 · have hge : cs.length ≤ i := Nat.not_lt.1 (by simpa using hc3)
   have hie : i = cs.length := by omega
   subst hie; rw [List.take_length]
   refine we (jt (k12 ?_))
   refine aj ?_
   refine aFz 0 rfl ?_
   simp only [go_sem, fzL, AV.fz]; refine wR ?_
   refine fO ?_ (mN _ _)
   simp only [go_sem]
 have hlt : i < cs.length := (by simpa using hc3); obtain ⟨l, hlx, hdrop, hml⟩ := ix hlt
 have hft := wT hlx
 have hfl1 := rJ cs i
 have hfl2 := rJ cs (i + 1)
 have hfl3 : (cs.take (i + 1)).flatten.length = (cs.take i).flatten.length + l.length := by rw [hft, List.length_append]
 refine wk (k15 (sq fun _ k16 => (wb (sr rfl fun _ k17 => ?_))))
 simp only [go_sem, hlx, rsA]
 refine jr (k17 ?_)
 refine wg rfl ?_; simp only [go_sem, List.length_take, List.length_append, List.nil_append, List.length_map, List.length_drop]; refine jr ?_
 refine jt (k16 ?_)
 refine jw (wiS i (by omega)) ?_
 refine jt ?_
 refine ⟨i + 1, by omega, by omega, [(0, 1)], ?_⟩
 simp only [go_sem, AObj.bel, AObj.ren, AV.ren, aA, sg] <;> simp [hft]
end Go.Proofs.S
end
section
open Go Go.Abs Go.Proofs
namespace Go.Proofs.S
section
variable {c ls : List Entry} {b : Bool} {i : Nat}
def lfL (f : List Entry → Bool → List Entry) : List (List Entry) → Bool → List (List Entry) × Bool
  | [], b => ([], b)
  | c :: r, b => (f c (lfL f r b).2 :: (lfL f r b).1, (lfL f r b).2 && decide (((f c (lfL f r b).2).length : Int) = 0))
def sqK (ts : List Int) (ls : List Entry) (bottom : Bool) : List Entry := (lfL sqC (aY ts ls) bottom).1.flatten
theorem lfL_len (f : List Entry → Bool → List Entry) (b : Bool) : ∀ cs, (lfL f cs b).1.length = cs.length
  | [] => rfl
  | c :: r => by simp only [lfL, List.length_cons, lfL_len f b r]
theorem clsGo_len (ts : List Int) (ls : List Entry) : ∀ f s i, f + i = ls.length + 1 → s ≤ i → (hJ ts ls f s i).flatten.length ≤ ls.length - s
  | 0, s, i, h, hs => by simp [hJ]
  | f + 1, s, i, h, hs => by
    unfold hJ; split
    · have := clsGo_len ts ls f s (i + 1) (by omega) (by omega)
      omega
    have := clsGo_len ts ls f i (i + 1) (by omega) (by omega)
    simp only [List.flatten_cons, List.length_append, List.length_drop, List.length_take]; omega
theorem clsGo_mem (ts : List Int) (ls : List Entry) : ∀ f s i, f + i = ls.length + 1 → s < i → ∀ c ∈ hJ ts ls f s i, c ≠ [] ∧ c.length ≤ ls.length ∧ ∀ e ∈ c, e ∈ ls
  | 0, s, i, h, hs => by simp [hJ]
  | f + 1, s, i, h, hs => by
    intro c hc; unfold hJ at hc; split at hc
    · exact clsGo_mem ts ls f s (i + 1) (by omega) (by omega) c hc
    rcases List.mem_cons.1 hc with rfl | hc
    · refine ⟨fun e => ?_, by simp only [List.length_drop, List.length_take]; omega, fun e he => List.mem_of_mem_take (List.mem_of_mem_drop he)⟩
      have := congrArg List.length e
      simp only [List.length_drop, List.length_take, List.length_nil] at this
      omega
    exact clsGo_mem ts ls f i (i + 1) (by omega) (by omega) c hc
theorem dT {ts : List Int} (h : c ∈ aY ts ls) : c ≠ [] ∧ c.length ≤ ls.length ∧ ∀ e ∈ c, e ∈ ls := clsGo_mem ts ls ls.length 0 1 rfl (by omega) c h
theorem nEnts_cls {ts : List Int} (hz : sF ls) (h : c ∈ aY ts ls) : sF c := ⟨by have := (dT h).2.1; have := hz.1; omega, fun e he => hz.2 e ((dT h).2.2 e he)⟩
theorem flat_ne {α : Type} : ∀ {cs : List (List α)}, (∀ c ∈ cs, c ≠ []) → cs.length ≤ cs.flatten.length
  | [], _ => by simp
  | c :: r, h => by
    have h1 := flat_ne (cs := r) fun x hx => h x (List.mem_cons_of_mem _ hx)
    have h2 := List.length_pos_iff.2 (h c List.mem_cons_self)
    simp only [List.length_cons, List.flatten_cons, List.length_append]; omega
theorem jQ {ts : List Int} : (aY ts ls).length ≤ ls.length ∧ (aY ts ls).flatten.length ≤ ls.length := by
  have h1 := clsGo_len ts ls ls.length 0 1 rfl (by omega)
  have h2 := flat_ne (cs := aY ts ls) fun c hc => (dT hc).1
  have h1' : (aY ts ls).flatten.length ≤ ls.length - 0 := h1
  omega
theorem sqC_len (ls : List Entry) (b : Bool) (h : ls ≠ []) : (sqC ls b).length ≤ ls.length := by
  have hp := List.length_pos_iff.2 h
  unfold sqC
  repeat' split
  all_goals first | omega | (simp only [List.length_nil, List.length_cons]; omega)
theorem lfL_flat (b : Bool) : ∀ {cs : List (List Entry)}, (∀ c ∈ cs, c ≠ []) → (lfL sqC cs b).1.flatten.length ≤ cs.flatten.length
  | [], _ => by simp [lfL]
  | c :: r, h => by
    have h1 := lfL_flat b (cs := r) fun x hx => h x (List.mem_cons_of_mem _ hx)
    have h2 := sqC_len c (lfL sqC r b).2 (h c List.mem_cons_self)
    simp only [lfL, List.flatten_cons, List.length_append]; omega
theorem sqK_len (ts : List Int) (ls : List Entry) (b : Bool) : (sqK ts ls b).length ≤ ls.length := by
  have h1 := lfL_flat b (cs := aY ts ls) fun c hc => (dT hc).1
  have h2 := (jQ (ts := ts) (ls := ls)).2
  unfold sqK; omega
def eU (cs : List (List Entry)) (b : Bool) (j : Nat) : List (List Entry) := cs.take j ++ (lfL sqC (cs.drop j) b).1
def nZ (cs : List (List Entry)) (b : Bool) (j : Nat) : Bool := (lfL sqC (cs.drop j) b).2
theorem vJ {cs : List (List Entry)} {j : Nat} (h : j ≤ cs.length) : (eU cs b j).length = cs.length := by
  unfold eU; rw [List.length_append, lfL_len, List.length_take, List.length_drop]; omega
theorem sqParts_get {cs : List (List Entry)} (h : cs[i]? = some c) : (eU cs b (i + 1))[i]? = some c := by
  have hlt := (List.getElem?_eq_some_iff.1 h).1
  unfold eU; rw [List.getElem?_append_left (by rw [List.length_take]; omega), List.getElem?_take]; simp [h]
theorem sqParts_set {cs : List (List Entry)} (h : cs[i]? = some c) : (eU cs b (i + 1)).set i (sqC c (nZ cs b (i + 1))) = eU cs b i := by
  have hlt := (List.getElem?_eq_some_iff.1 h).1
  have h1 : cs.drop i = c :: cs.drop (i + 1) := qF h
  have h2 : cs.take (i + 1) = cs.take i ++ [c] := by rw [List.take_add_one, h]; rfl
  unfold eU nZ
  rw [h1, h2, List.append_assoc, List.set_append_right _ _ (by rw [List.length_take]; omega)]
  simp only [List.length_take, Nat.min_eq_left (Nat.le_of_lt hlt), Nat.sub_self, List.cons_append, List.nil_append, List.set_cons_zero, lfL]
theorem bare_step {cs : List (List Entry)} (h : cs[i]? = some c) : nZ cs b i = (nZ cs b (i + 1) && decide (((sqC c (nZ cs b (i + 1))).length : Int) = 0)) := by
  unfold nZ; rw [qF h]; rfl
theorem runL_all {α : Type} : ∀ (xs s : List α), zI (fun s c => (s ++ [c], true)) xs s = s ++ xs
  | [], s => by simp [zI]
  | x :: r, s => by rw [zI]; simp only [if_true]; rw [runL_all r]; simp
theorem sJ (ts : List Int) (ls : List Entry) (bottom : Bool) (hz : sF ls) (hts : ts.length ≤ 1048576) : aB P 147 [.sl 5 (ls.map enA), .sl 1 (ts.map inA), .raw (.bool bottom)] [] 0 (.sl 5 ((sqK ts ls bottom).map enA)) := by
 refine pq 47 [.tmp 6] Tryz.func147 ?_
 have hmx : maxLen = 9223372036854775807 := rfl
 have hcc := jQ (ts := ts) (ls := ls)
 have hlen := hz.1
 refine aj ?_; refine aj ?_
 refine sq fun _ k3 => sr rfl fun _ k4 => ja ?_
 refine vn 2 rfl rfl rfl ⟨Tryz.func194, rfl, rfl⟩ (w_impl_classesOf ls ts) (by simp only [go_sem]) (by simp only [go_sem]) (by simp) (by decide) ?_
 simp only [go_sem, AV.ren, AObj.ren, aA, shift, sg, Nat.le_refl, Nat.add_zero, Nat.sub_self]
 refine k4 (wb ?_)
 refine awp_cellRow (i := 0) (q := 7) 33 1 rfl rfl (by decide) ?_
 simp only [go_sem]
 refine awp_rangeFunc (S := List (List Entry)) (cap := [.ptr 1 0, .ptr 2 0]) (CH := [(1001, .cells 33 [.sl 5 (ls.map enA)]), (1002, .cells 24 [.sl 1 (ts.map inA)])]) (enc := fun c : List Entry => [.sl 5 (c.map enA)]) (xs := aY ts ls) (fn := Tryz.f215)
   (fun s => [(3, .row 121 1 [.own 33 1 (s.map esA)]), (1, .cells 33 [.sl 5 (ls.map enA)]), (2, .cells 24 [.sl 1 (ts.map inA)])]) [(7, .ep 3 1 0 0)] (fun r s => s ++ r = aY ts ls) (fun _ => none) (fun s c => (s ++ [c], true)) []
   (by decide) rfl ⟨Tryz.func215, rfl, rfl⟩ ⟨(by simp [AV.bel]), (by simp [AV.bel]), trivial⟩ (it_classes ls ts hz.1 hts 1001 1002 (by decide) (by decide)) (fun x _ => ⟨rfl, enB _ _, trivial⟩) (by decide) ?_ ?_ ?_ ?_ ?_ ?_ rfl (fun _ _ _ => rfl) ?_ ?_
 · simp [Abs.get, AV.bel]
 · simp only [go_sem, List.map_nil]
 · intro s q hq
   simp only [List.mem_cons, List.not_mem_nil, or_false] at hq
   rcases hq with rfl | rfl | rfl <;> simp [AObj.bel, aC, AV.bel, enB, bE, tC]
 · intro s; simp
 · intro s s'; rfl
 · intro s; simp only [go_sem, AObj.ren, AV.ren, aA]
 · intro s x r l hi hx
   have hsl : s.length ≤ 1048576 := by
     have h8 := congrArg List.length hi
     have h9 := (jQ (ts := ts) (ls := ls)).1
     simp only [List.length_append] at h8
     omega
   refine ⟨?_, rfl, fun _ => by rw [← hi]; simp⟩
   simp only [go_sem]; refine wg rfl ?_; simp only [go_sem]; refine wb ?_
   refine tM (i := 3) (j := 0) (by omega) rfl rfl ?_
   simp only [go_sem]; refine wg rfl ?_; simp only [go_sem, List.length_take, List.length_append, List.nil_append, List.length_map, List.length_drop]; refine jr ?_
   simp [esA]
 rw [runL_all]; simp only [go_sem, List.nil_append]
 refine jt (k3 ?_)
 refine aj ?_; refine sq fun _ k6 => ?_
 have hw0 : IntKind.i64.wrap (((aY ts ls).length : Int) - 1) = ((aY ts ls).length : Int) - 1 := by rw [w64]; omega
 refine tM (i := 3) (j := 0) (by omega) rfl rfl ?_
 simp only [go_sem]; refine sr rfl fun _ k7 => ?_; simp only [go_sem, List.length_map, hw0]
 refine k7 (wb ?_)
 refine wl (α := Nat) (fun x => x ≤ (aY ts ls).length) (fun x => x) (fun x => ([(7, .ep 0 1 0 0), (9, .raw (.bool (nZ (aY ts ls) bottom x))), (10, .raw (.int .i64 ((x : Int) - 1)))], [(0, .row 121 1 [.ref 1]), (1, .row 33 1 ((eU (aY ts ls) bottom x).map esA))])) 2 (aY ts ls).length (Nat.le_refl _) [(0, 3), (1, 5)] ?_ ?_
 · have h8 : eU (aY ts ls) bottom (aY ts ls).length = (aY ts ls) := by simp [eU, lfL]
   have h9 : nZ (aY ts ls) bottom (aY ts ls).length = bottom := by simp [nZ, lfL]
   rw [h8, h9]
   simp only [go_sem, AObj.bel, AObj.ren, AV.ren, aA, sg] <;> simp
 rintro j hj
 refine sq fun _ k8 => aj ?_
 refine cdS rfl (fun hc1 => ?_) fun hc1 => ?_
 · have hj0 : j = 0 := by simp at hc1; omega
   subst hj0
   refine we (jt (k6 ?_))
   refine sr rfl fun _ k12 => ja ?_
   refine jV 1 rfl ?_
   simp only [go_sem, fzL, AV.fz]
   refine vq Tryz.func196 (w_ConcatE (eU (aY ts ls) bottom 0) (by rw [vJ (Nat.zero_le _)]; omega) (by have := sqK_len ts ls bottom; unfold eU; simpa [sqK] using (show (sqK ts ls bottom).length ≤ 1048576 by omega))) (k12 (wR ?_))
   refine fO ?_ (enB _ _)
   simp only [go_sem, sqK, eU, List.take_zero, List.nil_append, List.drop_zero]
 have hj0 : 0 < j := by simp at hc1; omega
 obtain ⟨i, rfl⟩ : ∃ i, j = i + 1 := ⟨j - 1, by omega⟩
 have hci : (((i + 1 : Nat) : Int) - 1) = (i : Int) := by omega
 obtain ⟨c, hcx, _, hcm⟩ := ix (xs := aY ts ls) (i := i) (by omega)
 have hpg := sqParts_get (b := bottom) hcx
 have hpl := vJ (b := bottom) (cs := aY ts ls) (j := i + 1) hj
 have hps := sqParts_set (b := bottom) hcx
 have hbs := bare_step (b := bottom) hcx
 rw [hci]
 refine wk (k8 (sq fun _ k10 => (wb (sd mixed rfl fun _ k11 => ?_))))
 simp only [go_sem, hpl, hpg, esA, List.length_map]; refine jr ?_
 refine tp rfl rfl rfl ⟨Tryz.func195, rfl, rfl⟩ (yQ c (nZ (aY ts ls) bottom (i + 1)) (nEnts_cls hz hcm) (dT hcm).1) (by simp only [go_sem, enA]) (by simp only [go_sem, enA]) ?_
 simp only [go_sem, hpl, hpg]; refine jr ?_; refine ⟨by rfl, ?_⟩; apply k11
 have hps2 : ((eU (aY ts ls) bottom (i + 1)).map esA).set i (.sl 5 ((sqC c (nZ (aY ts ls) bottom (i + 1))).map enA)) = (eU (aY ts ls) bottom i).map esA := by rw [← hps, List.map_set]; rfl
 have hpl2 := vJ (b := bottom) (cs := aY ts ls) (j := i) (by omega)
 have hpg2 : (eU (aY ts ls) bottom i)[i]? = some (sqC c (nZ (aY ts ls) bottom (i + 1))) := by rw [← hps, List.getElem?_set_self (by omega)]
 rw [hps2]; refine wg rfl ?_; simp only [go_sem, List.length_map, hpl2, hpg2, esA]; refine jr ?_
 refine jt (k10 ?_)
 have hw : IntKind.i64.wrap ((i : Int) - 1) = (i : Int) - 1 := by rw [w64]; omega
 refine wg rfl ?_; simp only [go_sem, hw]; refine jt ?_
 refine ⟨i, by omega, by omega, [], ?_⟩
 rw [hbs]
 simp only [go_sem, AObj.bel, AObj.ren, AV.ren, aA, sg] <;> simp
end
end Go.Proofs.S
end
section
open Go Go.Abs Go.Proofs
open Go.RowKit
namespace Go.Proofs.S
section
variable {v : Value} {ρ : Nat → Value} {av : Nat → Prop} {hp : Array Obj}
theorem two_new (w : World) (o o' : Obj) : ((w.alloc o).alloc o').heap[w.heap.size + 1]? = some o' ∧ ((w.alloc o).alloc o').heap[w.heap.size]? = some o ∧ (∀ k, k < w.heap.size → ((w.alloc o).alloc o').heap[k]? = w.heap[k]?) ∧ ((w.alloc o).alloc o').heap.size = w.heap.size + 2 ∧
    ((w.alloc o).alloc o').os = w.os ∧ ((w.alloc o).alloc o').tape = w.tape ∧ ((w.alloc o).alloc o').output = w.output := by
  have e : (w.alloc o).heap.size = w.heap.size + 1 := by show (w.heap.push o).size = _; rw [Array.size_push]
  refine ⟨?_, ?_, fun k hk => ?_, by show ((w.alloc o).heap.push o').size = _; rw [Array.size_push, e], rfl, rfl, rfl⟩
  · have := heap_alloc_new (w.alloc o) o'; rwa [e] at this
  · have := heap_alloc_old (w.alloc o) o' (r := w.heap.size) (by omega)
    rw [this]; exact heap_alloc_new w o
  rw [heap_alloc_old (w.alloc o) o' (r := k) (by omega), heap_alloc_old w o hk]
theorem cell_old {w w1 : World} (h : ∀ k, k < w.heap.size → w1.heap[k]? = w.heap[k]?) {a : Addr} (hc : w.cell? a = some v) : w1.cell? a = some v := by
  have hb : a.block < w.heap.size := by
    unfold World.cell? at hc
    split at hc
    · rename_i hh; exact (Array.getElem?_eq_some_iff.1 hh).1
    cases hc
  unfold World.cell? at hc ⊢
  rw [h _ hb]; exact hc
theorem c_shelves (w : World) (a : Addr) (c : Nat) (p0 p1 p2 : Option Addr) (l0 l1 l2 k0 k1 k2 : Nat) (hsrc : ∀ j v, [(.slice p0 l0 k0 : Value), (.slice p1 l1 k1 : Value), (.slice p2 l2 k2 : Value)][j]? = some v → w.cell? (a.add j) = some v) : Calls P 85 #[.slice (some a) 3 c] w fun e w' => e = .returned (.agg #[(.slice p0 l0 k0 : Value), (.slice p1 l1 k1 : Value), (.slice p2 l2 k2 : Value)]) ∧ Below w.heap.size w w' := by
  obtain ⟨n1, n2, n3, n4, n5, n6, n7⟩ := two_new w (Obj.cells #[Value.slice none 0 0, Value.slice none 0 0, Value.slice none 0 0] 112) (Obj.cells #[Value.slice none 0 0, Value.slice none 0 0, Value.slice none 0 0] 112)
  go_enter Tryz.func85, Tryz.ntmps85
  go_wp2
  generalize hw1 : (w.alloc (Obj.cells #[Value.slice none 0 0, Value.slice none 0 0, Value.slice none 0 0] 112)).alloc (Obj.cells #[Value.slice none 0 0, Value.slice none 0 0, Value.slice none 0 0] 112) = w1 at n1 n2 n3 n4 n5 n6 n7 ⊢
  rw [run_copy_row P w1 34 34 3 107 (w.heap.size + 1) 0 3 3 a 3 c _ 112 [(.slice p0 l0 k0 : Value), (.slice p1 l1 k1 : Value), (.slice p2 l2 k2 : Value)] (by kernel_rfl) (by kernel_rfl) n1 rfl (fun j v hj => cell_old n3 (hsrc j v hj)) (by simp) (by simp [Value.oneCell'])]
  have hb1 := setRow_heap w1 (w.heap.size + 1) _ #[(.slice p0 l0 k0 : Value), (.slice p1 l1 k1 : Value), (.slice p2 l2 k2 : Value)] 112 (0, 0) n1
  have m2 := (setRow_other w1 (w.heap.size + 1) w.heap.size #[(.slice p0 l0 k0 : Value), (.slice p1 l1 k1 : Value), (.slice p2 l2 k2 : Value)] (by omega)).trans n2
  have m3 : ∀ k, k < w.heap.size → (w1.setRow (w.heap.size + 1) #[(.slice p0 l0 k0 : Value), (.slice p1 l1 k1 : Value), (.slice p2 l2 k2 : Value)]).heap[k]? = w.heap[k]? := fun k hk => (setRow_other w1 (w.heap.size + 1) k #[(.slice p0 l0 k0 : Value), (.slice p1 l1 k1 : Value), (.slice p2 l2 k2 : Value)] (by omega)).trans (n3 k hk)
  have m4 : (w1.setRow (w.heap.size + 1) #[(.slice p0 l0 k0 : Value), (.slice p1 l1 k1 : Value), (.slice p2 l2 k2 : Value)]).heap.size = w.heap.size + 2 := by rw [← n4]; simp [World.setRow]
  have m5 : (w1.setRow (w.heap.size + 1) #[(.slice p0 l0 k0 : Value), (.slice p1 l1 k1 : Value), (.slice p2 l2 k2 : Value)]).os = w.os := n5
  have m6 : (w1.setRow (w.heap.size + 1) #[(.slice p0 l0 k0 : Value), (.slice p1 l1 k1 : Value), (.slice p2 l2 k2 : Value)]).tape = w.tape := n6
  have m7 : (w1.setRow (w.heap.size + 1) #[(.slice p0 l0 k0 : Value), (.slice p1 l1 k1 : Value), (.slice p2 l2 k2 : Value)]).output = w.output := n7
  have hl : (#[].toList.take 0 ++ [(.slice p0 l0 k0 : Value), (.slice p1 l1 k1 : Value), (.slice p2 l2 k2 : Value)] ++ (#[Value.slice none 0 0, Value.slice none 0 0, Value.slice none 0 0] : Array Value).toList.drop (0 + [(.slice p0 l0 k0 : Value), (.slice p1 l1 k1 : Value), (.slice p2 l2 k2 : Value)].length)).toArray = #[(.slice p0 l0 k0 : Value), (.slice p1 l1 k1 : Value), (.slice p2 l2 k2 : Value)] := rfl
  rw [show ((#[Value.slice none 0 0, Value.slice none 0 0, Value.slice none 0 0] : Array Value).toList.take 0 ++ [(.slice p0 l0 k0 : Value), (.slice p1 l1 k1 : Value), (.slice p2 l2 k2 : Value)] ++ (#[Value.slice none 0 0, Value.slice none 0 0, Value.slice none 0 0] : Array Value).toList.drop (0 + [(.slice p0 l0 k0 : Value), (.slice p1 l1 k1 : Value), (.slice p2 l2 k2 : Value)].length)).toArray = #[(.slice p0 l0 k0 : Value), (.slice p1 l1 k1 : Value), (.slice p2 l2 k2 : Value)] from rfl]
  generalize w1.setRow (w.heap.size + 1) #[(.slice p0 l0 k0 : Value), (.slice p1 l1 k1 : Value), (.slice p2 l2 k2 : Value)] = w2 at hb1 m2 m3 m4 m5 m6 m7 ⊢
  have c0 : w2.cell? ⟨w.heap.size + 1, 0, none⟩ = some (.slice p0 l0 k0 : Value) := by simp [World.cell?, hb1]
  have c1 : w2.cell? ⟨w.heap.size + 1, 1, none⟩ = some (.slice p1 l1 k1 : Value) := by simp [World.cell?, hb1]
  have c2 : w2.cell? ⟨w.heap.size + 1, 2, none⟩ = some (.slice p2 l2 k2 : Value) := by simp [World.cell?, hb1]
  have d0 : w2.cell? ⟨w.heap.size, 0, none⟩ = some (.slice none 0 0) := by simp [World.cell?, m2]
  have d1 : w2.cell? ⟨w.heap.size, 1, none⟩ = some (.slice none 0 0) := by simp [World.cell?, m2]
  have d2 : w2.cell? ⟨w.heap.size, 2, none⟩ = some (.slice none 0 0) := by simp [World.cell?, m2]
  have f0 : w2.frozen? ⟨w.heap.size, 0, none⟩ = false := by simp [World.frozen?, m2]
  have f1 : w2.frozen? ⟨w.heap.size, 1, none⟩ = false := by simp [World.frozen?, m2]
  have f2 : w2.frozen? ⟨w.heap.size, 2, none⟩ = false := by simp [World.frozen?, m2]
  clear n1 n2 n3 n4 n5 n6 n7 hw1
  go_wp2
  have e1 := heap_setCell_same w2 w.heap.size 0 _ 112 (.slice p0 l0 k0) m2
  have e2 := heap_setCell_same (w2.setCell ⟨w.heap.size, 0, none⟩ (.slice p0 l0 k0)) w.heap.size 1 _ 112 (.slice p1 l1 k1) e1
  have e3 := heap_setCell_same ((w2.setCell ⟨w.heap.size, 0, none⟩ (.slice p0 l0 k0)).setCell ⟨w.heap.size, 1, none⟩ (.slice p1 l1 k1)) w.heap.size 2 _ 112 (.slice p2 l2 k2) e2
  refine bodyPost_ret (results_cell_row (ty := 112) rfl _ _ w.heap.size 112 _ (0, 0) (.array 3 107) rfl e3 (by kernel_rfl) rfl (by kernel_rfl)) rfl ⟨rfl, m5, m6, m7, by simp [m4], fun k hk => ?_⟩
  rw [heap_setCell_other _ _ _ _ (by simp; omega), heap_setCell_other _ _ _ _ (by simp; omega), heap_setCell_other _ _ _ _ (by simp; omega), m3 k hk]
theorem c_levels (w : World) (p0 p1 p2 : Option Addr) (l0 l1 l2 k0 k1 k2 : Nat) : Calls P 94 #[.agg #[.slice p0 l0 k0, .slice p1 l1 k1, .slice p2 l2 k2]] w fun e w' => ∃ c cells, e = .returned (.slice (some ⟨w.heap.size + 1, 0, none⟩) 3 c) ∧ 3 ≤ c ∧ c ≤ maxLen ∧ Below w.heap.size w w' ∧
    w'.heap[w.heap.size + 1]? = some (.cells cells 107 (0, 0)) ∧ cells[0]? = some (.slice p0 l0 k0) ∧ cells[1]? = some (.slice p1 l1 k1) ∧ cells[2]? = some (.slice p2 l2 k2) := by
  go_enter Tryz.func94, Tryz.ntmps94
  go_wp2
  go_ret
  obtain ⟨n1, _, n3, n4, n5, n6, n7⟩ := two_new w (.cells #[.slice p0 l0 k0, .slice p1 l1 k1, .slice p2 l2 k2] 112) (.cells (#[.slice p0 l0 k0, .slice p1 l1 k1, .slice p2 l2 k2] ++ Builtin.zeroCells #[.slice none 0 0] ((Question.appendCap 3 0 107).cut (w.tape w.drawn (Question.appendCap 3 0 107)) - 3)) 107)
  refine ⟨_, _, rfl, grownCap_ge w 3 0 107, grownCap_le_maxLen w 3 0 107 (by decide), ⟨n5, n6, n7, ?_, fun k hk => n3 k hk⟩, n1, ?_, ?_, ?_⟩
  · show w.heap.size ≤ ((w.alloc _).alloc _).heap.size
    rw [n4]; omega
  · rw [Array.getElem?_append_left (by simp)]; rfl
  · rw [Array.getElem?_append_left (by simp)]; rfl
  rw [Array.getElem?_append_left (by simp)]; rfl
theorem sl_is {sz : Nat} {xs : List AV} (h : Rep ρ av hp (.sl sz xs) v) : ∃ p l c, v = .slice p l c := by
  cases h with
  | sl0 _ A c _ => exact ⟨A, 0, c, rfl⟩
  | sl _ _ b off c => exact ⟨_, _, _, rfl⟩
theorem valsOne {x : AV} {vals : Array Value} (h : cF ρ av hp [x] vals) : ∃ v, vals = #[v] ∧ Rep ρ av hp x v := by
  obtain ⟨h1, h2⟩ := h
  match vals, h1 with
  | ⟨[v]⟩, _ => exact ⟨v, rfl, h2 0 _ rfl⟩
theorem w_shelvesOf (a b c : List Run) : aB P 85 [.sl 1 ([a, b, c].map rsA)] [] 0 (.agg [rsA a, rsA b, rsA c]) := by
  refine gR ⟨mN _ _, mN _ _, mN _ _, trivial⟩ fun C w vals hR hv => ?_
  obtain ⟨v, rfl, h0⟩ := valsOne hv
  cases h0 with
  | sl _ _ blk off cp cells t fr vs hp hcap hmax hb hh hrep hcells =>
    have hr0 := hrep 0 _ rfl
    have hr1 := hrep 1 _ rfl
    have hr2 := hrep 2 _ rfl
    obtain ⟨p0, l0, k0, e0⟩ := sl_is hr0
    obtain ⟨p1, l1, k1, e1⟩ := sl_is hr1
    obtain ⟨p2, l2, k2, e2⟩ := sl_is hr2
    have hcl : ∀ j, j < 3 → ∀ p l k, vs j = .slice p l k → w.cell? (Addr.add ⟨blk, off, none⟩ j) = some (.slice p l k) := fun j hj p l k e => by
      have h1 := (hcells j hj).2 0 (by omega)
      rw [e] at h1
      have h2 : cells[off + j]? = some (.slice p l k) := by simpa [Value.cells] using h1
      have h3 : Addr.add ⟨blk, off, none⟩ j = ⟨blk, off + j, none⟩ := by cases j <;> rfl
      rw [h3]; simp only [World.cell?, hh]; exact h2
    refine (c_shelves w ⟨blk, off, none⟩ cp p0 p1 p2 l0 l1 l2 k0 k1 k2 (fun j v hj => by
      match j, hj with
      | 0, hj => cases hj; exact hcl 0 (by omega) _ _ _ e0
      | 1, hj => cases hj; exact hcl 1 (by omega) _ _ _ e1
      | 2, hj => cases hj; exact hcl 2 (by omega) _ _ _ e2
      | j + 3, hj => simp at hj)).mono fun e w' ⟨he, hB⟩ => ⟨_, he, ?_, hB⟩
    refine .agg _ _ rfl fun j y hj => ?_
    have hm : ∀ {x : AV} {u : Value}, Rep C.ρ (C.avoid []) w.heap x u → Rep C.ρ (C.avoid []) w'.heap x u := fun h => h.mono (fun _ _ h => h) fun b hb _ => hB.block b hb
    match j, hj with
    | 0, hj => cases hj; rw [e0] at hr0; exact hm hr0
    | 1, hj => cases hj; rw [e1] at hr1; exact hm hr1
    | 2, hj => cases hj; rw [e2] at hr2; exact hm hr2
    | j + 3, hj => simp at hj
theorem w_levels (a b c : List Run) : aB P 94 [.agg [rsA a, rsA b, rsA c]] [] 0 (.sl 1 ([a, b, c].map rsA)) := by
  refine gR (aF _ _) fun C w vals hR hv => ?_
  obtain ⟨v, rfl, h0⟩ := valsOne hv
  cases h0 with
  | agg _ vs hn hrep =>
    have hr0 := hrep 0 _ rfl
    have hr1 := hrep 1 _ rfl
    have hr2 := hrep 2 _ rfl
    obtain ⟨v0, v1, v2, rfl⟩ : ∃ v0 v1 v2, vs = #[v0, v1, v2] := by
      match vs, hn with
      | ⟨[x, y, z]⟩, _ => exact ⟨x, y, z, rfl⟩
    change Rep _ _ _ _ v0 at hr0
    change Rep _ _ _ _ v1 at hr1
    change Rep _ _ _ _ v2 at hr2
    obtain ⟨p0, l0, k0, rfl⟩ := sl_is hr0
    obtain ⟨p1, l1, k1, rfl⟩ := sl_is hr1
    obtain ⟨p2, l2, k2, rfl⟩ := sl_is hr2
    refine (c_levels w p0 p1 p2 l0 l1 l2 k0 k1 k2).mono fun e w' ⟨cp, cells, he, h3, hcm, hB, hh, g0, g1, g2⟩ => ⟨_, he, ?_, hB⟩
    have hm : ∀ {x : AV} {u : Value}, Rep C.ρ (C.avoid []) w.heap x u → Rep C.ρ (C.avoid []) w'.heap x u := fun h => h.mono (fun _ _ h => h) fun b hb _ => hB.block b hb
    have d0 : cells.getD 0 undef = .slice p0 l0 k0 := by rw [Array.getD_eq_getD_getElem?, g0]; rfl
    have d1 : cells.getD 1 undef = .slice p1 l1 k1 := by rw [Array.getD_eq_getD_getElem?, g1]; rfl
    have d2 : cells.getD 2 undef = .slice p2 l2 k2 := by rw [Array.getD_eq_getD_getElem?, g2]; rfl
    have := Rep.sl (ρ := C.ρ) (av := C.avoid []) (hp := w'.heap) 1 ([a, b, c].map rsA) (w.heap.size + 1) 0 cp cells 107 (0, 0) (fun j => cells.getD j undef) (by simp) (by simpa using h3) hcm (fun hb => by
        rcases hb with hb | ⟨i, o, hi, _⟩
        · exact absurd (hR.xlt _ hb) (by omega)
        · simp [Abs.get] at hi) hh (fun j x hj => by
        match j, hj with
        | 0, hj => cases hj; show Rep _ _ _ _ (cells.getD 0 undef); rw [d0]; exact hm hr0
        | 1, hj => cases hj; show Rep _ _ _ _ (cells.getD 1 undef); rw [d1]; exact hm hr1
        | 2, hj => cases hj; show Rep _ _ _ _ (cells.getD 2 undef); rw [d2]; exact hm hr2
        | j + 3, hj => simp at hj) (fun j hj => by
        match j, hj with
        | 0, _ => exact ⟨by show (cells.getD 0 undef).cells.size = 1; rw [d0]; rfl, fun k hk => by
            obtain rfl : k = 0 := by omega
            show cells[0]? = (cells.getD 0 undef).cells[0]?
            rw [d0, g0]; rfl⟩
        | 1, _ => exact ⟨by show (cells.getD 1 undef).cells.size = 1; rw [d1]; rfl, fun k hk => by
            obtain rfl : k = 0 := by omega
            show cells[1]? = (cells.getD 1 undef).cells[0]?
            rw [d1, g1]; rfl⟩
        | 2, _ => exact ⟨by show (cells.getD 2 undef).cells.size = 1; rw [d2]; rfl, fun k hk => by
            obtain rfl : k = 0 := by omega
            show cells[2]? = (cells.getD 2 undef).cells[0]?
            rw [d2, g2]; rfl⟩
        | j + 3, hj => simp at hj; omega)
    exact this
end
end Go.Proofs.S
end
section
open Go Go.Abs Go.Proofs
namespace Go.Proofs.S
section
variable {ls : List Entry} {s : Nat} {e : Entry}
def keyAt (ls : List Entry) (s e : Nat) : Bool := (entAt ls e).key.toList == (entAt ls s).key.toList
def qO (ls : List Entry) : Nat → Nat → Nat → Nat
  | 0, _, e => e
  | f + 1, s, e => if (decide ((e : Int) < (ls.length : Int)) && keyAt ls s e) = true then qO ls f s (e + 1) else e
def bJ (ls : List Entry) (s : Nat) : Nat := qO ls (ls.length - (s + 1)) s (s + 1)
def mI (g : List Entry → List Entry) (ls : List Entry) : Nat → Nat → List Entry
  | 0, _ => []
  | f + 1, s => if s < ls.length then g ((ls.take (bJ ls s)).drop s) ++ mI g ls f (bJ ls s) else []
def aT (ls : List Entry) (ts : List Int) (bottom : Bool) : List Entry := if dL ls = true then mI (fun c => sqK ts c bottom) ls ls.length 0 else []
theorem sqEnd_le (ls : List Entry) : ∀ f s e, f + e = ls.length → e ≤ qO ls f s e ∧ qO ls f s e ≤ ls.length
  | 0, s, e, h => by unfold qO; omega
  | f + 1, s, e, h => by
    unfold qO; split
    · have := sqEnd_le ls f s (e + 1) (by omega); omega
    omega
theorem sO (h : s < ls.length) : s + 1 ≤ bJ ls s ∧ bJ ls s ≤ ls.length := sqEnd_le ls (ls.length - (s + 1)) s (s + 1) (by omega)
theorem sqGo_end {g : List Entry → List Entry} (h : ls.length ≤ s) : ∀ f, mI g ls f s = []
  | 0 => rfl
  | f + 1 => by unfold mI; rw [if_neg (by omega)]
theorem all_mem {p : Nat → Bool} {n i : Nat} (h : (List.range n).all p = true) (hi : i < n) : p i = true := List.all_eq_true.1 h i (List.mem_range.2 hi)
theorem inOrd_ok (h : dL ls = true) (he : e ∈ ls) : bF e = true := by
  obtain ⟨i, hi⟩ := List.getElem?_of_mem he
  have hlt := (List.getElem?_eq_some_iff.1 hi).1
  have := all_mem h hlt
  unfold xC at this; rw [hi] at this
  simp only [Bool.not_eq_true', Bool.or_eq_false_iff] at this
  simpa using this.1
theorem entOk_sum (h : bF e = true) : -1000000 ≤ e.n ∧ e.n ≤ 1000000 := by
  unfold bF at h; split at h
  · cases h
  rename_i hb
  have hb' : iA e = false := by simpa using hb
  unfold iA at hb'
  simp only [Bool.or_eq_false_iff, Bool.not_eq_false', lX, Bool.and_eq_true, decide_eq_true_eq] at hb'
  omega
theorem inOrd_n (h : dL ls = true) (hl : ls.length ≤ 1048576) : sF ls := ⟨hl, fun e he => entOk_sum (inOrd_ok h he)⟩
theorem nEnts_sub {ls c : List Entry} (h : sF ls) (hl : c.length ≤ ls.length) (hs : ∀ e ∈ c, e ∈ ls) : sF c := ⟨by have := h.1; omega, fun e he => h.2 e (hs e he)⟩
theorem w_impl_Squash (ls : List Entry) (ts : List Int) (bottom : Bool) (hz : dK ls) (hl : ls.length ≤ 1048576) (hts : ts.length ≤ 1048576) : aB P 93 [.sl 5 (ls.map enA), .sl 1 (ts.map inA), .raw (.bool bottom)] [] 0 (.sl 5 ((aT ls ts bottom).map enA)) := by
 refine pq 49 [.tmp 6] Tryz.func93 ?_
 have hmx : maxLen = 9223372036854775807 := rfl
 refine aj ?_
 refine sq fun _ k2 => sr rfl fun _ k3 => ja ?_
 refine vq Tryz.func146 (pS ls hz) (k3 ?_)
 refine cd rfl (fun hc1 => ?_) fun hc1 => ?_
 · have hio : dL ls = false := by simpa using hc1
   refine aj ?_
   have h9 : aT ls ts bottom = [] := by unfold aT; rw [if_neg (by rw [hio]; simp)]
   refine eT (t := 6) 65 5 rfl (by decide) ?_
   simp only [go_sem]
   refine aFz 0 rfl ?_
   simp only [go_sem, fzL, AV.fz]; refine wR ?_
   refine fO ?_ (enB _ _)
   simp only [go_sem, h9, List.map_nil]
 have hio : dL ls = true := by simpa using hc1
 have hn := inOrd_n hio hl
 refine wk (k2 (aj ?_))
 refine sq fun _ k6 => aj (wb ?_)
 refine eT (t := 7) 65 5 rfl (by decide) ?_
 simp only [go_sem]
 refine wl (α := Nat × List Entry × Nat) (fun x => x.1 ≤ ls.length ∧ x.2.1.length ≤ x.1 ∧ ls.length ≤ x.1 + x.2.2 ∧ x.2.1 ++ mI (fun c => sqK ts c bottom) ls x.2.2 x.1 = mI (fun c => sqK ts c bottom) ls ls.length 0) (fun x => ls.length - x.1) (fun x => ([(0, .sl 5 (ls.map enA)), (1, .sl 1 (ts.map inA)), (2, .raw (.bool bottom)), (7, .ref 0), (8, .raw (.int .i64 (x.1 : Int)))], [(0, .row 65 5 (x.2.1.map enA))])) 1 (0, [], ls.length) ⟨Nat.zero_le _, by simp, by simp, rfl⟩ [] ?_ ?_
 · simp only [go_sem, AObj.bel, List.map_nil, Int.natCast_zero] <;> simp
 rintro ⟨s, out, f⟩ ⟨hs0, hol, hf, hgo⟩
 simp only at hs0 hol hf hgo ⊢
 refine sq fun _ k8 => aj ?_
 refine cdS rfl (fun hc2 => ?_) fun hc2 => ?_
 · have hge : ls.length ≤ s := by have h9 : ¬ s < ls.length := (by simpa using hc2); omega
   rw [sqGo_end hge, List.append_nil] at hgo
   refine we (jt (k6 ?_))
   refine aj ?_
   have h9 : aT ls ts bottom = out := by unfold aT; rw [if_pos hio, ← hgo]
   refine aFz 0 rfl ?_
   simp only [go_sem, fzL, AV.fz]; refine wR ?_
   refine fO ?_ (enB _ _)
   simp only [go_sem, h9]
 have hlt : s < ls.length := by simpa using hc2
 obtain ⟨f, rfl⟩ : ∃ f2, f = f2 + 1 := ⟨f - 1, by omega⟩
 rw [mI, if_pos hlt] at hgo
 have hel := sO hlt
 have hsk := sqK_len ts ((ls.take (bJ ls s)).drop s) bottom
 have hcl : ((ls.take (bJ ls s)).drop s).length = bJ ls s - s := by rw [List.length_drop, List.length_take]; omega
 have hch : sF ((ls.take (bJ ls s)).drop s) := nEnts_sub hn (by omega) fun x hx => List.mem_of_mem_take (List.mem_of_mem_drop hx)
 refine wk (k8 (wb ?_))
 have hw6 := wiS s (by omega)
 refine sr rfl fun _ k10 => ?_; simp only [go_sem, hw6]
 refine k10 (sq fun _ k11 => (wb ?_))
 refine wl (α := Nat) (fun x => s + 1 ≤ x ∧ x ≤ ls.length ∧ qO ls (ls.length - x) s x = bJ ls s) (fun x => ls.length - x) (fun x => ([(0, .sl 5 (ls.map enA)), (1, .sl 1 (ts.map inA)), (2, .raw (.bool bottom)), (7, .ref 0), (8, .raw (.int .i64 (s : Int))), (9, .raw (.int .i64 (x : Int)))], [(0, .row 65 5 (out.map enA))])) 1 (s + 1) ⟨Nat.le_refl _, hlt, rfl⟩ [] ?_ ?_
 · simp only [go_sem, AObj.bel, AObj.ren, AV.ren, aA, sg] <;> simp
 rintro e ⟨he0, he1, hend⟩
 refine sq fun _ k12 => ?_
 by_cases hle : e < ls.length
 · have hlx := jT hle
   have hsx := jT hlt
   refine sd mixed rfl fun _ k13 => ?_; simp only [go_sem, hlx, hsx, enA]; refine jr ?_; refine ⟨by rfl, ?_⟩; apply k13
   refine cd rfl (fun hc3 => ?_) fun hc3 => ?_
   · have hkk : (decide ((e : Int) < (ls.length : Int)) && keyAt ls s e) = true := by simpa [keyAt] using hc3
     rw [show ls.length - e = (ls.length - (e + 1)) + 1 by omega, qO, if_pos hkk] at hend
     refine wk (k12 (wb ?_))
     have hw8 := wiS e (by omega)
     refine wg rfl ?_; simp only [go_sem, hw8]; refine jt ?_; refine jt ?_
     refine ⟨e + 1, ⟨by omega, by omega, hend⟩, by omega, [], ?_⟩
     simp only [go_sem, AObj.bel, AObj.ren, AV.ren, aA, sg] <;> simp
   have hkk : ¬ (decide ((e : Int) < (ls.length : Int)) && keyAt ls s e) = true := by simpa [keyAt] using hc3
   rw [show ls.length - e = (ls.length - (e + 1)) + 1 by omega, qO, if_neg hkk] at hend; subst hend
   refine we (jt (k11 ?_))
   refine sr rfl fun _ k14 => ?_; simp only [go_sem, ← List.map_take, ← List.map_drop, Int.toNat_natCast]; refine jr ?_
   refine vs rfl rfl rfl Tryz.func147 (sJ ts ((ls.take (bJ ls s)).drop s) bottom hch hts) (by simp only [go_sem]) (by simp only [go_sem]) ?_
   simp only [go_sem, List.length_take, List.length_append, List.nil_append, List.length_map, List.length_drop]
   refine jr (k14 ?_)
   refine wg rfl ?_; simp only [go_sem]; refine jt ?_; refine jt ?_
   refine ⟨(bJ ls s, out ++ sqK ts ((ls.take (bJ ls s)).drop s) bottom, f), ⟨by simp only; omega, by simp only [List.length_append]; omega, by simp only; omega, by simp only [List.append_assoc]; exact hgo⟩, by simp only; omega, [(0, 1)], ?_⟩
   simp only [go_sem, AObj.bel, AObj.ren, AV.ren, aA, sg] <;> simp
 have hee : e = ls.length := by omega
 have hdf : decide ((e : Int) < (ls.length : Int)) = false := by simp; omega
 have hnn : ls[e]? = none := List.getElem?_eq_none (by omega)
 have hsx := jT hlt
 refine sd mixed rfl fun _ k13 => ?_; simp only [go_sem, hdf, hnn, hsx, enA]; refine jr ?_
 refine bQ (fun hN => cH (rt := []) (rd := []) (val := .raw (.string ⟨#[]⟩)) hN rfl rfl rfl rfl trivial (fun hg => absurd hg (by simp)) (by trivial)) (.inl rfl) ?_
 simp only [go_sem, hdf, hnn, hsx, enA]; refine jr ?_; refine ⟨by rfl, ?_⟩; apply k13
 refine cd rfl (fun hc4 => ?_) fun hc4 => ?_
 · exfalso
   simp [hdf] at hc4
 rw [hee, Nat.sub_self, qO] at hend; rw [← hee] at hend; subst hend
 refine we (jt (k11 ?_))
 refine sr rfl fun _ k15 => ?_; simp only [go_sem, ← List.map_take, ← List.map_drop, Int.toNat_natCast]; refine jr ?_
 refine vs rfl rfl rfl Tryz.func147 (sJ ts ((ls.take (bJ ls s)).drop s) bottom hch hts) (by simp only [go_sem]) (by simp only [go_sem]) ?_
 simp only [go_sem, List.length_take, List.length_append, List.nil_append, List.length_map, List.length_drop]
 refine jr (k15 ?_)
 refine wg rfl ?_; simp only [go_sem]; refine jt ?_; refine jt ?_
 refine ⟨(bJ ls s, out ++ sqK ts ((ls.take (bJ ls s)).drop s) bottom, f), ⟨by simp only; omega, by simp only [List.length_append]; omega, by simp only; omega, by simp only [List.append_assoc]; exact hgo⟩, by simp only; omega, [(0, 1)], ?_⟩
 simp only [go_sem, AObj.bel, AObj.ren, AV.ren, aA, sg] <;> simp
end
theorem arr3 : P.underlying 112 = some (.array 3 107) := by kernel_rfl
theorem runs1 : (P.info? 107).map (·.size) = some 1 := by kernel_rfl
def aQ (t : Tree) : Tree × Bool := match t.levels with
  | [a, b, c] => if (decide ((t.mem.length : Int) = 0) || decide (4 ≤ (a.length : Int))) = true then (t, false)
    else if (cV (aT t.mem t.snaps false)).2 = false then (t, false) else (⟨t.seq, [], [a ++ [(cV (aT t.mem t.snaps false)).1], b, c], t.snaps⟩, true)
  | _ => (t, false)
theorem w_conc2 (a : List Run) (r : Run) (h : a.length ≤ 1000000) : aB P 91 [.sl 1 [rsA a, rsA [r]]] [] 0 (.sl 2 ((a ++ [r]).map rA)) := by
  have := w_ConcatR [a, [r]] (by simp) (by simp; omega)
  simpa using this
theorem uZ (ls : List Entry) (ts : List Int) (b : Bool) : (aT ls ts b).length ≤ ls.length := by
  have key : ∀ f s, (mI (fun c => sqK ts c b) ls f s).length ≤ ls.length - s := by
    intro f
    induction f with
    | zero => intro s; simp [mI]
    | succ f ih =>
      intro s; unfold mI; split
      · rename_i hs
        have h1 := sqK_len ts ((ls.take (bJ ls s)).drop s) b
        have h2 := ih (bJ ls s)
        have h3 := sO hs
        simp only [List.length_append, List.length_drop, List.length_take] at h1 ⊢
        omega
      simp
  unfold aT; split
  · have := key ls.length 0; omega
  simp
theorem vQ {k : Nat} : ∀ (ls : List Entry) (o : Entry) (f : Bool), o.text.size ≤ k → (∀ e ∈ ls, e.text.size ≤ k) → (gW o f ls).text.size ≤ k ∧ (gW o f ls).key = o.key
  | [], o, f, ho, _ => ⟨ho, rfl⟩
  | e :: r, o, f, ho, h => by
    unfold gW; split
    · exact vQ r _ false ho fun x hx => h x (List.mem_cons_of_mem _ hx)
    split
    · exact ⟨h e List.mem_cons_self, rfl⟩
    split <;> exact ⟨ho, rfl⟩
theorem sqC_mx {ls : List Entry} {b : Bool} (h : ∀ e ∈ ls, mxEnt e) (hne : ls ≠ []) : ∀ e ∈ sqC ls b, mxEnt e := by
  obtain ⟨y, r, hy⟩ := List.exists_cons_of_ne_nil hne
  have h1 := vQ (k := 4611686018427387904) ls (qG y) true (Nat.zero_le _) fun e he => (h e he).2
  have hc : gJ ls = gW (qG y) true ls := by rw [hy]; rfl
  have hm : mxEnt (gJ ls) := ⟨by rw [hc, h1.2]; exact (h y (by rw [hy]; exact List.mem_cons_self)).1, by rw [hc]; exact h1.1⟩
  intro e he; unfold sqC at he
  repeat' split at he
  all_goals first | exact h e he | (cases he; done) | (rw [List.mem_singleton.1 he]; exact hm)
theorem lfL_all {p : Entry → Prop} (b : Bool) : ∀ {cs : List (List Entry)}, (∀ c ∈ cs, ∀ b, ∀ e ∈ sqC c b, p e) → ∀ l ∈ (lfL sqC cs b).1, ∀ e ∈ l, p e
  | [], _ => by simp [lfL]
  | c :: r, h => by
    intro l hl
    simp only [lfL, List.mem_cons] at hl
    rcases hl with rfl | hl
    · exact h c List.mem_cons_self _
    exact lfL_all b (cs := r) (fun x hx => h x (List.mem_cons_of_mem _ hx)) l hl
theorem sqK_all {p : Entry → Prop} {ts : List Int} {ls : List Entry} {b : Bool} (h : ∀ c ∈ aY ts ls, ∀ b, ∀ e ∈ sqC c b, p e) : ∀ e ∈ sqK ts ls b, p e := by
  intro e he
  obtain ⟨l, hl, hel⟩ := List.mem_flatten.1 he
  exact lfL_all b h l hl e hel
theorem rY {p : Entry → Prop} {g : List Entry → List Entry} {ls : List Entry} (h : ∀ s, s < ls.length → ∀ e ∈ g ((ls.take (bJ ls s)).drop s), p e) : ∀ f s, ∀ e ∈ mI g ls f s, p e
  | 0, s => by simp [mI]
  | f + 1, s => by
    intro e he; unfold mI at he; split at he
    · rename_i hs
      rcases List.mem_append.1 he with he | he
      · exact h s hs e he
      exact rY h f _ e he
    cases he
theorem squashI_mx {ls : List Entry} {ts : List Int} {b : Bool} (hz : dK ls) : dK (aT ls ts b) := by
  refine ⟨by have := uZ ls ts b; have := hz.1; omega, ?_⟩
  unfold aT; split
  · refine rY (fun s hs => sqK_all fun c hc b => ?_) _ _
    exact sqC_mx (fun e he => hz.2 e (List.mem_of_mem_take (List.mem_of_mem_drop ((dT hc).2.2 e he)))) (dT hc).1
  intro e he; cases he
theorem w_impl_treeFlush (seq : Int) (mem : List Entry) (a b c : List Run) (snaps : List Int) (hz : dK mem) (hm : mem.length ≤ 1048576) (hs : snaps.length ≤ 1048576) (ha : a.length ≤ 1048576) : aB P 81 [trA ⟨seq, mem, [a, b, c], snaps⟩] [] 0 (.tup [trA (aQ ⟨seq, mem, [a, b, c], snaps⟩).1, .raw (.bool (aQ ⟨seq, mem, [a, b, c], snaps⟩).2)]) := by
 refine pq 47 [.cell 2 36, .tmp 3] Tryz.func81 ?_
 simp only [trA]
 have hmx : maxLen = 9223372036854775807 := rfl
 refine aj ?_
 refine sr rfl fun _ k2 => ja ?_
 refine vs rfl rfl rfl Tryz.func85 (w_shelvesOf a b c) (by simp only [go_sem, rsA]) (by simp only [go_sem, rsA]) ?_
 simp only [go_sem, rsA]
 refine k2 (sq fun _ k3 => (sr rfl fun _ k4 => (ja ?_)))
 refine jr ?_
 refine vC (fun hN => cH hN rfl rfl rfl rfl (by simp only [go_sem]) (fun hg => dI (n := 0) rfl rfl hN arr3 runs1 rfl rfl (by decide) (by decide)) (by simp [AV.bel, UU])) (.inl rfl) ?_
 simp only [go_sem, Int.toNat_zero, Nat.zero_mul, Nat.add_zero, rsA, List.length_map]
 refine jr (k4 ?_)
 refine cd rfl (fun hc1 => ?_) fun hc1 => ?_
 · have h9 : aQ ⟨seq, mem, [a, b, c], snaps⟩ = (⟨seq, mem, [a, b, c], snaps⟩, false) := if_pos hc1
   refine aj (wR ?_)
   refine fO ?_ ⟨⟨trivial, enB _ _, aF _ _, bE _ _, trivial⟩, trivial, trivial⟩
   simp only [go_sem, h9, trA, rsA]
 have hb1 := hc1
 have ha4 : a.length ≤ 1000000 := by simp at hc1; omega
 refine wk (k3 (sr rfl fun _ k6 => (ja ?_)))
 refine vq Tryz.func93 (w_impl_Squash mem snaps false hz hm hs) ?_
 refine vs rfl rfl rfl Tryz.func133 (w_impl_RunOf (aT mem snaps false) (squashI_mx hz)) (by simp only [go_sem]) (by simp only [go_sem]) ?_
 simp only [go_sem, rA]
 refine k6 (sq fun _ k7 => (aj ?_))
 refine cd rfl (fun hc2 => ?_) fun hc2 => ?_
 · have hr : (cV (aT mem snaps false)).2 = false := by simpa using hc2
   have h9 : aQ ⟨seq, mem, [a, b, c], snaps⟩ = (⟨seq, mem, [a, b, c], snaps⟩, false) := (if_neg (by rw [hb1]; simp)).trans (if_pos hr)
   refine aj (wR ?_)
   refine fO ?_ ⟨⟨trivial, enB _ _, aF _ _, bE _ _, trivial⟩, trivial, trivial⟩
   simp only [go_sem, h9, trA, rsA]
 have hr : ¬ (cV (aT mem snaps false)).2 = false := by simpa using hc2
 have h9 : aQ ⟨seq, mem, [a, b, c], snaps⟩ = (⟨seq, [], [a ++ [(cV (aT mem snaps false)).1], b, c], snaps⟩, true) := (if_neg (by rw [hb1]; simp)).trans (if_neg hr)
 refine wk (k7 (sr rfl fun _ k10 => (ja ?_)))
 refine jr ?_
 refine vC (fun hN => dI (n := 0) rfl rfl hN arr3 runs1 rfl rfl (by decide) (by decide)) (.inl rfl) ?_
 simp only [go_sem, Int.toNat_zero, Nat.zero_mul, Nat.add_zero, rsA, List.length_map]; refine jr ?_
 refine jV 5 rfl ?_
 simp only [go_sem, fzL, AV.fz]
 refine vs rfl rfl rfl Tryz.func91 (w_conc2 a (cV (aT mem snaps false)).1 ha4) (by simp only [go_sem, rsA, rA, List.map_cons, List.map_nil]) (by simp only [go_sem, rsA]; exact runAV_b _ _) ?_
 simp only [go_sem, rsA]; refine jr ?_
 refine vC (fun hN => dI (n := 0) rfl rfl hN arr3 runs1 rfl rfl (by decide) (by decide)) (.inl rfl) ?_
 simp only [go_sem, Int.toNat_zero, Nat.zero_mul, Nat.add_zero, rsA, List.length_map]
 refine jr (k10 ?_)
 refine aj ?_; refine aj ?_
 refine sr rfl fun _ k13 => ja ?_
 refine vr rfl rfl rfl Tryz.func94 (w_levels (a ++ [(cV (aT mem snaps false)).1]) b c) (by simp only [go_sem, rsA]) (by simp only [go_sem, rsA]) (k13 ?_)
 refine aj ?_
 refine cG 1 (ds := [.raw (.int .i64 seq), .sl 5 [], .sl 1 [.sl 2 ((a ++ [(cV (aT mem snaps false)).1]).map rA), .sl 2 (b.map rA), .sl 2 (c.map rA)], .sl 1 (snaps.map inA)]) rfl (by repeat (first | exact LeL.nil | refine LeL.cons (by first | exact Le.refl _ | exact Le.nil _) ?_)) (by simp only [go_sem]) ?_
 simp only [go_sem]; refine wR ?_
 refine fO ?_ ⟨⟨trivial, enB _ _, aF _ _, bE _ _, trivial⟩, trivial, trivial⟩
 simp only [go_sem, h9, trA, rsA, List.map_nil]
noncomputable def vsFs : Array Field := match P.underlying 83 with
  | some (.struct fs) => fs
  | _ => #[]
theorem uVStep : P.underlying 83 = some (.struct vsFs) := by kernel_rfl
noncomputable def esFs : Array Field := match P.underlying 103 with
  | some (.struct fs) => fs
  | _ => #[]
theorem uEStep : P.underlying 103 = some (.struct esFs) := by kernel_rfl
theorem w_treeFlush (t : Tree) (ht : gN t) (h3 : t.levels.length = 3) : aB P 81 [trA t] [] 0 (.tup [trA (aQ t).1, .raw (.bool (aQ t).2)]) := by
  obtain ⟨seq, mem, lv, snaps⟩ := t
  obtain ⟨a, b, c, rfl⟩ : ∃ a b c, lv = [a, b, c] := by
    match lv, h3 with
    | [a, b, c], _ => exact ⟨a, b, c, rfl⟩
  have hm : mem.length ≤ 1048576 := ht.1.1
  refine w_impl_treeFlush seq mem a b c snaps ⟨by omega, fun e he => ?_⟩ hm ht.2.2 ?_
  · have := ht.1.2 e he
    exact ⟨by omega, by omega⟩
  have := (ht.2.1.2 a (by simp)).1
  omega
def fsI (s : Store) : Tree × List StepI × Bool := if s.up = false then (gE, [], false) else if (aQ s.tree).2 = false then (gE, [], false) else ((aQ s.tree).1, [.lev (aQ s.tree).1.levels (aQ s.tree).1.seq, .emp], true)
theorem w_impl_flushSteps (s : Store) (hs : bM s) (hq : s.up = true → s.tree.levels.length = 3) : aB P 46 [stA s] [] 0 (.tup [trA (fsI s).1, .sl 1 ((fsI s).2.1.map stAV), .raw (.bool (fsI s).2.2)]) := by
 refine pq 30 [.cell 2 36, .tmp 3, .tmp 4] Tryz.func46 ?_
 simp only [stA]
 have hmx : maxLen = 9223372036854775807 := rfl
 refine aj ?_
 refine sq fun _ k2 => aj ?_
 refine cd rfl (fun hc1 => ?_) fun hc1 => ?_
 · have hup : s.up = false := by simpa using hc1
   have h9 : fsI s = (gE, [], false) := by unfold fsI; rw [if_pos hup]
   refine aj ?_
   refine cG 1 (ds := [.raw (.int .i64 0), .sl 5 [], .sl 1 [], .sl 1 []]) rfl (by repeat (first | exact LeL.nil | refine LeL.cons (by first | exact Le.refl _ | exact Le.nil _) ?_)) (by simp only [go_sem]) ?_
   simp only [go_sem]
   refine eT (t := 3) 105 1 rfl (by decide) ?_
   simp only [go_sem]
   refine aFz 2 rfl ?_
   simp only [go_sem, fzL, AV.fz]; refine wR ?_
   refine fO ?_ ⟨lJ _ _, stsAV_b _ _, trivial, trivial⟩
   simp only [go_sem, h9, trA, gE, List.map_nil]
 have hup : s.up = true := by simpa using hc1
 refine wk (k2 (sr rfl fun _ k5 => (ja ?_)))
 refine vs rfl rfl rfl Tryz.func81 (w_treeFlush s.tree hs.1 (hq hup)) (by simp only [go_sem, trA]) (by simp only [go_sem, trA]) ?_
 simp only [go_sem, trA]
 refine k5 (sq fun _ k6 => (aj ?_))
 refine cd rfl (fun hc2 => ?_) fun hc2 => ?_
 · have hf : (aQ s.tree).2 = false := by simpa using hc2
   have h9 : fsI s = (gE, [], false) := by unfold fsI; rw [if_neg (by rw [hup]; simp), if_pos hf]
   refine aj ?_
   refine cG 1 (ds := [.raw (.int .i64 0), .sl 5 [], .sl 1 [], .sl 1 []]) rfl (by repeat (first | exact LeL.nil | refine LeL.cons (by first | exact Le.refl _ | exact Le.nil _) ?_)) (by simp only [go_sem]) ?_
   simp only [go_sem]
   refine eT (t := 3) 105 1 rfl (by decide) ?_
   simp only [go_sem]
   refine aFz 3 rfl ?_
   simp only [go_sem, fzL, AV.fz]; refine wR ?_
   refine fO ?_ ⟨lJ _ _, stsAV_b _ _, trivial, trivial⟩
   simp only [go_sem, h9, trA, gE, List.map_nil]
 have hf : ¬ (aQ s.tree).2 = false := by simpa using hc2
 have h9 : fsI s = ((aQ s.tree).1, [.lev (aQ s.tree).1.levels (aQ s.tree).1.seq, .emp], true) := by unfold fsI; rw [if_neg (by rw [hup]; simp), if_neg hf]
 refine wk (k6 (sd mixed rfl fun _ k9 => ?_))
 simp only [go_sem, uVStep, uEStep]; refine jr ?_; refine ⟨by rfl, ?_⟩; apply k9
 refine aFz 3 rfl ?_
 simp only [go_sem, fzL, AV.fz]; refine wR ?_
 refine fO ?_ ⟨lJ _ _, stsAV_b _ _, trivial, trivial⟩
 simp only [go_sem, h9, trA, stAV, List.map_cons, List.map_nil]
theorem sqC_k {k : Nat} {ls : List Entry} {b : Bool} (h : ∀ e ∈ ls, e.key.size ≤ k ∧ e.text.size ≤ k) (hne : ls ≠ []) : ∀ e ∈ sqC ls b, e.key.size ≤ k ∧ e.text.size ≤ k := by
  obtain ⟨y, r, hy⟩ := List.exists_cons_of_ne_nil hne
  have h1 := vQ (k := k) ls (qG y) true (Nat.zero_le _) fun e he => (h e he).2
  have hc : gJ ls = gW (qG y) true ls := by rw [hy]; rfl
  have hm : (gJ ls).key.size ≤ k ∧ (gJ ls).text.size ≤ k := ⟨by rw [hc, h1.2]; exact (h y (by rw [hy]; exact List.mem_cons_self)).1, by rw [hc]; exact h1.1⟩
  intro e he; unfold sqC at he
  repeat' split at he
  all_goals first | exact h e he | (cases he; done) | (rw [List.mem_singleton.1 he]; exact hm)
theorem squashI_k {k : Nat} {ls : List Entry} {ts : List Int} {b : Bool} (h : ∀ e ∈ ls, e.key.size ≤ k ∧ e.text.size ≤ k) : ∀ e ∈ aT ls ts b, e.key.size ≤ k ∧ e.text.size ≤ k := by
  unfold aT; split
  · refine rY (fun s hs => sqK_all fun c hc b => ?_) _ _
    exact sqC_k (fun e he => h e (List.mem_of_mem_take (List.mem_of_mem_drop ((dT hc).2.2 e he)))) (dT hc).1
  intro e he; cases he
theorem runOfS_s {ls : List Entry} (h : gD ls) : gD (cV ls).1.ents := by
  unfold cV; split
  · exact ⟨Nat.zero_le _, by intro e he; cases he⟩
  exact ⟨by show (dD ls).length ≤ _; rw [wV]; exact h.1, fun e he => h.2 e ((mQ ls).mem_iff.1 he)⟩
theorem squashI_s {ls : List Entry} {ts : List Int} {b : Bool} (h : gD ls) : gD (aT ls ts b) := ⟨by have := uZ ls ts b; have := h.1; omega, squashI_k h.2⟩
theorem flushI_s {t : Tree} (h : gN t) : gN (aQ t).1 := by
  unfold aQ; split
  · rename_i a b c hlv
    split
    · exact h
    rename_i hb
    split
    · exact h
    have hl := h.2.1
    rw [hlv] at hl
    have ha : a.length < 4 := by simp at hb; omega
    refine ⟨⟨Nat.zero_le _, by intro e he; cases he⟩, ⟨by simp, fun r hr => ?_⟩, h.2.2⟩
    simp only [List.mem_cons, List.not_mem_nil, or_false] at hr
    rcases hr with rfl | rfl | rfl
    · refine ⟨by rw [List.length_append]; simp; omega, fun x hx => ?_⟩
      rcases List.mem_append.1 hx with hx | hx
      · exact (hl.2 a (by simp)).2 x hx
      rw [List.mem_singleton.1 hx]; exact runOfS_s (squashI_s h.1)
    · exact hl.2 _ (by simp)
    exact hl.2 _ (by simp)
  exact h
theorem okI_lv {s : Store} (h : aM s = true) (hu : s.up = true) : s.tree.levels.length = 3 := by
  unfold aM at h; rw [if_pos hu] at h; split at h
  · cases h
  unfold upI at h; split at h
  · cases h
  rename_i hb
  unfold vT at hb
  simp only [Bool.or_eq_true, not_or] at hb
  have h1 : dG s.tree = true := by have := hb.1.1; simpa using this
  unfold dG at h1; split at h1
  · cases h1
  rename_i h2
  unfold nM at h2; simp at h2; omega
theorem jC_len (ls : List Entry) (b : Bool) (h : ls ≠ []) : (jC ls b).length ≤ ls.length := by
  have hp := List.length_pos_iff.2 h
  unfold jC
  repeat' split
  all_goals first | omega | (simp only [List.length_nil, List.length_cons]; omega)
theorem lfL_flatG {f : List Entry → Bool → List Entry} (hf : ∀ c b, c ≠ [] → (f c b).length ≤ c.length) (b : Bool) : ∀ {cs : List (List Entry)}, (∀ c ∈ cs, c ≠ []) → (lfL f cs b).1.flatten.length ≤ cs.flatten.length
  | [], _ => by simp [lfL]
  | c :: r, h => by
    have h1 := lfL_flatG hf b (cs := r) fun x hx => h x (List.mem_cons_of_mem _ hx)
    have h2 := hf c (lfL f r b).2 (h c List.mem_cons_self)
    simp only [lfL, List.flatten_cons, List.length_append]; omega
theorem flat_drop {α : Type} (cs : List (List α)) (i : Nat) : (cs.drop i).flatten.length ≤ cs.flatten.length := by
  have h := congrArg (fun z => z.flatten.length) (List.take_append_drop i cs)
  simp only [List.flatten_append, List.length_append] at h
  omega
def jK (ts : List Int) (ls : List Entry) (b : Bool) : List Entry := (lfL jC (aY ts ls) b).1.flatten
theorem jK_len (ts : List Int) (ls : List Entry) (b : Bool) : (jK ts ls b).length ≤ ls.length := by
  have h1 := lfL_flatG jC_len b (cs := aY ts ls) fun c hc => (dT hc).1
  have h2 := (jQ (ts := ts) (ls := ls)).2
  unfold jK; omega
def bV (ls : List Entry) (ts : List Int) (b : Bool) : List Entry := if dL ls = true then mI (fun c => jK ts c b) ls ls.length 0 else []
theorem sR (ls : List Entry) (ts : List Int) (hl : ls.length ≤ 1048576) (hts : ts.length ≤ 1048576) : aB P 177 [.sl 5 (ls.map enA), .sl 1 (ts.map inA)] [] 0 (.sl 1 ((aY ts ls).map esA)) := by
 refine pq 46 [.tmp 4] Tryz.func177 ?_
 have hmx : maxLen = 9223372036854775807 := rfl
 refine aj ?_
 refine sr rfl fun _ k2 => ja ?_
 refine jr (k2 ?_)
 refine sq fun _ k3 => aj (wb ?_)
 refine wl (α := Nat × List (List Entry)) (fun x => x.1 ≤ ls.length ∧ x.2.length ≤ x.1 ∧ x.2 ++ hJ ts ls (ls.length - x.1) x.1 (x.1 + 1) = aY ts ls) (fun x => ls.length - x.1) (fun x => ([(0, .sl 5 (ls.map enA)), (1, .sl 1 (ts.map inA)), (5, .ref 0), (6, .raw (.int .i64 (x.1 : Int)))], [(0, .row 33 1 (x.2.map esA))])) 1 (0, []) ⟨Nat.zero_le _, by simp, rfl⟩ [] ?_ ?_
 · simp only [go_sem, AObj.bel, List.map_nil, Int.natCast_zero] <;> simp
 rintro ⟨i, out⟩ ⟨hi, hol, hgo⟩
 simp only at hi hol hgo ⊢
 refine sq fun _ k5 => aj ?_
 refine cdS rfl (fun hc1 => ?_) fun hc1 => ?_
 · have hge : ls.length ≤ i := Nat.not_lt.1 (by simpa using hc1)
   rw [show ls.length - i = 0 by omega, hJ, List.append_nil] at hgo
   refine we (jt (k3 ?_))
   refine aj ?_
   have h9 : aY ts ls = out := hgo.symm
   refine aFz 0 rfl ?_
   simp only [go_sem, fzL, AV.fz]; refine wR ?_
   refine fO ?_ (tC _ _)
   simp only [go_sem, h9]
 have hlt : i < ls.length := (by simpa using hc1)
 refine wk (k5 (wb ?_))
 have hw4 := wiS i (by omega)
 refine sr rfl fun _ k7 => ?_; simp only [go_sem, hw4]
 refine k7 (sq fun _ k8 => (wb ?_))
 refine wl (α := Nat) (fun x => i + 1 ≤ x ∧ x ≤ ls.length ∧ hJ ts ls (ls.length + 1 - x) i x = hJ ts ls (ls.length - i) i (i + 1)) (fun x => ls.length - x) (fun x => ([(0, .sl 5 (ls.map enA)), (1, .sl 1 (ts.map inA)), (5, .ref 0), (6, .raw (.int .i64 (i : Int))), (7, .raw (.int .i64 (x : Int)))], [(0, .row 33 1 (out.map esA))])) 1 (i + 1) ⟨Nat.le_refl _, hlt, by rw [show ls.length + 1 - (i + 1) = ls.length - i by omega]⟩ [] ?_ ?_
 · simp only [go_sem, AObj.bel, AObj.ren, AV.ren, aA, sg] <;> simp
 rintro k ⟨hk0, hk1, hcl⟩
 refine sq fun _ k9 => ?_
 by_cases hle : k < ls.length
 · have hlx := jT hle
   have hw1 : IntKind.i64.wrap ((k : Int) - 1) = (k : Int) - 1 := by rw [w64]; omega
   have hpn : ((k : Int) - 1).toNat = k - 1 := by omega
   have hpv : ls[k - 1]? = some (dO ls k) := by unfold dO; rw [List.getElem?_eq_getElem (by omega)]; rfl
   refine sd mixed rfl fun _ k10 => ?_; simp only [go_sem, hlx, hpv, hw1, hpn, enA]; refine jr ?_
   refine tpg rfl rfl rfl rfl rfl rfl ⟨Tryz.func209, rfl, rfl⟩ (fun hg => w_spec_l4Apart ts (entAt ls k).seq (dO ls k).seq (by omega)) (by simp only [go_sem]) (fun hg => (by simp only [go_sem])) (by simp only [go_sem]) trivial ?_
   simp only [go_sem]; refine jr ?_; refine ⟨by rfl, ?_⟩; apply k10
   refine cd rfl (fun hc2 => ?_) fun hc2 => ?_
   · have hkk : (decide ((k : Int) < (ls.length : Int)) && !apAt ts ls k) = true := by simpa [apAt] using hc2
     rw [show ls.length + 1 - k = (ls.length - k) + 1 by omega, hJ, if_pos hkk] at hcl
     refine wk (k9 (wb ?_))
     have hw6 := wiS k (by omega)
     refine wg rfl ?_; simp only [go_sem, hw6]; refine jt ?_; refine jt ?_
     refine ⟨k + 1, ⟨by omega, by omega, by rw [show ls.length + 1 - (k + 1) = ls.length - k by omega]; exact hcl⟩, by omega, [], ?_⟩
     simp only [go_sem, AObj.bel, AObj.ren, AV.ren, aA, sg] <;> simp
   have hkk : ¬ (decide ((k : Int) < (ls.length : Int)) && !apAt ts ls k) = true := by simpa [apAt] using hc2
   rw [show ls.length + 1 - k = (ls.length - k) + 1 by omega, hJ, if_neg hkk] at hcl; rw [← hcl] at hgo
   have hcn : ((ls.take k).drop i).length = k - i := by rw [List.length_drop, List.length_take]; omega
   refine we (jt (k8 ?_))
   refine sr rfl fun _ k11 => ?_; simp only [go_sem, ← List.map_take, ← List.map_drop, Int.toNat_natCast, List.length_map]
   refine jr (k11 ?_)
   refine wg rfl ?_; simp only [go_sem]; refine jt ?_; refine jt ?_
   refine ⟨(k, out ++ [(ls.take k).drop i]), ⟨by simp only; omega, by simp only [List.length_append, List.length_singleton]; omega, by rw [List.append_assoc]; exact hgo⟩, by simp only; omega, [(0, 2)], ?_⟩
   simp only [go_sem, AObj.bel, AObj.ren, AV.ren, aA, sg] <;> simp [esA]
 have hee : k = ls.length := by omega
 have hdf : decide ((k : Int) < (ls.length : Int)) = false := by simp; omega
 have hnn : ls[k]? = none := List.getElem?_eq_none (by omega)
 have hw1 : IntKind.i64.wrap ((k : Int) - 1) = (k : Int) - 1 := by rw [w64]; omega
 have hpn : ((k : Int) - 1).toNat = k - 1 := by omega
 have hpv : ls[k - 1]? = some (dO ls k) := by unfold dO; rw [List.getElem?_eq_getElem (by omega)]; rfl
 refine sd mixed rfl fun _ k10 => ?_; simp only [go_sem, hdf, hnn, hpv, hw1, hpn, enA]; refine jr ?_
 refine bQ (fun hN => cH (rt := []) (rd := []) (val := .raw (.int .i64 0)) hN rfl rfl rfl rfl trivial (fun hg => absurd hg (by simp)) (by trivial)) (.inl rfl) ?_
 simp only [go_sem, hdf, hnn, hpv, hw1, hpn, enA]; refine jr ?_
 refine bQ (fun hN => cH (rt := []) (rd := []) (val := .raw (.bool false)) hN rfl rfl rfl rfl trivial (fun hg => absurd hg (by simp)) (by trivial)) (.inl rfl) ?_
 simp only [go_sem, hdf, hnn, hpv, hw1, hpn, enA]; refine jr ?_; refine ⟨by rfl, ?_⟩; apply k10
 refine cd rfl (fun hc3 => ?_) fun hc3 => ?_
 · exfalso
   simp [hdf] at hc3
 have hkk : ¬ (decide ((k : Int) < (ls.length : Int)) && !apAt ts ls k) = true := by rw [hdf]; simp
 rw [show ls.length + 1 - k = (ls.length - k) + 1 by omega, hJ, if_neg hkk] at hcl; rw [← hcl] at hgo
 have hcn : ((ls.take k).drop i).length = k - i := by rw [List.length_drop, List.length_take]; omega
 refine we (jt (k8 ?_))
 refine sr rfl fun _ k12 => ?_; simp only [go_sem, ← List.map_take, ← List.map_drop, Int.toNat_natCast, List.length_map]
 refine jr (k12 ?_)
 refine wg rfl ?_; simp only [go_sem]; refine jt ?_; refine jt ?_
 refine ⟨(k, out ++ [(ls.take k).drop i]), ⟨by simp only; omega, by simp only [List.length_append, List.length_singleton]; omega, by rw [List.append_assoc]; exact hgo⟩, by simp only; omega, [(0, 2)], ?_⟩
 simp only [go_sem, AObj.bel, AObj.ren, AV.ren, aA, sg] <;> simp [esA]
theorem xM (cs : List (List Entry)) (b : Bool) (hc : ∀ c ∈ cs, sF c ∧ c ≠ []) (h1 : cs.length ≤ 1048576) (h2 : cs.flatten.length ≤ 1048576) : aB P 176 [.sl 1 (cs.map esA), .raw (.bool b)] [] 0 (.sl 5 ((lfL jC cs b).1.flatten.map enA)) := by
 refine pq 31 [.tmp 4] Tryz.func176 ?_
 have hmx : maxLen = 9223372036854775807 := rfl
 refine aj ?_
 refine sr rfl fun _ k2 => ja ?_
 refine jr (k2 ?_)
 refine sq fun _ k3 => ?_
 have hw0 : IntKind.i64.wrap ((cs.length : Int) - 1) = (cs.length : Int) - 1 := by rw [w64]; omega
 refine sr rfl fun _ k4 => ?_; simp only [go_sem, hw0]
 refine k4 (wb ?_)
 refine wl (α := Nat) (fun x => x ≤ cs.length) (fun x => x) (fun x => ([(0, .sl 1 (cs.map esA)), (1, .raw (.bool (lfL jC (cs.drop x) b).2)), (5, .ref 0), (6, .raw (.int .i64 ((x : Int) - 1)))], [(0, .row 65 5 ((lfL jC (cs.drop x) b).1.flatten.map enA))])) 1 cs.length (Nat.le_refl _) [] ?_ ?_
 · rw [List.drop_length]
   simp only [go_sem, AObj.bel, lfL, List.flatten_nil, List.map_nil] <;> simp
 rintro j hj
 refine sq fun _ k5 => aj ?_
 refine cdS rfl (fun hc1 => ?_) fun hc1 => ?_
 · have hj0 : j = 0 := by simp at hc1; omega
   subst hj0
   refine we (jt (k3 ?_))
   refine aj ?_
   refine aFz 0 rfl ?_
   simp only [go_sem, fzL, AV.fz]; refine wR ?_
   refine fO ?_ (enB _ _)
   simp only [go_sem, List.drop_zero]
 have hj0 : 0 < j := by simp at hc1; omega
 obtain ⟨i, rfl⟩ : ∃ i, j = i + 1 := ⟨j - 1, by omega⟩
 have hci : (((i + 1 : Nat) : Int) - 1) = (i : Int) := by omega
 obtain ⟨c, hcx, hdc, hcm⟩ := ix (xs := cs) (i := i) (by omega)
 have hfl : (lfL jC (cs.drop i) b).1.flatten = jC c (lfL jC (cs.drop (i + 1)) b).2 ++ (lfL jC (cs.drop (i + 1)) b).1.flatten := by rw [hdc]; rfl
 have hfg : (lfL jC (cs.drop i) b).2 = ((lfL jC (cs.drop (i + 1)) b).2 && decide (((jC c (lfL jC (cs.drop (i + 1)) b).2).length : Int) = 0)) := by rw [hdc]; rfl
 have hb1 := lfL_flatG jC_len b (cs := cs.drop i) fun x hx => (hc x (List.mem_of_mem_drop hx)).2
 have hb2 := flat_drop cs i
 rw [hfl, List.length_append] at hb1; rw [hci]
 refine wk (k5 (sq fun _ k7 => (wb (sr rfl fun _ k8 => ?_))))
 simp only [go_sem, hcx, esA, List.length_map]; refine jr ?_
 refine vr rfl rfl rfl Tryz.func208 (w_spec_l4Class c (lfL jC (cs.drop (i + 1)) b).2 (hc c hcm).1 (hc c hcm).2) (by simp only [go_sem, enA]) (by simp only [go_sem, enA]) ?_
 refine jr (k8 ?_)
 refine sq fun _ k9 => aj ?_
 refine cd rfl (fun hc2 => ?_) fun hc2 => ?_
 · have hbn : (lfL jC (cs.drop i) b).2 = false := by rw [hfg, decide_eq_false (by simp at hc2 ⊢; intro e; rw [e] at hc2; simp at hc2), Bool.and_false]
   refine wg rfl ?_; simp only [go_sem]; apply k9; refine wg rfl ?_; simp only [go_sem, List.length_take, List.length_append, List.nil_append, List.length_map, List.length_drop]; refine jr ?_
   refine jt (k7 ?_)
   have hw : IntKind.i64.wrap ((i : Int) - 1) = (i : Int) - 1 := by rw [w64]; omega
   refine wg rfl ?_; simp only [go_sem, hw]; refine jt ?_
   refine ⟨i, by omega, by omega, [(0, 3)], ?_⟩
   rw [hbn, hfl]
   simp only [go_sem, AObj.bel, AObj.ren, AV.ren, aA, sg] <;> simp
 have hbn : (lfL jC (cs.drop i) b).2 = (lfL jC (cs.drop (i + 1)) b).2 := by rw [hfg, decide_eq_true (by simp at hc2 ⊢; exact hc2), Bool.and_true]
 refine wk (k9 ?_)
 refine wg rfl ?_; simp only [go_sem, List.length_take, List.length_append, List.nil_append, List.length_map, List.length_drop]; refine jr ?_
 refine jt (k7 ?_)
 have hw : IntKind.i64.wrap ((i : Int) - 1) = (i : Int) - 1 := by rw [w64]; omega
 refine wg rfl ?_; simp only [go_sem, hw]; refine jt ?_
 refine ⟨i, by omega, by omega, [(0, 3)], ?_⟩
 rw [hbn, hfl]
 simp only [go_sem, AObj.bel, AObj.ren, AV.ren, aA, sg] <;> simp
theorem w_spec_Squash (ls : List Entry) (ts : List Int) (bottom : Bool) (hz : dK ls) (hl : ls.length ≤ 1048576) (hts : ts.length ≤ 1048576) : aB P 132 [.sl 5 (ls.map enA), .sl 1 (ts.map inA), .raw (.bool bottom)] [] 0 (.sl 5 ((bV ls ts bottom).map enA)) := by
 refine pq 52 [.tmp 6] Tryz.func132 ?_
 have hmx : maxLen = 9223372036854775807 := rfl
 refine aj ?_
 refine sr rfl fun _ k2 => ja ?_
 refine jr (k2 ?_)
 refine sq fun _ k3 => sr rfl fun _ k4 => ja ?_
 refine vq Tryz.func96 (qC ls hz) (k4 ?_)
 refine cd rfl (fun hc1 => ?_) fun hc1 => ?_
 · have hio : dL ls = false := by simpa using hc1
   refine aj ?_
   have h9 : bV ls ts bottom = [] := by unfold bV; rw [if_neg (by rw [hio]; simp)]
   refine aFz 0 rfl ?_
   simp only [go_sem, fzL, AV.fz]; refine wR ?_
   refine fO ?_ (enB _ _)
   simp only [go_sem, h9, List.map_nil]
 have hio : dL ls = true := by simpa using hc1
 have hn := inOrd_n hio hl
 refine wk (k3 (sq fun _ k6 => (aj (wb ?_))))
 refine wl (α := Nat × List Entry × Nat) (fun x => x.1 ≤ ls.length ∧ x.2.1.length ≤ x.1 ∧ ls.length ≤ x.1 + x.2.2 ∧ x.2.1 ++ mI (fun c => jK ts c bottom) ls x.2.2 x.1 = mI (fun c => jK ts c bottom) ls ls.length 0) (fun x => ls.length - x.1) (fun x => ([(0, .sl 5 (ls.map enA)), (1, .sl 1 (ts.map inA)), (2, .raw (.bool bottom)), (7, .ref 0), (8, .raw (.int .i64 (x.1 : Int)))], [(0, .row 65 5 (x.2.1.map enA))])) 1 (0, [], ls.length) ⟨Nat.zero_le _, by simp, by simp, rfl⟩ [] ?_ ?_
 · simp only [go_sem, AObj.bel, List.map_nil, Int.natCast_zero] <;> simp
 rintro ⟨s, out, f⟩ ⟨hs0, hol, hf, hgo⟩
 simp only at hs0 hol hf hgo ⊢
 refine sq fun _ k8 => aj ?_
 refine cdS rfl (fun hc2 => ?_) fun hc2 => ?_
 · have hge : ls.length ≤ s := by have h9 : ¬ s < ls.length := (by simpa using hc2); omega
   rw [sqGo_end hge, List.append_nil] at hgo
   refine we (jt (k6 ?_))
   refine aj ?_
   have h9 : bV ls ts bottom = out := by unfold bV; rw [if_pos hio, ← hgo]
   refine aFz 0 rfl ?_
   simp only [go_sem, fzL, AV.fz]; refine wR ?_
   refine fO ?_ (enB _ _)
   simp only [go_sem, h9]
 have hlt : s < ls.length := by simpa using hc2
 have hjk : (lfL jC (aY ts ((ls.take (bJ ls s)).drop s)) bottom).1.flatten = jK ts ((ls.take (bJ ls s)).drop s) bottom := rfl
 obtain ⟨f, rfl⟩ : ∃ f2, f = f2 + 1 := ⟨f - 1, by omega⟩
 rw [mI, if_pos hlt] at hgo
 have hel := sO hlt
 have hsk := jK_len ts ((ls.take (bJ ls s)).drop s) bottom
 have hcl : ((ls.take (bJ ls s)).drop s).length = bJ ls s - s := by rw [List.length_drop, List.length_take]; omega
 have hch : sF ((ls.take (bJ ls s)).drop s) := nEnts_sub hn (by omega) fun x hx => List.mem_of_mem_take (List.mem_of_mem_drop hx)
 refine wk (k8 (wb ?_))
 have hw6 := wiS s (by omega)
 refine sr rfl fun _ k10 => ?_; simp only [go_sem, hw6]
 refine k10 (sq fun _ k11 => (wb ?_))
 refine wl (α := Nat) (fun x => s + 1 ≤ x ∧ x ≤ ls.length ∧ qO ls (ls.length - x) s x = bJ ls s) (fun x => ls.length - x) (fun x => ([(0, .sl 5 (ls.map enA)), (1, .sl 1 (ts.map inA)), (2, .raw (.bool bottom)), (7, .ref 0), (8, .raw (.int .i64 (s : Int))), (9, .raw (.int .i64 (x : Int)))], [(0, .row 65 5 (out.map enA))])) 1 (s + 1) ⟨Nat.le_refl _, hlt, rfl⟩ [] ?_ ?_
 · simp only [go_sem, AObj.bel, AObj.ren, AV.ren, aA, sg] <;> simp
 rintro e ⟨he0, he1, hend⟩
 refine sq fun _ k12 => ?_
 by_cases hle : e < ls.length
 · have hlx := jT hle
   have hsx := jT hlt
   refine sd mixed rfl fun _ k13 => ?_; simp only [go_sem, hlx, hsx, enA]; refine jr ?_; refine ⟨by rfl, ?_⟩; apply k13
   refine cd rfl (fun hc3 => ?_) fun hc3 => ?_
   · have hkk : (decide ((e : Int) < (ls.length : Int)) && keyAt ls s e) = true := by simpa [keyAt] using hc3
     rw [show ls.length - e = (ls.length - (e + 1)) + 1 by omega, qO, if_pos hkk] at hend
     refine wk (k12 (wb ?_))
     have hw8 := wiS e (by omega)
     refine wg rfl ?_; simp only [go_sem, hw8]; refine jt ?_; refine jt ?_
     refine ⟨e + 1, ⟨by omega, by omega, hend⟩, by omega, [], ?_⟩
     simp only [go_sem, AObj.bel, AObj.ren, AV.ren, aA, sg] <;> simp
   have hkk : ¬ (decide ((e : Int) < (ls.length : Int)) && keyAt ls s e) = true := by simpa [keyAt] using hc3
   rw [show ls.length - e = (ls.length - (e + 1)) + 1 by omega, qO, if_neg hkk] at hend; subst hend
   refine we (jt (k11 ?_))
   refine sr rfl fun _ k14 => ?_; simp only [go_sem, ← List.map_take, ← List.map_drop, Int.toNat_natCast]; refine jr ?_
   refine vr rfl rfl rfl Tryz.func177 (sR ((ls.take (bJ ls s)).drop s) ts hch.1 hts) (by simp only [go_sem, enA]) (by simp only [go_sem, enA]) ?_
   refine jr ?_
   refine vs rfl rfl rfl Tryz.func176 (xM (aY ts ((ls.take (bJ ls s)).drop s)) bottom (fun c hc => ⟨nEnts_cls hch hc, (dT hc).1⟩) (by have := (jQ (ts := ts) (ls := ((ls.take (bJ ls s)).drop s))).1; have := hch.1; omega) (by have := (jQ (ts := ts) (ls := ((ls.take (bJ ls s)).drop s))).2; have := hch.1; omega)) (by simp only [go_sem]) (by simp only [go_sem]) ?_
   simp only [go_sem, hjk, List.length_take, List.length_append, List.nil_append, List.length_map, List.length_drop]
   refine jr (k14 ?_)
   refine wg rfl ?_; simp only [go_sem]; refine jt ?_; refine jt ?_
   refine ⟨(bJ ls s, out ++ jK ts ((ls.take (bJ ls s)).drop s) bottom, f), ⟨by simp only; omega, by simp only [List.length_append]; omega, by simp only; omega, by simp only [List.append_assoc]; exact hgo⟩, by simp only; omega, [(0, 1)], ?_⟩
   simp only [go_sem, AObj.bel, AObj.ren, AV.ren, aA, sg] <;> simp
 have hee : e = ls.length := by omega
 have hdf : decide ((e : Int) < (ls.length : Int)) = false := by simp; omega
 have hnn : ls[e]? = none := List.getElem?_eq_none (by omega)
 have hsx := jT hlt
 refine sd mixed rfl fun _ k13 => ?_; simp only [go_sem, hdf, hnn, hsx, enA]; refine jr ?_
 refine bQ (fun hN => cH (rt := []) (rd := []) (val := .raw (.string ⟨#[]⟩)) hN rfl rfl rfl rfl trivial (fun hg => absurd hg (by simp)) (by trivial)) (.inl rfl) ?_
 simp only [go_sem, hdf, hnn, hsx, enA]; refine jr ?_; refine ⟨by rfl, ?_⟩; apply k13
 refine cd rfl (fun hc4 => ?_) fun hc4 => ?_
 · exfalso
   simp [hdf] at hc4
 rw [hee, Nat.sub_self, qO] at hend; rw [← hee] at hend; subst hend
 refine we (jt (k11 ?_))
 refine sr rfl fun _ k15 => ?_; simp only [go_sem, ← List.map_take, ← List.map_drop, Int.toNat_natCast]; refine jr ?_
 refine vr rfl rfl rfl Tryz.func177 (sR ((ls.take (bJ ls s)).drop s) ts hch.1 hts) (by simp only [go_sem, enA]) (by simp only [go_sem, enA]) ?_
 refine jr ?_
 refine vs rfl rfl rfl Tryz.func176 (xM (aY ts ((ls.take (bJ ls s)).drop s)) bottom (fun c hc => ⟨nEnts_cls hch hc, (dT hc).1⟩) (by have := (jQ (ts := ts) (ls := ((ls.take (bJ ls s)).drop s))).1; have := hch.1; omega) (by have := (jQ (ts := ts) (ls := ((ls.take (bJ ls s)).drop s))).2; have := hch.1; omega)) (by simp only [go_sem]) (by simp only [go_sem]) ?_
 simp only [go_sem, hjk, List.length_take, List.length_append, List.nil_append, List.length_map, List.length_drop]
 refine jr (k15 ?_)
 refine wg rfl ?_; simp only [go_sem]; refine jt ?_; refine jt ?_
 refine ⟨(bJ ls s, out ++ jK ts ((ls.take (bJ ls s)).drop s) bottom, f), ⟨by simp only; omega, by simp only [List.length_append]; omega, by simp only; omega, by simp only [List.append_assoc]; exact hgo⟩, by simp only; omega, [(0, 1)], ?_⟩
 simp only [go_sem, AObj.bel, AObj.ren, AV.ren, aA, sg] <;> simp
def cU (t : Tree) : Tree × Bool := match t.levels with
  | [a, b, c] => if (decide ((t.mem.length : Int) = 0) || decide (4 ≤ (a.length : Int))) = true then (t, false)
    else (⟨t.seq, [], [a ++ [⟨bV t.mem t.snaps false, jJ (bV t.mem t.snaps false)⟩], b, c], t.snaps⟩, true)
  | _ => (t, false)
theorem fzL_app : ∀ (xs ys : List AV), fzL (xs ++ ys) = fzL xs ++ fzL ys
  | [], ys => rfl
  | x :: r, ys => by simp only [List.cons_append, fzL, fzL_app r ys]
theorem fz_new (a : List Run) (r : Run) : fzL (a.map runOwn ++ [.agg [.sl 5 (r.ents.map enA), .raw (.int .i64 r.mask)]]) = (a ++ [r]).map rA := by
  rw [fzL_app, sQ, List.map_append]
  simp [fzL, AV.fz, dH, rA]
theorem uR (ls : List Entry) (ts : List Int) (b : Bool) : (bV ls ts b).length ≤ ls.length := by
  have key : ∀ f s, (mI (fun c => jK ts c b) ls f s).length ≤ ls.length - s := by
    intro f
    induction f with
    | zero => intro s; simp [mI]
    | succ f ih =>
      intro s; unfold mI; split
      · rename_i hs
        have h1 := jK_len ts ((ls.take (bJ ls s)).drop s) b
        have h2 := ih (bJ ls s)
        have h3 := sO hs
        simp only [List.length_append, List.length_drop, List.length_take] at h1 ⊢
        omega
      simp
  unfold bV; split
  · have := key ls.length 0; omega
  simp
theorem tN {k : Nat} : ∀ (ls : List Entry) (o : Entry) (f : Bool), o.text.size ≤ k → (∀ e ∈ ls, e.text.size ≤ k) → (mO o f ls).text.size ≤ k ∧ (mO o f ls).key = o.key
  | [], o, f, ho, _ => ⟨ho, rfl⟩
  | e :: r, o, f, ho, h => by
    unfold mO; split
    · exact ⟨h e List.mem_cons_self, rfl⟩
    split
    · split <;> exact ⟨ho, rfl⟩
    exact tN r _ false ho fun x hx => h x (List.mem_cons_of_mem _ hx)
theorem jC_mx {ls : List Entry} {b : Bool} (h : ∀ e ∈ ls, mxEnt e) (hne : ls ≠ []) : ∀ e ∈ jC ls b, mxEnt e := by
  obtain ⟨y, r, hy⟩ := List.exists_cons_of_ne_nil hne
  have h1 := tN (k := 4611686018427387904) ls (qG y) true (Nat.zero_le _) fun e he => (h e he).2
  have hc : tH ls = mO (qG y) true ls := by rw [hy]; rfl
  have hm : mxEnt (tH ls) := ⟨by rw [hc, h1.2]; exact (h y (by rw [hy]; exact List.mem_cons_self)).1, by rw [hc]; exact h1.1⟩
  intro e he; unfold jC at he
  repeat' split at he
  all_goals first | exact h e he | (cases he; done) | (rw [List.mem_singleton.1 he]; exact hm)
theorem lfL_allG {f : List Entry → Bool → List Entry} {p : Entry → Prop} (b : Bool) : ∀ {cs : List (List Entry)}, (∀ c ∈ cs, ∀ b, ∀ e ∈ f c b, p e) → ∀ l ∈ (lfL f cs b).1, ∀ e ∈ l, p e
  | [], _ => by simp [lfL]
  | c :: r, h => by
    intro l hl
    simp only [lfL, List.mem_cons] at hl
    rcases hl with rfl | hl
    · exact h c List.mem_cons_self _
    exact lfL_allG b (cs := r) (fun x hx => h x (List.mem_cons_of_mem _ hx)) l hl
theorem squashJ_mx {ls : List Entry} {ts : List Int} {b : Bool} (hz : dK ls) : dK (bV ls ts b) := by
  refine ⟨by have := uR ls ts b; have := hz.1; omega, ?_⟩
  unfold bV; split
  · refine rY (fun s hs e he => ?_) _ _
    obtain ⟨l, hl, hel⟩ := List.mem_flatten.1 he
    exact lfL_allG b (fun c hc b => jC_mx (fun e he => hz.2 e (List.mem_of_mem_take (List.mem_of_mem_drop ((dT hc).2.2 e he)))) (dT hc).1) l hl e hel
  intro e he; cases he
theorem w_spec_l4Run (ls : List Entry) (hz : dK ls) : aB P 131 [.sl 5 (ls.map enA)] [] 0 (rA ⟨ls, jJ ls⟩) := by
 refine pq 7 [.cell 2 109] Tryz.func131 ?_
 refine aj ?_
 refine sr rfl fun _ k2 => ja ?_
 refine vq Tryz.func175 (yB ls hz) (k2 (wR ?_))
 refine fO ?_ (runAV_b _ _)
 simp only [go_sem, rA]
theorem w_spec_l5Flush (seq : Int) (mem : List Entry) (a b c : List Run) (snaps : List Int) (hz : dK mem) (hm : mem.length ≤ 1048576) (hs : snaps.length ≤ 1048576) (ha : a.length ≤ 1048576) : aD P 80 [.agg [.raw (.int .i64 seq), .ref 0, .ref 1, .ref 2]] [(0, .row 65 5 (mem.map enA)), (1, .row 107 1 [rsO a, rsO b, rsO c]), (2, .row 3 1 (snaps.map inA))] 3 (.tup [trA (cU ⟨seq, mem, [a, b, c], snaps⟩).1, .raw (.bool (cU ⟨seq, mem, [a, b, c], snaps⟩).2)]) [(0, .dead), (1, .dead), (2, .dead)] 3 := by
 refine gq 35 [.cell 2 36, .tmp 3] Tryz.func80 ?_
 have hmx : maxLen = 9223372036854775807 := rfl
 refine aFz 0 rfl ?_
 simp only [go_sem]
 refine aFz 2 rfl ?_
 simp only [go_sem]
 refine tM (i := 1) (j := 0) (by omega) rfl rfl ?_
 simp only [go_sem, rsO]; refine aj ?_
 refine sq fun _ k2 => sr rfl fun _ k3 => ?_
 simp only [go_sem, List.length_map, Int.toNat_zero, List.getElem?_cons_zero]
 refine jr (k3 ?_)
 refine cd rfl (fun hc1 => ?_) fun hc1 => ?_
 · have h9 : cU ⟨seq, mem, [a, b, c], snaps⟩ = (⟨seq, mem, [a, b, c], snaps⟩, false) := if_pos hc1
   refine aj ?_
   refine awp_join1 (i := 1) (n := 3) (j := 0) (by omega) rfl rfl rfl ?_
   simp only [go_sem, List.set_cons_zero]
   refine aFz 1 rfl ?_
   simp only [go_sem, fzL, AV.fz, sQ]; refine wR ?_; refine ⟨[], ?_⟩
   simp only [go_sem, AObj.bel, AObj.ren, AV.ren, aA, sg, h9, trA, rsA] <;> simp
 have hb1 := hc1
 have ha4 : a.length ≤ 1000000 := by simp at hc1; omega
 have h9 : cU ⟨seq, mem, [a, b, c], snaps⟩ = (⟨seq, [], [a ++ [(⟨(bV mem snaps false), jJ (bV mem snaps false)⟩ : Run)], b, c], snaps⟩, true) := if_neg (by rw [hb1]; simp)
 refine wk (k2 (sd mixed rfl fun _ k5 => ?_))
 simp only [go_sem, Int.toNat_zero, List.getElem?_cons_zero, List.set_cons_zero]; refine jr ?_
 refine tp rfl rfl rfl ⟨Tryz.func132, rfl, rfl⟩ (w_spec_Squash mem snaps false hz hm hs) (by simp only [go_sem]) (by simp only [go_sem]) ?_
 simp only [go_sem]; refine jr ?_
 refine tp rfl rfl rfl ⟨Tryz.func131, rfl, rfl⟩ (w_spec_l4Run (bV mem snaps false) (squashJ_mx hz)) (by simp only [go_sem]) (by simp only [go_sem]) ?_
 simp only [go_sem, rA, Int.toNat_zero, List.set_cons_zero, List.length_take, List.length_append, List.nil_append, List.length_map, List.length_drop]; refine jr ?_; refine ⟨by rfl, ?_⟩
 refine k5 (sr rfl fun _ k6 => (ja ?_))
 refine jr (k6 ?_)
 refine aj ?_
 have hfz : fzL (List.map runOwn a ++ [AV.agg [.sl 5 (List.map enA (bV mem snaps false)), .raw (.int .i64 (jJ (bV mem snaps false)))]]) = (a ++ [(⟨(bV mem snaps false), jJ (bV mem snaps false)⟩ : Run)]).map rA := fz_new a (⟨(bV mem snaps false), jJ (bV mem snaps false)⟩ : Run)
 refine aFz 8 rfl ?_
 simp only [go_sem, fzL, AV.fz]
 refine aFz 1 rfl ?_
 simp only [go_sem, fzL, AV.fz, sQ, hfz]; refine wR ?_; refine ⟨[], ?_⟩
 simp only [go_sem, AObj.bel, AObj.ren, AV.ren, aA, sg, h9, trA, rsA, List.map_nil] <;> simp
theorem w_l5Flush (t : Tree) (ht : gN t) (h3 : t.levels.length = 3) : aD P 80 [.agg [.raw (.int .i64 t.seq), .ref 0, .ref 1, .ref 2]] [(0, .row 65 5 (t.mem.map enA)), (1, .row 107 1 (t.levels.map rsO)), (2, .row 3 1 (t.snaps.map inA))] 3
    (.tup [trA (cU t).1, .raw (.bool (cU t).2)]) [(0, .dead), (1, .dead), (2, .dead)] 3 := by
  obtain ⟨seq, mem, lv, snaps⟩ := t
  obtain ⟨a, b, c, rfl⟩ : ∃ a b c, lv = [a, b, c] := by
    match lv, h3 with
    | [a, b, c], _ => exact ⟨a, b, c, rfl⟩
  have hm : mem.length ≤ 1048576 := ht.1.1
  refine w_spec_l5Flush seq mem a b c snaps ⟨by omega, fun e he => ?_⟩ hm ht.2.2 ?_
  · have := ht.1.2 e he
    exact ⟨by omega, by omega⟩
  have := (ht.2.1.2 a (by simp)).1
  omega
def flS (s : Store) : Store × Bool := if s.up = false then (s, false) else if (cU s.tree).2 = false then (s, false)
  else (⟨s.up, (cU s.tree).1, ⟨⟨#[]⟩, 0, (cU s.tree).1.levels, (cU s.tree).1.seq⟩⟩, true)
theorem jC_k {k : Nat} {ls : List Entry} {b : Bool} (h : ∀ e ∈ ls, e.key.size ≤ k ∧ e.text.size ≤ k) (hne : ls ≠ []) : ∀ e ∈ jC ls b, e.key.size ≤ k ∧ e.text.size ≤ k := by
  obtain ⟨y, r, hy⟩ := List.exists_cons_of_ne_nil hne
  have h1 := tN (k := k) ls (qG y) true (Nat.zero_le _) fun e he => (h e he).2
  have hc : tH ls = mO (qG y) true ls := by rw [hy]; rfl
  have hm : (tH ls).key.size ≤ k ∧ (tH ls).text.size ≤ k := ⟨by rw [hc, h1.2]; exact (h y (by rw [hy]; exact List.mem_cons_self)).1, by rw [hc]; exact h1.1⟩
  intro e he; unfold jC at he
  repeat' split at he
  all_goals first | exact h e he | (cases he; done) | (rw [List.mem_singleton.1 he]; exact hm)
theorem squashJ_s {ls : List Entry} {ts : List Int} {b : Bool} (h : gD ls) : gD (bV ls ts b) := by
  refine ⟨by have := uR ls ts b; have := h.1; omega, ?_⟩
  unfold bV; split
  · refine rY (fun s hs e he => ?_) _ _
    obtain ⟨l, hl, hel⟩ := List.mem_flatten.1 he
    exact lfL_allG (p := fun e => e.key.size ≤ 1048576 ∧ e.text.size ≤ 1048576) b (fun c hc b => jC_k (fun e he => h.2 e (List.mem_of_mem_take (List.mem_of_mem_drop ((dT hc).2.2 e he)))) (dT hc).1) l hl e hel
  intro e he; cases he
theorem zY {t : Tree} (h : gN t) : gN (cU t).1 := by
  unfold cU; split
  · rename_i a b c hlv
    split
    · exact h
    rename_i hb
    have hl := h.2.1
    rw [hlv] at hl
    have ha : a.length < 4 := by simp at hb; omega
    refine ⟨⟨Nat.zero_le _, by intro e he; cases he⟩, ⟨by simp, fun r hr => ?_⟩, h.2.2⟩
    simp only [List.mem_cons, List.not_mem_nil, or_false] at hr
    rcases hr with rfl | rfl | rfl
    · refine ⟨by rw [List.length_append]; simp; omega, fun x hx => ?_⟩
      rcases List.mem_append.1 hx with hx | hx
      · exact (hl.2 a (by simp)).2 x hx
      rw [List.mem_singleton.1 hx]; exact squashJ_s h.1
    · exact hl.2 _ (by simp)
    exact hl.2 _ (by simp)
  exact h
theorem w_spec_l6Levels (s : Store) (t : Tree) (ht : mR t.levels) : aB P 53 [stA s, trA t] [] 0 (stA ⟨s.up, t, { s.disk with levels := t.levels }⟩) := by
 refine pq 13 [.cell 4 40] Tryz.func53 ?_
 simp only [stA, trA]; refine aj ?_; refine aj ?_
 refine sr rfl fun _ k3 => ja ?_
 refine vq Tryz.func48 ((bX (bW t.levels ht) (by simp only [go_sem]) (by simp only [go_sem]) : aB P 48 [.sl 1 (t.levels.map rsA)] [] 0 (.sl 1 (t.levels.map rsA)))) (k3 ?_)
 refine aj (wR ?_)
 refine fO ?_ ⟨trivial, trivial, enB _ _, aF _ _, bE _ _, trivial, trivial, aF _ _, trivial, trivial⟩
 simp only [go_sem, stA]
theorem w_spec_l6Flush (s : Store) (hs : bM s) (hq : s.up = true → s.tree.levels.length = 3) : aB P 44 [stA s] [] 0 (.tup [stA (flS s).1, .raw (.bool (flS s).2)]) := by
 refine pq 33 [.cell 2 40, .tmp 3] Tryz.func44 ?_
 simp only [stA]; refine aj ?_
 refine sq fun _ k2 => aj ?_
 refine cd rfl (fun hc1 => ?_) fun hc1 => ?_
 · have hup : s.up = false := by simpa using hc1
   have h9 : flS s = (s, false) := by unfold flS; rw [if_pos hup]
   refine aj (wR ?_)
   refine fO ?_ ⟨dN _ _, trivial, trivial⟩
   simp only [go_sem, h9, stA]
 have hup : s.up = true := by simpa using hc1
 refine wk (k2 (sr rfl fun _ k5 => (ja ?_)))
 refine vn 3 rfl rfl rfl ⟨Tryz.func65, rfl, rfl⟩ (tZ s.tree hs.1) (by simp only [go_sem, trA]) (by simp only [go_sem, trA]) (by simp) (by decide) ?_
 simp only [go_sem, AV.ren, AObj.ren, aA, shift, sg, Nat.le_refl, Nat.add_zero, Nat.sub_self]
 refine vC (fun hN => bU (s := [(0, 2), (1, 3), (2, 4)]) 0 rfl rfl rfl ⟨Tryz.func80, rfl, rfl⟩ hN (w_l5Flush s.tree hs.1 (hq hup)) rfl (by simp only [go_sem, aA, AV.ren, sg]) ?_ (pK (by simp [eX, sg, Abs.get, AObj.ren, AObj.bel, UU, dX, bH, eW, yM, enB, eH, bE]) (by simp [sg, Abs.get]) (by intro i hi; simp; omega) (by simp) rfl (by omega))) (.inl rfl) ?_
 · simp only [go_sem]
 simp only [go_sem, aR, AObj.ren, AV.ren, aA, trA, dX, bH, eW, yM, sg]
 refine k5 (sq fun _ k6 => (aj ?_))
 refine cd rfl (fun hc2 => ?_) fun hc2 => ?_
 · have hf : (cU s.tree).2 = false := by simpa using hc2
   have h9 : flS s = (s, false) := by unfold flS; rw [if_neg (by rw [hup]; simp), if_pos hf]
   refine aj (wR ?_)
   refine fO ?_ ⟨dN _ _, trivial, trivial⟩
   simp only [go_sem, h9, stA]
 have hf : ¬ (cU s.tree).2 = false := by simpa using hc2
 have h9 : flS s = (⟨s.up, (cU s.tree).1, ⟨⟨#[]⟩, 0, (cU s.tree).1.levels, (cU s.tree).1.seq⟩⟩, true) := by unfold flS; rw [if_neg (by rw [hup]; simp), if_neg hf]
 refine wk (k6 (sr rfl fun _ k9 => (ja ?_)))
 refine vs rfl rfl rfl Tryz.func53 (w_spec_l6Levels s (cU s.tree).1 (zY hs.1).2.1) (by simp only [go_sem, stA, trA]) (by simp only [go_sem, stA, trA]) ?_
 simp only [go_sem, stA]
 refine k9 (aj ?_)
 refine aj ?_; refine aj ?_
 refine aj (wR ?_)
 refine fO ?_ ⟨dN _ _, trivial, trivial⟩
 simp only [go_sem, h9, stA]
section
variable {ls : List Entry} {e : Entry}
theorem ok_parts (h : bF e = true) : (iJ e.key = true ∧ 1 ≤ e.seq ∧ e.seq ≤ 100000 ∧ lX e.n = true ∧ e.text.size ≤ 60) ∧ (e.kind = 1 ∨ (e.kind = 2 ∧ e.n = 0) ∨ e.kind = 3) := by
  unfold bF at h; split at h
  · cases h
  rename_i hb
  have hb' : iA e = false := by simpa using hb
  unfold iA at hb'
  simp only [Bool.or_eq_false_iff, Bool.not_eq_false', decide_eq_false_iff_not] at hb'
  refine ⟨⟨hb'.1.1.1.1, by omega, by omega, hb'.1.2, by omega⟩, ?_⟩
  split at h
  · left; assumption
  split at h
  · right; left; rename_i hk; simp only [Bool.and_eq_true, decide_eq_true_eq] at h; exact ⟨hk, h.2⟩
  split at h
  · right; right; assumption
  cases h
theorem ok_make (h1 : iJ e.key = true) (h2 : 1 ≤ e.seq ∧ e.seq ≤ 100000) (h3 : lX e.n = true) (h4 : e.text.size ≤ 60) (h5 : e.kind = 1 ∨ (e.kind = 2 ∧ e.text = ⟨#[]⟩ ∧ e.n = 0) ∨ (e.kind = 3 ∧ e.text = ⟨#[]⟩)) : bF e = true := by
  have hb : iA e = false := by
    unfold iA; rw [h1, h3]
    simp; omega
  unfold bF; rw [hb, if_neg (by simp)]
  rcases h5 with h | ⟨h, ht, hn⟩ | ⟨h, ht⟩
  · rw [if_pos h]
  · rw [if_neg (by omega), if_pos h, ht, hn]; simp
  rw [if_neg (by omega), if_neg (by omega), if_pos h, ht]; simp
theorem join_eq : ∀ (ls : List Entry) (o : Entry) (f : Bool), (∀ e ∈ ls, bF e = true) → mO o f ls = gW o f ls
  | [], _, _, _ => rfl
  | e :: r, o, f, h => by
    have hk := (ok_parts (h e List.mem_cons_self)).2
    unfold mO gW
    rcases hk with hk | ⟨hk, hn⟩ | hk
    · rw [if_pos hk, if_neg (by omega), if_pos hk]
    · have g1 : ¬ e.kind = 1 := by omega
      have g3 : ¬ e.kind = 3 := by omega
      rw [if_neg g1, if_pos hk, if_neg g3, if_neg g1, hn, Int.add_zero]
    rw [if_neg (by omega), if_neg (by omega), if_pos hk]
    exact join_eq r _ false fun x hx => h x (List.mem_cons_of_mem _ hx)
theorem one_eq (h : ∀ e ∈ ls, bF e = true) : tH ls = gJ ls := by
  cases ls with
  | nil => rfl
  | cons y r => exact join_eq (y :: r) (qG y) true h
theorem sum_iff (n : Int) : (lX n = false) ↔ ((decide (1000000 < n) || decide (n < -1000000)) = true) := by
  unfold lX
  simp
  omega
theorem jC_eq (h : ∀ e ∈ ls, bF e = true) (b : Bool) : jC ls b = sqC ls b := by
  unfold jC sqC; rw [one_eq h]
  by_cases hs : lX (gJ ls).n = false
  · rw [if_pos hs, if_pos ((sum_iff _).1 hs)]
  rw [if_neg hs, if_neg (fun e => hs ((sum_iff _).2 e))]
  cases b with
  | false => simp
  | true =>
    by_cases h2 : (gJ ls).kind = 2
    · simp [h2]
    by_cases h3 : (gJ ls).kind = 3
    · simp [h3]
    simp [h2, h3]
theorem lfL_congr {f g : List Entry → Bool → List Entry} (b : Bool) : ∀ {cs : List (List Entry)}, (∀ c ∈ cs, ∀ b, f c b = g c b) → lfL f cs b = lfL g cs b
  | [], _ => rfl
  | c :: r, h => by
    unfold lfL; rw [lfL_congr b (cs := r) fun x hx => h x (List.mem_cons_of_mem _ hx), h c List.mem_cons_self]
theorem jK_eq {ts : List Int} (h : ∀ e ∈ ls, bF e = true) (b : Bool) : jK ts ls b = sqK ts ls b := by
  unfold jK sqK; rw [lfL_congr b fun c hc b => jC_eq (fun e he => h e ((dT hc).2.2 e he)) b]
theorem sqGo_congr {f g : List Entry → List Entry} {ls : List Entry} (h : ∀ c, (∀ e ∈ c, e ∈ ls) → f c = g c) : ∀ n s, mI f ls n s = mI g ls n s
  | 0, _ => rfl
  | n + 1, s => by
    unfold mI; rw [sqGo_congr h n, h _ fun e he => List.mem_of_mem_take (List.mem_of_mem_drop he)]
theorem squash_eq (ls : List Entry) (ts : List Int) (b : Bool) : bV ls ts b = aT ls ts b := by
  unfold bV aT; split
  · rename_i h
    exact sqGo_congr (fun c hc => jK_eq (fun e he => inOrd_ok h (hc e he)) b) _ _
  rfl
def kp (e : Entry) : ByteArray × Int := (e.key, e.seq)
theorem oneGo_ok : ∀ (ls : List Entry) (o : Entry) (f : Bool), o.kind = 3 → o.text = ⟨#[]⟩ → (f = true → o.n = 0) → (∀ e ∈ ls, bF e = true) →
    (gW o f ls).key = o.key ∧ (gW o f ls).seq = o.seq ∧ (gW o f ls).text.size ≤ 60 ∧ ((gW o f ls).kind = 1 ∨ ((gW o f ls).kind = 2 ∧ (gW o f ls).text = ⟨#[]⟩ ∧ (gW o f ls).n = 0) ∨ ((gW o f ls).kind = 3 ∧ (gW o f ls).text = ⟨#[]⟩))
  | [], o, f, hk, ht, hn, _ => ⟨rfl, rfl, by show o.text.size ≤ 60; rw [ht]; exact Nat.zero_le _, .inr (.inr ⟨hk, ht⟩)⟩
  | e :: r, o, f, hk, ht, hn, h => by
    have hz : (⟨#[]⟩ : ByteArray).size ≤ 60 := Nat.zero_le _
    unfold gW; split
    · exact oneGo_ok r { o with n := o.n + e.n } false hk ht (fun h => by cases h) fun x hx => h x (List.mem_cons_of_mem _ hx)
    split
    · exact ⟨rfl, rfl, (ok_parts (h e List.mem_cons_self)).1.2.2.2.2, .inl rfl⟩
    split
    · rename_i hf
      exact ⟨rfl, rfl, by show o.text.size ≤ 60; rw [ht]; exact hz, .inr (.inl ⟨rfl, ht, hn hf⟩)⟩
    exact ⟨rfl, rfl, by show o.text.size ≤ 60; rw [ht]; exact hz, .inl rfl⟩
theorem cOne_ok (h : ∀ e ∈ ls, bF e = true) {y : Entry} {r : List Entry} (hy : ls = y :: r) : kp (gJ ls) = kp y ∧
    (lX (gJ ls).n = true → bF (gJ ls) = true ∧ ((gJ ls).kind = 3 → bF { gJ ls with kind := 1 } = true)) := by
  have hc : gJ ls = gW (qG y) true ls := by rw [hy]; rfl
  obtain ⟨h1, h2, h3, h4⟩ := oneGo_ok ls (qG y) true rfl rfl (fun _ => rfl) h
  rw [← hc] at h1 h2 h3 h4
  have hyo := (ok_parts (h y (by rw [hy]; exact List.mem_cons_self))).1
  have k1 : iJ (gJ ls).key = true := by rw [h1]; exact hyo.1
  have k2 : 1 ≤ (gJ ls).seq ∧ (gJ ls).seq ≤ 100000 := by rw [h2]; exact ⟨hyo.2.1, hyo.2.2.1⟩
  refine ⟨by unfold kp; rw [h1, h2]; rfl, fun hs => ⟨ok_make k1 k2 hs h3 h4, fun _ => ok_make k1 k2 hs h3 (.inl rfl)⟩⟩
theorem sqC_ok {c : List Entry} (h : ∀ e ∈ c, bF e = true) (hne : c ≠ []) (b : Bool) : ((sqC c b).map kp).Sublist (c.map kp) ∧ (∀ e ∈ sqC c b, bF e = true) ∧ (b = false → sqC c b ≠ []) := by
  obtain ⟨y, r, hy⟩ := List.exists_cons_of_ne_nil hne
  obtain ⟨h1, h2⟩ := cOne_ok h hy
  have hs1 : ([gJ c].map kp).Sublist (c.map kp) := by rw [hy, List.map_cons, List.map_cons, ← hy, h1]; exact (List.nil_sublist _).cons₂ _
  have hs2 : ([{ gJ c with kind := 1 }].map kp).Sublist (c.map kp) := hs1
  unfold sqC; split
  · exact ⟨List.Sublist.refl _, h, fun _ => hne⟩
  rename_i hr
  have hs : lX (gJ c).n = true := by
    cases hq : lX (gJ c).n with
    | true => rfl
    | false => exact absurd ((sum_iff _).1 hq) hr
  obtain ⟨g1, g2⟩ := h2 hs
  split
  · rename_i hb
    split
    · exact ⟨List.nil_sublist _, by simp, fun e => by rw [e] at hb; cases hb⟩
    split
    · rename_i hk
      exact ⟨hs2, fun e he => by rw [List.mem_singleton.1 he]; exact g2 hk, fun _ => by simp⟩
    exact ⟨hs1, fun e he => by rw [List.mem_singleton.1 he]; exact g1, fun _ => by simp⟩
  exact ⟨hs1, fun e he => by rw [List.mem_singleton.1 he]; exact g1, fun _ => by simp⟩
theorem lfL_ok (b : Bool) : ∀ {cs : List (List Entry)}, (∀ c ∈ cs, c ≠ [] ∧ ∀ e ∈ c, bF e = true) → (((lfL sqC cs b).1.flatten).map kp).Sublist (cs.flatten.map kp) ∧ ((lfL sqC cs false).2 = false) ∧ (cs ≠ [] → (lfL sqC cs false).1.flatten ≠ [])
  | [], _ => ⟨by simp [lfL], rfl, fun h => absurd rfl h⟩
  | c :: r, h => by
    obtain ⟨k1, k2, _⟩ := lfL_ok b (cs := r) fun x hx => h x (List.mem_cons_of_mem _ hx)
    have hc := h c List.mem_cons_self
    refine ⟨?_, ?_, fun _ e => ?_⟩
    · simp only [lfL, List.flatten_cons, List.map_append]
      exact (sqC_ok hc.2 hc.1 _).1.append k1
    · simp only [lfL, k2, Bool.false_and]
    simp only [lfL, List.flatten_cons, List.append_eq_nil_iff] at e
    rw [k2] at e
    exact (sqC_ok hc.2 hc.1 false).2.2 rfl e.1
theorem yJ (ts : List Int) (ls : List Entry) : ∀ f s i, f + 1 + i = ls.length + 1 → s ≤ i → (hJ ts ls (f + 1) s i).flatten = ls.drop s
  | f, s, i, h, hs => by
    unfold hJ; split
    · rename_i hc
      simp only [Bool.and_eq_true, decide_eq_true_eq] at hc
      obtain ⟨g, rfl⟩ : ∃ g, f = g + 1 := ⟨f - 1, by omega⟩
      exact yJ ts ls g s (i + 1) (by omega) (by omega)
    have hsp : (ls.take i).drop s ++ ls.drop i = ls.drop s := by
      have h1 := List.take_append_drop i ls
      have h2 : (ls.take i ++ ls.drop i).drop s = (ls.take i).drop s ++ ls.drop i := List.drop_append_of_le_length (by rw [List.length_take]; omega)
      rw [h1] at h2; exact h2.symm
    rw [List.flatten_cons]
    rcases Nat.eq_zero_or_pos f with h0 | h0
    · subst h0
      have hi : i = ls.length := by omega
      rw [hJ, List.flatten_nil, List.append_nil]; rw [hi, List.drop_length, List.append_nil] at hsp
      rw [hi]; exact hsp
    obtain ⟨g, rfl⟩ : ∃ g, f = g + 1 := ⟨f - 1, by omega⟩
    rw [yJ ts ls g i (i + 1) (by omega) (by omega)]; exact hsp
theorem cls_flat (ts : List Int) (ls : List Entry) : (aY ts ls).flatten = ls := by
  unfold aY
  rcases Nat.eq_zero_or_pos ls.length with h0 | h0
  · rw [h0, hJ]; exact (List.eq_nil_of_length_eq_zero h0).symm
  obtain ⟨g, hg⟩ : ∃ g, ls.length = g + 1 := ⟨ls.length - 1, by omega⟩
  have := yJ ts ls g 0 1 (by omega) (by omega)
  rw [hg]; simpa using this
theorem sqK_ok {ts : List Int} (h : ∀ e ∈ ls, bF e = true) (b : Bool) : ((sqK ts ls b).map kp).Sublist (ls.map kp) ∧ (∀ e ∈ sqK ts ls b, bF e = true) ∧ (ls ≠ [] → sqK ts ls false ≠ []) := by
  have hc : ∀ c ∈ aY ts ls, c ≠ [] ∧ ∀ e ∈ c, bF e = true := fun c hc => ⟨(dT hc).1, fun e he => h e ((dT hc).2.2 e he)⟩
  obtain ⟨h1, _, h3⟩ := lfL_ok b hc
  rw [cls_flat] at h1
  refine ⟨h1, sqK_all fun c hm b => (sqC_ok (hc c hm).2 (hc c hm).1 b).2.1, fun hne => h3 fun e => hne ?_⟩
  have := cls_flat ts ls
  rw [e] at this; exact this.symm
theorem sqGo_sub {g : List Entry → List Entry} {ls : List Entry} (h : ∀ c, (∀ e ∈ c, e ∈ ls) → ((g c).map kp).Sublist (c.map kp)) : ∀ f s, ((mI g ls f s).map kp).Sublist ((ls.drop s).map kp)
  | 0, s => by simp [mI]
  | f + 1, s => by
    unfold mI; split
    · rename_i hs
      have he := sO hs
      have hsp : (ls.take (bJ ls s)).drop s ++ ls.drop (bJ ls s) = ls.drop s := by
        have h1 := List.take_append_drop (bJ ls s) ls
        have h2 : (ls.take (bJ ls s) ++ ls.drop (bJ ls s)).drop s = (ls.take (bJ ls s)).drop s ++ ls.drop (bJ ls s) := List.drop_append_of_le_length (by rw [List.length_take]; omega)
        rw [h1] at h2; exact h2.symm
      rw [← hsp, List.map_append, List.map_append]
      exact (h _ fun e he => List.mem_of_mem_take (List.mem_of_mem_drop he)).append (sqGo_sub h f _)
    exact List.nil_sublist _
theorem inOrd_of (h1 : ∀ e ∈ ls, bF e = true) (h2 : ls.Pairwise fun a b => entLt a b = true) : dL ls = true := by
  unfold dL; rw [List.all_eq_true]; intro i hi
  have hlt := List.mem_range.1 hi
  unfold xC; rw [List.getElem?_eq_getElem hlt]
  have g1 := h1 ls[i] (List.getElem_mem hlt)
  simp only [g1, Bool.not_true, Bool.false_or, Bool.not_eq_true', Bool.and_eq_false_imp, decide_eq_true_eq, Bool.not_eq_false']; intro h0
  have hp : dO ls i = ls[i - 1] := by unfold dO; rw [List.getElem?_eq_getElem (by omega)]; rfl
  rw [hp]
  exact List.pairwise_iff_getElem.1 h2 (i - 1) i (by omega) hlt (by omega)
def ltK (p q : ByteArray × Int) : Bool := Op.bytesLess p.1.toList q.1.toList || (p.1.toList == q.1.toList && decide (q.2 < p.2))
theorem squash_ord {ts : List Int} {b : Bool} (h : dL ls = true) : dL (aT ls ts b) = true ∧ (ls ≠ [] → aT ls ts false ≠ []) := by
  have hok := fun e he => inOrd_ok h (e := e) he
  have hsub : ((aT ls ts b).map kp).Sublist (ls.map kp) := by
    unfold aT; rw [if_pos h]
    have := sqGo_sub (g := fun c => sqK ts c b) (ls := ls) (fun c hc => (sqK_ok (fun e he => hok e (hc e he)) b).1) ls.length 0
    simpa using this
  refine ⟨inOrd_of ?_ ?_, fun hne e => ?_⟩
  · unfold aT; rw [if_pos h]
    exact rY (fun s hs e he => (sqK_ok (fun e he => hok e (List.mem_of_mem_take (List.mem_of_mem_drop he))) b).2.1 e he) _ _
  · have h1 : (ls.map kp).Pairwise fun p q => ltK p q = true := List.pairwise_map.2 (inOrd_pw h)
    exact List.pairwise_map.1 (h1.sublist hsub)
  unfold aT at e; rw [if_pos h] at e
  have hp := List.length_pos_iff.2 hne
  obtain ⟨g, hg⟩ : ∃ g, ls.length = g + 1 := ⟨ls.length - 1, by omega⟩
  rw [hg, mI, if_pos hp, List.append_eq_nil_iff] at e
  have he := sO hp
  refine (sqK_ok (ts := ts) (ls := (ls.take (bJ ls 0)).drop 0) (fun e he => hok e (List.mem_of_mem_take (List.mem_of_mem_drop he))) false).2.2 (fun e2 => ?_) e.1
  have := congrArg List.length e2
  rw [List.length_drop, List.length_take, List.length_nil] at this; omega
theorem flush_eq {t : Tree} (h : dG t = true) : aQ t = cU t := by
  unfold dG at h; split at h
  · cases h
  rename_i hb
  unfold nM at hb
  simp only [Bool.or_eq_true, decide_eq_true_eq, Bool.not_eq_true', decide_eq_false_iff_not, not_or] at hb
  split at h
  · cases h
  rename_i hb2
  have ho : dL t.mem = true := by
    cases hq : dL t.mem with
    | true => rfl
    | false => rw [hq] at hb2; simp at hb2
  obtain ⟨a, b, c, hlv⟩ : ∃ a b c, t.levels = [a, b, c] := by
    have h3 : t.levels.length = 3 := by omega
    match hl : t.levels, h3 with
    | [a, b, c], _ => exact ⟨a, b, c, rfl⟩
  unfold aQ cU; simp only [hlv]
  by_cases hc : (decide ((t.mem.length : Int) = 0) || decide (4 ≤ (a.length : Int))) = true
  · rw [if_pos hc, if_pos hc]
  rw [if_neg hc, if_neg hc]
  have hne : t.mem ≠ [] := fun e => hc (by rw [e]; rfl)
  obtain ⟨q1, q2⟩ := squash_ord (ts := t.snaps) (b := false) ho
  have q3 := uZ t.mem t.snaps false
  have q4 := List.length_pos_iff.2 (q2 hne)
  have hr : cV (aT t.mem t.snaps false) = (⟨aT t.mem t.snaps false, jJ (aT t.mem t.snaps false)⟩, true) := by
    unfold cV
    rw [sortE_ord q1, if_neg (fun hbad => by
      rcases hbad with (h | h) | h
      · omega
      · omega
      rw [q1] at h; cases h)]
  rw [hr, if_neg (by simp), squash_eq]
end
theorem kLv_new (a b c : List Run) (r : Run) : kGo kRuns [a ++ [r], b, c] 0 = kGo kRuns [a, b, c] 0 + (5 * (r.ents.length : Int) + 1) := by
  have h1 : kRuns (a ++ [r]) 0 = kRuns a 0 + (5 * (r.ents.length : Int) + 1) := by
    show kGo stR (a ++ [r]) 0 = _
    rw [kGo_app]
    show kGo stE r.ents (kGo stR a 0) + 1 = _
    rw [wN]
    show kGo stR a 0 + 5 * (r.ents.length : Int) + 1 = kGo stR a 0 + _
    omega
  show kGo kRuns [b, c] (kRuns (a ++ [r]) 0) = kGo kRuns [b, c] (kRuns a 0) + _
  rw [kLv_add [b, c] (kRuns (a ++ [r]) 0), kLv_add [b, c] (kRuns a 0), h1]
  omega
theorem flushJ_k (t : Tree) : 5 * ((cU t).1.mem.length : Int) + kGo kRuns (cU t).1.levels 0 ≤ 5 * (t.mem.length : Int) + kGo kRuns t.levels 0 + 1 ∧ kGo kRuns (cU t).1.levels 0 ≤ 5 * (t.mem.length : Int) + kGo kRuns t.levels 0 + 1 ∧ (cU t).1.snaps = t.snaps := by
  have p := sT t.levels
  unfold cU; split
  · rename_i a b c hlv
    split
    · exact ⟨by simp only; omega, by simp only; omega, rfl⟩
    have h1 := kLv_new a b c ⟨bV t.mem t.snaps false, jJ (bV t.mem t.snaps false)⟩
    have h2 := uR t.mem t.snaps false
    rw [hlv]; simp only [h1, List.length_nil]
    exact ⟨by omega, by omega, trivial⟩
  exact ⟨by simp only; omega, by simp only; omega, rfl⟩
def cutN (s : Store) (k : Int) : Int := min (max k s.disk.safe) (s.disk.log.size : Int)
def fallI (s : Store) (k : Int) : Store := ⟨false, gE, { s.disk with log := s.disk.log.extract 0 (cutN s k).toNat, safe := cutN s k }⟩
def brS (s : Store) : Store := if (fsI s).2.2 = true then { s with disk := stDo s.disk (.lev (aQ s.tree).1.levels (aQ s.tree).1.seq) } else s
def brI (s : Store) (k : Int) : Store × Bool := if s.up = false then (s, false) else (fallI (brS s) k, true)
theorem fsI_true {s : Store} (h : (fsI s).2.2 = true) : fsI s = ((aQ s.tree).1, [.lev (aQ s.tree).1.levels (aQ s.tree).1.seq, .emp], true) := by
  unfold fsI at h ⊢
  split
  · rename_i h1; rw [if_pos h1] at h; cases h
  rename_i h1
  rw [if_neg h1] at h; split
  · rename_i h2; rw [if_pos h2] at h; cases h
  rfl
theorem brS_disk (s : Store) : (brS s).disk.safe = s.disk.safe ∧ (brS s).disk.log = s.disk.log ∧ (brS s).up = s.up := by
  unfold brS; split <;> exact ⟨rfl, rfl, rfl⟩
theorem fallI_s {s : Store} (h : bM s) (k : Int) : bM (fallI s k) := ⟨⟨⟨Nat.zero_le _, by intro e he; cases he⟩, ⟨Nat.zero_le _, by intro e he; cases he⟩, Nat.zero_le _⟩, h.2⟩
theorem brI_s {s : Store} (h : bM s) (k : Int) : bM (brI s k).1 := by
  unfold brI; split
  · exact h
  refine fallI_s (s := brS s) ?_ k
  unfold brS; split
  · exact ⟨h.1, (flushI_s h.1).2.1⟩
  exact h
theorem ok_safe {s : Store} (h : aM s = true) : 0 ≤ s.disk.safe := by
  have : nP s.disk = true := by
    unfold aM at h; split at h
    · cases h
    rename_i h1; simpa using h1
  unfold nP at this; split at this
  · cases this
  rename_i h1; omega
theorem yC (s : Store) (k : Int) (h0 : 0 ≤ s.disk.safe) : aB P 51 [stA s, .raw (.int .i64 k)] [] 0 (stA (fallI s k)) := by
 refine pq 30 [.cell 4 40] Tryz.func51 ?_
 simp only [stA]; refine aj ?_; refine aj ?_; refine aj ?_
 have hn : 0 ≤ cutN s k ∧ cutN s k ≤ (s.disk.log.size : Int) := by unfold cutN; omega
 have hcn : min (max k s.disk.safe) (s.disk.log.size : Int) = cutN s k := rfl
 try rw [hcn]
 refine sr rfl fun _ k4 => ja ?_
 refine ⟨⟨by omega, by omega, by omega⟩, ?_⟩
 refine k4 (aj ?_)
 refine aj ?_
 refine cG 1 (ds := [.raw (.bool false), .raw (.int .i64 0), .sl 5 [], .sl 1 [], .sl 1 [], .raw (.string (s.disk.log.extract 0 (cutN s k).toNat)), .raw (.int .i64 (cutN s k)), .sl 1 (s.disk.levels.map rsA), .raw (.int .i64 s.disk.seq)]) rfl (by repeat (first | exact LeL.nil | refine LeL.cons (by first | exact Le.refl _ | exact Le.nil _) ?_)) (by simp only [go_sem, Int.toNat_zero]) ?_
 simp only [go_sem]; refine wR ?_
 refine fO ?_ ⟨trivial, trivial, enB _ _, aF _ _, bE _ _, trivial, trivial, aF _ _, trivial, trivial⟩
 simp only [go_sem, fallI, gE, List.map_nil, Int.toNat_zero]
theorem xG (s : Store) (keep : Int) (hs : bM s) (hq : s.up = true → s.tree.levels.length = 3) (hlog : s.disk.log.size ≤ 12000) (h0 : 0 ≤ s.disk.safe) : aD P 50 [stA s, .ptr 0 0] [(0, .cells 3 [.raw (.int .i64 keep)])] 1 (.tup [stA (brI s keep).1, .raw (.bool (brI s keep).2)]) [(0, .cells 3 [.raw (.int .i64 keep)])] 1 := by
 refine gq 27 [.cell 3 40, .tmp 4] Tryz.func50 ?_
 simp only [stA]
 obtain ⟨hd1, hd2, hd3⟩ := brS_disk s
 have hzz : ∀ i p, (List.take 1 [StepI.lev (aQ s.tree).1.levels (aQ s.tree).1.seq, .emp])[i]? = some p → (qZ s.disk ((List.take 1 [StepI.lev (aQ s.tree).1.levels (aQ s.tree).1.seq, .emp]).take i)).log.size + stSz p ≤ 4611686018427387904 := fun i p hp => by
   match i, hp with
   | 0, hp => cases hp; show s.disk.log.size + 0 ≤ _; omega
   | i + 1, hp => simp at hp
 have hdd : qZ s.disk (List.take 1 [StepI.lev (aQ s.tree).1.levels (aQ s.tree).1.seq, .emp]) = stDo s.disk (.lev (aQ s.tree).1.levels (aQ s.tree).1.seq) := rfl
 have hdd2 : qZ s.disk [StepI.lev (aQ s.tree).1.levels (aQ s.tree).1.seq] = stDo s.disk (.lev (aQ s.tree).1.levels (aQ s.tree).1.seq) := rfl
 refine aj ?_
 refine sq fun _ k2 => aj ?_
 refine cd rfl (fun hc1 => ?_) fun hc1 => ?_
 · have hup : s.up = false := by simpa using hc1
   have h9 : brI s keep = (s, false) := by unfold brI; rw [if_pos hup]
   refine aj (wR ?_)
   refine ⟨[], ?_⟩
   simp only [go_sem, AObj.bel, AObj.ren, AV.ren, aA, sg, h9, stA] <;> simp
 have hup : s.up = true := by simpa using hc1
 have h9 : brI s keep = (fallI (brS s) keep, true) := by unfold brI; rw [if_neg (by rw [hup]; simp)]
 refine wk (k2 (sq fun _ k5 => (sr rfl fun _ k6 => (ja ?_))))
 refine vs rfl rfl rfl Tryz.func46 (w_impl_flushSteps s hs hq) (by simp only [go_sem, stA]) (by simp only [go_sem, stA]) ?_
 simp only [go_sem, trA]
 refine k6 (aj ?_)
 refine cdS rfl (fun hc2 => ?_) fun hc2 => ?_
 · have hf : (fsI s).2.2 = false := by simpa using hc2
   have hbs : brS s = s := by unfold brS; rw [if_neg (by rw [hf]; simp)]
   refine wk (k5 (sr rfl fun _ k9 => (ja ?_)))
   refine vs rfl rfl rfl Tryz.func51 (yC (brS s) keep (by rw [hd1]; exact h0)) (by simp only [go_sem, stA, hbs]) (by simp only [go_sem, stA, hbs]) ?_
   simp only [go_sem, stA]
   refine k9 (wR ?_)
   refine ⟨[], ?_⟩
   simp only [go_sem, AObj.bel, AObj.ren, AV.ren, aA, sg, h9, stA] <;> simp
 have hf : (fsI s).2.2 = true := by simpa using hc2
 have h8 := fsI_true hf
 have hbs : brS s = { s with disk := stDo s.disk (.lev (aQ s.tree).1.levels (aQ s.tree).1.seq) } := by unfold brS; rw [if_pos hf]
 simp only [h8, stAV, List.map_cons, List.map_nil]; refine wg rfl ?_; simp only [go_sem]
 refine vs rfl rfl rfl Tryz.func47 (w_impl_doSteps s.disk [.lev (aQ s.tree).1.levels (aQ s.tree).1.seq, .emp] 1 (by simp) (by simp) hzz) (by simp only [go_sem, dkA, stAV, List.map_cons, List.map_nil]; rfl) (by simp only [go_sem, dkA, stAV, List.map_cons, List.map_nil]) ?_
 simp only [go_sem, dkA, hdd, hdd2]
 refine k5 (sr rfl fun _ k8 => (ja ?_))
 refine vs rfl rfl rfl Tryz.func51 (yC (brS s) keep (by rw [hd1]; exact h0)) (by simp only [go_sem, stA, hbs]) (by simp only [go_sem, stA, hbs]) ?_
 simp only [go_sem, stA]
 refine k8 (wR ?_)
 refine ⟨[], ?_⟩
 simp only [go_sem, AObj.bel, AObj.ren, AV.ren, aA, sg, h9, stA] <;> simp
theorem w_storeDo_b (s : Store) (keep : Int) (hs : bM s) : aD P 33 [stA s, .fn (.func 50) [] [.ptr 0 0]] [(0, .cells 3 [.raw (.int .i64 keep)])] 1 (.tup [.agg [.raw (.bool (sdI (fun s => brI s keep) s).1.up), .raw (.int .i64 (sdI (fun s => brI s keep) s).1.tree.seq), .ref 1, .ref 2, .ref 3, .raw (.string (sdI (fun s => brI s keep) s).1.disk.log), .raw (.int .i64 (sdI (fun s => brI s keep) s).1.disk.safe), .ref 4, .raw (.int .i64 (sdI (fun s => brI s keep) s).1.disk.seq)], .raw (.bool (sdI (fun s => brI s keep) s).2)]) [(0, .cells 3 [.raw (.int .i64 keep)]), (1, .row 65 5 ((sdI (fun s => brI s keep) s).1.tree.mem.map enA)), (2, .row 107 1 ((sdI (fun s => brI s keep) s).1.tree.levels.map rsO)), (3, .row 3 1 ((sdI (fun s => brI s keep) s).1.tree.snaps.map inA)), (4, .row 107 1 ((sdI (fun s => brI s keep) s).1.disk.levels.map rsO))] 5 := by
 refine gq 24 [.cell 4 40, .tmp 5] Tryz.func33 ?_
 simp only [stA]; refine aj ?_
 refine sq fun _ k2 => sr rfl fun _ k3 => ja ?_
 refine vr rfl rfl rfl Tryz.func68 (w_StoreOk s hs) (by simp only [go_sem, stA]) (by simp only [go_sem, stA]) (k3 ?_)
 refine cd rfl (fun hc1 => ?_) fun hc1 => ?_
 · have hok : aM s = false := by simpa using hc1
   have h9 : sdI (fun s => brI s keep) s = (zStore, false) := by unfold sdI; rw [if_pos hok]
   refine aj ?_
   refine vO (i := 2) (j := 2) 65 5 rfl rfl (by decide) ?_
   simp only [go_sem, List.set_cons_succ, List.set_cons_zero]
   refine vO (i := 2) (j := 3) 107 1 rfl rfl (by decide) ?_
   simp only [go_sem, List.set_cons_succ, List.set_cons_zero]
   refine vO (i := 2) (j := 4) 3 1 rfl rfl (by decide) ?_
   simp only [go_sem, List.set_cons_succ, List.set_cons_zero]
   refine vO (i := 2) (j := 7) 107 1 rfl rfl (by decide) ?_
   simp only [go_sem, List.set_cons_succ, List.set_cons_zero]; refine wR ?_
   refine ⟨[(1, 3), (2, 4), (3, 5), (4, 6)], ?_⟩
   simp only [go_sem, AObj.bel, AObj.ren, AV.ren, aA, sg, h9, zStore, gE, zDisk, List.map_nil] <;> simp
 have hok : aM s = true := by simpa using hc1
 have hlog := ok_log hok
 have hq : s.up = true → 0 ≤ s.tree.seq ∧ s.tree.seq ≤ 100000 := fun hu => ⟨(okI_seq hok hu).1, (okI_seq hok hu).2.1⟩
 refine wk (k2 (sr rfl fun _ k5 => (ja ?_)))
 refine vC (fun hN => lstep_callFn [] 0 (xs := [stA s]) rfl rfl rfl rfl ⟨Tryz.func50, rfl, rfl⟩ hN (xG s keep hs (okI_lv hok) hlog (ok_safe hok)) rfl (by simp only [go_sem, stA]) (by simp only [go_sem, AV.ren, aA, storeAV_r] <;> rfl) (by simp only [go_sem, dN]) (mD (H1 := []) (.inl rfl) (by simp only [go_sem]) (by simp only [go_sem, AObj.bel]))) (.inl rfl) ?_
 simp only [go_sem, AV.ren, AObj.ren, aA, shift, sg, Nat.le_refl, Nat.add_zero, Nat.sub_self, stA]
 refine k5 (sq fun _ k6 => (aj ?_))
 refine cd rfl (fun hc2 => ?_) fun hc2 => ?_
 · have hf : ((fun s => brI s keep) s).2 = false := by simpa using hc2
   have h9 : sdI (fun s => brI s keep) s = (s, false) := by unfold sdI; rw [if_neg (by rw [hok]; simp), if_pos hf]
   refine sr rfl fun _ k8 => ja ?_
   refine vn 4 rfl rfl rfl ⟨Tryz.func69, rfl, rfl⟩ (pW s hs) (by simp only [go_sem, stA]) (by simp only [go_sem, stA]) (by simp) (by decide) ?_
   simp only [go_sem, AV.ren, AObj.ren, aA, shift, sg, Nat.le_refl, Nat.add_zero, Nat.sub_self]
   refine k8 (wR ?_)
   refine ⟨[(1, 4), (2, 5), (3, 6), (4, 7)], ?_⟩
   simp only [go_sem, AObj.bel, AObj.ren, AV.ren, aA, sg, h9] <;> simp
 have hf : ((fun s => brI s keep) s).2 = true := by simpa using hc2
 have h9 : sdI (fun s => brI s keep) s = (((fun s => brI s keep) s).1, true) := by unfold sdI; rw [if_neg (by rw [hok]; simp), if_neg (by rw [hf]; simp)]
 refine wk (k6 (sr rfl fun _ k9 => (ja ?_)))
 refine vn 4 rfl rfl rfl ⟨Tryz.func69, rfl, rfl⟩ (pW ((fun s => brI s keep) s).1 (brI_s hs keep)) (by simp only [go_sem, stA]) (by simp only [go_sem, stA]) (by simp) (by decide) ?_
 simp only [go_sem, AV.ren, AObj.ren, aA, shift, sg, Nat.le_refl, Nat.add_zero, Nat.sub_self]
 refine k9 (wR ?_)
 refine ⟨[(1, 4), (2, 5), (3, 6), (4, 7)], ?_⟩
 simp only [go_sem, AObj.bel, AObj.ren, AV.ren, aA, sg, h9] <;> simp
theorem rG (s : Store) (keep : Int) (hs : bM s) : aD P 21 [stA s, .raw (.int .i64 keep)] [] 0 (.agg [.raw (.bool (sdI (fun s => brI s keep) s).1.up), .raw (.int .i64 (sdI (fun s => brI s keep) s).1.tree.seq), .ref 0, .ref 1, .ref 2, .raw (.string (sdI (fun s => brI s keep) s).1.disk.log), .raw (.int .i64 (sdI (fun s => brI s keep) s).1.disk.safe), .ref 3, .raw (.int .i64 (sdI (fun s => brI s keep) s).1.disk.seq)]) [(0, .row 65 5 ((sdI (fun s => brI s keep) s).1.tree.mem.map enA)), (1, .row 107 1 ((sdI (fun s => brI s keep) s).1.tree.levels.map rsO)), (2, .row 3 1 ((sdI (fun s => brI s keep) s).1.tree.snaps.map inA)), (3, .row 107 1 ((sdI (fun s => brI s keep) s).1.disk.levels.map rsO))] 4 := by
 refine gq 14 [.cell 4 40] Tryz.func21 ?_
 simp only [stA]; refine aj ?_
 refine sr rfl fun _ k2 => ja ?_
 refine vg [(0, 1)] 4 rfl rfl rfl ⟨Tryz.func33, rfl, rfl⟩ (w_storeDo_b s keep hs) rfl (by simp only [go_sem, AV.ren, aA, sg, storeAV_r] <;> simp [stA, Abs.get]) (by simp only [go_sem, dN]) (fit1w (.inr ⟨1, rfl⟩) (by simp only [go_sem, sg, AObj.ren, AV.ren, aA] <;> simp [Abs.get]) (by simp only [go_sem, AObj.bel]) (by simp) rfl (by decide)) (.inr (by decide)) ?_
 simp only [go_sem, AV.ren, AObj.ren, aA, shift, sg, Nat.le_refl, Nat.add_zero, Nat.sub_self]
 refine k2 (aj (wR ?_))
 refine ⟨[(0, 3), (1, 4), (2, 5), (3, 6)], ?_⟩
 simp only [go_sem, AObj.bel, AObj.ren, AV.ren, aA, sg] <;> simp
def uK (s : Store) (k : Int) : Int := max s.disk.safe (min k (s.disk.log.size : Int))
def fallS (s : Store) (k : Int) : Store := ⟨false, gE, { s.disk with log := s.disk.log.extract 0 (uK s k).toNat, safe := uK s k }⟩
def brJ (s : Store) : Store := if (flS s).2 = true then { s with disk := { s.disk with levels := (flS s).1.disk.levels, seq := (flS s).1.disk.seq } } else s
def cJ (s : Store) (k : Int) : Store := if eA s = false then zStore else if s.up = false then aJ s else fallS (brJ (aJ s)) k
theorem brJ_disk (s : Store) : (brJ s).disk.safe = s.disk.safe ∧ (brJ s).disk.log = s.disk.log := by
  unfold brJ; split <;> exact ⟨rfl, rfl⟩
theorem flS_s {s : Store} (hs : bM s) : bM (flS s).1 := by
  unfold flS; split
  · exact hs
  split
  · exact hs
  exact ⟨zY hs.1, (zY hs.1).2.1⟩
theorem copyS_disk (s : Store) : (aJ s).disk = s.disk := by unfold aJ; split <;> rfl
theorem okI_safe {s : Store} (h : aM s = true) : 0 ≤ s.disk.safe ∧ s.disk.safe ≤ (s.disk.log.size : Int) := by
  have : nP s.disk = true := by
    unfold aM at h; split at h
    · cases h
    rename_i h1; simpa using h1
  unfold nP at this; split at this
  · cases this
  rename_i h1; omega
theorem w_spec_l1Min (a b : Int) : aB P 83 [.raw (.int .i64 a), .raw (.int .i64 b)] [] 0 (.raw (.int .i64 (min a b))) := by
 refine pq 10 [.tmp 4] Tryz.func83 ?_
 refine aj ?_
 refine sq fun _ k2 => aj ?_
 refine cd rfl (fun hc1 => ?_) fun hc1 => ?_
 · have h9 : min a b = a := Int.min_eq_left (by simp at hc1; omega)
   refine aj (wR ?_)
   refine fO ?_ trivial; simp only [go_sem, h9]
 have h9 : min a b = b := Int.min_eq_right (by simp at hc1; omega)
 refine wk (k2 (aj (wR ?_)))
 refine fO ?_ trivial; simp only [go_sem, h9]
theorem xT (s : Store) (k : Int) (h0 : 0 ≤ s.disk.safe) (h1 : s.disk.safe ≤ (s.disk.log.size : Int)) : aB P 49 [stA s, .raw (.int .i64 k)] [] 0 (stA (fallS s k)) := by
 refine pq 30 [.cell 4 40] Tryz.func49 ?_
 simp only [stA]; refine aj ?_
 refine sd mixed rfl fun _ k2 => ja ?_
 refine tp rfl rfl rfl ⟨Tryz.func83, rfl, rfl⟩ (w_spec_l1Min k (s.disk.log.size : Int)) (by simp only [go_sem]) (by simp only [go_sem]) ?_
 simp only [go_sem]
 refine tp rfl rfl rfl ⟨Tryz.func82, rfl, rfl⟩ (w_spec_l1Max s.disk.safe (min k (s.disk.log.size : Int))) (by simp only [go_sem]) (by simp only [go_sem]) ?_
 simp only [go_sem]; refine ⟨by rfl, ?_⟩
 refine k2 (aj ?_)
 refine aj ?_
 have hn : 0 ≤ uK s k ∧ uK s k ≤ (s.disk.log.size : Int) := by unfold uK; omega
 have hcn : max s.disk.safe (min k (s.disk.log.size : Int)) = uK s k := rfl
 try rw [hcn]
 refine sr rfl fun _ k5 => ja ?_
 refine ⟨⟨by omega, by omega, by omega⟩, ?_⟩
 refine k5 (aj ?_)
 refine aj ?_
 refine cG 0 (ds := [.raw (.bool false), .raw (.int .i64 0), .sl 5 [], .sl 1 [], .sl 1 [], .raw (.string (s.disk.log.extract 0 (uK s k).toNat)), .raw (.int .i64 (uK s k)), .sl 1 (s.disk.levels.map rsA), .raw (.int .i64 s.disk.seq)]) rfl (by repeat (first | exact LeL.nil | refine LeL.cons (by first | exact Le.refl _ | exact Le.nil _) ?_)) (by simp only [go_sem, Int.toNat_zero]) ?_
 simp only [go_sem]
 refine cG 1 (ds := [.raw (.bool false), .raw (.int .i64 0), .sl 5 [], .sl 1 [], .sl 1 [], .raw (.string (s.disk.log.extract 0 (uK s k).toNat)), .raw (.int .i64 (uK s k)), .sl 1 (s.disk.levels.map rsA), .raw (.int .i64 s.disk.seq)]) rfl (by repeat (first | exact LeL.nil | refine LeL.cons (by first | exact Le.refl _ | exact Le.nil _) ?_)) (by simp only [go_sem, Int.toNat_zero]) ?_
 simp only [go_sem]; refine wR ?_
 refine fO ?_ ⟨trivial, trivial, enB _ _, aF _ _, bE _ _, trivial, trivial, aF _ _, trivial, trivial⟩
 simp only [go_sem, fallS, gE, List.map_nil, Int.toNat_zero]
theorem w_spec_StoreBreak (s : Store) (k : Int) (hs : bM s) (hlg : s.disk.log.size ≤ 1048576) : aB P 20 [stA s, .raw (.int .i64 k)] [] 0 (stA (cJ s k)) := by
 refine pq 39 [.cell 4 40] Tryz.func20 ?_
 simp only [stA]; refine aj ?_
 refine sq fun _ k2 => sr rfl fun _ k3 => ja ?_
 refine vr rfl rfl rfl Tryz.func27 (w_spec_StoreOk s hs hlg) (by simp only [go_sem, stA]) (by simp only [go_sem, stA]) (k3 ?_)
 refine cd rfl (fun hc1 => ?_) fun hc1 => ?_
 · have hok : eA s = false := by simpa using hc1
   have h9 : cJ s k = zStore := by unfold cJ; rw [if_pos hok]
   refine aj ?_
   refine cG 1 (ds := [.raw (.bool false), .raw (.int .i64 0), .sl 5 [], .sl 1 [], .sl 1 [], .raw (.string ⟨#[]⟩), .raw (.int .i64 0), .sl 1 [], .raw (.int .i64 0)]) rfl (by repeat (first | exact LeL.nil | refine LeL.cons (by first | exact Le.refl _ | exact Le.nil _) ?_)) (by simp only [go_sem]) ?_
   simp only [go_sem]; refine wR ?_
   refine fO ?_ ⟨trivial, trivial, enB _ _, aF _ _, bE _ _, trivial, trivial, aF _ _, trivial, trivial⟩
   simp only [go_sem, h9, stA, zStore, gE, zDisk, List.map_nil]
 have hok : eA s = true := by simpa using hc1
 have hoi : aM s = true := by rw [tQ]; exact hok
 obtain ⟨g0, g1⟩ := okI_safe hoi
 have hf1 : 0 ≤ (brJ (aJ s)).disk.safe := by rw [(brJ_disk _).1, copyS_disk]; exact g0
 have hf2 : (brJ (aJ s)).disk.safe ≤ ((brJ (aJ s)).disk.log.size : Int) := by rw [(brJ_disk _).1, (brJ_disk _).2, copyS_disk]; exact g1
 have hcl : (aJ s).up = true → (aJ s).tree.levels.length = 3 := fun hu => by
   have hu2 : s.up = true := by
     unfold aJ at hu; split at hu
     · assumption
     exact hu
   have e : aJ s = s := by unfold aJ; rw [if_pos hu2]
   rw [e]
   exact okI_lv hoi hu2
 refine wk (k2 (sr rfl fun _ k5 => (ja ?_)))
 refine vs rfl rfl rfl Tryz.func29 (xV s hs) (by simp only [go_sem, stA]) (by simp only [go_sem, stA]) ?_
 simp only [go_sem, stA]
 refine k5 (sq fun _ k6 => (aj ?_))
 refine cd rfl (fun hc2 => ?_) fun hc2 => ?_
 · have hup : s.up = false := by simpa using hc2
   have h9 : cJ s k = aJ s := by unfold cJ; rw [if_neg (by rw [hok]; simp), if_pos hup]
   refine aj (wR ?_)
   refine fO ?_ ⟨trivial, trivial, enB _ _, aF _ _, bE _ _, trivial, trivial, aF _ _, trivial, trivial⟩
   simp only [go_sem, h9, stA]
 have hup : ¬ s.up = false := by simpa using hc2
 have h9 : cJ s k = fallS (brJ (aJ s)) k := by unfold cJ; rw [if_neg (by rw [hok]; simp), if_neg hup]
 refine wk (k6 (sr rfl fun _ k9 => (ja ?_)))
 refine vs rfl rfl rfl Tryz.func29 (xV s hs) (by simp only [go_sem, stA]) (by simp only [go_sem, stA]) ?_
 simp only [go_sem, stA]
 refine vs rfl rfl rfl Tryz.func44 (w_spec_l6Flush (aJ s) (copyS_s hs) hcl) (by simp only [go_sem, stA]) (by simp only [go_sem, stA]) ?_
 simp only [go_sem, stA]
 refine k9 (sq fun _ k10 => (aj ?_))
 refine cdS rfl (fun hc3 => ?_) fun hc3 => ?_
 · have hf : (flS (aJ s)).2 = false := by simpa using hc3
   have hbj : brJ (aJ s) = aJ s := by unfold brJ; rw [if_neg (by rw [hf]; simp)]
   refine wk (k10 (sr rfl fun _ k14 => (ja ?_)))
   refine vs rfl rfl rfl Tryz.func49 (xT (brJ (aJ s)) k hf1 hf2) (by simp only [go_sem, stA, hbj]) (by simp only [go_sem, stA, hbj]) ?_
   simp only [go_sem, stA]
   refine k14 (wR ?_)
   refine fO ?_ ⟨trivial, trivial, enB _ _, aF _ _, bE _ _, trivial, trivial, aF _ _, trivial, trivial⟩
   simp only [go_sem, h9, stA]
 have hf : (flS (aJ s)).2 = true := by simpa using hc3
 have hbj : brJ (aJ s) = { aJ s with disk := { (aJ s).disk with levels := (flS (aJ s)).1.disk.levels, seq := (flS (aJ s)).1.disk.seq } } := by unfold brJ; rw [if_pos hf]
 refine sr rfl fun _ k12 => ja ?_
 refine vq Tryz.func48 ((bX (bW (flS (aJ s)).1.disk.levels (flS_s (copyS_s hs)).2) (by simp only [go_sem]) (by simp only [go_sem]) : aB P 48 [.sl 1 ((flS (aJ s)).1.disk.levels.map rsA)] [] 0 (.sl 1 ((flS (aJ s)).1.disk.levels.map rsA)))) (k12 ?_)
 refine wg rfl ?_; simp only [go_sem]
 refine k10 (sr rfl fun _ k13 => (ja ?_))
 refine vs rfl rfl rfl Tryz.func49 (xT (brJ (aJ s)) k hf1 hf2) (by simp only [go_sem, stA, hbj]) (by simp only [go_sem, stA, hbj]) ?_
 simp only [go_sem, stA]
 refine k13 (wR ?_)
 refine fO ?_ ⟨trivial, trivial, enB _ _, aF _ _, bE _ _, trivial, trivial, aF _ _, trivial, trivial⟩
 simp only [go_sem, h9, stA]
theorem cut_eq {s : Store} (k : Int) (h : s.disk.safe ≤ (s.disk.log.size : Int)) : cutN s k = uK s k := by unfold cutN uK; omega
theorem fall_eq {s : Store} (k : Int) (h : s.disk.safe ≤ (s.disk.log.size : Int)) : fallI s k = fallS s k := by unfold fallI fallS; rw [cut_eq k h]
theorem okI_tree {s : Store} (h : aM s = true) (hu : s.up = true) : dG s.tree = true := by
  unfold aM at h; rw [if_pos hu] at h; split at h
  · cases h
  unfold upI at h; split at h
  · cases h
  rename_i hb
  unfold vT at hb
  simp only [Bool.or_eq_true, not_or] at hb
  have := hb.1.1; simpa using this
theorem okI_down {s : Store} (h : aM s = true) (hu : s.up = false) : aJ s = s := by
  rw [tQ] at h; unfold eA at h; split at h
  · cases h
  split at h
  · cases h
  simp only [hu, Bool.false_eq_true, if_false, Bool.and_eq_true] at h
  have ht := treeSame_eq h.1
  unfold aJ; rw [if_neg (by rw [hu]; simp), ← ht]
theorem br_eq {s : Store} (hu : s.up = true) (ht : dG s.tree = true) : brS s = brJ s := by
  unfold brS brJ fsI flS; simp only [hu, Bool.true_eq_false, if_false, flush_eq ht]
  cases hf : (cU s.tree).2 with
  | false => simp
  | true => simp [stDo]
theorem xI (s : Store) (k : Int) : (sdI (fun s => brI s k) s).1 = cJ s k := by
  unfold sdI cJ
  cases ho : aM s with
  | false => rw [← tQ, ho]; rfl
  | true =>
    rw [← tQ, ho]; simp only [Bool.true_eq_false, if_false]
    cases hu : s.up with
    | false =>
      have hb : brI s k = (s, false) := by unfold brI; rw [if_pos hu]
      rw [hb, if_pos rfl, if_pos rfl, okI_down ho hu]
    | true =>
      have hb : brI s k = (fallI (brS s) k, true) := by unfold brI; rw [if_neg (by rw [hu]; simp)]
      have hcp : aJ s = s := by unfold aJ; rw [if_pos hu]
      obtain ⟨d1, d2, _⟩ := brS_disk s
      obtain ⟨g0, g1⟩ := okI_safe ho
      rw [hb, if_neg (by simp), if_neg (by simp), hcp, ← br_eq hu (okI_tree ho hu), ← fall_eq k (by rw [d1, d2]; exact g1)]
end Go.Proofs.S
end
