/-
  The law FnExactBookPost answers true for every input, and leaves its arguments as they were: the tied card. Conditions: those of the given row and card, none of its own (the listed variable errors.errorType as the program's text lays it).
-/
import Derived.Test.YtfmiaofafefblaaDoorP5
import Derived.ProofKit
import Derived.Test.YtfmiaofafefblaaDoorRows
import Derived.LaidLaws
import Derived.LaidHandle
import Derived.Stop.Joined
import Derived.Test.YtfmiaofafefblaaDoorTie
import Derived.Test.YtfmiaofafefblaaDoorCards
import Derived.SevenTiedAt
set_option linter.all false

/- C20 -/
section
set_option linter.unusedVariables false
set_option linter.unusedSimpArgs false
open Go Go.Abs Go.Proofs
namespace Go.Proofs.T
set_option maxRecDepth 20000
attribute [local go_sem] legAV_bel legAV_ren postAV_bel postAV_ren legAV_elem postOwn_bel postOwn_ren
theorem fzL_leg (ls : List Leg) : fzL (ls.map legAV) = ls.map legAV := by rw [fzL_map]; rfl
theorem fzL_post (ps : List Post) : fzL (ps.map postOwn) = ps.map postAV := by
  rw [fzL_map]
  refine List.map_congr_left fun p _ => ?_
  show AV.agg [.raw _, .sl 3 (fzL (p.legs.map legAV))] = _
  rw [fzL_leg]; rfl
theorem noFz_leg (ls : List Leg) : noFzL (ls.map legAV) = true := noFzL_map legAV (fun _ => rfl) ls
theorem noFz_post (ps : List Post) : noFzL (ps.map postOwn) = true := noFzL_map postOwn (fun p => by
  show (true && (noFzL (p.legs.map legAV) && true)) = true
  rw [noFz_leg]; rfl) ps

theorem szLegs1_ok : ∀ (ls : List Leg) (n : Int), 0 ≤ n → ¬ szLegs1 ls n < 0 → ∀ l ∈ ls, (l.acct.size : Int) ≤ n
  | [], _, _, _, l, hl => by cases hl
  | x :: r, n, h0, h, l, hl => by
    unfold szLegs1 at h
    by_cases hx : szLeg x n < 0
    · rw [if_pos hx] at h; omega
    · rw [if_neg hx] at h
      have hle := szLeg_le x n h0
      rcases List.mem_cons.1 hl with e | e
      · subst e
        unfold szLeg at hx
        split at hx <;> omega
      · have := szLegs1_ok r (szLeg x n) (by omega) h l e
        omega
theorem szLegs_ok {ls : List Leg} {n : Int} (h0 : 0 ≤ n) (h1 : n ≤ 1048576) (h : ¬ szLegs ls n < 0) : ls.length ≤ 1048576 ∧ ∀ l ∈ ls, l.acct.size ≤ 1048576 := by
  unfold szLegs at h
  by_cases hx : n - (ls.length : Int) < 0
  · rw [if_pos hx] at h; omega
  · rw [if_neg hx] at h
    refine ⟨by omega, fun l hl => ?_⟩
    have := szLegs1_ok ls _ (by omega) h l hl
    omega
theorem szPost_ok {p : Post} {n : Int} (h0 : 0 ≤ n) (h1 : n ≤ 1048576) (h : ¬ szPost p n < 0) : smallP p := by
  unfold szPost at h
  by_cases hx : szLegs p.legs n < 0
  · rw [if_pos hx] at h; omega
  · exact szLegs_ok h0 h1 hx
theorem szPosts1_ok : ∀ (ls : List Post) (n : Int), 0 ≤ n → n ≤ 1048576 → ¬ szPosts1 ls n < 0 → ∀ l ∈ ls, smallP l
  | [], _, _, _, _, l, hl => by cases hl
  | x :: r, n, h0, h1, h, l, hl => by
    unfold szPosts1 at h
    by_cases hx : szPost x n < 0
    · rw [if_pos hx] at h; omega
    · rw [if_neg hx] at h
      have hle := szPost_le x n h0
      rcases List.mem_cons.1 hl with e | e
      · subst e; exact szPost_ok h0 h1 hx
      · exact szPosts1_ok r (szPost x n) (by omega) (by omega) h l e
theorem szPosts1_le : ∀ (ls : List Post) (n : Int), 0 ≤ n → szPosts1 ls n ≤ n
  | [], n, _ => Int.le_refl _
  | l :: r, n, h => by
    unfold szPosts1
    have h1 := szPost_le l n h
    split
    · omega
    · have := szPosts1_le r (szPost l n) (by omega); omega
theorem szPosts_ok {ls : List Post} (h : ¬ szPosts ls 1048576 < 0) : ls.length ≤ 1048576 ∧ (∀ l ∈ ls, smallP l) ∧ szPosts ls 1048576 ≤ 1048576 := by
  unfold szPosts at h ⊢
  by_cases hx : (1048576 : Int) - (ls.length : Int) < 0
  · rw [if_pos hx] at h; omega
  · rw [if_neg hx] at h ⊢
    have := szPosts1_le ls (1048576 - ls.length) (by omega)
    exact ⟨by omega, szPosts1_ok ls _ (by omega) (by omega) h, by omega⟩

theorem bookPost_small {b : List Post} {p : Post} (hb : b.length ≤ 1048576) (hs : ∀ q ∈ b, smallP q) (hp : smallP p) : (bookPost b p).1.length ≤ 1048576 ∧ ∀ q ∈ (bookPost b p).1, smallP q := by
  unfold bookPost
  by_cases h : (ledgerOf b).2 = true
  · have h40 : b.length ≤ 40 := by
      unfold ledgerOf at h
      by_cases h40 : 40 < b.length
      · rw [if_pos h40] at h; simp at h
      · omega
    rw [if_pos h]
    by_cases hc : chk (ledgerOf b).1 p = 0
    · rw [if_pos hc]
      refine ⟨by simp; omega, fun q hq => ?_⟩
      rcases List.mem_append.1 hq with e | e
      · exact hs q e
      · rw [List.mem_singleton.1 e]; exact hp
    · rw [if_neg hc]
      exact ⟨hb, hs⟩
  · rw [if_neg h]
    exact ⟨by simp, fun q hq => by cases hq⟩

theorem w22b (b : List Post) (p : Post) (hb : b.length ≤ 1048576) (hs : ∀ q ∈ b, smallP q) (hp : smallP p) : Gives P 22 [.sl 2 (b.map postAV), postAV p] [] 0 (.tup [.ref 0, .raw (.int .i64 (bookPost b p).2)]) [(0, .row 31 2 ((bookPost b p).1.map postOwn))] 1 := by
  have := w22 b p hb hs hp
  rw [spec_eq] at this
  exact this

theorem w9 (gob : Obj) (hgob : isG gob) (b : List Post) (p : Post) (hb0 : b.length ≤ 9223372036854775807) (hb1 : ∀ l ∈ b, l.legs.length ≤ 9223372036854775807 ∧ ∀ x ∈ l.legs, x.acct.size ≤ 9223372036854775807) (hp0 : p.legs.length ≤ 9223372036854775807) (hp1 : ∀ l ∈ p.legs, l.acct.size ≤ 9223372036854775807) : Pure P 9 [.sl 2 (b.map postAV), postAV p] (GH gob) 1 (.raw (.bool true)) := by  -- "loop.example/comptoir/laws.FnExactBookPost"
  refine pure_of_awp (fn := Tryd.f9) (N := 119) (vs := [.tmp 4]) ⟨Tryd.func9, rfl, rfl⟩ rfl rfl (by simp) ?_
  simp only [enumE, postAV, GH]
  refine awp_seq_k fun K1 hK1 => ?_
  refine awp_region rfl ?_  -- region 0
  simp only [go_sem, vcSeq, Nat.reduceAdd, Nat.reduceMul, Nat.reduceSub, Nat.reduceLeDiff, Nat.reduceEqDiff, Nat.reduceLT]
  apply hK1; clear hK1 K1
  refine awp_seq_k fun K2 hK2 => ?_
  refine awp_region rfl ?_  -- region 1
  simp only [go_sem, vcSeq, Nat.reduceAdd, Nat.reduceMul, Nat.reduceSub, Nat.reduceLeDiff, Nat.reduceEqDiff, Nat.reduceLT]
  apply hK2; clear hK2 K2
  refine awp_seq_k fun K3 hK3 => ?_
  refine awp_region rfl ?_  -- region 2
  simp only [go_sem, vcSeq, postAV, Nat.reduceAdd, Nat.reduceMul, Nat.reduceSub, Nat.reduceLeDiff, Nat.reduceEqDiff, Nat.reduceLT]
  refine vsem_call (fun hN => lstep_pure0 rfl rfl rfl ⟨Tryd.func25, rfl, rfl⟩ hN (w25 b 1048576 (by omega) (by omega) hb0 hb1) rfl ?_) (.inl rfl) ?_
  · simp only [go_sem, Nat.reduceAdd, Nat.reduceMul, Nat.reduceSub, Nat.reduceLeDiff, Nat.reduceEqDiff, Nat.reduceLT]
  simp only [go_sem, vcSeq, Nat.reduceAdd, Nat.reduceMul, Nat.reduceSub, Nat.reduceLeDiff, Nat.reduceEqDiff, Nat.reduceLT]
  apply hK3; clear hK3 K3
  refine awp_seq_k fun K4 hK4 => ?_
  refine awp_seq_k fun K5 hK5 => ?_
  refine awp_region rfl ?_  -- region 3
  simp only [go_sem, vcSeq, Nat.reduceAdd, Nat.reduceMul, Nat.reduceSub, Nat.reduceLeDiff, Nat.reduceEqDiff, Nat.reduceLT]
  apply hK5; clear hK5 K5
  refine awp_cond rfl ?_ ?_
  · intro hc1
    refine awp_seq_k fun K6 hK6 => ?_
    refine awp_region rfl ?_  -- region 4
    simp only [go_sem, vcSeq, Nat.reduceAdd, Nat.reduceMul, Nat.reduceSub, Nat.reduceLeDiff, Nat.reduceEqDiff, Nat.reduceLT]
    apply hK6; clear hK6 K6
    refine awp_ret ?_
    refine ⟨[], ?_⟩
    simp only [go_sem, AObj.bel, AObj.ren, AV.ren, renL, sg, Nat.reduceAdd, Nat.reduceMul, Nat.reduceSub, Nat.reduceLeDiff, Nat.reduceEqDiff, Nat.reduceLT] <;> simp
  · intro hc1
    have hsb := szPosts_ok (by simpa using hc1)
    have hsl : ∀ q ∈ b, q.legs.length ≤ 1048576 := fun q hq => (hsb.2.1 q hq).1
    have hge : ¬ szPosts b 1048576 < 0 := by simpa using hc1
    refine awp_skip ?_
    try simp only [athen]
    apply hK4; clear hK4 K4
    refine awp_seq_k fun K7 hK7 => ?_
    refine awp_region rfl ?_  -- region 5
    simp only [go_sem, vcSeq, postAV, Nat.reduceAdd, Nat.reduceMul, Nat.reduceSub, Nat.reduceLeDiff, Nat.reduceEqDiff, Nat.reduceLT]
    refine vsem_call (fun hN => lstep_pure0 rfl rfl rfl ⟨Tryd.func26, rfl, rfl⟩ hN (w26 p (szPosts b 1048576) (by omega) hsb.2.2 hp0 hp1) rfl ?_) (.inl rfl) ?_
    · simp only [go_sem, postAV]
    simp only [go_sem, vcSeq, Nat.reduceAdd, Nat.reduceMul, Nat.reduceSub, Nat.reduceLeDiff, Nat.reduceEqDiff, Nat.reduceLT]
    apply hK7; clear hK7 K7
    refine awp_seq_k fun K8 hK8 => ?_
    refine awp_seq_k fun K9 hK9 => ?_
    refine awp_region rfl ?_  -- region 6
    simp only [go_sem, vcSeq, Nat.reduceAdd, Nat.reduceMul, Nat.reduceSub, Nat.reduceLeDiff, Nat.reduceEqDiff, Nat.reduceLT]
    apply hK9; clear hK9 K9
    refine awp_cond rfl ?_ ?_
    · intro hc2
      refine awp_seq_k fun K10 hK10 => ?_
      refine awp_region rfl ?_  -- region 7
      simp only [go_sem, vcSeq, Nat.reduceAdd, Nat.reduceMul, Nat.reduceSub, Nat.reduceLeDiff, Nat.reduceEqDiff, Nat.reduceLT]
      apply hK10; clear hK10 K10
      refine awp_ret ?_
      refine ⟨[], ?_⟩
      simp only [go_sem, AObj.bel, AObj.ren, AV.ren, renL, sg, Nat.reduceAdd, Nat.reduceMul, Nat.reduceSub, Nat.reduceLeDiff, Nat.reduceEqDiff, Nat.reduceLT] <;> simp
    · intro hc2
      have hsp := szPost_ok (by omega) hsb.2.2 (by simpa using hc2)
      have hL := bookPost_small hsb.1 hsb.2.1 hsp
      have hLl : ∀ q ∈ (bookPost b p).1, q.legs.length ≤ 1048576 := fun q hq => (hL.2 q hq).1
      have hk1 := kEnd_le b 1 hsl
      have hk2 := kEnd_le (bookPost b p).1 1 hLl
      have hsb1 := hsb.1
      have hL1 := hL.1
      have hsp1 := hsp.1
      have hng1 : decide (kEnd b 1 + 3 * (p.legs.length : Int) < 0) = false := by simp; omega
      have hng2 : decide (kEnd (bookPost b p).1 1 < 0) = false := by simp; omega
      refine awp_skip ?_
      try simp only [athen]
      apply hK8; clear hK8 K8
      refine awp_seq_k fun K11 hK11 => ?_
      refine awp_draw mixed rfl ?_  -- region 8
      simp only [go_sem, vcDraw, Nat.reduceAdd, Nat.reduceMul, Nat.reduceSub, Nat.reduceLeDiff, Nat.reduceEqDiff, Nat.reduceLT]
      refine vtr_call (fun hN => lstep_gives (s := []) 1 rfl rfl rfl ⟨Tryd.func27, rfl, rfl⟩ hN (w27 b hsb.1 hsl) rfl (by simp only [go_sem, postAV, Nat.reduceEqDiff]) ?_ (fit_new (by simp) (by omega))) (.inr (by decide)) ?_
      · simp only [go_sem, postAV]
      simp only [go_sem, vcDraw, AV.ren, AObj.ren, renL, shift, sg, Nat.le_refl, Nat.add_zero, Nat.sub_self, Nat.reduceAdd, Nat.reduceMul, Nat.reduceSub, Nat.reduceLeDiff, Nat.reduceEqDiff, Nat.reduceLT]
      refine vtr_call (fun hN => lstep_gives (s := []) 1 rfl rfl rfl ⟨Tryd.func28, rfl, rfl⟩ hN (w28 p hsp.1) rfl (by simp only [go_sem, postAV, Nat.reduceEqDiff]) ?_ (fit_new (by simp) (by omega))) (.inr (by decide)) ?_
      · simp only [go_sem, postAV]
      simp only [go_sem, vcDraw, AV.ren, AObj.ren, renL, shift, sg, Nat.le_refl, Nat.add_zero, Nat.sub_self, Nat.reduceAdd, Nat.reduceMul, Nat.reduceSub, Nat.reduceLeDiff, Nat.reduceEqDiff, Nat.reduceLT]
      refine vtr_call (fun hN => lend_new (xs := [.ref 2, .agg [.raw (.int .i64 p.id), .ref 3]]) [2, 3] rfl rfl rfl ⟨Tryd.func22, rfl, rfl⟩ hN (w22b b p hsb.1 hsb.2.1 hsp) (by simp) (by omega) (by simp only [go_sem, Nat.reduceAdd, Nat.reduceMul, Nat.reduceSub, Nat.reduceLeDiff, Nat.reduceEqDiff, Nat.reduceLT]) (by simp [lend, lend1, lendL, Abs.get, fzL_post, fzL_leg, postAV]) (by simp [belL, AV.bel, postAV_bel, legAV_bel, postAV]) rfl (by simp [AObj.noFz, noFz_post, noFz_leg])) (.inr (by decide)) ?_
      simp only [go_sem, vcDraw, AV.ren, AObj.ren, renL, shift, sg, id, Nat.le_refl, Nat.add_zero, Nat.sub_self, Nat.reduceAdd, Nat.reduceMul, Nat.reduceSub, Nat.reduceLeDiff, Nat.reduceEqDiff, Nat.reduceLT]
      refine ⟨by rfl, ?_⟩
      apply hK11; clear hK11 K11
      refine awp_seq_k fun K12 hK12 => ?_
      refine awp_region rfl ?_  -- region 9
      simp only [go_sem, vcSeq, Nat.reduceAdd, Nat.reduceMul, Nat.reduceSub, Nat.reduceLeDiff, Nat.reduceEqDiff, Nat.reduceLT]
      refine vsem_call (fun hN => lstep_gives (s := []) 1 rfl rfl rfl ⟨Tryd.func27, rfl, rfl⟩ hN (w27 b hsb.1 hsl) rfl (by simp only [go_sem, postAV, Nat.reduceEqDiff]) ?_ (fit_new (by simp) (by omega))) (.inr (by decide)) ?_
      · simp only [go_sem, postAV]
      simp only [go_sem, vcSeq, AV.ren, AObj.ren, renL, shift, sg, Nat.le_refl, Nat.add_zero, Nat.sub_self, Nat.reduceAdd, Nat.reduceMul, Nat.reduceSub, Nat.reduceLeDiff, Nat.reduceEqDiff, Nat.reduceLT]
      apply hK12; clear hK12 K12
      refine awp_seq_k fun K13 hK13 => ?_
      refine awp_region rfl ?_  -- region 10
      simp only [go_sem, vcSeq, Nat.reduceAdd, Nat.reduceMul, Nat.reduceSub, Nat.reduceLeDiff, Nat.reduceEqDiff, Nat.reduceLT]
      refine vsem_call (fun hN => lstep_gives (s := []) 1 rfl rfl rfl ⟨Tryd.func28, rfl, rfl⟩ hN (w28 p hsp.1) rfl (by simp only [go_sem, postAV, Nat.reduceEqDiff]) ?_ (fit_new (by simp) (by omega))) (.inr (by decide)) ?_
      · simp only [go_sem, postAV]
      simp only [go_sem, vcSeq, AV.ren, AObj.ren, renL, shift, sg, Nat.le_refl, Nat.add_zero, Nat.sub_self, Nat.reduceAdd, Nat.reduceMul, Nat.reduceSub, Nat.reduceLeDiff, Nat.reduceEqDiff, Nat.reduceLT]
      apply hK13; clear hK13 K13
      refine awp_seq_k fun K14 hK14 => ?_
      refine awp_region rfl ?_  -- region 11
      simp only [go_sem, vcSeq, Nat.reduceAdd, Nat.reduceMul, Nat.reduceSub, Nat.reduceLeDiff, Nat.reduceEqDiff, Nat.reduceLT]
      refine vsem_call (fun hN => lend_g (xs := [.ref 5, .agg [.raw (.int .i64 p.id), .ref 6]]) (g := .other 0 gob) (nw := 1) [5, 6] rfl rfl rfl ⟨Tryd.func17, rfl, rfl⟩ hN (w17 gob hgob b p hsb.1 hsl hsp.1) rfl trivial (by simp) rfl (by omega) (by simp) (by simp only [go_sem, Nat.reduceAdd, Nat.reduceMul, Nat.reduceSub, Nat.reduceLeDiff, Nat.reduceEqDiff, Nat.reduceLT]) (by simp [lend, lend1, lendL, Abs.get, fzL_post, fzL_leg, postAV]) (by simp [belL, AV.bel, postAV_bel, legAV_bel, postAV]) rfl (by simp [AObj.noFz, noFz_post, noFz_leg])) (.inr (by decide)) ?_
      simp only [go_sem, vcSeq, AV.ren, AObj.ren, renL, shift, sg, id, Nat.le_refl, Nat.add_zero, Nat.sub_self, Nat.reduceAdd, Nat.reduceMul, Nat.reduceSub, Nat.reduceLeDiff, Nat.reduceEqDiff, Nat.reduceLT]
      apply hK14; clear hK14 K14
      refine awp_seq_k fun K15 hK15 => ?_
      refine awp_seq_k fun K16 hK16 => ?_
      refine awp_region rfl ?_  -- region 12
      simp only [go_sem, vcSeq, Nat.reduceAdd, Nat.reduceMul, Nat.reduceSub, Nat.reduceLeDiff, Nat.reduceEqDiff, Nat.reduceLT]
      refine vsem_call (fun hN => lend_pure (xs := [.ref 8, .ref 4]) [8, 4] rfl rfl rfl ⟨Tryd.func29, rfl, rfl⟩ hN (w29 (bookPost b p).1 hL.1 hLl) (by simp only [go_sem, Nat.reduceAdd, Nat.reduceMul, Nat.reduceSub, Nat.reduceLeDiff, Nat.reduceEqDiff, Nat.reduceLT]) (by simp [lend, lend1, lendL, Abs.get, fzL_post, fzL_leg, postAV]) (by simp [belL, AV.bel, postAV_bel, legAV_bel, postAV]) rfl) (.inl rfl) ?_
      simp only [go_sem, vcSeq, eq_self, decide_true, Bool.not_true, Nat.reduceAdd, Nat.reduceMul, Nat.reduceSub, Nat.reduceLeDiff, Nat.reduceEqDiff, Nat.reduceLT]
      apply hK16; clear hK16 K16
      refine awp_cond rfl (fun hc => by simp at hc) ?_
      intro hc3
      refine awp_skip ?_
      try simp only [athen]
      apply hK15; clear hK15 K15
      refine awp_seq_k fun K17 hK17 => ?_
      refine awp_seq_k fun K18 hK18 => ?_
      refine awp_region rfl ?_  -- region 14
      simp only [go_sem, vcSeq, Nat.reduceAdd, Nat.reduceMul, Nat.reduceSub, Nat.reduceLeDiff, Nat.reduceEqDiff, Nat.reduceLT]
      refine vsem_call (fun hN => lstep_gives (s := []) 1 rfl rfl rfl ⟨Tryd.func27, rfl, rfl⟩ hN (w27 b hsb.1 hsl) rfl (by simp only [go_sem, postAV, Nat.reduceEqDiff]) ?_ (fit_new (by simp) (by omega))) (.inr (by decide)) ?_
      · simp only [go_sem, postAV]
      simp only [go_sem, vcSeq, AV.ren, AObj.ren, renL, shift, sg, Nat.le_refl, Nat.add_zero, Nat.sub_self, Nat.reduceAdd, Nat.reduceMul, Nat.reduceSub, Nat.reduceLeDiff, Nat.reduceEqDiff, Nat.reduceLT]
      refine vsem_call (fun hN => lend_pure (xs := [.ref 5, .ref 9]) [5, 9] rfl rfl rfl ⟨Tryd.func29, rfl, rfl⟩ hN (w29 b hsb.1 hsl) (by simp only [go_sem, Nat.reduceAdd, Nat.reduceMul, Nat.reduceSub, Nat.reduceLeDiff, Nat.reduceEqDiff, Nat.reduceLT]) (by simp [lend, lend1, lendL, Abs.get, fzL_post, fzL_leg, postAV]) (by simp [belL, AV.bel, postAV_bel, legAV_bel, postAV]) rfl) (.inl rfl) ?_
      simp only [go_sem, vcSeq, Nat.reduceAdd, Nat.reduceMul, Nat.reduceSub, Nat.reduceLeDiff, Nat.reduceEqDiff, Nat.reduceLT]
      apply hK18; clear hK18 K18
      refine awp_cond rfl (fun hc => by simp at hc) ?_
      intro hc4
      refine awp_skip ?_
      try simp only [athen]
      apply hK17; clear hK17 K17
      refine awp_seq_k fun K19 hK19 => ?_
      refine awp_seq_k fun K20 hK20 => ?_
      refine awp_draw mixed rfl ?_  -- region 16
      simp only [go_sem, vcDraw, Nat.reduceAdd, Nat.reduceMul, Nat.reduceSub, Nat.reduceLeDiff, Nat.reduceEqDiff, Nat.reduceLT]
      refine vtr_call (fun hN => lstep_gives (s := []) 1 rfl rfl rfl ⟨Tryd.func28, rfl, rfl⟩ hN (w28 p hsp.1) rfl (by simp only [go_sem, postAV, Nat.reduceEqDiff]) ?_ (fit_new (by simp) (by omega))) (.inr (by decide)) ?_
      · simp only [go_sem, postAV]
      simp only [go_sem, vcDraw, AV.ren, AObj.ren, renL, shift, sg, Nat.le_refl, Nat.add_zero, Nat.sub_self, Nat.reduceAdd, Nat.reduceMul, Nat.reduceSub, Nat.reduceLeDiff, Nat.reduceEqDiff, Nat.reduceLT]
      refine vtr_call (fun hN => lend_pure (xs := [.agg [.raw (.int .i64 p.id), .ref 6], .agg [.raw (.int .i64 p.id), .ref 10]]) [6, 10] rfl rfl rfl ⟨Tryd.func30, rfl, rfl⟩ hN (w30 p hsp.1) (by simp only [go_sem, Nat.reduceAdd, Nat.reduceMul, Nat.reduceSub, Nat.reduceLeDiff, Nat.reduceEqDiff, Nat.reduceLT]) (by simp [lend, lend1, lendL, Abs.get, fzL_post, fzL_leg, postAV]) (by simp [belL, AV.bel, postAV_bel, legAV_bel, postAV]) rfl) (.inl rfl) ?_
      simp only [go_sem, vcDraw, Nat.reduceAdd, Nat.reduceMul, Nat.reduceSub, Nat.reduceLeDiff, Nat.reduceEqDiff, Nat.reduceLT]
      refine ⟨by rfl, ?_⟩
      apply hK20; clear hK20 K20
      refine awp_cond rfl (fun hc => by simp at hc) ?_
      intro hc5
      refine awp_skip ?_
      try simp only [athen]
      apply hK19; clear hK19 K19
      refine awp_seq_k fun K21 hK21 => ?_
      refine awp_region rfl ?_  -- region 18
      simp only [go_sem, vcSeq, Nat.reduceAdd, Nat.reduceMul, Nat.reduceSub, Nat.reduceLeDiff, Nat.reduceEqDiff, Nat.reduceLT]
      apply hK21; clear hK21 K21
      refine awp_seq_k fun K22 hK22 => ?_
      refine awp_region rfl ?_  -- region 19
      simp only [go_sem, vcSeq, Nat.reduceAdd, Nat.reduceMul, Nat.reduceSub, Nat.reduceLeDiff, Nat.reduceEqDiff, Nat.reduceLT]
      refine vsem_call (fun hN => lstep_gives (s := [(0, 5)]) 0 rfl rfl rfl ⟨Tryd.func31, rfl, rfl⟩ hN (w31 b 1 (by omega) hsl (by omega) (by omega)) rfl (by simp only [go_sem, renL, AV.ren, sg, Nat.reduceAdd, Nat.reduceMul, Nat.reduceSub, Nat.reduceLeDiff, Nat.reduceEqDiff, Nat.reduceLT]) ?_ (fit_one (by simp only [AObj.ren, postOwn_ren]; rfl) (postOwn_bel _ _))) (.inl rfl) ?_
      · simp only [go_sem, Nat.reduceLT]
      simp only [shift_zero, AObj.ren, AV.ren, legAV_ren, postOwn_ren, sg]
      simp only [go_sem, vcSeq, Nat.reduceAdd, Nat.reduceMul, Nat.reduceSub, Nat.reduceLeDiff, Nat.reduceEqDiff, Nat.reduceLT]
      apply hK22; clear hK22 K22
      refine awp_seq_k fun K23 hK23 => ?_
      refine awp_region rfl ?_  -- region 20
      simp only [go_sem, vcSeq, Nat.reduceAdd, Nat.reduceMul, Nat.reduceSub, Nat.reduceLeDiff, Nat.reduceEqDiff, Nat.reduceLT]
      refine vsem_call (fun hN => lstep_gives (s := [(0, 6)]) 0 rfl rfl rfl ⟨Tryd.func32, rfl, rfl⟩ hN (w32 p.id p.legs (kEnd b 1) hsp.1 (by omega) (by omega)) rfl (by simp only [go_sem, renL, AV.ren, sg, Nat.reduceAdd, Nat.reduceMul, Nat.reduceSub, Nat.reduceLeDiff, Nat.reduceEqDiff, Nat.reduceLT]) ?_ (fit_one (by simp only [AObj.ren, legAV_ren]; rfl) (legAV_bel _ _))) (.inl rfl) ?_
      · simp only [go_sem, Nat.reduceLT]
      simp only [shift_zero, AObj.ren, AV.ren, legAV_ren, postOwn_ren, sg]
      simp only [go_sem, vcSeq, Nat.reduceAdd, Nat.reduceMul, Nat.reduceSub, Nat.reduceLeDiff, Nat.reduceEqDiff, Nat.reduceLT]
      apply hK23; clear hK23 K23
      refine awp_seq_k fun K24 hK24 => ?_
      refine awp_seq_k fun K25 hK25 => ?_
      refine awp_region rfl ?_  -- region 21
      simp only [go_sem, vcSeq, hng1, Nat.reduceAdd, Nat.reduceMul, Nat.reduceSub, Nat.reduceLeDiff, Nat.reduceEqDiff, Nat.reduceLT]
      refine vsem_call (fun hN => lstep_guard hN rfl rfl rfl rfl (by simp only [go_sem, Nat.reduceAdd, Nat.reduceMul, Nat.reduceSub, Nat.reduceLeDiff, Nat.reduceEqDiff, Nat.reduceLT]) (fun _ => lend_pure (xs := [.ref 8, .ref 4]) [8, 4] rfl rfl rfl ⟨Tryd.func29, rfl, rfl⟩ hN (w29 (bookPost b p).1 hL.1 hLl) (by simp only [go_sem, Nat.reduceAdd, Nat.reduceMul, Nat.reduceSub, Nat.reduceLeDiff, Nat.reduceEqDiff, Nat.reduceLT]) (by simp [lend, lend1, lendL, Abs.get, fzL_post, fzL_leg, postAV]) (by simp [belL, AV.bel, postAV_bel, legAV_bel, postAV]) rfl) trivial) (.inl rfl) ?_
      simp only [go_sem, vcSeq, Nat.reduceAdd, Nat.reduceMul, Nat.reduceSub, Nat.reduceLeDiff, Nat.reduceEqDiff, Nat.reduceLT]
      apply hK25; clear hK25 K25
      refine awp_cond rfl (fun hc => by simp at hc) ?_
      intro hc6
      refine awp_skip ?_
      try simp only [athen]
      apply hK24; clear hK24 K24
      refine awp_seq_k fun K26 hK26 => ?_
      refine awp_region rfl ?_  -- region 23
      simp only [go_sem, vcSeq, Nat.reduceAdd, Nat.reduceMul, Nat.reduceSub, Nat.reduceLeDiff, Nat.reduceEqDiff, Nat.reduceLT]
      apply hK26; clear hK26 K26
      refine awp_seq_k fun K27 hK27 => ?_
      refine awp_region rfl ?_  -- region 24
      simp only [go_sem, vcSeq, Nat.reduceAdd, Nat.reduceMul, Nat.reduceSub, Nat.reduceLeDiff, Nat.reduceEqDiff, Nat.reduceLT]
      refine vsem_call (fun hN => lstep_gives (s := [(0, 8)]) 0 rfl rfl rfl ⟨Tryd.func31, rfl, rfl⟩ hN (w31 (bookPost b p).1 1 (by omega) hLl (by omega) (by omega)) rfl (by simp only [go_sem, renL, AV.ren, sg, Nat.reduceAdd, Nat.reduceMul, Nat.reduceSub, Nat.reduceLeDiff, Nat.reduceEqDiff, Nat.reduceLT]) ?_ (fit_one (by simp only [AObj.ren, postOwn_ren]; rfl) (postOwn_bel _ _))) (.inl rfl) ?_
      · simp only [go_sem, Nat.reduceLT]
      simp only [shift_zero, AObj.ren, AV.ren, legAV_ren, postOwn_ren, sg]
      simp only [go_sem, vcSeq, Nat.reduceAdd, Nat.reduceMul, Nat.reduceSub, Nat.reduceLeDiff, Nat.reduceEqDiff, Nat.reduceLT]
      apply hK27; clear hK27 K27
      refine awp_seq_k fun K28 hK28 => ?_
      refine awp_region rfl ?_  -- region 25
      simp only [go_sem, vcSeq, Nat.reduceAdd, Nat.reduceMul, Nat.reduceSub, Nat.reduceLeDiff, Nat.reduceEqDiff, Nat.reduceLT]
      apply hK28; clear hK28 K28
      refine awp_seq_k fun K29 hK29 => ?_
      refine awp_region rfl ?_  -- region 26
      simp only [go_sem, vcSeq, Nat.reduceAdd, Nat.reduceMul, Nat.reduceSub, Nat.reduceLeDiff, Nat.reduceEqDiff, Nat.reduceLT]
      refine vsem_call (fun hN => lend_pure (xs := [.ref 8, .raw (.int .i64 1)]) [8] rfl rfl rfl ⟨Tryd.func33, rfl, rfl⟩ hN (w33 (bookPost b p).1 1 (by omega) hLl (by omega) (by omega)) (by simp only [go_sem, Nat.reduceAdd, Nat.reduceMul, Nat.reduceSub, Nat.reduceLeDiff, Nat.reduceEqDiff, Nat.reduceLT]) (by simp [lend, lend1, lendL, Abs.get, fzL_post, fzL_leg, postAV]) (by simp [belL, AV.bel, postAV_bel, legAV_bel, postAV]) rfl) (.inl rfl) ?_
      simp only [go_sem, vcSeq, Nat.reduceAdd, Nat.reduceMul, Nat.reduceSub, Nat.reduceLeDiff, Nat.reduceEqDiff, Nat.reduceLT]
      apply hK29; clear hK29 K29
      refine awp_seq_k fun K30 hK30 => ?_
      refine awp_seq_k fun K31 hK31 => ?_
      refine awp_region rfl ?_  -- region 27
      simp only [go_sem, vcSeq, hng2, Nat.reduceAdd, Nat.reduceMul, Nat.reduceSub, Nat.reduceLeDiff, Nat.reduceEqDiff, Nat.reduceLT]
      apply hK31; clear hK31 K31
      refine awp_cond rfl (fun hc => by simp at hc) ?_
      intro hc7
      refine awp_skip ?_
      try simp only [athen]
      apply hK30; clear hK30 K30
      refine awp_seq_k fun K32 hK32 => ?_
      refine awp_seq_k fun K33 hK33 => ?_
      refine awp_region rfl ?_  -- region 29
      simp only [go_sem, vcSeq, eq_self, decide_true, Nat.reduceAdd, Nat.reduceMul, Nat.reduceSub, Nat.reduceLeDiff, Nat.reduceEqDiff, Nat.reduceLT]
      apply hK33; clear hK33 K33
      refine awp_cond rfl (fun hc => by simp at hc) ?_
      intro hc8
      refine awp_skip ?_
      try simp only [athen]
      apply hK32; clear hK32 K32
      refine awp_seq_k fun K34 hK34 => ?_
      refine awp_draw mixed rfl ?_  -- region 31
      simp only [go_sem, vcDraw, Nat.reduceAdd, Nat.reduceMul, Nat.reduceSub, Nat.reduceLeDiff, Nat.reduceEqDiff, Nat.reduceLT]
      refine vtr_call (fun hN => lstep_gives (s := []) 1 rfl rfl rfl ⟨Tryd.func27, rfl, rfl⟩ hN (w27 b hsb.1 hsl) rfl (by simp only [go_sem, postAV, Nat.reduceEqDiff]) ?_ (fit_new (by simp) (by omega))) (.inr (by decide)) ?_
      · simp only [go_sem, postAV]
      simp only [go_sem, vcDraw, AV.ren, AObj.ren, renL, shift, sg, Nat.le_refl, Nat.add_zero, Nat.sub_self, Nat.reduceAdd, Nat.reduceMul, Nat.reduceSub, Nat.reduceLeDiff, Nat.reduceEqDiff, Nat.reduceLT]
      refine vtr_call (fun hN => lstep_gives (s := []) 1 rfl rfl rfl ⟨Tryd.func28, rfl, rfl⟩ hN (w28 p hsp.1) rfl (by simp only [go_sem, postAV, Nat.reduceEqDiff]) ?_ (fit_new (by simp) (by omega))) (.inr (by decide)) ?_
      · simp only [go_sem, postAV]
      simp only [go_sem, vcDraw, AV.ren, AObj.ren, renL, shift, sg, Nat.le_refl, Nat.add_zero, Nat.sub_self, Nat.reduceAdd, Nat.reduceMul, Nat.reduceSub, Nat.reduceLeDiff, Nat.reduceEqDiff, Nat.reduceLT]
      refine vtr_call (fun hN => lend_g (xs := [.ref 11, .agg [.raw (.int .i64 p.id), .ref 12]]) (g := .other 0 gob) (nw := 1) [11, 12] rfl rfl rfl ⟨Tryd.func17, rfl, rfl⟩ hN (w17 gob hgob b p hsb.1 hsl hsp.1) rfl trivial (by simp) rfl (by omega) (by simp) (by simp only [go_sem, Nat.reduceAdd, Nat.reduceMul, Nat.reduceSub, Nat.reduceLeDiff, Nat.reduceEqDiff, Nat.reduceLT]) (by simp [lend, lend1, lendL, Abs.get, fzL_post, fzL_leg, postAV]) (by simp [belL, AV.bel, postAV_bel, legAV_bel, postAV]) rfl (by simp [AObj.noFz, noFz_post, noFz_leg])) (.inr (by decide)) ?_
      simp only [go_sem, vcDraw, AV.ren, AObj.ren, renL, shift, sg, id, Nat.le_refl, Nat.add_zero, Nat.sub_self, Nat.reduceAdd, Nat.reduceMul, Nat.reduceSub, Nat.reduceLeDiff, Nat.reduceEqDiff, Nat.reduceLT]
      refine ⟨by rfl, ?_⟩
      apply hK34; clear hK34 K34
      refine awp_seq_k fun K35 hK35 => ?_
      refine awp_seq_k fun K36 hK36 => ?_
      refine awp_region rfl ?_  -- region 32
      simp only [go_sem, vcSeq, Nat.reduceAdd, Nat.reduceMul, Nat.reduceSub, Nat.reduceLeDiff, Nat.reduceEqDiff, Nat.reduceLT]
      refine vsem_call (fun hN => lend_pure (xs := [.ref 13, .ref 4]) [13, 4] rfl rfl rfl ⟨Tryd.func29, rfl, rfl⟩ hN (w29 (bookPost b p).1 hL.1 hLl) (by simp only [go_sem, Nat.reduceAdd, Nat.reduceMul, Nat.reduceSub, Nat.reduceLeDiff, Nat.reduceEqDiff, Nat.reduceLT]) (by simp [lend, lend1, lendL, Abs.get, fzL_post, fzL_leg, postAV]) (by simp [belL, AV.bel, postAV_bel, legAV_bel, postAV]) rfl) (.inl rfl) ?_
      simp only [go_sem, vcSeq, eq_self, decide_true, Bool.not_true, Nat.reduceAdd, Nat.reduceMul, Nat.reduceSub, Nat.reduceLeDiff, Nat.reduceEqDiff, Nat.reduceLT]
      apply hK36; clear hK36 K36
      refine awp_cond rfl (fun hc => by simp at hc) ?_
      intro hc9
      refine awp_skip ?_
      try simp only [athen]
      apply hK35; clear hK35 K35
      refine awp_seq_k fun K37 hK37 => ?_
      refine awp_region rfl ?_  -- region 34
      simp only [go_sem, vcSeq, Nat.reduceAdd, Nat.reduceMul, Nat.reduceSub, Nat.reduceLeDiff, Nat.reduceEqDiff, Nat.reduceLT]
      apply hK37; clear hK37 K37
      refine awp_seq_k fun K38 hK38 => ?_
      refine awp_region rfl ?_  -- region 35
      simp only [go_sem, vcSeq, Nat.reduceAdd, Nat.reduceMul, Nat.reduceSub, Nat.reduceLeDiff, Nat.reduceEqDiff, Nat.reduceLT]
      refine vsem_call (fun hN => lend_pure (xs := [.ref 8, .raw (.int .i64 1)]) [8] rfl rfl rfl ⟨Tryd.func33, rfl, rfl⟩ hN (w33 (bookPost b p).1 1 (by omega) hLl (by omega) (by omega)) (by simp only [go_sem, Nat.reduceAdd, Nat.reduceMul, Nat.reduceSub, Nat.reduceLeDiff, Nat.reduceEqDiff, Nat.reduceLT]) (by simp [lend, lend1, lendL, Abs.get, fzL_post, fzL_leg, postAV]) (by simp [belL, AV.bel, postAV_bel, legAV_bel, postAV]) rfl) (.inl rfl) ?_
      simp only [go_sem, vcSeq, Nat.reduceAdd, Nat.reduceMul, Nat.reduceSub, Nat.reduceLeDiff, Nat.reduceEqDiff, Nat.reduceLT]
      apply hK38; clear hK38 K38
      refine awp_seq_k fun K39 hK39 => ?_
      refine awp_seq_k fun K40 hK40 => ?_
      refine awp_region rfl ?_  -- region 36
      simp only [go_sem, vcSeq, hng2, Nat.reduceAdd, Nat.reduceMul, Nat.reduceSub, Nat.reduceLeDiff, Nat.reduceEqDiff, Nat.reduceLT]
      apply hK40; clear hK40 K40
      refine awp_cond rfl (fun hc => by simp at hc) ?_
      intro hc10
      refine awp_skip ?_
      try simp only [athen]
      apply hK39; clear hK39 K39
      refine awp_seq_k fun K41 hK41 => ?_
      refine awp_seq_k fun K42 hK42 => ?_
      refine awp_region rfl ?_  -- region 38
      simp only [go_sem, vcSeq, eq_self, decide_true, Nat.reduceAdd, Nat.reduceMul, Nat.reduceSub, Nat.reduceLeDiff, Nat.reduceEqDiff, Nat.reduceLT]
      apply hK42; clear hK42 K42
      refine awp_cond rfl (fun hc => by simp at hc) ?_
      intro hc11
      refine awp_skip ?_
      try simp only [athen]
      apply hK41; clear hK41 K41
      refine awp_seq_k fun K43 hK43 => ?_
      refine awp_region rfl ?_  -- region 40
      simp only [go_sem, vcSeq, Nat.reduceAdd, Nat.reduceMul, Nat.reduceSub, Nat.reduceLeDiff, Nat.reduceEqDiff, Nat.reduceLT]
      apply hK43; clear hK43 K43
      refine awp_ret ?_
      refine ⟨[], ?_⟩
      simp only [go_sem, AObj.bel, AObj.ren, AV.ren, renL, sg, Nat.reduceAdd, Nat.reduceMul, Nat.reduceSub, Nat.reduceLeDiff, Nat.reduceEqDiff, Nat.reduceLT] <;> simp

end Go.Proofs.T
end

/- C21 -/
section
set_option linter.unusedVariables false
set_option linter.unusedSimpArgs false
open Go Go.Abs Go.Proofs
namespace Go.Proofs.T
set_option maxRecDepth 100000

section
variable {H : Type} {enc : TypeId × Value → H} {Q : Program} {w : World} {base : Nat} {sp : Nat → Bool} {held : Bool}

theorem cells_at {a : Addr} {n : Nat} {cs : List Value} (h : w.cells? base a n = some cs) : cs.length = n ∧ ∀ (k : Nat) (v : Value), cs[k]? = some v → w.cell? (a.add k) = some v := by
  unfold World.cells? at h
  split at h
  · have hl := mapM_some_length h
    refine ⟨by simpa using hl, fun k v hk => ?_⟩
    have hkl := (List.getElem?_eq_some_iff.1 hk).1
    have hkn : k < n := by have : cs.length = n := by simpa using hl
                           omega
    have := mapM_some_get h k k (by simp [hkn])
    rw [this]; exact hk
  · cases h

theorem add_none {a : Addr} (h : a.spot = none) (n : Nat) : a.add n = ⟨a.block, a.off + n, none⟩ := by
  unfold Addr.add
  split
  · rename_i e; subst e; cases a; simp at h; subst h; rfl
  · cases a; rfl
theorem cell_spot {a : Addr} {v : Value} (h : w.cell? a = some v) : a.spot = none ∧ ∃ cells t fr, w.heap[a.block]? = some (.cells cells t fr) ∧ cells[a.off]? = some v := by
  unfold World.cell? at h
  split at h
  · rename_i c t fr hh
    cases hs : a.spot with
    | none => rw [hs] at h; exact ⟨rfl, c, t, fr, hh, by simpa using h⟩
    | some s => rw [hs] at h; simp at h
  · cases h

/-- A slice as it is read, told. -/
theorem rep_sl {α : Type} (cl : α → List Value) (f : α → AV) (good : α → Prop) (sz : Nat) (hsz : 0 < sz) (hcl : ∀ x, (cl x).length = sz) {ρ : Nat → Value} {av : Nat → Prop} (hrep : ∀ x, good x → Rep ρ av w.heap (f x) (.agg (cl x).toArray))
    (hav : ∀ x, good x → ∀ a : Addr, (∀ k v, (cl x)[k]? = some v → w.cell? (a.add k) = some v) → ¬ av a.block) {a : Addr} {len cap : Nat} (hlc : len ≤ cap) (hcm : cap ≤ maxLen)
    (h : ∀ i, i < len → ∃ x, w.cells? base (a.add (i * sz)) sz = some (cl x) ∧ good x) :
    ∃ xs : List α, xs.length = len ∧ (∀ x ∈ xs, good x) ∧ Rep ρ av w.heap (.sl sz (xs.map f)) (.slice (some a) len cap) := by
  have hlist : ∀ n, n ≤ len → ∃ xs : List α, xs.length = n ∧ ∀ (i : Nat) (x : α), xs[i]? = some x → w.cells? base (a.add (i * sz)) sz = some (cl x) ∧ good x := by
    intro n
    induction n with
    | zero => exact fun _ => ⟨[], rfl, fun i x hi => by simp at hi⟩
    | succ n ih =>
      intro hn
      obtain ⟨xs, h1, h2⟩ := ih (by omega)
      obtain ⟨x, hx⟩ := h n (by omega)
      refine ⟨xs ++ [x], by simp [h1], fun i y hi => ?_⟩
      rcases Nat.lt_or_ge i n with h3 | h3
      · rw [List.getElem?_append_left (by omega)] at hi
        exact h2 i y hi
      · rw [List.getElem?_append_right (by omega)] at hi
        have hin : i = n := by
          have := (List.getElem?_eq_some_iff.1 hi).1
          simp at this
          omega
        subst hin
        rw [h1] at hi
        simp at hi
        subst hi
        exact hx
  obtain ⟨xs, h1, h2⟩ := hlist len (Nat.le_refl _)
  refine ⟨xs, h1, fun x hx => ?_, ?_⟩
  · obtain ⟨i, hi⟩ := List.getElem?_of_mem hx
    exact (h2 i x hi).2
  · rcases Nat.eq_zero_or_pos len with h0 | h0
    · have : xs = [] := List.eq_nil_of_length_eq_zero (by omega)
      subst this
      rw [h0]
      exact .sl0 sz (some a) cap hcm
    · obtain ⟨x0, hx0⟩ : ∃ x0, xs[0]? = some x0 := ⟨_, List.getElem?_eq_getElem (by omega)⟩
      have hcell : ∀ (i : Nat) (x : α), xs[i]? = some x → ∀ k v, (cl x)[k]? = some v → w.cell? ((a.add (i * sz)).add k) = some v := fun i x hi => (cells_at (h2 i x hi).1).2
      obtain ⟨v0, hv0⟩ : ∃ v0, (cl x0)[0]? = some v0 := ⟨_, List.getElem?_eq_getElem (by rw [hcl]; exact hsz)⟩
      have hc0 := hcell 0 x0 hx0 0 v0 hv0
      have h00 : (a.add (0 * sz)).add 0 = a := by simp [Addr.add]
      rw [h00] at hc0
      obtain ⟨hspot, cells, t, fr, hh, _⟩ := cell_spot hc0
      have hget : ∀ (i : Nat) (x : α), xs[i]? = some x → ∀ k v, (cl x)[k]? = some v → cells[a.off + i * sz + k]? = some v := fun i x hi k v hk => by
        have := hcell i x hi k v hk
        rw [add_none hspot, add_none rfl] at this
        obtain ⟨_, c2, t2, fr2, hh2, h3⟩ := cell_spot this
        have hh2' : w.heap[a.block]? = some (.cells c2 t2 fr2) := hh2
        rw [hh] at hh2'
        cases hh2'
        exact h3
      have hlen : (xs.map f).length = len := by rw [List.length_map, h1]
      have ha : a = ⟨a.block, a.off, none⟩ := by cases a; simp at hspot; subst hspot; rfl
      have hvals : ∀ (i : Nat) (x : α), xs[i]? = some x → ((xs[i]?).map fun x => Value.agg (cl x).toArray).getD undef = Value.agg (cl x).toArray := fun i x hi => by rw [hi]; rfl
      have hnb : ¬ av a.block := hav x0 (h2 0 x0 hx0).2 a fun k v hk => by
        have := hcell 0 x0 hx0 k v hk
        have he : (a.add (0 * sz)).add k = a.add k := by simp [Addr.add]
        rw [he] at this
        exact this
      have := Rep.sl (ρ := ρ) (av := av) (hp := w.heap) sz (xs.map f) a.block a.off cap cells t fr (fun i => ((xs[i]?).map fun x => Value.agg (cl x).toArray).getD undef) (by omega) (by omega) hcm hnb hh (fun j y hj => by
        rw [List.getElem?_map] at hj
        obtain ⟨x, hx, rfl⟩ := Option.map_eq_some_iff.1 hj
        show Rep ρ av w.heap (f x) (((xs[j]?).map fun x => Value.agg (cl x).toArray).getD undef)
        rw [hvals j x hx]
        exact hrep x (h2 j x hx).2) (fun j hj => by
        obtain ⟨x, hx⟩ : ∃ x, xs[j]? = some x := ⟨_, List.getElem?_eq_getElem (by omega)⟩
        show (((xs[j]?).map fun x => Value.agg (cl x).toArray).getD undef).cells.size = sz ∧ _
        rw [hvals j x hx]
        refine ⟨by simp [Value.cells, hcl], fun k hk => ?_⟩
        obtain ⟨v, hv⟩ : ∃ v, (cl x)[k]? = some v := ⟨_, List.getElem?_eq_getElem (by rw [hcl]; exact hk)⟩
        show cells[a.off + j * sz + k]? = (((xs[j]?).map fun x => Value.agg (cl x).toArray).getD undef).cells[k]?
        rw [hvals j x hx, hget j x hx k v hv]
        simp [Value.cells, hv])
      rw [hlen] at this
      rw [ha]
      exact this
end

/-! ### The law's arguments -/
section
variable {H : Type} {enc : TypeId × Value → H} {w : World} {base : Nat} {sp : Nat → Bool} {held : Bool}
theorem u110 : Tryd.prog.underlying 110 = some (.struct #[{ name := "Acct", type := 9, offset := 0, embedded := false, tag := "", pkgPath := "", byteOffset := 0 }, { name := "Cur", type := 3, offset := 1, embedded := false, tag := "", pkgPath := "", byteOffset := 16 },
        { name := "N", type := 3, offset := 2, embedded := false, tag := "", pkgPath := "", byteOffset := 24 }]) := by kernel_rfl
theorem u47 : Tryd.prog.underlying 47 = some (.struct #[{ name := "Id", type := 3, offset := 0, embedded := false, tag := "", pkgPath := "", byteOffset := 0 }, { name := "Legs", type := 45, offset := 1, embedded := false, tag := "", pkgPath := "", byteOffset := 8 }]) := by kernel_rfl
theorem u45 : Tryd.prog.underlying 45 = some (.slice 110) := by kernel_rfl
theorem u44 : Tryd.prog.underlying 44 = some (.slice 47) := by kernel_rfl
theorem u9 : Tryd.prog.underlying 9 = some .string := by kernel_rfl
theorem u3 : Tryd.prog.underlying 3 = some (.int .i64) := by kernel_rfl
theorem u4 : Tryd.prog.underlying 4 = some .bool := by kernel_rfl
theorem cO : Tryd.prog.cellsOf 110 = 3 ∧ Tryd.prog.cellsOf 47 = 2 ∧ Tryd.prog.cellsOf 9 = 1 ∧ Tryd.prog.cellsOf 3 = 1 ∧ Tryd.prog.cellsOf 45 = 1 := by refine ⟨?_, ?_, ?_, ?_, ?_⟩ <;> kernel_rfl

def legCl (l : Leg) : List Value := [.string l.acct, .int .i64 l.cur, .int .i64 l.n]
theorem leg_of {fuel : Nat} {cs : List Value} {x : DataW H × List MemPlace} (h : DataW.trod enc Tryd.prog w base sp held fuel 110 cs = some x) : ∃ l : Leg, cs = legCl l ∧ l.acct.size ≤ maxLen := by
  obtain ⟨xs, n, _, _, hl, hx, hf⟩ := DataW.trod_struct u110 h
  rw [cO.1] at hl
  match cs, hl with
  | [a, b, c], _ =>
    have f0 := hf 0 _ rfl
    have f1 := hf 1 _ rfl
    have f2 := hf 2 _ rfl
    change DataW.trod enc Tryd.prog w base sp held n 9 (([a, b, c].drop 0).take (Tryd.prog.cellsOf 9)) = xs[0]? at f0
    change DataW.trod enc Tryd.prog w base sp held n 3 (([a, b, c].drop 1).take (Tryd.prog.cellsOf 3)) = xs[1]? at f1
    change DataW.trod enc Tryd.prog w base sp held n 3 (([a, b, c].drop 2).take (Tryd.prog.cellsOf 3)) = xs[2]? at f2
    rw [cO.2.2.1] at f0
    rw [cO.2.2.2.1] at f1 f2
    simp only [List.drop_zero, List.drop_succ_cons, List.take_succ_cons, List.take_zero] at f0 f1 f2
    have hxl : xs.length = 3 := by simpa using hx
    rw [List.getElem?_eq_getElem (by omega)] at f0 f1 f2
    obtain ⟨s, hs, _, hsl⟩ := DataW.trod_string u9 f0
    obtain ⟨m, hm, _⟩ := DataW.trod_int u3 f1
    obtain ⟨k, hk, _⟩ := DataW.trod_int u3 f2
    simp at hs hm hk
    subst hs; subst hm; subst hk
    exact ⟨⟨s, m, k⟩, rfl, hsl⟩

theorem legs_of {fuel : Nat} {v : Value} {x : DataW H × List MemPlace} {ρ : Nat → Value} {av : Nat → Prop} (hav : ∀ b k v, av b → w.cell? ⟨b, k, none⟩ = some v → ∃ t u, v = .iface t u) (h : DataW.trod enc Tryd.prog w base sp held fuel 45 [v] = some x) :
    ∃ ls : List Leg, ls.length ≤ maxLen ∧ (∀ l ∈ ls, l.acct.size ≤ maxLen) ∧ Rep ρ av w.heap (.sl 3 (ls.map legAV)) v := by
  rcases DataW.trod_slice u45 h with ⟨h1, _⟩ | ⟨a, len, cap, elems, rest, n, _, h1, _, hb, hlc, hcm, hel, hi, _⟩
  · simp at h1
    subst h1
    exact ⟨[], Nat.zero_le _, by simp, .sl0 3 none 0 (Nat.zero_le _)⟩
  · injection h1 with h1 _
    subst h1
    rw [cO.1] at hi
    obtain ⟨ls, k1, k2, k3⟩ := rep_sl (w := w) (base := base) legCl legAV (fun l => l.acct.size ≤ maxLen) 3 (by omega) (fun _ => rfl) (ρ := ρ) (av := av) (fun l _ => .agg _ _ rfl fun j y hj => by
        match j, hj with
        | 0, hj => cases hj; exact .raw _
        | 1, hj => cases hj; exact .raw _
        | 2, hj => cases hj; exact .raw _
        | j + 3, hj => simp at hj) (fun l _ a ha hava => by
        have h0 := ha 0 (.string l.acct) rfl
        have e0 : a.add 0 = a := by simp [Addr.add]
        rw [e0] at h0
        obtain ⟨hs, _⟩ := cell_spot h0
        obtain ⟨t, u, e⟩ := hav a.block a.off _ hava (by rw [← h0]; congr 1; cases a; simp at hs; subst hs; rfl)
        cases e) hlc hcm (fun i hil => by
        have := hi i hil
        rw [List.getElem?_eq_getElem (by omega)] at this
        obtain ⟨cs, hcs, ht⟩ := Option.bind_eq_some_iff.1 this
        obtain ⟨l, rfl, hl⟩ := leg_of ht
        exact ⟨l, hcs, hl⟩)
    exact ⟨ls, by omega, k2, k3⟩

theorem post_of {fuel : Nat} {cs : List Value} {x : DataW H × List MemPlace} {ρ : Nat → Value} {av : Nat → Prop} (hav : ∀ b k v, av b → w.cell? ⟨b, k, none⟩ = some v → ∃ t u, v = .iface t u) (h : DataW.trod enc Tryd.prog w base sp held fuel 47 cs = some x) :
    ∃ (p : Post) (v : Value), cs = [.int .i64 p.id, v] ∧ p.legs.length ≤ maxLen ∧ (∀ l ∈ p.legs, l.acct.size ≤ maxLen) ∧ Rep ρ av w.heap (.sl 3 (p.legs.map legAV)) v := by
  obtain ⟨xs, n, _, _, hl, hx, hf⟩ := DataW.trod_struct u47 h
  rw [cO.2.1] at hl
  match cs, hl with
  | [a, b], _ =>
    have f0 := hf 0 _ rfl
    have f1 := hf 1 _ rfl
    change DataW.trod enc Tryd.prog w base sp held n 3 (([a, b].drop 0).take (Tryd.prog.cellsOf 3)) = xs[0]? at f0
    change DataW.trod enc Tryd.prog w base sp held n 45 (([a, b].drop 1).take (Tryd.prog.cellsOf 45)) = xs[1]? at f1
    rw [cO.2.2.2.1] at f0
    rw [cO.2.2.2.2] at f1
    simp only [List.drop_zero, List.drop_succ_cons, List.take_succ_cons, List.take_zero] at f0 f1
    have hxl : xs.length = 2 := by simpa using hx
    rw [List.getElem?_eq_getElem (by omega)] at f0 f1
    obtain ⟨m, hm, _⟩ := DataW.trod_int u3 f0
    obtain ⟨ls, k1, k2, k3⟩ := legs_of (ρ := ρ) (av := av) hav f1
    simp at hm
    subst hm
    exact ⟨⟨m, ls⟩, b, rfl, k1, k2, k3⟩

theorem posts_of {fuel : Nat} {v : Value} {x : DataW H × List MemPlace} {ρ : Nat → Value} {av : Nat → Prop} (hav : ∀ b k v, av b → w.cell? ⟨b, k, none⟩ = some v → ∃ t u, v = .iface t u) (h : DataW.trod enc Tryd.prog w base sp held fuel 44 [v] = some x) :
    ∃ ls : List Post, ls.length ≤ maxLen ∧ (∀ p ∈ ls, p.legs.length ≤ maxLen ∧ ∀ l ∈ p.legs, l.acct.size ≤ maxLen) ∧ Rep ρ av w.heap (.sl 2 (ls.map postAV)) v := by
  rcases DataW.trod_slice u44 h with ⟨h1, _⟩ | ⟨a, len, cap, elems, rest, n, _, h1, _, hb, hlc, hcm, hel, hi, _⟩
  · simp at h1
    subst h1
    exact ⟨[], Nat.zero_le _, by simp, .sl0 2 none 0 (Nat.zero_le _)⟩
  · injection h1 with h1 _
    subst h1
    rw [cO.2.1] at hi
    obtain ⟨ls, k1, k2, k3⟩ := rep_sl (w := w) (base := base) (α := Post × Value) (fun x => [.int .i64 x.1.id, x.2]) (fun x => postAV x.1) (fun x => x.1.legs.length ≤ maxLen ∧ (∀ l ∈ x.1.legs, l.acct.size ≤ maxLen) ∧ Rep ρ av w.heap (.sl 3 (x.1.legs.map legAV)) x.2) 2 (by omega) (fun _ => rfl) (ρ := ρ) (av := av) (fun x hx => .agg _ _ rfl fun j y hj => by
        match j, hj with
        | 0, hj => cases hj; exact .raw _
        | 1, hj => cases hj; exact hx.2.2
        | j + 2, hj => simp at hj) (fun x _ a ha hava => by
        have h0 := ha 0 (.int .i64 x.1.id) rfl
        have e0 : a.add 0 = a := by simp [Addr.add]
        rw [e0] at h0
        obtain ⟨hs, _⟩ := cell_spot h0
        obtain ⟨t, u, e⟩ := hav a.block a.off _ hava (by rw [← h0]; congr 1; cases a; simp at hs; subst hs; rfl)
        cases e) hlc hcm (fun i hil => by
        have := hi i hil
        rw [List.getElem?_eq_getElem (by omega)] at this
        obtain ⟨cs, hcs, ht⟩ := Option.bind_eq_some_iff.1 this
        obtain ⟨p, v, rfl, q1, q2, q3⟩ := post_of (ρ := ρ) (av := av) hav ht
        exact ⟨(p, v), hcs, q1, q2, q3⟩)
    refine ⟨ls.map (·.1), by rw [List.length_map]; omega, fun p hp => ?_, by rw [List.map_map]; exact k3⟩
    obtain ⟨q, hq, rfl⟩ := List.mem_map.1 hp
    exact ⟨(k2 q hq).1, (k2 q hq).2.1⟩
end
end Go.Proofs.T
end

/- C22 -/
section
set_option linter.unusedVariables false
set_option linter.unusedSimpArgs false
open Go Go.Abs Go.Proofs Go.ChangeShapes Go.WideShapes Go.RowKit
namespace Go.Proofs.T
set_option maxRecDepth 100000

theorem oKnob : ownKnob Tryd.prog.godebug = none := by kernel_rfl
theorem oLaid : laidOutB Tryd.prog = true := by kernel_rfl
theorem oEt : Tryd.prog.globalNamed "errors.errorType" = some 0 := by kernel_rfl
theorem oRt : (Tryd.prog.cutTypes.find? (·.1 == "internal/reflectlite.rtype")).map (·.2) = some 132 := by kernel_rfl
theorem oSize : Tryd.prog.types.size = 178 := by kernel_rfl
theorem oRow : ((List.range 178).filter fun t => Tryd.prog.rowNamed t [101, 114, 114, 111, 114]) = [76] := by kernel_rfl

/-- The one listed variable, as a walk needs it: its block. -/
theorem handle_of_laid {W : World} (h : laidMetH Tryd.prog [("errors.errorType", YtfmiaofafefblaaDoor.Rows.laid_errors_errorType)] W) : ∃ t fr, W.heap[0]? = some (.cells #[.iface 132 (.agg #[.pointer (some ⟨1, 76, none⟩)])] t fr) := by
  have h' : laidMet Tryd.prog [] W ∧ handlesMet Tryd.prog [("errors.errorType", YtfmiaofafefblaaDoor.Rows.laid_errors_errorType)] W := h
  obtain ⟨name, u, ty, e1, e2, e3, e4, e5⟩ := h'.2 _ (List.mem_singleton.2 rfl)
  have en : name = [101, 114, 114, 111, 114] := (Option.some.inj e1).symm
  subst en
  obtain rfl := Option.some.inj (oRt.symm.trans e2)
  have hm : ty ∈ (List.range 178).filter fun t => Tryd.prog.rowNamed t [101, 114, 114, 111, 114] := List.mem_filter.2 ⟨List.mem_range.2 (by rw [← oSize]; exact e3), e4⟩
  rw [oRow] at hm
  obtain rfl := List.mem_singleton.1 hm
  have hh : typeHandle Tryd.prog 76 = .pointer (some ⟨1, 76, none⟩) := by kernel_rfl
  rw [hh] at e5
  simp only [World.var?, oEt, Option.bind_some] at e5
  split at e5
  · rename_i cs t fr hb
    cases e5
    exact ⟨t, fr, hb⟩
  · cases e5

/-- A world that meets the condition. -/
noncomputable def laidWorld (os : Os) : World :=
  let w0 := World.holding Tryd.prog os ⟨#[], #[], []⟩
  { w0 with heap := w0.heap.modify 0 fun
      | .cells _ t frozen => .cells #[.iface 132 (.agg #[.pointer (some ⟨1, 76, none⟩)])] t frozen
      | o => o }
theorem laidWorld_met (os : Os) (args : Array Value) : laidMetH Tryd.prog [("errors.errorType", YtfmiaofafefblaaDoor.Rows.laid_errors_errorType)] ((laidWorld os).forCall (fun _ _ => 0) ⟨#[], args, []⟩).memory :=
  laidMetH_of_parts (laidMet_nil _ _) (by kernel_rfl)

theorem pars9 : Tryd.f9.params = #[44, 47] := by kernel_rfl
theorem ress9 : Tryd.f9.resultTypes = #[4] := by kernel_rfl

theorem readRec44 : Tryd.prog.readableRec 44 = true := by kernel_rfl
theorem readRec47 : Tryd.prog.readableRec 47 = true := by kernel_rfl

theorem law_lifted (os : Os) (started : os.Started) (H : Type) (enc : TypeId × Value → H) :
    ReturnsInHanded {} Tryd.checked os 9 .any (fun w args => (YtfmiaofafefblaaDoor.Rows.fnExactBookPostSpec.pre enc Tryd.prog Tryd.f9 [] false w args ∧ laidMetH Tryd.prog [("errors.errorType", YtfmiaofafefblaaDoor.Rows.laid_errors_errorType)] w) ∧
        sizedMet enc Tryd.prog Tryd.f9 (OpenSpec.ofChange YtfmiaofafefblaaDoor.Rows.fnExactBookPostSpec) false w args)
      (YtfmiaofafefblaaDoor.Rows.fnExactBookPostSpec.post enc Tryd.prog Tryd.f9 false true false false) := by
  refine returnsInHanded_of_change_and (C := Tryd.checked) (X := fun w _ => laidMetH Tryd.prog [("errors.errorType", YtfmiaofafefblaaDoor.Rows.laid_errors_errorType)] w) (fun _ _ _ hh h => h.of_heap hh) oKnob started (by kernel_rfl) Tryd.func9
    (ChangeSpec.witness_at (enc := enc) (C := Tryd.checked) (os := os) (X := fun w _ => laidMetH Tryd.prog [("errors.errorType", YtfmiaofafefblaaDoor.Rows.laid_errors_errorType)] w) false (laidWorld os) #[.slice none 0 0, .agg #[.int .i64 0, .slice none 0 0]] 8 rfl (by kernel_rfl) (by kernel_rfl) (by kernel_rfl) (by kernel_rfl) (by kernel_rfl) (laidWorld_met os _)) ?_
  intro W base args ds gs before hval0 hW _ _ hL _
  have hval : ∀ (j : Nat) t v, Tryd.f9.params[j]? = some t → args[j]? = some v → Value.okWide Tryd.prog W .any base t v := hval0
  have hW' := hW
  have hlt := hW.lt
  obtain ⟨p, q, hA0, hV0, rfl, _, _⟩ := hW
  have hA : DataW.TrodAll enc Tryd.prog W 0 (fun _ => true) true Tryd.f9.params.toList args.toList ds p := hA0
  have hV : DataW.TrodVars enc Tryd.prog W (fun _ => true) [] gs q := hV0
  rw [pars9] at hA hval
  obtain ⟨v0, v1, d0, d1, p0, p1, rfl, rfl, rfl, h0, h1⟩ := trodAll_two hA
  obtain ⟨rfl, rfl⟩ : gs = [] ∧ q = [] := by
    cases gs with
    | nil => exact ⟨rfl, hV⟩
    | cons g r => exact absurd hV (by intro h; cases h)
  obtain ⟨t, fr, hb0⟩ := handle_of_laid hL
  have hisG : isG (.cells #[.iface 132 (.agg #[.pointer (some ⟨1, 76, none⟩)])] t fr) := ⟨_, t, fr, rfl, rfl⟩
  generalize hgob : Obj.cells #[.iface 132 (.agg #[.pointer (some ⟨1, 76, none⟩)])] t fr = gob at hisG
  -- the walk's names
  let C : Conc := { ρ := fun _ => .pointer (some ⟨0, 0, none⟩), one := fun _ => rfl, own := fun _ => [0], X := fun _ => False, B := 0 }
  have hav : ∀ b k v, C.avoid (GH gob) b → W.cell? ⟨b, k, none⟩ = some v → ∃ t u, v = .iface t u := by
    rintro b k v (h | ⟨i, o, hi, hbi⟩) hc
    · exact h.elim
    · obtain rfl : b = 0 := by simpa [C] using hbi
      simp only [World.cell?, hb0] at hc
      rcases k with _ | k
      · simp at hc
        exact ⟨_, _, hc.symm⟩
      · simp at hc
  obtain ⟨f0, g0⟩ := id h0
  obtain ⟨f1, g1⟩ := id h1
  have k0 : v0.cells.toList = [v0] := by
    have := hval 0 44 v0 rfl rfl
    simp only [Value.okWide, u44] at this
    cases v0 <;> simp_all [Cell.okWide, Cell.ok, u44, Value.cells]
  obtain ⟨cs1, rfl, _⟩ : ∃ cs, v1 = .agg cs ∧ True := by
    have := hval 1 47 v1 rfl rfl
    simp only [Value.okWide, u47] at this
    obtain ⟨cs, e, _⟩ := this
    exact ⟨cs, e, trivial⟩
  rw [k0] at g0
  obtain ⟨b, hb1, hb2, hr0⟩ := posts_of (ρ := C.ρ) (av := C.avoid (GH gob)) hav g0
  obtain ⟨p, vl, he, hp1, hp2, hr1⟩ := post_of (ρ := C.ρ) (av := C.avoid (GH gob)) hav g1
  have he' : cs1 = #[.int .i64 p.id, vl] := by
    have : cs1.toList = [.int .i64 p.id, vl] := he
    cases cs1; simpa using this
  subst he'
  have hRH : RelH C (GH gob) (UU 1) W := {
    obj := fun i o hi => by
      have hi0 := hi
      simp only [GH, Abs.get] at hi
      split at hi
      · cases hi
        exact ⟨rfl, rfl, by rw [← hgob]; exact hb0⟩
      · cases hi
    apart := fun i j oi oj b hij hi hj _ _ => by
      simp only [GH, Abs.get] at hi hj
      split at hi <;> split at hj <;> first | omega | (cases hi; done) | (cases hj; done)
    xapart := fun i o b _ _ h => h
    xlt := fun b h => h.elim
    objb := fun i o hi => by
      simp only [GH, Abs.get] at hi
      split at hi
      · rename_i h; cases hi; subst h; exact ⟨.inl (by omega), trivial⟩
      · cases hi }
  refine ((w9 gob hisG b p hb1 hb2 hp1 hp2) C W #[v0, .agg #[.int .i64 p.id, vl]] hRH ⟨rfl, fun j x hj => ?_⟩ ?_).mono ?_
  · match j, hj with
    | 0, hj => cases hj; exact hr0
    | 1, hj =>
      cases hj
      refine .agg _ _ rfl fun j y hj => ?_
      match j, hj with
      | 0, hj => cases hj; exact .raw _
      | 1, hj => cases hj; exact hr1
      | j + 2, hj => simp at hj
    | j + 2, hj => simp at hj
  · exact ⟨postAV_bel _ _, ⟨trivial, legAV_bel _ _, trivial⟩, trivial⟩
  · rintro e W' ⟨v, r, H', n', C', rfl, hn, ⟨rfl, rfl, rfl⟩, hR, hS, hv, _⟩
    cases hv
    have hbelow : Below W.heap.size W W' := by
      refine ⟨hS.os, hS.tape, hS.output, hS.size, fun k hk => ?_⟩
      by_cases hk0 : k = 0
      · subst hk0
        have := hR.obj 0 (.other 0 gob) rfl
        rw [this.2.2, hb0, ← hgob]
      · refine hS.keep k hk ?_
        rintro ⟨i, o, hi, hbi⟩
        exact hk0 (by simpa [C] using hbi)
    have hl0 : ∀ x ∈ p0, x.block < W.heap.size := fun x hx => hlt x (by simp [hx])
    have hl1 : ∀ x ∈ p1, x.block < W.heap.size := fun x hx => hlt x (by simp [hx])
    refine ⟨_, rfl, [d0, d1], [], _, [], p0 ++ p1, [], hW', ?_, ?_, ?_, hbelow.frame _, fun h => by cases h⟩
    · exact trodAll_mk1 (shut_bool u4 true)
    · exact trodAll_mk2 (Below.trod oLaid readRec44 (of_decide_eq_true (by kernel_rfl)) h0 hbelow hl0) (Below.trod oLaid readRec47 (of_decide_eq_true (by kernel_rfl)) h1 hbelow hl1)
    · exact rfl

theorem f_holds : YtfmiaofafefblaaDoor.Rows.FnExactBookPostSaid :=
  OpenClaim.holds_of_wide 9 Tryd.f9 rfl rfl rfl rfl rfl rfl rfl ⟨rfl, rfl, rfl, rfl, rfl⟩ rfl rfl rfl rfl rfl (by kernel_rfl) Tryd.func9 (by kernel_rfl)
    (of_decide_eq_true (by kernel_rfl)) (by unfold Func.isWrapper; rw [if_neg (of_decide_eq_false (by kernel_rfl))]; exact ⟨rfl, rfl⟩)
    (fun os started H enc _ => law_lifted os started H enc)
end Go.Proofs.T
end

/- C23 -/
section
set_option linter.unusedVariables false
open Go
namespace Go.Proofs.YtfmiaofafefblaaDoor
set_option maxRecDepth 100000
theorem fnExactBookPost_card : Rows.FnExactBookPostCardSaid :=
  Claim7.holds_tied_plain_at .later [] [.handle] true (true, "4e83b6a504e0a01b38dae9076f55f346502941beaf54a75e1d4924e49e919014") true
    T.f_holds (fun _ h => by cases h) (by kernel_rfl) (fun _ h => by cases h) fnExactBookPost_row_tie rfl ⟨rfl, rfl⟩ (by kernel_rfl) rfl
    (fun f fn hf hfn => by
      obtain rfl : f = 9 := Option.some.inj ((show Tryd.prog.funcNamed "loop.example/comptoir/laws.FnExactBookPost" = some 9 by kernel_rfl).symm.trans hf) |>.symm
      obtain rfl : fn = Tryd.f9 := (Option.some.inj (Tryd.func9.symm.trans hfn)).symm
      exact ⟨by kernel_rfl, fun j t ht => by
        rw [T.pars9] at ht
        have h3 : t = 44 ∨ t = 47 := by
          rcases j with _ | _ | j
          · exact .inl (by simpa using ht.symm)
          · exact .inr (by simpa using ht.symm)
          · simp at ht
        rcases h3 with rfl | rfl
        · exact (show Tryd.prog.wantsStandIn 44 = false by kernel_rfl)
        · exact (show Tryd.prog.wantsStandIn 47 = false by kernel_rfl)⟩)
    (by kernel_rfl)
end Go.Proofs.YtfmiaofafefblaaDoor
end
