/-
  The law FnExactStoreWrite answers true for every input, and leaves its arguments as they were: the tied card. Conditions: those of the given row and card, none of its own (the listed variables as the program's text lays them).
-/
import Derived.Test.YthbibdnkiklemaaGreatDoorP6
import Derived.ProofKit
import Derived.Test.YthbibdnkiklemaaGreatDoorRows
import Derived.LaidLaws
import Derived.LaidHandle
import Derived.Stop.Joined
import Derived.Lay
import Derived.MakeChecks
import Derived.Test.YthbibdnkiklemaaGreatDoorTie
import Derived.Test.YthbibdnkiklemaaGreatDoorCards
import Derived.SevenTiedAt
set_option linter.all false
set_option maxRecDepth 100000
section
open Go Go.Abs Go.Proofs
namespace Go.Proofs.S
theorem entL_frStep (out : ByteArray) (e : Entry) : bL (frStep out e) = bL out ++ entL e := by
  unfold frStep entL; simp only [bL_app, numL, nsOf, List.flatMap_cons, List.flatMap_nil, List.append_assoc, List.append_nil]
theorem bodyTxt_L (ls : List Entry) : bL (bTx ls) = ls.flatMap entL := by
  have : ∀ (ls : List Entry) (out : ByteArray), bL (ls.foldl frStep out) = bL out ++ ls.flatMap entL := by
    intro ls
    induction ls with
    | nil => intro out; simp
    | cons e r ih => intro out; rw [List.foldl_cons, ih, entL_frStep, List.flatMap_cons, List.append_assoc]
  unfold bTx
  rw [this]; rfl
theorem entL_pos (e : Entry) : 1 ≤ (entL e).length := by
  unfold entL
  rw [List.length_append, List.length_append, aL, ByteArray.size_append, aU]; omega
theorem flat_len (r : List Entry) : r.length ≤ (r.flatMap entL).length := by
  induction r with
  | nil => simp
  | cons e r ih =>
    have := entL_pos e
    rw [List.flatMap_cons, List.length_append, List.length_cons]; omega
theorem innerI_at {s : ByteArray} : ∀ (r : List Entry) (f a : Nat) (out : List Entry), (∀ e ∈ r, cY e = true) → a ≤ s.size → Has s a (r.flatMap entL) → a + (r.flatMap entL).length = s.size → out.length + r.length ≤ 12 → r.length ≤ f → innerI s f a out = (out ++ r, true)
  | [], f, a, out, _, _, _, hl, _, _ => by
    rw [innerI_end (by simp at hl; omega), List.append_nil]
  | e :: r, 0, a, out, _, _, _, _, _, hf => by simp at hf
  | e :: r, f + 1, a, out, he, ha, hh, hl, h12, hf => by
    rw [List.flatMap_cons] at hh hl
    have hp := entL_pos e
    rw [List.length_append] at hl
    have h1 := eI_at (he e List.mem_cons_self) ha hh.split.1
    rw [List.length_cons] at h12 hf
    rw [innerI, if_pos (by omega), h1]
    have e1 : decide (12 ≤ (out.length : Int)) = false := decide_eq_false (by omega)
    simp only [e1, Bool.not_true, Bool.or_self, Bool.false_eq_true, if_false]
    rw [innerI_at r f _ _ (fun x hx => he x (List.mem_cons_of_mem _ hx)) (by omega) hh.split.2 (by omega) (by rw [List.length_append, List.length_singleton]; omega) (by omega)]
    simp
theorem bodyGo_at {s : ByteArray} : ∀ (r : List Entry) (f a : Nat) (out : List Entry), (∀ e ∈ r, cY e = true) → a ≤ s.size → Has s a (r.flatMap entL) → a + (r.flatMap entL).length = s.size → out.length + r.length ≤ 12 → r.length < f → bodyGo s f (a : Int) out = out ++ r
  | [], 0, a, out, _, _, _, _, _, hf => by simp at hf
  | [], f + 1, a, out, _, _, _, hl, _, _ => by
    simp at hl
    have e1 : decide ((a : Int) < (s.size : Int)) = false := decide_eq_false (by omega)
    rw [bodyGo, e1]; simp
  | e :: r, 0, a, out, _, _, _, _, _, hf => by simp at hf
  | e :: r, f + 1, a, out, he, ha, hh, hl, h12, hf => by
    rw [List.flatMap_cons] at hh hl
    have hp := entL_pos e
    rw [List.length_append] at hl
    have h1 := entS_at (he e List.mem_cons_self) ha hh.split.1
    rw [List.length_cons] at h12 hf
    rw [bodyGo, if_pos (by simp; omega), Int.toNat_natCast, h1]
    simp only
    rw [bodyGo_at r f _ _ (fun x hx => he x (List.mem_cons_of_mem _ hx)) (by omega) hh.split.2 (by omega) (by rw [List.length_append, List.length_singleton]; omega) (by omega)]
    simp
theorem Has.self (s : ByteArray) : Has s 0 (bL s) := by unfold Has; rw [List.drop_zero, List.take_length]
theorem inner_body {b : List Entry} (h : isB b = true) : innerI (bTx b) (bTx b).size 0 [] = (b, true) := by
  obtain ⟨h1, h2, h3⟩ := cC h
  have hs := Has.self (bTx b)
  have hl := aL (bTx b)
  rw [bodyTxt_L] at hs hl
  have hf := flat_len b
  rw [innerI_at b _ 0 [] h1 (Nat.zero_le _) hs (by omega) (by simpa using h3) (by omega)]; rfl
theorem bodyS_body {b : List Entry} (h : isB b = true) : bodyS (bTx b) = b := by
  obtain ⟨h1, h2, h3⟩ := cC h
  have hs := Has.self (bTx b)
  have hl := aL (bTx b)
  rw [bodyTxt_L] at hs hl
  have := bodyGo_at b 14 0 [] h1 (Nat.zero_le _) hs (by omega) (by simpa using h3) (by omega)
  unfold bodyS
  rw [show (0 : Int) = ((0 : Nat) : Int) from rfl, this]; rfl
theorem body_small {b : List Entry} (h : isB b = true) : (bTx b).size ≤ 1884 := by
  obtain ⟨h1, h2, h3⟩ := cC h
  have := frFold_size b ⟨#[]⟩ fun e he => by have := entOk_range (h1 e he); omega
  have h0 : (⟨#[]⟩ : ByteArray).size = 0 := rfl
  unfold bTx; omega
section
variable {b : List Entry} {s t : ByteArray} {a : Nat}
theorem frame_L (h : isB b = true) : bL (fTx b) = bL (dec ((bTx b).size : Int) ++ spB) ++ bL (bTx b) ++ [10] := by
  unfold fTx
  rw [if_pos h, bL_app, bL_app]; rfl
theorem frame_size (h : isB b = true) : (fTx b).size = (dec ((bTx b).size : Int)).size + 1 + (bTx b).size + 1 := by
  rw [← aL, frame_L h, List.length_append, List.length_append, aL, aL, ByteArray.size_append, aU]; rfl
theorem Has.extT (h : Has s a (bL t)) : s.extract a (a + t.size) = t := by
  have := h.ext
  rw [aL, bL_mk] at this; exact this
theorem bI_at (h : isB b = true) (ha : a ≤ s.size) (hh : Has s a (bL (fTx b))) : bI s a = (b, true, a + (fTx b).size) := by
  have hsm := body_small h
  have hx := hh.extT
  have hlen := hh.len ha
  rw [aL] at hlen
  rw [frame_size h] at hx hlen ⊢
  rw [frame_L h] at hh
  have hA := hh.split.1.split.1
  have hB := hh.split.1.split.2
  have hC := hh.split.2
  have hl : ∀ n, (bL (dec n ++ spB)).length = (dec n).size + 1 := fun n => by rw [aL, ByteArray.size_append, aU]
  simp only [List.length_append, hl, aL] at hB hC
  have h1 := nI_at (n := ((bTx b).size : Int)) ⟨by omega, by omega⟩ (dec_small ⟨by omega, by omega⟩) ha hA
  have h2 := tI_at (by omega) hB
  rw [aL, bL_mk] at h2
  have h3 := tI_at (by omega) hC
  rw [show ((([10] : List UInt8).length : Nat) : Int) = 1 from rfl, ← Nat.add_assoc a] at h3
  have hbad : bBad s a (a + ((dec ((bTx b).size : Int)).size + 1) + (bTx b).size + ([10] : List UInt8).length) b = false := by
    unfold bBad
    rw [h, show a + ((dec ((bTx b).size : Int)).size + 1) + (bTx b).size + ([10] : List UInt8).length = a + ((dec ((bTx b).size : Int)).size + 1 + (bTx b).size + 1) by simp only [List.length_singleton]; omega, hx]
    simp
  rw [List.length_singleton] at hbad; unfold bI; rw [h1]; simp only [if_true, h2, h3, inner_body h, hbad, Bool.false_eq_true, if_false, List.length_singleton]
  refine Prod.ext rfl (Prod.ext rfl ?_)
  show (_ : Nat) = _
  simp only
  omega
theorem frameS_at (h : isB b = true) (ha : a ≤ s.size) (hh : Has s a (bL (fTx b))) : aR s a = (b, ((a + (fTx b).size : Nat) : Int)) := by
  have hsm := body_small h
  have hx := hh.extT
  have hlen := hh.len ha
  rw [aL] at hlen
  rw [frame_size h] at hx hlen ⊢
  rw [frame_L h] at hh
  have hA := hh.split.1.split.1
  have hB := hh.split.1.split.2
  have hl : ∀ n, (bL (dec n ++ spB)).length = (dec n).size + 1 := fun n => by rw [aL, ByteArray.size_append, aU]
  simp only [hl] at hB
  have h1 := numAt_at (n := ((bTx b).size : Int)) ⟨by omega, by omega⟩ ha hA
  have hbx := hB.extT
  have hb : frameBadAt s a = false := by
    unfold frameBadAt; rw [h1]
    simp
    omega
  have hf : frBody s a = b := by
    unfold frBody; rw [h1]
    simp only
    rw [Int.toNat_natCast, ← Int.natCast_add, Int.toNat_natCast, hbx, bodyS_body h]
  unfold aR; rw [hb, hf, h1]; simp only [Bool.false_eq_true, if_false]
  have e : (((a + ((dec ((bTx b).size : Int)).size + 1) : Nat) : Int) + ((bTx b).size : Int) + 1) = ((a + ((dec ((bTx b).size : Int)).size + 1 + (bTx b).size + 1) : Nat) : Int) := by omega
  rw [e, Int.toNat_natCast, hx]
  simp
theorem Has.of_toList {a b : Nat} (h : t.toList = (s.extract a b).toList) (hab : a ≤ b) (hb : b ≤ s.size) : Has s a (bL t) := by
  have e : ∀ x : ByteArray, x.toList = bL x := fun x => by rw [ByteArray.toList_eq]; rfl
  rw [e, e] at h
  have hl := congrArg List.length h
  rw [aL, aL, extract_size s a b hb] at hl
  exact Has.of_ext h.symm (by rw [aL]; omega)
theorem frame_eq (s : ByteArray) (hs : s.size ≤ 1048576) (a : Nat) (ha : a ≤ s.size) : (0 ≤ (aR s a).2 ↔ (bI s a).2.1 = true) ∧ (0 ≤ (aR s a).2 → (bI s a).1 = (aR s a).1 ∧ (((bI s a).2.2 : Nat) : Int) = (aR s a).2) := by
  have hto : 0 ≤ (aR s a).2 → bI s a = ((aR s a).1, true, (aR s a).2.toNat) := fun h => by
    have hb := frameS_ok s hs a h
    have hg := frameS_gt s a h
    have hle := frameS_le s a
    have hh := Has.of_toList (frameS_txt s a h) (by omega) (by omega)
    have h1 := frameS_at hb ha hh
    rw [bI_at hb ha hh]; rw [Prod.ext_iff] at h1; simp only [Prod.mk.injEq, true_and]
    have h2 := h1.2
    simp only at h2
    omega
  have hfrom : (bI s a).2.1 = true → 0 ≤ (aR s a).2 := fun h => by
    have hg := bI_le (s := s) ha
    generalize hr : bI s a = r at h hg
    unfold bI at hr; split at hr
    · split at hr
      · split at hr
        · split at hr
          · split at hr
            · subst hr; cases h
            rename_i hbad
            subst hr; unfold bBad at hbad
            simp only [Bool.or_eq_true, Bool.not_eq_true', not_or, Bool.not_eq_false, beq_iff_eq] at hbad
            simp only at hg
            have hh := Has.of_toList hbad.2 (by omega) (by omega)
            rw [frameS_at hbad.1 ha hh]
            simp only; omega
          subst hr; cases h
        subst hr; cases h
      subst hr; cases h
    subst hr; cases h
  refine ⟨⟨fun h => by rw [hto h], hfrom⟩, fun h => ?_⟩
  rw [hto h]
  exact ⟨rfl, by simp only; omega⟩
end
theorem read_eq (s : ByteArray) (hs : s.size ≤ 1048576) : ∀ (f g a : Nat) (out : List (List Entry)), a ≤ s.size → s.size - a < f → s.size - a ≤ g → (readI s f a out).1 = (readGo s g a out).1 ∧ (((readI s f a out).2 : Nat) : Int) = (readGo s g a out).2
  | 0, g, a, out, _, hf, _ => by omega
  | f + 1, 0, a, out, ha, hf, hg => by
    have h1 := bI_le (s := s) ha
    have hno : ¬ (bI s a).2.1 = true := fun h => by have := h1.2.2 h; omega
    rw [readI, if_neg hno, readGo]
    exact ⟨rfl, rfl⟩
  | f + 1, g + 1, a, out, ha, hf, hg => by
    have h1 := bI_le (s := s) ha
    obtain ⟨h2, h3⟩ := frame_eq s hs a ha
    by_cases h : (bI s a).2.1 = true
    · have hp := h1.2.2 h
      have h0 := h2.2 h
      obtain ⟨e1, e2⟩ := h3 h0
      rw [readI, if_pos h, readGo, if_pos (by omega), if_neg (by omega), ← e1, ← e2, Int.toNat_natCast]
      exact read_eq s hs f g _ _ (by omega) (by omega) (by omega)
    have h0 : (aR s a).2 < 0 := by
      refine Int.not_le.1 fun h0 => h (h2.1 h0)
    rw [readI, if_neg h, readGo]; split
    · first | exact ⟨rfl, rfl⟩ | (rw [if_pos h0]; exact ⟨rfl, rfl⟩)
    exact ⟨rfl, rfl⟩
theorem readAll_1 (s : ByteArray) (hs : s.size ≤ 1048576) : (raI s).1 = (cN s).1 := (read_eq s hs _ _ 0 [] (Nat.zero_le _) (by omega) (by omega)).1
theorem readAll_2 (s : ByteArray) (hs : s.size ≤ 1048576) : (((raI s).2 : Nat) : Int) = (cN s).2 := (read_eq s hs _ _ 0 [] (Nat.zero_le _) (by omega) (by omega)).2
theorem open_eq {s : Store} (h : s.disk.log.size ≤ 1048576) : openI s = openS s := by
  unfold openI openS; rw [readAll_1 _ h, ← fg_mem]
theorem up_eq {s : Store} (h : s.disk.log.size ≤ 1048576) (hq : 0 ≤ s.disk.seq) : upI s = upS s := by
  have h2 := readAll_2 s.disk.log h
  have hb : upBadI s = upBad s := by
    unfold upBadI upBad; rw [treeOk_eq, show decide (s.disk.seq < 0) = false from decide_eq_false (by omega), Bool.or_false, decide_eq_decide.2 (show s.tree.levels = s.disk.levels ↔ s.disk.levels = s.tree.levels from ⟨Eq.symm, Eq.symm⟩)]
  unfold upI upS; rw [hb, readAll_1 _ h, ← fg_mem, h2]; split
  · rfl
  split
  · rename_i hn
    rw [decide_eq_false hn]; rfl
  rename_i hn
  rw [decide_eq_true (Classical.not_not.1 hn), Bool.true_and, Bool.and_comm]
theorem dkOk_eq (d : Disk) (s : Store) (hs : s.disk = d) : dkOkI d = (!diskBad s && bU ⟨d.seq, [], d.levels, []⟩) := by
  subst hs; unfold dkOkI diskBad; rw [treeOk_eq]; split
  · rename_i h
    have e : ((decide (12000 < (s.disk.log.size : Int)) || decide (s.disk.safe < 0)) || decide ((s.disk.log.size : Int) < s.disk.safe)) = true := by
      simp only [Bool.or_eq_true, decide_eq_true_eq]; omega
    rw [e]; rfl
  rename_i h
  have e : ((decide (12000 < (s.disk.log.size : Int)) || decide (s.disk.safe < 0)) || decide ((s.disk.log.size : Int) < s.disk.safe)) = false := by
    simp only [Bool.or_eq_false_iff, decide_eq_false_iff_not]; omega
  rw [e]; rfl
theorem treeOk_seq {t : Tree} (h : bU t = true) : 0 ≤ t.seq := by
  unfold bU at h; split at h
  · cases h
  rename_i hb
  simp [treeBadS] at hb
  omega
theorem storeOk_eq (s : Store) : bV s = bJ s := by
  have hd := dkOk_eq s.disk s rfl
  unfold bV bJ; rw [hd]
  cases h1 : diskBad s with
  | true => rfl
  | false =>
    cases h2 : bU ⟨s.disk.seq, [], s.disk.levels, []⟩ with
    | false => rfl
    | true =>
      have hq : 0 ≤ s.disk.seq := treeOk_seq h2
      have hl : s.disk.log.size ≤ 12000 := by
        simp [diskBad] at h1; omega
      simp only [Bool.not_false, Bool.and_self, Bool.true_eq_false, Bool.false_eq_true, if_false]; split
      · exact up_eq (by omega) hq
      have ho := open_eq (s := s) (by omega)
      have hol := openS_lg s hl
      have hdo := dkOk_eq (openS s).disk (openS s) rfl
      have hq2 : (openS s).disk.seq = s.disk.seq := rfl
      have hlv : (openS s).disk.levels = s.disk.levels := rfl
      have hsf : (openS s).disk.safe = ((openS s).disk.log.size : Int) := rfl
      have hb : diskBad (openS s) = false := by
        unfold diskBad; rw [hsf]
        simp only [Bool.or_eq_false_iff, decide_eq_false_iff_not]; omega
      rw [hb, hq2, hlv, h2] at hdo; unfold okUpI
      rw [ho, hdo, if_neg (by decide), up_eq (by omega) (by rw [hq2]; exact hq)]
theorem treeSame_eq {a b : Tree} (h : treeSame a b = true) : a = b := by
  unfold treeSame at h
  simp only [Bool.and_eq_true, decide_eq_true_eq] at h
  cases a; cases b
  simp only at h
  obtain ⟨⟨⟨rfl, rfl⟩, rfl⟩, rfl⟩ := h
  rfl
theorem sw_eq {s : Store} {b : List Entry} (h : bU s.tree = true) (hu : s.up = true) : (swI s b).2 = (write6S s b).2 ∧ ((swI s b).2 = true → swI s b = write6S s b) := by
  have he := stmpI_eq s.tree.seq b
  unfold swI write6S write6Bad; rw [treeWI_eq b h, hu, if_neg (by decide)]
  cases hw : (writeS s.tree b).2 with
  | false => exact ⟨rfl, fun h => by cases h⟩
  | true =>
    have hst : (aI b s.tree.seq).2 = true := by
      unfold writeS at hw; split at hw
      · cases hw
      rename_i hb
      simp [writeBad] at hb
      exact hb.1
    have h1 := he.2 hst
    rw [h1, if_neg (by decide)]
    show (if 12000 < ((s.disk.log ++ fTx (aI b s.tree.seq).1).size : Int) then (s, false) else _).2 = _ ∧ _
    by_cases hc : 12000 < ((s.disk.log ++ fTx (aI b s.tree.seq).1).size : Int)
    · have e : decide (12000 < ((s.disk.log ++ fTx (aI b s.tree.seq).1).size : Int)) = true := decide_eq_true hc
      rw [if_pos hc, e]
      refine ⟨rfl, fun h => ?_⟩
      have h' : (if 12000 < ((s.disk.log ++ fTx (aI b s.tree.seq).1).size : Int) then (s, false) else (⟨true, (writeS s.tree b).1, stDo s.disk (.log (fTx (aI b s.tree.seq).1))⟩, true) : Store × Bool).2 = true := h
      rw [if_pos hc] at h'; cases h'
    have e : decide (12000 < ((s.disk.log ++ fTx (aI b s.tree.seq).1).size : Int)) = false := decide_eq_false hc
    rw [if_neg hc, e]
    refine ⟨rfl, fun _ => ?_⟩
    show (if 12000 < ((s.disk.log ++ fTx (aI b s.tree.seq).1).size : Int) then (s, false) else _) = _
    rw [if_neg hc]; rfl
theorem storeWrite_eq (s : Store) (b : List Entry) : sdI (fun s => swI s b) s = bD s b := by
  unfold sdI bD; rw [storeOk_eq]
  cases ho : bJ s with
  | false => rfl
  | true =>
    simp only [Bool.true_eq_false, if_false]; unfold bJ at ho; split at ho
    · cases ho
    split at ho
    · cases ho
    by_cases hu : s.up = true
    · rw [if_pos hu] at ho
      have ht : bU s.tree = true := by
        unfold upS at ho; split at ho
        · cases ho
        rename_i hb
        simp [upBad] at hb
        exact hb.1.1.1
      have hcp : copyS s = s := by unfold copyS; rw [if_pos hu]
      obtain ⟨h1, h2⟩ := sw_eq (b := b) ht hu
      rw [hcp, ← h1]
      cases hx : (swI s b).2 with
      | false => rfl
      | true => rw [h2 hx]
    rw [if_neg hu] at ho
    simp only [Bool.and_eq_true] at ho
    have ht := treeSame_eq ho.1
    have hcp : copyS s = s := by unfold copyS; rw [if_neg hu, ← ht]
    have e1 : swI s b = (s, false) := by unfold swI; rw [if_pos (by simpa using hu)]
    have e2 : (write6S s b).2 = false := by
      unfold write6S write6Bad
      have : s.up = false := by simpa using hu
      rw [this]; rfl
    rw [hcp, e2]; simp only [e1, if_true]
theorem szGo_ok {α : Type} {f : α → Int → Int} (hf : ∀ x n, 0 ≤ n → Lq (f x n) n) : ∀ (ls : List α) (n : Int), 0 ≤ n → 0 ≤ szGo f ls n → ∀ x ∈ ls, ∃ m, 0 ≤ m ∧ m ≤ n ∧ 0 ≤ f x m
  | [], _, _, _, x, hx => by cases hx
  | y :: r, n, h0, h, x, hx => by
    unfold szGo at h
    have hl := hf y n h0
    unfold Lq at hl; split at h
    · omega
    rename_i hy
    rcases List.mem_cons.1 hx with rfl | h1
    · exact ⟨n, h0, Int.le_refl _, by omega⟩
    obtain ⟨m, a, b, c⟩ := szGo_ok hf r (f y n) (by omega) h x h1
    exact ⟨m, a, by omega, c⟩
theorem szL_ok {α : Type} {f : α → Int → Int} (hf : ∀ x n, 0 ≤ n → Lq (f x n) n) {ls : List α} {n : Int} (h : 0 ≤ szL f ls n) : (ls.length : Int) ≤ n ∧ ∀ x ∈ ls, ∃ m, 0 ≤ m ∧ m ≤ n ∧ 0 ≤ f x m := by
  unfold szL at h; split at h
  · omega
  refine ⟨by omega, fun x hx => ?_⟩
  obtain ⟨m, a, b, c⟩ := szGo_ok hf ls _ (by omega) h x hx
  exact ⟨m, a, by omega, c⟩
theorem kGo_sz {α : Type} {f : α → Int → Int} {g : α → Int → Int} (hf : ∀ x n, 0 ≤ n → Lq (f x n) n) (hg : ∀ x n k, 0 ≤ n → 0 ≤ f x n → g x k ≤ k + 5 + 5 * (n - f x n)) : ∀ (ls : List α) (n k : Int), 0 ≤ n → 0 ≤ szGo f ls n → kGo g ls k ≤ k + 5 * (ls.length : Int) + 5 * (n - szGo f ls n)
  | [], n, k, _, _ => by simp [kGo, szGo]
  | x :: r, n, k, h0, h => by
    unfold szGo at h ⊢
    have hl := hf x n h0
    unfold Lq at hl; split at h
    · omega
    rename_i hx
    have h1 := hg x n k h0 (by omega)
    have h2 := kGo_sz hf hg r (f x n) (g x k) (by omega) h
    rw [if_neg hx]; simp only [kGo, List.length_cons]; omega
theorem kL_sz {α : Type} {f : α → Int → Int} {g : α → Int → Int} (hf : ∀ x n, 0 ≤ n → Lq (f x n) n) (hg : ∀ x n k, 0 ≤ n → 0 ≤ f x n → g x k ≤ k + 5 + 5 * (n - f x n)) (ls : List α) (n k : Int) (h : 0 ≤ szL f ls n) : kGo g ls k ≤ k + 5 * (n - szL f ls n) := by
  unfold szL at h ⊢
  split at h
  · omega
  rename_i hx
  have := kGo_sz hf hg ls _ k (by omega) h
  rw [if_neg hx]; omega
theorem kEnts_sz (ls : List Entry) (n k : Int) (h : 0 ≤ szEntryS ls n) : kGo stE ls k ≤ k + 5 * (n - szEntryS ls n) :=
  kL_sz szEntry_le (fun x n k h0 _ => by have := szEntry_le x n h0; unfold Lq at this; unfold stE; omega) ls n k h
theorem kRun_sz (r : Run) (n k : Int) (h : 0 ≤ szRun r n) : stR r k ≤ k + 5 + 5 * (n - szRun r n) := by
  unfold szRun at h ⊢
  split at h
  · omega
  rename_i hx
  have := kEnts_sz r.ents n k h
  rw [if_neg hx]; unfold stR; omega
theorem sEnts_sz {ls : List Entry} {n : Int} (hn : n ≤ 1048576) (h : 0 ≤ szEntryS ls n) : sEnts ls := by
  obtain ⟨h1, h2⟩ := szL_ok szEntry_le h
  refine ⟨by omega, fun e he => ?_⟩
  obtain ⟨m, a, b, c⟩ := h2 e he
  unfold szEntry at c
  split at c
  · omega
  split at c
  · omega
  exact ⟨by omega, by omega⟩
theorem kRuns_sz (rs : List Run) (n k : Int) (h : 0 ≤ szRunS rs n) : kGo stR rs k ≤ k + 5 * (n - szRunS rs n) := kL_sz szRun_le (fun x n k _ h => kRun_sz x n k h) rs n k h
theorem sRun_sz {r : Run} {n : Int} (hn : n ≤ 1048576) (h : 0 ≤ szRun r n) : sEnts r.ents := by
  unfold szRun at h; split at h
  · omega
  exact sEnts_sz hn h
theorem sRuns_sz {rs : List Run} {n : Int} (hn : n ≤ 1048576) (h : 0 ≤ szRunS rs n) : sRuns rs := by
  obtain ⟨h1, h2⟩ := szL_ok szRun_le h
  refine ⟨by omega, fun r hr => ?_⟩
  obtain ⟨m, a, b, c⟩ := h2 r hr
  exact sRun_sz (by omega) c
theorem sLvs_sz {ls : List (List Run)} {n : Int} (hn : n ≤ 1048576) (h : 0 ≤ szRunSS ls n) : sLvs ls := by
  obtain ⟨h1, h2⟩ := szL_ok szRunS_le h
  refine ⟨by omega, fun r hr => ?_⟩
  obtain ⟨m, a, b, c⟩ := h2 r hr
  exact sRuns_sz (by omega) c
theorem kLvs_sz (ls : List (List Run)) (n k : Int) (h : 0 ≤ szRunSS ls n) : kGo kRuns ls k ≤ k + 5 * (n - szRunSS ls n) :=
  kL_sz szRunS_le (fun x n k _ h => by have : kRuns x k ≤ k + 5 * (n - szRunS x n) := kRuns_sz x n k h; omega) ls n k h
theorem kInts_len (ls : List Int) (k : Int) : kGo stI ls k = k + ls.length := by
  induction ls generalizing k with
  | nil => simp [kGo]
  | cons x r ih => rw [kGo, ih, List.length_cons]; unfold stI; omega
theorem tree_sz {t : Tree} {n : Int} (h0 : 0 ≤ n) (hn : n ≤ 1048576) (h : 0 ≤ szTree t n) : sTree t ∧ ∀ k, kTree t k ≤ k + 5 * (n - szTree t n) := by
  unfold szTree at h ⊢
  have l1 := szEntryS_le t.mem n h0
  unfold Lq at l1; split at h
  · omega
  rename_i e1
  have l2 := szRunSS_le t.levels (szEntryS t.mem n) (by omega)
  unfold Lq at l2; split at h
  · omega
  rename_i e2
  rw [if_neg e1, if_neg e2]
  unfold szIntS at h ⊢
  split at h
  · omega
  rename_i e3
  rw [if_neg e3]
  refine ⟨⟨sEnts_sz hn (by omega), sLvs_sz (by omega) (by omega : 0 ≤ szRunSS t.levels (szEntryS t.mem n)), by omega⟩, fun k => ?_⟩
  unfold kTree; rw [kInts_len]
  have a1 := kEnts_sz t.mem n k (by omega)
  have a2 := kLvs_sz t.levels (szEntryS t.mem n) (kGo stE t.mem k) (by omega)
  omega
theorem store_sz {s : Store} {n : Int} (h0 : 0 ≤ n) (hn : n ≤ 1048576) (h : 0 ≤ szStore s n) : bE s ∧ s.disk.log.size ≤ 1048576 ∧ ∀ k, kStore s k ≤ k + 5 * (n - szStore s n) := by
  unfold szStore at h ⊢
  have l1 := szTree_le s.tree n h0
  unfold Lq at l1; split at h
  · omega
  rename_i e1
  rw [if_neg e1]
  obtain ⟨a1, a2⟩ := tree_sz h0 hn (by omega : 0 ≤ szTree s.tree n)
  unfold szDisk at h ⊢
  split at h
  · omega
  rename_i e2
  rw [if_neg e2]
  refine ⟨⟨a1, sLvs_sz (by omega) h⟩, by omega, fun k => ?_⟩
  have b1 := a2 k
  have b2 := kLvs_sz s.disk.levels (szTree s.tree n - (s.disk.log.size : Int)) (kTree s.tree k) h
  show kGo kRuns s.disk.levels (kTree s.tree k) ≤ _
  omega
theorem kGo_add {α : Type} {g : α → Int → Int} (hg : ∀ x k, g x k = k + g x 0) : ∀ (ls : List α) (k : Int), kGo g ls k = k + kGo g ls 0
  | [], k => by simp [kGo]
  | x :: r, k => by
    rw [kGo, kGo, kGo_add hg r (g x k), kGo_add hg r (g x 0), hg x k]; omega
theorem kEnts_len (ls : List Entry) (k : Int) : kGo stE ls k = k + 5 * ls.length := by
  induction ls generalizing k with
  | nil => simp [kGo]
  | cons x r ih => rw [kGo, ih, List.length_cons]; unfold stE; omega
theorem kLv_add (ls : List (List Run)) (k : Int) : kGo kRuns ls k = k + kGo kRuns ls 0 :=
  kGo_add (fun x k => kGo_add (fun r k => by unfold stR; rw [kEnts_len, kEnts_len r.ents 0]; omega) x k) ls k
theorem kStore_form (s : Store) (k : Int) : kStore s k = k + (5 * (s.tree.mem.length : Int) + kGo kRuns s.tree.levels 0 + (s.tree.snaps.length : Int) + kGo kRuns s.disk.levels 0) := by
  show kGo kRuns s.disk.levels (kGo stI s.tree.snaps (kGo kRuns s.tree.levels (kGo stE s.tree.mem k))) = _
  rw [kLv_add s.disk.levels, kInts_len, kLv_add s.tree.levels, kEnts_len]; omega
theorem kLv_pos (ls : List (List Run)) : 0 ≤ kGo kRuns ls 0 := kGo_ge kRuns (fun x k => kGo_ge stR stR_ge x k) ls 0
theorem writeS_s {t : Tree} {b : List Entry} (h : sTree t) (hb : b.length ≤ 1048576) : sTree (writeS t b).1 ∧ (writeS t b).1.levels = t.levels ∧ (writeS t b).1.snaps = t.snaps ∧ (writeS t b).1.mem.length ≤ t.mem.length + 60 := by
  unfold writeS; split
  · exact ⟨h, rfl, rfl, by simp only; omega⟩
  rename_i hw
  have h1 := putAll_small (aI b t.seq).1 t.mem (stampS_small hb).2 h.1.2
  simp [writeBad] at hw
  refine ⟨⟨⟨by have := h1.1; simp only; omega, h1.2⟩, h.2⟩, rfl, rfl, by have := h1.1; simp only; omega⟩
theorem storeWriteS_s {s : Store} {b : List Entry} (h : bE s) (hb : b.length ≤ 1048576) : bE (bD s b).1 ∧ ∀ k, kStore (bD s b).1 k ≤ kStore s k + 300 := by
  have hz : bE zStore := ⟨⟨⟨by decide, by intro e he; cases he⟩, ⟨by decide, by intro e he; cases he⟩, by decide⟩, ⟨by decide, by intro e he; cases he⟩⟩
  have p1 := kLv_pos s.tree.levels
  have p2 := kLv_pos s.disk.levels
  have z0 : kGo kRuns zTree.levels 0 = 0 := rfl
  have z1 : zTree.mem.length = 0 := rfl
  have z2 : zTree.snaps.length = 0 := rfl
  have hc : ∀ k, kStore (copyS s) k ≤ kStore s k := fun k => by
    unfold copyS; split
    · exact Int.le_refl _
    rw [kStore_form, kStore_form]; simp only [z0, z1, z2]; omega
  unfold bD; split
  · refine ⟨hz, fun k => ?_⟩
    rw [kStore_form s]
    have : kStore zStore k = k := rfl
    simp only [this]; omega
  split
  · exact ⟨copyS_s h, fun k => by have := hc k; simp only; omega⟩
  have hs := copyS_s h
  obtain ⟨w1, w2, w3, w4⟩ := writeS_s (b := b) hs.1 hb
  have hc2 := hc
  generalize copyS s = c at hs w1 w2 w3 w4 hc
  unfold write6S; split
  · exact ⟨hs, fun k => by have := hc k; simp only; omega⟩
  refine ⟨⟨w1, hs.2⟩, fun k => ?_⟩
  have := hc k
  rw [kStore_form c] at this; rw [kStore_form ⟨c.up, (writeS c.tree b).1, _⟩]; simp only [w2, w3]; omega
theorem noFz_ent (ls : List Entry) : noFzL (ls.map enA) = true := noFzL_map enA (fun _ => rfl) ls
theorem noFz_int (ls : List Int) : noFzL (ls.map inA) = true := noFzL_map inA (fun _ => rfl) ls
theorem noFz_runs (ls : List (List Run)) : noFzL (ls.map rsO) = true := noFzL_map rsO (fun rs => by
  show noFzL (rs.map runOwn) = true
  exact noFzL_map runOwn (fun r => by
    show (noFzL (r.ents.map enA) && (true && true)) = true
    rw [noFz_ent]; rfl) rs) ls
theorem sto_nf (s : Store) : ∀ p ∈ [((0 : Nat), AObj.row 65 5 (s.tree.mem.map enA)), (1, .row 107 1 (s.tree.levels.map rsO)), (2, .row 3 1 (s.tree.snaps.map inA)), (3, .row 107 1 (s.disk.levels.map rsO))], p.2.noFz = true := by
  intro p hp
  simp only [List.mem_cons, List.not_mem_nil, or_false] at hp
  rcases hp with rfl | rfl | rfl | rfl
  · exact noFz_ent _
  · exact noFz_runs _
  · exact noFz_int _
  exact noFz_runs _
theorem kStore_pos (s : Store) (k : Int) : k ≤ kStore s k := by
  have p1 := kLv_pos s.tree.levels
  have p2 := kLv_pos s.disk.levels
  rw [kStore_form]; omega
theorem w_law (s : Store) (b : List Entry) (hz1 : mEnts s.tree.mem) (hz2 : mLvs s.tree.levels) (hz3 : s.tree.snaps.length ≤ 9223372036854775807) (hz4 : s.disk.log.size ≤ 9223372036854775807) (hz5 : mLvs s.disk.levels) (hzb : mEnts b) : aB P 3 [stA s, .sl 5 (b.map enA)] [] 0 (.raw (.bool true)) := by
 refine pw (N := 119) (vs := [.tmp 4]) ⟨Tryz.func3, rfl, rfl⟩ rfl rfl (by simp) ?_
 simp only [eE, stA]; refine sr rfl fun _ J => ?_; simp only [go_sem]; apply J; refine sr rfl fun _ k2 => ?_; simp only [go_sem]; apply k2; refine sr rfl fun _ k3 => ?_; simp only [go_sem]
 refine vp rfl rfl rfl ⟨Tryz.func7, rfl, rfl⟩ (w_laws_szStore s 1048576 (by decide) (by decide) hz1 hz2 hz3 hz4 hz5) (by simp only [go_sem, stA]) (by simp only [go_sem, stA]) ?_
 simp only [go_sem]; apply k3; refine sq fun _ k4 => ?_; refine sr rfl fun _ J => ?_; simp only [go_sem]; apply J
 refine cd rfl (fun hc1 => ?_) fun hc1 => ?_
 · skip; refine sr rfl fun _ J => ?_; simp only [go_sem]; apply J; refine wR ?_; refine fO ?_ trivial; simp only [go_sem]
 have hns : 0 ≤ szStore s 1048576 := by simpa using hc1
 obtain ⟨hs, hlog, hk⟩ := store_sz (by decide) (by decide) hns
 have hle : szStore s 1048576 ≤ 1048576 := by have h1 := szTree_le s.tree 1048576 (by decide); unfold szStore at hns ⊢; unfold Lq at h1; split at hns; omega; have h2 := szDisk_le s.disk (szTree s.tree 1048576) (by omega); unfold Lq at h2; split <;> omega
 refine wk ?_; apply k4; refine sr rfl fun _ k7 => ?_; simp only [go_sem]
 refine vp rfl rfl rfl ⟨Tryz.func8, rfl, rfl⟩ (w_laws_szEntryS b (szStore s 1048576) (by omega) (by omega) hzb) (by simp only [go_sem]) (by simp only [go_sem]) ?_
 simp only [go_sem]; apply k7; refine sq fun _ k8 => ?_; refine sr rfl fun _ J => ?_; simp only [go_sem]; apply J
 refine cd rfl (fun hc2 => ?_) fun hc2 => ?_
 · skip; refine sr rfl fun _ J => ?_; simp only [go_sem]; apply J; refine wR ?_; refine fO ?_ trivial; simp only [go_sem]
 have hnb : 0 ≤ szL szEntry b (szStore s 1048576) := by simpa using hc2
 have hb : sEnts b := sEnts_sz (by omega) hnb
 have hmb : bT b := ⟨by have := hb.1; omega, fun e he => ⟨by have := (hb.2 e he).1; omega, by have := (hb.2 e he).2; omega⟩⟩
 have hk1 := hk 1
 have hkp := kStore_pos s 1
 have hkb := kEnts_len b (kStore s 1)
 have hbl := hb.1
 refine wk ?_; apply k8; refine sr rfl fun _ k11 => ?_; simp only [go_sem]
 refine vn 4 rfl rfl rfl ⟨Tryz.func10, rfl, rfl⟩ (w_laws_toStore s hs.1.1 hs.1.2.1 hs.1.2.2 hs.2) (by simp only [go_sem, stA]) (by simp only [go_sem, stA]) (by simp) (by decide) ?_
 simp only [go_sem, AV.ren, AObj.ren, aA, shift, sg, Nat.le_refl, Nat.add_zero, Nat.sub_self]
 refine vn 1 rfl rfl rfl ⟨Tryz.func11, rfl, rfl⟩ (w_laws_toEntryS b hb) (by simp only [go_sem]) (by simp only [go_sem]) (by simp) (by decide) ?_
 simp only [go_sem, AV.ren, AObj.ren, aA, shift, sg, Nat.le_refl, Nat.add_zero, Nat.sub_self]
 refine vsem_freeze 1 rfl ?_
 simp only [go_sem, cA, bP, intAV_fz]
 refine vsem_freeze 2 rfl ?_
 simp only [go_sem, cA, bP, intAV_fz]
 refine vsem_freeze 3 rfl ?_
 simp only [go_sem, cA, bP, intAV_fz]
 refine vsem_freeze 4 rfl ?_
 simp only [go_sem, cA, bP, intAV_fz]
 refine vsem_freeze 5 rfl ?_
 simp only [go_sem, cA, bP, intAV_fz]
 refine vp rfl rfl rfl ⟨Tryz.func9, rfl, rfl⟩ (w_spec_StoreWrite s b hs hmb hb.1 hlog) (by simp only [go_sem, stA]) (by simp only [go_sem, stA]) ?_
 simp only [go_sem, stA]; apply k11; refine sr rfl fun _ k12 => ?_; simp only [go_sem]
 refine vn 4 rfl rfl rfl ⟨Tryz.func10, rfl, rfl⟩ (w_laws_toStore s hs.1.1 hs.1.2.1 hs.1.2.2 hs.2) (by simp only [go_sem, stA]) (by simp only [go_sem, stA]) (by simp) (by decide) ?_
 simp only [go_sem, AV.ren, AObj.ren, aA, shift, sg, Nat.le_refl, Nat.add_zero, Nat.sub_self]; apply k12; refine sr rfl fun _ k13 => ?_; simp only [go_sem]
 refine vn 1 rfl rfl rfl ⟨Tryz.func11, rfl, rfl⟩ (w_laws_toEntryS b hb) (by simp only [go_sem]) (by simp only [go_sem]) (by simp) (by decide) ?_
 simp only [go_sem, AV.ren, AObj.ren, aA, shift, sg, Nat.le_refl, Nat.add_zero, Nat.sub_self]; apply k13; refine sr rfl fun _ k14 => ?_; simp only [go_sem]
 refine vC (fun hN => lend_new [7, 8, 9, 10, 12] (xs := [.agg [.raw (.bool s.up), .raw (.int .i64 s.tree.seq), .ref 7, .ref 8, .ref 9, .raw (.string s.disk.log), .raw (.int .i64 s.disk.safe), .ref 10, .raw (.int .i64 s.disk.seq)], .ref 12]) rfl rfl rfl ⟨Tryz.func12, rfl, rfl⟩ hN (w_impl_StoreWrite s b hs hmb hb.1) (by simp) (by decide) (by simp only [go_sem]) (by simp [lend, lend1, lendL, Abs.get, bP, cA, intAV_fz, stA]) (by simp only [go_sem, stA]) rfl (sto_nf _)) (.inr (by decide)) ?_
 rw [storeWrite_eq s b]
 obtain ⟨hr, hkr⟩ := storeWriteS_s (b := b) hs hb.1
 generalize hre : bD s b = r at hr hkr ⊢
 simp only [go_sem, AV.ren, AObj.ren, aA, shift, sg, Nat.le_refl, Nat.add_zero, Nat.sub_self]; apply k14; refine sq fun _ k15 => ?_; refine sr rfl fun _ k16 => ?_; simp only [go_sem]
 refine vC (fun hN => lend_pure (xs := [.agg [.raw (.bool r.1.up), .raw (.int .i64 r.1.tree.seq), .ref 13, .ref 14, .ref 15, .raw (.string r.1.disk.log), .raw (.int .i64 r.1.disk.safe), .ref 16, .raw (.int .i64 r.1.disk.seq)], stA r.1]) [13, 14, 15, 16] rfl rfl rfl ⟨Tryz.func13, rfl, rfl⟩ hN (w_laws_eqStore r.1 hr.1.1 hr.1.2.1 hr.1.2.2 hr.2) (by simp only [go_sem, stA]) (by simp [lend, lend1, lendL, Abs.get, cA, bP, intAV_fz, stA]) (by simp only [go_sem, stA]) rfl) (.inl rfl) ?_
 simp only [go_sem, stA]; apply k16
 refine cd rfl (fun hc3 => ?_) fun hc3 => ?_
 · exfalso; simp at hc3
 refine wk ?_; apply k15; refine sq fun _ k17 => ?_; refine sd mixed rfl fun _ k18 => ?_; simp only [go_sem]
 refine tn 4 rfl rfl rfl ⟨Tryz.func10, rfl, rfl⟩ (w_laws_toStore s hs.1.1 hs.1.2.1 hs.1.2.2 hs.2) (by simp only [go_sem, stA]) (by simp only [go_sem, stA]) (by simp) (by decide) ?_
 simp only [go_sem, AV.ren, AObj.ren, aA, shift, sg, Nat.le_refl, Nat.add_zero, Nat.sub_self]
 refine dE (fun hN => lend_pure (xs := [.agg [.raw (.bool s.up), .raw (.int .i64 s.tree.seq), .ref 7, .ref 8, .ref 9, .raw (.string s.disk.log), .raw (.int .i64 s.disk.safe), .ref 10, .raw (.int .i64 s.disk.seq)], .agg [.raw (.bool s.up), .raw (.int .i64 s.tree.seq), .ref 18, .ref 19, .ref 20, .raw (.string s.disk.log), .raw (.int .i64 s.disk.safe), .ref 21, .raw (.int .i64 s.disk.seq)]]) [7, 8, 9, 10, 18, 19, 20, 21] rfl rfl rfl ⟨Tryz.func13, rfl, rfl⟩ hN (w_laws_eqStore s hs.1.1 hs.1.2.1 hs.1.2.2 hs.2) (by simp only [go_sem, stA]) (by simp [lend, lend1, lendL, Abs.get, cA, bP, intAV_fz, stA]) (by simp only [go_sem, stA]) rfl) (.inl rfl) ?_
 simp only [go_sem, stA]; refine ⟨by rfl, ?_⟩; apply k18
 refine cd rfl (fun hc4 => ?_) fun hc4 => ?_
 · exfalso; simp at hc4
 refine wk ?_; apply k17; refine sq fun _ k19 => ?_; refine sr rfl fun _ k20 => ?_; simp only [go_sem]
 refine vn 1 rfl rfl rfl ⟨Tryz.func11, rfl, rfl⟩ (w_laws_toEntryS b hb) (by simp only [go_sem]) (by simp only [go_sem]) (by simp) (by decide) ?_
 simp only [go_sem, AV.ren, AObj.ren, aA, shift, sg, Nat.le_refl, Nat.add_zero, Nat.sub_self]
 refine vC (fun hN => lend_pure (xs := [.ref 12, .ref 22]) [12, 22] rfl rfl rfl ⟨Tryz.func14, rfl, rfl⟩ hN (w_laws_eqEntryS b hb) (by simp only [go_sem, stA]) (by simp [lend, lend1, lendL, Abs.get, cA, bP, intAV_fz, stA]) (by simp only [go_sem, stA]) rfl) (.inl rfl) ?_
 simp only [go_sem, stA]; apply k20
 refine cd rfl (fun hc5 => ?_) fun hc5 => ?_
 · exfalso; simp at hc5
 refine wk ?_; apply k19; refine sr rfl fun _ J => ?_; simp only [go_sem]; apply J; refine sr rfl fun _ k22 => ?_; simp only [go_sem]
 refine vC (fun hN => bC (s := [(0, 7), (1, 8), (2, 9), (3, 10)]) 0 rfl rfl rfl ⟨Tryz.func15, rfl, rfl⟩ hN (w_laws_markStore s 1 hs (by decide) (by omega)) rfl (by simp only [go_sem, aA, AV.ren, sg]) ?_ (fit_put (by simp [heapOk, sg, Abs.get, AObj.ren, AObj.bel, UU, entAV_ren, bQ, intAV_ren, enB, runsOwn_bel, intAV_bel]) (by simp [sg, Abs.get]) (by intro i hi; simp; omega) (by simp) rfl (by omega))) (.inl rfl) ?_
 · simp only [go_sem]
 simp only [go_sem, aW, AObj.ren, AV.ren, entAV_ren, bQ, intAV_ren, sg]; apply k22; refine sr rfl fun _ k23 => ?_; simp only [go_sem]
 refine vC (fun hN => bC (s := [(0, 12)]) 0 rfl rfl rfl ⟨Tryz.func16, rfl, rfl⟩ hN (w_laws_markEntryS b (kStore s 1) hb (by omega) (by omega)) rfl (by simp only [go_sem, aA, AV.ren, sg]) ?_ (fit_put (by simp [heapOk, sg, Abs.get, AObj.ren, AObj.bel, UU, entAV_ren, enB]) (by simp [sg, Abs.get]) (by intro i hi; simp; omega) (by simp) rfl (by omega))) (.inl rfl) ?_
 · simp only [go_sem]
 simp only [go_sem, aW, AObj.ren, AV.ren, entAV_ren, sg]; apply k23; refine sq fun _ k24 => ?_; refine sr rfl fun _ k25 => ?_; simp only [go_sem]
 refine vC (fun hN => lstep_guard hN rfl rfl rfl rfl (by simp only [go_sem]) (fun _ => lend_pure (xs := [.agg [.raw (.bool r.1.up), .raw (.int .i64 r.1.tree.seq), .ref 13, .ref 14, .ref 15, .raw (.string r.1.disk.log), .raw (.int .i64 r.1.disk.safe), .ref 16, .raw (.int .i64 r.1.disk.seq)], stA r.1]) [13, 14, 15, 16] rfl rfl rfl ⟨Tryz.func13, rfl, rfl⟩ hN (w_laws_eqStore r.1 hr.1.1 hr.1.2.1 hr.1.2.2 hr.2) (by simp only [go_sem, stA]) (by simp [lend, lend1, lendL, Abs.get, cA, bP, intAV_fz, stA]) (by simp only [go_sem, stA]) rfl) trivial) (.inl rfl) ?_
 simp only [go_sem, stA]; apply k25
 refine cd rfl (fun hc6 => ?_) fun hc6 => ?_
 · exfalso; simp at hc6; omega
 have hkr1 := hkr 1
 have hkrp := kStore_pos r.1 1
 refine wk ?_; apply k24; refine sr rfl fun _ J => ?_; simp only [go_sem]; apply J; refine sr rfl fun _ k27 => ?_; simp only [go_sem]
 refine vC (fun hN => bC (s := [(0, 13), (1, 14), (2, 15), (3, 16)]) 0 rfl rfl rfl ⟨Tryz.func15, rfl, rfl⟩ hN (w_laws_markStore r.1 1 hr (by decide) (by omega)) rfl (by simp only [go_sem, aA, AV.ren, sg]) ?_ (fit_put (by simp [heapOk, sg, Abs.get, AObj.ren, AObj.bel, UU, entAV_ren, bQ, intAV_ren, enB, runsOwn_bel, intAV_bel]) (by simp [sg, Abs.get]) (by intro i hi; simp; omega) (by simp) rfl (by omega))) (.inl rfl) ?_
 · simp only [go_sem]
 simp only [go_sem, aW, AObj.ren, AV.ren, entAV_ren, bQ, intAV_ren, sg]; apply k27; refine sr rfl fun _ J => ?_; simp only [go_sem]; apply J; refine sr rfl fun _ k29 => ?_; simp only [go_sem]
 refine vC (fun hN => lend_pure (xs := [.agg [.raw (.bool r.1.up), .raw (.int .i64 r.1.tree.seq), .ref 13, .ref 14, .ref 15, .raw (.string r.1.disk.log), .raw (.int .i64 r.1.disk.safe), .ref 16, .raw (.int .i64 r.1.disk.seq)], .raw (.int .i64 1)]) [13, 14, 15, 16] rfl rfl rfl ⟨Tryz.func17, rfl, rfl⟩ hN (w_laws_heldStore r.1 1 hr (by decide) (by omega)) (by simp only [go_sem, stA]) (by simp [lend, lend1, lendL, Abs.get, cA, bP, intAV_fz, stA]; exact ⟨rfl, rfl, rfl, rfl, rfl⟩) (by simp only [go_sem, stA]) rfl) (.inl rfl) ?_
 simp only [go_sem, stA]; apply k29; refine sq fun _ k30 => ?_; refine sr rfl fun _ J => ?_; simp only [go_sem]; apply J
 refine cd rfl (fun hc7 => ?_) fun hc7 => ?_
 · exfalso; simp at hc7; omega
 refine wk ?_; apply k30; refine sq fun _ k32 => ?_; refine sr rfl fun _ J => ?_; simp only [go_sem]; apply J
 refine cd rfl (fun hc8 => ?_) fun hc8 => ?_
 · exfalso; simp at hc8
 refine wk ?_; apply k32; refine sr rfl fun _ k34 => ?_; simp only [go_sem]
 refine vn 4 rfl rfl rfl ⟨Tryz.func10, rfl, rfl⟩ (w_laws_toStore s hs.1.1 hs.1.2.1 hs.1.2.2 hs.2) (by simp only [go_sem, stA]) (by simp only [go_sem, stA]) (by simp) (by decide) ?_
 simp only [go_sem, AV.ren, AObj.ren, aA, shift, sg, Nat.le_refl, Nat.add_zero, Nat.sub_self]
 refine vn 1 rfl rfl rfl ⟨Tryz.func11, rfl, rfl⟩ (w_laws_toEntryS b hb) (by simp only [go_sem]) (by simp only [go_sem]) (by simp) (by decide) ?_
 simp only [go_sem, AV.ren, AObj.ren, aA, shift, sg, Nat.le_refl, Nat.add_zero, Nat.sub_self]
 refine vC (fun hN => lend_new [23, 24, 25, 26, 27] (xs := [.agg [.raw (.bool s.up), .raw (.int .i64 s.tree.seq), .ref 23, .ref 24, .ref 25, .raw (.string s.disk.log), .raw (.int .i64 s.disk.safe), .ref 26, .raw (.int .i64 s.disk.seq)], .ref 27]) rfl rfl rfl ⟨Tryz.func12, rfl, rfl⟩ hN (w_impl_StoreWrite s b hs hmb hb.1) (by simp) (by decide) (by simp only [go_sem]) (by simp [lend, lend1, lendL, Abs.get, bP, cA, intAV_fz, stA]) (by simp only [go_sem, stA]) rfl (sto_nf _)) (.inr (by decide)) ?_
 rw [storeWrite_eq s b, hre]; simp only [go_sem, AV.ren, AObj.ren, aA, shift, sg, Nat.le_refl, Nat.add_zero, Nat.sub_self]; apply k34; refine sq fun _ k35 => ?_; refine sr rfl fun _ k36 => ?_; simp only [go_sem]
 refine vC (fun hN => lend_pure (xs := [.agg [.raw (.bool r.1.up), .raw (.int .i64 r.1.tree.seq), .ref 28, .ref 29, .ref 30, .raw (.string r.1.disk.log), .raw (.int .i64 r.1.disk.safe), .ref 31, .raw (.int .i64 r.1.disk.seq)], stA r.1]) [28, 29, 30, 31] rfl rfl rfl ⟨Tryz.func13, rfl, rfl⟩ hN (w_laws_eqStore r.1 hr.1.1 hr.1.2.1 hr.1.2.2 hr.2) (by simp only [go_sem, stA]) (by simp [lend, lend1, lendL, Abs.get, cA, bP, intAV_fz, stA]) (by simp only [go_sem, stA]) rfl) (.inl rfl) ?_
 simp only [go_sem, stA]; apply k36
 refine cd rfl (fun hc9 => ?_) fun hc9 => ?_
 · exfalso; simp at hc9
 refine wk ?_; apply k35; refine sr rfl fun _ J => ?_; simp only [go_sem]; apply J; refine sr rfl fun _ k38 => ?_; simp only [go_sem]
 refine vC (fun hN => lend_pure (xs := [.agg [.raw (.bool r.1.up), .raw (.int .i64 r.1.tree.seq), .ref 13, .ref 14, .ref 15, .raw (.string r.1.disk.log), .raw (.int .i64 r.1.disk.safe), .ref 16, .raw (.int .i64 r.1.disk.seq)], .raw (.int .i64 1)]) [13, 14, 15, 16] rfl rfl rfl ⟨Tryz.func17, rfl, rfl⟩ hN (w_laws_heldStore r.1 1 hr (by decide) (by omega)) (by simp only [go_sem, stA]) (by simp [lend, lend1, lendL, Abs.get, cA, bP, intAV_fz, stA]; exact ⟨rfl, rfl, rfl, rfl, rfl⟩) (by simp only [go_sem, stA]) rfl) (.inl rfl) ?_
 simp only [go_sem, stA]; apply k38; refine sq fun _ k39 => ?_; refine sr rfl fun _ J => ?_; simp only [go_sem]; apply J
 refine cd rfl (fun hc10 => ?_) fun hc10 => ?_
 · exfalso; simp at hc10; omega
 refine wk ?_; apply k39; refine sq fun _ k41 => ?_; refine sr rfl fun _ J => ?_; simp only [go_sem]; apply J
 refine cd rfl (fun hc11 => ?_) fun hc11 => ?_
 · exfalso; simp at hc11
 refine wk ?_; apply k41; refine sr rfl fun _ J => ?_; simp only [go_sem]; apply J; refine wR ?_; refine fO ?_ trivial; simp only [go_sem]
section
variable {α : Type} {t n sz o : Nat} {a : Addr} {cs : List Value} {g : α → AV} {good : α → Prop}
section
variable {H : Type} {enc : TypeId × Value → H} {w : World} {base : Nat} {sp : Nat → Bool} {held : Bool} {ρ : Nat → Value} {av : Nat → Prop}
theorem cells_at (h : w.cells? base a n = some cs) : cs.length = n ∧ ∀ (k : Nat) (v : Value), cs[k]? = some v → w.cell? (a.add k) = some v := by
  unfold World.cells? at h
  split at h
  · have hl := mapM_some_length h
    refine ⟨by simpa using hl, fun k v hk => ?_⟩
    have hkl := (List.getElem?_eq_some_iff.1 hk).1
    have hkn : k < n := by have : cs.length = n := by simpa using hl
                           omega
    have := mapM_some_get h k k (by simp [hkn])
    rw [this]; exact hk
  cases h
theorem add_none (h : a.spot = none) (n : Nat) : a.add n = ⟨a.block, a.off + n, none⟩ := by
  unfold Addr.add; split
  · rename_i e; subst e; cases a; simp at h; subst h; rfl
  cases a; rfl
theorem cell_spot {v : Value} (h : w.cell? a = some v) : a.spot = none ∧ ∃ cells t fr, w.heap[a.block]? = some (.cells cells t fr) ∧ cells[a.off]? = some v := by
  unfold World.cell? at h
  split at h
  · rename_i c t fr hh
    cases hs : a.spot with
    | none => rw [hs] at h; exact ⟨rfl, c, t, fr, hh, by simpa using h⟩
    | some s => rw [hs] at h; simp at h
  cases h
theorem rep_sl (val : α → Value) (f : α → AV) (good : α → Prop) (sz : Nat) (hsz : 0 < sz) (hcl : ∀ x, good x → (val x).cells.size = sz) (hrep : ∀ x, good x → Rep ρ av w.heap (f x) (val x))
    (hav : ∀ b, ¬ av b) {len cap : Nat} (hlc : len ≤ cap) (hcm : cap ≤ maxLen)
    (h : ∀ i, i < len → ∃ x, w.cells? base (a.add (i * sz)) sz = some (val x).cells.toList ∧ good x) :
    ∃ xs : List α, xs.length = len ∧ (∀ x ∈ xs, good x) ∧ Rep ρ av w.heap (.sl sz (xs.map f)) (.slice (some a) len cap) := by
  have hlist : ∀ n, n ≤ len → ∃ xs : List α, xs.length = n ∧ ∀ (i : Nat) (x : α), xs[i]? = some x → w.cells? base (a.add (i * sz)) sz = some (val x).cells.toList ∧ good x := by
    intro n
    induction n with
    | zero => exact fun _ => ⟨[], rfl, fun i x hi => by simp at hi⟩
    | succ n ih =>
      intro hn
      obtain ⟨xs, h1, h2⟩ := ih (by omega)
      obtain ⟨x, hx⟩ := h n (by omega)
      refine ⟨xs ++ [x], by simp [h1], fun i y hi => ?_⟩
      rcases Nat.lt_or_ge i n with h3 | h3
      · rw [List.getElem?_append_left (by omega)] at hi
        exact h2 i y hi
      rw [List.getElem?_append_right (by omega)] at hi
      have hin : i = n := by
        have := (List.getElem?_eq_some_iff.1 hi).1
        simp at this; omega
      subst hin; rw [h1] at hi; simp at hi; subst hi; exact hx
  obtain ⟨xs, h1, h2⟩ := hlist len (Nat.le_refl _)
  refine ⟨xs, h1, fun x hx => ?_, ?_⟩
  · obtain ⟨i, hi⟩ := List.getElem?_of_mem hx
    exact (h2 i x hi).2
  rcases Nat.eq_zero_or_pos len with h0 | h0
  · have : xs = [] := List.eq_nil_of_length_eq_zero (by omega)
    subst this; rw [h0]
    exact .sl0 sz (some a) cap hcm
  obtain ⟨x0, hx0⟩ : ∃ x0, xs[0]? = some x0 := ⟨_, List.getElem?_eq_getElem (by omega)⟩
  have hg : ∀ (i : Nat) (x : α), xs[i]? = some x → (val x).cells.size = sz := fun i x hi => hcl x (h2 i x hi).2
  have hcell : ∀ (i : Nat) (x : α), xs[i]? = some x → ∀ k v, (val x).cells.toList[k]? = some v → w.cell? ((a.add (i * sz)).add k) = some v := fun i x hi => (cells_at (h2 i x hi).1).2
  obtain ⟨v0, hv0⟩ : ∃ v0, (val x0).cells.toList[0]? = some v0 := ⟨_, List.getElem?_eq_getElem (by rw [Array.length_toList, hg 0 x0 hx0]; exact hsz)⟩
  have hc0 := hcell 0 x0 hx0 0 v0 hv0
  have h00 : (a.add (0 * sz)).add 0 = a := by simp [Addr.add]
  rw [h00] at hc0
  obtain ⟨hspot, cells, t, fr, hh, _⟩ := cell_spot hc0
  have hget : ∀ (i : Nat) (x : α), xs[i]? = some x → ∀ k v, (val x).cells.toList[k]? = some v → cells[a.off + i * sz + k]? = some v := fun i x hi k v hk => by
    have := hcell i x hi k v hk
    rw [add_none hspot, add_none rfl] at this
    obtain ⟨_, c2, t2, fr2, hh2, h3⟩ := cell_spot this
    have hh2' : w.heap[a.block]? = some (.cells c2 t2 fr2) := hh2
    rw [hh] at hh2'
    cases hh2'
    exact h3
  have hlen : (xs.map f).length = len := by rw [List.length_map, h1]
  have ha : a = ⟨a.block, a.off, none⟩ := by cases a; simp at hspot; subst hspot; rfl
  have hvals : ∀ (i : Nat) (x : α), xs[i]? = some x → ((xs[i]?).map val).getD undef = val x := fun i x hi => by rw [hi]; rfl
  have := Rep.sl (ρ := ρ) (av := av) (hp := w.heap) sz (xs.map f) a.block a.off cap cells t fr (fun i => ((xs[i]?).map val).getD undef) (by omega) (by omega) hcm (hav _) hh (fun j y hj => by
    rw [List.getElem?_map] at hj
    obtain ⟨x, hx, rfl⟩ := Option.map_eq_some_iff.1 hj
    show Rep ρ av w.heap (f x) (((xs[j]?).map val).getD undef)
    rw [hvals j x hx]
    exact hrep x (h2 j x hx).2) (fun j hj => by
    obtain ⟨x, hx⟩ : ∃ x, xs[j]? = some x := ⟨_, List.getElem?_eq_getElem (by omega)⟩
    show (((xs[j]?).map val).getD undef).cells.size = sz ∧ _
    rw [hvals j x hx]
    refine ⟨hg j x hx, fun k hk => ?_⟩
    obtain ⟨v, hv⟩ : ∃ v, (val x).cells.toList[k]? = some v := ⟨_, List.getElem?_eq_getElem (by rw [Array.length_toList, hg j x hx]; exact hk)⟩
    show cells[a.off + j * sz + k]? = (((xs[j]?).map val).getD undef).cells[k]?
    rw [hvals j x hx, hget j x hx k v hv]
    rw [← Array.getElem?_toList, hv])
  rw [hlen] at this; rw [ha]; exact this
def Op (H : Type) (enc : TypeId × Value → H) (w : World) (base : Nat) (sp : Nat → Bool) (held : Bool) (ρ : Nat → Value) (av : Nat → Prop) (t sz : Nat) (g : α → AV) (good : α → Prop) : Prop :=
  ∀ fuel cs x, DataW.trod enc P w base sp held fuel t cs = some x → ∃ a v, good a ∧ v.cells = cs.toArray ∧ cs.length = sz ∧ (sz = 1 → cs = [v]) ∧ (sz ≠ 1 → v = .agg cs.toArray) ∧ Rep ρ av w.heap (g a) v
theorem op_str (u : P.underlying t = some .string) : Op H enc w base sp held ρ av t 1 (fun s : ByteArray => .raw (.string s)) (fun s => s.size ≤ maxLen) := by
  intro fuel cs x h
  obtain ⟨s, rfl, _, hs⟩ := DataW.trod_string u h
  exact ⟨s, _, hs, rfl, rfl, fun _ => rfl, fun h => (h rfl).elim, .raw _⟩
theorem op_int (u : P.underlying t = some (.int .i64)) : Op H enc w base sp held ρ av t 1 (fun n : Int => .raw (.int .i64 n)) (fun _ => True) := by
  intro fuel cs x h
  obtain ⟨n, rfl, _⟩ := DataW.trod_int u h
  exact ⟨n, _, trivial, rfl, rfl, fun _ => rfl, fun h => (h rfl).elim, .raw _⟩
theorem op_bool (u : P.underlying t = some .bool) : Op H enc w base sp held ρ av t 1 (fun n : Bool => .raw (.bool n)) (fun _ => True) := by
  intro fuel cs x h
  obtain ⟨n, rfl, _⟩ := DataW.trod_bool u h
  exact ⟨n, _, trivial, rfl, rfl, fun _ => rfl, fun h => (h rfl).elim, .raw _⟩
theorem op_sl {t e sz : Nat} (hav : ∀ b, ¬ av b) (u : P.underlying t = some (.slice e)) (hz : P.cellsOf e = sz) (h0 : 0 < sz) (O : Op H enc w base sp held ρ av e sz g good) :
    Op H enc w base sp held ρ av t 1 (fun ls : List α => .sl sz (ls.map g)) (fun ls => ls.length ≤ maxLen ∧ ∀ l ∈ ls, good l) := by
  intro fuel cs x h
  rcases DataW.trod_slice u h with ⟨h1, _⟩ | ⟨a, len, cap, elems, rest, n, _, h1, _, hb, hlc, hcm, hel, hi, _⟩
  · subst h1
    exact ⟨[], _, ⟨Nat.zero_le _, by simp⟩, rfl, rfl, fun _ => rfl, fun h => (h rfl).elim, .sl0 sz none 0 (Nat.zero_le _)⟩
  subst h1; rw [hz] at hi
  obtain ⟨ls, k1, k2, k3⟩ := rep_sl (w := w) (base := base) (α := α × Value) (fun x => x.2) (fun x => g x.1) (fun x => good x.1 ∧ x.2.cells.size = sz ∧ Rep ρ av w.heap (g x.1) x.2) sz h0 (fun x hx => hx.2.1) (fun x hx => hx.2.2) (ρ := ρ) (av := av) hav hlc hcm (fun i hil => by
      have := hi i hil
      rw [List.getElem?_eq_getElem (by omega)] at this
      obtain ⟨cs, hcs, ht⟩ := Option.bind_eq_some_iff.1 this
      obtain ⟨p, v, q1, q2, q3, _, _, q4⟩ := O _ _ _ ht
      exact ⟨(p, v), by rw [hcs, q2], q1, by rw [q2]; simpa using q3, q4⟩)
  refine ⟨ls.map (·.1), _, ⟨by rw [List.length_map]; omega, fun p hp => ?_⟩, rfl, rfl, fun _ => rfl, fun h => (h rfl).elim, by show Rep ρ av w.heap (.sl sz ((ls.map fun x => x.1).map g)) _; rw [List.map_map]; exact k3⟩
  obtain ⟨q, hq, rfl⟩ := List.mem_map.1 hp
  exact (k2 q hq).1
theorem op_fld {xs : List (DataW H × List MemPlace)} (j : Nat) (O : Op H enc w base sp held ρ av t 1 g good) (hz : P.cellsOf t = 1) (hj : j < xs.length)
    (h : DataW.trod enc P w base sp held n t ((cs.drop o).take (P.cellsOf t)) = xs[j]?) : ∃ a v, good a ∧ cs[o]? = some v ∧ Rep ρ av w.heap (g a) v := by
  rw [hz, List.getElem?_eq_getElem hj] at h
  obtain ⟨a, v, h1, _, _, h2, _, h3⟩ := O _ _ _ h
  refine ⟨a, v, h1, ?_, h3⟩
  have := congrArg (·[0]?) (h2 rfl)
  simpa [List.getElem?_take, List.getElem?_drop] using this
theorem repAgg {ls : List AV} (hl : cs.length = ls.length) (h : ∀ (j : Nat) (y : AV), ls[j]? = some y → ∃ v, cs[j]? = some v ∧ Rep ρ av w.heap y v) : Rep ρ av w.heap (.agg ls) (.agg cs.toArray) := by
  refine .agg _ _ (by simpa using hl) fun j y hj => ?_
  obtain ⟨v, h1, h2⟩ := h j y hj
  have : cs.toArray.getD j undef = v := by simp [Array.getD_eq_getD_getElem?, h1]
  rw [this]; exact h2
end
section
variable {H : Type} {enc : TypeId × Value → H} {w : World} {base : Nat} {sp : Nat → Bool} {held : Bool} {ρ : Nat → Value} {av : Nat → Prop}
theorem op_flds {xs : List (DataW H × List MemPlace)} (j : Nat) (O : Op H enc w base sp held ρ av t sz g good) (hz : P.cellsOf t = sz) (h1 : sz ≠ 1) (hj : j < xs.length)
    (h : DataW.trod enc P w base sp held n t ((cs.drop o).take (P.cellsOf t)) = xs[j]?) : ∃ a, good a ∧ ∀ ls, g a = .agg ls → ∀ (i : Nat) (y : AV), ls[i]? = some y → ∃ v, cs[o + i]? = some v ∧ Rep ρ av w.heap y v := by
  rw [hz, List.getElem?_eq_getElem hj] at h
  obtain ⟨a, v, k1, _, k3, _, k4, k5⟩ := O _ _ _ h
  refine ⟨a, k1, fun ls hls i y hi => ?_⟩
  rw [hls, k4 h1] at k5
  cases k5 with
  | agg _ _ hn hh =>
    have hil := (List.getElem?_eq_some_iff.1 hi).1
    have hlt : i < ((cs.drop o).take sz).length := by have : ((cs.drop o).take sz).length = ls.length := by simpa using hn
                                                      omega
    refine ⟨_, ?_, hh i y hi⟩
    have e := List.getElem?_eq_getElem hlt
    rw [List.getElem?_take, List.getElem?_drop] at e; split at e
    · rw [e]; simp [Array.getD_eq_getD_getElem?, List.getElem?_eq_getElem hlt]
    cases e
theorem uSt : P.underlying 30 = some (.struct #[{ name := "Up", type := 4, offset := 0, embedded := false, tag := "", pkgPath := "", byteOffset := 0 }, { name := "Tree", type := 26, offset := 1, embedded := false, tag := "", pkgPath := "", byteOffset := 8 }, { name := "Disk", type := 28, offset := 5, embedded := false, tag := "", pkgPath := "", byteOffset := 88 }]) := by kernel_rfl
theorem uTr : P.underlying 26 = some (.struct #[{ name := "Seq", type := 3, offset := 0, embedded := false, tag := "", pkgPath := "", byteOffset := 0 }, { name := "Mem", type := 22, offset := 1, embedded := false, tag := "", pkgPath := "", byteOffset := 8 }, { name := "Levels", type := 23, offset := 2, embedded := false, tag := "", pkgPath := "", byteOffset := 32 }, { name := "Snaps", type := 24, offset := 3, embedded := false, tag := "", pkgPath := "", byteOffset := 56 }]) := by kernel_rfl
theorem uDi : P.underlying 28 = some (.struct #[{ name := "Log", type := 9, offset := 0, embedded := false, tag := "", pkgPath := "", byteOffset := 0 }, { name := "Safe", type := 3, offset := 1, embedded := false, tag := "", pkgPath := "", byteOffset := 16 }, { name := "Levels", type := 23, offset := 2, embedded := false, tag := "", pkgPath := "", byteOffset := 24 }, { name := "Seq", type := 3, offset := 3, embedded := false, tag := "", pkgPath := "", byteOffset := 48 }]) := by kernel_rfl
theorem uEn : P.underlying 60 = some (.struct #[{ name := "Key", type := 9, offset := 0, embedded := false, tag := "", pkgPath := "", byteOffset := 0 }, { name := "Seq", type := 3, offset := 1, embedded := false, tag := "", pkgPath := "", byteOffset := 16 }, { name := "Kind", type := 3, offset := 2, embedded := false, tag := "", pkgPath := "", byteOffset := 24 }, { name := "Text", type := 9, offset := 3, embedded := false, tag := "", pkgPath := "", byteOffset := 32 }, { name := "N", type := 3, offset := 4, embedded := false, tag := "", pkgPath := "", byteOffset := 48 }]) := by kernel_rfl
theorem uRu : P.underlying 173 = some (.struct #[{ name := "Ents", type := 22, offset := 0, embedded := false, tag := "", pkgPath := "", byteOffset := 0 }, { name := "Mask", type := 3, offset := 1, embedded := false, tag := "", pkgPath := "", byteOffset := 24 }]) := by kernel_rfl
theorem uEs : P.underlying 22 = some (.slice 60) := by kernel_rfl
theorem uRs : P.underlying 129 = some (.slice 173) := by kernel_rfl
theorem uLs : P.underlying 23 = some (.slice 129) := by kernel_rfl
theorem uIs : P.underlying 24 = some (.slice 3) := by kernel_rfl
theorem uS : P.underlying 9 = some .string := by kernel_rfl
theorem uI : P.underlying 3 = some (.int .i64) := by kernel_rfl
theorem uB : P.underlying 4 = some .bool := by kernel_rfl
theorem cE : P.cellsOf 60 = 5 := by kernel_rfl
theorem cR : P.cellsOf 173 = 2 := by kernel_rfl
theorem cT : P.cellsOf 26 = 4 := by kernel_rfl
theorem cD : P.cellsOf 28 = 4 := by kernel_rfl
theorem cSt : P.cellsOf 30 = 9 := by kernel_rfl
theorem cS : P.cellsOf 9 = 1 := by kernel_rfl
theorem cI : P.cellsOf 3 = 1 := by kernel_rfl
theorem cB : P.cellsOf 4 = 1 := by kernel_rfl
theorem cEs : P.cellsOf 22 = 1 := by kernel_rfl
theorem cRs : P.cellsOf 129 = 1 := by kernel_rfl
theorem cLs : P.cellsOf 23 = 1 := by kernel_rfl
theorem cIs : P.cellsOf 24 = 1 := by kernel_rfl
theorem op_ent : Op H enc w base sp held ρ av 60 5 enA (fun e => e.key.size ≤ maxLen ∧ e.text.size ≤ maxLen) := by
  intro fuel cs x h
  obtain ⟨xs, n, _, _, hl, hx, hf⟩ := DataW.trod_struct uEn h
  rw [cE] at hl
  have hx5 : xs.length = 5 := by simpa using hx
  obtain ⟨k, v0, g0, e0, r0⟩ := op_fld 0 (op_str uS) cS (by omega) (hf 0 _ rfl)
  obtain ⟨s, v1, g1, e1, r1⟩ := op_fld 1 (op_int uI) cI (by omega) (hf 1 _ rfl)
  obtain ⟨d, v2, g2, e2, r2⟩ := op_fld 2 (op_int uI) cI (by omega) (hf 2 _ rfl)
  obtain ⟨t, v3, g3, e3, r3⟩ := op_fld 3 (op_str uS) cS (by omega) (hf 3 _ rfl)
  obtain ⟨m, v4, g4, e4, r4⟩ := op_fld 4 (op_int uI) cI (by omega) (hf 4 _ rfl)
  refine ⟨⟨k, s, d, t, m⟩, _, ⟨g0, g3⟩, rfl, hl, fun h => by omega, fun _ => rfl, repAgg hl fun j y hj => ?_⟩
  match j, hj with
  | 0, hj => cases hj; exact ⟨_, e0, r0⟩
  | 1, hj => cases hj; exact ⟨_, e1, r1⟩
  | 2, hj => cases hj; exact ⟨_, e2, r2⟩
  | 3, hj => cases hj; exact ⟨_, e3, r3⟩
  | 4, hj => cases hj; exact ⟨_, e4, r4⟩
  | j + 5, hj => simp at hj
abbrev gEnts (ls : List Entry) : Prop := ls.length ≤ maxLen ∧ ∀ e ∈ ls, e.key.size ≤ maxLen ∧ e.text.size ≤ maxLen
abbrev gRuns (ls : List Run) : Prop := ls.length ≤ maxLen ∧ ∀ r ∈ ls, gEnts r.ents
abbrev gLvs (ls : List (List Run)) : Prop := ls.length ≤ maxLen ∧ ∀ r ∈ ls, gRuns r
theorem op_ents (hav : ∀ b, ¬ av b) : Op H enc w base sp held ρ av 22 1 (fun ls : List Entry => .sl 5 (ls.map enA)) gEnts := op_sl hav uEs cE (by omega) op_ent
theorem op_run (hav : ∀ b, ¬ av b) : Op H enc w base sp held ρ av 173 2 rA (fun r => gEnts r.ents) := by
  intro fuel cs x h
  obtain ⟨xs, n, _, _, hl, hx, hf⟩ := DataW.trod_struct uRu h
  rw [cR] at hl
  have hx2 : xs.length = 2 := by simpa using hx
  obtain ⟨k, v0, g0, e0, r0⟩ := op_fld 0 (op_ents hav) cEs (by omega) (hf 0 _ rfl)
  obtain ⟨s, v1, g1, e1, r1⟩ := op_fld 1 (op_int uI) cI (by omega) (hf 1 _ rfl)
  refine ⟨⟨k, s⟩, _, g0, rfl, hl, fun h => by omega, fun _ => rfl, repAgg hl fun j y hj => ?_⟩
  match j, hj with
  | 0, hj => cases hj; exact ⟨_, e0, r0⟩
  | 1, hj => cases hj; exact ⟨_, e1, r1⟩
  | j + 2, hj => simp at hj
theorem op_lvs (hav : ∀ b, ¬ av b) : Op H enc w base sp held ρ av 23 1 (fun ls : List (List Run) => .sl 1 (ls.map rsA)) gLvs := op_sl hav uLs cRs (by omega) (op_sl hav uRs cR (by omega) (op_run hav))
theorem op_ints (hav : ∀ b, ¬ av b) : Op H enc w base sp held ρ av 24 1 (fun ls : List Int => .sl 1 (ls.map inA)) (fun ls => ls.length ≤ maxLen ∧ ∀ l ∈ ls, True) := op_sl hav uIs cI (by omega) (op_int uI)
theorem op_tree (hav : ∀ b, ¬ av b) : Op H enc w base sp held ρ av 26 4 trA (fun t => gEnts t.mem ∧ gLvs t.levels ∧ t.snaps.length ≤ maxLen) := by
  intro fuel cs x h
  obtain ⟨xs, n, _, _, hl, hx, hf⟩ := DataW.trod_struct uTr h
  rw [cT] at hl
  have hx4 : xs.length = 4 := by simpa using hx
  obtain ⟨k, v0, g0, e0, r0⟩ := op_fld 0 (op_int uI) cI (by omega) (hf 0 _ rfl)
  obtain ⟨s, v1, g1, e1, r1⟩ := op_fld 1 (op_ents hav) cEs (by omega) (hf 1 _ rfl)
  obtain ⟨d, v2, g2, e2, r2⟩ := op_fld 2 (op_lvs hav) cLs (by omega) (hf 2 _ rfl)
  obtain ⟨t, v3, g3, e3, r3⟩ := op_fld 3 (op_ints hav) cIs (by omega) (hf 3 _ rfl)
  refine ⟨⟨k, s, d, t⟩, _, ⟨g1, g2, g3.1⟩, rfl, hl, fun h => by omega, fun _ => rfl, repAgg hl fun j y hj => ?_⟩
  match j, hj with
  | 0, hj => cases hj; exact ⟨_, e0, r0⟩
  | 1, hj => cases hj; exact ⟨_, e1, r1⟩
  | 2, hj => cases hj; exact ⟨_, e2, r2⟩
  | 3, hj => cases hj; exact ⟨_, e3, r3⟩
  | j + 4, hj => simp at hj
theorem op_disk (hav : ∀ b, ¬ av b) : Op H enc w base sp held ρ av 28 4 dkA (fun t => t.log.size ≤ maxLen ∧ gLvs t.levels) := by
  intro fuel cs x h
  obtain ⟨xs, n, _, _, hl, hx, hf⟩ := DataW.trod_struct uDi h
  rw [cD] at hl
  have hx4 : xs.length = 4 := by simpa using hx
  obtain ⟨k, v0, g0, e0, r0⟩ := op_fld 0 (op_str uS) cS (by omega) (hf 0 _ rfl)
  obtain ⟨s, v1, g1, e1, r1⟩ := op_fld 1 (op_int uI) cI (by omega) (hf 1 _ rfl)
  obtain ⟨d, v2, g2, e2, r2⟩ := op_fld 2 (op_lvs hav) cLs (by omega) (hf 2 _ rfl)
  obtain ⟨t, v3, g3, e3, r3⟩ := op_fld 3 (op_int uI) cI (by omega) (hf 3 _ rfl)
  refine ⟨⟨k, s, d, t⟩, _, ⟨g0, g2⟩, rfl, hl, fun h => by omega, fun _ => rfl, repAgg hl fun j y hj => ?_⟩
  match j, hj with
  | 0, hj => cases hj; exact ⟨_, e0, r0⟩
  | 1, hj => cases hj; exact ⟨_, e1, r1⟩
  | 2, hj => cases hj; exact ⟨_, e2, r2⟩
  | 3, hj => cases hj; exact ⟨_, e3, r3⟩
  | j + 4, hj => simp at hj
theorem op_store (hav : ∀ b, ¬ av b) : Op H enc w base sp held ρ av 30 9 stA (fun s => (gEnts s.tree.mem ∧ gLvs s.tree.levels ∧ s.tree.snaps.length ≤ maxLen) ∧ s.disk.log.size ≤ maxLen ∧ gLvs s.disk.levels) := by
  intro fuel cs x h
  obtain ⟨xs, n, _, _, hl, hx, hf⟩ := DataW.trod_struct uSt h
  rw [cSt] at hl
  have hx3 : xs.length = 3 := by simpa using hx
  obtain ⟨u, v0, g0, e0, r0⟩ := op_fld 0 (op_bool uB) cB (by omega) (hf 0 _ rfl)
  obtain ⟨t, g1, r1⟩ := op_flds 1 (op_tree hav) cT (by omega) (by omega) (hf 1 _ rfl)
  obtain ⟨d, g2, r2⟩ := op_flds 2 (op_disk hav) cD (by omega) (by omega) (hf 2 _ rfl)
  have t1 := r1 _ rfl
  have t2 := r2 _ rfl
  refine ⟨⟨u, t, d⟩, _, ⟨g1, g2⟩, rfl, hl, fun h => by omega, fun _ => rfl, repAgg hl fun j y hj => ?_⟩
  match j, hj with
  | 0, hj => cases hj; exact ⟨_, e0, r0⟩
  | 1, hj => exact t1 0 y hj
  | 2, hj => exact t1 1 y hj
  | 3, hj => exact t1 2 y hj
  | 4, hj => exact t1 3 y hj
  | 5, hj => exact t2 0 y hj
  | 6, hj => exact t2 1 y hj
  | 7, hj => exact t2 2 y hj
  | 8, hj => exact t2 3 y hj
  | j + 9, hj => simp at hj
end
end
end Go.Proofs.S
end
section
open Go Go.Abs Go.Proofs
open Go.ChangeShapes Go.WideShapes Go.RowKit Go.Proofs.YthbibdnkiklemaaGreatDoor
namespace Go.Proofs.S
section
variable {w : World} {base t : Nat} {v : Value}
theorem oKnob : ownKnob P.godebug = none := by kernel_rfl
theorem oLaid : laidOutB P = true := by kernel_rfl
theorem uErr : P.underlying 146 = some (.interface #[("Error", 150)]) := by kernel_rfl
theorem rdSt : P.readableRec 30 = true := by kernel_rfl
theorem rdEs : P.readableRec 22 = true := by kernel_rfl
theorem laid_at {w : World} : ∀ {l : List (String × DataW Unit)} {ps : List MemPlace}, DataW.LaidVars P w l ps → ∀ {n : String} {d : DataW Unit}, (n, d) ∈ l →
    ∃ t cs fuel p, ∀ g, P.globalNamed n = some g → (P.globals[g]?).map (·.type) = some t ∧ (∃ u fr, w.heap[g]? = some (.cells cs u fr)) ∧ DataW.trod (fun _ => ()) P w 0 (fun _ => true) false fuel t cs.toList = some (d, p)
  | [], _, _, _, _, hm => by cases hm
  | (n', d') :: l, ps, h, n, d, hm => by
    obtain ⟨g, t, cs, fuel, p, q, h1, h2, h3, h4, h5, _⟩ := h
    rcases List.mem_cons.1 hm with e | hm
    · cases e
      refine ⟨t, cs, fuel, p, fun g' hg' => ?_⟩
      obtain rfl := Option.some.inj (h1.symm.trans hg')
      refine ⟨h2, ?_, h4⟩
      simp only [World.var?, h1, Option.bind_some] at h3
      split at h3
      · rename_i cs' u fr hb; cases h3; exact ⟨u, fr, hb⟩
      cases h3
    exact laid_at h5 hm
theorem gl_of {l : List (String × DataW Unit)} (hL : laidMet P l w) (m0 : ("internal/strconv.uint64pow10", (Rows.laid_internal_strconv_uint64pow10 : DataW Unit)) ∈ l) (m1 : ("strconv.ErrSyntax", (Rows.laid_strconv_ErrSyntax : DataW Unit)) ∈ l) (m2 : ("strconv.ErrRange", (Rows.laid_strconv_ErrRange : DataW Unit)) ∈ l) :
    ∀ g, Globals.on g → ∃ o, w.heap[g]? = some o ∧ Globals.G0 g o := by
  obtain ⟨ps, hv, _, _⟩ := hL
  intro g hg
  rcases hg with rfl | rfl | rfl
  · obtain ⟨t, cs, fuel, p, h⟩ := laid_at hv m0
    obtain ⟨ht, ⟨u, fr, hh⟩, hd⟩ := h 0 (by kernel_rfl)
    obtain rfl : 254 = t := Option.some.inj ((show (P.globals[0]?).map (·.type) = some 254 by kernel_rfl).symm.trans ht)
    have e := Lib.cells_of_tab (k := .u64) (zs := Lib.pow10Tab) (e := 245) (n := 20) (by kernel_rfl) (by kernel_rfl) (by kernel_rfl) (by kernel_rfl) (show _ = some (Lib.tabData .u64 Lib.pow10Tab, p) from hd)
    have hcs : cs = ((Lib.pow10Tab.map fun z => Value.int .u64 z)).toArray := by rw [← e]
    exact ⟨_, hh, fun _ => ⟨u, fr, by rw [hcs]⟩, fun h => by omega, _, _, _, rfl⟩
  · obtain ⟨t, cs, fuel, p, h⟩ := laid_at hv m1
    obtain ⟨ht, ⟨u, fr, hh⟩, hd⟩ := h 1 (by kernel_rfl)
    obtain rfl : 146 = t := Option.some.inj ((show (P.globals[1]?).map (·.type) = some 146 by kernel_rfl).symm.trans ht)
    obtain ⟨_, a, b, e, _, _⟩ := iface_of_trod (uErr) hd
    have hcs : cs = #[.iface a b] := by cases cs; simpa using e
    exact ⟨_, hh, fun h => by omega, fun _ => ⟨a, b, u, fr, by rw [hcs]⟩, _, _, _, rfl⟩
  obtain ⟨t, cs, fuel, p, h⟩ := laid_at hv m2
  obtain ⟨ht, ⟨u, fr, hh⟩, hd⟩ := h 2 (by kernel_rfl)
  obtain rfl : 146 = t := Option.some.inj ((show (P.globals[2]?).map (·.type) = some 146 by kernel_rfl).symm.trans ht)
  obtain ⟨_, a, b, e, _, _⟩ := iface_of_trod (uErr) hd
  have hcs : cs = #[.iface a b] := by cases cs; simpa using e
  exact ⟨_, hh, fun h => by omega, fun _ => ⟨a, b, u, fr, by rw [hcs]⟩, _, _, _, rfl⟩
def C0 : Conc := { ρ := fun _ => .pointer (some ⟨0, 0, none⟩), one := fun _ => rfl, own := fun _ => [], X := fun _ => False, B := 0 }
theorem C0_av (b : Nat) : ¬ C0.avoid [] b := by
  rintro (h | ⟨i, o, h, _⟩)
  · exact h
  simp [Abs.get] at h
theorem C0_rel (gl : ∀ g, Globals.on g → ∃ o, w.heap[g]? = some o ∧ Globals.G0 g o) : RelH C0 [] (UU 0) w where
  obj := fun i o h => by simp [Abs.get] at h
  apart := fun i j oi oj b _ h => by simp [Abs.get] at h
  xapart := fun i o b h => by simp [Abs.get] at h
  xlt := fun b h => h.elim
  objb := fun i o h => by simp [Abs.get] at h
  gl := fun g hg => by obtain ⟨o, h1, h2⟩ := gl g hg; exact ⟨o, h1, h2, C0_av g⟩
theorem C0_below {w w' : World} {C' : Conc} {H' : Heap} (h : StepR C0 [] (UU 0) w C' H' w') : Below w.heap.size w w' :=
  ⟨h.os, h.tape, h.output, h.size, fun k hk => h.keep k hk fun ⟨i, o, hi, _⟩ => by simp [Abs.get] at hi⟩
theorem one_cell {t e : Nat} (u : P.underlying t = some (.slice e)) (h : Value.okWide P w .any base t v) : v.cells.toList = [v] := by
  simp only [Value.okWide, u] at h
  cases v <;> simp_all [Cell.okWide, Cell.ok, u, Value.cells]
theorem agg_of {fs : Array Field} (u : P.underlying t = some (.struct fs)) (h : Value.okWide P w .any base t v) : ∃ cs, v = .agg cs := by
  simp only [Value.okWide, u] at h
  obtain ⟨cs, e, _⟩ := h
  exact ⟨cs, e⟩
end
theorem parsW : Tryz.f3.params = #[30, 22] := by kernel_rfl
abbrev lW : List (String × DataW Unit) := Rows.fnExactStoreWriteRow.laid
theorem lW_plain {w : World} (h : laidMetH P lW w) : laidMet P lW w := by rw [MakeChecks.laidMetH_plain _ _ _ (by kernel_rfl)] at h; exact h
theorem law_lifted (os : Os) (started : os.Started) (H : Type) (enc : TypeId × Value → H) :
    ReturnsInHanded {} Tryz.checked os 3 .any (fun w args => (Rows.fnExactStoreWriteSpec.pre enc P Tryz.f3 [] false w args ∧ laidMetH P lW w) ∧
        sizedMet enc P Tryz.f3 (OpenSpec.ofChange Rows.fnExactStoreWriteSpec) false w args)
      (Rows.fnExactStoreWriteSpec.post enc P Tryz.f3 false true false false) := by
  refine returnsInHanded_of_change_and (C := Tryz.checked) (X := fun w _ => laidMetH P lW w) (fun _ _ _ hh h => h.of_heap hh) oKnob started (by kernel_rfl) Tryz.func3
    (ChangeSpec.witness_shaped (enc := enc) (C := Tryz.checked) (os := os) (X := fun w _ => laidMetH P lW w) false (World.laidAll P os lW) #[.agg #[.bool false, .int .i64 0, .slice none 0 0, .slice none 0 0, .slice none 0 0, .string ⟨#[]⟩, .int .i64 0, .slice none 0 0, .int .i64 0], .slice none 0 0] 8 (World.laidAll_os _ _ _)
      (World.shaped_of_ZipB (by kernel_rfl) (by kernel_rfl)) (by kernel_rfl) (by kernel_rfl) (by kernel_rfl)
      (by rw [MakeChecks.laidMetH_plain _ _ _ (by kernel_rfl)]; exact laidMet_laidAll _ (by kernel_rfl) (by kernel_rfl))) ?_
  intro W base args ds gs before hval0 hW _ _ hL _
  have hval : ∀ (j : Nat) t v, Tryz.f3.params[j]? = some t → args[j]? = some v → Value.okWide P W .any base t v := hval0
  have hW' := hW
  have hlt := hW.lt
  obtain ⟨p, q, hA0, hV0, rfl, _, _⟩ := hW
  have hA : DataW.TrodAll enc P W 0 (fun _ => true) true Tryz.f3.params.toList args.toList ds p := hA0
  have hV : DataW.TrodVars enc P W (fun _ => true) [] gs q := hV0
  rw [parsW] at hA hval
  obtain ⟨v0, v1, d0, d1, p0, p1, rfl, rfl, rfl, h0, h1⟩ := trodAll_two hA
  obtain ⟨rfl, rfl⟩ : gs = [] ∧ q = [] := by
    cases gs with
    | nil => exact ⟨rfl, hV⟩
    | cons g r => exact absurd hV (by intro h; cases h)
  have gl := gl_of (lW_plain hL) (by simp [lW, Rows.fnExactStoreWriteRow]) (by simp [lW, Rows.fnExactStoreWriteRow]) (by simp [lW, Rows.fnExactStoreWriteRow])
  obtain ⟨f0, g0⟩ := id h0
  obtain ⟨f1, g1⟩ := id h1
  rw [one_cell uEs (hval 1 22 v1 rfl rfl)] at g1
  obtain ⟨cs0, rfl⟩ := agg_of uSt (hval 0 30 v0 rfl rfl)
  obtain ⟨s, w0, hs, _, _, _, e0, r0⟩ := op_store (ρ := C0.ρ) (av := C0.avoid []) C0_av _ _ _ g0
  obtain rfl : w0 = .agg cs0 := by rw [e0 (by omega)]; rfl
  obtain ⟨b, w1, hb, _, _, e1, _, r1⟩ := op_ents (ρ := C0.ρ) (av := C0.avoid []) C0_av _ _ _ g1
  obtain rfl : w1 = v1 := by have := e1 rfl; simpa using this.symm
  refine ((w_law s b hs.1.1 hs.1.2.1 hs.1.2.2 hs.2.1 hs.2.2 hb) C0 W #[.agg cs0, w1] (C0_rel gl) ⟨rfl, fun j x hj => ?_⟩ ?_).mono ?_
  · match j, hj with
    | 0, hj => cases hj; exact r0
    | 1, hj => cases hj; exact r1
    | j + 2, hj => simp at hj
  · exact ⟨aV _ _, enB _ _, trivial⟩
  rintro e W' ⟨v, r, H', n', C', rfl, hn, ⟨rfl, rfl, rfl⟩, hR, hS, hv, _⟩
  cases hv
  have hbelow := C0_below hS
  have hl0 : ∀ x ∈ p0, x.block < W.heap.size := fun x hx => hlt x (by simp [hx])
  have hl1 : ∀ x ∈ p1, x.block < W.heap.size := fun x hx => hlt x (by simp [hx])
  refine ⟨_, rfl, [d0, d1], [], _, [], p0 ++ p1, [], hW', ?_, ?_, ?_, hbelow.frame _, fun h => by cases h⟩
  · exact trodAll_mk1 (shut_bool uB true)
  · exact trodAll_mk2 (Below.trod oLaid rdSt (of_decide_eq_true (by kernel_rfl)) h0 hbelow hl0) (Below.trod oLaid rdEs (of_decide_eq_true (by kernel_rfl)) h1 hbelow hl1)
  exact rfl
theorem f_holds : Rows.FnExactStoreWriteSaid :=
  OpenClaim.holds_of_wide 3 Tryz.f3 rfl rfl rfl rfl rfl rfl rfl ⟨rfl, rfl, rfl, rfl, rfl⟩ rfl rfl rfl rfl rfl (by kernel_rfl) Tryz.func3 (by kernel_rfl)
    (of_decide_eq_true (by kernel_rfl)) (by unfold Func.isWrapper; rw [if_neg (of_decide_eq_false (by kernel_rfl))]; exact ⟨rfl, rfl⟩)
    (fun os started H enc _ => law_lifted os started H enc)
end Go.Proofs.S
end
section
open Go
namespace Go.Proofs.YthbibdnkiklemaaGreatDoor
theorem fnExactStoreWrite_card : Rows.FnExactStoreWriteCardSaid :=
  Claim7.holds_tied_plain_at .later [] [.data, .data, .data, .sentinel, .sentinel] true (true, "84a6217a5bfb3aca5bb11f94d1427a067a1d81862944acb0a7be4fc2b7eb6dc6") true
    S.f_holds (fun _ h => by cases h) (by kernel_rfl) (fun _ h => by cases h) fnExactStoreWrite_row_tie rfl ⟨rfl, rfl⟩ (by kernel_rfl) rfl
    (fun f fn hf hfn => by
      obtain rfl : f = 3 := Option.some.inj ((show Tryz.prog.funcNamed "loop.example/comptoir/laws.FnExactStoreWrite" = some 3 by kernel_rfl).symm.trans hf) |>.symm
      obtain rfl : fn = Tryz.f3 := (Option.some.inj (Tryz.func3.symm.trans hfn)).symm
      exact ⟨by kernel_rfl, fun j t ht => by
        rw [S.parsW] at ht
        have h3 : t = 30 ∨ t = 22 := by
          rcases j with _ | _ | j
          · exact .inl (by simpa using ht.symm)
          · exact .inr (by simpa using ht.symm)
          simp at ht
        rcases h3 with rfl | rfl
        · exact (show Tryz.prog.wantsStandIn 30 = false by kernel_rfl)
        exact (show Tryz.prog.wantsStandIn 22 = false by kernel_rfl)⟩)
    (by kernel_rfl)
end Go.Proofs.YthbibdnkiklemaaGreatDoor
end
