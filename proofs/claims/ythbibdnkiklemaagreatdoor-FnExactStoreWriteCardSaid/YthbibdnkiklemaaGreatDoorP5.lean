/-
  The abstract layer, the walks and the plain laws that the claim leans on, part 5 of 7 (working texts S16 to S23). It proves lemmas alone; no condition of its own.
-/
import Derived.Test.YthbibdnkiklemaaGreatDoorP4
set_option linter.all false
set_option maxRecDepth 20000
section
open Go Go.Abs Go.Proofs
namespace Go.Proofs.S
def cH (seq : Int) (i : Nat) (e : Entry) : Entry := { e with seq := seq + 1 + i }
def stGo (seq : Int) : List Entry → Nat → List Entry → List Entry × Bool
  | [], _, out => (out, true)
  | e :: r, i, out => if e.seq = 0 then (if cY (cH seq i e) = true then stGo seq r (i + 1) (out ++ [cH seq i e]) else (out, false)) else (out, false)
def aI (b : List Entry) (seq : Int) : List Entry × Bool := ((stGo seq b 0 []).1, (stGo seq b 0 []).2 && (decide (1 ≤ (b.length : Int)) && decide ((b.length : Int) ≤ 12)))
theorem stGo_len (seq : Int) : ∀ (r : List Entry) (i : Nat) (out : List Entry), (stGo seq r i out).1.length ≤ out.length + r.length
  | [], i, out => by simp [stGo]
  | e :: r, i, out => by
    unfold stGo; split
    · split
      · have := stGo_len seq r (i + 1) (out ++ [cH seq i e])
        simp at this ⊢
        omega
      simp
    simp
theorem stGo_ok (seq : Int) : ∀ (r : List Entry) (i : Nat) (out : List Entry), (∀ e ∈ out, cY e = true) → ∀ e ∈ (stGo seq r i out).1, cY e = true
  | [], i, out, h => h
  | e :: r, i, out, h => by
    unfold stGo; split
    · split
      · rename_i hok
        exact stGo_ok seq r (i + 1) _ fun x hx => by
          rcases List.mem_append.1 hx with h1 | h1
          · exact h x h1
          rw [List.mem_singleton.1 h1]; exact hok
      exact h
    exact h
theorem entOk_small {e : Entry} (h : cY e = true) : e.key.size ≤ 1048576 ∧ e.text.size ≤ 1048576 := by
  have := entOk_range h; omega
theorem stampS_small {b : List Entry} {seq : Int} (hb : b.length ≤ 1048576) : sEnts (aI b seq).1 :=
  ⟨by have := stGo_len seq b 0 []; simp at this; exact Nat.le_trans this hb, fun e he => entOk_small (stGo_ok seq b 0 [] (by simp) e he)⟩
def writeBad (t : Tree) (b : List Entry) : Bool := !(aI b t.seq).2 || decide (60 < (t.mem.length : Int) + ((aI b t.seq).1.length : Int))
def writeS (t : Tree) (b : List Entry) : Tree × Bool := if writeBad t b = true then (t, false) else ({ t with mem := (aI b t.seq).1.foldl dH t.mem, seq := t.seq + ((aI b t.seq).1.length : Int) }, true)
theorem putEnt_mem {ls : List Entry} {e x : Entry} (h : x ∈ dH ls e) : x = e ∨ x ∈ ls := by
  unfold dH at h
  rcases List.mem_append.1 h with h | h
  · exact .inr (List.mem_of_mem_take h)
  rcases List.mem_cons.1 h with h | h
  · exact .inl h
  exact .inr (List.mem_of_mem_drop h)
theorem putAll_small : ∀ (r : List Entry) (m : List Entry), (∀ e ∈ r, e.key.size ≤ 1048576 ∧ e.text.size ≤ 1048576) → (∀ e ∈ m, e.key.size ≤ 1048576 ∧ e.text.size ≤ 1048576) → (r.foldl dH m).length = m.length + r.length ∧ ∀ e ∈ r.foldl dH m, e.key.size ≤ 1048576 ∧ e.text.size ≤ 1048576
  | [], m, _, h => ⟨by simp, h⟩
  | x :: r, m, hr, h => by
    have := putAll_small r (dH m x) (fun e he => hr e (List.mem_cons_of_mem _ he)) fun e he => by
      rcases putEnt_mem he with h1 | h1
      · rw [h1]; exact hr x List.mem_cons_self
      exact h e h1
    rw [putEnt_len] at this; simp only [List.foldl_cons, List.length_cons]
    exact ⟨by omega, this.2⟩
theorem frameS_ok (s : ByteArray) (hs : s.size ≤ 1048576) (a : Nat) (h : 0 ≤ (aR s a).2) : isB (aR s a).1 = true := by
  have hg := frameS_gt s a h
  unfold aR at h hg ⊢
  generalize hfb : frBody s a = b at h hg ⊢
  split
  · rename_i hb; rw [if_pos hb] at h; simp at h
  rename_i hb
  rw [if_neg hb] at h hg
  split
  · rename_i hc; rw [if_pos hc] at h; simp at h
  rename_i hc
  rw [if_neg hc] at h hg
  simp only at h hg ⊢
  by_cases hi : isB b = true
  · exact hi
  exfalso
  have he : fTx b = ⟨#[]⟩ := by unfold fTx; rw [if_neg hi]
  rw [he] at hc
  simp [frameBadAt] at hb
  have hsz : (s.extract a ((aT s (a : Int)).2 + (aT s (a : Int)).1 + 1).toNat).size = ((aT s (a : Int)).2 + (aT s (a : Int)).1 + 1).toNat - a := extract_size s _ _ (by omega)
  have key : ∀ x : ByteArray, x.toList.length = x.size := fun x => by rw [ByteArray.toList_eq]; rfl
  have hl := (key _).trans hsz
  have he2 : (⟨#[]⟩ : ByteArray).toList = (s.extract a ((aT s (a : Int)).2 + (aT s (a : Int)).1 + 1).toNat).toList := by simpa using hc
  rw [← he2, key] at hl
  have h0 : (⟨#[]⟩ : ByteArray).size = 0 := rfl
  omega
theorem readGo_ok (s : ByteArray) (hs : s.size ≤ 1048576) : ∀ (f a : Nat) (out : List (List Entry)), (∀ b ∈ out, isB b = true) → out.length ≤ a → a ≤ s.size → (∀ b ∈ (readGo s f a out).1, isB b = true) ∧ (readGo s f a out).1.length ≤ s.size
  | 0, a, out, h, hl, ha => ⟨h, by simp only [readGo]; omega⟩
  | f + 1, a, out, h, hl, ha => by
    unfold readGo; split
    · split
      · exact ⟨h, by simp only; omega⟩
      rename_i hn
      have h1 := frameS_gt s a (by omega)
      have h2 := frameS_le s a
      refine readGo_ok s hs f _ _ (fun b hb => ?_) (by simp; omega) (by omega)
      rcases List.mem_append.1 hb with h3 | h3
      · exact h b h3
      rw [List.mem_singleton.1 h3]; exact frameS_ok s hs a (by omega)
    exact ⟨h, by simp only; omega⟩
theorem readS_ok {s : ByteArray} (hs : s.size ≤ 1048576) : (∀ b ∈ (cN s).1, isB b = true) ∧ (cN s).1.length ≤ s.size := readGo_ok s hs s.size 0 [] (fun b hb => by cases hb) (Nat.le_refl 0) (Nat.zero_le _)
theorem isBatch_small {b : List Entry} (h : isB b = true) : sEnts b ∧ 1 ≤ b.length ∧ b.length ≤ 12 := by
  obtain ⟨h1, h2, h3⟩ := cC h
  exact ⟨⟨by omega, fun e he => entOk_small (h1 e he)⟩, h2, h3⟩
theorem memRow_small (seq : Int) : ∀ (b : List Entry) (st : List Entry × Int), (∀ e ∈ b, cY e = true) → (∀ e ∈ st.1, e.key.size ≤ 1048576 ∧ e.text.size ≤ 1048576) → (memRow seq st b).1.length ≤ st.1.length + b.length ∧ ∀ e ∈ (memRow seq st b).1, e.key.size ≤ 1048576 ∧ e.text.size ≤ 1048576
  | [], st, _, h => ⟨by simp [memRow], h⟩
  | x :: r, st, hb, h => by
    have h1 : (memStep seq st x).1.length ≤ st.1.length + 1 ∧ ∀ e ∈ (memStep seq st x).1, e.key.size ≤ 1048576 ∧ e.text.size ≤ 1048576 := by
      unfold memStep; split
      · simp only [putEnt_len]
        exact ⟨Nat.le_refl _, fun e he => by
          rcases putEnt_mem he with h2 | h2
          · rw [h2]; exact entOk_small (hb x List.mem_cons_self)
          exact h e h2⟩
      exact ⟨by omega, h⟩
    have h2 := memRow_small seq r (memStep seq st x) (fun e he => hb e (List.mem_cons_of_mem _ he)) h1.2
    simp only [memRow, List.foldl_cons, List.length_cons] at h2 ⊢
    exact ⟨by omega, h2.2⟩
theorem memS_small {bs : List (List Entry)} (seq : Int) (hb : ∀ b ∈ bs, isB b = true) : (memS bs seq).1.length ≤ 12 * bs.length ∧ ∀ e ∈ (memS bs seq).1, e.key.size ≤ 1048576 ∧ e.text.size ≤ 1048576 := by
  have aux : ∀ (bs : List (List Entry)) (st : List Entry × Int), (∀ b ∈ bs, isB b = true) → (∀ e ∈ st.1, e.key.size ≤ 1048576 ∧ e.text.size ≤ 1048576) → (bs.foldl (memRow seq) st).1.length ≤ st.1.length + 12 * bs.length ∧ ∀ e ∈ (bs.foldl (memRow seq) st).1, e.key.size ≤ 1048576 ∧ e.text.size ≤ 1048576 := by
    intro bs
    induction bs with
    | nil => intro st _ h; exact ⟨by simp, h⟩
    | cons b r ih =>
      intro st hb h
      obtain ⟨k1, k2, k3⟩ := cC (hb b List.mem_cons_self)
      have h1 := memRow_small seq b st k1 h
      have h2 := ih (memRow seq st b) (fun x hx => hb x (List.mem_cons_of_mem _ hx)) h1.2
      simp only [List.foldl_cons, List.length_cons]
      exact ⟨by omega, h2.2⟩
  have := aux bs ([], seq) hb (by simp)
  simpa [memS] using this
def zTree : Tree := ⟨0, [], [], []⟩
def zDisk : Disk := ⟨⟨#[]⟩, 0, [], 0⟩
def zStore : Store := ⟨false, zTree, zDisk⟩
def openS (s : Store) : Store :=
  ⟨true, ⟨(memS (cN s.disk.log).1 s.disk.seq).2, (memS (cN s.disk.log).1 s.disk.seq).1, s.disk.levels, []⟩, ⟨leftS (cN s.disk.log).1 s.disk.seq, ((leftS (cN s.disk.log).1 s.disk.seq).size : Int), s.disk.levels, s.disk.seq⟩⟩
def upBad (s : Store) : Bool := ((!bU s.tree || !decide (s.disk.levels = s.tree.levels)) || decide (s.disk.seq < 0)) || decide (s.tree.seq < s.disk.seq)
def upS (s : Store) : Bool := if upBad s = true then false else
  (decide ((cN s.disk.log).2 = (s.disk.log.size : Int)) && decide ((memS (cN s.disk.log).1 s.disk.seq).1 = s.tree.mem)) && decide ((memS (cN s.disk.log).1 s.disk.seq).2 = s.tree.seq)
def diskBad (s : Store) : Bool := (decide (12000 < (s.disk.log.size : Int)) || decide (s.disk.safe < 0)) || decide ((s.disk.log.size : Int) < s.disk.safe)
def bJ (s : Store) : Bool := if diskBad s = true then false else if bU ⟨s.disk.seq, [], s.disk.levels, []⟩ = false then false else
  if s.up = true then upS s else treeSame s.tree zTree && upS (openS s)
def copyS (s : Store) : Store := if s.up = true then s else { s with tree := zTree }
def write6Bad (s : Store) (b : List Entry) : Bool := (!s.up || !(writeS s.tree b).2) || decide (12000 < ((s.disk.log ++ fTx (aI b s.tree.seq).1).size : Int))
def write6S (s : Store) (b : List Entry) : Store × Bool := if write6Bad s b = true then (s, false) else (⟨s.up, (writeS s.tree b).1, { s.disk with log := s.disk.log ++ fTx (aI b s.tree.seq).1 }⟩, true)
def bD (s : Store) (b : List Entry) : Store × Bool := if bJ s = false then (zStore, false) else if (write6S (copyS s) b).2 = false then (copyS s, false) else ((write6S (copyS s) b).1, true)
theorem aV (U : Nat → Prop) (s : Store) : (stA s).bel U := ⟨trivial, trivial, enB _ _, dD _ _, intAV_bel _ _, trivial, trivial, dD _ _, trivial, trivial⟩
theorem treeAV_b (U : Nat → Prop) (t : Tree) : (trA t).bel U := ⟨trivial, enB _ _, dD _ _, intAV_bel _ _, trivial⟩
theorem w_spec_l5Stamp (b : List Entry) (seq : Int) (hb : bT b) (hl : b.length ≤ 1048576) (h0 : 0 ≤ seq) (h1 : seq ≤ 100000) : aB P 62 [.sl 5 (b.map enA), .raw (.int .i64 seq)] [] 0 (.tup [.sl 5 ((aI b seq).1.map enA), .raw (.bool (aI b seq).2)]) := by
 refine pw (N := 46) (vs := [.tmp 4, .tmp 5]) ⟨Tryz.func62, rfl, rfl⟩ rfl rfl (by simp) ?_
 simp only [eE]
 have hmx : maxLen = 9223372036854775807 := rfl
 refine sr rfl fun _ J => ?_; simp only [go_sem]; apply J; refine sr rfl fun _ k2 => ?_; simp only [go_sem]
 repeat (first | refine ⟨by first | omega | (intro hg; simp at hg; omega), ?_⟩ | fail)
 apply k2; refine sq fun _ k3 => ?_; refine sr rfl fun _ J => ?_; simp only [go_sem]; apply J; refine wb ?_
 refine wl (α := Nat × List Entry) (fun x => x.1 ≤ b.length ∧ x.2.length = x.1 ∧ stGo seq (b.drop x.1) x.1 x.2 = stGo seq b 0 []) (fun x => b.length - x.1) (fun x => ([(0, .sl 5 (b.map enA)), (1, .raw (.int .i64 seq)), (6, .ref 0), (7, .raw (.int .i64 (x.1 : Int)))], [(0, .row 65 5 (x.2.map enA))])) 1 (0, []) ⟨Nat.zero_le _, rfl, rfl⟩ [] ?_ ?_
 · simp only [go_sem, AObj.bel, List.map_nil, Int.natCast_zero] <;> simp
 rintro ⟨i, out⟩ ⟨hi, hol, hgo⟩
 simp only at hi hol hgo ⊢
 refine sq fun _ k5 => ?_; refine sr rfl fun _ J => ?_; simp only [go_sem]; apply J
 refine cd rfl (fun hc1 => ?_) fun hc1 => ?_
 · have hlt : i < b.length := (by simpa using hc1); obtain ⟨l, hlx, hdrop, hml⟩ := ix hlt
   have hw1 : IntKind.i64.wrap (seq + 1) = seq + 1 := by rw [IntKind.wrap_i64]; omega
   have hw2 : IntKind.i64.wrap (seq + 1 + (i : Int)) = seq + 1 + i := by rw [IntKind.wrap_i64]; omega
   rw [hdrop, stGo] at hgo; refine wk ?_; apply k5; refine sq fun _ k7 => ?_; refine wb ?_; refine sr rfl fun _ k8 => ?_; simp only [go_sem, hlx, enA]
   repeat (first | refine ⟨by first | omega | (intro hg; simp at hg; omega), ?_⟩ | fail)
   apply k8; refine sq fun _ k9 => ?_; refine sr rfl fun _ J => ?_; simp only [go_sem, enA]; apply J
   refine cd rfl (fun hc2 => ?_) fun hc2 => ?_
   · have hne : ¬ l.seq = 0 := by simpa using hc2
     rw [if_neg hne] at hgo; refine sr rfl fun _ J => ?_; simp only [go_sem]; apply J
     refine aFz 0 rfl ?_
     simp only [go_sem, fzL, AV.fz]; refine wR ?_; simp only [go_sem, lQ]
     refine fO ?_ ⟨enB _ _, trivial, trivial⟩
     simp only [go_sem, aI, ← hgo, Bool.false_and]
   have hne : l.seq = 0 := by simpa using hc2
   rw [if_pos hne] at hgo; refine wk ?_; apply k9; refine sr rfl fun _ J => ?_; simp only [go_sem, hw1, hw2]; apply J; refine sq fun _ k13 => ?_; refine sr rfl fun _ k14 => ?_; simp only [go_sem]
   refine vp rfl rfl rfl ⟨Tryz.func107, rfl, rfl⟩ (w_spec_EntryOk (cH seq i l) (hb.2 l hml)) (by simp only [go_sem, enA, cH]) (by simp only [go_sem, enA, cH]) ?_
   simp only [go_sem]; apply k14
   refine cd rfl (fun hc3 => ?_) fun hc3 => ?_
   · have hok : ¬ cY (cH seq i l) = true := by simpa using hc3
     rw [if_neg hok] at hgo; refine sr rfl fun _ J => ?_; simp only [go_sem]; apply J
     refine aFz 0 rfl ?_
     simp only [go_sem, fzL, AV.fz]; refine wR ?_; simp only [go_sem, lQ]
     refine fO ?_ ⟨enB _ _, trivial, trivial⟩
     simp only [go_sem, aI, ← hgo, Bool.false_and]
   have hok : cY (cH seq i l) = true := by simpa using hc3
   have hst2 := (if_pos hok : (if cY (cH seq i l) = true then stGo seq (b.drop (i + 1)) (i + 1) (out ++ [cH seq i l]) else (out, false)) = _)
   refine wk ?_; apply k13; refine wg rfl ?_; simp only [go_sem, List.length_take, List.length_append, List.nil_append, List.length_map, List.length_drop, enA]
   repeat (first | refine ⟨by first | omega | (intro hg; simp at hg; omega), ?_⟩ | fail)
   try simp only [go_sem, lQ]
   apply k7
   have hw : IntKind.i64.wrap ((i : Int) + 1) = ((i + 1 : Nat) : Int) := by rw [IntKind.wrap_i64]; omega
   refine wg rfl ?_; simp only [go_sem, hw]; try simp only [go_sem, lQ]
   refine ⟨(i + 1, out ++ [cH seq i l]), ⟨by omega, by simp [hol], by rw [hst2] at hgo; exact hgo⟩, by omega, [(0, 3)], ?_⟩
   simp only [go_sem, AObj.bel, AObj.ren, AV.ren, aA, sg] <;> simp [enA, cH]
 have hge : b.length ≤ i := Nat.not_lt.1 (by simpa using hc1)
 have hie : i = b.length := by omega
 rw [List.drop_eq_nil_of_le hge, stGo] at hgo; refine we ?_; try simp only [go_sem, lQ]
 apply k3; refine sr rfl fun _ J => ?_; simp only [go_sem]; apply J
 refine aFz 0 rfl ?_
 simp only [go_sem, fzL, AV.fz]; refine wR ?_
 refine fO ?_ ⟨enB _ _, trivial, trivial⟩
 simp only [go_sem, aI, ← hgo, Bool.true_and]
theorem w_spec_l5Write (t : Tree) (b : List Entry) (hb : bT b) (hl : b.length ≤ 1048576) (hm : t.mem.length ≤ 1048576) (h0 : 0 ≤ t.seq) (h1 : t.seq ≤ 100000) : aB P 63 [trA t, .sl 5 (b.map enA)] [] 0 (.tup [trA (writeS t b).1, .raw (.bool (writeS t b).2)]) := by
 refine pw (N := 49) (vs := [.cell 4 36, .tmp 5]) ⟨Tryz.func63, rfl, rfl⟩ rfl rfl (by simp) ?_
 simp only [eE, trA]; refine sr rfl fun _ J => ?_; simp only [go_sem]; apply J; refine sr rfl fun _ k2 => ?_; simp only [go_sem]
 refine vp rfl rfl rfl ⟨Tryz.func62, rfl, rfl⟩ (w_spec_l5Stamp b t.seq hb hl h0 h1) (by simp only [go_sem]) (by simp only [go_sem]) ?_
 simp only [go_sem]
 have hsm := stampS_small (seq := t.seq) hl
 obtain ⟨hs1, hs2⟩ := hsm
 apply k2; refine sq fun _ k3 => ?_
 have hw1 : IntKind.i64.wrap ((t.mem.length : Int) + ((aI b t.seq).1.length : Int)) = (t.mem.length : Int) + ((aI b t.seq).1.length : Int) := by rw [IntKind.wrap_i64]; omega
 refine sr rfl fun _ J => ?_; simp only [go_sem, hw1]; apply J
 refine cd rfl (fun hc1 => ?_) fun hc1 => ?_
 · have hbd : writeBad t b = true := hc1
   refine sr rfl fun _ J => ?_; simp only [go_sem]; apply J; refine wR ?_
   refine fO ?_ ⟨⟨trivial, enB _ _, dD _ _, intAV_bel _ _, trivial⟩, trivial, trivial⟩
   simp only [go_sem, writeS, hbd, if_true, trA]
 have hbd : writeBad t b = false := hc1
 refine wk ?_; apply k3; refine sq fun _ k6 => ?_; refine sr rfl fun _ J => ?_; simp only [go_sem]; apply J; refine wb ?_
 refine wl (α := Nat × List Entry) (fun x => x.1 ≤ (aI b t.seq).1.length ∧ x.2.length = t.mem.length + x.1 ∧ ((aI b t.seq).1.drop x.1).foldl dH x.2 = (aI b t.seq).1.foldl dH t.mem) (fun x => (aI b t.seq).1.length - x.1) (fun x => ([(2, .ptr 0 0), (4, .ptr 1 0), (6, .sl 5 ((aI b t.seq).1.map enA)), (8, .raw (.int .i64 (x.1 : Int)))], [(0, .cells 36 [.raw (.int .i64 t.seq), .sl 5 (x.2.map enA), .sl 1 (t.levels.map rsA), .sl 1 (t.snaps.map inA)]), (1, .cells 36 [.raw (.int .i64 0), .raw (.slice none 0 0), .raw (.slice none 0 0), .raw (.slice none 0 0)])])) 2 (0, t.mem) ⟨Nat.zero_le _, rfl, rfl⟩ [] ?_ ?_
 · simp only [go_sem, AObj.bel, Int.natCast_zero] <;> simp
 rintro ⟨i, m⟩ ⟨hi, hml, hfold⟩
 simp only at hi hml hfold ⊢
 refine sq fun _ k8 => ?_; refine sr rfl fun _ J => ?_; simp only [go_sem]; apply J
 refine cd rfl (fun hc2 => ?_) fun hc2 => ?_
 · have hlt : i < (aI b t.seq).1.length := by simpa using hc2
   obtain ⟨l, hlx, hdrop, hml2⟩ := ix hlt; refine wk ?_; apply k8; refine sq fun _ k10 => ?_; refine wb ?_
   refine awp_draw mixed rfl ?_
   simp only [go_sem, hlx, enA]
   repeat (first | refine ⟨by first | omega | (intro hg; simp at hg; omega), ?_⟩ | fail)
   refine tp rfl rfl rfl ⟨Tryz.func108, rfl, rfl⟩ (w_spec_l4Put m l (by omega)) (by simp only [go_sem, enA]) (by simp only [go_sem, enA]) ?_
   simp only [go_sem, hlx, enA]; refine ⟨by rfl, ?_⟩; try simp only [go_sem, lQ]
   apply k10
   have hw : IntKind.i64.wrap ((i : Int) + 1) = ((i + 1 : Nat) : Int) := by rw [IntKind.wrap_i64]; omega
   refine wg rfl ?_; simp only [go_sem, hw]; try simp only [go_sem, lQ]
   refine ⟨(i + 1, dH m l), ⟨by omega, by simp only [putEnt_len]; omega, by rw [hdrop] at hfold; exact hfold⟩, by omega, [], ?_⟩
   simp only [go_sem, AObj.bel] <;> simp
 have hge : (aI b t.seq).1.length ≤ i := by have h9 : ¬ i < (aI b t.seq).1.length := (by simpa using hc2); omega
 rw [List.drop_eq_nil_of_le hge] at hfold; refine we ?_; try simp only [go_sem, lQ]
 apply k6
 have hw2 : IntKind.i64.wrap (t.seq + ((aI b t.seq).1.length : Int)) = t.seq + ((aI b t.seq).1.length : Int) := by rw [IntKind.wrap_i64]; omega
 refine sr rfl fun _ J => ?_; simp only [go_sem, hw2]; apply J; refine sr rfl fun _ k12 => ?_; simp only [go_sem]; apply k12; refine wR ?_
 have h9 : (aI b t.seq).1.foldl dH t.mem = m := hfold.symm
 refine fO ?_ ⟨⟨trivial, enB _ _, dD _ _, intAV_bel _ _, trivial⟩, trivial, trivial⟩
 simp only [go_sem, writeS, hbd, Bool.false_eq_true, if_false, trA, h9]
theorem w_spec_l6Copy (s : Store) (hs : bE s) : aB P 29 [stA s] [] 0 (stA (copyS s)) := by
 refine pw (N := 21) (vs := [.cell 2 40]) ⟨Tryz.func29, rfl, rfl⟩ rfl rfl (by simp) ?_
 simp only [eE, stA]; refine sr rfl fun _ J => ?_; simp only [go_sem]; apply J; refine sr rfl fun _ k2 => ?_; simp only [go_sem]; apply k2; refine sr rfl fun _ k3 => ?_; simp only [go_sem]
 refine vp rfl rfl rfl ⟨Tryz.func65, rfl, rfl⟩ ((cQ (w_spec_l5Copy_o s.tree hs.1) (by simp only [go_sem, trA]) (by simp only [go_sem, trA]) : aB P 65 [trA s.tree] [] 0 (trA s.tree))) (by simp only [go_sem, trA]) (by simp only [go_sem, trA]) ?_
 simp only [go_sem, trA]; apply k3; refine sq fun _ k4 => ?_; refine sr rfl fun _ J => ?_; simp only [go_sem]; apply J
 refine cd rfl (fun hc1 => ?_) fun hc1 => ?_
 · have hu : s.up = false := by simpa using hc1
   refine wg rfl ?_; simp only [go_sem]; apply k4; refine sr rfl fun _ k6 => ?_; simp only [go_sem]
   refine vp rfl rfl rfl ⟨Tryz.func48, rfl, rfl⟩ ((cQ (w_spec_l5CopyLevels_o s.disk.levels hs.2) (by simp only [go_sem]) (by simp only [go_sem]) : aB P 48 [.sl 1 (s.disk.levels.map rsA)] [] 0 (.sl 1 (s.disk.levels.map rsA)))) (by simp only [go_sem]) (by simp only [go_sem]) ?_
   simp only [go_sem]; apply k6; refine sr rfl fun _ J => ?_; simp only [go_sem]; apply J
   refine awp_cellsLe 1 (ds := [.raw (.bool s.up), .raw (.int .i64 0), .sl 5 [], .sl 1 [], .sl 1 [], .raw (.string s.disk.log), .raw (.int .i64 s.disk.safe), .sl 1 (s.disk.levels.map rsA), .raw (.int .i64 s.disk.seq)]) rfl (by repeat (first | exact LeL.nil | refine LeL.cons (by first | exact Le.refl _ | exact Le.nil _) ?_)) (by simp only [go_sem]) ?_
   simp only [go_sem]; refine wR ?_
   refine fO ?_ (aV _ _)
   simp only [go_sem, copyS, hu, Bool.false_eq_true, if_false, stA, zTree, List.map_nil]
 have hu : s.up = true := by simpa using hc1
 refine wk ?_; apply k4; refine sr rfl fun _ k8 => ?_; simp only [go_sem]
 refine vp rfl rfl rfl ⟨Tryz.func48, rfl, rfl⟩ ((cQ (w_spec_l5CopyLevels_o s.disk.levels hs.2) (by simp only [go_sem]) (by simp only [go_sem]) : aB P 48 [.sl 1 (s.disk.levels.map rsA)] [] 0 (.sl 1 (s.disk.levels.map rsA)))) (by simp only [go_sem]) (by simp only [go_sem]) ?_
 simp only [go_sem]; apply k8; refine sr rfl fun _ J => ?_; simp only [go_sem]; apply J; refine wR ?_
 refine fO ?_ (aV _ _)
 simp only [go_sem, copyS, hu, if_true, stA]
section
variable {i j m : Nat}
theorem bl_irrefl : ∀ x : List UInt8, Op.bytesLess x x = false
  | [] => rfl
  | a :: x => by simp [Op.bytesLess, bl_irrefl x]
theorem bl_trans : ∀ x y z : List UInt8, Op.bytesLess x y = true → Op.bytesLess y z = true → Op.bytesLess x z = true
  | [], _ :: _, _ :: _, _, _ => rfl
  | [], [], _, h, _ => by cases h
  | _ :: _, [], _, h, _ => by cases h
  | _, _ :: _, [], _, h => by cases h
  | a :: x, b :: y, c :: z, h1, h2 => by
    simp only [Op.bytesLess, Bool.or_eq_true, decide_eq_true_eq, Bool.and_eq_true, beq_iff_eq] at h1 h2 ⊢
    rcases h1 with h1 | ⟨h1, h1'⟩ <;> rcases h2 with h2 | ⟨h2, h2'⟩
    · exact .inl (UInt8.lt_trans h1 h2)
    · exact .inl (h2 ▸ h1)
    · exact .inl (h1 ▸ h2)
    exact .inr ⟨h1.trans h2, bl_trans x y z h1' h2'⟩
theorem bl_tri : ∀ x y : List UInt8, Op.bytesLess x y = false → Op.bytesLess y x = false → x = y
  | [], [], _, _ => rfl
  | [], _ :: _, h, _ => by cases h
  | _ :: _, [], _, h => by cases h
  | a :: x, b :: y, h1, h2 => by
    simp only [Op.bytesLess, Bool.or_eq_false_iff, decide_eq_false_iff_not, Bool.and_eq_false_iff] at h1 h2
    have hab : a = b := UInt8.le_antisymm (UInt8.not_lt.1 h2.1) (UInt8.not_lt.1 h1.1)
    subst hab
    have e1 := h1.2.resolve_left (by simp)
    have e2 := h2.2.resolve_left (by simp)
    rw [bl_tri x y e1 e2]
theorem bl_neg (x y z : List UInt8) (h1 : Op.bytesLess x y = false) (h2 : Op.bytesLess y z = false) : Op.bytesLess x z = false := by
  cases h3 : Op.bytesLess x z with
  | false => rfl
  | true =>
    cases h4 : Op.bytesLess y x with
    | true => have := bl_trans y x z h4 h3; rw [h2] at this; cases this
    | false => have := bl_tri x y h1 h4; subst this; rw [h2] at h3; cases h3
theorem bl_asymm {x y : List UInt8} (h : Op.bytesLess x y = true) : Op.bytesLess y x = false := by
  cases h4 : Op.bytesLess y x with
  | false => rfl
  | true => have := bl_trans x y x h h4; rw [bl_irrefl] at this; cases this
theorem entLt_wo : Plain.WO entLt fun _ => True where
  irrefl := fun x _ => by simp [entLt, bl_irrefl]
  trans := fun x y z _ _ _ h1 h2 => by
    simp only [entLt, Bool.or_eq_true, Bool.and_eq_true, beq_iff_eq, decide_eq_true_eq] at h1 h2 ⊢
    rcases h1 with h1 | ⟨h1, h1'⟩ <;> rcases h2 with h2 | ⟨h2, h2'⟩
    · exact .inl (bl_trans _ _ _ h1 h2)
    · exact .inl (h2 ▸ h1)
    · exact .inl (h1 ▸ h2)
    exact .inr ⟨h1.trans h2, by omega⟩
  neg := fun x y z _ _ _ h1 h2 => by
    simp only [entLt, Bool.or_eq_false_iff, Bool.and_eq_false_iff, beq_eq_false_iff_ne, decide_eq_false_iff_not] at h1 h2 ⊢
    refine ⟨bl_neg _ _ _ h1.1 h2.1, ?_⟩
    by_cases e : x.key.toList = z.key.toList
    · right
      have hzy : Op.bytesLess z.key.toList y.key.toList = false := e ▸ h1.1
      have e2 := bl_tri _ _ hzy h2.1
      have e1 := e.trans e2
      have k1 := h1.2.resolve_left (fun h => h e1)
      have k2 := h2.2.resolve_left (fun h => h e2.symm)
      omega
    exact .inl e
def cmpS (x y : ByteArray) : Int := if Op.bytesLess x.toList y.toList = true then -1 else if Op.bytesLess y.toList x.toList = true then 1 else 0
def cmpI (x y : Int) : Int := if x < y then -1 else if y < x then 1 else 0
def entCmp (a b : Entry) : Int := if cmpS a.key b.key ≠ 0 then cmpS a.key b.key else cmpI b.seq a.seq
theorem entCmp_lt (a b : Entry) : decide (entCmp a b < 0) = entLt a b := by
  unfold entCmp cmpS cmpI entLt
  by_cases h1 : Op.bytesLess a.key.toList b.key.toList = true
  · simp [h1]
  by_cases h2 : Op.bytesLess b.key.toList a.key.toList = true
  · have : ¬ a.key.toList = b.key.toList := fun e => by rw [e, bl_irrefl] at h2; cases h2
    simp [h1, h2, this]
  have e := bl_tri _ _ (by simpa using h1) (by simpa using h2)
  rw [e]; simp only [bl_irrefl, Bool.false_eq_true, if_false, ne_eq, not_true_eq_false, beq_self_eq_true, Bool.true_and, Bool.false_or]; split
  · rename_i h; simp [h]
  rename_i h
  split <;> simp [h]
theorem keyOk_len {s : ByteArray} (h : keyOk s = true) : 1 ≤ s.size ∧ s.size ≤ 8 := by
  simp [keyOk] at h; omega
theorem set_ne {α : Type} {l : List α} (h : i ≠ j) (y : α) : (l.set i y)[j]? = l[j]? := List.getElem?_set_ne h
abbrev bH (d : Nat → Entry) (n : Nat) (σ : Nat → Nat) : AObj := .row 65 5 ((List.range n).map fun k => enA (d (σ k)))
abbrev cmpE : AV := .fn (.func 141) [] []
theorem rowE_bel (U : Nat → Prop) (d : Nat → Entry) (n : Nat) (σ : Nat → Nat) : aC U ((List.range n).map fun k => enA (d (σ k))) := by
  rw [bLi]; intro x hx; obtain ⟨k, _, rfl⟩ := List.mem_map.1 hx; exact entAV_b U _
theorem rowE_ren (s : Nat → Nat) (d : Nat → Entry) (n : Nat) (σ : Nat → Nat) : aA s ((List.range n).map fun k => enA (d (σ k))) = (List.range n).map fun k => enA (d (σ k)) := cX s (rowE_bel _ d n σ)
attribute [go_sem] rowE_bel rowE_ren
theorem row_sw (d : Nat → Entry) (n : Nat) (σ : Nat → Nat) {p q : Nat} (hp : p < n) (hq : q < n) : (((List.range n).map fun k => enA (d (σ k))).set p (enA (d (σ q)))).set q (enA (d (σ p))) = (List.range n).map fun k => enA (d (Plain.swp σ p q k)) := by
  refine List.ext_getElem? fun i => ?_
  rw [List.getElem?_set, List.getElem?_set, List.getElem?_map, List.getElem?_map]; simp only [List.length_set, List.length_map, List.length_range]
  by_cases hi : i < n
  · rw [List.getElem?_range hi]; unfold Plain.swp; simp only [Option.map_some]
    by_cases h1 : i = q
    · subst h1; rw [if_pos rfl, if_pos hi]
      by_cases h2 : i = p
      · subst h2; simp
      rw [if_neg h2, if_pos rfl]
    rw [if_neg (fun e => h1 e.symm)]
    by_cases h2 : i = p
    · subst h2; rw [if_pos rfl, if_pos rfl, if_pos hp]
    rw [if_neg (fun e => h2 e.symm), if_neg h2, if_neg h1]
  rw [List.getElem?_eq_none (by simp; omega)]; rw [if_neg (by omega), if_neg (by omega)]; rfl
def swr (σ : Nat → Nat) (a b m : Nat) : Nat → Nat := fun k => if a ≤ k ∧ k < a + m then σ (k - a + b) else if b ≤ k ∧ k < b + m then σ (k - b + a) else σ k
theorem swr_step (σ : Nat → Nat) {a b i : Nat} (h : a + i < b) : Plain.swp (swr σ a b i) (a + i) (b + i) = swr σ a b (i + 1) := by
  funext k
  unfold Plain.swp swr
  by_cases h1 : k = a + i
  · subst h1; rw [if_pos rfl, if_neg (by omega), if_neg (by omega), if_pos (by omega)]
    congr 1; omega
  rw [if_neg h1]
  by_cases h2 : k = b + i
  · subst h2; rw [if_pos rfl, if_neg (by omega), if_neg (by omega), if_neg (by omega), if_pos (by omega)]
    congr 1; omega
  rw [if_neg h2]
  by_cases h3 : a ≤ k ∧ k < a + i
  · rw [if_pos h3, if_pos (by omega)]
  rw [if_neg h3]
  by_cases h4 : b ≤ k ∧ k < b + i
  · rw [if_pos h4, if_neg (by omega), if_pos (by omega)]
  rw [if_neg h4, if_neg (by omega), if_neg (by omega)]
theorem swr_zero (σ : Nat → Nat) (a b : Nat) : swr σ a b 0 = σ := by
  funext k; unfold swr; rw [if_neg (by omega), if_neg (by omega)]
theorem rot_big (σ : Nat → Nat) (h1 : j < i) (h2 : i ≤ m) (h3 : 0 < j) : Plain.rot (swr σ (m - i) m j) (m - (i - j)) m (m + j) = Plain.rot σ (m - i) m (m + j) := by
  funext k
  unfold Plain.rot swr
  repeat' split
  all_goals first | (exfalso; omega) | (congr 1; omega) | rfl
theorem rot_small (σ : Nat → Nat) (h1 : i < j) (h2 : i ≤ m) (h3 : 0 < i) : Plain.rot (swr σ (m - i) (m + j - i) i) (m - i) m (m + (j - i)) = Plain.rot σ (m - i) m (m + j) := by
  funext k
  unfold Plain.rot swr
  repeat' split
  all_goals first | (exfalso; omega) | (congr 1; omega) | rfl
theorem rot_eq (σ : Nat → Nat) (h2 : i ≤ m) : swr σ (m - i) m i = Plain.rot σ (m - i) m (m + i) := by
  funext k
  unfold Plain.rot swr; simp only [Nat.add_sub_cancel_left]
  by_cases c1 : m - i ≤ k ∧ k < m - i + i
  · rw [if_pos c1, if_pos c1]; congr 1; omega
  rw [if_neg c1, if_neg c1]
  by_cases c2 : m ≤ k ∧ k < m + i
  · rw [if_pos c2, if_pos (by omega)]; congr 1; omega
  rw [if_neg c2, if_neg (by omega)]
def orI : List Int → Int
  | [] => 0
  | x :: r => if x = 0 then orI r else x
theorem entCmp_or (a b : Entry) : orI [cmpS a.key b.key, cmpI b.seq a.seq] = entCmp a b := by
  unfold entCmp
  by_cases h : cmpS a.key b.key = 0
  · rw [if_neg (by simp [h]), orI, if_pos h, orI, orI]
    split <;> rename_i h2
    · exact h2.symm
    rfl
  rw [if_pos h, orI, if_neg h]
theorem w_cmp_isNaN_string (s : ByteArray) : aB P 213 [.raw (.string s)] [] 0 (.raw (.bool false)) := by
 refine pw (N := 6) (vs := [.tmp 2]) ⟨Tryz.func213, rfl, rfl⟩ rfl rfl (by simp) ?_
 simp only [eE]; refine sr rfl fun _ J => ?_; simp only [go_sem]; apply J; refine sr rfl fun _ k2 => ?_; simp only [go_sem]; apply k2; refine wR ?_; refine fO ?_ trivial; simp only [go_sem, beq_self_eq_true, Bool.not_true]
theorem w_cmp_isNaN_int (n : Int) : aB P 214 [.raw (.int .i64 n)] [] 0 (.raw (.bool false)) := by
 refine pw (N := 6) (vs := [.tmp 2]) ⟨Tryz.func214, rfl, rfl⟩ rfl rfl (by simp) ?_
 simp only [eE]; refine sr rfl fun _ J => ?_; simp only [go_sem]; apply J; refine sr rfl fun _ k2 => ?_; simp only [go_sem]; apply k2; refine wR ?_; refine fO ?_ trivial; simp only [go_sem, decide_true, Bool.not_true]
theorem w_cmp_Compare_string (x y : ByteArray) : aB P 189 [.raw (.string x), .raw (.string y)] [] 0 (.raw (.int .i64 (cmpS x y))) := by
 refine pw (N := 20) (vs := [.tmp 4]) ⟨Tryz.func189, rfl, rfl⟩ rfl rfl (by simp) ?_
 simp only [eE]; refine sr rfl fun _ J => ?_; simp only [go_sem]; apply J; refine sr rfl fun _ k2 => ?_; simp only [go_sem]
 refine vp rfl rfl rfl ⟨Tryz.func213, rfl, rfl⟩ (w_cmp_isNaN_string x) (by simp only [go_sem]) (by simp only [go_sem]) ?_
 simp only [go_sem]; apply k2; refine sr rfl fun _ k3 => ?_; simp only [go_sem]
 refine vp rfl rfl rfl ⟨Tryz.func213, rfl, rfl⟩ (w_cmp_isNaN_string y) (by simp only [go_sem]) (by simp only [go_sem]) ?_
 simp only [go_sem]; apply k3; refine sq fun _ k4 => ?_; refine sr rfl fun _ J => ?_; simp only [go_sem]; apply J
 refine cd rfl (fun hc => by simp at hc) fun hc1 => ?_
 refine wk ?_; apply k4; refine sq fun _ k6 => ?_; refine sr rfl fun _ J => ?_; simp only [go_sem]; apply J
 refine cd rfl (fun hc => by simp at hc) fun hc2 => ?_
 refine wk ?_; apply k6; refine sq fun _ k8 => ?_; refine sr rfl fun _ J => ?_; simp only [go_sem]; apply J
 refine cd rfl (fun hc3 => ?_) fun hc3 => ?_
 · refine sr rfl fun _ J => ?_; simp only [go_sem]; apply J; refine wR ?_; refine fO ?_ trivial; simp only [go_sem, cmpS, if_pos hc3]
 refine wk ?_; apply k8; refine sq fun _ k11 => ?_; refine sr rfl fun _ J => ?_; simp only [go_sem]; apply J
 refine cd rfl (fun hc4 => ?_) fun hc4 => ?_
 · refine sr rfl fun _ J => ?_; simp only [go_sem]; apply J; refine wR ?_
   have h9 : cmpS x y = 1 := by
     unfold cmpS; rw [hc3]; simp at hc4
     cases h8 : Op.bytesLess y.toList x.toList with
     | true => simp
     | false => exact absurd (bl_tri _ _ hc3 h8) hc4.2
   refine fO ?_ trivial; simp only [go_sem, h9]
 refine wk ?_; apply k11; refine sr rfl fun _ J => ?_; simp only [go_sem]; apply J; refine wR ?_
 have h9 : cmpS x y = 0 := by
   unfold cmpS; simp at hc4; rw [hc3, hc4 hc3, bl_irrefl]
   simp
 refine fO ?_ trivial; simp only [go_sem, h9]
theorem w_cmp_Compare_int (x y : Int) : aB P 190 [.raw (.int .i64 x), .raw (.int .i64 y)] [] 0 (.raw (.int .i64 (cmpI x y))) := by
 refine pw (N := 20) (vs := [.tmp 4]) ⟨Tryz.func190, rfl, rfl⟩ rfl rfl (by simp) ?_
 simp only [eE]; refine sr rfl fun _ J => ?_; simp only [go_sem]; apply J; refine sr rfl fun _ k2 => ?_; simp only [go_sem]
 refine vp rfl rfl rfl ⟨Tryz.func214, rfl, rfl⟩ (w_cmp_isNaN_int x) (by simp only [go_sem]) (by simp only [go_sem]) ?_
 simp only [go_sem]; apply k2; refine sr rfl fun _ k3 => ?_; simp only [go_sem]
 refine vp rfl rfl rfl ⟨Tryz.func214, rfl, rfl⟩ (w_cmp_isNaN_int y) (by simp only [go_sem]) (by simp only [go_sem]) ?_
 simp only [go_sem]; apply k3; refine sq fun _ k4 => ?_; refine sr rfl fun _ J => ?_; simp only [go_sem]; apply J
 refine cd rfl (fun hc => by simp at hc) fun hc1 => ?_
 refine wk ?_; apply k4; refine sq fun _ k6 => ?_; refine sr rfl fun _ J => ?_; simp only [go_sem]; apply J
 refine cd rfl (fun hc => by simp at hc) fun hc2 => ?_
 refine wk ?_; apply k6; refine sq fun _ k8 => ?_; refine sr rfl fun _ J => ?_; simp only [go_sem]; apply J
 refine cd rfl (fun hc3 => ?_) fun hc3 => ?_
 · have n3 : x < y := by simpa using hc3
   refine sr rfl fun _ J => ?_; simp only [go_sem]; apply J; refine wR ?_; refine fO ?_ trivial; simp only [go_sem, cmpI, if_pos n3]
 have n3 : ¬ (x < y) := by simpa using hc3
 refine wk ?_; apply k8; refine sq fun _ k11 => ?_; refine sr rfl fun _ J => ?_; simp only [go_sem]; apply J
 refine cd rfl (fun hc4 => ?_) fun hc4 => ?_
 · have n4 : y < x := by simpa using hc4
   refine sr rfl fun _ J => ?_; simp only [go_sem]; apply J; refine wR ?_; refine fO ?_ trivial; simp only [go_sem, cmpI, if_neg n3, if_pos n4]
 have n4 : ¬ (y < x) := by simpa using hc4
 refine wk ?_; apply k11; refine sr rfl fun _ J => ?_; simp only [go_sem]; apply J; refine wR ?_; refine fO ?_ trivial; simp only [go_sem, cmpI, if_neg n3, if_neg n4]
theorem w_cmp_Or_int (ls : List Int) (hz : ls.length ≤ 4611686018427387904) : aB P 188 [.sl 1 (ls.map inA)] [] 0 (.raw (.int .i64 (orI ls))) := by
 refine pw (N := 18) (vs := [.tmp 2]) ⟨Tryz.func188, rfl, rfl⟩ rfl rfl (by simp) ?_
 simp only [eE]; refine sr rfl fun _ J => ?_; simp only [go_sem]; apply J; refine sr rfl fun _ k2 => ?_; simp only [go_sem]; apply k2; refine sq fun _ k3 => ?_; refine sr rfl fun _ J => ?_; simp only [go_sem]; apply J; refine wb ?_
 refine wl (α := Nat) (fun x => x ≤ ls.length ∧ orI (ls.drop x) = orI ls) (fun x => ls.length - x) (fun x => ([(3, .raw (.int .i64 0)), (6, .sl 1 (ls.map inA)), (7, .raw (.int .i64 (ls.length : Int))), (8, .raw (.int .i64 (x : Int)))], [])) 0 0 ⟨Nat.zero_le _, rfl⟩ [] ?_ ?_
 · simp only [go_sem, Int.natCast_zero] <;> simp
 rintro i ⟨hi, hor⟩
 refine sr rfl fun _ J => ?_; simp only [go_sem]; apply J; refine sq fun _ k6 => ?_
 refine cd rfl (fun hc1 => ?_) fun hc1 => ?_
 · have hlt : i < ls.length := (by simpa using hc1); obtain ⟨l, hl, hdrop, hml⟩ := ix hlt; refine wk ?_; apply k6; refine sq fun _ k7 => ?_; refine wb ?_; refine sr rfl fun _ k8 => ?_; simp only [go_sem, hl, inA]
   repeat (first | refine ⟨by first | omega | (intro hg; simp at hg; omega), ?_⟩ | fail)
   apply k8; refine sr rfl fun _ J => ?_; simp only [go_sem]; apply J
   refine cd rfl (fun hc2 => ?_) fun hc2 => ?_
   · have n2 : ¬ l = 0 := by simpa using hc2
     refine sr rfl fun _ J => ?_; simp only [go_sem]; apply J; refine wR ?_; simp only [go_sem, lQ]; rw [hdrop, orI, if_neg n2] at hor; refine fO ?_ trivial; simp only [go_sem, hor]
   have n2 : l = 0 := by simpa using hc2
   refine wk ?_; try simp only [go_sem, lQ]
   apply k7
   have hw : IntKind.i64.wrap ((i : Int) + 1) = ((i + 1 : Nat) : Int) := by rw [IntKind.wrap_i64]; omega
   refine wg rfl ?_; simp only [go_sem, hw]; try simp only [go_sem, lQ]
   refine ⟨i + 1, ⟨by omega, by rw [hdrop, orI, if_pos n2] at hor; exact hor⟩, by omega, [], ?_⟩
   simp only [go_sem] <;> simp
 have hge : ls.length ≤ i := Nat.not_lt.1 (by simpa using hc1)
 refine we ?_; try simp only [go_sem, lQ]
 apply k3; refine sr rfl fun _ J => ?_; simp only [go_sem]; apply J; refine wR ?_; rw [List.drop_eq_nil_of_le hge, orI] at hor; refine fO ?_ trivial; simp only [go_sem, hor]
theorem w_impl_entryOrder (a b : Entry) : aB P 141 [enA a, enA b] [] 0 (.raw (.int .i64 (entCmp a b))) := by
 refine pw (N := 17) (vs := [.tmp 4]) ⟨Tryz.func141, rfl, rfl⟩ rfl rfl (by simp) ?_
 simp only [eE, enA]
 have hmx : maxLen = 9223372036854775807 := rfl
 refine sr rfl fun _ J => ?_; simp only [go_sem]; apply J; refine sd mixed rfl fun _ k2 => ?_; simp only [go_sem]
 repeat (first | refine ⟨by first | omega | (intro hg; simp at hg; omega), ?_⟩ | fail)
 refine tp rfl rfl rfl ⟨Tryz.func189, rfl, rfl⟩ (w_cmp_Compare_string a.key b.key) (by simp only [go_sem]) (by simp only [go_sem]) ?_
 simp only [go_sem]
 repeat (first | refine ⟨by first | omega | (intro hg; simp at hg; omega), ?_⟩ | fail)
 refine tp rfl rfl rfl ⟨Tryz.func190, rfl, rfl⟩ (w_cmp_Compare_int b.seq a.seq) (by simp only [go_sem]) (by simp only [go_sem]) ?_
 simp only [go_sem]
 repeat (first | refine ⟨by first | omega | (intro hg; simp at hg; omega), ?_⟩ | fail)
 refine tl [2] (xs := [.ref 2]) rfl rfl rfl ⟨Tryz.func188, rfl, rfl⟩ (w_cmp_Or_int [cmpS a.key b.key, cmpI b.seq a.seq] (by simp)) rfl (by simp [lend, lend1, Abs.get, fzL, AV.fz, inA]) ⟨⟨trivial, trivial, trivial⟩, trivial⟩ rfl ?_
 simp only [go_sem]
 repeat (first | refine ⟨by first | omega | (intro hg; simp at hg; omega), ?_⟩ | fail)
 refine ⟨by rfl, ?_⟩; apply k2; refine wR ?_; refine fO ?_ trivial; simp only [go_sem, entCmp_or]
theorem w_impl_EntryLess (a b : Entry) : aB P 193 [enA a, enA b] [] 0 (.raw (.bool (entLt a b))) := by
 refine pw (N := 20) (vs := [.tmp 4]) ⟨Tryz.func193, rfl, rfl⟩ rfl rfl (by simp) ?_
 simp only [eE, enA]; refine sr rfl fun _ J => ?_; simp only [go_sem]; apply J; refine sq fun _ k2 => ?_; refine sr rfl fun _ J => ?_; simp only [go_sem]; apply J
 refine cd rfl (fun hc1 => ?_) fun hc1 => ?_
 · refine sr rfl fun _ J => ?_; simp only [go_sem]; apply J; refine wR ?_
   have h9 : entLt a b = Op.bytesLess a.key.toList b.key.toList := by
     have hk : (a.key.toList == b.key.toList) = false := by simpa using hc1
     unfold entLt; rw [hk]; simp
   refine fO ?_ trivial; simp only [go_sem, h9]
 refine wk ?_; apply k2; refine sr rfl fun _ J => ?_; simp only [go_sem]; apply J; refine wR ?_
 have h9 : entLt a b = decide (b.seq < a.seq) := by
   have hk : a.key.toList = b.key.toList := by simpa using hc1
   unfold entLt; rw [hk, bl_irrefl]; simp
 refine fO ?_ trivial; simp only [go_sem, h9]
theorem w_impl_KeyOk (s : ByteArray) (hz : s.size ≤ 4611686018427387904) : aB P 171 [.raw (.string s)] [] 0 (.raw (.bool (keyOk s))) := by
 refine pw (N := 41) (vs := [.tmp 2]) ⟨Tryz.func171, rfl, rfl⟩ rfl rfl (by simp) ?_
 simp only [eE]; refine sr rfl fun _ J => ?_; simp only [go_sem]; apply J; refine sq fun _ k2 => ?_; refine sr rfl fun _ J => ?_; simp only [go_sem]; apply J
 refine cd rfl (fun hc1 => ?_) fun hc1 => ?_
 · have h9 : keyOk s = false := Bool.eq_false_iff.2 fun h => by have := keyOk_len h; simp at hc1; omega
   refine sr rfl fun _ J => ?_; simp only [go_sem]; apply J; refine wR ?_; refine fO ?_ trivial; simp only [go_sem, h9]
 have hsz : 1 ≤ s.size ∧ s.size ≤ 8 := by simp at hc1; omega
 refine wk ?_; apply k2; refine sq fun _ k5 => ?_; refine sr rfl fun _ J => ?_; simp only [go_sem]; apply J; refine wb ?_
 refine wl (α := Nat) (fun x => x ≤ s.size ∧ ∀ j, j < x → kByte s j = true) (fun x => s.size - x) (fun x => ([(0, .raw (.string s)), (14, .raw (.int .i64 (s.size : Int))), (15, .raw (.int .i64 (x : Int)))], [])) 0 0 ⟨Nat.zero_le _, fun j hj => absurd hj (Nat.not_lt_zero _)⟩ [] ?_ ?_
 · simp only [go_sem, Int.natCast_zero] <;> simp
 rintro i ⟨hi, hall⟩
 refine sr rfl fun _ J => ?_; simp only [go_sem]; apply J; refine sq fun _ k8 => ?_
 refine cd rfl (fun hc2 => ?_) fun hc2 => ?_
 · have hlt : i < s.size := by simpa using hc2
   refine wk ?_; apply k8; refine sq fun _ k9 => ?_; refine wb ?_; refine sr rfl fun _ J => ?_; simp only [go_sem]; apply J; refine sr rfl fun _ k11 => ?_; simp only [go_sem]
   repeat (first | refine ⟨by first | omega | (intro hg; simp at hg; omega), ?_⟩ | fail)
   apply k11; refine sr rfl fun _ J => ?_; simp only [go_sem]; apply J
   refine cd rfl (fun hc3 => ?_) fun hc3 => ?_
   · have hp : kByte s i = false := by unfold kByte; simp at hc3 ⊢; omega
     refine sr rfl fun _ J => ?_; simp only [go_sem]; apply J; refine wR ?_; simp only [go_sem, lQ]
     have h9 : keyOk s = false := by unfold keyOk; rw [all_no hlt hp]; rfl
     refine fO ?_ trivial; simp only [go_sem, h9]
   have hp : kByte s i = true := by unfold kByte; simp at hc3 ⊢; omega
   refine wk ?_; try simp only [go_sem, lQ]
   apply k9
   have hw : IntKind.i64.wrap ((i : Int) + 1) = ((i + 1 : Nat) : Int) := by rw [IntKind.wrap_i64]; omega
   refine wg rfl ?_; simp only [go_sem, hw]; try simp only [go_sem, lQ]
   refine ⟨i + 1, ⟨by omega, bN hall hp⟩, by omega, [], ?_⟩
   simp only [go_sem] <;> simp
 have hge : s.size ≤ i := Nat.not_lt.1 (by simpa using hc2)
 refine we ?_; try simp only [go_sem, lQ]
 apply k5; refine sr rfl fun _ J => ?_; simp only [go_sem]; apply J; refine wR ?_
 have h9 : keyOk s = true := by unfold keyOk; rw [all_yes hge hall]; simp; omega
 refine fO ?_ trivial; simp only [go_sem, h9]
theorem w_impl_EntryOk (e : Entry) (hz : mxEnt e) : aB P 122 [enA e] [] 0 (.raw (.bool (cY e))) := by
 refine pw (N := 50) (vs := [.tmp 2]) ⟨Tryz.func122, rfl, rfl⟩ rfl rfl (by simp) ?_
 simp only [eE, enA]; refine sr rfl fun _ J => ?_; simp only [go_sem]; apply J; refine sq fun _ k2 => ?_; refine sr rfl fun _ k3 => ?_; simp only [go_sem]
 refine vp rfl rfl rfl ⟨Tryz.func171, rfl, rfl⟩ (w_impl_KeyOk e.key hz.1) (by simp only [go_sem]) (by simp only [go_sem]) ?_
 simp only [go_sem]; apply k3
 refine cd rfl (fun hc1 => ?_) fun hc1 => ?_
 · have hb : entBad e = true := by unfold entBad; revert hc1; cases keyOk e.key <;> simp <;> omega
   refine sr rfl fun _ J => ?_; simp only [go_sem]; apply J; refine wR ?_; refine fO ?_ trivial; simp only [go_sem, cY, hb]
 refine wk ?_; apply k2; refine sq fun _ k5 => ?_; refine sr rfl fun _ J => ?_; simp only [go_sem]; apply J
 refine cd rfl (fun hc2 => ?_) fun hc2 => ?_
 · have hb : entBad e = true := by unfold entBad sumOk; simp at hc2 ⊢; omega
   refine sr rfl fun _ J => ?_; simp only [go_sem]; apply J; refine wR ?_; refine fO ?_ trivial; simp only [go_sem, cY, hb]
 have hb : entBad e = false := by unfold entBad sumOk; revert hc1; cases keyOk e.key <;> simp at hc2 ⊢ <;> omega
 refine wk ?_; apply k5; refine sq fun _ k8 => ?_; refine sr rfl fun _ J => ?_; simp only [go_sem]; apply J; refine wb ?_; refine sr rfl fun _ J => ?_; simp only [go_sem]; apply J
 refine cd rfl (fun hc3 => ?_) fun hc3 => ?_
 · have k1 : e.kind = 1 := by simpa using hc3
   refine sr rfl fun _ J => ?_; simp only [go_sem]; apply J; refine wR ?_; simp only [go_sem, lQ]; refine fO ?_ trivial; simp only [go_sem, cY, hb, Bool.false_eq_true, if_false, if_pos k1]
 have k1 : ¬ (e.kind = 1) := by simpa using hc3
 refine sr rfl fun _ J => ?_; simp only [go_sem]; apply J
 refine cd rfl (fun hc4 => ?_) fun hc4 => ?_
 · have k2 : e.kind = 2 := by simpa using hc4
   refine sr rfl fun _ J => ?_; simp only [go_sem]; apply J; refine wR ?_; simp only [go_sem, lQ]; refine fO ?_ trivial; simp only [go_sem, cY, hb, Bool.false_eq_true, if_false, if_neg k1, if_pos k2]
 have k2 : ¬ (e.kind = 2) := by simpa using hc4
 refine sr rfl fun _ J => ?_; simp only [go_sem]; apply J
 refine cd rfl (fun hc5 => ?_) fun hc5 => ?_
 · have k3 : e.kind = 3 := by simpa using hc5
   refine sr rfl fun _ J => ?_; simp only [go_sem]; apply J; refine wR ?_; simp only [go_sem, lQ]; refine fO ?_ trivial; simp only [go_sem, cY, hb, Bool.false_eq_true, if_false, if_neg k1, if_neg k2, if_pos k3]
 have k3 : ¬ (e.kind = 3) := by simpa using hc5
 refine wk ?_; try simp only [go_sem, lQ]
 apply k8; refine sr rfl fun _ J => ?_; simp only [go_sem]; apply J; refine wR ?_; refine fO ?_ trivial; simp only [go_sem, cY, hb, Bool.false_eq_true, if_false, if_neg k1, if_neg k2, if_neg k3]
theorem w_impl_inOrder (ls : List Entry) (hz : bT ls) : aB P 146 [.sl 5 (ls.map enA)] [] 0 (.raw (.bool (inOrd ls))) := by
 refine pw (N := 30) (vs := [.tmp 2]) ⟨Tryz.func146, rfl, rfl⟩ rfl rfl (by simp) ?_
 simp only [eE]
 have hlen := hz.1
 refine sr rfl fun _ J => ?_; simp only [go_sem]; apply J; refine sq fun _ k2 => ?_; refine sr rfl fun _ J => ?_; simp only [go_sem]; apply J; refine wb ?_
 refine wl (α := Nat) (fun x => x ≤ ls.length ∧ ∀ j, j < x → okAt ls j = true) (fun x => ls.length - x) (fun x => ([(0, .sl 5 (ls.map enA)), (5, .sl 5 (ls.map enA)), (6, .raw (.int .i64 (ls.length : Int))), (7, .raw (.int .i64 (x : Int)))], [])) 0 0 ⟨Nat.zero_le _, fun j hj => absurd hj (Nat.not_lt_zero _)⟩ [] ?_ ?_
 · simp only [go_sem, Int.natCast_zero] <;> simp
 rintro i ⟨hi, hall⟩
 refine sr rfl fun _ J => ?_; simp only [go_sem]; apply J; refine sq fun _ k5 => ?_
 refine cd rfl (fun hc1 => ?_) fun hc1 => ?_
 · have hlt : i < ls.length := (by simpa using hc1); obtain ⟨l, hl, hdrop, hml⟩ := ix hlt
   have hw1 : IntKind.i64.wrap ((i : Int) - 1) = (i : Int) - 1 := by rw [IntKind.wrap_i64]; omega
   have hpn : ((i : Int) - 1).toNat = i - 1 := by omega
   have hpv : ls[i - 1]? = some (prevAt ls i) := by unfold prevAt; rw [List.getElem?_eq_getElem (by omega)]; rfl
   refine wk ?_; apply k5; refine sq fun _ k6 => ?_; refine wb ?_; refine sr rfl fun _ k7 => ?_; simp only [go_sem, hl, enA]
   repeat (first | refine ⟨by first | omega | (intro hg; simp at hg; omega), ?_⟩ | fail)
   apply k7; refine sd mixed rfl fun _ k8 => ?_; simp only [go_sem, hl, hw1, hpn, hpv, enA]
   repeat (first | refine ⟨by first | omega | (intro hg; simp at hg; omega), ?_⟩ | fail)
   refine tp rfl rfl rfl ⟨Tryz.func122, rfl, rfl⟩ (w_impl_EntryOk l (hz.2 l hml)) (by simp only [go_sem, enA]) (by simp only [go_sem, enA]) ?_
   simp only [go_sem, hl, hw1, hpn, hpv, enA]
   repeat (first | refine ⟨by first | omega | (intro hg; simp at hg; omega), ?_⟩ | fail)
   refine tpg rfl rfl rfl rfl rfl rfl ⟨Tryz.func193, rfl, rfl⟩ (fun hg => w_impl_EntryLess (prevAt ls i) l) (by simp only [go_sem]) (fun hg => (by simp only [go_sem, enA])) (by simp only [go_sem, enA]) trivial ?_
   simp only [go_sem, hl, hw1, hpn, hpv, enA]
   repeat (first | refine ⟨by first | omega | (intro hg; simp at hg; omega), ?_⟩ | fail)
   refine ⟨by rfl, ?_⟩; apply k8
   refine cd rfl (fun hc2 => ?_) fun hc2 => ?_
   · have hp : okAt ls i = false := by unfold okAt; rw [hl]; simp only [hc2]; rfl
     refine sr rfl fun _ J => ?_; simp only [go_sem]; apply J; refine wR ?_; simp only [go_sem, lQ]
     have h9 : inOrd ls = false := by unfold inOrd; exact all_no hlt hp
     refine fO ?_ trivial; simp only [go_sem, h9]
   have hp : okAt ls i = true := by unfold okAt; rw [hl]; simp only [hc2]; rfl
   refine wk ?_; try simp only [go_sem, lQ]
   apply k6
   have hw : IntKind.i64.wrap ((i : Int) + 1) = ((i + 1 : Nat) : Int) := by rw [IntKind.wrap_i64]; omega
   refine wg rfl ?_; simp only [go_sem, hw]; try simp only [go_sem, lQ]
   refine ⟨i + 1, ⟨by omega, bN hall hp⟩, by omega, [], ?_⟩
   simp only [go_sem] <;> simp
 have hge : ls.length ≤ i := Nat.not_lt.1 (by simpa using hc1)
 refine we ?_; try simp only [go_sem, lQ]
 apply k2; refine sr rfl fun _ J => ?_; simp only [go_sem]; apply J; refine wR ?_
 have h9 : inOrd ls = true := by unfold inOrd; exact all_yes hge hall
 refine fO ?_ trivial; simp only [go_sem, h9]
theorem aY (a b : List Entry) (hz : a.length ≤ 4611686018427387904) : aB P 119 [.sl 5 (a.map enA), .sl 5 (b.map enA)] [] 0 (.raw (.bool (decide (a = b)))) := by
 refine pw (N := 26) (vs := [.tmp 4]) ⟨Tryz.func119, rfl, rfl⟩ rfl rfl (by simp) ?_
 simp only [eE]; refine sr rfl fun _ J => ?_; simp only [go_sem]; apply J; refine sq fun _ k2 => ?_; refine sr rfl fun _ J => ?_; simp only [go_sem]; apply J
 refine cd rfl (fun hc1 => ?_) fun hc1 => ?_
 · have hne : a ≠ b := fun e => by rw [e] at hc1; simp at hc1
   refine sr rfl fun _ J => ?_; simp only [go_sem]; apply J; refine wR ?_; refine fO ?_ trivial; simp only [go_sem, decide_eq_false hne]
 have hlen : a.length = b.length := by simp at hc1; omega
 refine wk ?_; apply k2; refine sq fun _ k5 => ?_; refine sr rfl fun _ J => ?_; simp only [go_sem]; apply J; refine wb ?_
 refine wl (α := Nat) (fun x => x ≤ a.length ∧ ∀ j, j < x → eqAt a b j = true) (fun x => a.length - x) (fun x => ([(0, .sl 5 (a.map enA)), (1, .sl 5 (b.map enA)), (12, .raw (.int .i64 (a.length : Int))), (13, .raw (.int .i64 (x : Int)))], [])) 0 0 ⟨Nat.zero_le _, fun j hj => absurd hj (Nat.not_lt_zero _)⟩ [] ?_ ?_
 · simp only [go_sem, Int.natCast_zero] <;> simp
 rintro i ⟨hi, hall⟩
 refine sr rfl fun _ J => ?_; simp only [go_sem]; apply J; refine sq fun _ k8 => ?_
 refine cd rfl (fun hc2 => ?_) fun hc2 => ?_
 · have hlt : i < a.length := (by simpa using hc2); obtain ⟨l, hl, _, _⟩ := ix hlt
   obtain ⟨m, hm, _, _⟩ := ix (xs := b) (i := i) (by omega)
   refine wk ?_; apply k8; refine sq fun _ k9 => ?_; refine wb ?_; refine sr rfl fun _ J => ?_; simp only [go_sem]; apply J; refine sd mixed rfl fun _ k11 => ?_; simp only [go_sem, hl, hm, enA]
   repeat (first | refine ⟨by first | omega | (intro hg; simp at hg; omega), ?_⟩ | fail)
   refine dE (fun hN => lstep_neqEnt rfl rfl hN rfl rfl) (.inl rfl) ?_
   simp only [go_sem, hl, hm, enA]
   repeat (first | refine ⟨by first | omega | (intro hg; simp at hg; omega), ?_⟩ | fail)
   refine ⟨by rfl, ?_⟩; apply k11
   refine cd rfl (fun hc3 => ?_) fun hc3 => ?_
   · have hne : a ≠ b := fun e => by
       rw [e, hm] at hl; cases hl; simp at hc3
     refine sr rfl fun _ J => ?_; simp only [go_sem]; apply J; refine wR ?_; simp only [go_sem, lQ]; refine fO ?_ trivial; simp only [go_sem, decide_eq_false hne]
   · have hp : eqAt a b i = true := by unfold eqAt; rw [hl, hm]; simpa using hc3
     refine wk ?_; try simp only [go_sem, lQ]
     apply k9
     have hw : IntKind.i64.wrap ((i : Int) + 1) = ((i + 1 : Nat) : Int) := by rw [IntKind.wrap_i64]; omega
     refine wg rfl ?_; simp only [go_sem, hw]; try simp only [go_sem, lQ]
     refine ⟨i + 1, ⟨by omega, bN hall hp⟩, by omega, [], ?_⟩
     simp only [go_sem] <;> simp
 have hge : a.length ≤ i := Nat.not_lt.1 (by simpa using hc2)
 refine we ?_; try simp only [go_sem, lQ]
 apply k5; refine sr rfl fun _ J => ?_; simp only [go_sem]; apply J; refine wR ?_
 have hie : i = a.length := by omega
 subst hie
 have he := eq_of_all hlen hall
 refine fO ?_ trivial; simp only [go_sem, decide_eq_true he]
theorem w_slices_Equal_Lint_int (a b : List Int) (hz : a.length ≤ 4611686018427387904) : aB P 160 [.sl 1 (a.map inA), .sl 1 (b.map inA)] [] 0 (.raw (.bool (decide (a = b)))) := by
 refine pw (N := 26) (vs := [.tmp 4]) ⟨Tryz.func160, rfl, rfl⟩ rfl rfl (by simp) ?_
 simp only [eE]; refine sr rfl fun _ J => ?_; simp only [go_sem]; apply J; refine sq fun _ k2 => ?_; refine sr rfl fun _ J => ?_; simp only [go_sem]; apply J
 refine cd rfl (fun hc1 => ?_) fun hc1 => ?_
 · have hne : a ≠ b := fun e => by rw [e] at hc1; simp at hc1
   refine sr rfl fun _ J => ?_; simp only [go_sem]; apply J; refine wR ?_; refine fO ?_ trivial; simp only [go_sem, decide_eq_false hne]
 have hlen : a.length = b.length := by simp at hc1; omega
 refine wk ?_; apply k2; refine sq fun _ k5 => ?_; refine sr rfl fun _ J => ?_; simp only [go_sem]; apply J; refine wb ?_
 refine wl (α := Nat) (fun x => x ≤ a.length ∧ ∀ j, j < x → eqAt a b j = true) (fun x => a.length - x) (fun x => ([(0, .sl 1 (a.map inA)), (1, .sl 1 (b.map inA)), (12, .raw (.int .i64 (a.length : Int))), (13, .raw (.int .i64 (x : Int)))], [])) 0 0 ⟨Nat.zero_le _, fun j hj => absurd hj (Nat.not_lt_zero _)⟩ [] ?_ ?_
 · simp only [go_sem, Int.natCast_zero] <;> simp
 rintro i ⟨hi, hall⟩
 refine sr rfl fun _ J => ?_; simp only [go_sem]; apply J; refine sq fun _ k8 => ?_
 refine cd rfl (fun hc2 => ?_) fun hc2 => ?_
 · have hlt : i < a.length := (by simpa using hc2); obtain ⟨l, hl, _, _⟩ := ix hlt
   obtain ⟨m, hm, _, _⟩ := ix (xs := b) (i := i) (by omega)
   refine wk ?_; apply k8; refine sq fun _ k9 => ?_; refine wb ?_; refine sr rfl fun _ J => ?_; simp only [go_sem]; apply J; refine sd mixed rfl fun _ k11 => ?_; simp only [go_sem, hl, hm, inA]
   repeat (first | refine ⟨by first | omega | (intro hg; simp at hg; omega), ?_⟩ | fail)
   refine ⟨by rfl, ?_⟩; apply k11
   refine cd rfl (fun hc3 => ?_) fun hc3 => ?_
   · have hne : a ≠ b := fun e => by
       rw [e, hm] at hl; cases hl; simp at hc3
     refine sr rfl fun _ J => ?_; simp only [go_sem]; apply J; refine wR ?_; simp only [go_sem, lQ]; refine fO ?_ trivial; simp only [go_sem, decide_eq_false hne]
   · have hp : eqAt a b i = true := by unfold eqAt; rw [hl, hm]; simpa using hc3
     refine wk ?_; try simp only [go_sem, lQ]
     apply k9
     have hw : IntKind.i64.wrap ((i : Int) + 1) = ((i + 1 : Nat) : Int) := by rw [IntKind.wrap_i64]; omega
     refine wg rfl ?_; simp only [go_sem, hw]; try simp only [go_sem, lQ]
     refine ⟨i + 1, ⟨by omega, bN hall hp⟩, by omega, [], ?_⟩
     simp only [go_sem] <;> simp
 have hge : a.length ≤ i := Nat.not_lt.1 (by simpa using hc2)
 refine we ?_; try simp only [go_sem, lQ]
 apply k5; refine sr rfl fun _ J => ?_; simp only [go_sem]; apply J; refine wR ?_
 have hie : i = a.length := by omega
 subst hie
 have he := eq_of_all hlen hall
 refine fO ?_ trivial; simp only [go_sem, decide_eq_true he]
theorem w_impl_lowKey (r : Run) (h1 : 1 ≤ r.ents.length) : aB P 135 [rA r] [] 0 (.raw (.string (lowKey r))) := by
 refine pw (N := 8) (vs := [.tmp 2]) ⟨Tryz.func135, rfl, rfl⟩ rfl rfl (by simp) ?_
 simp only [eE, rA]
 have hl : r.ents[0]? = some ((r.ents[0]?).getD zEntV) := by rw [List.getElem?_eq_getElem (by omega)]; rfl
 generalize hg : (r.ents[0]?).getD zEntV = l at hl
 have hk : lowKey r = l.key := by unfold lowKey; rw [hg]
 rw [hk]; refine sr rfl fun _ J => ?_; simp only [go_sem]; apply J; refine sr rfl fun _ k2 => ?_; simp only [go_sem, hl, enA, Int.toNat_zero]
 repeat (first | refine ⟨by first | omega | (intro hg; simp at hg; omega), ?_⟩ | fail)
 apply k2; refine wR ?_; refine fO ?_ trivial; simp only [go_sem]
theorem w_impl_highKey (r : Run) (h1 : 1 ≤ r.ents.length) (h2 : r.ents.length ≤ 4611686018427387904) : aB P 136 [rA r] [] 0 (.raw (.string (highKey r))) := by
 refine pw (N := 12) (vs := [.tmp 2]) ⟨Tryz.func136, rfl, rfl⟩ rfl rfl (by simp) ?_
 simp only [eE, rA]
 have hl : r.ents[r.ents.length - 1]? = some ((r.ents[r.ents.length - 1]?).getD zEntV) := by rw [List.getElem?_eq_getElem (by omega)]; rfl
 generalize hg : (r.ents[r.ents.length - 1]?).getD zEntV = l at hl
 have hk : highKey r = l.key := by unfold highKey; rw [hg]
 rw [hk]
 have hw1 : IntKind.i64.wrap ((r.ents.length : Int) - 1) = (r.ents.length : Int) - 1 := by rw [IntKind.wrap_i64]; omega
 have hpn : ((r.ents.length : Int) - 1).toNat = r.ents.length - 1 := by omega
 refine sr rfl fun _ J => ?_; simp only [go_sem]; apply J; refine sr rfl fun _ k2 => ?_; simp only [go_sem, hl, hw1, hpn, enA]
 repeat (first | refine ⟨by first | omega | (intro hg; simp at hg; omega), ?_⟩ | fail)
 apply k2; refine wR ?_; refine fO ?_ trivial; simp only [go_sem]
theorem w_impl_RunSame (a b : Run) (hz : a.ents.length ≤ 4611686018427387904) : aB P 168 [rA a, rA b] [] 0 (.raw (.bool (decide (a.mask = b.mask) && decide (a.ents = b.ents)))) := by
 refine pw (N := 17) (vs := [.tmp 4]) ⟨Tryz.func168, rfl, rfl⟩ rfl rfl (by simp) ?_
 simp only [eE, rA]; refine sr rfl fun _ J => ?_; simp only [go_sem]; apply J; refine sr rfl fun _ k2 => ?_; simp only [go_sem]
 refine vpg rfl rfl rfl rfl rfl rfl ⟨Tryz.func119, rfl, rfl⟩ (fun hg => aY a.ents b.ents hz) (by simp only [go_sem]) (fun hg => (by simp only [go_sem])) (by simp only [go_sem]) trivial ?_
 simp only [go_sem]; apply k2; refine wR ?_; refine fO ?_ trivial; simp only [go_sem]
end
end Go.Proofs.S
end
section
open Go Go.Abs Go.Proofs
open Go.Plain (swp rot sink insGo insertS bsGo symCut symM)
namespace Go.Proofs.S
section
variable {a j f s r k : Nat} {σ : Nat → Nat}
abbrev lE (d : Nat → Entry) : Nat → Nat → Bool := fun i j => entLt (d i) (d j)
theorem sink_step {l : Nat → Nat → Bool} (h : a < j) (hl : l (σ j) (σ (j - 1)) = true) : sink l a j σ = sink l a (j - 1) (swp σ j (j - 1)) := by
  obtain ⟨k, rfl⟩ : ∃ k, j = k + 1 := ⟨j - 1, by omega⟩
  rw [Nat.add_sub_cancel] at hl ⊢
  rw [sink, if_pos ⟨h, hl⟩]
theorem sink_stop {l : Nat → Nat → Bool} (h : ¬ (a < j ∧ l (σ j) (σ (j - 1)) = true)) : sink l a j σ = σ := by
  cases j with
  | zero => rfl
  | succ k => rw [Nat.add_sub_cancel] at h; rw [sink, if_neg h]
theorem insGo_step {l : Nat → Nat → Bool} {a b i : Nat} (h : i < b) : insGo l a (b - i) i σ = insGo l a (b - (i + 1)) (i + 1) (sink l a i σ) := by
  rw [show b - i = (b - (i + 1)) + 1 by omega, insGo]
theorem bs_fuel (t : Nat → Bool) : ∀ (f g s r : Nat), r - s ≤ f → r - s ≤ g → bsGo t f s r = bsGo t g s r
  | 0, 0, _, _, _, _ => rfl
  | 0, g + 1, s, r, h, _ => by rw [bsGo, bsGo, if_neg (by omega)]
  | f + 1, 0, s, r, _, h => by rw [bsGo, bsGo, if_neg (by omega)]
  | f + 1, g + 1, s, r, h1, h2 => by
    rw [bsGo, bsGo]; split
    · split
      · exact bs_fuel t f g _ _ (by omega) (by omega)
      exact bs_fuel t f g _ _ (by omega) (by omega)
    rfl
theorem bs_step {t : Nat → Bool} (h : s < r) (hf : r - s ≤ f) : bsGo t f s r = if t ((s + r) / 2) = true then bsGo t f s ((s + r) / 2) else bsGo t f ((s + r) / 2 + 1) r := by
  obtain ⟨g, rfl⟩ : ∃ g, f = g + 1 := ⟨f - 1, by omega⟩
  rw [bsGo, if_pos h]; split
  · exact bs_fuel t g (g + 1) _ _ (by omega) (by omega)
  exact bs_fuel t g (g + 1) _ _ (by omega) (by omega)
theorem bs_stop {t : Nat → Bool} (h : ¬ s < r) : bsGo t f s r = s := by
  cases f with
  | zero => rfl
  | succ f => rw [bsGo, if_neg h]
theorem rot_up (σ : Nat → Nat) (h : a ≤ k) : swp (rot σ a (a + 1) (k + 1)) k (k + 1) = rot σ a (a + 1) (k + 2) := by
  funext x
  unfold swp rot
  repeat' split
  all_goals first | (exfalso; omega) | (congr 1; omega) | rfl | (subst_vars; congr 1; omega)
theorem rot_up0 (σ : Nat → Nat) (a : Nat) : rot σ a (a + 1) (a + 1) = σ := by
  funext x
  unfold rot
  repeat' split
  all_goals first | (exfalso; omega) | (congr 1; omega) | rfl | (subst_vars; congr 1; omega)
theorem rot_dn (σ : Nat → Nat) {k m : Nat} (h : 0 < k) (hk : k ≤ m) : swp (rot σ k m (m + 1)) k (k - 1) = rot σ (k - 1) m (m + 1) := by
  funext x
  unfold swp rot
  repeat' split
  all_goals first | (exfalso; omega) | (congr 1; omega) | rfl | (subst_vars; congr 1; omega)
theorem rot_dn0 (σ : Nat → Nat) (m : Nat) : rot σ m m (m + 1) = σ := by
  funext x
  unfold rot
  repeat' split
  all_goals first | (exfalso; omega) | (congr 1; omega) | rfl | (subst_vars; congr 1; omega)
theorem bB (d : Nat → Entry) (n : Nat) (σ : Nat → Nat) (hn : n ≤ 1048576) (a b m : Nat) (h1 : a + m ≤ b) (h2 : b + m ≤ n) : aD P 239 [.ref 0, .raw (.int .i64 (a : Int)), .raw (.int .i64 (b : Int)), .raw (.int .i64 (m : Int)), cmpE] [(0, bH d n σ)] 1 (.tup []) [(0, bH d n (swr σ a b m))] 1 := by
 refine gw (N := 38) (vs := []) ⟨Tryz.func239, rfl, rfl⟩ rfl rfl (by simp) ?_
 simp only [eE, bH, cmpE]; refine sr rfl fun _ J => ?_; simp only [go_sem]; apply J; refine wb ?_
 refine wl (α := Nat) (fun x => x ≤ m) (fun x => m - x) (fun x => ([(0, .ref 0), (1, .raw (.int .i64 (a : Int))), (2, .raw (.int .i64 (b : Int))), (3, .raw (.int .i64 (m : Int))), (10, .raw (.int .i64 (x : Int)))], [(0, .row 65 5 ((List.range n).map fun z => enA (d (swr σ a b x z))))])) 1 0 (Nat.zero_le _) [] ?_ ?_
 · simp only [go_sem, AObj.bel, AObj.ren, AV.ren, aA, sg, Int.natCast_zero, swr_zero] <;> simp
 rintro i hi
 refine sq fun _ k2 => ?_; refine sr rfl fun _ J => ?_; simp only [go_sem]; apply J
 refine cd rfl (fun hc1 => ?_) fun hc1 => ?_
 · have hlt : i < m := by simpa using hc1
   refine wk ?_; apply k2; refine sq fun _ k4 => ?_; refine wb ?_
   have hrow : (((List.range n).map fun z => (.agg [.raw (.string (d (swr σ a b i z)).key), .raw (.int .i64 (d (swr σ a b i z)).seq), .raw (.int .i64 (d (swr σ a b i z)).kind), .raw (.string (d (swr σ a b i z)).text), .raw (.int .i64 (d (swr σ a b i z)).n)])).set (a + i) (.agg [.raw (.string (d (swr σ a b i (b + i))).key), .raw (.int .i64 (d (swr σ a b i (b + i))).seq), .raw (.int .i64 (d (swr σ a b i (b + i))).kind), .raw (.string (d (swr σ a b i (b + i))).text), .raw (.int .i64 (d (swr σ a b i (b + i))).n)])).set (b + i) (.agg [.raw (.string (d (swr σ a b i (a + i))).key), .raw (.int .i64 (d (swr σ a b i (a + i))).seq), .raw (.int .i64 (d (swr σ a b i (a + i))).kind), .raw (.string (d (swr σ a b i (a + i))).text), .raw (.int .i64 (d (swr σ a b i (a + i))).n)]) = (List.range n).map fun z => enA (d (swr σ a b (i + 1) z)) := by
     have h9 := row_sw d n (swr σ a b i) (p := a + i) (q := b + i) (by omega) (by omega)
     rw [swr_step σ (by omega)] at h9; exact h9
   have hs1 : ∀ (y : AV), (((List.range n).map fun z => (.agg [.raw (.string (d (swr σ a b i z)).key), .raw (.int .i64 (d (swr σ a b i z)).seq), .raw (.int .i64 (d (swr σ a b i z)).kind), .raw (.string (d (swr σ a b i z)).text), .raw (.int .i64 (d (swr σ a b i z)).n)])).set (a + i) y)[b + i]? = ((List.range n).map fun z => (.agg [.raw (.string (d (swr σ a b i z)).key), .raw (.int .i64 (d (swr σ a b i z)).seq), .raw (.int .i64 (d (swr σ a b i z)).kind), .raw (.string (d (swr σ a b i z)).text), .raw (.int .i64 (d (swr σ a b i z)).n)]))[b + i]? := fun y => set_ne (by omega) y
   have hr1 : (List.range n)[a + i]? = some (a + i) := List.getElem?_range (by omega)
   have hr2 : (List.range n)[b + i]? = some (b + i) := List.getElem?_range (by omega)
   have hwa : IntKind.i64.wrap ((a : Int) + (i : Int)) = ((a + i : Nat) : Int) := by rw [IntKind.wrap_i64]; omega
   have hwb : IntKind.i64.wrap ((b : Int) + (i : Int)) = ((b + i : Nat) : Int) := by rw [IntKind.wrap_i64]; omega
   refine awp_draw mixed rfl ?_
   simp only [go_sem, hwa, hwb, hr1, hr2, hs1, enA, List.length_set, List.length_map, List.length_range]
   repeat (first | refine ⟨by first | omega | (intro hg; simp at hg; omega), ?_⟩ | fail)
   rw [hrow]; refine ⟨by rfl, ?_⟩; try simp only [go_sem, lQ]
   apply k4
   have hw : IntKind.i64.wrap ((i : Int) + 1) = ((i + 1 : Nat) : Int) := by rw [IntKind.wrap_i64]; omega
   refine wg rfl ?_; simp only [go_sem, hw]; try simp only [go_sem, lQ]
   refine ⟨i + 1, by omega, by omega, [], ?_⟩
   simp only [go_sem, AObj.bel, AObj.ren, AV.ren, aA, sg, Int.natCast_zero] <;> simp [enA]
 have hie : i = m := by have h9 : ¬ i < m := (by simpa using hc1); omega
 subst hie; refine we ?_; try simp only [go_sem, lQ]
 refine ⟨[], ?_⟩
 simp only [go_sem, AObj.bel, AObj.ren, AV.ren, aA, sg, bH] <;> simp [enA]
theorem w_slices_rotateCmpFunc_impl_Entry (d : Nat → Entry) (n : Nat) (σ : Nat → Nat) (hn : n ≤ 1048576) (a m b : Nat) (h1 : a < m) (h2 : m < b) (h3 : b ≤ n) : aD P 230 [.ref 0, .raw (.int .i64 (a : Int)), .raw (.int .i64 (m : Int)), .raw (.int .i64 (b : Int)), cmpE] [(0, bH d n σ)] 1 (.tup []) [(0, bH d n (rot σ a m b))] 1 := by
 refine gw (N := 58) (vs := []) ⟨Tryz.func230, rfl, rfl⟩ rfl rfl (by simp) ?_
 simp only [eE, bH, cmpE]
 obtain ⟨i0, hi0⟩ : ∃ i0, i0 = m - a := ⟨_, rfl⟩
 obtain ⟨j0, hj0⟩ : ∃ j0, j0 = b - m := ⟨_, rfl⟩
 have hw1 : IntKind.i64.wrap ((m : Int) - (a : Int)) = (i0 : Int) := by rw [IntKind.wrap_i64]; omega
 have hw2 : IntKind.i64.wrap ((b : Int) - (m : Int)) = (j0 : Int) := by rw [IntKind.wrap_i64]; omega
 have ea : a = m - i0 := by omega
 have eb : b = m + j0 := by omega
 refine sr rfl fun _ J => ?_; simp only [go_sem, hw1]; apply J; refine sr rfl fun _ k2 => ?_; simp only [go_sem, hw2]; apply k2; refine sq fun _ k3 => ?_; refine wb ?_
 refine wl (α := Nat × Nat × (Nat → Nat)) (fun x => 0 < x.1 ∧ 0 < x.2.1 ∧ x.1 ≤ i0 ∧ x.2.1 ≤ j0 ∧ rot x.2.2 (m - x.1) m (m + x.2.1) = rot σ a m b) (fun x => x.1 + x.2.1) (fun x => ([(0, .ref 0), (2, .raw (.int .i64 (m : Int))), (4, .fn (.func 141) [] []), (10, .raw (.int .i64 (x.1 : Int))), (11, .raw (.int .i64 (x.2.1 : Int)))], [(0, .row 65 5 ((List.range n).map fun z => enA (d (x.2.2 z))))])) 1 (i0, j0, σ) ⟨by simp only; omega, by simp only; omega, Nat.le_refl _, Nat.le_refl _, by rw [← ea, ← eb]⟩ [] ?_ ?_
 · simp only [go_sem, AObj.bel, AObj.ren, AV.ren, aA, sg, Int.natCast_zero] <;> simp [enA]
 rintro ⟨i, j, τ⟩ ⟨hi, hj, hi0, hj0, hrot⟩
 simp only at hi hj hi0 hj0 hrot ⊢
 refine sq fun _ k4 => ?_; refine sr rfl fun _ J => ?_; simp only [go_sem]; apply J
 refine cd rfl (fun hc1 => ?_) fun hc1 => ?_
 · have hne : i ≠ j := by intro e; subst e; simp at hc1
   refine wk ?_; apply k4; refine wb ?_
   have hwi : IntKind.i64.wrap ((m : Int) - (i : Int)) = ((m - i : Nat) : Int) := by rw [IntKind.wrap_i64]; omega
   have hwj0 : IntKind.i64.wrap (((m + j : Nat) : Int) - (i : Int)) = ((m + j - i : Nat) : Int) := by rw [IntKind.wrap_i64]; omega
   have hwm : IntKind.i64.wrap ((m : Int) + (j : Int)) = ((m + j : Nat) : Int) := by rw [IntKind.wrap_i64]; omega
   have hwj : IntKind.i64.wrap (IntKind.i64.wrap ((m : Int) + (j : Int)) - (i : Int)) = ((m + j - i : Nat) : Int) := by rw [hwm, hwj0]
   refine sr rfl fun _ J => ?_; simp only [go_sem]; apply J
   refine cd rfl (fun hc2 => ?_) fun hc2 => ?_
   · have hgt : j < i := by simpa using hc2
     refine sr rfl fun _ k7 => ?_; simp only [go_sem, hwi]
     refine vg [] 0 rfl rfl rfl ⟨Tryz.func239, rfl, rfl⟩ (bB d n τ hn (m - i) m j (by omega) (by omega)) rfl (by simp only [go_sem, cmpE]) (by simp only [go_sem, cmpE]) (fit1 (H1 := []) (.inl rfl) (by simp only [go_sem, bH]) (by simp only [go_sem, AObj.bel, bH])) (.inl rfl) ?_
     simp only [go_sem, AV.ren, AObj.ren, aA, shift, sg, Nat.le_refl, Nat.add_zero, Nat.sub_self, bH]; apply k7
     have hwi2 : IntKind.i64.wrap ((i : Int) - (j : Int)) = ((i - j : Nat) : Int) := by rw [IntKind.wrap_i64]; omega
     refine wg rfl ?_; simp only [go_sem, hwi2]; try simp only [go_sem, lQ]
     try simp only [go_sem, lQ]
     refine ⟨(i - j, j, swr τ (m - i) m j), ⟨by simp only; omega, hj, by simp only; omega, hj0, by simp only; rw [rot_big τ hgt (by omega) hj]; exact hrot⟩, by simp only; omega, [], ?_⟩
     simp only [go_sem, AObj.bel, AObj.ren, AV.ren, aA, sg, Int.natCast_zero] <;> simp [enA]
   have hgt : i < j := by have h9 : ¬ j < i := (by simpa using hc2); omega
   refine sr rfl fun _ k8 => ?_; simp only [go_sem, hwi, hwj]
   refine vg [] 0 rfl rfl rfl ⟨Tryz.func239, rfl, rfl⟩ (bB d n τ hn (m - i) (m + j - i) i (by omega) (by omega)) rfl (by simp only [go_sem, cmpE]) (by simp only [go_sem, cmpE]) (fit1 (H1 := []) (.inl rfl) (by simp only [go_sem, bH]) (by simp only [go_sem, AObj.bel, bH])) (.inl rfl) ?_
   simp only [go_sem, AV.ren, AObj.ren, aA, shift, sg, Nat.le_refl, Nat.add_zero, Nat.sub_self, bH]; apply k8
   have hwj2 : IntKind.i64.wrap ((j : Int) - (i : Int)) = ((j - i : Nat) : Int) := by rw [IntKind.wrap_i64]; omega
   refine wg rfl ?_; simp only [go_sem, hwj2]; try simp only [go_sem, lQ]
   try simp only [go_sem, lQ]
   refine ⟨(i, j - i, swr τ (m - i) (m + j - i) i), ⟨hi, by simp only; omega, hi0, by simp only; omega, by simp only; rw [rot_small τ hgt (by omega) hi]; exact hrot⟩, by simp only; omega, [], ?_⟩
   simp only [go_sem, AObj.bel, AObj.ren, AV.ren, aA, sg, Int.natCast_zero] <;> simp [enA]
 have hij : i = j := by simp at hc1; omega
 subst hij
 have hfin : swr τ (m - i) m i = rot σ a m b := by rw [rot_eq τ (by omega)]; exact hrot
 refine we ?_; try simp only [go_sem, lQ]
 apply k3
 have hwi : IntKind.i64.wrap ((m : Int) - (i : Int)) = ((m - i : Nat) : Int) := by rw [IntKind.wrap_i64]; omega
 refine wg rfl ?_; simp only [go_sem, hwi]
 refine vg [] 0 rfl rfl rfl ⟨Tryz.func239, rfl, rfl⟩ (bB d n τ hn (m - i) m i (by omega) (by omega)) rfl (by simp only [go_sem, cmpE]) (by simp only [go_sem, cmpE]) (fit1 (H1 := []) (.inl rfl) (by simp only [go_sem, bH]) (by simp only [go_sem, AObj.bel, bH])) (.inl rfl) ?_
 simp only [go_sem, AV.ren, AObj.ren, aA, shift, sg, Nat.le_refl, Nat.add_zero, Nat.sub_self, bH]; rw [hfin]; refine ⟨[], ?_⟩
 simp only [go_sem, AObj.bel, AObj.ren, AV.ren, aA, sg, bH] <;> simp [enA]
theorem cL (d : Nat → Entry) (n : Nat) (σ : Nat → Nat) (hn : n ≤ 1048576) (a b : Nat) (h2 : b ≤ n) (ha : a ≤ b) : aD P 211 [.ref 0, .raw (.int .i64 (a : Int)), .raw (.int .i64 (b : Int)), cmpE] [(0, bH d n σ)] 1 (.tup []) [(0, bH d n (insertS (lE d) σ a b))] 1 := by
 refine gw (N := 53) (vs := []) ⟨Tryz.func211, rfl, rfl⟩ rfl rfl (by simp) ?_
 simp only [eE, bH, cmpE]
 have hw0 : IntKind.i64.wrap ((a : Int) + 1) = ((a + 1 : Nat) : Int) := by rw [IntKind.wrap_i64]; omega
 refine sr rfl fun _ J => ?_; simp only [go_sem, hw0]; apply J; refine wb ?_
 refine wl (α := Nat × (Nat → Nat)) (fun x => a + 1 ≤ x.1 ∧ x.1 ≤ b + 1 ∧ insGo (lE d) a (b - x.1) x.1 x.2 = insertS (lE d) σ a b) (fun x => b - x.1) (fun x => ([(0, .ref 0), (1, .raw (.int .i64 (a : Int))), (2, .raw (.int .i64 (b : Int))), (3, .fn (.func 141) [] []), (8, .raw (.int .i64 (x.1 : Int)))], [(0, .row 65 5 ((List.range n).map fun z => enA (d (x.2 z))))])) 1 (a + 1, σ) ⟨Nat.le_refl _, by simp only; omega, rfl⟩ [] ?_ ?_
 · simp only [go_sem, AObj.bel, AObj.ren, AV.ren, aA, sg, Int.natCast_zero] <;> simp [enA]
 rintro ⟨i, τ⟩ ⟨hi, hib, hgo⟩
 simp only at hi hib hgo ⊢
 refine sq fun _ k2 => ?_; refine sr rfl fun _ J => ?_; simp only [go_sem]; apply J
 refine cd rfl (fun hc1 => ?_) fun hc1 => ?_
 · have hlt : i < b := by simpa using hc1
   refine wk ?_; apply k2; refine sq fun _ k4 => ?_; refine wb ?_; refine sr rfl fun _ J => ?_; simp only [go_sem]; apply J; refine wb ?_
   refine wl (α := Nat × (Nat → Nat)) (fun x => a ≤ x.1 ∧ x.1 ≤ i ∧ sink (lE d) a x.1 x.2 = sink (lE d) a i τ) (fun x => x.1) (fun x => ([(0, .ref 0), (1, .raw (.int .i64 (a : Int))), (2, .raw (.int .i64 (b : Int))), (3, .fn (.func 141) [] []), (8, .raw (.int .i64 (i : Int))), (9, .raw (.int .i64 (x.1 : Int)))], [(0, .row 65 5 ((List.range n).map fun z => enA (d (x.2 z))))])) 1 (i, τ) ⟨by simp only; omega, Nat.le_refl _, rfl⟩ [] ?_ ?_
   · simp only [go_sem, AObj.bel, AObj.ren, AV.ren, aA, sg, Int.natCast_zero] <;> simp [enA]
   rintro ⟨j, υ⟩ ⟨hj, hji, hsk⟩
   simp only at hj hji hsk ⊢
   refine sq fun _ k6 => ?_
   have hr1 : (List.range n)[j]? = some j := List.getElem?_range (by omega)
   have hr2 : (List.range n)[j - 1]? = some (j - 1) := List.getElem?_range (by omega)
   have hw1 : IntKind.i64.wrap ((j : Int) - 1) = (j : Int) - 1 := by rw [IntKind.wrap_i64]; omega
   have hpn : ((j : Int) - 1).toNat = j - 1 := by omega
   refine sd mixed rfl fun _ k7 => ?_; simp only [go_sem, hr1, hr2, hw1, hpn, enA, List.length_set, List.length_map, List.length_range]
   repeat (first | refine ⟨by first | omega | (intro hg; simp at hg; omega), ?_⟩ | fail)
   refine tfg (first := []) (cap := []) (xs := [enA (d (υ j)), enA (d (υ (j - 1)))]) rfl rfl rfl rfl rfl rfl (fun _ => by rfl) ⟨Tryz.func141, rfl, rfl⟩ (fun hg => w_impl_entryOrder (d (υ j)) (d (υ (j - 1)))) (by simp only [go_sem]) (fun hg => by rfl) (by rfl) (by simp only [go_sem, enA]) trivial ?_
   simp only [go_sem, entCmp_lt]
   repeat (first | refine ⟨by first | omega | (intro hg; simp at hg; omega), ?_⟩ | fail)
   refine ⟨by rfl, ?_⟩; apply k7
   refine cd rfl (fun hc2 => ?_) fun hc2 => ?_
   · have haj : a < j := by simp at hc2; omega
     have hlj : lE d (υ j) (υ (j - 1)) = true := by simp only [Bool.and_eq_true] at hc2; exact hc2.2
     refine wk ?_; apply k6; refine sq fun _ k8 => ?_; refine wb ?_
     clear hr1 hr2
     have hrow : (((List.range n).map fun z => (.agg [.raw (.string (d (υ z)).key), .raw (.int .i64 (d (υ z)).seq), .raw (.int .i64 (d (υ z)).kind), .raw (.string (d (υ z)).text), .raw (.int .i64 (d (υ z)).n)])).set (j) (.agg [.raw (.string (d (υ (j - 1))).key), .raw (.int .i64 (d (υ (j - 1))).seq), .raw (.int .i64 (d (υ (j - 1))).kind), .raw (.string (d (υ (j - 1))).text), .raw (.int .i64 (d (υ (j - 1))).n)])).set (j - 1) (.agg [.raw (.string (d (υ (j))).key), .raw (.int .i64 (d (υ (j))).seq), .raw (.int .i64 (d (υ (j))).kind), .raw (.string (d (υ (j))).text), .raw (.int .i64 (d (υ (j))).n)]) = (List.range n).map fun z => enA (d (swp υ j (j - 1) z)) := by
       have h9 := row_sw d n (υ) (p := j) (q := j - 1) (by omega) (by omega)
       skip; exact h9
     have hs1 : ∀ (y : AV), (((List.range n).map fun z => (.agg [.raw (.string (d (υ z)).key), .raw (.int .i64 (d (υ z)).seq), .raw (.int .i64 (d (υ z)).kind), .raw (.string (d (υ z)).text), .raw (.int .i64 (d (υ z)).n)])).set (j) y)[j - 1]? = ((List.range n).map fun z => (.agg [.raw (.string (d (υ z)).key), .raw (.int .i64 (d (υ z)).seq), .raw (.int .i64 (d (υ z)).kind), .raw (.string (d (υ z)).text), .raw (.int .i64 (d (υ z)).n)]))[j - 1]? := fun y => set_ne (by omega) y
     have hr1 : (List.range n)[j]? = some (j) := List.getElem?_range (by omega)
     have hr2 : (List.range n)[j - 1]? = some (j - 1) := List.getElem?_range (by omega)
     refine awp_draw mixed rfl ?_
     simp only [go_sem, hr1, hr2, hw1, hpn, hs1, enA, List.length_set, List.length_map, List.length_range]
     repeat (first | refine ⟨by first | omega | (intro hg; simp at hg; omega), ?_⟩ | fail)
     rw [hrow]; refine ⟨by rfl, ?_⟩; try simp only [go_sem, lQ]
     apply k8
     have hw5 : IntKind.i64.wrap ((j : Int) - 1) = ((j - 1 : Nat) : Int) := by rw [IntKind.wrap_i64]; omega
     refine wg rfl ?_; simp only [go_sem, hw5]; try simp only [go_sem, lQ]
     refine ⟨(j - 1, swp υ j (j - 1)), ⟨by simp only; omega, by simp only; omega, by simp only; rw [sink_step haj hlj] at hsk; exact hsk⟩, by simp only; omega, [], ?_⟩
     simp only [go_sem, AObj.bel, AObj.ren, AV.ren, aA, sg, Int.natCast_zero] <;> simp [enA]
   have hfin : sink (lE d) a i τ = υ := by
     rw [← hsk]
     refine sink_stop fun h => ?_
     have h8 : decide ((a : Int) < (j : Int)) = true := by rw [decide_eq_true_eq]; omega
     rw [h8, Bool.true_and] at hc2
     have h7 : entLt (d (υ j)) (d (υ (j - 1))) = true := h.2
     rw [h7] at hc2; cases hc2
   refine we ?_; try simp only [go_sem, lQ]
   try simp only [go_sem, lQ]
   apply k4
   have hw : IntKind.i64.wrap ((i : Int) + 1) = ((i + 1 : Nat) : Int) := by rw [IntKind.wrap_i64]; omega
   refine wg rfl ?_; simp only [go_sem, hw]; try simp only [go_sem, lQ]
   refine ⟨(i + 1, υ), ⟨by simp only; omega, by simp only; omega, by simp only; rw [insGo_step hlt, hfin] at hgo; exact hgo⟩, by simp only; omega, [], ?_⟩
   simp only [go_sem, AObj.bel, AObj.ren, AV.ren, aA, sg, Int.natCast_zero] <;> simp [enA]
 have hge : b - i = 0 := by have h9 : ¬ i < b := (by simpa using hc1); omega
 rw [hge, insGo] at hgo; refine we ?_; try simp only [go_sem, lQ]
 rw [← hgo]; refine ⟨[], ?_⟩
 simp only [go_sem, AObj.bel, AObj.ren, AV.ren, aA, sg, bH] <;> simp [enA]
set_option maxHeartbeats 2000000 in
theorem w_symMerge_s (d : Nat → Entry) (n : Nat) (σ : Nat → Nat) (hn : n ≤ 1048576) (f : Nat) (ih : ∀ (σ : Nat → Nat) (a m b : Nat), b - a ≤ f → a < m → m < b → b ≤ n → aD P 212 [.ref 0, .raw (.int .i64 (a : Int)), .raw (.int .i64 (m : Int)), .raw (.int .i64 (b : Int)), cmpE] [(0, bH d n σ)] 1 (.tup []) [(0, bH d n (symM (lE d) f σ a m b))] 1) (a m b : Nat) (hf : b - a ≤ f + 1) (h1 : a < m) (h2 : m < b) (h3 : b ≤ n) : aD P 212 [.ref 0, .raw (.int .i64 (a : Int)), .raw (.int .i64 (m : Int)), .raw (.int .i64 (b : Int)), cmpE] [(0, bH d n σ)] 1 (.tup []) [(0, bH d n (symM (lE d) (f + 1) σ a m b))] 1 := by
 refine gw (N := 220) (vs := []) ⟨Tryz.func212, rfl, rfl⟩ rfl rfl (by simp) ?_
 simp only [eE, bH, cmpE]
 have hw0 : IntKind.i64.wrap ((m : Int) - (a : Int)) = (m : Int) - (a : Int) := by rw [IntKind.wrap_i64]; omega
 have hw12 : IntKind.i64.wrap ((b : Int) - (m : Int)) = (b : Int) - (m : Int) := by rw [IntKind.wrap_i64]; omega
 refine sq fun _ k1 => ?_; refine sr rfl fun _ J => ?_; simp only [go_sem, hw0]; apply J
 refine cd rfl (fun hc1 => ?_) fun hc1 => ?_
 · have hm : m = a + 1 := by simp at hc1; omega
   subst hm
   obtain ⟨e, he⟩ : ∃ e, e = bsGo (fun h => !lE d (σ h) (σ a)) b (a + 1) b := ⟨_, rfl⟩
   have hA : symM (lE d) (f + 1) σ a (a + 1) b = rot σ a (a + 1) e := by rw [symM, if_pos (by omega), ← he]
   have hbe := Plain.bs_ok (fun h => !lE d (σ h) (σ a)) (f := b) (s := a + 1) (r := b) (by omega) (by omega)
   rw [← he] at hbe; refine sr rfl fun _ J => ?_; simp only [go_sem]; apply J; refine sr rfl fun _ k4 => ?_; simp only [go_sem]; apply k4; refine sq fun _ k5 => ?_; refine wb ?_
   refine wl (α := Nat × Nat) (fun x => a + 1 ≤ x.1 ∧ x.1 ≤ x.2 ∧ x.2 ≤ b ∧ bsGo (fun h => !lE d (σ h) (σ a)) b x.1 x.2 = e) (fun x => x.2 - x.1) (fun x => ([(0, .ref 0), (1, .raw (.int .i64 (a : Int))), (4, .fn (.func 141) [] []), (10, .raw (.int .i64 (x.1 : Int))), (11, .raw (.int .i64 (x.2 : Int)))], [(0, .row 65 5 ((List.range n).map fun z => enA (d (σ z))))])) 1 (a + 1, b) ⟨Nat.le_refl _, by simp only; omega, Nat.le_refl _, he.symm⟩ [] ?_ ?_
   · simp only [go_sem, AObj.bel, AObj.ren, AV.ren, aA, sg, Int.natCast_zero] <;> simp [enA]
   rintro ⟨i, j⟩ ⟨hi, hij, hj, hbs⟩
   simp only at hi hij hj hbs ⊢
   refine sq fun _ k6 => ?_; refine sr rfl fun _ J => ?_; simp only [go_sem]; apply J
   refine cd rfl (fun hc2 => ?_) fun hc2 => ?_
   · have hlt : i < j := by simpa using hc2
     refine wk ?_; apply k6; refine wb ?_
     have hma : IntKind.i64.wrap ((i : Int) + (j : Int)) = ((i + j : Nat) : Int) := by rw [IntKind.wrap_i64]; omega
     have hmb : IntKind.u64.wrap ((i + j : Nat) : Int) = ((i + j : Nat) : Int) := by rw [IntKind.wrap_u64]; omega
     have hmc : Int.fdiv ((i + j : Nat) : Int) (2 ^ min (Int.toNat 1) 64) = (((i + j) / 2 : Nat) : Int) := by show Int.fdiv ((i + j : Nat) : Int) 2 = _; rw [Int.fdiv_eq_ediv_of_nonneg _ (by omega)]; omega
     have hmd : IntKind.i64.wrap (((i + j) / 2 : Nat) : Int) = (((i + j) / 2 : Nat) : Int) := by rw [IntKind.wrap_i64]; omega
     refine sr rfl fun _ k8 => ?_; simp only [go_sem, hma, hmb, hmc, hmd]
     repeat (first | refine ⟨by first | omega | (intro hg; simp at hg; omega), ?_⟩ | fail)
     apply k8
     have hr1 : (List.range n)[(i + j) / 2]? = some ((i + j) / 2) := List.getElem?_range (by omega)
     have hr2 : (List.range n)[a]? = some (a) := List.getElem?_range (by omega)
     refine sd mixed rfl fun _ k9 => ?_; simp only [go_sem, hr1, hr2, enA, List.length_set, List.length_map, List.length_range]
     repeat (first | refine ⟨by first | omega | (intro hg; simp at hg; omega), ?_⟩ | fail)
     refine tf (first := []) (cap := []) (xs := [enA (d (σ ((i + j) / 2))), enA (d (σ a))]) rfl rfl rfl (by rfl) ⟨Tryz.func141, rfl, rfl⟩ (w_impl_entryOrder (d (σ ((i + j) / 2))) (d (σ a))) (by rfl) (by rfl) (by simp only [go_sem, enA]) ?_
     simp only [go_sem, entCmp_lt]
     repeat (first | refine ⟨by first | omega | (intro hg; simp at hg; omega), ?_⟩ | fail)
     refine ⟨by rfl, ?_⟩; apply k9
     refine cd rfl (fun hc3 => ?_) fun hc3 => ?_
     · have hwh : IntKind.i64.wrap ((((i + j) / 2 : Nat) : Int) + 1) = (((i + j) / 2 + 1 : Nat) : Int) := by rw [IntKind.wrap_i64]; omega
       refine wg rfl ?_; simp only [go_sem, hwh]; try simp only [go_sem, lQ]
       try simp only [go_sem, lQ]
       refine ⟨((i + j) / 2 + 1, j), ⟨by simp only; omega, by simp only; omega, by simp only; omega, by simp only; rw [bs_step hlt (by omega), if_neg (by simp only [lE] at *; rw [hc3]; simp)] at hbs; exact hbs⟩, by simp only; omega, [], ?_⟩
       simp only [go_sem, AObj.bel, AObj.ren, AV.ren, aA, sg, Int.natCast_zero] <;> simp [enA]
     refine wg rfl ?_; simp only [go_sem]; try simp only [go_sem, lQ]
     try simp only [go_sem, lQ]
     refine ⟨(i, (i + j) / 2), ⟨by simp only; omega, by simp only; omega, by simp only; omega, by simp only; rw [bs_step hlt (by omega), if_pos (by simp only [lE] at *; rw [hc3]; rfl)] at hbs; exact hbs⟩, by simp only; omega, [], ?_⟩
     simp only [go_sem, AObj.bel, AObj.ren, AV.ren, aA, sg, Int.natCast_zero] <;> simp [enA]
   have hlt : ¬ i < j := by simpa using hc2
   have hie : e = i := by rw [← hbs]; exact bs_stop hlt
   subst hie; refine we ?_; try simp only [go_sem, lQ]
   apply k5; refine sq fun _ k10 => ?_; refine sr rfl fun _ J => ?_; simp only [go_sem]; apply J; refine wb ?_
   refine wl (α := Nat) (fun x => a ≤ x ∧ x + 1 ≤ e) (fun x => e - x) (fun x => ([(0, .ref 0), (10, .raw (.int .i64 (e : Int))), (13, .raw (.int .i64 (x : Int)))], [(0, .row 65 5 ((List.range n).map fun z => enA (d (rot σ a (a + 1) (x + 1) z))))])) 1 a ⟨Nat.le_refl _, by omega⟩ [] ?_ ?_
   · simp only [go_sem, AObj.bel, AObj.ren, AV.ren, aA, sg, rot_up0] <;> simp
   rintro k ⟨hk, hke⟩
   refine sq fun _ k12 => ?_
   have hwe : IntKind.i64.wrap ((e : Int) - 1) = (e : Int) - 1 := by rw [IntKind.wrap_i64]; omega
   refine sr rfl fun _ J => ?_; simp only [go_sem, hwe]; apply J
   refine cd rfl (fun hc4 => ?_) fun hc4 => ?_
   · have hlt : k + 1 < e := by simp at hc4; omega
     refine wk ?_; apply k12; refine sq fun _ k14 => ?_; refine wb ?_
     have hrow : (((List.range n).map fun z => (.agg [.raw (.string (d (rot σ a (a + 1) (k + 1) z)).key), .raw (.int .i64 (d (rot σ a (a + 1) (k + 1) z)).seq), .raw (.int .i64 (d (rot σ a (a + 1) (k + 1) z)).kind), .raw (.string (d (rot σ a (a + 1) (k + 1) z)).text), .raw (.int .i64 (d (rot σ a (a + 1) (k + 1) z)).n)])).set (k) (.agg [.raw (.string (d (rot σ a (a + 1) (k + 1) (k + 1))).key), .raw (.int .i64 (d (rot σ a (a + 1) (k + 1) (k + 1))).seq), .raw (.int .i64 (d (rot σ a (a + 1) (k + 1) (k + 1))).kind), .raw (.string (d (rot σ a (a + 1) (k + 1) (k + 1))).text), .raw (.int .i64 (d (rot σ a (a + 1) (k + 1) (k + 1))).n)])).set (k + 1) (.agg [.raw (.string (d (rot σ a (a + 1) (k + 1) (k))).key), .raw (.int .i64 (d (rot σ a (a + 1) (k + 1) (k))).seq), .raw (.int .i64 (d (rot σ a (a + 1) (k + 1) (k))).kind), .raw (.string (d (rot σ a (a + 1) (k + 1) (k))).text), .raw (.int .i64 (d (rot σ a (a + 1) (k + 1) (k))).n)]) = (List.range n).map fun z => enA (d (rot σ a (a + 1) (k + 2) z)) := by
       have h9 := row_sw d n (rot σ a (a + 1) (k + 1)) (p := k) (q := k + 1) (by omega) (by omega)
       rw [rot_up σ (by omega)] at h9; exact h9
     have hs1 : ∀ (y : AV), (((List.range n).map fun z => (.agg [.raw (.string (d (rot σ a (a + 1) (k + 1) z)).key), .raw (.int .i64 (d (rot σ a (a + 1) (k + 1) z)).seq), .raw (.int .i64 (d (rot σ a (a + 1) (k + 1) z)).kind), .raw (.string (d (rot σ a (a + 1) (k + 1) z)).text), .raw (.int .i64 (d (rot σ a (a + 1) (k + 1) z)).n)])).set (k) y)[k + 1]? = ((List.range n).map fun z => (.agg [.raw (.string (d (rot σ a (a + 1) (k + 1) z)).key), .raw (.int .i64 (d (rot σ a (a + 1) (k + 1) z)).seq), .raw (.int .i64 (d (rot σ a (a + 1) (k + 1) z)).kind), .raw (.string (d (rot σ a (a + 1) (k + 1) z)).text), .raw (.int .i64 (d (rot σ a (a + 1) (k + 1) z)).n)]))[k + 1]? := fun y => set_ne (by omega) y
     have hr1 : (List.range n)[k]? = some (k) := List.getElem?_range (by omega)
     have hr2 : (List.range n)[k + 1]? = some (k + 1) := List.getElem?_range (by omega)
     have hwk : IntKind.i64.wrap ((k : Int) + 1) = ((k + 1 : Nat) : Int) := by rw [IntKind.wrap_i64]; omega
     refine awp_draw mixed rfl ?_
     simp only [go_sem, hr1, hr2, hwk, hs1, enA, List.length_set, List.length_map, List.length_range]
     repeat (first | refine ⟨by first | omega | (intro hg; simp at hg; omega), ?_⟩ | fail)
     rw [hrow]; refine ⟨by rfl, ?_⟩; try simp only [go_sem, lQ]
     apply k14
     have hwk : IntKind.i64.wrap ((k : Int) + 1) = ((k + 1 : Nat) : Int) := by rw [IntKind.wrap_i64]; omega
     refine wg rfl ?_; simp only [go_sem, hwk]; try simp only [go_sem, lQ]
     refine ⟨k + 1, ⟨by omega, by omega⟩, by omega, [], ?_⟩
     simp only [go_sem, AObj.bel, AObj.ren, AV.ren, aA, sg, Int.natCast_zero] <;> simp [enA]
   have hke : k + 1 = e := by simp at hc4; omega
   refine we ?_; try simp only [go_sem, lQ]
   apply k10; refine wR ?_; rw [hA, ← hke]; refine ⟨[], ?_⟩
   simp only [go_sem, AObj.bel, AObj.ren, AV.ren, aA, sg, bH] <;> simp [enA]
 have hm : ¬ m - a = 1 := by simp at hc1; omega
 refine wk ?_; apply k1; refine sq fun _ k15 => ?_; refine sr rfl fun _ J => ?_; simp only [go_sem, hw12]; apply J
 refine cd rfl (fun hc5 => ?_) fun hc5 => ?_
 · have hb : b = m + 1 := by simp at hc5; omega
   subst hb
   obtain ⟨e, he⟩ : ∃ e, e = bsGo (fun h => lE d (σ m) (σ h)) m a m := ⟨_, rfl⟩
   have hB : symM (lE d) (f + 1) σ a m (m + 1) = rot σ e m (m + 1) := by rw [symM, if_neg hm, if_pos (by omega), ← he]
   have hbe := Plain.bs_ok (fun h => lE d (σ m) (σ h)) (f := m) (s := a) (r := m) (by omega) (by omega)
   rw [← he] at hbe; refine sr rfl fun _ J => ?_; simp only [go_sem]; apply J; refine sr rfl fun _ k18 => ?_; simp only [go_sem]; apply k18; refine sq fun _ k19 => ?_; refine wb ?_
   refine wl (α := Nat × Nat) (fun x => a ≤ x.1 ∧ x.1 ≤ x.2 ∧ x.2 ≤ m ∧ bsGo (fun h => lE d (σ m) (σ h)) m x.1 x.2 = e) (fun x => x.2 - x.1) (fun x => ([(0, .ref 0), (2, .raw (.int .i64 (m : Int))), (4, .fn (.func 141) [] []), (14, .raw (.int .i64 (x.1 : Int))), (15, .raw (.int .i64 (x.2 : Int)))], [(0, .row 65 5 ((List.range n).map fun z => enA (d (σ z))))])) 1 (a, m) ⟨Nat.le_refl _, by simp only; omega, Nat.le_refl _, he.symm⟩ [] ?_ ?_
   · simp only [go_sem, AObj.bel, AObj.ren, AV.ren, aA, sg, Int.natCast_zero] <;> simp [enA]
   rintro ⟨i, j⟩ ⟨hi, hij, hj, hbs⟩
   simp only at hi hij hj hbs ⊢
   refine sq fun _ k20 => ?_; refine sr rfl fun _ J => ?_; simp only [go_sem]; apply J
   refine cd rfl (fun hc6 => ?_) fun hc6 => ?_
   · have hlt : i < j := by simpa using hc6
     refine wk ?_; apply k20; refine wb ?_
     have hma : IntKind.i64.wrap ((i : Int) + (j : Int)) = ((i + j : Nat) : Int) := by rw [IntKind.wrap_i64]; omega
     have hmb : IntKind.u64.wrap ((i + j : Nat) : Int) = ((i + j : Nat) : Int) := by rw [IntKind.wrap_u64]; omega
     have hmc : Int.fdiv ((i + j : Nat) : Int) (2 ^ min (Int.toNat 1) 64) = (((i + j) / 2 : Nat) : Int) := by show Int.fdiv ((i + j : Nat) : Int) 2 = _; rw [Int.fdiv_eq_ediv_of_nonneg _ (by omega)]; omega
     have hmd : IntKind.i64.wrap (((i + j) / 2 : Nat) : Int) = (((i + j) / 2 : Nat) : Int) := by rw [IntKind.wrap_i64]; omega
     refine sr rfl fun _ k22 => ?_; simp only [go_sem, hma, hmb, hmc, hmd]
     repeat (first | refine ⟨by first | omega | (intro hg; simp at hg; omega), ?_⟩ | fail)
     apply k22
     have hr1 : (List.range n)[(i + j) / 2]? = some ((i + j) / 2) := List.getElem?_range (by omega)
     have hr2 : (List.range n)[m]? = some (m) := List.getElem?_range (by omega)
     refine sd mixed rfl fun _ k23 => ?_; simp only [go_sem, hr1, hr2, enA, List.length_set, List.length_map, List.length_range]
     repeat (first | refine ⟨by first | omega | (intro hg; simp at hg; omega), ?_⟩ | fail)
     refine tf (first := []) (cap := []) (xs := [enA (d (σ m)), enA (d (σ ((i + j) / 2)))]) rfl rfl rfl (by rfl) ⟨Tryz.func141, rfl, rfl⟩ (w_impl_entryOrder (d (σ m)) (d (σ ((i + j) / 2)))) (by rfl) (by rfl) (by simp only [go_sem, enA]) ?_
     simp only [go_sem, entCmp_lt]
     repeat (first | refine ⟨by first | omega | (intro hg; simp at hg; omega), ?_⟩ | fail)
     refine ⟨by rfl, ?_⟩; apply k23
     refine cd rfl (fun hc7 => ?_) fun hc7 => ?_
     · have hwh : IntKind.i64.wrap ((((i + j) / 2 : Nat) : Int) + 1) = (((i + j) / 2 + 1 : Nat) : Int) := by rw [IntKind.wrap_i64]; omega
       refine wg rfl ?_; simp only [go_sem, hwh]; try simp only [go_sem, lQ]
       try simp only [go_sem, lQ]
       refine ⟨((i + j) / 2 + 1, j), ⟨by simp only; omega, by simp only; omega, by simp only; omega, by simp only; rw [bs_step hlt (by omega), if_neg (by simp only [lE] at *; simpa using hc7)] at hbs; exact hbs⟩, by simp only; omega, [], ?_⟩
       simp only [go_sem, AObj.bel, AObj.ren, AV.ren, aA, sg, Int.natCast_zero] <;> simp [enA]
     refine wg rfl ?_; simp only [go_sem]; try simp only [go_sem, lQ]
     try simp only [go_sem, lQ]
     refine ⟨(i, (i + j) / 2), ⟨by simp only; omega, by simp only; omega, by simp only; omega, by simp only; rw [bs_step hlt (by omega), if_pos (by simp only [lE] at *; simpa using hc7)] at hbs; exact hbs⟩, by simp only; omega, [], ?_⟩
     simp only [go_sem, AObj.bel, AObj.ren, AV.ren, aA, sg, Int.natCast_zero] <;> simp [enA]
   have hlt : ¬ i < j := by simpa using hc6
   have hie : e = i := by rw [← hbs]; exact bs_stop hlt
   subst hie; refine we ?_; try simp only [go_sem, lQ]
   apply k19; refine sq fun _ k24 => ?_; refine sr rfl fun _ J => ?_; simp only [go_sem]; apply J; refine wb ?_
   refine wl (α := Nat) (fun x => e ≤ x ∧ x ≤ m) (fun x => x - e) (fun x => ([(0, .ref 0), (14, .raw (.int .i64 (e : Int))), (17, .raw (.int .i64 (x : Int)))], [(0, .row 65 5 ((List.range n).map fun z => enA (d (rot σ x m (m + 1) z))))])) 1 m ⟨by omega, Nat.le_refl _⟩ [] ?_ ?_
   · simp only [go_sem, AObj.bel, AObj.ren, AV.ren, aA, sg, rot_dn0] <;> simp
   rintro k ⟨hk, hkm⟩
   refine sq fun _ k26 => ?_; refine sr rfl fun _ J => ?_; simp only [go_sem]; apply J
   refine cd rfl (fun hc8 => ?_) fun hc8 => ?_
   · have hlt : e < k := by simpa using hc8
     refine wk ?_; apply k26; refine sq fun _ k28 => ?_; refine wb ?_
     have hrow : (((List.range n).map fun z => (.agg [.raw (.string (d (rot σ k m (m + 1) z)).key), .raw (.int .i64 (d (rot σ k m (m + 1) z)).seq), .raw (.int .i64 (d (rot σ k m (m + 1) z)).kind), .raw (.string (d (rot σ k m (m + 1) z)).text), .raw (.int .i64 (d (rot σ k m (m + 1) z)).n)])).set (k) (.agg [.raw (.string (d (rot σ k m (m + 1) (k - 1))).key), .raw (.int .i64 (d (rot σ k m (m + 1) (k - 1))).seq), .raw (.int .i64 (d (rot σ k m (m + 1) (k - 1))).kind), .raw (.string (d (rot σ k m (m + 1) (k - 1))).text), .raw (.int .i64 (d (rot σ k m (m + 1) (k - 1))).n)])).set (k - 1) (.agg [.raw (.string (d (rot σ k m (m + 1) (k))).key), .raw (.int .i64 (d (rot σ k m (m + 1) (k))).seq), .raw (.int .i64 (d (rot σ k m (m + 1) (k))).kind), .raw (.string (d (rot σ k m (m + 1) (k))).text), .raw (.int .i64 (d (rot σ k m (m + 1) (k))).n)]) = (List.range n).map fun z => enA (d (rot σ (k - 1) m (m + 1) z)) := by
       have h9 := row_sw d n (rot σ k m (m + 1)) (p := k) (q := k - 1) (by omega) (by omega)
       rw [rot_dn σ (by omega) (by omega)] at h9; exact h9
     have hs1 : ∀ (y : AV), (((List.range n).map fun z => (.agg [.raw (.string (d (rot σ k m (m + 1) z)).key), .raw (.int .i64 (d (rot σ k m (m + 1) z)).seq), .raw (.int .i64 (d (rot σ k m (m + 1) z)).kind), .raw (.string (d (rot σ k m (m + 1) z)).text), .raw (.int .i64 (d (rot σ k m (m + 1) z)).n)])).set (k) y)[k - 1]? = ((List.range n).map fun z => (.agg [.raw (.string (d (rot σ k m (m + 1) z)).key), .raw (.int .i64 (d (rot σ k m (m + 1) z)).seq), .raw (.int .i64 (d (rot σ k m (m + 1) z)).kind), .raw (.string (d (rot σ k m (m + 1) z)).text), .raw (.int .i64 (d (rot σ k m (m + 1) z)).n)]))[k - 1]? := fun y => set_ne (by omega) y
     have hr1 : (List.range n)[k]? = some (k) := List.getElem?_range (by omega)
     have hr2 : (List.range n)[k - 1]? = some (k - 1) := List.getElem?_range (by omega)
     have hwk : IntKind.i64.wrap ((k : Int) - 1) = (k : Int) - 1 := by rw [IntKind.wrap_i64]; omega
     have hpn : ((k : Int) - 1).toNat = k - 1 := by omega
     refine awp_draw mixed rfl ?_
     simp only [go_sem, hr1, hr2, hwk, hpn, hs1, enA, List.length_set, List.length_map, List.length_range]
     repeat (first | refine ⟨by first | omega | (intro hg; simp at hg; omega), ?_⟩ | fail)
     rw [hrow]; refine ⟨by rfl, ?_⟩; try simp only [go_sem, lQ]
     apply k28
     have hwk2 : IntKind.i64.wrap ((k : Int) - 1) = ((k - 1 : Nat) : Int) := by rw [IntKind.wrap_i64]; omega
     refine wg rfl ?_; simp only [go_sem, hwk2]; try simp only [go_sem, lQ]
     refine ⟨k - 1, ⟨by omega, by omega⟩, by omega, [], ?_⟩
     simp only [go_sem, AObj.bel, AObj.ren, AV.ren, aA, sg, Int.natCast_zero] <;> simp [enA]
   have hke : k = e := by have h9 : ¬ e < k := (by simpa using hc8); omega
   refine we ?_; try simp only [go_sem, lQ]
   apply k24; refine wR ?_; rw [hB, ← hke]; refine ⟨[], ?_⟩
   simp only [go_sem, AObj.bel, AObj.ren, AV.ren, aA, sg, bH] <;> simp [enA]
 have hb : ¬ b - m = 1 := by simp at hc5; omega
 have hcut := Plain.symCut_ok (l := lE d) (σ := σ) h1 h2
 obtain ⟨mid, hmid⟩ : ∃ mid, mid = (a + b) / 2 := ⟨_, rfl⟩
 obtain ⟨st, hst⟩ : ∃ st, st = symCut (lE d) σ a m b := ⟨_, rfl⟩
 obtain ⟨en, hen⟩ : ∃ en, en = mid + m - st := ⟨_, rfl⟩
 rw [← hst, ← hmid, ← hen] at hcut
 obtain ⟨k1, k2, k3, k4, k5, -, -⟩ := hcut
 obtain ⟨s0, hs0⟩ : ∃ s0, s0 = if mid < m then mid + m - b else a := ⟨_, rfl⟩
 obtain ⟨r0, hr0⟩ : ∃ r0, r0 = if mid < m then mid else m := ⟨_, rfl⟩
 have he : st = bsGo (fun c => lE d (σ (mid + m - 1 - c)) (σ c)) b s0 r0 := by rw [hst, hs0, hr0, hmid]; rfl
 have hsb : s0 ≤ r0 ∧ mid + m ≤ b + s0 ∧ r0 ≤ mid ∧ r0 ≤ m ∧ a ≤ s0 := by rw [hs0, hr0]; split <;> omega
 obtain ⟨σ1, hσ1⟩ : ∃ σ1, σ1 = if st < m ∧ m < en then rot σ st m en else σ := ⟨_, rfl⟩
 obtain ⟨σ2, hσ2⟩ : ∃ σ2, σ2 = if a < st ∧ st < mid then symM (lE d) f σ1 a st mid else σ1 := ⟨_, rfl⟩
 have hC : symM (lE d) (f + 1) σ a m b = if mid < en ∧ en < b then symM (lE d) f σ2 mid en b else σ2 := by
   rw [symM, if_neg hm, if_neg hb]; simp only; rw [hσ2, hσ1, hen, hst, hmid]
 have hmid2 : (a + b) / 2 = mid := hmid.symm
 refine wk ?_; apply k15
 have hma : IntKind.i64.wrap ((a : Int) + (b : Int)) = ((a + b : Nat) : Int) := by rw [IntKind.wrap_i64]; omega
 have hmb : IntKind.u64.wrap ((a + b : Nat) : Int) = ((a + b : Nat) : Int) := by rw [IntKind.wrap_u64]; omega
 have hmc : Int.fdiv ((a + b : Nat) : Int) (2 ^ min (Int.toNat 1) 64) = (((a + b) / 2 : Nat) : Int) := by show Int.fdiv ((a + b : Nat) : Int) 2 = _; rw [Int.fdiv_eq_ediv_of_nonneg _ (by omega)]; omega
 have hmd : IntKind.i64.wrap (((a + b) / 2 : Nat) : Int) = (((a + b) / 2 : Nat) : Int) := by rw [IntKind.wrap_i64]; omega
 rw [hmid2] at hmc hmd
 refine sr rfl fun _ k29 => ?_; simp only [go_sem, hma, hmb, hmc, hmd]
 repeat (first | refine ⟨by first | omega | (intro hg; simp at hg; omega), ?_⟩ | fail)
 apply k29
 have hwn : IntKind.i64.wrap ((mid : Int) + (m : Int)) = ((mid + m : Nat) : Int) := by rw [IntKind.wrap_i64]; omega
 refine sr rfl fun _ J => ?_; simp only [go_sem, hwn]; apply J; refine sr rfl fun _ k31 => ?_; simp only [go_sem]; apply k31
 refine awp_mid (α := Unit) (fun x => True) (fun x => ([(0, .ref 0), (1, .raw (.int .i64 (a : Int))), (2, .raw (.int .i64 (m : Int))), (3, .raw (.int .i64 (b : Int))), (4, .fn (.func 141) [] []), (18, .raw (.int .i64 (mid : Int))), (19, .raw (.int .i64 ((mid + m : Nat) : Int))), (20, .raw (.int .i64 (s0 : Int))), (21, .raw (.int .i64 (r0 : Int)))], [(0, .row 65 5 ((List.range n).map fun z => enA (d (σ z))))])) 1 ?_ ?_
 · refine sr rfl fun _ J => ?_; simp only [go_sem]; apply J
   refine cd rfl (fun hc9 => ?_) fun hc9 => ?_
   · have hlt : mid < m := by simpa using hc9
     have q1 : s0 = mid + m - b := by rw [hs0, if_pos hlt]
     have q2 : r0 = mid := by rw [hr0, if_pos hlt]
     have hws : IntKind.i64.wrap (((mid + m : Nat) : Int) - (b : Int)) = ((mid + m - b : Nat) : Int) := by rw [IntKind.wrap_i64]; omega
     refine sr rfl fun _ J => ?_; simp only [go_sem, hws]; apply J; refine wg rfl ?_; simp only [go_sem]; try simp only [midQ]
     refine ⟨(), trivial, [], ?_⟩
     simp only [go_sem, AObj.bel, AObj.ren, AV.ren, aA, sg, Int.natCast_zero] <;> simp [enA, q1, q2]
   have hlt : ¬ mid < m := by simpa using hc9
   have q1 : s0 = a := by rw [hs0, if_neg hlt]
   have q2 : r0 = m := by rw [hr0, if_neg hlt]
   refine sr rfl fun _ J => ?_; simp only [go_sem]; apply J; refine wg rfl ?_; simp only [go_sem]; try simp only [midQ]
   refine ⟨(), trivial, [], ?_⟩
   simp only [go_sem, AObj.bel, AObj.ren, AV.ren, aA, sg, Int.natCast_zero] <;> simp [enA, q1, q2]
 rintro ⟨⟩ -
 have hwp : IntKind.i64.wrap (((mid + m : Nat) : Int) - 1) = ((mid + m - 1 : Nat) : Int) := by rw [IntKind.wrap_i64]; omega
 refine sr rfl fun _ J => ?_; simp only [go_sem, hwp]; apply J; refine sq fun _ k37 => ?_; refine wb ?_
 refine wl (α := Nat × Nat) (fun x => s0 ≤ x.1 ∧ x.1 ≤ x.2 ∧ x.2 ≤ r0 ∧ bsGo (fun c => lE d (σ (mid + m - 1 - c)) (σ c)) b x.1 x.2 = st) (fun x => x.2 - x.1) (fun x => ([(0, .ref 0), (1, .raw (.int .i64 (a : Int))), (2, .raw (.int .i64 (m : Int))), (3, .raw (.int .i64 (b : Int))), (4, .fn (.func 141) [] []), (18, .raw (.int .i64 (mid : Int))), (19, .raw (.int .i64 ((mid + m : Nat) : Int))), (20, .raw (.int .i64 (x.1 : Int))), (21, .raw (.int .i64 (x.2 : Int))), (22, .raw (.int .i64 ((mid + m - 1 : Nat) : Int)))], [(0, .row 65 5 ((List.range n).map fun z => enA (d (σ z))))])) 1 (s0, r0) ⟨Nat.le_refl _, by simp only; omega, Nat.le_refl _, he.symm⟩ [] ?_ ?_
 · simp only [go_sem, AObj.bel, AObj.ren, AV.ren, aA, sg, Int.natCast_zero] <;> simp [enA]
 rintro ⟨i, j⟩ ⟨hi, hij, hj, hbs⟩
 simp only at hi hij hj hbs ⊢
 refine sq fun _ k38 => ?_; refine sr rfl fun _ J => ?_; simp only [go_sem]; apply J
 refine cd rfl (fun hc10 => ?_) fun hc10 => ?_
 · have hlt : i < j := by simpa using hc10
   refine wk ?_; apply k38; refine wb ?_
   have hma : IntKind.i64.wrap ((i : Int) + (j : Int)) = ((i + j : Nat) : Int) := by rw [IntKind.wrap_i64]; omega
   have hmb : IntKind.u64.wrap ((i + j : Nat) : Int) = ((i + j : Nat) : Int) := by rw [IntKind.wrap_u64]; omega
   have hmc : Int.fdiv ((i + j : Nat) : Int) (2 ^ min (Int.toNat 1) 64) = (((i + j) / 2 : Nat) : Int) := by show Int.fdiv ((i + j : Nat) : Int) 2 = _; rw [Int.fdiv_eq_ediv_of_nonneg _ (by omega)]; omega
   have hmd : IntKind.i64.wrap (((i + j) / 2 : Nat) : Int) = (((i + j) / 2 : Nat) : Int) := by rw [IntKind.wrap_i64]; omega
   refine sr rfl fun _ k40 => ?_; simp only [go_sem, hma, hmb, hmc, hmd]
   repeat (first | refine ⟨by first | omega | (intro hg; simp at hg; omega), ?_⟩ | fail)
   apply k40
   have hr1 : (List.range n)[mid + m - 1 - (i + j) / 2]? = some (mid + m - 1 - (i + j) / 2) := List.getElem?_range (by omega)
   have hr2 : (List.range n)[(i + j) / 2]? = some ((i + j) / 2) := List.getElem?_range (by omega)
   have hwpc : IntKind.i64.wrap (((mid + m - 1 : Nat) : Int) - (((i + j) / 2 : Nat) : Int)) = ((mid + m - 1 - (i + j) / 2 : Nat) : Int) := by rw [IntKind.wrap_i64]; omega
   refine sd mixed rfl fun _ k41 => ?_; simp only [go_sem, hr1, hr2, hwpc, enA, List.length_set, List.length_map, List.length_range]
   repeat (first | refine ⟨by first | omega | (intro hg; simp at hg; omega), ?_⟩ | fail)
   refine tf (first := []) (cap := []) (xs := [enA (d (σ (mid + m - 1 - (i + j) / 2))), enA (d (σ ((i + j) / 2)))]) rfl rfl rfl (by rfl) ⟨Tryz.func141, rfl, rfl⟩ (w_impl_entryOrder (d (σ (mid + m - 1 - (i + j) / 2))) (d (σ ((i + j) / 2)))) (by rfl) (by rfl) (by simp only [go_sem, enA]) ?_
   simp only [go_sem, entCmp_lt]
   repeat (first | refine ⟨by first | omega | (intro hg; simp at hg; omega), ?_⟩ | fail)
   refine ⟨by rfl, ?_⟩; apply k41
   refine cd rfl (fun hc11 => ?_) fun hc11 => ?_
   · have hwh : IntKind.i64.wrap ((((i + j) / 2 : Nat) : Int) + 1) = (((i + j) / 2 + 1 : Nat) : Int) := by rw [IntKind.wrap_i64]; omega
     refine wg rfl ?_; simp only [go_sem, hwh]; try simp only [go_sem, lQ]
     try simp only [go_sem, lQ]
     refine ⟨((i + j) / 2 + 1, j), ⟨by simp only; omega, by simp only; omega, by simp only; omega, by simp only; rw [bs_step hlt (by omega), if_neg (by simp only [lE] at *; simpa using hc11)] at hbs; exact hbs⟩, by simp only; omega, [], ?_⟩
     simp only [go_sem, AObj.bel, AObj.ren, AV.ren, aA, sg, Int.natCast_zero] <;> simp [enA]
   refine wg rfl ?_; simp only [go_sem]; try simp only [go_sem, lQ]
   try simp only [go_sem, lQ]
   refine ⟨(i, (i + j) / 2), ⟨by simp only; omega, by simp only; omega, by simp only; omega, by simp only; rw [bs_step hlt (by omega), if_pos (by simp only [lE] at *; simpa using hc11)] at hbs; exact hbs⟩, by simp only; omega, [], ?_⟩
   simp only [go_sem, AObj.bel, AObj.ren, AV.ren, aA, sg, Int.natCast_zero] <;> simp [enA]
 have hlt : ¬ i < j := by simpa using hc10
 have hie : st = i := by rw [← hbs]; exact bs_stop hlt
 rw [← hie]; refine we ?_; try simp only [go_sem, lQ]
 apply k37
 have hwen : IntKind.i64.wrap (((mid + m : Nat) : Int) - (st : Int)) = (en : Int) := by rw [IntKind.wrap_i64]; omega
 refine sr rfl fun _ J => ?_; simp only [go_sem, hwen]; apply J
 refine awp_mid (α := Unit) (fun x => True) (fun x => ([(0, .ref 0), (1, .raw (.int .i64 (a : Int))), (3, .raw (.int .i64 (b : Int))), (4, .fn (.func 141) [] []), (18, .raw (.int .i64 (mid : Int))), (20, .raw (.int .i64 (st : Int))), (24, .raw (.int .i64 (en : Int)))], [(0, .row 65 5 ((List.range n).map fun z => enA (d (σ1 z))))])) 1 ?_ ?_
 · refine sr rfl fun _ J => ?_; simp only [go_sem]; apply J
   refine cd rfl (fun hc12 => ?_) fun hc12 => ?_
   · have hx : st < m ∧ m < en := by simp at hc12; omega
     have q1 : σ1 = rot σ st m en := by rw [hσ1, if_pos hx]
     refine wg rfl ?_; simp only [go_sem]
     refine vg [] 0 rfl rfl rfl ⟨Tryz.func230, rfl, rfl⟩ (w_slices_rotateCmpFunc_impl_Entry d n σ hn st m en hx.1 hx.2 (by omega)) rfl (by simp only [go_sem, cmpE]) (by simp only [go_sem, cmpE]) (fit1 (H1 := []) (.inl rfl) (by simp only [go_sem, bH]) (by simp only [go_sem, AObj.bel, bH])) (.inl rfl) ?_
     simp only [go_sem, AV.ren, AObj.ren, aA, shift, sg, Nat.le_refl, Nat.add_zero, Nat.sub_self, bH]; try simp only [midQ]
     refine ⟨(), trivial, [], ?_⟩
     simp only [go_sem, AObj.bel, AObj.ren, AV.ren, aA, sg, Int.natCast_zero] <;> simp [enA, q1]
   have hx : ¬ (st < m ∧ m < en) := by intro h; simp at hc12; omega
   have q1 : σ1 = σ := by rw [hσ1, if_neg hx]
   refine wk ?_; try simp only [midQ]
   refine ⟨(), trivial, [], ?_⟩
   simp only [go_sem, AObj.bel, AObj.ren, AV.ren, aA, sg, Int.natCast_zero] <;> simp [enA, q1]
 rintro ⟨⟩ -
 refine awp_mid (α := Unit) (fun x => True) (fun x => ([(0, .ref 0), (3, .raw (.int .i64 (b : Int))), (4, .fn (.func 141) [] []), (18, .raw (.int .i64 (mid : Int))), (24, .raw (.int .i64 (en : Int)))], [(0, .row 65 5 ((List.range n).map fun z => enA (d (σ2 z))))])) 1 ?_ ?_
 · refine sr rfl fun _ J => ?_; simp only [go_sem]; apply J
   refine cd rfl (fun hc13 => ?_) fun hc13 => ?_
   · have hx : a < st ∧ st < mid := by simp at hc13; omega
     have q1 : σ2 = symM (lE d) f σ1 a st mid := by rw [hσ2, if_pos hx]
     refine wg rfl ?_; simp only [go_sem]
     refine vg [] 0 rfl rfl rfl ⟨Tryz.func212, rfl, rfl⟩ (ih σ1 a st mid (by omega) hx.1 hx.2 (by omega)) rfl (by simp only [go_sem, cmpE]) (by simp only [go_sem, cmpE]) (fit1 (H1 := []) (.inl rfl) (by simp only [go_sem, bH]) (by simp only [go_sem, AObj.bel, bH])) (.inl rfl) ?_
     simp only [go_sem, AV.ren, AObj.ren, aA, shift, sg, Nat.le_refl, Nat.add_zero, Nat.sub_self, bH]; try simp only [midQ]
     refine ⟨(), trivial, [], ?_⟩
     simp only [go_sem, AObj.bel, AObj.ren, AV.ren, aA, sg, Int.natCast_zero] <;> simp [enA, q1]
   have hx : ¬ (a < st ∧ st < mid) := by intro h; simp at hc13; omega
   have q1 : σ2 = σ1 := by rw [hσ2, if_neg hx]
   refine wk ?_; try simp only [midQ]
   refine ⟨(), trivial, [], ?_⟩
   simp only [go_sem, AObj.bel, AObj.ren, AV.ren, aA, sg, Int.natCast_zero] <;> simp [enA, q1]
 rintro ⟨⟩ -
 refine sr rfl fun _ J => ?_; simp only [go_sem]; apply J
 refine cd rfl (fun hc14 => ?_) fun hc14 => ?_
 · have hx : mid < en ∧ en < b := by simp at hc14; omega
   rw [hC, if_pos hx]; refine wg rfl ?_; simp only [go_sem]
   refine vg [] 0 rfl rfl rfl ⟨Tryz.func212, rfl, rfl⟩ (ih σ2 mid en b (by omega) hx.1 hx.2 h3) rfl (by simp only [go_sem, cmpE]) (by simp only [go_sem, cmpE]) (fit1 (H1 := []) (.inl rfl) (by simp only [go_sem, bH]) (by simp only [go_sem, AObj.bel, bH])) (.inl rfl) ?_
   simp only [go_sem, AV.ren, AObj.ren, aA, shift, sg, Nat.le_refl, Nat.add_zero, Nat.sub_self, bH]; refine ⟨[], ?_⟩
   simp only [go_sem, AObj.bel, AObj.ren, AV.ren, aA, sg, bH] <;> simp [enA]
 have hx : ¬ (mid < en ∧ en < b) := by intro h; simp at hc14; omega
 rw [hC, if_neg hx]; refine wk ?_; refine ⟨[], ?_⟩
 simp only [go_sem, AObj.bel, AObj.ren, AV.ren, aA, sg, bH] <;> simp [enA]
theorem w_symMerge (d : Nat → Entry) (n : Nat) (hn : n ≤ 1048576) : ∀ (f : Nat) (σ : Nat → Nat) (a m b : Nat), b - a ≤ f → a < m → m < b → b ≤ n →
    aD P 212 [.ref 0, .raw (.int .i64 (a : Int)), .raw (.int .i64 (m : Int)), .raw (.int .i64 (b : Int)), cmpE] [(0, bH d n σ)] 1 (.tup []) [(0, bH d n (symM (lE d) f σ a m b))] 1
  | 0, _, _, _, _, h, h1, h2, _ => by omega
  | f + 1, σ, a, m, b, h, h1, h2, h3 => w_symMerge_s d n σ hn f (w_symMerge d n hn f) a m b h h1 h2 h3
end
end Go.Proofs.S
end
section
open Go Go.Abs Go.Proofs
open Go.Plain (blkGo mrgGo mrgEnd stabGo stab insertS symM swp rot)
namespace Go.Proofs.S
section
variable {σ : Nat → Nat} {n bs f a : Nat}
theorem blk_step {l : Nat → Nat → Bool} (h : a + bs ≤ n) : blkGo l n bs (f + 1) σ a = blkGo l n bs f (insertS l σ a (a + bs)) (a + bs) := by rw [blkGo, if_pos h]
theorem blk_stop {l : Nat → Nat → Bool} (h : ¬ a + bs ≤ n) : blkGo l n bs f σ a = (σ, a) := by
  cases f with
  | zero => rfl
  | succ f => rw [blkGo, if_neg h]
theorem mrg_step {l : Nat → Nat → Bool} (h : a + 2 * bs ≤ n) : mrgGo l n bs (f + 1) σ a = mrgGo l n bs f (symM l n σ a (a + bs) (a + 2 * bs)) (a + 2 * bs) := by rw [mrgGo, if_pos h]
theorem mrg_stop {l : Nat → Nat → Bool} (h : ¬ a + 2 * bs ≤ n) : mrgGo l n bs f σ a = (σ, a) := by
  cases f with
  | zero => rfl
  | succ f => rw [mrgGo, if_neg h]
theorem stab_step {l : Nat → Nat → Bool} (h : bs < n) : stabGo l n (f + 1) bs σ = stabGo l n f (2 * bs) (mrgEnd l n bs (mrgGo l n bs n σ 0)) := by rw [stabGo, if_pos h]
theorem stab_stop {l : Nat → Nat → Bool} (h : ¬ bs < n) : stabGo l n f bs σ = σ := by
  cases f with
  | zero => rfl
  | succ f => rw [stabGo, if_neg h]
theorem stab_def (l : Nat → Nat → Bool) (n : Nat) (h : blkGo l n 20 n id 0 = (σ, a)) : stab l n = stabGo l n n 20 (insertS l σ a n) := by unfold stab; rw [h]
def bY (ls : List Entry) : List Entry := ls.foldl dH []
theorem pos_eq (ls : List Entry) (e : Entry) : ∀ k, k ≤ ls.length → Plain.pos entLt ls e k = posGo ls e k
  | 0, _ => rfl
  | k + 1, h => by
    unfold Plain.pos posGo; rw [List.getElem?_eq_getElem (by omega)]; simp only [Option.getD_some]; rw [pos_eq ls e k (by omega)]
theorem put_eq (ls : List Entry) (e : Entry) : Plain.put entLt ls e = dH ls e := by
  unfold Plain.put dH putPos; rw [pos_eq ls e ls.length (Nat.le_refl _)]
theorem sortE_put (ls : List Entry) : bY ls = ls.foldl (Plain.put entLt) [] := by
  unfold bY
  have : dH = Plain.put entLt := by funext a b; exact (put_eq a b).symm
  rw [this]
def dOf (ls : List Entry) : Nat → Entry := fun k => ls.getD k zEntV
theorem dOf_get {ls : List Entry} {k : Nat} (h : k < ls.length) : ls[k]? = some (dOf ls k) := by simp [dOf, List.getD_eq_getElem?_getD, List.getElem?_eq_getElem h]
theorem row_dOf (ls : List Entry) : ls.map enA = (List.range ls.length).map fun k => enA (dOf ls (id k)) := by
  refine List.ext_getElem? fun i => ?_
  rw [List.getElem?_map, List.getElem?_map]
  by_cases h : i < ls.length
  · rw [dOf_get h, List.getElem?_range h]; rfl
  rw [List.getElem?_eq_none (by omega), List.getElem?_eq_none (by simp; omega)]; rfl
theorem row_stab (ls : List Entry) : ((List.range ls.length).map fun k => enA (dOf ls (stab (lE (dOf ls)) ls.length k))) = (bY ls).map enA := by
  rw [sortE_put, ← Plain.stab_list (lt := entLt) (dOf ls) ls (fun i hi => dOf_get hi) (entLt_wo.orders _), List.map_map]; rfl
theorem sortE_perm (ls : List Entry) : (bY ls).Perm ls := by rw [sortE_put]; exact (Plain.put_sorted entLt_wo ls).2
theorem sortE_len (ls : List Entry) : (bY ls).length = ls.length := (sortE_perm ls).length_eq
theorem or_nat (a b : Nat) : ∀ (i : Nat) (out : Int), orGo (a : Int) (b : Int) i out = out * 2 ^ i + (((a ||| b) % 2 ^ i : Nat) : Int)
  | 0, out => by simp [orGo, Nat.mod_one]
  | i + 1, out => by
    unfold orGo
    have hT : orT (a : Int) (b : Int) i = (a ||| b).testBit i := by
      unfold orT; rw [Nat.testBit_or, Nat.testBit_eq_decide_div_mod_eq, Nat.testBit_eq_decide_div_mod_eq]
      have h2 : (2 : Int) ^ i = ((2 ^ i : Nat) : Int) := by norm_cast
      rw [h2, ← Int.ofNat_tdiv, ← Int.ofNat_tdiv]
      have e2 : (2 : Int) = ((2 : Nat) : Int) := rfl
      rw [e2, ← Int.ofNat_tmod, ← Int.ofNat_tmod]
      congr 1 <;> exact decide_eq_decide.2 (by omega)
    have hm : (a ||| b) % 2 ^ (i + 1) = (a ||| b) % 2 ^ i + (if (a ||| b).testBit i = true then 2 ^ i else 0) := by
      rw [Nat.pow_succ, Nat.mod_mul, Nat.testBit_eq_decide_div_mod_eq]
      rcases Nat.mod_two_eq_zero_or_one ((a ||| b) / 2 ^ i) with h | h
      · rw [h]; simp
      rw [h]; simp
    rw [hT, or_nat a b i, hm]
    have h2 : (2 : Int) ^ (i + 1) = 2 * 2 ^ i := by rw [Int.pow_succ]; omega
    have h3 : (((2 ^ i : Nat)) : Int) = (2 : Int) ^ i := by norm_cast
    rw [h2]; split
    · rename_i h
      simp only [if_pos h, Int.natCast_add, h3]; rw [Int.add_mul, Int.mul_assoc]; omega
    rename_i h
    simp only [if_neg h, Nat.add_zero]; rw [Int.mul_assoc]
theorem or_orZ (a b : Int) (ha : 0 ≤ a) (ha1 : a ≤ 65535) (hb : 0 ≤ b) (hb1 : b ≤ 65535) : IntKind.i64.wrap (((BitVec.ofInt 64 a ||| BitVec.ofInt 64 b).toNat : Nat) : Int) = orZ a b := by
  obtain ⟨m, rfl⟩ := Int.eq_ofNat_of_zero_le ha
  obtain ⟨n, rfl⟩ := Int.eq_ofNat_of_zero_le hb
  have hm : m < 2 ^ 16 := by omega
  have hn : n < 2 ^ 16 := by omega
  have h16 := Nat.or_lt_two_pow hm hn
  have e1 : (BitVec.ofInt 64 (m : Int) ||| BitVec.ofInt 64 (n : Int)).toNat = m ||| n := by
    rw [BitVec.toNat_or, BitVec.ofInt_natCast, BitVec.ofInt_natCast, BitVec.toNat_ofNat, BitVec.toNat_ofNat, Nat.mod_eq_of_lt (by omega), Nat.mod_eq_of_lt (by omega)]
  rw [e1]; unfold orZ; rw [or_nat, Nat.mod_eq_of_lt h16, IntKind.wrap_i64]; omega
def runOfS (ls : List Entry) : Run × Bool := if (ls.length < 1 ∨ 150 < ls.length) ∨ inOrd (bY ls) = false then (zRunV, false) else (⟨bY ls, maskOf (bY ls)⟩, true)
theorem w_slices_stableCmpFunc_impl_Entry (d : Nat → Entry) (n : Nat) (hn : n ≤ 1048576) : aD P 187 [.ref 0, .raw (.int .i64 (n : Int)), cmpE] [(0, bH d n id)] 1 (.tup []) [(0, bH d n (stab (lE d) n))] 1 := by
 refine gw (N := 63) (vs := []) ⟨Tryz.func187, rfl, rfl⟩ rfl rfl (by simp) ?_
 simp only [eE, bH, cmpE]; refine sr rfl fun _ J => ?_; simp only [go_sem]; apply J; refine sr rfl fun _ k2 => ?_; simp only [go_sem]; apply k2; refine sq fun _ k3 => ?_; refine wb ?_
 refine wl (α := Nat × Nat × (Nat → Nat)) (fun x => x.2.1 ≤ n ∧ n ≤ x.1 + x.2.1 ∧ blkGo (lE d) n 20 x.1 x.2.2 x.2.1 = blkGo (lE d) n 20 n id 0) (fun x => n - x.2.1) (fun x => ([(0, .ref 0), (1, .raw (.int .i64 (n : Int))), (2, .fn (.func 141) [] []), (6, .raw (.int .i64 20)), (7, .raw (.int .i64 (x.2.1 : Int))), (8, .raw (.int .i64 ((x.2.1 + 20 : Nat) : Int)))], [(0, .row 65 5 ((List.range n).map fun z => enA (d (x.2.2 z))))])) 1 (n, 0, id) ⟨Nat.zero_le _, Nat.le_refl _, rfl⟩ [] ?_ ?_
 · simp only [go_sem, AObj.bel, AObj.ren, AV.ren, aA, sg, Int.natCast_zero] <;> simp [enA]
 rintro ⟨f, a, τ⟩ ⟨ha, hf, hgo⟩
 simp only at ha hf hgo ⊢
 refine sq fun _ k4 => ?_; refine sr rfl fun _ J => ?_; simp only [go_sem]; apply J
 refine cd rfl (fun hc1 => ?_) fun hc1 => ?_
 · have hlt : a + 20 ≤ n := by simp at hc1; omega
   obtain ⟨g, rfl⟩ : ∃ g, f = g + 1 := ⟨f - 1, by omega⟩
   refine wk ?_; apply k4; refine wb ?_; refine sr rfl fun _ k6 => ?_; simp only [go_sem]
   refine vg [] 0 rfl rfl rfl ⟨Tryz.func211, rfl, rfl⟩ (cL d n τ hn a (a + 20) hlt (by omega)) rfl (by simp only [go_sem, cmpE]) (by simp only [go_sem, cmpE]) (fit1 (H1 := []) (.inl rfl) (by simp only [go_sem, bH]) (by simp only [go_sem, AObj.bel, bH])) (.inl rfl) ?_
   simp only [go_sem, AV.ren, AObj.ren, aA, shift, sg, Nat.le_refl, Nat.add_zero, Nat.sub_self, bH]; apply k6; refine sr rfl fun _ J => ?_; simp only [go_sem]; apply J
   have hw5 : IntKind.i64.wrap (((a + 20 : Nat) : Int) + 20) = ((a + 20 + 20 : Nat) : Int) := by rw [IntKind.wrap_i64]; omega
   refine wg rfl ?_; simp only [go_sem, hw5]; try simp only [go_sem, lQ]
   try simp only [go_sem, lQ]
   refine ⟨(g, a + 20, insertS (lE d) τ a (a + 20)), ⟨by simp only; omega, by simp only; omega, by simp only; rw [blk_step hlt] at hgo; exact hgo⟩, by simp only; omega, [], ?_⟩
   simp only [go_sem, AObj.bel, AObj.ren, AV.ren, aA, sg, Int.natCast_zero] <;> simp [enA]
 have hlt : ¬ a + 20 ≤ n := by simp at hc1; omega
 rw [blk_stop hlt] at hgo
 replace hgo := hgo.symm
 refine we ?_; try simp only [go_sem, lQ]
 apply k3; refine sr rfl fun _ k8 => ?_; simp only [go_sem]
 refine vg [] 0 rfl rfl rfl ⟨Tryz.func211, rfl, rfl⟩ (cL d n τ hn a n (Nat.le_refl _) ha) rfl (by simp only [go_sem, cmpE]) (by simp only [go_sem, cmpE]) (fit1 (H1 := []) (.inl rfl) (by simp only [go_sem, bH]) (by simp only [go_sem, AObj.bel, bH])) (.inl rfl) ?_
 simp only [go_sem, AV.ren, AObj.ren, aA, shift, sg, Nat.le_refl, Nat.add_zero, Nat.sub_self, bH]; apply k8; refine wb ?_
 refine wl (α := Nat × Nat × (Nat → Nat)) (fun x => 20 ≤ x.2.1 ∧ n ≤ x.1 + x.2.1 ∧ x.2.1 ≤ 2097172 ∧ stabGo (lE d) n x.1 x.2.1 x.2.2 = stab (lE d) n) (fun x => n - x.2.1) (fun x => ([(0, .ref 0), (1, .raw (.int .i64 (n : Int))), (2, .fn (.func 141) [] []), (6, .raw (.int .i64 (x.2.1 : Int)))], [(0, .row 65 5 ((List.range n).map fun z => enA (d (x.2.2 z))))])) 1 (n, 20, insertS (lE d) τ a n) ⟨Nat.le_refl _, by simp only; omega, by simp only; omega, (stab_def (lE d) n hgo).symm⟩ [] ?_ ?_
 · simp only [go_sem, AObj.bel, AObj.ren, AV.ren, aA, sg, Int.natCast_zero] <;> simp [enA]
 rintro ⟨f, bs, υ⟩ ⟨hb, hf2, hbm, hst⟩
 simp only at hb hf2 hbm hst ⊢
 refine sq fun _ k9 => ?_; refine sr rfl fun _ J => ?_; simp only [go_sem]; apply J
 refine cd rfl (fun hc2 => ?_) fun hc2 => ?_
 · have hlt2 : bs < n := by simp at hc2; omega
   obtain ⟨g, rfl⟩ : ∃ g, f = g + 1 := ⟨f - 1, by omega⟩
   refine wk ?_; apply k9; refine wb ?_
   have hw8 : IntKind.i64.wrap (2 * (bs : Int)) = ((2 * bs : Nat) : Int) := by rw [IntKind.wrap_i64]; omega
   refine sr rfl fun _ J => ?_; simp only [go_sem, hw8]; apply J; refine sq fun _ k12 => ?_; refine wb ?_
   refine wl (α := Nat × Nat × (Nat → Nat)) (fun x => x.2.1 ≤ n ∧ n ≤ x.1 + x.2.1 ∧ mrgGo (lE d) n bs x.1 x.2.2 x.2.1 = mrgGo (lE d) n bs n υ 0) (fun x => n - x.2.1) (fun x => ([(0, .ref 0), (1, .raw (.int .i64 (n : Int))), (2, .fn (.func 141) [] []), (6, .raw (.int .i64 (bs : Int))), (7, .raw (.int .i64 (x.2.1 : Int))), (8, .raw (.int .i64 ((x.2.1 + 2 * bs : Nat) : Int)))], [(0, .row 65 5 ((List.range n).map fun z => enA (d (x.2.2 z))))])) 1 (n, 0, υ) ⟨Nat.zero_le _, Nat.le_refl _, rfl⟩ [] ?_ ?_
   · simp only [go_sem, AObj.bel, AObj.ren, AV.ren, aA, sg, Int.natCast_zero, Nat.zero_add] <;> simp
   rintro ⟨f3, a3, ω⟩ ⟨ha3, hf3, hgo3⟩
   simp only at ha3 hf3 hgo3 ⊢
   refine sq fun _ k13 => ?_; refine sr rfl fun _ J => ?_; simp only [go_sem]; apply J
   refine cd rfl (fun hc3 => ?_) fun hc3 => ?_
   · have hlt3 : a3 + 2 * bs ≤ n := by simp at hc3; omega
     obtain ⟨g3, rfl⟩ : ∃ g, f3 = g + 1 := ⟨f3 - 1, by omega⟩
     refine wk ?_; apply k13; refine wb ?_
     have hw10 : IntKind.i64.wrap ((a3 : Int) + (bs : Int)) = ((a3 + bs : Nat) : Int) := by rw [IntKind.wrap_i64]; omega
     refine sr rfl fun _ k15 => ?_; simp only [go_sem, hw10]
     refine vg [] 0 rfl rfl rfl ⟨Tryz.func212, rfl, rfl⟩ (w_symMerge d n hn n ω a3 (a3 + bs) (a3 + 2 * bs) (by omega) (by omega) (by omega) hlt3) rfl (by simp only [go_sem, cmpE]) (by simp only [go_sem, cmpE]) (fit1 (H1 := []) (.inl rfl) (by simp only [go_sem, bH]) (by simp only [go_sem, AObj.bel, bH])) (.inl rfl) ?_
     simp only [go_sem, AV.ren, AObj.ren, aA, shift, sg, Nat.le_refl, Nat.add_zero, Nat.sub_self, bH]; apply k15; refine sr rfl fun _ J => ?_; simp only [go_sem]; apply J
     have hw8 : IntKind.i64.wrap (2 * (bs : Int)) = ((2 * bs : Nat) : Int) := by rw [IntKind.wrap_i64]; omega
     have hw12 : IntKind.i64.wrap (((a3 + 2 * bs : Nat) : Int) + ((2 * bs : Nat) : Int)) = ((a3 + 2 * bs + 2 * bs : Nat) : Int) := by rw [IntKind.wrap_i64]; omega
     refine wg rfl ?_; simp only [go_sem, hw8, hw12]; try simp only [go_sem, lQ]
     try simp only [go_sem, lQ]
     refine ⟨(g3, a3 + 2 * bs, symM (lE d) n ω a3 (a3 + bs) (a3 + 2 * bs)), ⟨by simp only; omega, by simp only; omega, by simp only; rw [mrg_step hlt3] at hgo3; exact hgo3⟩, by simp only; omega, [], ?_⟩
     simp only [go_sem, AObj.bel, AObj.ren, AV.ren, aA, sg, Int.natCast_zero] <;> simp [enA]
   have hlt3 : ¬ a3 + 2 * bs ≤ n := by simp at hc3; omega
   rw [mrg_stop hlt3] at hgo3; refine we ?_; try simp only [go_sem, lQ]
   apply k12; refine sq fun _ k17 => ?_
   have hw13 : IntKind.i64.wrap ((a3 : Int) + (bs : Int)) = ((a3 + bs : Nat) : Int) := by rw [IntKind.wrap_i64]; omega
   refine sr rfl fun _ J => ?_; simp only [go_sem, hw13]; apply J; refine sr rfl fun _ k19 => ?_; simp only [go_sem]; apply k19
   refine cd rfl (fun hc4 => ?_) fun hc4 => ?_
   · have hx : a3 + bs < n := by simp at hc4; omega
     have hend : mrgEnd (lE d) n bs (mrgGo (lE d) n bs n υ 0) = symM (lE d) n ω a3 (a3 + bs) n := by rw [← hgo3]; unfold mrgEnd; exact if_pos hx
     refine wg rfl ?_; simp only [go_sem]
     refine vg [] 0 rfl rfl rfl ⟨Tryz.func212, rfl, rfl⟩ (w_symMerge d n hn n ω a3 (a3 + bs) n (by omega) (by omega) (by omega) (Nat.le_refl _)) rfl (by simp only [go_sem, cmpE]) (by simp only [go_sem, cmpE]) (fit1 (H1 := []) (.inl rfl) (by simp only [go_sem, bH]) (by simp only [go_sem, AObj.bel, bH])) (.inl rfl) ?_
     simp only [go_sem, AV.ren, AObj.ren, aA, shift, sg, Nat.le_refl, Nat.add_zero, Nat.sub_self, bH]; apply k17
     have hw16 : IntKind.i64.wrap ((bs : Int) * 2) = ((2 * bs : Nat) : Int) := by rw [IntKind.wrap_i64]; omega
     refine wg rfl ?_; simp only [go_sem, hw16]; try simp only [go_sem, lQ]
     try simp only [go_sem, lQ]
     refine ⟨(g, 2 * bs, mrgEnd (lE d) n bs (mrgGo (lE d) n bs n υ 0)), ⟨by simp only; omega, by simp only; omega, by simp only; omega, by simp only; rw [stab_step hlt2] at hst; exact hst⟩, by simp only; omega, [], ?_⟩
     simp only [go_sem, AObj.bel, AObj.ren, AV.ren, aA, sg, hend] <;> simp
   have hx : ¬ a3 + bs < n := by simp at hc4; omega
   have hend : mrgEnd (lE d) n bs (mrgGo (lE d) n bs n υ 0) = ω := by rw [← hgo3]; unfold mrgEnd; exact if_neg hx
   refine wk ?_; apply k17
   have hw16 : IntKind.i64.wrap ((bs : Int) * 2) = ((2 * bs : Nat) : Int) := by rw [IntKind.wrap_i64]; omega
   refine wg rfl ?_; simp only [go_sem, hw16]; try simp only [go_sem, lQ]
   try simp only [go_sem, lQ]
   refine ⟨(g, 2 * bs, mrgEnd (lE d) n bs (mrgGo (lE d) n bs n υ 0)), ⟨by simp only; omega, by simp only; omega, by simp only; omega, by simp only; rw [stab_step hlt2] at hst; exact hst⟩, by simp only; omega, [], ?_⟩
   simp only [go_sem, AObj.bel, AObj.ren, AV.ren, aA, sg, hend] <;> simp
 have hlt2 : ¬ bs < n := by simp at hc2; omega
 rw [stab_stop hlt2] at hst; refine we ?_; try simp only [go_sem, lQ]
 rw [← hst]; refine ⟨[], ?_⟩
 simp only [go_sem, AObj.bel, AObj.ren, AV.ren, aA, sg, bH] <;> simp [enA]
theorem w_sort_d (d : Nat → Entry) (n : Nat) (hn : n ≤ 1048576) : aD P 140 [.ref 0, cmpE] [(0, bH d n id)] 1 (.tup []) [(0, bH d n (stab (lE d) n))] 1 := by
 refine gw (N := 9) (vs := []) ⟨Tryz.func140, rfl, rfl⟩ rfl rfl (by simp) ?_
 simp only [eE, bH, cmpE]; refine wg rfl ?_; simp only [go_sem, List.length_set, List.length_map, List.length_range]
 refine vg [] 0 rfl rfl rfl ⟨Tryz.func187, rfl, rfl⟩ (w_slices_stableCmpFunc_impl_Entry d n hn) rfl (by simp only [go_sem, cmpE]) (by simp only [go_sem, cmpE]) (fit1 (H1 := []) (.inl rfl) (by simp only [go_sem, bH]) (by simp only [go_sem, AObj.bel, bH])) (.inl rfl) ?_
 simp only [go_sem, AV.ren, AObj.ren, aA, shift, sg, Nat.le_refl, Nat.add_zero, Nat.sub_self, bH]; refine ⟨[], ?_⟩
 simp only [go_sem, AObj.bel, AObj.ren, AV.ren, aA, sg, bH] <;> simp [enA]
theorem w_sort (ls : List Entry) (h : ls.length ≤ 1048576) : aD P 140 [.ref 0, cmpE] [(0, .row 65 5 (ls.map enA))] 1 (.tup []) [(0, .row 65 5 ((bY ls).map enA))] 1 := by
  have := w_sort_d (dOf ls) ls.length h
  unfold bH at this; rw [row_stab, ← row_dOf] at this; exact this
end
end Go.Proofs.S
end
section
open Go Go.Abs Go.Proofs
namespace Go.Proofs.S
theorem pv_adj {ls : List Entry} (h : inOrd ls = true) : ∀ i, i + 1 < ls.length → ∀ a b, ls[i]? = some a → ls[i + 1]? = some b → entLt a b = true := by
  intro i hi a b ha hb
  have h1 := (List.all_eq_true.1 h) (i + 1) (List.mem_range.2 hi)
  unfold okAt at h1; rw [hb] at h1
  have hp : prevAt ls (i + 1) = a := by unfold prevAt; rw [Nat.add_sub_cancel, ha]; rfl
  rw [hp] at h1; simp at h1
  exact h1.2
theorem inOrd_pw {ls : List Entry} (h : inOrd ls = true) : ls.Pairwise fun a b => entLt a b = true := by
  refine List.pairwise_iff_getElem.2 fun i j hi hj hij => ?_
  obtain ⟨d, rfl⟩ : ∃ d, j = i + 1 + d := ⟨j - (i + 1), by omega⟩
  induction d with
  | zero => exact pv_adj h i hj _ _ (List.getElem?_eq_getElem hi) (List.getElem?_eq_getElem hj)
  | succ d ih =>
    have h1 := ih (by omega) (by omega)
    have h2 := pv_adj h (i + 1 + d) (by omega) _ _ (List.getElem?_eq_getElem (by omega)) (List.getElem?_eq_getElem (by omega))
    exact entLt_wo.trans _ _ _ trivial trivial trivial h1 h2
theorem sortE_pw (ls : List Entry) : (bY ls).Pairwise fun a b => entLt b a = false := by
  rw [sortE_put]; exact (Plain.put_sorted entLt_wo ls).1
theorem entLt_asymm {a b : Entry} (h : entLt a b = true) : entLt b a = false := entLt_wo.asymm trivial trivial h
theorem pw_distinct {ls : List Entry} (h : ls.Pairwise fun a b => entLt a b = true) : ∀ x ∈ ls, ∀ y ∈ ls, entLt x y = false → entLt y x = false → x = y := by
  intro x hx y hy h1 h2
  obtain ⟨i, hi⟩ := List.getElem?_of_mem hx
  obtain ⟨j, hj⟩ := List.getElem?_of_mem hy
  have hil := (List.getElem?_eq_some_iff.1 hi).1
  have hjl := (List.getElem?_eq_some_iff.1 hj).1
  rw [List.getElem?_eq_getElem hil] at hi; rw [List.getElem?_eq_getElem hjl] at hj
  cases hi; cases hj
  have hp := List.pairwise_iff_getElem.1 h
  rcases Nat.lt_trichotomy i j with hij | hij | hij
  · rw [hp i j hil hjl hij] at h1; cases h1
  · subst hij; rfl
  rw [hp j i hjl hil hij] at h2; cases h2
theorem sortE_ord {ls : List Entry} (h : inOrd ls = true) : bY ls = ls := by
  have hp := inOrd_pw h
  exact List.Perm.eq_of_pairwise (le := fun a b => entLt b a = false) (fun a b ha hb h1 h2 => pw_distinct hp a ((sortE_perm ls).mem_iff.1 ha) b hb h2 h1) (sortE_pw ls) (hp.imp fun h => entLt_asymm h) (sortE_perm ls)
theorem runOf_ok (r : Run) : ((runOfS r.ents).2 && (decide ((runOfS r.ents).1.mask = r.mask) && decide ((runOfS r.ents).1.ents = r.ents))) = runOk r := by
  rw [Bool.eq_iff_iff]
  constructor
  · intro h
    simp only [Bool.and_eq_true, decide_eq_true_eq] at h
    obtain ⟨h1, h2, h3⟩ := h
    unfold runOfS at h1 h2 h3; split at h1
    · cases h1
    rename_i hc
    rw [if_neg hc] at h2 h3
    simp only [not_or] at hc
    simp only at h2 h3
    rw [h3] at h2 hc
    have h4 : inOrd r.ents = true := by simpa using hc.2
    simp [runOk, h4, h2]
    omega
  intro h
  simp only [runOk, Bool.and_eq_true, decide_eq_true_eq] at h
  obtain ⟨⟨h1, h2⟩, h3⟩ := h
  have he := sortE_ord h2
  unfold runOfS
  rw [if_neg (by rw [he, h2]; simp only [not_or]; exact ⟨⟨by omega, by omega⟩, by simp⟩), he]
  simp [h3]
def roomI (level : Int) : Int := if level = 0 then 4 else 8
def lvAtI (ls : List Run) (level : Int) (i : Nat) : Bool := match ls[i]? with
  | some r => runOk r && !((decide (0 < level) && decide (0 < (i : Int))) && !Op.bytesLess (highKey (prevRun ls i)).toList (lowKey r).toList)
  | none => true
def lvOkI (ls : List Run) (level : Int) : Bool := if roomI level < (ls.length : Int) then false else (List.range ls.length).all (lvAtI ls level)
theorem lvAtI_ok {ls : List Run} {level : Int} {i : Nat} {r : Run} (h : lvAtI ls level i = true) (hr : ls[i]? = some r) : runOk r = true := by
  unfold lvAtI at h; rw [hr] at h; simp at h
  exact h.1
def snapsI (ls : List Int) (seq : Int) : Bool := if (4 : Int) < (ls.length : Int) then false else (List.range ls.length).all (snapAt ls seq)
theorem snapsI_eq (ls : List Int) (seq : Int) : snapsI ls seq = snapsOk ls seq := by
  unfold snapsI snapsOk; split
  · rename_i h
    rw [decide_eq_false (by omega), Bool.and_false]
  rename_i h
  rw [decide_eq_true (by omega), Bool.and_true]
def layersI (ls : List (List Run)) (mem : List Entry) : List (List Entry) := (ls.reverse.flatMap fun rs => rs.map Run.ents) ++ [mem]
def layTo (ls : List (List Run)) (k : Nat) : List (List Entry) := (ls.drop k).reverse.flatMap fun rs => rs.map Run.ents
theorem layTo_step {ls : List (List Run)} {k : Nat} {l : List Run} (h : ls[k]? = some l) : layTo ls k = layTo ls (k + 1) ++ l.map Run.ents := by
  unfold layTo; rw [drop_get h, List.reverse_cons, List.flatMap_append]
  simp
def bK (seq : Int) (b : List Entry) : List Entry × Bool := if decide ((b.length : Int) < 1) || decide (12 < (b.length : Int)) then ([], false) else if (stGo seq b 0 []).2 = true then ((stGo seq b 0 []).1, true) else ([], false)
theorem w_impl_KeyMask (s : ByteArray) (hs : s.size ≤ 4611686018427387904) : aB P 178 [.raw (.string s)] [] 0 (.raw (.int .i64 (keyMask s))) := by
 refine pw (N := 27) (vs := [.tmp 2]) ⟨Tryz.func178, rfl, rfl⟩ rfl rfl (by simp) ?_
 simp only [eE]; refine sr rfl fun _ J => ?_; simp only [go_sem]; apply J; refine sr rfl fun _ k2 => ?_; simp only [go_sem]; apply k2; refine sq fun _ k3 => ?_; refine sr rfl fun _ J => ?_; simp only [go_sem]; apply J; refine wb ?_
 refine wl (α := Nat) (fun x => x ≤ s.size) (fun x => s.size - x) (fun x => ([(0, .raw (.string s)), (3, .raw (.int .i64 (bZ s x))), (6, .raw (.int .i64 (s.size : Int))), (7, .raw (.int .i64 (x : Int)))], [])) 0 0 (Nat.zero_le _) [] ?_ ?_
 · simp only [go_sem, bZ, Int.natCast_zero] <;> simp
 rintro i hi
 refine sr rfl fun _ J => ?_; simp only [go_sem]; apply J; refine sq fun _ k6 => ?_
 refine cd rfl (fun hc1 => ?_) fun hc1 => ?_
 · have hlt : i < s.size := by simpa using hc1
   have hh := hashN_range s i
   have hb := byteAt_range s i
   have hw0 : IntKind.i64.wrap (aF s i) = aF s i := by rw [IntKind.wrap_i64]; omega
   have hw1 : IntKind.i64.wrap (31 * bZ s i) = bZ s i * 31 := by rw [IntKind.wrap_i64]; omega
   have hw2 : IntKind.i64.wrap (bZ s i * 31 + aF s i) = bZ s i * 31 + aF s i := by rw [IntKind.wrap_i64]; omega
   refine wk ?_; apply k6; refine sq fun _ k7 => ?_; refine wb ?_; refine sr rfl fun _ J => ?_; simp only [go_sem]; apply J; refine wg rfl ?_; simp only [go_sem, hw0, hw1, hw2]
   repeat (first | refine ⟨by first | omega | (intro hg; simp at hg; omega), ?_⟩ | fail)
   try simp only [go_sem, lQ]
   apply k7
   have hw : IntKind.i64.wrap ((i : Int) + 1) = ((i + 1 : Nat) : Int) := by rw [IntKind.wrap_i64]; omega
   refine wg rfl ?_; simp only [go_sem, hw]; try simp only [go_sem, lQ]
   refine ⟨i + 1, by omega, by omega, [], ?_⟩
   simp only [go_sem, bZ] <;> simp
 have hge : i = s.size := by have h9 : ¬ i < s.size := (by simpa using hc1); omega
 subst hge; refine we ?_; try simp only [go_sem, lQ]
 apply k3
 have hh := hashN_range s s.size
 have hq : IntKind.i64.wrap ((bZ s s.size).tdiv 16) = (bZ s s.size).tdiv 16 := by
   rw [Int.tdiv_eq_ediv_of_nonneg (by omega), IntKind.wrap_i64]; omega
 have hm1 : 0 ≤ (bZ s s.size).tmod 16 ∧ (bZ s s.size).tmod 16 ≤ 15 := by rw [Int.tmod_eq_emod_of_nonneg (by omega)]; omega
 have hd : 0 ≤ (bZ s s.size).tdiv 16 := Int.tdiv_nonneg (by omega) (by omega)
 have hm2 : 0 ≤ ((bZ s s.size).tdiv 16).tmod 16 ∧ ((bZ s s.size).tdiv 16).tmod 16 ≤ 15 := by rw [Int.tmod_eq_emod_of_nonneg hd]; omega
 have hr1 := bitZ_range hm1.1 hm1.2
 have hr2 := bitZ_range hm2.1 hm2.2
 have hsh : ∀ m : Int, 0 ≤ m → m ≤ 15 → IntKind.i64.wrap (1 * 2 ^ min m.toNat 64) = bitZ m := fun m h0 h1 => by
   have := bitZ_range h0 h1
   rw [Nat.min_eq_left (by omega), Int.one_mul, IntKind.wrap_i64]
   show ((2 : Int) ^ m.toNat + _) % _ - _ = bitZ m
   unfold bitZ at this ⊢
   omega
 have hs1 := hsh _ hm1.1 hm1.2
 have hs2 := hsh _ hm2.1 hm2.2
 have hor := or_orZ _ _ hr1.1 hr1.2 hr2.1 hr2.2
 have hbb : IntKind.bits .i64 = 64 := rfl
 refine sd mixed rfl fun _ k9 => ?_; simp only [go_sem, hq, hs1, hs2, hor]
 refine ⟨hm1.1, hm2.1, ?_⟩
 refine ⟨by rfl, ?_⟩; apply k9; refine wR ?_; refine fO ?_ trivial; simp only [go_sem, keyMask]
 exact congrArg (fun z => some (AV.raw (.int .i64 z))) hor
theorem w_impl_RunOf (ls : List Entry) (hz : bT ls) : aB P 133 [.sl 5 (ls.map enA)] [] 0 (.tup [rA (runOfS ls).1, .raw (.bool (runOfS ls).2)]) := by
 refine pw (N := 40) (vs := [.cell 2 109, .tmp 3]) ⟨Tryz.func133, rfl, rfl⟩ rfl rfl (by simp) ?_
 simp only [eE]
 have hmx : maxLen = 9223372036854775807 := rfl
 have hlen := hz.1
 have hsl := sortE_len ls
 have hzs : bT (bY ls) := ⟨by rw [hsl]; exact hz.1, fun e he => hz.2 e ((sortE_perm ls).mem_iff.1 he)⟩
 refine sr rfl fun _ J => ?_; simp only [go_sem]; apply J; refine sq fun _ k2 => ?_; refine sr rfl fun _ J => ?_; simp only [go_sem]; apply J
 refine cd rfl (fun hc1 => ?_) fun hc1 => ?_
 · have h9 : runOfS ls = (zRunV, false) := by unfold runOfS; rw [if_pos]; simp at hc1; left; omega
   refine sr rfl fun _ J => ?_; simp only [go_sem]; apply J
   refine awp_cellsLe 0 (ds := [.sl 5 [], .raw (.int .i64 0)]) rfl (by repeat (first | exact LeL.nil | refine LeL.cons (by first | exact Le.refl _ | exact Le.nil _) ?_)) (by simp only [go_sem]) ?_
   simp only [go_sem]; refine wR ?_
   refine fO ?_ ⟨⟨enB _ _, trivial, trivial⟩, trivial, trivial⟩
   simp only [go_sem, h9, rA, zRunV]
 refine wk ?_; apply k2
 have hnb : 1 ≤ ls.length ∧ ls.length ≤ 150 := by simp at hc1; omega
 refine sr rfl fun _ k5 => ?_; simp only [go_sem, List.length_take, List.length_append, List.nil_append, List.length_map, List.length_drop]
 repeat (first | refine ⟨by first | omega | (intro hg; simp at hg; omega), ?_⟩ | fail)
 apply k5; refine sr rfl fun _ k6 => ?_; simp only [go_sem]
 refine vg [(0, 1)] 0 rfl rfl rfl ⟨Tryz.func140, rfl, rfl⟩ (w_sort ls (by simp at hc1; omega)) rfl (by simp only [go_sem, cmpE, aA, AV.ren, sg]) (by simp only [go_sem, cmpE]) (fit1 (H1 := []) (.inr ⟨1, rfl⟩) (by simp only [go_sem, sg, AObj.ren]) (by simp only [go_sem, AObj.bel])) (.inl rfl) ?_
 simp only [go_sem, AV.ren, AObj.ren, aA, shift, sg, Nat.le_refl, Nat.add_zero, Nat.sub_self]; apply k6; refine sq fun _ k7 => ?_
 refine aFz 1 rfl ?_
 simp only [go_sem, fzL, AV.fz]; refine sr rfl fun _ k8 => ?_; simp only [go_sem]
 refine vp rfl rfl rfl ⟨Tryz.func146, rfl, rfl⟩ (w_impl_inOrder (bY ls) hzs) (by simp only [go_sem]) (by simp only [go_sem]) ?_
 simp only [go_sem]; apply k8
 refine cd rfl (fun hc2 => ?_) fun hc2 => ?_
 · have h9 : runOfS ls = (zRunV, false) := by unfold runOfS; rw [if_pos]; right; simpa using hc2
   refine sr rfl fun _ J => ?_; simp only [go_sem]; apply J
   refine awp_cellsLe 0 (ds := [.sl 5 [], .raw (.int .i64 0)]) rfl (by repeat (first | exact LeL.nil | refine LeL.cons (by first | exact Le.refl _ | exact Le.nil _) ?_)) (by simp only [go_sem]) ?_
   simp only [go_sem]; refine wR ?_
   refine fO ?_ ⟨⟨enB _ _, trivial, trivial⟩, trivial, trivial⟩
   simp only [go_sem, h9, rA, zRunV]
 have h9 : runOfS ls = (⟨bY ls, maskOf (bY ls)⟩, true) := by unfold runOfS; rw [if_neg (by simp only [not_or]; exact ⟨⟨by omega, by omega⟩, by simpa using hc2⟩)]
 refine wk ?_; apply k7; refine sr rfl fun _ J => ?_; simp only [go_sem]; apply J; refine sq fun _ k11 => ?_; refine sr rfl fun _ J => ?_; simp only [go_sem]; apply J; refine wb ?_
 refine wl (α := Nat × Int) (fun x => x.1 ≤ (bY ls).length ∧ 0 ≤ x.2 ∧ x.2 ≤ 65535 ∧ ((bY ls).drop x.1).foldl maskStep x.2 = maskOf (bY ls)) (fun x => (bY ls).length - x.1) (fun x => ([(2, .ptr 0 0), (4, .sl 5 ((bY ls).map enA)), (5, .raw (.int .i64 x.2)), (25, .sl 5 ((bY ls).map enA)), (26, .raw (.int .i64 ((bY ls).length : Int))), (27, .raw (.int .i64 (x.1 : Int)))], [(0, .cells 109 [.raw (.slice none 0 0), .raw (.int .i64 0)])])) 1 (0, 0) ⟨Nat.zero_le _, by simp, by simp, rfl⟩ [] ?_ ?_
 · simp only [go_sem, AObj.bel, AObj.ren, AV.ren, aA, sg, Int.natCast_zero] <;> simp
 rintro ⟨i, m⟩ ⟨hi, hm0, hm1, hfold⟩
 simp only at hi hm0 hm1 hfold ⊢
 refine sr rfl fun _ J => ?_; simp only [go_sem]; apply J; refine sq fun _ k14 => ?_
 refine cd rfl (fun hc3 => ?_) fun hc3 => ?_
 · have hlt : i < (bY ls).length := by simpa using hc3
   obtain ⟨l, hl, hdrop, hml⟩ := ix hlt; refine wk ?_; apply k14; refine sq fun _ k15 => ?_; refine wb ?_; refine sr rfl fun _ k16 => ?_; simp only [go_sem, hl, enA]
   repeat (first | refine ⟨by first | omega | (intro hg; simp at hg; omega), ?_⟩ | fail)
   apply k16
   have hkr := orZ_range (bitZ ((bZ l.key l.key.size).tmod 16)) (bitZ (((bZ l.key l.key.size).tdiv 16).tmod 16))
   have hor := or_orZ m (keyMask l.key) hm0 hm1 hkr.1 hkr.2
   have hbb : IntKind.bits .i64 = 64 := rfl
   refine wg rfl ?_; simp only [go_sem, hbb, hor]
   refine vp rfl rfl rfl ⟨Tryz.func178, rfl, rfl⟩ (w_impl_KeyMask l.key (hzs.2 l hml).1) (by simp only [go_sem, enA]) (by simp only [go_sem, enA]) ?_
   simp only [go_sem]; try simp only [go_sem, lQ]
   apply k15
   have hw : IntKind.i64.wrap ((i : Int) + 1) = ((i + 1 : Nat) : Int) := by rw [IntKind.wrap_i64]; omega
   refine wg rfl ?_; simp only [go_sem, hw]; try simp only [go_sem, lQ]
   refine ⟨(i + 1, maskStep m l), ⟨by simp only; omega, (orZ_range _ _).1, (orZ_range _ _).2, by rw [hdrop] at hfold; exact hfold⟩, by simp only; omega, [], ?_⟩
   simp only [go_sem, AObj.bel, AObj.ren, AV.ren, aA, sg, maskStep] <;> simp
   exact hor
 have hge : (bY ls).length ≤ i := by have h9 : ¬ i < (bY ls).length := (by simpa using hc3); omega
 rw [List.drop_eq_nil_of_le hge] at hfold
 have h8 : maskOf (bY ls) = m := hfold.symm
 refine we ?_; try simp only [go_sem, lQ]
 apply k11; refine sr rfl fun _ J => ?_; simp only [go_sem]; apply J; refine wR ?_
 refine fO ?_ ⟨⟨enB _ _, trivial, trivial⟩, trivial, trivial⟩
 simp only [go_sem, h9, h8, rA]
theorem w_impl_RunOk (r : Run) (hz : bT r.ents) : aB P 200 [rA r] [] 0 (.raw (.bool (runOk r))) := by
 refine pw (N := 17) (vs := [.tmp 2]) ⟨Tryz.func200, rfl, rfl⟩ rfl rfl (by simp) ?_
 simp only [eE, rA]
 have hmz : (runOfS r.ents).1.ents.length ≤ 4611686018427387904 := by
   unfold runOfS; split
   · simp [zRunV]
   simp only [sortE_len]; exact hz.1
 refine sr rfl fun _ J => ?_; simp only [go_sem]; apply J; refine sr rfl fun _ k2 => ?_; simp only [go_sem]
 refine vp rfl rfl rfl ⟨Tryz.func133, rfl, rfl⟩ (w_impl_RunOf r.ents hz) (by simp only [go_sem, rA]) (by simp only [go_sem, rA]) ?_
 simp only [go_sem, rA]; apply k2; refine sr rfl fun _ k3 => ?_; simp only [go_sem]
 refine vpg rfl rfl rfl rfl rfl rfl ⟨Tryz.func168, rfl, rfl⟩ (fun hg => w_impl_RunSame (runOfS r.ents).1 r hmz) (by simp only [go_sem]) (fun hg => (by simp only [go_sem, rA])) (by simp only [go_sem, rA]) trivial ?_
 simp only [go_sem, rA]; apply k3; refine wR ?_; refine fO ?_ trivial; simp only [go_sem, runOf_ok]
theorem w_impl_roomOf (n : Int) : aB P 199 [.raw (.int .i64 n)] [] 0 (.raw (.int .i64 (roomI n))) := by
 refine pw (N := 5) (vs := [.tmp 2]) ⟨Tryz.func199, rfl, rfl⟩ rfl rfl (by simp) ?_
 simp only [eE]; refine sr rfl fun _ J => ?_; simp only [go_sem]; apply J; refine sq fun _ k2 => ?_; refine sr rfl fun _ J => ?_; simp only [go_sem]; apply J
 refine cd rfl (fun hc1 => ?_) fun hc1 => ?_
 · have n1 : n = 0 := by simpa using hc1
   refine sr rfl fun _ J => ?_; simp only [go_sem]; apply J; refine wR ?_; refine fO ?_ trivial; simp only [go_sem, roomI, if_pos n1]
 have n1 : ¬ (n = 0) := by simpa using hc1
 refine wk ?_; apply k2; refine sr rfl fun _ J => ?_; simp only [go_sem]; apply J; refine wR ?_; refine fO ?_ trivial; simp only [go_sem, roomI, if_neg n1]
theorem w_impl_levelOk (ls : List Run) (level : Int) (hz : mxRuns ls) : aB P 162 [.sl 2 (ls.map rA), .raw (.int .i64 level)] [] 0 (.raw (.bool (lvOkI ls level))) := by
 refine pw (N := 40) (vs := [.tmp 4]) ⟨Tryz.func162, rfl, rfl⟩ rfl rfl (by simp) ?_
 simp only [eE]
 have hlen := hz.1
 refine sr rfl fun _ J => ?_; simp only [go_sem]; apply J; refine sq fun _ k2 => ?_; refine sr rfl fun _ k3 => ?_; simp only [go_sem]
 refine vp rfl rfl rfl ⟨Tryz.func199, rfl, rfl⟩ (w_impl_roomOf level) (by simp only [go_sem]) (by simp only [go_sem]) ?_
 simp only [go_sem]; apply k3
 refine cd rfl (fun hc1 => ?_) fun hc1 => ?_
 · have n1 : roomI level < (ls.length : Int) := by simpa using hc1
   refine sr rfl fun _ J => ?_; simp only [go_sem]; apply J; refine wR ?_; refine fO ?_ trivial; simp only [go_sem, lvOkI, n1]
 have n1 : ¬ (roomI level < (ls.length : Int)) := by simpa using hc1
 refine wk ?_; apply k2; refine sq fun _ k5 => ?_; refine sr rfl fun _ J => ?_; simp only [go_sem]; apply J; refine wb ?_
 refine wl (α := Nat) (fun x => x ≤ ls.length ∧ ∀ j, j < x → lvAtI ls level j = true) (fun x => ls.length - x) (fun x => ([(0, .sl 2 (ls.map rA)), (1, .raw (.int .i64 level)), (12, .sl 2 (ls.map rA)), (13, .raw (.int .i64 (ls.length : Int))), (14, .raw (.int .i64 (x : Int)))], [])) 0 0 ⟨Nat.zero_le _, fun j hj => absurd hj (Nat.not_lt_zero _)⟩ [] ?_ ?_
 · simp only [go_sem, Int.natCast_zero] <;> simp
 rintro i ⟨hi, hall⟩
 refine sr rfl fun _ J => ?_; simp only [go_sem]; apply J; refine sq fun _ k8 => ?_
 refine cd rfl (fun hc2 => ?_) fun hc2 => ?_
 · have hlt : i < ls.length := (by simpa using hc2); obtain ⟨l, hl, hdrop, hml⟩ := ix hlt
   have hw1 : IntKind.i64.wrap ((i : Int) - 1) = (i : Int) - 1 := by rw [IntKind.wrap_i64]; omega
   have hpn : ((i : Int) - 1).toNat = i - 1 := by omega
   have hpv : ls[i - 1]? = some (prevRun ls i) := by unfold prevRun; rw [List.getElem?_eq_getElem (by omega)]; rfl
   have hprev : 0 < i → 1 ≤ (prevRun ls i).ents.length ∧ (prevRun ls i).ents.length ≤ 150 := fun h0 => runOk_len (lvAtI_ok (hall (i - 1) (by omega)) hpv)
   refine wk ?_; apply k8; refine sq fun _ k9 => ?_; refine wb ?_; refine sr rfl fun _ k10 => ?_; simp only [go_sem, hl, rA]
   repeat (first | refine ⟨by first | omega | (intro hg; simp at hg; omega), ?_⟩ | fail)
   apply k10; refine sq fun _ k11 => ?_; refine sr rfl fun _ k12 => ?_; simp only [go_sem]
   refine vp rfl rfl rfl ⟨Tryz.func200, rfl, rfl⟩ (w_impl_RunOk l (hz.2 l hml)) (by simp only [go_sem, rA]) (by simp only [go_sem, rA]) ?_
   simp only [go_sem]; apply k12
   refine cd rfl (fun hc3 => ?_) fun hc3 => ?_
   · have hp : lvAtI ls level i = false := by unfold lvAtI; rw [hl]; have : runOk l = false := (by simpa using hc3); simp [this]
     refine sr rfl fun _ J => ?_; simp only [go_sem]; apply J; refine wR ?_; simp only [go_sem, lQ]
     have h9 : lvOkI ls level = false := by unfold lvOkI; rw [if_neg n1]; exact all_no hlt hp
     refine fO ?_ trivial; simp only [go_sem, h9]
   have hr1 : runOk l = true := by simpa using hc3
   have hl1 := runOk_len hr1
   refine wk ?_; apply k11; refine sd mixed rfl fun _ k14 => ?_; simp only [go_sem, hl, hw1, hpn, hpv, rA]
   repeat (first | refine ⟨by first | omega | (intro hg; simp at hg; omega), ?_⟩ | fail)
   refine tpg rfl rfl rfl rfl rfl rfl ⟨Tryz.func136, rfl, rfl⟩ (fun hg => w_impl_highKey (prevRun ls i) (hprev (by simp at hg; omega)).1 (by have := (hprev (by simp at hg; omega)).2; omega)) (by simp only [go_sem]) (fun hg => (by simp only [go_sem, rA])) (by simp only [go_sem, rA]) trivial ?_
   simp only [go_sem, hl, hw1, hpn, hpv, rA]
   repeat (first | refine ⟨by first | omega | (intro hg; simp at hg; omega), ?_⟩ | fail)
   refine tpg rfl rfl rfl rfl rfl rfl ⟨Tryz.func135, rfl, rfl⟩ (fun hg => w_impl_lowKey l hl1.1) (by simp only [go_sem]) (fun hg => (by simp only [go_sem, rA])) (by simp only [go_sem, rA]) trivial ?_
   simp only [go_sem, hl, hw1, hpn, hpv, rA]
   repeat (first | refine ⟨by first | omega | (intro hg; simp at hg; omega), ?_⟩ | fail)
   refine ⟨by rfl, ?_⟩; apply k14
   refine cd rfl (fun hc4 => ?_) fun hc4 => ?_
   · have hp : lvAtI ls level i = false := by unfold lvAtI; rw [hl]; simp only [hr1, hc4]; rfl
     refine sr rfl fun _ J => ?_; simp only [go_sem]; apply J; refine wR ?_; simp only [go_sem, lQ]
     have h9 : lvOkI ls level = false := by unfold lvOkI; rw [if_neg n1]; exact all_no hlt hp
     refine fO ?_ trivial; simp only [go_sem, h9]
   have hp : lvAtI ls level i = true := by unfold lvAtI; rw [hl]; simp only [hr1, hc4]; rfl
   refine wk ?_; try simp only [go_sem, lQ]
   apply k9
   have hw : IntKind.i64.wrap ((i : Int) + 1) = ((i + 1 : Nat) : Int) := by rw [IntKind.wrap_i64]; omega
   refine wg rfl ?_; simp only [go_sem, hw]; try simp only [go_sem, lQ]
   refine ⟨i + 1, ⟨by omega, bN hall hp⟩, by omega, [], ?_⟩
   simp only [go_sem] <;> simp
 have hge : ls.length ≤ i := Nat.not_lt.1 (by simpa using hc2)
 refine we ?_; try simp only [go_sem, lQ]
 apply k5; refine sr rfl fun _ J => ?_; simp only [go_sem]; apply J; refine wR ?_
 have h9 : lvOkI ls level = true := by unfold lvOkI; rw [if_neg n1]; exact all_yes hge hall
 refine fO ?_ trivial; simp only [go_sem, h9]
theorem w_impl_snapsOk (ls : List Int) (seq : Int) (hz : ls.length ≤ 4611686018427387904) : aB P 161 [.sl 1 (ls.map inA), .raw (.int .i64 seq)] [] 0 (.raw (.bool (snapsOk ls seq))) := by
 refine pw (N := 38) (vs := [.tmp 4]) ⟨Tryz.func161, rfl, rfl⟩ rfl rfl (by simp) ?_
 simp only [eE]; rw [← snapsI_eq]; refine sr rfl fun _ J => ?_; simp only [go_sem]; apply J; refine sq fun _ k2 => ?_; refine sr rfl fun _ J => ?_; simp only [go_sem]; apply J
 refine cd rfl (fun hc1 => ?_) fun hc1 => ?_
 · have n1 : (4 : Int) < (ls.length : Int) := by simpa using hc1
   refine sr rfl fun _ J => ?_; simp only [go_sem]; apply J; refine wR ?_; refine fO ?_ trivial; simp only [go_sem, snapsI, n1]
 have n1 : ¬ ((4 : Int) < (ls.length : Int)) := by simpa using hc1
 refine wk ?_; apply k2; refine sq fun _ k5 => ?_; refine sr rfl fun _ J => ?_; simp only [go_sem]; apply J; refine wb ?_
 refine wl (α := Nat) (fun x => x ≤ ls.length ∧ ∀ j, j < x → snapAt ls seq j = true) (fun x => ls.length - x) (fun x => ([(0, .sl 1 (ls.map inA)), (1, .raw (.int .i64 seq)), (10, .sl 1 (ls.map inA)), (11, .raw (.int .i64 (ls.length : Int))), (12, .raw (.int .i64 (x : Int)))], [])) 0 0 ⟨Nat.zero_le _, fun j hj => absurd hj (Nat.not_lt_zero _)⟩ [] ?_ ?_
 · simp only [go_sem, Int.natCast_zero] <;> simp
 rintro i ⟨hi, hall⟩
 refine sr rfl fun _ J => ?_; simp only [go_sem]; apply J; refine sq fun _ k8 => ?_
 refine cd rfl (fun hc2 => ?_) fun hc2 => ?_
 · have hlt : i < ls.length := (by simpa using hc2); obtain ⟨l, hl, hdrop, hml⟩ := ix hlt
   have hw1 : IntKind.i64.wrap ((i : Int) - 1) = (i : Int) - 1 := by rw [IntKind.wrap_i64]; omega
   have hpn : ((i : Int) - 1).toNat = i - 1 := by omega
   have hpv : ls[i - 1]? = some (prevInt ls i) := by unfold prevInt; rw [List.getElem?_eq_getElem (by omega)]; rfl
   refine wk ?_; apply k8; refine sq fun _ k9 => ?_; refine wb ?_; refine sr rfl fun _ k10 => ?_; simp only [go_sem, hl, inA]
   repeat (first | refine ⟨by first | omega | (intro hg; simp at hg; omega), ?_⟩ | fail)
   apply k10; refine sr rfl fun _ k11 => ?_; simp only [go_sem, hl, hw1, hpn, hpv, inA]
   repeat (first | refine ⟨by first | omega | (intro hg; simp at hg; omega), ?_⟩ | fail)
   apply k11
   refine cd rfl (fun hc3 => ?_) fun hc3 => ?_
   · have hp : snapAt ls seq i = false := by unfold snapAt; rw [hl]; simp only [hc3]; rfl
     refine sr rfl fun _ J => ?_; simp only [go_sem]; apply J; refine wR ?_; simp only [go_sem, lQ]
     have h9 : snapsI ls seq = false := by unfold snapsI; rw [if_neg n1]; exact all_no hlt hp
     refine fO ?_ trivial; simp only [go_sem, h9]
   have hp : snapAt ls seq i = true := by unfold snapAt; rw [hl]; simp only [hc3]; rfl
   refine wk ?_; try simp only [go_sem, lQ]
   apply k9
   have hw : IntKind.i64.wrap ((i : Int) + 1) = ((i + 1 : Nat) : Int) := by rw [IntKind.wrap_i64]; omega
   refine wg rfl ?_; simp only [go_sem, hw]; try simp only [go_sem, lQ]
   refine ⟨i + 1, ⟨by omega, bN hall hp⟩, by omega, [], ?_⟩
   simp only [go_sem] <;> simp
 have hge : ls.length ≤ i := Nat.not_lt.1 (by simpa using hc2)
 refine we ?_; try simp only [go_sem, lQ]
 apply k5; refine sr rfl fun _ J => ?_; simp only [go_sem]; apply J; refine wR ?_
 have h9 : snapsI ls seq = true := by unfold snapsI; rw [if_neg n1]; exact all_yes hge hall
 refine fO ?_ trivial; simp only [go_sem, h9]
theorem cV (a b : List Run) (hz : a.length ≤ 4611686018427387904) (hy : ∀ r ∈ a, r.ents.length ≤ 4611686018427387904) : aB P 167 [.sl 2 (a.map rA), .sl 2 (b.map rA), .fn (.func 168) [] []] [] 0 (.raw (.bool (decide (a = b)))) := by
 refine pw (N := 32) (vs := [.tmp 6]) ⟨Tryz.func167, rfl, rfl⟩ rfl rfl (by simp) ?_
 simp only [eE]; refine sr rfl fun _ J => ?_; simp only [go_sem]; apply J; refine sq fun _ k2 => ?_; refine sr rfl fun _ J => ?_; simp only [go_sem]; apply J
 refine cd rfl (fun hc1 => ?_) fun hc1 => ?_
 · have hne : a ≠ b := fun e => by rw [e] at hc1; simp at hc1
   refine sr rfl fun _ J => ?_; simp only [go_sem]; apply J; refine wR ?_; refine fO ?_ trivial; simp only [go_sem, decide_eq_false hne]
 have hlen : a.length = b.length := by simp at hc1; omega
 refine wk ?_; apply k2; refine sq fun _ k5 => ?_; refine sr rfl fun _ J => ?_; simp only [go_sem]; apply J; refine wb ?_
 refine wl (α := Nat) (fun x => x ≤ a.length ∧ ∀ j, j < x → eqAt a b j = true) (fun x => a.length - x) (fun x => ([(1, .sl 2 (b.map rA)), (2, .fn (.func 168) [] []), (15, .sl 2 (a.map rA)), (16, .raw (.int .i64 (a.length : Int))), (17, .raw (.int .i64 (x : Int)))], [])) 0 0 ⟨Nat.zero_le _, fun j hj => absurd hj (Nat.not_lt_zero _)⟩ [] ?_ ?_
 · simp only [go_sem, Int.natCast_zero] <;> simp
 rintro i ⟨hi, hall⟩
 refine sr rfl fun _ J => ?_; simp only [go_sem]; apply J; refine sq fun _ k8 => ?_
 refine cd rfl (fun hc2 => ?_) fun hc2 => ?_
 · have hlt : i < a.length := (by simpa using hc2); obtain ⟨l, hl, _, hml⟩ := ix hlt
   obtain ⟨m, hm, _, _⟩ := ix (xs := b) (i := i) (by omega)
   refine wk ?_; apply k8; refine sq fun _ k9 => ?_; refine wb ?_; refine sr rfl fun _ k10 => ?_; simp only [go_sem, hl, rA]
   repeat (first | refine ⟨by first | omega | (intro hg; simp at hg; omega), ?_⟩ | fail)
   apply k10; refine sr rfl fun _ k11 => ?_; simp only [go_sem, hm, rA]
   repeat (first | refine ⟨by first | omega | (intro hg; simp at hg; omega), ?_⟩ | fail)
   apply k11; refine sr rfl fun _ k12 => ?_; simp only [go_sem]
   refine vf (xs := [rA l, rA m]) rfl rfl rfl rfl ⟨Tryz.func168, rfl, rfl⟩ (w_impl_RunSame l m (hy l hml)) rfl rfl (by simp only [go_sem, rA]) ?_
   simp only [go_sem, runEq]; apply k12
   refine cd rfl (fun hc3 => ?_) fun hc3 => ?_
   · have hne : a ≠ b := fun e => by
       rw [e, hm] at hl; cases hl; simp at hc3
     refine sr rfl fun _ J => ?_; simp only [go_sem]; apply J; refine wR ?_; simp only [go_sem, lQ]; refine fO ?_ trivial; simp only [go_sem, decide_eq_false hne]
   · have hp : eqAt a b i = true := by unfold eqAt; rw [hl, hm]; simpa using hc3
     refine wk ?_; try simp only [go_sem, lQ]
     apply k9
     have hw : IntKind.i64.wrap ((i : Int) + 1) = ((i + 1 : Nat) : Int) := by rw [IntKind.wrap_i64]; omega
     refine wg rfl ?_; simp only [go_sem, hw]; try simp only [go_sem, lQ]
     refine ⟨i + 1, ⟨by omega, bN hall hp⟩, by omega, [], ?_⟩
     simp only [go_sem] <;> simp
 have hge : a.length ≤ i := Nat.not_lt.1 (by simpa using hc2)
 refine we ?_; try simp only [go_sem, lQ]
 apply k5; refine sr rfl fun _ J => ?_; simp only [go_sem]; apply J; refine wR ?_
 have hie : i = a.length := by omega
 subst hie
 have he := eq_of_all hlen hall
 refine fO ?_ trivial; simp only [go_sem, decide_eq_true he]
theorem w_impl_levelsSame_1 (a b : List Run) (hz : a.length ≤ 4611686018427387904 ∧ ∀ r ∈ a, r.ents.length ≤ 4611686018427387904) : aB P 166 [rsA a, rsA b] [] 0 (.raw (.bool (decide (a = b)))) := by
 refine pw (N := 8) (vs := [.tmp 4]) ⟨Tryz.func166, rfl, rfl⟩ rfl rfl (by simp) ?_
 simp only [eE, rsA]; refine sr rfl fun _ J => ?_; simp only [go_sem]; apply J; refine sr rfl fun _ k2 => ?_; simp only [go_sem]
 refine vp rfl rfl rfl ⟨Tryz.func167, rfl, rfl⟩ (cV a b hz.1 hz.2) (by simp only [go_sem, rsA]) (by simp only [go_sem, rsA]) ?_
 simp only [go_sem]; apply k2; refine wR ?_; refine fO ?_ trivial; simp only [go_sem]
theorem cG (a b : List (List Run)) (hz : a.length ≤ 4611686018427387904) (hy : ∀ l ∈ a, l.length ≤ 4611686018427387904 ∧ ∀ r ∈ l, r.ents.length ≤ 4611686018427387904) : aB P 165 [.sl 1 (a.map rsA), .sl 1 (b.map rsA), .fn (.func 166) [] []] [] 0 (.raw (.bool (decide (a = b)))) := by
 refine pw (N := 32) (vs := [.tmp 6]) ⟨Tryz.func165, rfl, rfl⟩ rfl rfl (by simp) ?_
 simp only [eE]; refine sr rfl fun _ J => ?_; simp only [go_sem]; apply J; refine sq fun _ k2 => ?_; refine sr rfl fun _ J => ?_; simp only [go_sem]; apply J
 refine cd rfl (fun hc1 => ?_) fun hc1 => ?_
 · have hne : a ≠ b := fun e => by rw [e] at hc1; simp at hc1
   refine sr rfl fun _ J => ?_; simp only [go_sem]; apply J; refine wR ?_; refine fO ?_ trivial; simp only [go_sem, decide_eq_false hne]
 have hlen : a.length = b.length := by simp at hc1; omega
 refine wk ?_; apply k2; refine sq fun _ k5 => ?_; refine sr rfl fun _ J => ?_; simp only [go_sem]; apply J; refine wb ?_
 refine wl (α := Nat) (fun x => x ≤ a.length ∧ ∀ j, j < x → eqAt a b j = true) (fun x => a.length - x) (fun x => ([(1, .sl 1 (b.map rsA)), (2, .fn (.func 166) [] []), (15, .sl 1 (a.map rsA)), (16, .raw (.int .i64 (a.length : Int))), (17, .raw (.int .i64 (x : Int)))], [])) 0 0 ⟨Nat.zero_le _, fun j hj => absurd hj (Nat.not_lt_zero _)⟩ [] ?_ ?_
 · simp only [go_sem, Int.natCast_zero] <;> simp
 rintro i ⟨hi, hall⟩
 refine sr rfl fun _ J => ?_; simp only [go_sem]; apply J; refine sq fun _ k8 => ?_
 refine cd rfl (fun hc2 => ?_) fun hc2 => ?_
 · have hlt : i < a.length := (by simpa using hc2); obtain ⟨l, hl, _, hml⟩ := ix hlt
   obtain ⟨m, hm, _, _⟩ := ix (xs := b) (i := i) (by omega)
   refine wk ?_; apply k8; refine sq fun _ k9 => ?_; refine wb ?_; refine sr rfl fun _ k10 => ?_; simp only [go_sem, hl, rsA]
   repeat (first | refine ⟨by first | omega | (intro hg; simp at hg; omega), ?_⟩ | fail)
   apply k10; refine sr rfl fun _ k11 => ?_; simp only [go_sem, hm, rsA]
   repeat (first | refine ⟨by first | omega | (intro hg; simp at hg; omega), ?_⟩ | fail)
   apply k11; refine sr rfl fun _ k12 => ?_; simp only [go_sem]
   refine vf (xs := [rsA l, rsA m]) rfl rfl rfl rfl ⟨Tryz.func166, rfl, rfl⟩ (w_impl_levelsSame_1 l m (hy l hml)) rfl rfl (by simp only [go_sem, rsA]) ?_
   simp only [go_sem, runEq]; apply k12
   refine cd rfl (fun hc3 => ?_) fun hc3 => ?_
   · have hne : a ≠ b := fun e => by
       rw [e, hm] at hl; cases hl; simp at hc3
     refine sr rfl fun _ J => ?_; simp only [go_sem]; apply J; refine wR ?_; simp only [go_sem, lQ]; refine fO ?_ trivial; simp only [go_sem, decide_eq_false hne]
   · have hp : eqAt a b i = true := by unfold eqAt; rw [hl, hm]; simpa using hc3
     refine wk ?_; try simp only [go_sem, lQ]
     apply k9
     have hw : IntKind.i64.wrap ((i : Int) + 1) = ((i + 1 : Nat) : Int) := by rw [IntKind.wrap_i64]; omega
     refine wg rfl ?_; simp only [go_sem, hw]; try simp only [go_sem, lQ]
     refine ⟨i + 1, ⟨by omega, bN hall hp⟩, by omega, [], ?_⟩
     simp only [go_sem] <;> simp
 have hge : a.length ≤ i := Nat.not_lt.1 (by simpa using hc2)
 refine we ?_; try simp only [go_sem, lQ]
 apply k5; refine sr rfl fun _ J => ?_; simp only [go_sem]; apply J; refine wR ?_
 have hie : i = a.length := by omega
 subst hie
 have he := eq_of_all hlen hall
 refine fO ?_ trivial; simp only [go_sem, decide_eq_true he]
theorem w_impl_levelsSame (a b : List (List Run)) (ha : mxLvs a) : aB P 116 [.sl 1 (a.map rsA), .sl 1 (b.map rsA)] [] 0 (.raw (.bool (decide (a = b)))) := by
 refine pw (N := 8) (vs := [.tmp 4]) ⟨Tryz.func116, rfl, rfl⟩ rfl rfl (by simp) ?_
 simp only [eE]; refine sr rfl fun _ J => ?_; simp only [go_sem]; apply J; refine sr rfl fun _ k2 => ?_; simp only [go_sem]
 refine vp rfl rfl rfl ⟨Tryz.func165, rfl, rfl⟩ (cG a b ha.1 (fun l hl => ⟨(ha.2 l hl).1, fun r hr => ((ha.2 l hl).2 r hr).1⟩)) (by simp only [go_sem]) (by simp only [go_sem]) ?_
 simp only [go_sem]; apply k2; refine wR ?_; refine fO ?_ trivial; simp only [go_sem]
theorem w_impl_TreeSame (a b : Tree) (ha : mxTree a) : aB P 113 [trA a, trA b] [] 0 (.raw (.bool (treeSame a b))) := by
 refine pw (N := 31) (vs := [.tmp 4]) ⟨Tryz.func113, rfl, rfl⟩ rfl rfl (by simp) ?_
 simp only [eE, trA]; refine sr rfl fun _ J => ?_; simp only [go_sem]; apply J; refine sr rfl fun _ k2 => ?_; simp only [go_sem]
 refine vpg rfl rfl rfl rfl rfl rfl ⟨Tryz.func119, rfl, rfl⟩ (fun hg => aY a.mem b.mem ha.1.1) (by simp only [go_sem]) (fun hg => (by simp only [go_sem])) (by simp only [go_sem]) trivial ?_
 simp only [go_sem]
 refine vpg rfl rfl rfl rfl rfl rfl ⟨Tryz.func116, rfl, rfl⟩ (fun hg => w_impl_levelsSame a.levels b.levels ha.2.1) (by simp only [go_sem]) (fun hg => (by simp only [go_sem])) (by simp only [go_sem]) trivial ?_
 simp only [go_sem]
 refine vpg rfl rfl rfl rfl rfl rfl ⟨Tryz.func160, rfl, rfl⟩ (fun hg => w_slices_Equal_Lint_int a.snaps b.snaps ha.2.2) (by simp only [go_sem]) (fun hg => (by simp only [go_sem])) (by simp only [go_sem]) trivial ?_
 simp only [go_sem]; apply k2; refine wR ?_; refine fO ?_ trivial; simp only [go_sem, treeSame]
end Go.Proofs.S
end
section
open Go Go.Abs Go.Proofs
open Go.MapKept (IsKey)
namespace Go.Proofs.S
theorem keyS : KeyT P 9 (IsKey .string) := keyT_string (by kernel_rfl)
abbrev Tops := List (ByteArray × Int)
abbrev topMap (m : Tops) : AObj := .map 9 3 (mAV Value.string inA m)
theorem tops_ren (σ : Nat → Nat) (m : Tops) : ((mAV Value.string inA m).map fun p => (p.1, p.2.ren σ)) = mAV Value.string inA m := mAV_ren σ (fun _ => rfl) m
theorem tops_bel (U : Nat → Prop) (m : Tops) : aC U ((mAV Value.string inA m).map (·.2)) := mAV_bel (eV := inA) (fun _ => trivial) m
attribute [go_sem] tops_ren tops_bel
def nwAt (m : Tops) (seq : Int) (ls : List Entry) (i : Nat) : Bool := match ls[i]? with
  | some e => !(decide (seq < e.seq) || decide (e.seq ≤ mval m e.key 0))
  | none => true
def nwOk (m : Tops) (seq : Int) (ls : List Entry) : Bool := (List.range ls.length).all (nwAt m seq ls)
def nwStep (m : Tops) (e : Entry) : Tops := mset m e.key (max (mval m e.key 0) e.seq)
def nwPut (m : Tops) (ls : List Entry) : Tops := ls.foldl nwStep m
def newerI (seq : Int) : Tops → List (List Entry) → Bool
  | _, [] => true
  | m, l :: r => if nwOk m seq l = true then newerI seq (nwPut m l) r else false
theorem nwStep_nodup {m : Tops} (h : (m.map (·.1)).Nodup) (e : Entry) : ((nwStep m e).map (·.1)).Nodup := mset_nodup _ _ _ h
theorem nwPut_nodup : ∀ (ls : List Entry) {m : Tops}, (m.map (·.1)).Nodup → ((nwPut m ls).map (·.1)).Nodup
  | [], _, h => h
  | e :: r, _, h => nwPut_nodup r (nwStep_nodup h e)
theorem nwStep_len (m : Tops) (e : Entry) : (nwStep m e).length ≤ m.length + 1 := mset_length _ _ _
theorem nwPut_len : ∀ (ls : List Entry) (m : Tops), (nwPut m ls).length ≤ m.length + ls.length
  | [], m => Nat.le_refl _
  | e :: r, m => by
    have h1 := nwStep_len m e
    have h2 := nwPut_len r (nwStep m e)
    simp only [nwPut, List.foldl_cons, List.length_cons] at h2 ⊢
    omega
def lvsOkI (ls : List (List Run)) : Bool := (List.range ls.length).all fun i => lvOkI ((ls[i]?).getD []) i
def treeBadI (t : Tree) : Bool := ((decide (t.seq < 0) || decide (100000 < t.seq)) || decide (60 < (t.mem.length : Int))) || !decide ((t.levels.length : Int) = 3)
def treeOkI (t : Tree) : Bool := if treeBadI t = true then false else if (!inOrd t.mem || !snapsOk t.snaps t.seq) = true then false else if lvsOkI t.levels = false then false else newerI t.seq [] (layersI t.levels t.mem)
theorem layersI_small {t : Tree} (h : sTree t) : ∀ p ∈ layersI t.levels t.mem, p.length ≤ 1048576 := by
  obtain ⟨h1, h2, h3⟩ := h
  intro p hp
  rcases List.mem_append.1 hp with hp | hp
  · obtain ⟨rs, hrs, hp⟩ := List.mem_flatMap.1 hp
    obtain ⟨r, hr, rfl⟩ := List.mem_map.1 hp
    exact ((h2.2 rs (List.mem_reverse.1 hrs)).2 r hr).1
  rw [List.mem_singleton.1 hp]; exact h1.1
theorem layersI_len {t : Tree} (h : sTree t) : (layersI t.levels t.mem).length ≤ 1048576 * t.levels.length + 1 := by
  have aux : ∀ ls : List (List Run), (∀ rs ∈ ls, rs.length ≤ 1048576) → (ls.reverse.flatMap fun rs => rs.map Run.ents).length ≤ 1048576 * ls.length := by
    intro ls
    induction ls with
    | nil => intro _; simp
    | cons a r ih =>
      intro hl
      have h1 := ih fun x hx => hl x (List.mem_cons_of_mem _ hx)
      have h2 := hl a List.mem_cons_self
      rw [List.reverse_cons, List.flatMap_append, List.length_append]
      simp at h1 ⊢
      omega
  have := aux t.levels fun rs hrs => (h.2.1.2 rs hrs).1
  unfold layersI; rw [List.length_append]
  simp at this ⊢
  omega
theorem w_impl_layersOf_o (ls : List (List Run)) (mem : List Entry) (hs : sLvs ls) : aD P 164 [.sl 1 (ls.map rsA), .sl 5 (mem.map enA)] [] 0 (.ref 0) [(0, .row 33 1 ((layersI ls mem).map esA))] 1 := by
 refine gw (N := 35) (vs := [.tmp 4]) ⟨Tryz.func164, rfl, rfl⟩ rfl rfl (by simp) ?_
 simp only [eE]
 have hmx : maxLen = 9223372036854775807 := rfl
 have hlen := hs.1
 refine sr rfl fun _ J => ?_; simp only [go_sem]; apply J; refine sr rfl fun _ k2 => ?_; simp only [go_sem]; apply k2; refine sq fun _ k3 => ?_
 have hw0 : IntKind.i64.wrap ((ls.length : Int) - 1) = (ls.length : Int) - 1 := by rw [IntKind.wrap_i64]; omega
 refine sr rfl fun _ J => ?_; simp only [go_sem, hw0]; apply J; refine wb ?_
 refine awp_nil (t := 5) 33 1 rfl (by decide) ?_
 simp only [go_sem]
 refine wl (α := Nat) (fun x => x ≤ ls.length ∧ (layTo ls x).length ≤ 1048576 * (ls.length - x)) (fun x => x) (fun x => ([(0, .sl 1 (ls.map rsA)), (1, .sl 5 (mem.map enA)), (5, .ref 0), (6, .raw (.int .i64 ((x : Int) - 1)))], [(0, .row 33 1 ((layTo ls x).map esA))])) 1 ls.length ⟨Nat.le_refl _, by simp [layTo]⟩ [] ?_ ?_
 · simp only [go_sem, AObj.bel, layTo, List.drop_length, List.reverse_nil, List.flatMap_nil, List.map_nil] <;> simp
 rintro j ⟨hj, hjl⟩
 refine sq fun _ k5 => ?_; refine sr rfl fun _ J => ?_; simp only [go_sem]; apply J
 refine cd rfl (fun hc1 => ?_) fun hc1 => ?_
 · obtain ⟨i, rfl⟩ : ∃ i, j = i + 1 := ⟨j - 1, by have h9 : (0 : Int) ≤ (j : Int) - 1 := (by simpa using hc1); omega⟩
   have hi1 : (((i + 1 : Nat) : Int) - 1) = (i : Int) := by omega
   obtain ⟨l, hl, _, hml⟩ := ix (xs := ls) (i := i) (by omega)
   have hsl := hs.2 l hml
   have hll := hsl.1
   simp only [hi1]; refine wk ?_; apply k5; refine sq fun _ k7 => ?_; refine wb ?_; refine sr rfl fun _ k8 => ?_; simp only [go_sem, hl, rsA]
   repeat (first | refine ⟨by first | omega | (intro hg; simp at hg; omega), ?_⟩ | fail)
   apply k8; refine wb ?_
   refine wl (α := Nat) (fun x => x ≤ l.length) (fun x => l.length - x) (fun x => ([(0, .sl 1 (ls.map rsA)), (1, .sl 5 (mem.map enA)), (5, .ref 0), (6, .raw (.int .i64 (i : Int))), (19, .sl 2 (l.map rA)), (20, .raw (.int .i64 (l.length : Int))), (21, .raw (.int .i64 (x : Int)))], [(0, .row 33 1 ((layTo ls (i + 1) ++ (l.take x).map Run.ents).map esA))])) 1 0 (Nat.zero_le _) [] ?_ ?_
   · simp only [go_sem, AObj.bel, AObj.ren, AV.ren, aA, sg, Int.natCast_zero] <;> simp
   rintro k hk
   refine sr rfl fun _ J => ?_; simp only [go_sem]; apply J; refine sq fun _ k10 => ?_
   refine cd rfl (fun hc2 => ?_) fun hc2 => ?_
   · have hltk : k < l.length := by simpa using hc2
     obtain ⟨r, hr, _, hmr⟩ := ix hltk
     refine wk ?_; apply k10; refine sq fun _ k11 => ?_; refine wb ?_; refine sr rfl fun _ k12 => ?_; simp only [go_sem, hr, rA]
     repeat (first | refine ⟨by first | omega | (intro hg; simp at hg; omega), ?_⟩ | fail)
     apply k12; refine wg rfl ?_; simp only [go_sem, List.length_take, List.length_append, List.nil_append, List.length_map, List.length_drop, List.map_append]
     repeat (first | refine ⟨by first | omega | (intro hg; simp at hg; omega), ?_⟩ | fail)
     try simp only [go_sem, lQ]
     apply k11
     have hwk : IntKind.i64.wrap ((k : Int) + 1) = ((k + 1 : Nat) : Int) := by rw [IntKind.wrap_i64]; omega
     have htk : (layTo ls (i + 1)).map esA ++ (((l.take k).map Run.ents).map esA ++ [AV.sl 5 (r.ents.map enA)]) = (layTo ls (i + 1)).map esA ++ ((l.take (k + 1)).map Run.ents).map esA := by
       rw [List.take_add_one, hr]; simp [esA]
     refine wg rfl ?_; simp only [go_sem, hwk]; try simp only [go_sem, lQ]
     refine ⟨k + 1, by omega, by omega, [(0, 3)], ?_⟩
     simp only [go_sem, AObj.bel, AObj.ren, AV.ren, aA, sg, Int.natCast_zero] <;> simp
     first | exact htk | simpa using htk
   have hgek : l.length ≤ k := by have h9 : ¬ k < l.length := (by simpa using hc2); omega
   refine we ?_; try simp only [go_sem, lQ]
   try simp only [go_sem, lQ]
   apply k7
   have hw4 : IntKind.i64.wrap ((i : Int) - 1) = (i : Int) - 1 := by rw [IntKind.wrap_i64]; omega
   have htn : (layTo ls (i + 1)).map esA ++ (l.map Run.ents).map esA = (layTo ls i).map esA := by rw [layTo_step hl, List.map_append]
   have hfull : l.take k = l := List.take_of_length_le (by omega)
   refine wg rfl ?_; simp only [go_sem, hw4, hfull]; try simp only [go_sem, lQ]
   refine ⟨i, ⟨by omega, by rw [layTo_step hl, List.length_append, List.length_map]; omega⟩, by omega, [], ?_⟩
   simp only [go_sem, AObj.bel, AObj.ren, AV.ren, aA, sg, Int.natCast_zero] <;> simp
   simpa using htn
 have hj0 : j = 0 := by have h9 : ¬ (0 : Int) ≤ (j : Int) - 1 := (by simpa using hc1); omega
 subst hj0; refine we ?_; try simp only [go_sem, lQ]
 apply k3; refine sr rfl fun _ k13 => ?_; simp only [go_sem, List.length_take, List.length_append, List.nil_append, List.length_map, List.length_drop, List.map_append]
 repeat (first | refine ⟨by first | omega | (intro hg; simp at hg; omega), ?_⟩ | fail)
 apply k13; refine wR ?_
 have hfin : (layTo ls 0).map esA ++ [AV.sl 5 (mem.map enA)] = (layersI ls mem).map esA := by unfold layersI layTo; simp [esA]
 refine ⟨[(0, 2)], ?_⟩
 simp only [go_sem, AObj.bel, AObj.ren, AV.ren, aA, sg] <;> simp
 exact hfin
theorem w_impl_newerAbove (ls : List (List Entry)) (seq : Int) (hz : ls.length ≤ 4194304) (hl5 : ∀ l ∈ ls, l.length ≤ 1048576) : aB P 163 [.sl 1 (ls.map esA), .raw (.int .i64 seq)] [] 0 (.raw (.bool (newerI seq [] ls))) := by
 refine pw (N := 57) (vs := [.tmp 4]) ⟨Tryz.func163, rfl, rfl⟩ rfl rfl (by simp) ?_
 simp only [eE]; refine sr rfl fun _ J => ?_; simp only [go_sem]; apply J; refine sr rfl fun _ k2 => ?_; simp only [go_sem]; apply k2; refine sq fun _ k3 => ?_; refine sr rfl fun _ J => ?_; simp only [go_sem]; apply J; refine wb ?_
 refine wl (α := Nat × Tops) (fun x => x.1 ≤ ls.length ∧ (x.2.map (·.1)).Nodup ∧ x.2.length ≤ 1048576 * x.1 ∧ newerI seq x.2 (ls.drop x.1) = newerI seq [] ls) (fun x => ls.length - x.1) (fun x => ([(1, .raw (.int .i64 seq)), (5, .ref 0), (13, .sl 1 (ls.map esA)), (14, .raw (.int .i64 (ls.length : Int))), (15, .raw (.int .i64 (x.1 : Int)))], [(0, topMap x.2)])) 1 (0, []) ⟨Nat.zero_le _, List.nodup_nil, Nat.le_refl _, rfl⟩ [] ?_ ?_
 · simp only [go_sem, AObj.bel, AObj.ren, topMap, mAV, List.map_nil, Int.natCast_zero] <;> simp [aC]
 rintro ⟨i, m⟩ ⟨hi, hnd, hml, hgo⟩
 simp only at hi hnd hml hgo ⊢
 refine sr rfl fun _ J => ?_; simp only [go_sem]; apply J; refine sq fun _ k6 => ?_
 refine cd rfl (fun hc1 => ?_) fun hc1 => ?_
 · have hlt : i < ls.length := (by simpa using hc1); obtain ⟨l, hl, hdrop, hml0⟩ := ix hlt
   have hll := hl5 l hml0
   refine wk ?_; apply k6; refine sq fun _ k7 => ?_; refine wb ?_; refine sr rfl fun _ k8 => ?_; simp only [go_sem, hl, esA]
   repeat (first | refine ⟨by first | omega | (intro hg; simp at hg; omega), ?_⟩ | fail)
   apply k8; refine sq fun _ k9 => ?_; refine sr rfl fun _ J => ?_; simp only [go_sem]; apply J; refine wb ?_
   refine wl (α := Nat) (fun x => x ≤ l.length ∧ ∀ j, j < x → nwAt m seq l j = true) (fun x => l.length - x) (fun x => ([(1, .raw (.int .i64 seq)), (5, .ref 0), (7, .sl 5 (l.map enA)), (13, .sl 1 (ls.map esA)), (14, .raw (.int .i64 (ls.length : Int))), (15, .raw (.int .i64 (i : Int))), (19, .sl 5 (l.map enA)), (20, .raw (.int .i64 (l.length : Int))), (21, .raw (.int .i64 (x : Int)))], [(0, topMap m)])) 1 0 ⟨Nat.zero_le _, fun j hj => absurd hj (Nat.not_lt_zero _)⟩ [] ?_ ?_
   · simp only [go_sem, AObj.bel, AObj.ren, topMap, Int.natCast_zero] <;> simp
   rintro k ⟨hk, hall⟩
   refine sr rfl fun _ J => ?_; simp only [go_sem]; apply J; refine sq fun _ k12 => ?_
   refine cd rfl (fun hc2 => ?_) fun hc2 => ?_
   · have hltk : k < l.length := by simpa using hc2
     obtain ⟨e, he, _, _⟩ := ix hltk
     refine wk ?_; apply k12; refine sq fun _ k13 => ?_; refine wb ?_; refine sr rfl fun _ k14 => ?_; simp only [go_sem, he, enA]
     repeat (first | refine ⟨by first | omega | (intro hg; simp at hg; omega), ?_⟩ | fail)
     apply k14; refine sr rfl fun _ k15 => ?_; simp only [go_sem, he, enA]
     refine vC (fun hN => lstep_guard hN rfl rfl rfl rfl (by simp only [go_sem]) (fun hg => lstep_look (eK := Value.string) (eV := inA) (k := e.key) (z := 0) (m := m) rfl rfl hN (by simp only [go_sem]) (by simp only [go_sem, inA]) keyS (fun a b h => Value.string.inj h) (fun a => trivial) rfl rfl hnd rfl rfl) trivial) (.inl rfl) ?_
     simp only [go_sem, inA, he, enA]; apply k15
     refine cd rfl (fun hc3 => ?_) fun hc3 => ?_
     · have hp : nwAt m seq l k = false := by unfold nwAt; rw [he]; simp only [hc3]; rfl
       have hok : nwOk m seq l = false := all_no hltk hp
       refine sr rfl fun _ J => ?_; simp only [go_sem]; apply J; refine wR ?_; simp only [go_sem, lQ]; rw [hdrop, newerI, hok] at hgo; refine fO ?_ trivial; simp only [go_sem, ← hgo, Bool.false_eq_true, if_false]
     have hp : nwAt m seq l k = true := by unfold nwAt; rw [he]; simp only [hc3]; rfl
     refine wk ?_; try simp only [go_sem, lQ]
     apply k13
     have hwk : IntKind.i64.wrap ((k : Int) + 1) = ((k + 1 : Nat) : Int) := by rw [IntKind.wrap_i64]; omega
     refine wg rfl ?_; simp only [go_sem, hwk]; try simp only [go_sem, lQ]
     refine ⟨k + 1, ⟨by omega, bN hall hp⟩, by omega, [], ?_⟩
     simp only [go_sem, AObj.bel, AObj.ren, AV.ren, aA, sg, topMap] <;> simp
   have hgek : l.length ≤ k := by have h9 : ¬ k < l.length := (by simpa using hc2); omega
   refine we ?_; try simp only [go_sem, lQ]
   apply k9
   have hok : nwOk m seq l = true := all_yes hgek hall
   refine sr rfl fun _ J => ?_; simp only [go_sem]; apply J; refine wb ?_
   refine wl (α := Nat × Tops) (fun x => x.1 ≤ l.length ∧ (x.2.map (·.1)).Nodup ∧ x.2.length ≤ 1048576 * i + x.1 ∧ nwPut x.2 (l.drop x.1) = nwPut m l) (fun x => l.length - x.1) (fun x => ([(1, .raw (.int .i64 seq)), (5, .ref 0), (13, .sl 1 (ls.map esA)), (14, .raw (.int .i64 (ls.length : Int))), (15, .raw (.int .i64 (i : Int))), (39, .sl 5 (l.map enA)), (40, .raw (.int .i64 (l.length : Int))), (41, .raw (.int .i64 (x.1 : Int)))], [(0, topMap x.2)])) 1 (0, m) ⟨Nat.zero_le _, hnd, by simpa using hml, rfl⟩ [] ?_ ?_
   · simp only [go_sem, AObj.bel, AObj.ren, topMap, Int.natCast_zero] <;> simp
   rintro ⟨k, m2⟩ ⟨hk2, hnd2, hml2, hput⟩
   simp only at hk2 hnd2 hml2 hput ⊢
   refine sr rfl fun _ J => ?_; simp only [go_sem]; apply J; refine sq fun _ k19 => ?_
   refine cd rfl (fun hc4 => ?_) fun hc4 => ?_
   · have hltk : k < l.length := by simpa using hc4
     obtain ⟨e, he, hdrop2, _⟩ := ix hltk
     refine wk ?_; apply k19; refine sq fun _ k20 => ?_; refine wb ?_; refine sr rfl fun _ k21 => ?_; simp only [go_sem, he, enA]
     repeat (first | refine ⟨by first | omega | (intro hg; simp at hg; omega), ?_⟩ | fail)
     apply k21
     have hmx2 : m2.length + 1 < maxLen := by have hmx : maxLen = 9223372036854775807 := rfl
                                              omega
     refine wg rfl ?_; simp only [go_sem, he, enA]
     refine vC (fun hN => lstep_look (eK := Value.string) (eV := inA) (k := e.key) (z := 0) (m := m2) rfl rfl hN (by simp only [go_sem]) (by simp only [go_sem, inA]) keyS (fun a b h => Value.string.inj h) (fun a => trivial) rfl rfl hnd2 rfl rfl) (.inl rfl) ?_
     simp only [go_sem, inA, he, enA]
     refine vC (fun hN => lstep_upd (eK := Value.string) (eV := inA) (k := e.key) (v := max (mval m2 e.key 0) e.seq) (m := m2) rfl rfl hN (by simp only [go_sem]) keyS (fun a b h => Value.string.inj h) (fun a => trivial) rfl rfl hnd2 rfl rfl rfl hmx2) (.inl rfl) ?_
     simp only [go_sem, inA, he, enA]; try simp only [go_sem, lQ]
     apply k20
     have hwk : IntKind.i64.wrap ((k : Int) + 1) = ((k + 1 : Nat) : Int) := by rw [IntKind.wrap_i64]; omega
     refine wg rfl ?_; simp only [go_sem, hwk]; try simp only [go_sem, lQ]
     refine ⟨(k + 1, nwStep m2 e), ⟨by simp only; omega, nwStep_nodup hnd2 e, by have := nwStep_len m2 e; simp only; omega, by rw [hdrop2] at hput; exact hput⟩, by simp only; omega, [], ?_⟩
     simp only [go_sem, AObj.bel, AObj.ren, AV.ren, aA, sg, topMap, nwStep] <;> simp
   have hgek2 : l.length ≤ k := by have h9 : ¬ k < l.length := (by simpa using hc4); omega
   rw [List.drop_eq_nil_of_le hgek2] at hput
   have hput2 : m2 = nwPut m l := hput
   refine we ?_; try simp only [go_sem, lQ]
   try simp only [go_sem, lQ]
   apply k7
   have hw : IntKind.i64.wrap ((i : Int) + 1) = ((i + 1 : Nat) : Int) := by rw [IntKind.wrap_i64]; omega
   refine wg rfl ?_; simp only [go_sem, hw]; try simp only [go_sem, lQ]
   refine ⟨(i + 1, nwPut m l), ⟨by simp only; omega, nwPut_nodup l hnd, by have := nwPut_len l m; simp only; omega, by rw [hdrop, newerI, if_pos hok] at hgo; exact hgo⟩, by simp only; omega, [], ?_⟩
   rw [hput2]
   simp only [go_sem, AObj.bel, AObj.ren, AV.ren, aA, sg, topMap] <;> simp
 have hge : ls.length ≤ i := Nat.not_lt.1 (by simpa using hc1)
 rw [List.drop_eq_nil_of_le hge, newerI] at hgo; refine we ?_; try simp only [go_sem, lQ]
 apply k3; refine sr rfl fun _ J => ?_; simp only [go_sem]; apply J; refine wR ?_; refine fO ?_ trivial; simp only [go_sem, ← hgo]
theorem w_impl_TreeOk (t : Tree) (hs : sTree t) : aB P 115 [trA t] [] 0 (.raw (.bool (treeOkI t))) := by
 refine pw (N := 58) (vs := [.tmp 2]) ⟨Tryz.func115, rfl, rfl⟩ rfl rfl (by simp) ?_
 simp only [eE, trA]
 have hs0 := hs
 obtain ⟨hs1, hs2, hs3⟩ := hs
 have hz1 : bT t.mem := ⟨by have := hs1.1; omega, fun e he => ⟨by have := (hs1.2 e he).1; omega, by have := (hs1.2 e he).2; omega⟩⟩
 have hzr : ∀ rs ∈ t.levels, mxRuns rs := fun rs hrs => by
   have h1 := hs2.2 rs hrs
   exact ⟨by have := h1.1; omega, fun r hr => ⟨by have := (h1.2 r hr).1; omega, fun e he => ⟨by have := ((h1.2 r hr).2 e he).1; omega, by have := ((h1.2 r hr).2 e he).2; omega⟩⟩⟩
 have hlz := hs2.1
 refine sr rfl fun _ J => ?_; simp only [go_sem]; apply J; refine sq fun _ k2 => ?_; refine sr rfl fun _ J => ?_; simp only [go_sem]; apply J
 refine cd rfl (fun hc1 => ?_) fun hc1 => ?_
 · have hb : treeBadI t = true := hc1
   refine sr rfl fun _ J => ?_; simp only [go_sem]; apply J; refine wR ?_; refine fO ?_ trivial; simp only [go_sem, treeOkI, hb, if_true]
 have hb : treeBadI t = false := hc1
 have h3 : t.levels.length = 3 := by simp at hc1; omega
 refine wk ?_; apply k2; refine sq fun _ k5 => ?_; refine sr rfl fun _ k6 => ?_; simp only [go_sem]
 refine vp rfl rfl rfl ⟨Tryz.func146, rfl, rfl⟩ (w_impl_inOrder t.mem hz1) (by simp only [go_sem]) (by simp only [go_sem]) ?_
 simp only [go_sem]
 refine vpg rfl rfl rfl rfl rfl rfl ⟨Tryz.func161, rfl, rfl⟩ (fun hg => w_impl_snapsOk t.snaps t.seq (by omega)) (by simp only [go_sem]) (fun hg => (by simp only [go_sem])) (by simp only [go_sem]) trivial ?_
 simp only [go_sem]; apply k6
 refine cd rfl (fun hc2 => ?_) fun hc2 => ?_
 · have hb2 := hc2
   refine sr rfl fun _ J => ?_; simp only [go_sem]; apply J; refine wR ?_; refine fO ?_ trivial; simp only [go_sem, treeOkI, hb, hb2, Bool.false_eq_true, if_false, if_true]
 have hb2 := hc2
 refine wk ?_; apply k5; refine sq fun _ k8 => ?_; refine sr rfl fun _ J => ?_; simp only [go_sem]; apply J; refine wb ?_
 refine wl (α := Nat) (fun x => x ≤ t.levels.length ∧ ∀ j, j < x → (fun i : Nat => lvOkI ((t.levels[i]?).getD []) (i : Int)) j = true) (fun x => t.levels.length - x) (fun x => ([(1, .ptr 0 0), (38, .sl 1 (t.levels.map rsA)), (39, .raw (.int .i64 (t.levels.length : Int))), (40, .raw (.int .i64 (x : Int)))], [(0, .cells 36 [.raw (.int .i64 t.seq), .sl 5 (t.mem.map enA), .sl 1 (t.levels.map rsA), .sl 1 (t.snaps.map inA)])])) 1 0 ⟨Nat.zero_le _, fun j hj => absurd hj (Nat.not_lt_zero _)⟩ [] ?_ ?_
 · simp only [go_sem, AObj.bel, Int.natCast_zero] <;> simp
 rintro i ⟨hi, hall⟩
 refine sr rfl fun _ J => ?_; simp only [go_sem]; apply J; refine sq fun _ k11 => ?_
 refine cd rfl (fun hc3 => ?_) fun hc3 => ?_
 · have hlt : i < t.levels.length := by simpa using hc3
   obtain ⟨l, hl, hdrop, hml⟩ := ix hlt; refine wk ?_; apply k11; refine sq fun _ k12 => ?_; refine wb ?_; refine sr rfl fun _ k13 => ?_; simp only [go_sem, hl, rsA]
   repeat (first | refine ⟨by first | omega | (intro hg; simp at hg; omega), ?_⟩ | fail)
   apply k13; refine sr rfl fun _ k14 => ?_; simp only [go_sem, hl, rsA]
   refine vp rfl rfl rfl ⟨Tryz.func162, rfl, rfl⟩ (w_impl_levelOk l (i : Int) (hzr l hml)) (by simp only [go_sem]) (by simp only [go_sem]) ?_
   simp only [go_sem, hl, rsA]; apply k14
   refine cd rfl (fun hc4 => ?_) fun hc4 => ?_
   · have hp : (fun i : Nat => lvOkI ((t.levels[i]?).getD []) (i : Int)) i = false := by simp only [hl, Option.getD_some]; simpa using hc4
     have hlo : lvsOkI t.levels = false := all_no hlt hp
     refine sr rfl fun _ J => ?_; simp only [go_sem]; apply J; refine wR ?_; simp only [go_sem, lQ]; refine fO ?_ trivial; simp only [go_sem, treeOkI, hb, hb2, hlo, Bool.false_eq_true, if_false, if_true]
   have hp : (fun i : Nat => lvOkI ((t.levels[i]?).getD []) (i : Int)) i = true := by simp only [hl, Option.getD_some]; simpa using hc4
   refine wk ?_; try simp only [go_sem, lQ]
   apply k12
   have hw : IntKind.i64.wrap ((i : Int) + 1) = ((i + 1 : Nat) : Int) := by rw [IntKind.wrap_i64]; omega
   refine wg rfl ?_; simp only [go_sem, hw]; try simp only [go_sem, lQ]
   refine ⟨i + 1, ⟨by omega, bN hall hp⟩, by omega, [], ?_⟩
   simp only [go_sem, AObj.bel] <;> simp
 have hge : t.levels.length ≤ i := Nat.not_lt.1 (by simpa using hc3)
 have hlo : lvsOkI t.levels = true := all_yes hge hall
 have hlay : (layersI t.levels t.mem).length ≤ 4194304 := by have h8 := layersI_len hs0; omega
 refine we ?_; try simp only [go_sem, lQ]
 apply k8; refine sd mixed rfl fun _ k16 => ?_; simp only [go_sem]
 refine tp rfl rfl rfl ⟨Tryz.func164, rfl, rfl⟩ ((cQ (w_impl_layersOf_o t.levels t.mem hs2) (by simp only [go_sem, entsAV_fz]) (by simp only [go_sem]) : aB P 164 [.sl 1 (t.levels.map rsA), .sl 5 (t.mem.map enA)] [] 0 (.sl 1 ((layersI t.levels t.mem).map esA)))) (by simp only [go_sem]) (by simp only [go_sem]) ?_
 simp only [go_sem]
 refine tp rfl rfl rfl ⟨Tryz.func163, rfl, rfl⟩ (w_impl_newerAbove (layersI t.levels t.mem) t.seq hlay (layersI_small hs0)) (by simp only [go_sem]) (by simp only [go_sem]) ?_
 simp only [go_sem]; refine ⟨by rfl, ?_⟩; apply k16; refine wR ?_; refine fO ?_ trivial; simp only [go_sem, treeOkI, hb, hb2, hlo, Bool.false_eq_true, Bool.true_eq_false, if_false]
end Go.Proofs.S
end
section
open Go Go.Abs Go.Proofs
namespace Go.Proofs.S
section
variable {ls : List Run} {r : Run} {e : Entry}
theorem all_iff {p : Nat → Bool} {n : Nat} : (List.range n).all p = true ↔ ∀ i, i < n → p i = true := by
  rw [List.all_eq_true]
  exact ⟨fun h i hi => h i (List.mem_range.2 hi), fun h i hi => h i (List.mem_range.1 hi)⟩
theorem mem_get {α : Type} {ls : List α} {x : α} (h : x ∈ ls) : ∃ i, i < ls.length ∧ ls[i]? = some x := by
  obtain ⟨i, hi⟩ := List.getElem?_of_mem h
  exact ⟨i, (List.getElem?_eq_some_iff.1 hi).1, hi⟩
theorem within_iff (ls : List Entry) (seq : Int) : within ls seq = true ↔ ∀ e ∈ ls, e.seq ≤ seq := by
  unfold within; rw [all_iff]
  constructor
  · intro h e he
    obtain ⟨i, hi, hx⟩ := mem_get he
    have := h i hi
    unfold withinAt at this; rw [hx] at this
    simpa using this
  intro h i hi; unfold withinAt; rw [List.getElem?_eq_getElem hi]
  simpa using h _ (List.getElem_mem hi)
theorem above_iff (a b : List Entry) : above a b = true ↔ ∀ e ∈ a, ∀ f ∈ b, e.key = f.key → f.seq < e.seq := by
  unfold above; rw [all_iff]
  constructor
  · intro h e he f hf hk
    obtain ⟨i, hi, hx⟩ := mem_get he
    obtain ⟨j, hj, hy⟩ := mem_get hf
    have := all_iff.1 (h i hi) j hj
    unfold abvAt at this; rw [hx, hy] at this
    simp only [ba_beq, hk, decide_true, Bool.true_and, Bool.not_eq_true', decide_eq_false_iff_not] at this
    omega
  intro h i hi
  refine all_iff.2 fun j hj => ?_
  unfold abvAt; rw [List.getElem?_eq_getElem hi, List.getElem?_eq_getElem hj]; simp only [ba_beq]
  by_cases hk : a[i].key = b[j].key
  · have := h _ (List.getElem_mem hi) _ (List.getElem_mem hj) hk
    simp [hk]; omega
  simp [hk]
theorem agedS_iff (ps : List (List Entry)) : agedS ps = true ↔ ps.Pairwise fun a b => above a b = true := by
  unfold agedS; rw [all_iff, List.pairwise_iff_getElem]
  constructor
  · intro h i j hi hj hij
    have := all_iff.1 (h i hi) (j - (i + 1)) (by omega)
    unfold agedAt at this; rw [show i + 1 + (j - (i + 1)) = j by omega, List.getElem?_eq_getElem hi, List.getElem?_eq_getElem hj] at this; exact this
  intro h i hi
  refine all_iff.2 fun d hd => ?_
  unfold agedAt; rw [List.getElem?_eq_getElem hi, List.getElem?_eq_getElem (show i + 1 + d < ps.length by omega)]
  exact h i (i + 1 + d) hi (by omega) (by omega)
def Adj (ls : List Run) : Prop := ∀ i, (h : i + 1 < ls.length) → Op.bytesLess (highKey ls[i]).toList (lowKey ls[i + 1]).toList = true
theorem prevRun_at {i : Nat} (h : i + 1 < ls.length) : prevRun ls (i + 1) = ls[i] := by
  unfold prevRun; rw [Nat.add_sub_cancel, List.getElem?_eq_getElem (by omega)]; rfl
theorem lvOkI_iff (ls : List Run) (level : Int) : lvOkI ls level = true ↔ (ls.length : Int) ≤ roomI level ∧ (∀ r ∈ ls, runOk r = true) ∧ (0 < level → Adj ls) := by
  unfold lvOkI; split
  · rename_i h
    exact ⟨fun h' => (by cases h'), fun h' => by omega⟩
  rename_i h
  rw [all_iff]
  constructor
  · intro h'
    refine ⟨by omega, fun r hr => ?_, fun hl i hi => ?_⟩
    · obtain ⟨i, hi, hx⟩ := mem_get hr
      exact lvAtI_ok (h' i hi) hx
    have := h' (i + 1) hi
    unfold lvAtI at this; rw [List.getElem?_eq_getElem hi, prevRun_at hi] at this
    simp [hl] at this
    have h1 := this.2
    exact h1
  rintro ⟨h1, h2, h3⟩ i hi
  unfold lvAtI; rw [List.getElem?_eq_getElem hi]; simp only [h2 _ (List.getElem_mem hi), Bool.true_and]
  by_cases hl : 0 < level
  · cases i with
    | zero => simp
    | succ i =>
      rw [prevRun_at hi, h3 hl i hi]
      simp
  simp [hl]
theorem runsRight_iff (ls : List Run) (most : Int) (ap : Bool) (seq : Int) : runsRight ls most ap seq = true ↔ (ls.length : Int) ≤ most ∧ (∀ r ∈ ls, runOk r = true ∧ within r.ents seq = true) ∧ (ap = true → Adj ls) := by
  unfold runsRight; split
  · rename_i h
    exact ⟨fun h' => (by cases h'), fun h' => by omega⟩
  rename_i h
  rw [all_iff]
  constructor
  · intro h'
    refine ⟨by omega, fun r hr => ?_, fun hl i hi => ?_⟩
    · obtain ⟨i, hi, hx⟩ := mem_get hr
      have := h' i hi
      unfold runsAt at this; rw [hx] at this; simp at this
      exact this.1
    have := h' (i + 1) hi
    unfold runsAt at this; rw [List.getElem?_eq_getElem hi, prevRun_at hi] at this
    simp [hl] at this
    exact this.2
  rintro ⟨h1, h2, h3⟩ i hi
  unfold runsAt; rw [List.getElem?_eq_getElem hi]
  obtain ⟨k1, k2⟩ := h2 _ (List.getElem_mem hi)
  simp only [k1, k2, Bool.not_true, Bool.or_false, Bool.not_false, Bool.true_and]
  by_cases hl : ap = true
  · cases i with
    | zero => simp
    | succ i =>
      rw [prevRun_at hi, h3 hl i hi]
      simp
  simp [hl]
theorem top_put (s : Int) (k : ByteArray) : ∀ (l : List Entry) (m : Tops), mval (nwPut m l) k 0 < s ↔ mval m k 0 < s ∧ ∀ e ∈ l, e.key = k → e.seq < s
  | [], m => by simp [nwPut]
  | e :: r, m => by
    have ih := top_put s k r (nwStep m e)
    unfold nwPut at ih ⊢
    rw [List.foldl_cons, ih]; unfold nwStep; rw [mval_mset]
    by_cases hk : e.key = k
    · subst hk; rw [if_pos rfl]
      constructor
      · rintro ⟨h1, h2⟩
        refine ⟨by omega, fun f hf hfk => ?_⟩
        rcases List.mem_cons.1 hf with rfl | hf
        · omega
        exact h2 f hf hfk
      rintro ⟨h1, h2⟩
      have h3 := h2 e List.mem_cons_self rfl
      exact ⟨by omega, fun f hf => h2 f (List.mem_cons_of_mem _ hf)⟩
    rw [if_neg hk]
    constructor
    · rintro ⟨h1, h2⟩
      refine ⟨h1, fun f hf hfk => ?_⟩
      rcases List.mem_cons.1 hf with rfl | hf
      · exact absurd hfk hk
      exact h2 f hf hfk
    rintro ⟨h1, h2⟩
    exact ⟨h1, fun f hf => h2 f (List.mem_cons_of_mem _ hf)⟩
theorem nwOk_iff (m : Tops) (seq : Int) (l : List Entry) : nwOk m seq l = true ↔ ∀ e ∈ l, e.seq ≤ seq ∧ mval m e.key 0 < e.seq := by
  unfold nwOk; rw [all_iff]
  constructor
  · intro h e he
    obtain ⟨i, hi, hx⟩ := mem_get he
    have := h i hi
    unfold nwAt at this; rw [hx] at this; simp at this; omega
  intro h i hi; unfold nwAt; rw [List.getElem?_eq_getElem hi]
  have := h _ (List.getElem_mem hi)
  simp
  omega
theorem newerI_iff (seq : Int) : ∀ (ls : List (List Entry)) (m : Tops), newerI seq m ls = true ↔ (∀ l ∈ ls, ∀ e ∈ l, e.seq ≤ seq ∧ mval m e.key 0 < e.seq) ∧ ls.Pairwise fun a b => above b a = true
  | [], m => by simp [newerI]
  | l :: r, m => by
    unfold newerI; rw [List.pairwise_cons]; split
    · rename_i h
      have h0 := (nwOk_iff m seq l).1 h
      rw [newerI_iff seq r (nwPut m l)]
      constructor
      · rintro ⟨h1, h2⟩
        refine ⟨fun l' hl' e he => ?_, fun b hb => (above_iff b l).2 fun e he f hf hk => ?_, h2⟩
        · rcases List.mem_cons.1 hl' with rfl | hl'
          · exact h0 e he
          have h3 := h1 l' hl' e he
          exact ⟨h3.1, ((top_put _ _ _ _).1 h3.2).1⟩
        have h3 := (h1 b hb e he).2
        exact ((top_put _ _ _ _).1 h3).2 f hf hk.symm
      rintro ⟨h1, h2, h3⟩
      refine ⟨fun l' hl' e he => ?_, h3⟩
      have h4 := h1 l' (List.mem_cons_of_mem _ hl') e he
      exact ⟨h4.1, (top_put _ _ _ _).2 ⟨h4.2, fun f hf hfk => (above_iff l' l).1 (h2 l' hl') e he f hf hfk.symm⟩⟩
    rename_i h
    refine ⟨fun h' => (by cases h'), fun h' => absurd ((nwOk_iff m seq l).2 fun e he => h'.1 l List.mem_cons_self e he) h⟩
theorem key_le {a b : Entry} (h : entLt a b = true) : Op.bytesLess b.key.toList a.key.toList = false := by
  have := entLt_asymm h
  simp only [entLt, Bool.or_eq_false_iff] at this
  exact this.1
theorem run_keys (h : runOk r = true) (he : e ∈ r.ents) : Op.bytesLess e.key.toList (lowKey r).toList = false ∧ Op.bytesLess (highKey r).toList e.key.toList = false := by
  have hl := runOk_len h
  simp only [runOk, Bool.and_eq_true] at h
  have hp := List.pairwise_iff_getElem.1 (inOrd_pw h.1.2)
  obtain ⟨i, hi, hx⟩ := mem_get he
  rw [List.getElem?_eq_getElem hi] at hx; cases hx
  refine ⟨?_, ?_⟩
  · unfold lowKey; rw [List.getElem?_eq_getElem (by omega)]; simp only [Option.getD_some]
    by_cases h0 : i = 0
    · subst h0; exact bl_irrefl _
    exact key_le (hp 0 i (by omega) hi (by omega))
  unfold highKey; rw [List.getElem?_eq_getElem (by omega)]; simp only [Option.getD_some]
  by_cases h0 : i = r.ents.length - 1
  · subst h0; exact bl_irrefl _
  exact key_le (hp i (r.ents.length - 1) hi (by omega) (by omega))
theorem bl_lt_le {x y z : List UInt8} (h1 : Op.bytesLess x y = true) (h2 : Op.bytesLess z y = false) : Op.bytesLess x z = true := by
  cases h3 : Op.bytesLess x z with
  | true => rfl
  | false => have := bl_neg x z y h3 h2; rw [h1] at this; cases this
theorem bl_le_lt {x y z : List UInt8} (h1 : Op.bytesLess y x = false) (h2 : Op.bytesLess y z = true) : Op.bytesLess x z = true := by
  cases h3 : Op.bytesLess x z with
  | true => rfl
  | false => have := bl_neg y x z h1 h3; rw [h2] at this; cases this
theorem low_high (h : runOk r = true) : Op.bytesLess (highKey r).toList (lowKey r).toList = false := by
  have hl := runOk_len h
  have hm : r.ents[0] ∈ r.ents := List.getElem_mem (by omega)
  have h1 := run_keys h hm
  exact bl_neg _ _ _ h1.2 h1.1
theorem adj_all (h : Adj ls) (hr : ∀ r ∈ ls, runOk r = true) : ls.Pairwise fun a b => Op.bytesLess (highKey a).toList (lowKey b).toList = true := by
  refine List.pairwise_iff_getElem.2 fun i j hi hj hij => ?_
  obtain ⟨d, rfl⟩ : ∃ d, j = i + 1 + d := ⟨j - (i + 1), by omega⟩
  clear hij
  induction d with
  | zero => exact h i hj
  | succ d ih =>
    have h1 := ih (by omega)
    have h2 := h (i + 1 + d) (by omega)
    have h3 := low_high (hr _ (List.getElem_mem (show i + 1 + d < ls.length by omega)))
    exact bl_trans _ _ _ (bl_lt_le h1 h3) h2
theorem adj_above (h : Adj ls) (hr : ∀ r ∈ ls, runOk r = true) : (ls.map Run.ents).Pairwise fun a b => above b a = true := by
  rw [List.pairwise_map]
  refine List.Pairwise.imp_of_mem (fun {a b} ha hb hab => ?_) (adj_all h hr)
  refine (above_iff _ _).2 fun e he f hf hk => ?_
  have h1 := (run_keys (hr b hb) he).1
  have h2 := (run_keys (hr a ha) hf).2
  have h3 := bl_le_lt h2 (bl_lt_le hab h1)
  rw [hk, bl_irrefl] at h3; cases h3
theorem above_flat (a : List Entry) (rs : List Run) : above a (dI rs) = true ↔ ∀ r ∈ rs, above a r.ents = true := by
  rw [above_iff]
  constructor
  · intro h r hr
    exact (above_iff _ _).2 fun e he f hf => h e he f (List.mem_flatMap.2 ⟨r, hr, hf⟩)
  intro h e he f hf
  obtain ⟨r, hr, hf⟩ := List.mem_flatMap.1 hf
  exact (above_iff _ _).1 (h r hr) e he f hf
theorem flat_above (a : List Entry) (rs : List Run) : above (dI rs) a = true ↔ ∀ r ∈ rs, above r.ents a = true := by
  rw [above_iff]
  constructor
  · intro h r hr
    exact (above_iff _ _).2 fun e he f hf => h e (List.mem_flatMap.2 ⟨r, hr, he⟩) f hf
  intro h e he f hf
  obtain ⟨r, hr, he⟩ := List.mem_flatMap.1 he
  exact (above_iff _ _).1 (h r hr) e he f hf
theorem ok_seq (h : runOk r = true) (he : e ∈ r.ents) : 0 < e.seq := by
  simp only [runOk, Bool.and_eq_true] at h
  obtain ⟨i, hi, hx⟩ := mem_get he
  have := (List.all_eq_true.1 h.1.2) i (List.mem_range.2 hi)
  unfold okAt at this; rw [hx] at this; simp at this
  have := entOk_range this.1
  omega
theorem ord_seq {ls : List Entry} (h : inOrd ls = true) (he : e ∈ ls) : 0 < e.seq := by
  obtain ⟨i, hi, hx⟩ := mem_get he
  have := (List.all_eq_true.1 h) i (List.mem_range.2 hi)
  unfold okAt at this; rw [hx] at this; simp at this
  have := entOk_range this.1
  omega
theorem aged_iff (L0 L1 L2 : List Run) (mem : List Entry) (h1 : Adj L1) (r1 : ∀ r ∈ L1, runOk r = true) (h2 : Adj L2) (r2 : ∀ r ∈ L2, runOk r = true) :
    ((mem :: (L0.reverse.map Run.ents ++ [dI L1, dI L2])).Pairwise fun a b => above a b = true) ↔ (((L2.map Run.ents ++ (L1.map Run.ents ++ L0.map Run.ents)) ++ [mem]).Pairwise fun a b => above b a = true) := by
  have e0 : ∀ (ls : List Run) (φ : List Entry → Prop), (∀ x ∈ ls.map Run.ents, φ x) ↔ ∀ r ∈ ls, φ r.ents := fun ls φ =>
    ⟨fun h r hr => h _ (List.mem_map_of_mem hr), fun h x hx => by obtain ⟨r, hr, rfl⟩ := List.mem_map.1 hx; exact h r hr⟩
  have e1 : (L0.reverse.map Run.ents).Pairwise (fun a b => above a b = true) ↔ (L0.map Run.ents).Pairwise (fun a b => above b a = true) := by
    rw [List.map_reverse, List.pairwise_reverse]
  simp only [List.pairwise_cons, List.pairwise_append, List.mem_append, List.mem_cons, List.not_mem_nil, or_false, e1, List.Pairwise.nil, List.Pairwise.nil, forall_eq, forall_eq_or_imp, false_implies, implies_true, and_true, true_and]
  have a1 := adj_above h1 r1
  have a2 := adj_above h2 r2
  constructor
  · rintro ⟨k1, k2, k3, k4⟩
    refine ⟨⟨a2, ⟨a1, k2, fun x hx y hy => ?_⟩, fun x hx y hy => ?_⟩, fun x hx => ?_⟩
    · obtain ⟨r, hr, rfl⟩ := List.mem_map.1 hx
      obtain ⟨s, hs, rfl⟩ := List.mem_map.1 hy
      exact (above_flat _ _).1 (k4 s.ents (List.mem_map_of_mem (List.mem_reverse.2 hs))).1 r hr
    · obtain ⟨r, hr, rfl⟩ := List.mem_map.1 hx
      rcases hy with hy | hy
      · obtain ⟨s, hs, rfl⟩ := List.mem_map.1 hy
        exact (above_flat _ _).1 ((flat_above _ _).1 k3 s hs) r hr
      obtain ⟨s, hs, rfl⟩ := List.mem_map.1 hy
      exact (above_flat _ _).1 (k4 s.ents (List.mem_map_of_mem (List.mem_reverse.2 hs))).2 r hr
    rcases hx with hx | hx | hx
    · obtain ⟨r, hr, rfl⟩ := List.mem_map.1 hx
      exact (above_flat _ _).1 (k1 _ (.inr (.inr rfl))) r hr
    · obtain ⟨r, hr, rfl⟩ := List.mem_map.1 hx
      exact (above_flat _ _).1 (k1 _ (.inr (.inl rfl))) r hr
    obtain ⟨r, hr, rfl⟩ := List.mem_map.1 hx
    exact k1 _ (.inl (List.mem_map_of_mem (List.mem_reverse.2 hr)))
  rintro ⟨⟨k1, ⟨k2, k3, k4⟩, k5⟩, k6⟩
  refine ⟨fun x hx => ?_, k3, ?_, fun x hx => ?_⟩
  · rcases hx with hx | rfl | rfl
    · obtain ⟨r, hr, rfl⟩ := List.mem_map.1 hx
      exact k6 _ (.inr (.inr (List.mem_map_of_mem (List.mem_reverse.1 hr))))
    · exact (above_flat _ _).2 fun r hr => k6 _ (.inr (.inl (List.mem_map_of_mem hr)))
    exact (above_flat _ _).2 fun r hr => k6 _ (.inl (List.mem_map_of_mem hr))
  · exact (flat_above _ _).2 fun s hs => (above_flat _ _).2 fun r hr => k5 _ (List.mem_map_of_mem hr) _ (.inl (List.mem_map_of_mem hs))
  obtain ⟨s, hs, rfl⟩ := List.mem_map.1 hx
  have hs' := List.mem_reverse.1 hs
  exact ⟨(above_flat _ _).2 fun r hr => k4 _ (List.mem_map_of_mem hr) _ (List.mem_map_of_mem hs'), (above_flat _ _).2 fun r hr => k5 _ (List.mem_map_of_mem hr) _ (.inr (List.mem_map_of_mem hs'))⟩
theorem treeOk_eq (t : Tree) : treeOkI t = bU t := by
  rw [Bool.eq_iff_iff]
  by_cases h3 : t.levels.length = 3
  · obtain ⟨L0, L1, L2, hL⟩ : ∃ a b c, t.levels = [a, b, c] := by
      match hl : t.levels, h3 with
      | [a, b, c], _ => exact ⟨a, b, c, rfl⟩
    have v0 : lv t 0 = L0 := by unfold lv; rw [hL]; rfl
    have v1 : lv t 1 = L1 := by unfold lv; rw [hL]; rfl
    have v2 : lv t 2 = L2 := by unfold lv; rw [hL]; rfl
    have hp : cO t = t.mem :: (L0.reverse.map Run.ents ++ [dI L1, dI L2]) := by unfold cO; rw [hL]; rfl
    have hlay : layersI t.levels t.mem = (L2.map Run.ents ++ (L1.map Run.ents ++ L0.map Run.ents)) ++ [t.mem] := by unfold layersI; rw [hL]; simp
    have hlv : lvsOkI t.levels = true ↔ lvOkI L0 0 = true ∧ lvOkI L1 1 = true ∧ lvOkI L2 2 = true := by
      unfold lvsOkI; rw [all_iff, hL]
      constructor
      · intro h; exact ⟨h 0 (by simp), h 1 (by simp), h 2 (by simp)⟩
      rintro ⟨a, b, c⟩ i hi
      match i, hi with
      | 0, _ => exact a
      | 1, _ => exact b
      | 2, _ => exact c
    unfold treeOkI bU treeBadI treeBadS; rw [v0, v1, v2, hp, hlay]
    constructor
    · intro h; split at h
      · cases h
      rename_i hb
      split at h
      · cases h
      rename_i hb2
      split at h
      · cases h
      rename_i hb3
      have hb3' := hlv.1 (by simpa using hb3)
      obtain ⟨l0, l1, l2⟩ := hb3'
      obtain ⟨a0, b0, -⟩ := (lvOkI_iff _ _).1 l0
      obtain ⟨a1, b1, c1⟩ := (lvOkI_iff _ _).1 l1
      obtain ⟨a2, b2, c2⟩ := (lvOkI_iff _ _).1 l2
      obtain ⟨n1, n2⟩ := (newerI_iff _ _ _).1 h
      have hw : ∀ x, x ∈ (L2.map Run.ents ++ (L1.map Run.ents ++ L0.map Run.ents)) ++ [t.mem] → within x t.seq = true := fun x hx => (within_iff _ _).2 fun e he => (n1 x hx e he).1
      have hwm := hw t.mem (by simp)
      have w0 : ∀ r ∈ L0, within r.ents t.seq = true := fun r hr => hw _ (by simp; exact .inr (.inr (.inl ⟨r, hr, rfl⟩)))
      have w1 : ∀ r ∈ L1, within r.ents t.seq = true := fun r hr => hw _ (by simp; exact .inr (.inl ⟨r, hr, rfl⟩))
      have w2 : ∀ r ∈ L2, within r.ents t.seq = true := fun r hr => hw _ (by simp; exact .inl ⟨r, hr, rfl⟩)
      rw [if_neg (by simp only [hwm]; simp at hb hb2 ⊢; simp [hb2, h3]; omega)]
      simp only [Bool.and_eq_true]
      exact ⟨⟨⟨(runsRight_iff _ _ _ _).2 ⟨a0, fun r hr => ⟨b0 r hr, w0 r hr⟩, fun h => (by cases h)⟩, (runsRight_iff _ _ _ _).2 ⟨a1, fun r hr => ⟨b1 r hr, w1 r hr⟩, fun _ => c1 (by omega)⟩⟩, (runsRight_iff _ _ _ _).2 ⟨a2, fun r hr => ⟨b2 r hr, w2 r hr⟩, fun _ => c2 (by omega)⟩⟩, (agedS_iff _).2 ((aged_iff L0 L1 L2 t.mem (c1 (by omega)) b1 (c2 (by omega)) b2).2 n2)⟩
    intro h; split at h
    · cases h
    rename_i hb
    simp only [Bool.and_eq_true] at h
    obtain ⟨⟨⟨l0, l1⟩, l2⟩, ha⟩ := h
    obtain ⟨a0, b0, -⟩ := (runsRight_iff _ _ _ _).1 l0
    obtain ⟨a1, b1, c1⟩ := (runsRight_iff _ _ _ _).1 l1
    obtain ⟨a2, b2, c2⟩ := (runsRight_iff _ _ _ _).1 l2
    simp at hb
    have hm : inOrd t.mem = true := by simp [hb]
    have hs : snapsOk t.snaps t.seq = true := by simp [hb]
    have hwm : within t.mem t.seq = true := by simp [hb]
    rw [if_neg (by simp; omega), if_neg (by simp [hm, hs]), if_neg (by
      rw [Bool.not_eq_false]
      exact hlv.2 ⟨(lvOkI_iff _ _).2 ⟨a0, fun r hr => (b0 r hr).1, fun h => by omega⟩, (lvOkI_iff _ _).2 ⟨a1, fun r hr => (b1 r hr).1, fun _ => c1 rfl⟩, (lvOkI_iff _ _).2 ⟨a2, fun r hr => (b2 r hr).1, fun _ => c2 rfl⟩⟩)]
    refine (newerI_iff _ _ _).2 ⟨fun x hx e he => ?_, (aged_iff L0 L1 L2 t.mem (c1 rfl) (fun r hr => (b1 r hr).1) (c2 rfl) (fun r hr => (b2 r hr).1)).1 ((agedS_iff _).1 ha)⟩
    rw [mval_nil]
    simp only [List.mem_append, List.mem_map, List.mem_singleton] at hx
    rcases hx with (⟨r, hr, rfl⟩ | ⟨r, hr, rfl⟩ | ⟨r, hr, rfl⟩) | rfl
    · exact ⟨(within_iff _ _).1 (b2 r hr).2 e he, ok_seq (b2 r hr).1 he⟩
    · exact ⟨(within_iff _ _).1 (b1 r hr).2 e he, ok_seq (b1 r hr).1 he⟩
    · exact ⟨(within_iff _ _).1 (b0 r hr).2 e he, ok_seq (b0 r hr).1 he⟩
    exact ⟨(within_iff _ _).1 hwm e he, ord_seq hm he⟩
  · have h1 : treeOkI t = false := by
      unfold treeOkI treeBadI; rw [if_pos]; simp; omega
    have h2 : bU t = false := by
      unfold bU treeBadS; rw [if_pos]; simp; omega
    rw [h1, h2]
end
section
variable {n i f : Nat} {x y : Entry} {r s : List Entry}
theorem cmpS_flip (x y : ByteArray) : cmpS y x = - cmpS x y := by
  unfold cmpS
  by_cases h : Op.bytesLess x.toList y.toList = true
  · rw [if_pos h, if_pos h, bl_asymm h]; rfl
  rw [if_neg h, if_neg h]; split <;> rfl
theorem cmpI_flip (x y : Int) : cmpI y x = - cmpI x y := by
  unfold cmpI; repeat' split
  all_goals omega
theorem entCmp_flip (a b : Entry) : entCmp b a = - entCmp a b := by
  unfold entCmp; rw [cmpS_flip a.key b.key, cmpI_flip b.seq a.seq]
  repeat' split
  all_goals omega
theorem hless_eq {a b : List Entry × Nat} (ha : a.1 = x :: r) (hb : b.1 = y :: s) : Plain.hless entLt a b = (decide (entCmp x y < 0) || (!decide (0 < entCmp x y) && decide (a.2 < b.2))) := by
  unfold Plain.hless; rw [ha, hb]
  simp only
  rw [← entCmp_lt x y, ← entCmp_lt y x, entCmp_flip x y]
  congr 3
  exact decide_eq_decide.2 ⟨fun h => by omega, fun h => by omega⟩
theorem hless_cmp1 {a b : List Entry × Nat} (ha : a.1 = x :: r) (hb : b.1 = y :: s) (h : entCmp x y ≠ 0) : Plain.hless entLt a b = decide (entCmp x y < 0) := by
  rw [hless_eq ha hb]
  by_cases h1 : entCmp x y < 0
  · simp [h1]
  have : 0 < entCmp x y := by omega
  simp [h1, this]
theorem hless_cmp0 {a b : List Entry × Nat} (ha : a.1 = x :: r) (hb : b.1 = y :: s) (h : entCmp x y = 0) : Plain.hless entLt a b = decide ((a.2 : Int) < (b.2 : Int)) := by
  rw [hless_eq ha hb, h]
  simp
def hdA (p : List Entry × Nat) : AV := .agg [.sl 5 (p.1.map enA), .raw (.int .i64 (p.2 : Int))]
theorem headAV_b (U : Nat → Prop) (p : List Entry × Nat) : (hdA p).bel U := ⟨enB _ _, trivial, trivial⟩
theorem headAV_r (σ : Nat → Nat) (p : List Entry × Nat) : (hdA p).ren σ = hdA p := AV.ren_closed σ (headAV_b _ p)
attribute [go_sem] headAV_b headAV_r
abbrev aE (g : Nat → List Entry × Nat) (n : Nat) : AObj := .row 165 2 ((List.range n).map fun k => hdA (g k))
abbrev hcE : AObj := .cells 161 [.ref 1]
theorem rowH_bel (U : Nat → Prop) (g : Nat → List Entry × Nat) (n : Nat) : aC U ((List.range n).map fun k => hdA (g k)) := by
  rw [bLi]; intro x hx; obtain ⟨k, _, rfl⟩ := List.mem_map.1 hx; exact headAV_b U _
theorem rowH_ren (s : Nat → Nat) (g : Nat → List Entry × Nat) (n : Nat) : aA s ((List.range n).map fun k => hdA (g k)) = (List.range n).map fun k => hdA (g k) := cX s (rowH_bel _ g n)
attribute [go_sem] rowH_bel rowH_ren
theorem mH_Len : methodF P 167 "Len" = some (274, false) := by kernel_rfl
theorem mH_Less : methodF P 167 "Less" = some (275, false) := by kernel_rfl
theorem mH_Swap : methodF P 167 "Swap" = some (276, false) := by kernel_rfl
theorem mH_Pop : methodF P 167 "Pop" = some (277, true) := by kernel_rfl
theorem pH : ptrTo P 167 = some 161 := by kernel_rfl
theorem pH' : (ptrTo P 167).isSome = true := by rw [pH]; rfl
theorem uH : (P.underlying 167).isSome = true := by kernel_rfl
theorem vH : vI P 161 = some (1, false) := by kernel_rfl
theorem slH : bS P 161 = some (165, some (2, 32)) := by kernel_rfl
theorem cHead : Tryz.prog.concrete 165 = true := by kernel_rfl
theorem cHeads : Tryz.prog.concrete 167 = true := by kernel_rfl
noncomputable def headFs : Array Field := match P.underlying 165 with
  | some (.struct fs) => fs
  | _ => #[]
theorem uHead : P.underlying 165 = some (.struct headFs) := by kernel_rfl
theorem uPH : P.underlying 167 = some (.pointer 161) := by kernel_rfl
attribute [go_sem] cHead cHeads uPH
theorem same2 {H : Heap} {nx : Nat} {t e : TypeId} {cs xs : List AV} {sz : Nat} (h0 : Abs.get H 0 = some (.cells t (aA (shift (sg []) 2 nx 0) cs))) (h1 : Abs.get H 1 = some (.row e sz xs)) (hx : aA (shift (sg []) 2 nx 0) xs = xs) :
    ∀ m ob, Abs.get ([(0, AObj.cells t cs), (1, AObj.row e sz xs)].map fun p => (shift (sg []) 2 nx 0 p.1, p.2.ren (shift (sg []) 2 nx 0))) m = some ob → m ∈ ([(0, AObj.cells t cs), (1, AObj.row e sz xs)].map fun p => sg [] p.1) ∧ Abs.get H m = some ob := by
  intro m ob h
  simp only [List.map_cons, List.map_nil, AObj.ren, hx] at h
  have e0 : shift (sg []) 2 nx 0 0 = 0 := rfl
  have e1 : shift (sg []) 2 nx 0 1 = 1 := rfl
  rw [e0, e1] at h
  simp only [Abs.get] at h
  split at h
  · rename_i h2; subst h2
    cases h
    exact ⟨by simp [sg, Abs.get], h0⟩
  split at h
  · rename_i h2; subst h2
    cases h
    exact ⟨by simp [sg, Abs.get], h1⟩
  cases h
def NE (g : Nat → List Entry × Nat) (n : Nat) : Prop := ∀ k, k < n → (g k).1 ≠ []
theorem NE.swp {g : Nat → List Entry × Nat} {n i j : Nat} (h : NE g n) (hi : i < n) (hj : j < n) : NE (Plain.swpA g i j) n := fun k hk => by
  unfold Plain.swpA; split
  · exact h j hj
  split
  · exact h i hi
  exact h k hk
theorem row_swA (g : Nat → List Entry × Nat) (n : Nat) {p q : Nat} (hp : p < n) (hq : q < n) : (((List.range n).map fun k => hdA (g k)).set p (hdA (g q))).set q (hdA (g p)) = (List.range n).map fun k => hdA (Plain.swpA g p q k) := by
  refine List.ext_getElem? fun i => ?_
  rw [List.getElem?_set, List.getElem?_set, List.getElem?_map, List.getElem?_map]; simp only [List.length_set, List.length_map, List.length_range]
  by_cases hi : i < n
  · rw [List.getElem?_range hi]; unfold Plain.swpA; simp only [Option.map_some]
    by_cases h1 : i = q
    · subst h1; rw [if_pos rfl, if_pos hi]
      by_cases h2 : i = p
      · subst h2; simp
      rw [if_neg h2, if_pos rfl]
    rw [if_neg (fun e => h1 e.symm)]
    by_cases h2 : i = p
    · subst h2; rw [if_pos rfl, if_pos rfl, if_pos hp]
    rw [if_neg (fun e => h2 e.symm), if_neg h2, if_neg h1]
  rw [List.getElem?_eq_none (by simp; omega)]; rw [if_neg (by omega), if_neg (by omega)]; rfl
theorem down_stop {g : Nat → List Entry × Nat} (h : ¬ (2 * i + 1 < n ∧ Plain.hless entLt (g (Plain.kid (Plain.hless entLt) g n i)) (g i) = true)) : Plain.downGo (Plain.hless entLt) n f g i = (g, i) := by
  cases f with
  | zero => rfl
  | succ f =>
    unfold Plain.downGo; split
    · rename_i h1
      rw [if_neg fun h2 => h ⟨h1, h2⟩]
    rfl
theorem down_step {g : Nat → List Entry × Nat} (h1 : 2 * i + 1 < n) (h2 : Plain.hless entLt (g (Plain.kid (Plain.hless entLt) g n i)) (g i) = true) : Plain.downGo (Plain.hless entLt) n (f + 1) g i = Plain.downGo (Plain.hless entLt) n f (Plain.swpA g i (Plain.kid (Plain.hless entLt) g n i)) (Plain.kid (Plain.hless entLt) g n i) := by
  rw [Plain.downGo, if_pos h1, if_pos h2]
theorem kid_le (g : Nat → List Entry × Nat) (h1 : 2 * i + 1 < n) : i < Plain.kid (Plain.hless entLt) g n i ∧ Plain.kid (Plain.hless entLt) g n i < n := by
  unfold Plain.kid; split <;> omega
theorem down_NE {n : Nat} : ∀ (f : Nat) (g : Nat → List Entry × Nat) (i : Nat), NE g n → NE (Plain.downGo (Plain.hless entLt) n f g i).1 n
  | 0, g, i, h => h
  | f + 1, g, i, h => by
    unfold Plain.downGo; split
    · rename_i h1
      have := kid_le g h1
      split
      · exact down_NE f _ _ (h.swp (by omega) (by omega))
      exact h
    exact h
theorem down_same {n : Nat} : ∀ (f : Nat) (g : Nat → List Entry × Nat) (i : Nat), Plain.SameA n g (Plain.downGo (Plain.hless entLt) n f g i).1
  | 0, g, i => .refl _ _
  | f + 1, g, i => by
    unfold Plain.downGo; split
    · rename_i h1
      have := kid_le g h1
      split
      · exact (Plain.SameA.swp g (by omega) (by omega)).trans (down_same f _ _)
      exact .refl _ _
    exact .refl _ _
theorem init_NE {n : Nat} : ∀ (i : Nat) (g : Nat → List Entry × Nat), NE g n → NE (Plain.initGo (Plain.hless entLt) n i g) n
  | 0, g, h => h
  | i + 1, g, h => init_NE i _ (down_NE _ _ _ h)
theorem init_same {n : Nat} : ∀ (i : Nat) (g : Nat → List Entry × Nat), Plain.SameA n g (Plain.initGo (Plain.hless entLt) n i g)
  | 0, g => .refl _ _
  | i + 1, g => (down_same _ _ _).trans (init_same i _)
theorem swpA_eq (g : Nat → List Entry × Nat) (i : Nat) : Plain.swpA g i i = g := by
  funext k
  unfold Plain.swpA; split
  · rename_i h; rw [h]
  rfl
theorem init_step {g : Nat → List Entry × Nat} : Plain.initGo (Plain.hless entLt) n (i + 1) g = Plain.initGo (Plain.hless entLt) n i (Plain.downGo (Plain.hless entLt) n n g i).1 := rfl
theorem w_impl_heads_Len (g : Nat → List Entry × Nat) (N : Nat) (hN : N ≤ 1048576)  : aD P 274 [.ref 1] [(0, hcE), (1, aE g N)] 2 (.raw (.int .i64 (N : Int))) [(0, hcE), (1, aE (g) N)] 2 := by
 refine gw (N := 5) (vs := [.tmp 2]) ⟨Tryz.func274, rfl, rfl⟩ rfl rfl (by simp) ?_
 simp only [eE, aE, hcE]; refine sr rfl fun _ J => ?_; simp only [go_sem]; apply J; refine sr rfl fun _ k2 => ?_; simp only [go_sem, List.length_map, List.length_range]; apply k2; refine wR ?_; refine ⟨[], ?_⟩
 simp only [go_sem, AObj.bel, AObj.ren, AV.ren, aA, sg] <;> simp
theorem w_impl_heads_Less (g : Nat → List Entry × Nat) (N : Nat) (hN : N ≤ 1048576) (i j : Nat) (hi : i < N) (hj : j < N) (xi : (g i).1 ≠ []) (xj : (g j).1 ≠ []) : aD P 275 [.ref 1, .raw (.int .i64 (i : Int)), .raw (.int .i64 (j : Int))] [(0, hcE), (1, aE g N)] 2 (.raw (.bool (Plain.hless entLt (g i) (g j)))) [(0, hcE), (1, aE (g) N)] 2 := by
 refine gw (N := 36) (vs := [.tmp 6]) ⟨Tryz.func275, rfl, rfl⟩ rfl rfl (by simp) ?_
 simp only [eE, aE, hcE]
 obtain ⟨x, r, hx⟩ := List.exists_cons_of_ne_nil xi
 obtain ⟨y, s, hy⟩ := List.exists_cons_of_ne_nil xj
 have hr1 : (List.range N)[i]? = some (i) := List.getElem?_range (by omega)
 have hr2 : (List.range N)[j]? = some (j) := List.getElem?_range (by omega)
 refine sr rfl fun _ J => ?_; simp only [go_sem]; apply J; refine sd mixed rfl fun _ k2 => ?_; simp only [go_sem, hr1, hr2, hdA, hx, hy, List.length_map, List.length_range]
 repeat (first | refine ⟨by first | omega | (intro hg; simp at hg; omega), ?_⟩ | fail)
 refine ⟨by rfl, ?_⟩; apply k2; refine sq fun _ k3 => ?_; refine sd mixed rfl fun _ k4 => ?_; simp only [go_sem, enA, Int.toNat_zero, List.getElem?_cons_zero, List.map_cons, List.length_cons]
 repeat (first | refine ⟨by first | omega | (intro hg; simp at hg; omega), ?_⟩ | fail)
 refine tp rfl rfl rfl ⟨Tryz.func141, rfl, rfl⟩ (w_impl_entryOrder x y) (by simp only [go_sem, enA]) (by exact ⟨entAV_b _ _, entAV_b _ _, trivial⟩) ?_
 simp only [go_sem]
 repeat (first | refine ⟨by first | omega | (intro hg; simp at hg; omega), ?_⟩ | fail)
 refine ⟨by rfl, ?_⟩; apply k4; refine sr rfl fun _ J => ?_; simp only [go_sem]; apply J
 refine cd rfl (fun hc1 => ?_) fun hc1 => ?_
 · refine sr rfl fun _ J => ?_; simp only [go_sem]; apply J; refine wR ?_; rw [hless_cmp1 hx hy (by simpa using hc1)]; refine ⟨[], ?_⟩
   simp only [go_sem, AObj.bel, AObj.ren, AV.ren, aA, sg, aE, hcE] <;> first | (simp; done) | (simp [hdA]; done)
 refine wk ?_; apply k3; refine sr rfl fun _ J => ?_; simp only [go_sem]; apply J; refine wR ?_; rw [hless_cmp0 hx hy (by simpa using hc1)]; refine ⟨[], ?_⟩
 simp only [go_sem, AObj.bel, AObj.ren, AV.ren, aA, sg, aE, hcE] <;> first | (simp; done) | (simp [hdA]; done)
theorem w_swap_eq (g : Nat → List Entry × Nat) (N : Nat) (hN : N ≤ 1048576) (i : Nat) (hi : i < N) : aD P 276 [.ref 1, .raw (.int .i64 (i : Int)), .raw (.int .i64 (i : Int))] [(0, hcE), (1, aE g N)] 2 (.tup []) [(0, hcE), (1, aE (g) N)] 2 := by
 refine gw (N := 20) (vs := []) ⟨Tryz.func276, rfl, rfl⟩ rfl rfl (by simp) ?_
 simp only [eE, aE, hcE]
 have hr1 : (List.range N)[i]? = some (i) := List.getElem?_range (by omega)
 have hrow : (((List.range N).map fun k => (.agg [.sl 5 ((g k).1.map enA), .raw (.int .i64 (((g k).2 : Nat) : Int))])).set i (.agg [.sl 5 ((g i).1.map enA), .raw (.int .i64 (((g i).2 : Nat) : Int))])).set i (.agg [.sl 5 ((g i).1.map enA), .raw (.int .i64 (((g i).2 : Nat) : Int))]) = (List.range N).map fun k => hdA (g k) := by
   have h9 := row_swA g N hi hi
   rw [swpA_eq] at h9; exact h9
 have hs1 : ∀ (y : AV), (((List.range N).map fun k => (.agg [.sl 5 ((g k).1.map enA), .raw (.int .i64 (((g k).2 : Nat) : Int))])).set i y)[i]? = some y := fun y => by rw [List.getElem?_set_self]; simpa using hi
 refine awp_draw mixed rfl ?_
 simp only [go_sem, hr1, hs1, hdA, List.length_set, List.length_map, List.length_range]
 repeat (first | refine ⟨by first | omega | (intro hg; simp at hg; omega), ?_⟩ | fail)
 rw [hrow]; refine ⟨by rfl, ?_⟩; refine ⟨[], ?_⟩
 simp only [go_sem, AObj.bel, AObj.ren, AV.ren, aA, sg, aE, hcE] <;> simp
 exact ⟨fun _ _ => rfl, rowH_bel _ g _⟩
theorem w_impl_heads_Swap (g : Nat → List Entry × Nat) (N : Nat) (hN : N ≤ 1048576) (i j : Nat) (hi : i < N) (hj : j < N) (hij : i ≠ j) : aD P 276 [.ref 1, .raw (.int .i64 (i : Int)), .raw (.int .i64 (j : Int))] [(0, hcE), (1, aE g N)] 2 (.tup []) [(0, hcE), (1, aE (Plain.swpA g i j) N)] 2 := by
 refine gw (N := 20) (vs := []) ⟨Tryz.func276, rfl, rfl⟩ rfl rfl (by simp) ?_
 simp only [eE, aE, hcE]
 have hr1 : (List.range N)[i]? = some (i) := List.getElem?_range (by omega)
 have hr2 : (List.range N)[j]? = some (j) := List.getElem?_range (by omega)
 have hrow : (((List.range N).map fun k => (.agg [.sl 5 ((g k).1.map enA), .raw (.int .i64 (((g k).2 : Nat) : Int))])).set i (.agg [.sl 5 ((g j).1.map enA), .raw (.int .i64 (((g j).2 : Nat) : Int))])).set j (.agg [.sl 5 ((g i).1.map enA), .raw (.int .i64 (((g i).2 : Nat) : Int))]) = (List.range N).map fun k => hdA (Plain.swpA g i j k) := row_swA g N hi hj
 have hs1 : ∀ (y : AV), (((List.range N).map fun k => (.agg [.sl 5 ((g k).1.map enA), .raw (.int .i64 (((g k).2 : Nat) : Int))])).set i y)[j]? = ((List.range N).map fun k => (.agg [.sl 5 ((g k).1.map enA), .raw (.int .i64 (((g k).2 : Nat) : Int))]))[j]? := fun y => set_ne (by omega) y
 refine awp_draw mixed rfl ?_
 simp only [go_sem, hr1, hr2, hs1, hdA, List.length_set, List.length_map, List.length_range]
 repeat (first | refine ⟨by first | omega | (intro hg; simp at hg; omega), ?_⟩ | fail)
 rw [hrow]; refine ⟨by rfl, ?_⟩; refine ⟨[], ?_⟩
 simp only [go_sem, AObj.bel, AObj.ren, AV.ren, aA, sg, aE, hcE] <;> simp
 exact ⟨fun _ _ => rfl, rowH_bel _ (Plain.swpA g i j) _⟩
theorem w_impl_heads_Pop (g : Nat → List Entry × Nat) (N : Nat) (hN : N ≤ 1048576) (hp : 0 < N) : aD P 277 [.ptr 0 0] [(0, hcE), (1, aE g N)] 2 (.iface 165 (hdA (g (N - 1)))) [(0, .cells 161 [.ref 2]), (1, .dead), (2, aE g (N - 1))] 3 := by
 refine gw (N := 23) (vs := [.tmp 2]) ⟨Tryz.func277, rfl, rfl⟩ rfl rfl (by simp) ?_
 simp only [eE, aE, hcE]
 have hr1 : (List.range N)[N - 1]? = some (N - 1) := List.getElem?_range (by omega)
 have hw : IntKind.i64.wrap ((N : Int) - 1) = ((N - 1 : Nat) : Int) := by rw [IntKind.wrap_i64]; omega
 have hrow : ((List.range N).map fun k => (.agg [.sl 5 ((g k).1.map enA), .raw (.int .i64 (((g k).2 : Nat) : Int))])).take (((N - 1 : Nat) : Int).toNat) = (List.range (N - 1)).map fun k => hdA (g k) := by rw [Int.toNat_natCast, ← List.map_take, List.take_range, Nat.min_eq_left (by omega)]; rfl
 have hrow2 : ((List.range N).map fun k => (.agg [.sl 5 ((g k).1.map enA), .raw (.int .i64 (((g k).2 : Nat) : Int))])).take (N - 1) = (List.range (N - 1)).map fun k => hdA (g k) := hrow
 refine sr rfl fun _ J => ?_; simp only [go_sem]; apply J; refine sr rfl fun _ k2 => ?_; simp only [go_sem]; apply k2; refine sr rfl fun _ k3 => ?_; simp only [go_sem, hw, hr1, hdA, List.length_map, List.length_range]
 repeat (first | refine ⟨by first | omega | (intro hg; simp at hg; omega), ?_⟩ | fail)
 apply k3; refine sr rfl fun _ k4 => ?_; simp only [go_sem, hw, hrow, hrow2, List.length_map, List.length_range]
 repeat (first | refine ⟨by first | omega | (intro hg; simp at hg; omega), ?_⟩ | fail)
 refine vC (fun hN => lstep_cut (h := ((N - 1 : Nat) : Int)) rfl rfl hN slH rfl rfl rfl (by omega) (by simp)) (.inr (by decide)) ?_
 simp only [go_sem, hrow, hrow2, hw, hrow, hrow2, List.length_map, List.length_range]
 repeat (first | refine ⟨by first | omega | (intro hg; simp at hg; omega), ?_⟩ | fail)
 apply k4; refine sr rfl fun _ J => ?_; simp only [go_sem, uHead]; apply J; refine wR ?_
 refine ⟨[(2, 3)], ?_⟩
 simp only [go_sem, AObj.bel, AObj.ren, AV.ren, aA, sg, aE, hcE] <;> first | (simp; done) | (simp [hdA]; done)
theorem w_container_heap_down (g : Nat → List Entry × Nat) (N : Nat) (hN : N ≤ 1048576) (i n : Nat) (hne : NE g n) (hi : i ≤ 1048576) (hn : n ≤ N) : aD P 191 [.iface 167 (.ptr 0 0), .raw (.int .i64 (i : Int)), .raw (.int .i64 (n : Int))] [(0, hcE), (1, aE g N)] 2 (.raw (.bool (decide ((i : Int) < ((Plain.downGo (Plain.hless entLt) n n g i).2 : Int))))) [(0, hcE), (1, aE ((Plain.downGo (Plain.hless entLt) n n g i).1) N)] 2 := by
 refine gw (N := 48) (vs := [.tmp 6]) ⟨Tryz.func191, rfl, rfl⟩ rfl rfl (by simp) ?_
 simp only [eE, aE, hcE]; refine sr rfl fun _ J => ?_; simp only [go_sem]; apply J; refine sr rfl fun _ k2 => ?_; simp only [go_sem]; apply k2; refine sq fun _ k3 => ?_; refine wb ?_
 refine wl (α := Nat × (Nat → List Entry × Nat) × Nat) (fun x => NE x.2.1 n ∧ x.2.2 ≤ 1048576 ∧ n ≤ x.1 + x.2.2 ∧ Plain.downGo (Plain.hless entLt) n x.1 x.2.1 x.2.2 = Plain.downGo (Plain.hless entLt) n n g i) (fun x => n - x.2.2) (fun x => ([(0, .iface 167 (.ptr 0 0)), (1, .raw (.int .i64 (i : Int))), (2, .raw (.int .i64 (n : Int))), (7, .raw (.int .i64 (x.2.2 : Int)))], [(0, hcE), (1, aE x.2.1 N)])) 2 (n, g, i) ⟨hne, hi, Nat.le_add_right _ _, rfl⟩ [] ?_ ?_
 · simp only [go_sem, AObj.bel, AObj.ren, AV.ren, aA, sg, Int.natCast_zero, aE, hcE] <;> first | (simp; done) | (simp [hdA]; done)
 rintro ⟨f, τ, j⟩ ⟨hne2, hj, hf, hgo⟩
 simp only at hne2 hj hf hgo ⊢
 have hw2 : IntKind.i64.wrap (2 * (j : Int)) = ((2 * j : Nat) : Int) := by rw [IntKind.wrap_i64]; omega
 have hw3 : IntKind.i64.wrap (((2 * j : Nat) : Int) + 1) = ((2 * j + 1 : Nat) : Int) := by rw [IntKind.wrap_i64]; omega
 have hw4 : IntKind.i64.wrap (((2 * j + 1 : Nat) : Int) + 1) = ((2 * j + 2 : Nat) : Int) := by rw [IntKind.wrap_i64]; omega
 refine wb ?_; refine sr rfl fun _ J => ?_; simp only [go_sem, hw2, hw3]; apply J; refine sq fun _ k5 => ?_; refine sr rfl fun _ J => ?_; simp only [go_sem]; apply J
 refine cd rfl (fun hc1 => ?_) fun hc1 => ?_
 · have hge : ¬ 2 * j + 1 < n := by simp at hc1; omega
   have hfin : Plain.downGo (Plain.hless entLt) n f τ j = (τ, j) := down_stop fun h => hge h.1
   refine we ?_; try simp only [go_sem, lQ]
   apply k3; refine sr rfl fun _ J => ?_; simp only [go_sem]; apply J; refine wR ?_; rw [← hgo, hfin]; refine ⟨[], ?_⟩
   simp only [go_sem, AObj.bel, AObj.ren, AV.ren, aA, sg, aE, hcE] <;> first | (simp; done) | (simp [hdA]; done)
 have hlt : 2 * j + 1 < n := by simp at hc1; omega
 obtain ⟨hk1, hk2⟩ := kid_le τ hlt
 refine wk ?_; apply k5; refine sr rfl fun _ J => ?_; simp only [go_sem]; apply J
 refine awp_mid (α := Unit) (fun x => True) (fun x => ([(0, .iface 167 (.ptr 0 0)), (1, .raw (.int .i64 (i : Int))), (2, .raw (.int .i64 (n : Int))), (7, .raw (.int .i64 (j : Int))), (9, .raw (.int .i64 (Plain.kid (Plain.hless entLt) τ n j : Int)))], [(0, hcE), (1, aE τ N)])) 2 ?_ ?_
 · refine sr rfl fun _ J => ?_; simp only [go_sem, hw4]; apply J; refine sr rfl fun _ k11 => ?_; simp only [go_sem]
   refine vig [] (xs := [.raw (.int .i64 ((2 * j + 2 : Nat) : Int)), .raw (.int .i64 ((2 * j + 1 : Nat) : Int))]) rfl rfl rfl rfl rfl rfl (fun _ => rfl) mH_Less pH vH ⟨Tryz.func275, rfl, rfl⟩ (fun hg => w_impl_heads_Less τ N hN (2 * j + 2) (2 * j + 1) (by simp at hg; omega) (by omega) (hne2 _ (by simp at hg; omega)) (hne2 _ (by omega))) (by simp [sg, Abs.get]) rfl rfl (by simp only [go_sem]) (fun hg => rfl) rfl (by simp only [go_sem]) (fit2 (.inl rfl) (by simp only [go_sem, aE, hcE]) (by simp only [go_sem, aE, hcE]) (by simp only [go_sem, AObj.bel, aE, hcE]) (by simp only [go_sem, AObj.bel, aE, hcE]) (by simp) ⟨rfl, rfl⟩ (by decide)) (same2 rfl rfl (rowH_ren _ _ _)) trivial ?_
   simp only [go_sem, AV.ren, AObj.ren, aA, shift, sg, Nat.le_refl, Nat.add_zero, Nat.sub_self, aE, hcE]; apply k11
   refine cd rfl (fun hc2 => ?_) fun hc2 => ?_
   · have q1 : Plain.kid (Plain.hless entLt) τ n j = 2 * j + 2 := by unfold Plain.kid; rw [if_pos]; simp at hc2; exact ⟨by omega, hc2.2⟩
     refine wg rfl ?_; simp only [go_sem]; try simp only [midQ]
     refine ⟨(), trivial, [], ?_⟩
     simp only [go_sem, AObj.bel, AObj.ren, AV.ren, aA, sg, Int.natCast_zero, aE, hcE] <;> first | (simp [q1]; done) | (simp [hdA, q1]; done)
   have q1 : Plain.kid (Plain.hless entLt) τ n j = 2 * j + 1 := by unfold Plain.kid; rw [if_neg]; intro h; simp at hc2; have := hc2 (by omega); rw [this] at h; cases h.2
   refine wk ?_; try simp only [midQ]
   refine ⟨(), trivial, [], ?_⟩
   simp only [go_sem, AObj.bel, AObj.ren, AV.ren, aA, sg, Int.natCast_zero, aE, hcE] <;> first | (simp [q1]; done) | (simp [hdA, q1]; done)
 rintro ⟨⟩ -
 refine sq fun _ k12 => ?_; refine sr rfl fun _ k13 => ?_; simp only [go_sem]
 refine vi [] 0 (xs := [.raw (.int .i64 (Plain.kid (Plain.hless entLt) τ n j : Int)), .raw (.int .i64 (j : Int))]) rfl rfl rfl rfl mH_Less pH vH ⟨Tryz.func275, rfl, rfl⟩ (w_impl_heads_Less τ N hN (Plain.kid (Plain.hless entLt) τ n j) j (by omega) (by omega) (hne2 _ (by omega)) (hne2 _ (by omega))) rfl (by simp [sg, Abs.get]) rfl rfl rfl rfl (by simp only [go_sem]) (fit2 (.inl rfl) (by simp only [go_sem, aE, hcE]) (by simp only [go_sem, aE, hcE]) (by simp only [go_sem, AObj.bel, aE, hcE]) (by simp only [go_sem, AObj.bel, aE, hcE]) (by simp) ⟨rfl, rfl⟩ (by decide)) (.inl rfl) ?_
 simp only [go_sem, AV.ren, AObj.ren, aA, shift, sg, Nat.le_refl, Nat.add_zero, Nat.sub_self, aE, hcE]; apply k13
 refine cd rfl (fun hc3 => ?_) fun hc3 => ?_
 · have hfin : Plain.downGo (Plain.hless entLt) n f τ j = (τ, j) := down_stop fun h => by rw [h.2] at hc3; simp at hc3
   refine we ?_; try simp only [go_sem, lQ]
   apply k3; refine sr rfl fun _ J => ?_; simp only [go_sem]; apply J; refine wR ?_; rw [← hgo, hfin]; refine ⟨[], ?_⟩
   simp only [go_sem, AObj.bel, AObj.ren, AV.ren, aA, sg, aE, hcE] <;> first | (simp; done) | (simp [hdA]; done)
 have hless : Plain.hless entLt (τ (Plain.kid (Plain.hless entLt) τ n j)) (τ j) = true := by simpa using hc3
 obtain ⟨f', rfl⟩ : ∃ f', f = f' + 1 := ⟨f - 1, by omega⟩
 refine wk ?_; apply k12; refine sr rfl fun _ k15 => ?_; simp only [go_sem]
 refine vi [] 0 (xs := [.raw (.int .i64 (j : Int)), .raw (.int .i64 (Plain.kid (Plain.hless entLt) τ n j : Int))]) rfl rfl rfl rfl mH_Swap pH vH ⟨Tryz.func276, rfl, rfl⟩ (w_impl_heads_Swap τ N hN j (Plain.kid (Plain.hless entLt) τ n j) (by omega) (by omega) (by omega)) rfl (by simp [sg, Abs.get]) rfl rfl rfl rfl (by simp only [go_sem]) (fit2 (.inl rfl) (by simp only [go_sem, aE, hcE]) (by simp only [go_sem, aE, hcE]) (by simp only [go_sem, AObj.bel, aE, hcE]) (by simp only [go_sem, AObj.bel, aE, hcE]) (by simp) ⟨rfl, rfl⟩ (by decide)) (.inl rfl) ?_
 simp only [go_sem, AV.ren, AObj.ren, aA, shift, sg, Nat.le_refl, Nat.add_zero, Nat.sub_self, aE, hcE]; apply k15; refine wg rfl ?_; simp only [go_sem]; try simp only [go_sem, lQ]
 try simp only [go_sem, lQ]
 refine ⟨(f', Plain.swpA τ j (Plain.kid (Plain.hless entLt) τ n j), Plain.kid (Plain.hless entLt) τ n j), ⟨hne2.swp (by omega) (by omega), by simp only; omega, by simp only; omega, by simp only; rw [down_step hlt hless] at hgo; exact hgo⟩, by simp only; omega, [], ?_⟩
 simp only [go_sem, AObj.bel, AObj.ren, AV.ren, aA, sg, Int.natCast_zero, aE, hcE] <;> first | (simp; done) | (simp [hdA]; done)
theorem w_container_heap_up (g : Nat → List Entry × Nat) (N : Nat) (hN : N ≤ 1048576)  : aD P 192 [.iface 167 (.ptr 0 0), .raw (.int .i64 (0 : Int))] [(0, hcE), (1, aE g N)] 2 (.tup []) [(0, hcE), (1, aE (g) N)] 2 := by
 refine gw (N := 23) (vs := []) ⟨Tryz.func192, rfl, rfl⟩ rfl rfl (by simp) ?_
 simp only [eE, aE, hcE]; refine wb ?_
 refine wl (α := Nat) (fun x => True) (fun x => 0) (fun x => ([(0, .iface 167 (.ptr 0 0)), (1, .raw (.int .i64 (0 : Int)))], [(0, hcE), (1, aE g N)])) 2 0 trivial [] ?_ ?_
 · simp only [go_sem, AObj.bel, AObj.ren, AV.ren, aA, sg, Int.natCast_zero, aE, hcE] <;> first | (simp; done) | (simp [hdA]; done)
 rintro u -
 refine wb ?_
 have hq : IntKind.i64.wrap ((IntKind.i64.wrap (0 - 1)).tdiv 2) = 0 := by decide
 refine sr rfl fun _ k1 => ?_; simp only [go_sem, hq]
 repeat (first | refine ⟨by first | omega | (intro hg; simp at hg; omega), ?_⟩ | fail)
 apply k1; refine sq fun _ k2 => ?_; refine sr rfl fun _ k3 => ?_; simp only [go_sem]
 refine vC (fun hN => lstep_guard (rt := []) (rd := []) (val := .raw (.bool false)) hN rfl rfl rfl rfl trivial (fun hg => absurd hg (by simp)) (by trivial)) (.inl rfl) ?_
 simp only [go_sem]; apply k3
 refine cd rfl (fun hc1 => ?_) (fun hc => by simp at hc)
 refine we ?_; try simp only [go_sem, lQ]
 refine ⟨[], ?_⟩
 simp only [go_sem, AObj.bel, AObj.ren, AV.ren, aA, sg] <;> simp
theorem w_container_heap_Init (g : Nat → List Entry × Nat) (N : Nat) (hN : N ≤ 1048576) (hne : NE g N) : aD P 142 [.iface 167 (.ptr 0 0)] [(0, hcE), (1, aE g N)] 2 (.tup []) [(0, hcE), (1, aE (Plain.initGo (Plain.hless entLt) N (N / 2) g) N)] 2 := by
 refine gw (N := 17) (vs := []) ⟨Tryz.func142, rfl, rfl⟩ rfl rfl (by simp) ?_
 simp only [eE, aE, hcE]; refine sr rfl fun _ k1 => ?_; simp only [go_sem]
 refine vi [] 0 (xs := []) rfl rfl rfl rfl mH_Len pH vH ⟨Tryz.func274, rfl, rfl⟩ (w_impl_heads_Len g N hN) rfl (by simp [sg, Abs.get]) rfl rfl rfl rfl (by simp only [go_sem]) (fit2 (.inl rfl) (by simp only [go_sem, aE, hcE]) (by simp only [go_sem, aE, hcE]) (by simp only [go_sem, AObj.bel, aE, hcE]) (by simp only [go_sem, AObj.bel, aE, hcE]) (by simp) ⟨rfl, rfl⟩ (by decide)) (.inl rfl) ?_
 simp only [go_sem, AV.ren, AObj.ren, aA, shift, sg, Nat.le_refl, Nat.add_zero, Nat.sub_self, aE, hcE]; apply k1
 have hq : IntKind.i64.wrap (Int.tdiv (N : Int) 2) = ((N / 2 : Nat) : Int) := by rw [Int.tdiv_eq_ediv_of_nonneg (by omega), IntKind.wrap_i64]; omega
 have hw1 : IntKind.i64.wrap (((N / 2 : Nat) : Int) - 1) = ((N / 2 : Nat) : Int) - 1 := by rw [IntKind.wrap_i64]; omega
 refine sr rfl fun _ k2 => ?_; simp only [go_sem, hq, hw1]
 repeat (first | refine ⟨by first | omega | (intro hg; simp at hg; omega), ?_⟩ | fail)
 apply k2; refine wb ?_
 refine wl (α := (Nat → List Entry × Nat) × Nat) (fun x => NE x.1 N ∧ x.2 ≤ 1048576 ∧ Plain.initGo (Plain.hless entLt) N x.2 x.1 = Plain.initGo (Plain.hless entLt) N (N / 2) g) (fun x => x.2) (fun x => ([(0, .iface 167 (.ptr 0 0)), (2, .raw (.int .i64 (N : Int))), (3, .raw (.int .i64 ((x.2 : Int) - 1)))], [(0, hcE), (1, aE x.1 N)])) 2 (g, N / 2) ⟨hne, by simp only; omega, rfl⟩ [] ?_ ?_
 · simp only [go_sem, AObj.bel, AObj.ren, AV.ren, aA, sg, Int.natCast_zero, aE, hcE] <;> first | (simp; done) | (simp [hdA]; done)
 rintro ⟨τ, j⟩ ⟨hne2, hj, hgo⟩
 simp only at hne2 hj hgo ⊢
 refine sq fun _ k3 => ?_; refine sr rfl fun _ J => ?_; simp only [go_sem]; apply J
 refine cd rfl (fun hc1 => ?_) fun hc1 => ?_
 · obtain ⟨j', rfl⟩ : ∃ j', j = j' + 1 := ⟨j - 1, by simp at hc1; omega⟩
   have hjj : ((j' + 1 : Nat) : Int) - 1 = (j' : Int) := by omega
   rw [hjj]
   have hw3 : IntKind.i64.wrap ((j' : Int) - 1) = (j' : Int) - 1 := by rw [IntKind.wrap_i64]; omega
   refine wk ?_; apply k3; refine sq fun _ k5 => ?_; refine wb ?_; refine wg rfl ?_; simp only [go_sem]
   refine vg [] 0 rfl rfl rfl ⟨Tryz.func191, rfl, rfl⟩ (w_container_heap_down τ N hN j' N hne2 (by omega) (Nat.le_refl _)) rfl (by simp only [go_sem]) (by simp only [go_sem]) (fit2 (.inl rfl) (by simp only [go_sem, aE, hcE]) (by simp only [go_sem, aE, hcE]) (by simp only [go_sem, AObj.bel, aE, hcE]) (by simp only [go_sem, AObj.bel, aE, hcE]) (by simp) ⟨rfl, rfl⟩ (by decide)) (.inl rfl) ?_
   simp only [go_sem, AV.ren, AObj.ren, aA, shift, sg, Nat.le_refl, Nat.add_zero, Nat.sub_self, aE, hcE]; try simp only [go_sem, lQ]
   apply k5; refine wg rfl ?_; simp only [go_sem, hw3]; try simp only [go_sem, lQ]
   refine ⟨((Plain.downGo (Plain.hless entLt) N N τ j').1, j'), ⟨down_NE _ _ _ hne2, by simp only; omega, by simp only; rw [init_step] at hgo; exact hgo⟩, by simp only; omega, [], ?_⟩
   simp only [go_sem, AObj.bel, AObj.ren, AV.ren, aA, sg, Int.natCast_zero, aE, hcE] <;> first | (simp; done) | (simp [hdA]; done)
 have hj0 : j = 0 := by simp at hc1; omega
 subst hj0; refine we ?_; try simp only [go_sem, lQ]
 rw [← hgo]; rw [Plain.initGo]; refine ⟨[], ?_⟩
 simp only [go_sem, AObj.bel, AObj.ren, AV.ren, aA, sg, aE, hcE] <;> first | (simp; done) | (simp [hdA]; done)
end
end Go.Proofs.S
end
