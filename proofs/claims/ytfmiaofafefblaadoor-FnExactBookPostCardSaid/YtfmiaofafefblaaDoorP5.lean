/-
  The abstract layer and the walks that the claim leans on, part 5 of 6 (merged out of the working texts C11, C12, C13, C14, C15, C16, C17, C18, C19). It proves lemmas alone; no condition of its own.
-/
import Derived.Test.YtfmiaofafefblaaDoorP4
set_option linter.all false

/- C11 -/
section
set_option linter.unusedVariables false
set_option linter.unusedSimpArgs false
open Go Go.Abs Go.Proofs
namespace Go.Proofs.T
set_option maxRecDepth 20000
attribute [local go_sem] legAV_bel legAV_ren postAV_bel postAV_ren legAV_elem postOwn_bel postOwn_ren
theorem w96 (s : ByteArray) (hs : s.size ≤ 1048576) : Pure P 96 [.raw (.string s)] [] 0 (.raw (.bool (acctOk s))) := by  -- "loop.example/comptoir/spec.AcctOk"
  refine pure_of_awp (fn := Tryd.f96) (N := 28) (vs := [.tmp 2]) ⟨Tryd.func96, rfl, rfl⟩ rfl rfl (by simp) ?_
  simp only [enumE]
  refine awp_seq_k fun K1 hK1 => ?_
  refine awp_region rfl ?_  -- region 0
  simp only [go_sem, vcSeq, Nat.reduceAdd, Nat.reduceMul, Nat.reduceSub, Nat.reduceLeDiff, Nat.reduceEqDiff, Nat.reduceLT]
  apply hK1; clear hK1 K1
  refine awp_seq_k fun K2 hK2 => ?_
  refine awp_seq_k fun K3 hK3 => ?_
  refine awp_region rfl ?_  -- region 1
  simp only [go_sem, vcSeq, Nat.reduceAdd, Nat.reduceMul, Nat.reduceSub, Nat.reduceLeDiff, Nat.reduceEqDiff, Nat.reduceLT]
  apply hK3; clear hK3 K3
  refine awp_block ?_  -- block 0
  refine awp_loop_c (α := Nat) (fun x => x ≤ s.size ∧ ∀ j, j < x → byteOk s j = true) (fun x => s.size - x) (fun x => ([(3, .raw (.int .i64 (x : Int))), (0, .raw (.string s))], [])) 0 0 ⟨Nat.zero_le _, fun j hj => by omega⟩ [] ?_ ?_
  · simp only [go_sem, Int.natCast_zero, Nat.reduceAdd, Nat.reduceMul, Nat.reduceSub, Nat.reduceLeDiff, Nat.reduceEqDiff, Nat.reduceLT] <;> simp
  rintro i ⟨hi, hall⟩
  skip
  refine awp_seq_k fun K4 hK4 => ?_
  refine awp_seq_k fun K5 hK5 => ?_
  refine awp_region rfl ?_  -- region 2
  simp only [go_sem, vcSeq, Nat.reduceAdd, Nat.reduceMul, Nat.reduceSub, Nat.reduceLeDiff, Nat.reduceEqDiff, Nat.reduceLT]
  apply hK5; clear hK5 K5
  refine awp_cond rfl ?_ ?_
  · intro hc1
    have hlt : i < s.size := by simpa using hc1
    refine awp_skip ?_
    try simp only [athen]
    apply hK4; clear hK4 K4
    refine awp_seq_k fun K6 hK6 => ?_
    refine awp_block ?_  -- block 1
    refine awp_seq_k fun K7 hK7 => ?_
    refine awp_region rfl ?_  -- region 4
    simp only [go_sem, vcSeq, Nat.reduceAdd, Nat.reduceMul, Nat.reduceSub, Nat.reduceLeDiff, Nat.reduceEqDiff, Nat.reduceLT]
    refine ⟨⟨by omega, by omega⟩, fun _ => ⟨by omega, by omega⟩, ?_⟩
    apply hK7; clear hK7 K7
    refine awp_cond rfl ?_ ?_
    · intro hc2
      refine awp_seq_k fun K8 hK8 => ?_
      refine awp_region rfl ?_  -- region 5
      simp only [go_sem, vcSeq, Nat.reduceAdd, Nat.reduceMul, Nat.reduceSub, Nat.reduceLeDiff, Nat.reduceEqDiff, Nat.reduceLT]
      apply hK8; clear hK8 K8
      refine awp_ret ?_
      simp only [go_sem, loopQ]
      have : (List.range s.size).all (byteOk s) = false := by
        rw [List.all_eq_false]
        exact ⟨i, List.mem_range.2 hlt, by simp [byteOk, hc2]⟩
      refine final0 ?_ trivial
      simp only [go_sem, Nat.reduceEqDiff]
      simp [acctOk, this]
    · intro hc2
      refine awp_skip ?_
      try simp only [athen]
      try simp only [go_sem, loopQ, Nat.reduceEqDiff]
      apply hK6; clear hK6 K6
      have hw : IntKind.i64.wrap ((i : Int) + 1) = ((i + 1 : Nat) : Int) := by rw [IntKind.wrap_i64]; omega
      refine awp_region rfl ?_  -- region 3
      simp only [go_sem, vcSeq, hw, Nat.reduceAdd, Nat.reduceMul, Nat.reduceSub, Nat.reduceLeDiff, Nat.reduceEqDiff, Nat.reduceLT]
      try simp only [loopQ, athen, inBlk]
      refine ⟨i + 1, ⟨by omega, fun j hj => by
                by_cases e : j = i
                · subst e; simp [byteOk, hc2]
                · exact hall j (by omega)⟩, by omega, [], ?_⟩
      simp only [go_sem, Nat.reduceAdd, Nat.reduceMul, Nat.reduceSub, Nat.reduceLeDiff, Nat.reduceEqDiff, Nat.reduceLT] <;> simp
  · intro hc1
    have hge : ¬ i < s.size := by simpa using hc1
    refine awp_exit ?_
    try simp only [go_sem, loopQ, Nat.reduceEqDiff]
    clear hK4 K4
    apply hK2; clear hK2 K2
    refine awp_seq_k fun K9 hK9 => ?_
    refine awp_region rfl ?_  -- region 6
    simp only [go_sem, vcSeq, Nat.reduceAdd, Nat.reduceMul, Nat.reduceSub, Nat.reduceLeDiff, Nat.reduceEqDiff, Nat.reduceLT]
    apply hK9; clear hK9 K9
    refine awp_ret ?_
    have : (List.range s.size).all (byteOk s) = true := by
      rw [List.all_eq_true]
      intro j hj
      exact hall j (by have := List.mem_range.1 hj; omega)
    refine final0 ?_ trivial
    simp only [go_sem, Nat.reduceEqDiff]
    unfold acctOk
    rw [this]
    by_cases h1 : (s.size : Int) < 1 <;> by_cases h4 : (4 : Int) < s.size <;> simp [h1, h4] <;> omega

theorem w91 (l : Leg) (hs : l.acct.size ≤ 1048576) : Pure P 91 [legAV l] [] 0 (.raw (.bool (legOk l))) := by  -- "loop.example/comptoir/spec.LegOk"
  refine pure_of_awp (fn := Tryd.f91) (N := 31) (vs := [.tmp 2]) ⟨Tryd.func91, rfl, rfl⟩ rfl rfl (by simp) ?_
  simp only [enumE, legAV]
  refine awp_seq_k fun K1 hK1 => ?_
  refine awp_region rfl ?_  -- region 0
  simp only [go_sem, vcSeq, Nat.reduceAdd, Nat.reduceMul, Nat.reduceSub, Nat.reduceLeDiff, Nat.reduceEqDiff, Nat.reduceLT]
  apply hK1; clear hK1 K1
  refine awp_seq_k fun K2 hK2 => ?_
  refine awp_region rfl ?_  -- region 1
  simp only [go_sem, vcSeq, Nat.reduceAdd, Nat.reduceMul, Nat.reduceSub, Nat.reduceLeDiff, Nat.reduceEqDiff, Nat.reduceLT]
  refine vsem_call (fun hN => lstep_pure0 rfl rfl rfl ⟨Tryd.func96, rfl, rfl⟩ hN (w96 _ hs) rfl ?_) (.inl rfl) ?_
  · simp only [go_sem, Nat.reduceAdd, Nat.reduceMul, Nat.reduceSub, Nat.reduceLeDiff, Nat.reduceEqDiff, Nat.reduceLT]
  simp only [go_sem, vcSeq, Nat.reduceAdd, Nat.reduceMul, Nat.reduceSub, Nat.reduceLeDiff, Nat.reduceEqDiff, Nat.reduceLT]
  apply hK2; clear hK2 K2
  refine awp_ret ?_
  refine final0 ?_ trivial
  simp only [go_sem, legOk, Nat.reduceAdd, Nat.reduceMul, Nat.reduceSub, Nat.reduceLeDiff, Nat.reduceEqDiff, Nat.reduceLT]

end Go.Proofs.T
end

/- C12 -/
section
set_option linter.unusedVariables false
set_option linter.unusedSimpArgs false
open Go Go.Abs Go.Proofs
namespace Go.Proofs.T
set_option maxRecDepth 20000
attribute [local go_sem] legAV_bel legAV_ren postAV_bel postAV_ren legAV_elem postOwn_bel postOwn_ren

def smallP (p : Post) : Prop := p.legs.length ≤ 1048576 ∧ ∀ l ∈ p.legs, l.acct.size ≤ 1048576
theorem drop_get {α : Type} {xs : List α} {i : Nat} {x : α} (h : xs[i]? = some x) : xs.drop i = x :: xs.drop (i + 1) := by
  obtain ⟨hlt, he⟩ := List.getElem?_eq_some_iff.1 h
  rw [List.drop_eq_getElem_cons hlt, he]
theorem postOk_len {p : Post} (h : postOk p = true) : p.legs.length ≤ 4 := by
  simp [postOk] at h
  omega
def toStep (a : ByteArray) (cur : Int) (n : Int) (l : Leg) : Int := if l.cur = cur ∧ l.acct = a then IntKind.i64.wrap (n + l.n) else n
theorem toList_eq (a b : ByteArray) : (a.toList = b.toList) ↔ a = b := by
  have h := Go.MapKept.bytes_beq a b
  have h2 := beq_toListBytes a b
  constructor
  · intro e
    exact h.1 (by rw [h2]; simp [e])
  · intro e; rw [e]
theorem toStep_yes {a : ByteArray} {cur n : Int} {l : Leg} (h : l.cur = cur ∧ l.acct.toList = a.toList) : toStep a cur n l = IntKind.i64.wrap (n + l.n) := by
  unfold toStep
  rw [if_pos ⟨h.1, (toList_eq _ _).1 h.2⟩]
theorem toStep_no {a : ByteArray} {cur n : Int} {l : Leg} (h : l.cur = cur → ¬ l.acct.toList = a.toList) : toStep a cur n l = n := by
  unfold toStep
  rw [if_neg (fun q => h q.1 ((toList_eq _ _).2 q.2))]
def l1to (p : Post) (a : ByteArray) (cur : Int) : Int := p.legs.foldl (toStep a cur) 0
def balSum (a : ByteArray) (cur : Int) (n : Int) (q : Post) : Int := IntKind.i64.wrap (n + l1to q a cur)
def l2bal (b : List Post) (a : ByteArray) (cur : Int) : Int := b.foldl (balSum a cur) 0
def overS (b : List Post) (p : Post) (l : Leg) : Bool := decide (2000 < IntKind.i64.wrap (l2bal b l.acct l.cur + l1to p l.acct l.cur)) || decide (IntKind.i64.wrap (l2bal b l.acct l.cur + l1to p l.acct l.cur) < -2000)
def codeS (b : List Post) (p : Post) : Int := if postFair p = false then 1 else if b.any (fun q => decide (q.id = p.id)) = true then 2 else if p.legs.any (overS b p) = true then 3 else if 40 ≤ b.length then 4 else 0
def okS (b : List Post) : Bool := if 40 < b.length then false else (List.range b.length).all fun i => match b[i]? with | some q => decide (codeS (b.take i) q = 0) | none => true

theorem w84 (p : Post) (hs : smallP p) : Pure P 84 [postAV p] [] 0 (.raw (.bool (postOk p))) := by  -- "loop.example/comptoir/spec.PostOk"
  refine pure_of_awp (fn := Tryd.f84) (N := 38) (vs := [.tmp 2]) ⟨Tryd.func84, rfl, rfl⟩ rfl rfl (by simp) ?_
  simp only [enumE, postAV]
  refine awp_seq_k fun K1 hK1 => ?_
  refine awp_region rfl ?_  -- region 0
  simp only [go_sem, vcSeq, Nat.reduceAdd, Nat.reduceMul, Nat.reduceSub, Nat.reduceLeDiff, Nat.reduceEqDiff, Nat.reduceLT]
  apply hK1; clear hK1 K1
  refine awp_seq_k fun K2 hK2 => ?_
  refine awp_seq_k fun K3 hK3 => ?_
  refine awp_region rfl ?_  -- region 1
  simp only [go_sem, vcSeq, Nat.reduceAdd, Nat.reduceMul, Nat.reduceSub, Nat.reduceLeDiff, Nat.reduceEqDiff, Nat.reduceLT]
  apply hK3; clear hK3 K3
  refine awp_cond rfl ?_ ?_
  · intro hc1
    refine awp_seq_k fun K4 hK4 => ?_
    refine awp_region rfl ?_  -- region 2
    simp only [go_sem, vcSeq, Nat.reduceAdd, Nat.reduceMul, Nat.reduceSub, Nat.reduceLeDiff, Nat.reduceEqDiff, Nat.reduceLT]
    apply hK4; clear hK4 K4
    refine awp_ret ?_
    refine final0 ?_ trivial
    simp only [go_sem, Nat.reduceEqDiff, postOk, hc1, Bool.not_true, Bool.false_and]
  · intro hc1
    have hl4 : p.legs.length ≤ 4 := by simp at hc1; omega
    refine awp_skip ?_
    try simp only [athen]
    apply hK2; clear hK2 K2
    refine awp_seq_k fun K5 hK5 => ?_
    refine awp_seq_k fun K6 hK6 => ?_
    refine awp_region rfl ?_  -- region 3
    simp only [go_sem, vcSeq, Nat.reduceAdd, Nat.reduceMul, Nat.reduceSub, Nat.reduceLeDiff, Nat.reduceEqDiff, Nat.reduceLT]
    apply hK6; clear hK6 K6
    refine awp_block ?_  -- block 0
    refine awp_loop_c (α := Nat) (fun x => x ≤ p.legs.length ∧ ∀ (j : Nat) (l : Leg), j < x → p.legs[j]? = some l → legOk l = true) (fun x => p.legs.length - x) (fun x => ([(3, .raw (.int .i64 (x : Int))), (1, .ptr 0 0)], [(0, boxPost p)])) 1 0 ⟨Nat.zero_le _, fun j l hj => by omega⟩ [] ?_ ?_
    · simp only [go_sem, boxPost, AObj.bel, Int.natCast_zero, Nat.reduceEqDiff, Nat.reduceLeDiff, Nat.reduceLT] <;> simp
    rintro i ⟨hi, hall⟩
    skip
    refine awp_seq_k fun K7 hK7 => ?_
    refine awp_seq_k fun K8 hK8 => ?_
    refine awp_region rfl ?_  -- region 4
    simp only [go_sem, vcSeq, boxPost, Nat.reduceAdd, Nat.reduceMul, Nat.reduceSub, Nat.reduceLeDiff, Nat.reduceEqDiff, Nat.reduceLT]
    apply hK8; clear hK8 K8
    refine awp_cond rfl ?_ ?_
    · intro hc2
      have hlt : i < p.legs.length := by simpa using hc2
      obtain ⟨l, hl⟩ : ∃ l, p.legs[i]? = some l := ⟨_, List.getElem?_eq_getElem hlt⟩
      have hdrop := drop_get hl
      have hml := List.mem_of_getElem? hl
      refine awp_skip ?_
      try simp only [athen]
      apply hK7; clear hK7 K7
      refine awp_seq_k fun K9 hK9 => ?_
      refine awp_block ?_  -- block 1
      refine awp_seq_k fun K10 hK10 => ?_
      refine awp_region rfl ?_  -- region 6
      simp only [go_sem, vcSeq, boxPost, hl, legAV, Nat.reduceAdd, Nat.reduceMul, Nat.reduceSub, Nat.reduceLeDiff, Nat.reduceEqDiff, Nat.reduceLT]
      refine ⟨⟨by omega, by omega⟩, ?_⟩
      refine vsem_call (fun hN => lstep_pure0 rfl rfl rfl ⟨Tryd.func91, rfl, rfl⟩ hN (w91 l (hs.2 l hml)) rfl ?_) (.inl rfl) ?_
      · exact ⟨⟨trivial, trivial, trivial, trivial⟩, trivial⟩
      simp only [go_sem, vcSeq, Nat.reduceAdd, Nat.reduceMul, Nat.reduceSub, Nat.reduceLeDiff, Nat.reduceEqDiff, Nat.reduceLT]
      apply hK10; clear hK10 K10
      refine awp_cond rfl ?_ ?_
      · intro hc3
        refine awp_seq_k fun K11 hK11 => ?_
        refine awp_region rfl ?_  -- region 7
        simp only [go_sem, vcSeq, Nat.reduceAdd, Nat.reduceMul, Nat.reduceSub, Nat.reduceLeDiff, Nat.reduceEqDiff, Nat.reduceLT]
        apply hK11; clear hK11 K11
        refine awp_ret ?_
        simp only [go_sem, loopQ]
        have : p.legs.all legOk = false := by
          rw [List.all_eq_false]
          exact ⟨l, hml, by simpa using hc3⟩
        refine final0 ?_ trivial
        simp only [go_sem, Nat.reduceEqDiff]
        simp [postOk, this]
      · intro hc3
        refine awp_skip ?_
        try simp only [athen]
        try simp only [go_sem, loopQ, Nat.reduceEqDiff]
        apply hK9; clear hK9 K9
        have hw : IntKind.i64.wrap ((i : Int) + 1) = ((i + 1 : Nat) : Int) := by rw [IntKind.wrap_i64]; omega
        refine awp_region rfl ?_  -- region 5
        simp only [go_sem, vcSeq, hw, Nat.reduceAdd, Nat.reduceMul, Nat.reduceSub, Nat.reduceLeDiff, Nat.reduceEqDiff, Nat.reduceLT]
        try simp only [loopQ, athen, inBlk]
        refine ⟨i + 1, ⟨by omega, fun j l' hj hl' => by
          by_cases e : j = i
          · subst e; rw [hl] at hl'; cases hl'; simpa using hc3
          · exact hall j l' (by omega) hl'⟩, by omega, [], ?_⟩
        simp only [go_sem, boxPost, AObj.bel, Nat.reduceEqDiff, Nat.reduceLeDiff, Nat.reduceLT] <;> simp
    · intro hc2
      have hge : p.legs.length ≤ i := by have h9 : ¬ i < p.legs.length := (by simpa using hc2); omega
      refine awp_exit ?_
      try simp only [go_sem, loopQ, Nat.reduceEqDiff]
      clear hK7 K7
      apply hK5; clear hK5 K5
      refine awp_seq_k fun K12 hK12 => ?_
      refine awp_region rfl ?_  -- region 8
      simp only [go_sem, vcSeq, Nat.reduceAdd, Nat.reduceMul, Nat.reduceSub, Nat.reduceLeDiff, Nat.reduceEqDiff, Nat.reduceLT]
      apply hK12; clear hK12 K12
      refine awp_ret ?_
      have : p.legs.all legOk = true := by
        rw [List.all_eq_true]
        intro l hl
        obtain ⟨j, hj⟩ := List.getElem?_of_mem hl
        exact hall j l (by have := (List.getElem?_eq_some_iff.1 hj).1; omega) hj
      refine final0 ?_ trivial
      simp only [go_sem, Nat.reduceEqDiff, postOk, this, hc1, Bool.not_false, Bool.and_self]

theorem w83 (p : Post) (cur : Int) (hs : smallP p) : Pure P 83 [postAV p, .raw (.int .i64 cur)] [] 0 (.raw (.int .i64 (postSum p cur))) := by  -- "loop.example/comptoir/spec.PostSum"
  refine pure_of_awp (fn := Tryd.f83) (N := 34) (vs := [.tmp 4]) ⟨Tryd.func83, rfl, rfl⟩ rfl rfl (by simp) ?_
  simp only [enumE, postAV]
  refine awp_seq_k fun K1 hK1 => ?_
  refine awp_region rfl ?_  -- region 0
  simp only [go_sem, vcSeq, Nat.reduceAdd, Nat.reduceMul, Nat.reduceSub, Nat.reduceLeDiff, Nat.reduceEqDiff, Nat.reduceLT]
  apply hK1; clear hK1 K1
  refine awp_seq_k fun K2 hK2 => ?_
  refine awp_seq_k fun K3 hK3 => ?_
  refine awp_region rfl ?_  -- region 1
  simp only [go_sem, vcSeq, Nat.reduceAdd, Nat.reduceMul, Nat.reduceSub, Nat.reduceLeDiff, Nat.reduceEqDiff, Nat.reduceLT]
  refine vsem_call (fun hN => lstep_pure0 rfl rfl rfl ⟨Tryd.func84, rfl, rfl⟩ hN (w84 p hs) rfl ?_) (.inl rfl) ?_
  · simp only [go_sem, postAV]
  simp only [go_sem, vcSeq, Nat.reduceAdd, Nat.reduceMul, Nat.reduceSub, Nat.reduceLeDiff, Nat.reduceEqDiff, Nat.reduceLT]
  apply hK3; clear hK3 K3
  refine awp_cond rfl ?_ ?_
  · intro hc1
    have hno : postOk p = false := by simpa using hc1
    refine awp_seq_k fun K4 hK4 => ?_
    refine awp_region rfl ?_  -- region 2
    simp only [go_sem, vcSeq, Nat.reduceAdd, Nat.reduceMul, Nat.reduceSub, Nat.reduceLeDiff, Nat.reduceEqDiff, Nat.reduceLT]
    apply hK4; clear hK4 K4
    refine awp_ret ?_
    refine final0 ?_ trivial
    simp only [go_sem, Nat.reduceEqDiff]
    simp [postSum, legsOf, hno]
  · intro hc1
    have hok : postOk p = true := by simpa using hc1
    have hl4 := postOk_len hok
    have hlo : legsOf p = p.legs := by simp [legsOf, hok]
    refine awp_skip ?_
    try simp only [athen]
    apply hK2; clear hK2 K2
    refine awp_seq_k fun K5 hK5 => ?_
    refine awp_region rfl ?_  -- region 3
    simp only [go_sem, vcSeq, Nat.reduceAdd, Nat.reduceMul, Nat.reduceSub, Nat.reduceLeDiff, Nat.reduceEqDiff, Nat.reduceLT]
    apply hK5; clear hK5 K5
    refine awp_seq_k fun K6 hK6 => ?_
    refine awp_seq_k fun K7 hK7 => ?_
    refine awp_region rfl ?_  -- region 4
    simp only [go_sem, vcSeq, Nat.reduceAdd, Nat.reduceMul, Nat.reduceSub, Nat.reduceLeDiff, Nat.reduceEqDiff, Nat.reduceLT]
    apply hK7; clear hK7 K7
    refine awp_block ?_  -- block 0
    refine awp_loop_c (α := Nat × Int) (fun x => x.1 ≤ p.legs.length ∧ (p.legs.drop x.1).foldl (addLeg cur) x.2 = p.legs.foldl (addLeg cur) 0) (fun x => p.legs.length - x.1) (fun x => ([(5, .raw (.int .i64 x.2)), (6, .raw (.int .i64 (x.1 : Int))), (2, .ptr 0 0), (1, .raw (.int .i64 cur))], [(0, boxPost p)])) 1 (0, 0) ⟨Nat.zero_le _, by simp⟩ [] ?_ ?_
    · simp only [go_sem, boxPost, AObj.bel, Int.natCast_zero, Nat.reduceEqDiff, Nat.reduceLeDiff, Nat.reduceLT] <;> simp
    rintro ⟨i, n⟩ ⟨hi, hfold⟩
    simp only at hi hfold ⊢
    refine awp_seq_k fun K8 hK8 => ?_
    refine awp_seq_k fun K9 hK9 => ?_
    refine awp_region rfl ?_  -- region 5
    simp only [go_sem, vcSeq, boxPost, Nat.reduceAdd, Nat.reduceMul, Nat.reduceSub, Nat.reduceLeDiff, Nat.reduceEqDiff, Nat.reduceLT]
    apply hK9; clear hK9 K9
    refine awp_cond rfl ?_ ?_
    · intro hc2
      have hlt : i < p.legs.length := by simpa using hc2
      obtain ⟨l, hl⟩ : ∃ l, p.legs[i]? = some l := ⟨_, List.getElem?_eq_getElem hlt⟩
      have hdrop := drop_get hl
      have hml := List.mem_of_getElem? hl
      refine awp_skip ?_
      try simp only [athen]
      apply hK8; clear hK8 K8
      refine awp_seq_k fun K10 hK10 => ?_
      refine awp_block ?_  -- block 1
      refine awp_seq_k fun K11 hK11 => ?_
      refine awp_region rfl ?_  -- region 7
      simp only [go_sem, vcSeq, boxPost, hl, legAV, Nat.reduceAdd, Nat.reduceMul, Nat.reduceSub, Nat.reduceLeDiff, Nat.reduceEqDiff, Nat.reduceLT]
      refine ⟨⟨by omega, by omega⟩, ?_⟩
      apply hK11; clear hK11 K11
      refine awp_cond rfl ?_ ?_
      · intro hc3
        have he : l.cur = cur := by simpa using hc3
        refine awp_region rfl ?_  -- region 8
        simp only [go_sem, vcSeq, boxPost, hl, legAV, Nat.reduceAdd, Nat.reduceMul, Nat.reduceSub, Nat.reduceLeDiff, Nat.reduceEqDiff, Nat.reduceLT]
        refine ⟨⟨by omega, by omega⟩, ?_⟩
        try simp only [go_sem, loopQ, Nat.reduceEqDiff]
        apply hK10; clear hK10 K10
        have hw : IntKind.i64.wrap ((i : Int) + 1) = ((i + 1 : Nat) : Int) := by rw [IntKind.wrap_i64]; omega
        refine awp_region rfl ?_  -- region 6
        simp only [go_sem, vcSeq, hw, Nat.reduceAdd, Nat.reduceMul, Nat.reduceSub, Nat.reduceLeDiff, Nat.reduceEqDiff, Nat.reduceLT]
        try simp only [loopQ, athen, inBlk]
        refine ⟨(i + 1, addLeg cur n l), ⟨by omega, by rw [hdrop] at hfold; exact hfold⟩, by omega, [], ?_⟩
        simp only [go_sem, boxPost, AObj.bel, addLeg, he, Nat.reduceEqDiff, Nat.reduceLeDiff, Nat.reduceLT] <;> simp
      · intro hc3
        have he : ¬ l.cur = cur := by simpa using hc3
        refine awp_skip ?_
        try simp only [athen]
        try simp only [go_sem, loopQ, Nat.reduceEqDiff]
        apply hK10; clear hK10 K10
        have hw : IntKind.i64.wrap ((i : Int) + 1) = ((i + 1 : Nat) : Int) := by rw [IntKind.wrap_i64]; omega
        refine awp_region rfl ?_  -- region 6
        simp only [go_sem, vcSeq, hw, Nat.reduceAdd, Nat.reduceMul, Nat.reduceSub, Nat.reduceLeDiff, Nat.reduceEqDiff, Nat.reduceLT]
        try simp only [loopQ, athen, inBlk]
        refine ⟨(i + 1, addLeg cur n l), ⟨by omega, by rw [hdrop] at hfold; exact hfold⟩, by omega, [], ?_⟩
        simp only [go_sem, boxPost, AObj.bel, addLeg, he, Nat.reduceEqDiff, Nat.reduceLeDiff, Nat.reduceLT] <;> simp
    · intro hc2
      have hge : p.legs.length ≤ i := by have h9 : ¬ i < p.legs.length := (by simpa using hc2); omega
      refine awp_exit ?_
      try simp only [go_sem, loopQ, Nat.reduceEqDiff]
      clear hK8 K8
      apply hK6; clear hK6 K6
      refine awp_seq_k fun K12 hK12 => ?_
      refine awp_region rfl ?_  -- region 9
      simp only [go_sem, vcSeq, Nat.reduceAdd, Nat.reduceMul, Nat.reduceSub, Nat.reduceLeDiff, Nat.reduceEqDiff, Nat.reduceLT]
      apply hK12; clear hK12 K12
      refine awp_ret ?_
      rw [List.drop_eq_nil_of_le hge] at hfold
      simp only [List.foldl_nil] at hfold
      refine final0 ?_ trivial
      simp only [go_sem, Nat.reduceEqDiff, postSum, hlo, hfold]

theorem w67 (p : Post) (hs : smallP p) : Pure P 67 [postAV p] [] 0 (.raw (.bool (postFair p))) := by  -- "loop.example/comptoir/spec.PostFair"
  refine pure_of_awp (fn := Tryd.f67) (N := 14) (vs := [.tmp 2]) ⟨Tryd.func67, rfl, rfl⟩ rfl rfl (by simp) ?_
  simp only [enumE, postAV]
  refine awp_seq_k fun K1 hK1 => ?_
  refine awp_region rfl ?_  -- region 0
  simp only [go_sem, vcSeq, Nat.reduceAdd, Nat.reduceMul, Nat.reduceSub, Nat.reduceLeDiff, Nat.reduceEqDiff, Nat.reduceLT]
  apply hK1; clear hK1 K1
  refine awp_seq_k fun K2 hK2 => ?_
  refine awp_seq_k fun K3 hK3 => ?_
  refine awp_region rfl ?_  -- region 1
  simp only [go_sem, vcSeq, Nat.reduceAdd, Nat.reduceMul, Nat.reduceSub, Nat.reduceLeDiff, Nat.reduceEqDiff, Nat.reduceLT]
  apply hK3; clear hK3 K3
  refine awp_block ?_  -- block 0
  refine awp_loop_c (α := Nat) (fun x => 1 ≤ x ∧ x ≤ 4 ∧ ∀ j : Nat, 1 ≤ j → j < x → postSum p j = 0) (fun x => 4 - x) (fun x => ([(3, .raw (.int .i64 (x : Int))), (1, .ptr 0 0)], [(0, boxPost p)])) 1 1 ⟨Nat.le_refl _, by omega, fun j hj hj2 => by omega⟩ [] ?_ ?_
  · simp only [go_sem, boxPost, AObj.bel, Nat.reduceEqDiff, Nat.reduceLeDiff, Nat.reduceLT] <;> simp
  rintro i ⟨hi1, hi4, hall⟩
  skip
  refine awp_seq_k fun K4 hK4 => ?_
  refine awp_seq_k fun K5 hK5 => ?_
  refine awp_region rfl ?_  -- region 2
  simp only [go_sem, vcSeq, Nat.reduceAdd, Nat.reduceMul, Nat.reduceSub, Nat.reduceLeDiff, Nat.reduceEqDiff, Nat.reduceLT]
  apply hK5; clear hK5 K5
  refine awp_cond rfl ?_ ?_
  · intro hc1
    have hlt : i ≤ 3 := by have h9 : (i : Int) ≤ 3 := (by simpa using hc1); omega
    refine awp_skip ?_
    try simp only [athen]
    apply hK4; clear hK4 K4
    refine awp_seq_k fun K6 hK6 => ?_
    refine awp_block ?_  -- block 1
    refine awp_seq_k fun K7 hK7 => ?_
    refine awp_region rfl ?_  -- region 4
    simp only [go_sem, vcSeq, boxPost, Nat.reduceAdd, Nat.reduceMul, Nat.reduceSub, Nat.reduceLeDiff, Nat.reduceEqDiff, Nat.reduceLT]
    refine vsem_call (fun hN => lstep_pure0 rfl rfl rfl ⟨Tryd.func83, rfl, rfl⟩ hN (w83 p i hs) rfl ?_) (.inl rfl) ?_
    · simp only [go_sem, postAV]
    simp only [go_sem, vcSeq, Nat.reduceAdd, Nat.reduceMul, Nat.reduceSub, Nat.reduceLeDiff, Nat.reduceEqDiff, Nat.reduceLT]
    apply hK7; clear hK7 K7
    refine awp_cond rfl ?_ ?_
    · intro hc2
      refine awp_seq_k fun K8 hK8 => ?_
      refine awp_region rfl ?_  -- region 5
      simp only [go_sem, vcSeq, Nat.reduceAdd, Nat.reduceMul, Nat.reduceSub, Nat.reduceLeDiff, Nat.reduceEqDiff, Nat.reduceLT]
      apply hK8; clear hK8 K8
      refine awp_ret ?_
      simp only [go_sem, loopQ]
      have hne : postSum p i ≠ 0 := by simpa using hc2
      have : postFair p = false := by
        have h3 : i = 1 ∨ i = 2 ∨ i = 3 := by omega
        rcases h3 with rfl | rfl | rfl <;> simp at hne <;> simp [postFair, hne]
      refine final0 ?_ trivial
      simp only [go_sem, Nat.reduceEqDiff, this]
    · intro hc2
      refine awp_skip ?_
      try simp only [athen]
      try simp only [go_sem, loopQ, Nat.reduceEqDiff]
      apply hK6; clear hK6 K6
      have hw : IntKind.i64.wrap ((i : Int) + 1) = ((i + 1 : Nat) : Int) := by rw [IntKind.wrap_i64]; omega
      refine awp_region rfl ?_  -- region 3
      simp only [go_sem, vcSeq, hw, Nat.reduceAdd, Nat.reduceMul, Nat.reduceSub, Nat.reduceLeDiff, Nat.reduceEqDiff, Nat.reduceLT]
      try simp only [loopQ, athen, inBlk]
      refine ⟨i + 1, ⟨by omega, by omega, fun j hj hj2 => by
        by_cases e : j = i
        · rw [e]; simpa using hc2
        · exact hall j hj (by omega)⟩, by omega, [], ?_⟩
      simp only [go_sem, boxPost, AObj.bel, Nat.reduceEqDiff, Nat.reduceLeDiff, Nat.reduceLT] <;> simp
  · intro hc1
    have hge : i = 4 := by have h9 : ¬ (i : Int) ≤ 3 := (by simpa using hc1); omega
    subst hge
    refine awp_exit ?_
    try simp only [go_sem, loopQ, Nat.reduceEqDiff]
    clear hK4 K4
    apply hK2; clear hK2 K2
    refine awp_seq_k fun K9 hK9 => ?_
    refine awp_region rfl ?_  -- region 6
    simp only [go_sem, vcSeq, boxPost, Nat.reduceAdd, Nat.reduceMul, Nat.reduceSub, Nat.reduceLeDiff, Nat.reduceEqDiff, Nat.reduceLT]
    refine vsem_call (fun hN => lstep_pure0 rfl rfl rfl ⟨Tryd.func84, rfl, rfl⟩ hN (w84 p hs) rfl ?_) (.inl rfl) ?_
    · simp only [go_sem, postAV]
    simp only [go_sem, vcSeq, Nat.reduceAdd, Nat.reduceMul, Nat.reduceSub, Nat.reduceLeDiff, Nat.reduceEqDiff, Nat.reduceLT]
    apply hK9; clear hK9 K9
    refine awp_ret ?_
    have h1 := hall 1 (by omega) (by omega)
    have h2 := hall 2 (by omega) (by omega)
    have h3 := hall 3 (by omega) (by omega)
    simp at h1 h2 h3
    refine final0 ?_ trivial
    simp only [go_sem, postFair, h1, h2, h3, Nat.reduceEqDiff] <;> simp

theorem w66 (p : Post) (a : ByteArray) (cur : Int) (hs : smallP p) : Pure P 66 [postAV p, .raw (.string a), .raw (.int .i64 cur)] [] 0 (.raw (.int .i64 (l1to p a cur))) := by  -- "loop.example/comptoir/spec.l1To"
  refine pure_of_awp (fn := Tryd.f66) (N := 43) (vs := [.tmp 6]) ⟨Tryd.func66, rfl, rfl⟩ rfl rfl (by simp) ?_
  simp only [enumE, postAV]
  refine awp_seq_k fun K1 hK1 => ?_
  refine awp_region rfl ?_  -- region 0
  simp only [go_sem, vcSeq, Nat.reduceAdd, Nat.reduceMul, Nat.reduceSub, Nat.reduceLeDiff, Nat.reduceEqDiff, Nat.reduceLT]
  apply hK1; clear hK1 K1
  refine awp_seq_k fun K2 hK2 => ?_
  refine awp_region rfl ?_  -- region 1
  simp only [go_sem, vcSeq, Nat.reduceAdd, Nat.reduceMul, Nat.reduceSub, Nat.reduceLeDiff, Nat.reduceEqDiff, Nat.reduceLT]
  apply hK2; clear hK2 K2
  refine awp_seq_k fun K3 hK3 => ?_
  refine awp_seq_k fun K4 hK4 => ?_
  refine awp_region rfl ?_  -- region 2
  simp only [go_sem, vcSeq, Nat.reduceAdd, Nat.reduceMul, Nat.reduceSub, Nat.reduceLeDiff, Nat.reduceEqDiff, Nat.reduceLT]
  apply hK4; clear hK4 K4
  refine awp_block ?_  -- block 0
  refine awp_loop_c (α := Nat × Int) (fun x => x.1 ≤ p.legs.length ∧ (p.legs.drop x.1).foldl (toStep a cur) x.2 = p.legs.foldl (toStep a cur) 0) (fun x => p.legs.length - x.1) (fun x => ([(7, .raw (.int .i64 x.2)), (8, .raw (.int .i64 (x.1 : Int))), (3, .ptr 0 0), (1, .raw (.string a)), (2, .raw (.int .i64 cur))], [(0, boxPost p)])) 1 (0, 0) ⟨Nat.zero_le _, by simp⟩ [] ?_ ?_
  · simp only [go_sem, boxPost, AObj.bel, Int.natCast_zero, Nat.reduceEqDiff, Nat.reduceLeDiff, Nat.reduceLT] <;> simp
  rintro ⟨i, n⟩ ⟨hi, hfold⟩
  have hsl := hs.1
  simp only at hi hfold ⊢
  refine awp_seq_k fun K5 hK5 => ?_
  refine awp_seq_k fun K6 hK6 => ?_
  refine awp_region rfl ?_  -- region 3
  simp only [go_sem, vcSeq, boxPost, Nat.reduceAdd, Nat.reduceMul, Nat.reduceSub, Nat.reduceLeDiff, Nat.reduceEqDiff, Nat.reduceLT]
  apply hK6; clear hK6 K6
  refine awp_cond rfl ?_ ?_
  · intro hc1
    have hlt : i < p.legs.length := by simpa using hc1
    obtain ⟨l, hl⟩ : ∃ l, p.legs[i]? = some l := ⟨_, List.getElem?_eq_getElem hlt⟩
    have hdrop := drop_get hl
    have hml := List.mem_of_getElem? hl
    refine awp_skip ?_
    try simp only [athen]
    apply hK5; clear hK5 K5
    refine awp_seq_k fun K7 hK7 => ?_
    refine awp_block ?_  -- block 1
    refine awp_seq_k fun K8 hK8 => ?_
    refine awp_region rfl ?_  -- region 5
    simp only [go_sem, vcSeq, boxPost, hl, legAV, Nat.reduceAdd, Nat.reduceMul, Nat.reduceSub, Nat.reduceLeDiff, Nat.reduceEqDiff, Nat.reduceLT]
    refine ⟨⟨by omega, by omega⟩, fun _ => ⟨by omega, by omega⟩, ?_⟩
    apply hK8; clear hK8 K8
    refine awp_cond rfl ?_ ?_
    · intro hc2
      have he : toStep a cur n l = IntKind.i64.wrap (n + l.n) := toStep_yes (by simpa using hc2)
      refine awp_region rfl ?_  -- region 6
      simp only [go_sem, vcSeq, boxPost, hl, legAV, Nat.reduceAdd, Nat.reduceMul, Nat.reduceSub, Nat.reduceLeDiff, Nat.reduceEqDiff, Nat.reduceLT]
      refine ⟨⟨by omega, by omega⟩, ?_⟩
      try simp only [go_sem, loopQ, Nat.reduceEqDiff]
      apply hK7; clear hK7 K7
      have hw : IntKind.i64.wrap ((i : Int) + 1) = ((i + 1 : Nat) : Int) := by rw [IntKind.wrap_i64]; omega
      refine awp_region rfl ?_  -- region 4
      simp only [go_sem, vcSeq, hw, Nat.reduceAdd, Nat.reduceMul, Nat.reduceSub, Nat.reduceLeDiff, Nat.reduceEqDiff, Nat.reduceLT]
      try simp only [loopQ, athen, inBlk]
      refine ⟨(i + 1, toStep a cur n l), ⟨by omega, by rw [hdrop] at hfold; exact hfold⟩, by omega, [], ?_⟩
      simp only [go_sem, boxPost, AObj.bel, he, Nat.reduceEqDiff, Nat.reduceLeDiff, Nat.reduceLT] <;> simp
    · intro hc2
      have he : toStep a cur n l = n := toStep_no (by simpa using hc2)
      refine awp_skip ?_
      try simp only [athen]
      try simp only [go_sem, loopQ, Nat.reduceEqDiff]
      apply hK7; clear hK7 K7
      have hw : IntKind.i64.wrap ((i : Int) + 1) = ((i + 1 : Nat) : Int) := by rw [IntKind.wrap_i64]; omega
      refine awp_region rfl ?_  -- region 4
      simp only [go_sem, vcSeq, hw, Nat.reduceAdd, Nat.reduceMul, Nat.reduceSub, Nat.reduceLeDiff, Nat.reduceEqDiff, Nat.reduceLT]
      try simp only [loopQ, athen, inBlk]
      refine ⟨(i + 1, toStep a cur n l), ⟨by omega, by rw [hdrop] at hfold; exact hfold⟩, by omega, [], ?_⟩
      simp only [go_sem, boxPost, AObj.bel, he, Nat.reduceEqDiff, Nat.reduceLeDiff, Nat.reduceLT] <;> simp
  · intro hc1
    have hge : p.legs.length ≤ i := by have h9 : ¬ i < p.legs.length := (by simpa using hc1); omega
    refine awp_exit ?_
    try simp only [go_sem, loopQ, Nat.reduceEqDiff]
    clear hK5 K5
    apply hK3; clear hK3 K3
    refine awp_seq_k fun K9 hK9 => ?_
    refine awp_region rfl ?_  -- region 7
    simp only [go_sem, vcSeq, Nat.reduceAdd, Nat.reduceMul, Nat.reduceSub, Nat.reduceLeDiff, Nat.reduceEqDiff, Nat.reduceLT]
    apply hK9; clear hK9 K9
    refine awp_ret ?_
    rw [List.drop_eq_nil_of_le hge] at hfold
    simp only [List.foldl_nil] at hfold
    refine final0 ?_ trivial
    simp only [go_sem, Nat.reduceEqDiff, l1to, hfold]

theorem w41 (b : List Post) (a : ByteArray) (cur : Int) (hb : b.length ≤ 1048576) (hs : ∀ q ∈ b, smallP q) : Pure P 41 [.sl 2 (b.map postAV), .raw (.string a), .raw (.int .i64 cur)] [] 0 (.raw (.int .i64 (l2bal b a cur))) := by  -- "loop.example/comptoir/spec.l2Bal"
  refine pure_of_awp (fn := Tryd.f41) (N := 25) (vs := [.tmp 6]) ⟨Tryd.func41, rfl, rfl⟩ rfl rfl (by simp) ?_
  simp only [enumE]
  refine awp_seq_k fun K1 hK1 => ?_
  refine awp_region rfl ?_  -- region 0
  simp only [go_sem, vcSeq, Nat.reduceAdd, Nat.reduceMul, Nat.reduceSub, Nat.reduceLeDiff, Nat.reduceEqDiff, Nat.reduceLT]
  apply hK1; clear hK1 K1
  refine awp_seq_k fun K2 hK2 => ?_
  refine awp_region rfl ?_  -- region 1
  simp only [go_sem, vcSeq, Nat.reduceAdd, Nat.reduceMul, Nat.reduceSub, Nat.reduceLeDiff, Nat.reduceEqDiff, Nat.reduceLT]
  apply hK2; clear hK2 K2
  refine awp_seq_k fun K3 hK3 => ?_
  refine awp_seq_k fun K4 hK4 => ?_
  refine awp_region rfl ?_  -- region 2
  simp only [go_sem, vcSeq, Nat.reduceAdd, Nat.reduceMul, Nat.reduceSub, Nat.reduceLeDiff, Nat.reduceEqDiff, Nat.reduceLT]
  apply hK4; clear hK4 K4
  refine awp_block ?_  -- block 0
  refine awp_loop_c (α := Nat × Int) (fun x => x.1 ≤ b.length ∧ (b.drop x.1).foldl (balSum a cur) x.2 = b.foldl (balSum a cur) 0) (fun x => b.length - x.1) (fun x => ([(7, .raw (.int .i64 x.2)), (8, .raw (.int .i64 (x.1 : Int))), (0, .sl 2 (b.map postAV)), (1, .raw (.string a)), (2, .raw (.int .i64 cur))], [])) 0 (0, 0) ⟨Nat.zero_le _, by simp⟩ [] ?_ ?_
  · simp only [go_sem, Int.natCast_zero, Nat.reduceAdd, Nat.reduceMul, Nat.reduceSub, Nat.reduceLeDiff, Nat.reduceEqDiff, Nat.reduceLT] <;> simp
  rintro ⟨i, n⟩ ⟨hi, hfold⟩
  simp only at hi hfold ⊢
  refine awp_seq_k fun K5 hK5 => ?_
  refine awp_seq_k fun K6 hK6 => ?_
  refine awp_region rfl ?_  -- region 3
  simp only [go_sem, vcSeq, Nat.reduceAdd, Nat.reduceMul, Nat.reduceSub, Nat.reduceLeDiff, Nat.reduceEqDiff, Nat.reduceLT]
  apply hK6; clear hK6 K6
  refine awp_cond rfl ?_ ?_
  · intro hc1
    have hlt : i < b.length := by simpa using hc1
    obtain ⟨q, hq⟩ : ∃ q, b[i]? = some q := ⟨_, List.getElem?_eq_getElem hlt⟩
    have hdrop := drop_get hq
    have hmq := List.mem_of_getElem? hq
    refine awp_skip ?_
    try simp only [athen]
    apply hK5; clear hK5 K5
    refine awp_seq_k fun K7 hK7 => ?_
    refine awp_block ?_  -- block 1
    refine awp_region rfl ?_  -- region 5
    simp only [go_sem, vcSeq, hq, postAV, Nat.reduceAdd, Nat.reduceMul, Nat.reduceSub, Nat.reduceLeDiff, Nat.reduceEqDiff, Nat.reduceLT]
    refine ⟨⟨by omega, by omega⟩, ?_⟩
    refine vsem_call (fun hN => lstep_pure0 rfl rfl rfl ⟨Tryd.func66, rfl, rfl⟩ hN (w66 q a cur (hs q hmq)) rfl ?_) (.inl rfl) ?_
    · simp only [go_sem, postAV]
    simp only [go_sem, vcSeq, Nat.reduceAdd, Nat.reduceMul, Nat.reduceSub, Nat.reduceLeDiff, Nat.reduceEqDiff, Nat.reduceLT]
    try simp only [go_sem, loopQ, Nat.reduceEqDiff]
    apply hK7; clear hK7 K7
    have hw : IntKind.i64.wrap ((i : Int) + 1) = ((i + 1 : Nat) : Int) := by rw [IntKind.wrap_i64]; omega
    refine awp_region rfl ?_  -- region 4
    simp only [go_sem, vcSeq, hw, Nat.reduceAdd, Nat.reduceMul, Nat.reduceSub, Nat.reduceLeDiff, Nat.reduceEqDiff, Nat.reduceLT]
    try simp only [loopQ, athen, inBlk]
    refine ⟨(i + 1, balSum a cur n q), ⟨by omega, by rw [hdrop] at hfold; exact hfold⟩, by omega, [], ?_⟩
    simp only [go_sem, balSum, Nat.reduceEqDiff, Nat.reduceLeDiff, Nat.reduceLT] <;> simp
  · intro hc1
    have hge : b.length ≤ i := by have h9 : ¬ i < b.length := (by simpa using hc1); omega
    refine awp_exit ?_
    try simp only [go_sem, loopQ, Nat.reduceEqDiff]
    clear hK5 K5
    apply hK3; clear hK3 K3
    refine awp_seq_k fun K8 hK8 => ?_
    refine awp_region rfl ?_  -- region 6
    simp only [go_sem, vcSeq, Nat.reduceAdd, Nat.reduceMul, Nat.reduceSub, Nat.reduceLeDiff, Nat.reduceEqDiff, Nat.reduceLT]
    apply hK8; clear hK8 K8
    refine awp_ret ?_
    rw [List.drop_eq_nil_of_le hge] at hfold
    simp only [List.foldl_nil] at hfold
    refine final0 ?_ trivial
    simp only [go_sem, Nat.reduceEqDiff, l2bal, hfold]

theorem w68 (b : List Post) (id : Int) (hb : b.length ≤ 1048576) : Pure P 68 [.sl 2 (b.map postAV), .raw (.int .i64 id)] [] 0 (.raw (.bool (b.any fun q => decide (q.id = id)))) := by  -- "loop.example/comptoir/spec.l2Has"
  refine pure_of_awp (fn := Tryd.f68) (N := 19) (vs := [.tmp 4]) ⟨Tryd.func68, rfl, rfl⟩ rfl rfl (by simp) ?_
  simp only [enumE]
  refine awp_seq_k fun K1 hK1 => ?_
  refine awp_region rfl ?_  -- region 0
  simp only [go_sem, vcSeq, Nat.reduceAdd, Nat.reduceMul, Nat.reduceSub, Nat.reduceLeDiff, Nat.reduceEqDiff, Nat.reduceLT]
  apply hK1; clear hK1 K1
  refine awp_seq_k fun K2 hK2 => ?_
  refine awp_seq_k fun K3 hK3 => ?_
  refine awp_region rfl ?_  -- region 1
  simp only [go_sem, vcSeq, Nat.reduceAdd, Nat.reduceMul, Nat.reduceSub, Nat.reduceLeDiff, Nat.reduceEqDiff, Nat.reduceLT]
  apply hK3; clear hK3 K3
  refine awp_block ?_  -- block 0
  refine awp_loop_c (α := Nat) (fun x => x ≤ b.length ∧ ∀ (j : Nat) (q : Post), j < x → b[j]? = some q → ¬ q.id = id) (fun x => b.length - x) (fun x => ([(5, .raw (.int .i64 (x : Int))), (0, .sl 2 (b.map postAV)), (1, .raw (.int .i64 id))], [])) 0 0 ⟨Nat.zero_le _, fun j l hj => by omega⟩ [] ?_ ?_
  · simp only [go_sem, Int.natCast_zero, Nat.reduceAdd, Nat.reduceMul, Nat.reduceSub, Nat.reduceLeDiff, Nat.reduceEqDiff, Nat.reduceLT] <;> simp
  rintro i ⟨hi, hall⟩
  skip
  refine awp_seq_k fun K4 hK4 => ?_
  refine awp_seq_k fun K5 hK5 => ?_
  refine awp_region rfl ?_  -- region 2
  simp only [go_sem, vcSeq, Nat.reduceAdd, Nat.reduceMul, Nat.reduceSub, Nat.reduceLeDiff, Nat.reduceEqDiff, Nat.reduceLT]
  apply hK5; clear hK5 K5
  refine awp_cond rfl ?_ ?_
  · intro hc1
    have hlt : i < b.length := by simpa using hc1
    obtain ⟨q, hq⟩ : ∃ q, b[i]? = some q := ⟨_, List.getElem?_eq_getElem hlt⟩
    have hdrop := drop_get hq
    have hmq := List.mem_of_getElem? hq
    refine awp_skip ?_
    try simp only [athen]
    apply hK4; clear hK4 K4
    refine awp_seq_k fun K6 hK6 => ?_
    refine awp_block ?_  -- block 1
    refine awp_seq_k fun K7 hK7 => ?_
    refine awp_region rfl ?_  -- region 4
    simp only [go_sem, vcSeq, hq, postAV, Nat.reduceAdd, Nat.reduceMul, Nat.reduceSub, Nat.reduceLeDiff, Nat.reduceEqDiff, Nat.reduceLT]
    refine ⟨⟨by omega, by omega⟩, ?_⟩
    apply hK7; clear hK7 K7
    refine awp_cond rfl ?_ ?_
    · intro hc2
      refine awp_seq_k fun K8 hK8 => ?_
      refine awp_region rfl ?_  -- region 5
      simp only [go_sem, vcSeq, Nat.reduceAdd, Nat.reduceMul, Nat.reduceSub, Nat.reduceLeDiff, Nat.reduceEqDiff, Nat.reduceLT]
      apply hK8; clear hK8 K8
      refine awp_ret ?_
      simp only [go_sem, loopQ]
      have : b.any (fun q => decide (q.id = id)) = true := by
        rw [List.any_eq_true]
        exact ⟨q, hmq, by simpa using hc2⟩
      refine final0 ?_ trivial
      simp only [go_sem, Nat.reduceEqDiff, this]
    · intro hc2
      refine awp_skip ?_
      try simp only [athen]
      try simp only [go_sem, loopQ, Nat.reduceEqDiff]
      apply hK6; clear hK6 K6
      have hw : IntKind.i64.wrap ((i : Int) + 1) = ((i + 1 : Nat) : Int) := by rw [IntKind.wrap_i64]; omega
      refine awp_region rfl ?_  -- region 3
      simp only [go_sem, vcSeq, hw, Nat.reduceAdd, Nat.reduceMul, Nat.reduceSub, Nat.reduceLeDiff, Nat.reduceEqDiff, Nat.reduceLT]
      try simp only [loopQ, athen, inBlk]
      refine ⟨i + 1, ⟨by omega, fun j l' hj hl' => by
        by_cases e : j = i
        · subst e; rw [hq] at hl'; cases hl'; simpa using hc2
        · exact hall j l' (by omega) hl'⟩, by omega, [], ?_⟩
      simp only [go_sem, Nat.reduceAdd, Nat.reduceMul, Nat.reduceSub, Nat.reduceLeDiff, Nat.reduceEqDiff, Nat.reduceLT] <;> simp
  · intro hc1
    have hge : b.length ≤ i := by have h9 : ¬ i < b.length := (by simpa using hc1); omega
    refine awp_exit ?_
    try simp only [go_sem, loopQ, Nat.reduceEqDiff]
    clear hK4 K4
    apply hK2; clear hK2 K2
    refine awp_seq_k fun K9 hK9 => ?_
    refine awp_region rfl ?_  -- region 6
    simp only [go_sem, vcSeq, Nat.reduceAdd, Nat.reduceMul, Nat.reduceSub, Nat.reduceLeDiff, Nat.reduceEqDiff, Nat.reduceLT]
    apply hK9; clear hK9 K9
    refine awp_ret ?_
    have : b.any (fun q => decide (q.id = id)) = false := by
      rw [List.any_eq_false]
      intro q hq
      obtain ⟨j, hj⟩ := List.getElem?_of_mem hq
      have := hall j q (by have := (List.getElem?_eq_some_iff.1 hj).1; omega) hj
      simpa using this
    refine final0 ?_ trivial
    simp only [go_sem, Nat.reduceEqDiff, this]

theorem w69 (b : List Post) (p : Post) (hb : b.length ≤ 1048576) (hs : ∀ q ∈ b, smallP q) (hsp : smallP p) : Pure P 69 [.sl 2 (b.map postAV), postAV p] [] 0 (.raw (.bool (p.legs.any (overS b p)))) := by  -- "loop.example/comptoir/spec.l2Over"
  refine pure_of_awp (fn := Tryd.f69) (N := 39) (vs := [.tmp 4]) ⟨Tryd.func69, rfl, rfl⟩ rfl rfl (by simp) ?_
  simp only [enumE, postAV]
  refine awp_seq_k fun K1 hK1 => ?_
  refine awp_region rfl ?_  -- region 0
  simp only [go_sem, vcSeq, Nat.reduceAdd, Nat.reduceMul, Nat.reduceSub, Nat.reduceLeDiff, Nat.reduceEqDiff, Nat.reduceLT]
  apply hK1; clear hK1 K1
  refine awp_seq_k fun K2 hK2 => ?_
  refine awp_seq_k fun K3 hK3 => ?_
  refine awp_region rfl ?_  -- region 1
  simp only [go_sem, vcSeq, Nat.reduceAdd, Nat.reduceMul, Nat.reduceSub, Nat.reduceLeDiff, Nat.reduceEqDiff, Nat.reduceLT]
  apply hK3; clear hK3 K3
  refine awp_block ?_  -- block 0
  refine awp_loop_c (α := Nat) (fun x => x ≤ p.legs.length ∧ ∀ (j : Nat) (l : Leg), j < x → p.legs[j]? = some l → overS b p l = false) (fun x => p.legs.length - x) (fun x => ([(5, .raw (.int .i64 (x : Int))), (0, .sl 2 (b.map postAV)), (3, .ptr 0 0)], [(0, boxPost p)])) 1 0 ⟨Nat.zero_le _, fun j l hj => by omega⟩ [] ?_ ?_
  · simp only [go_sem, boxPost, AObj.bel, Int.natCast_zero, Nat.reduceEqDiff, Nat.reduceLeDiff, Nat.reduceLT] <;> simp
  rintro i ⟨hi, hall⟩
  have hsl := hsp.1
  refine awp_seq_k fun K4 hK4 => ?_
  refine awp_seq_k fun K5 hK5 => ?_
  refine awp_region rfl ?_  -- region 2
  simp only [go_sem, vcSeq, boxPost, Nat.reduceAdd, Nat.reduceMul, Nat.reduceSub, Nat.reduceLeDiff, Nat.reduceEqDiff, Nat.reduceLT]
  apply hK5; clear hK5 K5
  refine awp_cond rfl ?_ ?_
  · intro hc1
    have hlt : i < p.legs.length := by simpa using hc1
    obtain ⟨l, hl⟩ : ∃ l, p.legs[i]? = some l := ⟨_, List.getElem?_eq_getElem hlt⟩
    have hdrop := drop_get hl
    have hml := List.mem_of_getElem? hl
    refine awp_skip ?_
    try simp only [athen]
    apply hK4; clear hK4 K4
    refine awp_seq_k fun K6 hK6 => ?_
    refine awp_block ?_  -- block 1
    refine awp_seq_k fun K7 hK7 => ?_
    refine awp_region rfl ?_  -- region 4
    simp only [go_sem, vcSeq, boxPost, hl, legAV, Nat.reduceAdd, Nat.reduceMul, Nat.reduceSub, Nat.reduceLeDiff, Nat.reduceEqDiff, Nat.reduceLT]
    refine ⟨⟨by omega, by omega⟩, ?_⟩
    apply hK7; clear hK7 K7
    refine awp_seq_k fun K8 hK8 => ?_
    refine awp_draw mixed rfl ?_  -- region 5
    simp only [go_sem, vcDraw, boxPost, Nat.reduceAdd, Nat.reduceMul, Nat.reduceSub, Nat.reduceLeDiff, Nat.reduceEqDiff, Nat.reduceLT]
    refine vtr_call (fun hN => lstep_pure0 rfl rfl rfl ⟨Tryd.func41, rfl, rfl⟩ hN (w41 b l.acct l.cur hb hs) rfl ?_) (.inl rfl) ?_
    · simp only [go_sem, Nat.reduceAdd, Nat.reduceMul, Nat.reduceSub, Nat.reduceLeDiff, Nat.reduceEqDiff, Nat.reduceLT]
    simp only [go_sem, vcDraw, Nat.reduceAdd, Nat.reduceMul, Nat.reduceSub, Nat.reduceLeDiff, Nat.reduceEqDiff, Nat.reduceLT]
    refine vtr_call (fun hN => lstep_pure0 rfl rfl rfl ⟨Tryd.func66, rfl, rfl⟩ hN (w66 p l.acct l.cur hsp) rfl ?_) (.inl rfl) ?_
    · simp only [go_sem, postAV]
    simp only [go_sem, vcDraw, Nat.reduceAdd, Nat.reduceMul, Nat.reduceSub, Nat.reduceLeDiff, Nat.reduceEqDiff, Nat.reduceLT]
    refine ⟨by rfl, ?_⟩
    apply hK8; clear hK8 K8
    refine awp_seq_k fun K9 hK9 => ?_
    refine awp_region rfl ?_  -- region 6
    simp only [go_sem, vcSeq, Nat.reduceAdd, Nat.reduceMul, Nat.reduceSub, Nat.reduceLeDiff, Nat.reduceEqDiff, Nat.reduceLT]
    apply hK9; clear hK9 K9
    refine awp_cond rfl ?_ ?_
    · intro hc2
      have ho : overS b p l = true := by unfold overS; simpa using hc2
      refine awp_seq_k fun K10 hK10 => ?_
      refine awp_region rfl ?_  -- region 7
      simp only [go_sem, vcSeq, Nat.reduceAdd, Nat.reduceMul, Nat.reduceSub, Nat.reduceLeDiff, Nat.reduceEqDiff, Nat.reduceLT]
      apply hK10; clear hK10 K10
      refine awp_ret ?_
      simp only [go_sem, loopQ]
      have : p.legs.any (overS b p) = true := by
        rw [List.any_eq_true]
        exact ⟨l, hml, ho⟩
      refine final0 ?_ trivial
      simp only [go_sem, Nat.reduceEqDiff, this]
    · intro hc2
      have ho : overS b p l = false := by unfold overS; simpa using hc2
      refine awp_skip ?_
      try simp only [athen]
      try simp only [go_sem, loopQ, Nat.reduceEqDiff]
      apply hK6; clear hK6 K6
      have hw : IntKind.i64.wrap ((i : Int) + 1) = ((i + 1 : Nat) : Int) := by rw [IntKind.wrap_i64]; omega
      refine awp_region rfl ?_  -- region 3
      simp only [go_sem, vcSeq, hw, Nat.reduceAdd, Nat.reduceMul, Nat.reduceSub, Nat.reduceLeDiff, Nat.reduceEqDiff, Nat.reduceLT]
      try simp only [loopQ, athen, inBlk]
      refine ⟨i + 1, ⟨by omega, fun j l' hj hl' => by
        by_cases e : j = i
        · subst e; rw [hl] at hl'; cases hl'; exact ho
        · exact hall j l' (by omega) hl'⟩, by omega, [], ?_⟩
      simp only [go_sem, boxPost, AObj.bel, Nat.reduceEqDiff, Nat.reduceLeDiff, Nat.reduceLT] <;> simp
  · intro hc1
    have hge : p.legs.length ≤ i := by have h9 : ¬ i < p.legs.length := (by simpa using hc1); omega
    refine awp_exit ?_
    try simp only [go_sem, loopQ, Nat.reduceEqDiff]
    clear hK4 K4
    apply hK2; clear hK2 K2
    refine awp_seq_k fun K11 hK11 => ?_
    refine awp_region rfl ?_  -- region 8
    simp only [go_sem, vcSeq, Nat.reduceAdd, Nat.reduceMul, Nat.reduceSub, Nat.reduceLeDiff, Nat.reduceEqDiff, Nat.reduceLT]
    apply hK11; clear hK11 K11
    refine awp_ret ?_
    have : p.legs.any (overS b p) = false := by
      rw [List.any_eq_false]
      intro l hl
      obtain ⟨j, hj⟩ := List.getElem?_of_mem hl
      have := hall j l (by have := (List.getElem?_eq_some_iff.1 hj).1; omega) hj
      simpa using this
    refine final0 ?_ trivial
    simp only [go_sem, Nat.reduceEqDiff, this]

theorem w42 (b : List Post) (p : Post) (hb : b.length ≤ 1048576) (hs : ∀ q ∈ b, smallP q) (hsp : smallP p) : Pure P 42 [.sl 2 (b.map postAV), postAV p] [] 0 (.raw (.int .i64 (codeS b p))) := by  -- "loop.example/comptoir/spec.l2Code"
  refine pure_of_awp (fn := Tryd.f42) (N := 22) (vs := [.tmp 4]) ⟨Tryd.func42, rfl, rfl⟩ rfl rfl (by simp) ?_
  simp only [enumE, postAV]
  refine awp_seq_k fun K1 hK1 => ?_
  refine awp_region rfl ?_  -- region 0
  simp only [go_sem, vcSeq, Nat.reduceAdd, Nat.reduceMul, Nat.reduceSub, Nat.reduceLeDiff, Nat.reduceEqDiff, Nat.reduceLT]
  apply hK1; clear hK1 K1
  refine awp_seq_k fun K2 hK2 => ?_
  refine awp_block ?_  -- block 0
  refine awp_seq_k fun K3 hK3 => ?_
  refine awp_region rfl ?_  -- region 1
  simp only [go_sem, vcSeq, Nat.reduceAdd, Nat.reduceMul, Nat.reduceSub, Nat.reduceLeDiff, Nat.reduceEqDiff, Nat.reduceLT]
  refine vsem_call (fun hN => lstep_pure0 rfl rfl rfl ⟨Tryd.func67, rfl, rfl⟩ hN (w67 p hsp) rfl ?_) (.inl rfl) ?_
  · simp only [go_sem, postAV]
  simp only [go_sem, vcSeq, Nat.reduceAdd, Nat.reduceMul, Nat.reduceSub, Nat.reduceLeDiff, Nat.reduceEqDiff, Nat.reduceLT]
  apply hK3; clear hK3 K3
  refine awp_cond rfl ?_ ?_
  · intro hc1
    have h1 : postFair p = false := by simpa using hc1
    refine awp_seq_k fun K4 hK4 => ?_
    refine awp_region rfl ?_  -- region 2
    simp only [go_sem, vcSeq, Nat.reduceAdd, Nat.reduceMul, Nat.reduceSub, Nat.reduceLeDiff, Nat.reduceEqDiff, Nat.reduceLT]
    apply hK4; clear hK4 K4
    refine awp_ret ?_
    simp only [go_sem, loopQ]
    refine final0 ?_ trivial
    simp only [go_sem, Nat.reduceEqDiff, codeS, h1]
  · intro hc1
    have h1 : postFair p = true := by simpa using hc1
    refine awp_seq_k fun K5 hK5 => ?_
    refine awp_region rfl ?_  -- region 3
    simp only [go_sem, vcSeq, Nat.reduceAdd, Nat.reduceMul, Nat.reduceSub, Nat.reduceLeDiff, Nat.reduceEqDiff, Nat.reduceLT]
    refine vsem_call (fun hN => lstep_pure0 rfl rfl rfl ⟨Tryd.func68, rfl, rfl⟩ hN (w68 b p.id hb) rfl ?_) (.inl rfl) ?_
    · simp only [go_sem, Nat.reduceAdd, Nat.reduceMul, Nat.reduceSub, Nat.reduceLeDiff, Nat.reduceEqDiff, Nat.reduceLT]
    simp only [go_sem, vcSeq, Nat.reduceAdd, Nat.reduceMul, Nat.reduceSub, Nat.reduceLeDiff, Nat.reduceEqDiff, Nat.reduceLT]
    apply hK5; clear hK5 K5
    refine awp_cond rfl ?_ ?_
    · intro hc2
      refine awp_seq_k fun K6 hK6 => ?_
      refine awp_region rfl ?_  -- region 4
      simp only [go_sem, vcSeq, Nat.reduceAdd, Nat.reduceMul, Nat.reduceSub, Nat.reduceLeDiff, Nat.reduceEqDiff, Nat.reduceLT]
      apply hK6; clear hK6 K6
      refine awp_ret ?_
      simp only [go_sem, loopQ]
      refine final0 ?_ trivial
      simp only [go_sem, Nat.reduceEqDiff, codeS, h1, hc2] <;> simp
    · intro hc2
      refine awp_seq_k fun K7 hK7 => ?_
      refine awp_region rfl ?_  -- region 5
      simp only [go_sem, vcSeq, Nat.reduceAdd, Nat.reduceMul, Nat.reduceSub, Nat.reduceLeDiff, Nat.reduceEqDiff, Nat.reduceLT]
      refine vsem_call (fun hN => lstep_pure0 rfl rfl rfl ⟨Tryd.func69, rfl, rfl⟩ hN (w69 b p hb hs hsp) rfl ?_) (.inl rfl) ?_
      · simp only [go_sem, postAV]
      simp only [go_sem, vcSeq, Nat.reduceAdd, Nat.reduceMul, Nat.reduceSub, Nat.reduceLeDiff, Nat.reduceEqDiff, Nat.reduceLT]
      apply hK7; clear hK7 K7
      refine awp_cond rfl ?_ ?_
      · intro hc3
        refine awp_seq_k fun K8 hK8 => ?_
        refine awp_region rfl ?_  -- region 6
        simp only [go_sem, vcSeq, Nat.reduceAdd, Nat.reduceMul, Nat.reduceSub, Nat.reduceLeDiff, Nat.reduceEqDiff, Nat.reduceLT]
        apply hK8; clear hK8 K8
        refine awp_ret ?_
        simp only [go_sem, loopQ]
        refine final0 ?_ trivial
        simp only [go_sem, Nat.reduceEqDiff, codeS, h1, hc2, hc3] <;> simp
      · intro hc3
        refine awp_seq_k fun K9 hK9 => ?_
        refine awp_region rfl ?_  -- region 7
        simp only [go_sem, vcSeq, Nat.reduceAdd, Nat.reduceMul, Nat.reduceSub, Nat.reduceLeDiff, Nat.reduceEqDiff, Nat.reduceLT]
        apply hK9; clear hK9 K9
        refine awp_cond rfl ?_ ?_
        · intro hc4
          have h4 : 40 ≤ b.length := by have h9 : (40 : Int) ≤ b.length := (by simpa using hc4); omega
          refine awp_seq_k fun K10 hK10 => ?_
          refine awp_region rfl ?_  -- region 8
          simp only [go_sem, vcSeq, Nat.reduceAdd, Nat.reduceMul, Nat.reduceSub, Nat.reduceLeDiff, Nat.reduceEqDiff, Nat.reduceLT]
          apply hK10; clear hK10 K10
          refine awp_ret ?_
          simp only [go_sem, loopQ]
          refine final0 ?_ trivial
          simp only [go_sem, Nat.reduceEqDiff, codeS, h1, hc2, hc3, h4] <;> simp
        · intro hc4
          have h4 : ¬ 40 ≤ b.length := by have h9 : ¬ (40 : Int) ≤ b.length := (by simpa using hc4); omega
          refine awp_skip ?_
          try simp only [athen]
          try simp only [go_sem, loopQ, Nat.reduceEqDiff]
          apply hK2; clear hK2 K2
          refine awp_seq_k fun K11 hK11 => ?_
          refine awp_region rfl ?_  -- region 9
          simp only [go_sem, vcSeq, Nat.reduceAdd, Nat.reduceMul, Nat.reduceSub, Nat.reduceLeDiff, Nat.reduceEqDiff, Nat.reduceLT]
          apply hK11; clear hK11 K11
          refine awp_ret ?_
          refine final0 ?_ trivial
          simp only [go_sem, Nat.reduceEqDiff, codeS, h1, hc2, hc3, h4] <;> simp

theorem w15 (b : List Post) (hb : b.length ≤ 1048576) (hs : ∀ q ∈ b, smallP q) : Pure P 15 [.sl 2 (b.map postAV)] [] 0 (.raw (.bool (okS b))) := by  -- "loop.example/comptoir/spec.BookOk"
  refine pure_of_awp (fn := Tryd.f15) (N := 22) (vs := [.tmp 2]) ⟨Tryd.func15, rfl, rfl⟩ rfl rfl (by simp) ?_
  simp only [enumE]
  refine awp_seq_k fun K1 hK1 => ?_
  refine awp_region rfl ?_  -- region 0
  simp only [go_sem, vcSeq, Nat.reduceAdd, Nat.reduceMul, Nat.reduceSub, Nat.reduceLeDiff, Nat.reduceEqDiff, Nat.reduceLT]
  apply hK1; clear hK1 K1
  refine awp_seq_k fun K2 hK2 => ?_
  refine awp_seq_k fun K3 hK3 => ?_
  refine awp_region rfl ?_  -- region 1
  simp only [go_sem, vcSeq, Nat.reduceAdd, Nat.reduceMul, Nat.reduceSub, Nat.reduceLeDiff, Nat.reduceEqDiff, Nat.reduceLT]
  apply hK3; clear hK3 K3
  refine awp_cond rfl ?_ ?_
  · intro hc1
    have h40 : 40 < b.length := by have h9 : (40 : Int) < b.length := (by simpa using hc1); omega
    refine awp_seq_k fun K4 hK4 => ?_
    refine awp_region rfl ?_  -- region 2
    simp only [go_sem, vcSeq, Nat.reduceAdd, Nat.reduceMul, Nat.reduceSub, Nat.reduceLeDiff, Nat.reduceEqDiff, Nat.reduceLT]
    apply hK4; clear hK4 K4
    refine awp_ret ?_
    refine final0 ?_ trivial
    simp only [go_sem, Nat.reduceEqDiff, okS, h40]
  · intro hc1
    have h40 : ¬ 40 < b.length := by have h9 : ¬ (40 : Int) < b.length := (by simpa using hc1); omega
    refine awp_skip ?_
    try simp only [athen]
    apply hK2; clear hK2 K2
    refine awp_seq_k fun K5 hK5 => ?_
    refine awp_seq_k fun K6 hK6 => ?_
    refine awp_region rfl ?_  -- region 3
    simp only [go_sem, vcSeq, Nat.reduceAdd, Nat.reduceMul, Nat.reduceSub, Nat.reduceLeDiff, Nat.reduceEqDiff, Nat.reduceLT]
    apply hK6; clear hK6 K6
    refine awp_block ?_  -- block 0
    refine awp_loop_c (α := Nat) (fun x => x ≤ b.length ∧ ∀ (j : Nat) (q : Post), j < x → b[j]? = some q → codeS (b.take j) q = 0) (fun x => b.length - x) (fun x => ([(3, .raw (.int .i64 (x : Int))), (0, .sl 2 (b.map postAV))], [])) 0 0 ⟨Nat.zero_le _, fun j l hj => by omega⟩ [] ?_ ?_
    · simp only [go_sem, Int.natCast_zero, Nat.reduceAdd, Nat.reduceMul, Nat.reduceSub, Nat.reduceLeDiff, Nat.reduceEqDiff, Nat.reduceLT] <;> simp
    rintro i ⟨hi, hall⟩
    skip
    refine awp_seq_k fun K7 hK7 => ?_
    refine awp_seq_k fun K8 hK8 => ?_
    refine awp_region rfl ?_  -- region 4
    simp only [go_sem, vcSeq, Nat.reduceAdd, Nat.reduceMul, Nat.reduceSub, Nat.reduceLeDiff, Nat.reduceEqDiff, Nat.reduceLT]
    apply hK8; clear hK8 K8
    refine awp_cond rfl ?_ ?_
    · intro hc2
      have hlt : i < b.length := by simpa using hc2
      obtain ⟨q, hq⟩ : ∃ q, b[i]? = some q := ⟨_, List.getElem?_eq_getElem hlt⟩
      have hdrop := drop_get hq
      have hmq := List.mem_of_getElem? hq
      refine awp_skip ?_
      try simp only [athen]
      apply hK7; clear hK7 K7
      refine awp_seq_k fun K9 hK9 => ?_
      refine awp_block ?_  -- block 1
      refine awp_seq_k fun K10 hK10 => ?_
      refine awp_draw mixed rfl ?_  -- region 6
      simp only [go_sem, vcDraw, hq, postAV, ← List.map_take, Int.toNat_zero, Nat.reduceAdd, Nat.reduceMul, Nat.reduceSub, Nat.reduceLeDiff, Nat.reduceEqDiff, Nat.reduceLT]
      refine ⟨⟨by omega, by omega, by omega⟩, ⟨by omega, by omega⟩, ?_⟩
      refine vtr_call (fun hN => lstep_pure0 rfl rfl rfl ⟨Tryd.func42, rfl, rfl⟩ hN (w42 (b.take i) q (by rw [List.length_take]; omega) (fun q hq => hs q (List.mem_of_mem_take hq)) (hs q hmq)) rfl ?_) (.inl rfl) ?_
      · simp only [go_sem, postAV]
      simp only [go_sem, vcDraw, Nat.reduceAdd, Nat.reduceMul, Nat.reduceSub, Nat.reduceLeDiff, Nat.reduceEqDiff, Nat.reduceLT]
      refine ⟨by rfl, ?_⟩
      apply hK10; clear hK10 K10
      refine awp_cond rfl ?_ ?_
      · intro hc3
        refine awp_seq_k fun K11 hK11 => ?_
        refine awp_region rfl ?_  -- region 7
        simp only [go_sem, vcSeq, Nat.reduceAdd, Nat.reduceMul, Nat.reduceSub, Nat.reduceLeDiff, Nat.reduceEqDiff, Nat.reduceLT]
        apply hK11; clear hK11 K11
        refine awp_ret ?_
        simp only [go_sem, loopQ]
        have : okS b = false := by
          unfold okS
          rw [if_neg h40, List.all_eq_false]
          exact ⟨i, List.mem_range.2 hlt, by simp [hq]; simpa using hc3⟩
        refine final0 ?_ trivial
        simp only [go_sem, Nat.reduceEqDiff, this]
      · intro hc3
        refine awp_skip ?_
        try simp only [athen]
        try simp only [go_sem, loopQ, Nat.reduceEqDiff]
        apply hK9; clear hK9 K9
        have hw : IntKind.i64.wrap ((i : Int) + 1) = ((i + 1 : Nat) : Int) := by rw [IntKind.wrap_i64]; omega
        refine awp_region rfl ?_  -- region 5
        simp only [go_sem, vcSeq, hw, Nat.reduceAdd, Nat.reduceMul, Nat.reduceSub, Nat.reduceLeDiff, Nat.reduceEqDiff, Nat.reduceLT]
        try simp only [loopQ, athen, inBlk]
        refine ⟨i + 1, ⟨by omega, fun j l' hj hl' => by
          by_cases e : j = i
          · subst e; rw [hq] at hl'; cases hl'; simpa using hc3
          · exact hall j l' (by omega) hl'⟩, by omega, [], ?_⟩
        simp only [go_sem, Nat.reduceAdd, Nat.reduceMul, Nat.reduceSub, Nat.reduceLeDiff, Nat.reduceEqDiff, Nat.reduceLT] <;> simp
    · intro hc2
      have hge : b.length ≤ i := by have h9 : ¬ i < b.length := (by simpa using hc2); omega
      refine awp_exit ?_
      try simp only [go_sem, loopQ, Nat.reduceEqDiff]
      clear hK7 K7
      apply hK5; clear hK5 K5
      refine awp_seq_k fun K12 hK12 => ?_
      refine awp_region rfl ?_  -- region 8
      simp only [go_sem, vcSeq, Nat.reduceAdd, Nat.reduceMul, Nat.reduceSub, Nat.reduceLeDiff, Nat.reduceEqDiff, Nat.reduceLT]
      apply hK12; clear hK12 K12
      refine awp_ret ?_
      have : okS b = true := by
        unfold okS
        rw [if_neg h40, List.all_eq_true]
        intro j hj
        have hjl := List.mem_range.1 hj
        simp [List.getElem?_eq_getElem hjl, hall j b[j] (by omega) (List.getElem?_eq_getElem hjl)]
      refine final0 ?_ trivial
      simp only [go_sem, Nat.reduceEqDiff, this]

end Go.Proofs.T
end

/- C13 -/
section
set_option linter.unusedVariables false
set_option linter.unusedSimpArgs false
open Go Go.Abs Go.Proofs
namespace Go.Proofs.T
set_option maxRecDepth 20000
attribute [local go_sem] legAV_bel legAV_ren postAV_bel postAV_ren legAV_elem postOwn_bel postOwn_ren
/-- The reference's answer. -/
def specPost (b : List Post) (p : Post) : List Post × Int := if okS b = true then (if codeS b p = 0 then (b ++ [p], 0) else (b, codeS b p)) else ([], 1)

theorem w53 (p : Post) (hp : smallP p) : Gives P 53 [postAV p] [] 0 (.agg [.raw (.int .i64 p.id), .ref 0]) [(0, .row 35 3 (p.legs.map legAV))] 1 := by  -- "loop.example/comptoir/spec.l1Copy"
  refine gives_of_awp (fn := Tryd.f53) (N := 10) (vs := [.cell 2 31]) ⟨Tryd.func53, rfl, rfl⟩ rfl rfl (by simp) ?_
  simp only [enumE, postAV]
  have hp1 := hp.1
  refine awp_seq_k fun K1 hK1 => ?_
  refine awp_region rfl ?_  -- region 0
  simp only [go_sem, vcSeq, Nat.reduceAdd, Nat.reduceMul, Nat.reduceSub, Nat.reduceLeDiff, Nat.reduceEqDiff, Nat.reduceLT]
  apply hK1; clear hK1 K1
  refine awp_seq_k fun K2 hK2 => ?_
  refine awp_draw mixed rfl ?_  -- region 1
  simp only [go_sem, vcDraw, Nat.reduceAdd, Nat.reduceMul, Nat.reduceSub, Nat.reduceLeDiff, Nat.reduceEqDiff, Nat.reduceLT]
  refine ⟨⟨by simp [maxLen]; omega, by omega⟩, ?_⟩
  refine ⟨by rfl, ?_⟩
  apply hK2; clear hK2 K2
  refine awp_ret ?_
  refine ⟨[(0, 3)], ?_⟩
  simp only [go_sem, AObj.bel, AObj.ren, AV.ren, renL, sg, Nat.reduceAdd, Nat.reduceMul, Nat.reduceSub, Nat.reduceLeDiff, Nat.reduceEqDiff, Nat.reduceLT] <;> simp

theorem w52 (b : List Post) (hb : b.length ≤ 1048576) (hs : ∀ q ∈ b, smallP q) : Gives P 52 [.sl 2 (b.map postAV)] [] 0 (.ref 0) [(0, .row 31 2 (b.map postOwn))] 1 := by  -- "loop.example/comptoir/spec.l2Copy"
  refine gives_of_awp (fn := Tryd.f52) (N := 21) (vs := [.tmp 2]) ⟨Tryd.func52, rfl, rfl⟩ rfl rfl (by simp) ?_
  simp only [enumE]
  refine awp_seq_k fun K1 hK1 => ?_
  refine awp_region rfl ?_  -- region 0
  simp only [go_sem, vcSeq, Nat.reduceAdd, Nat.reduceMul, Nat.reduceSub, Nat.reduceLeDiff, Nat.reduceEqDiff, Nat.reduceLT]
  apply hK1; clear hK1 K1
  refine awp_seq_k fun K2 hK2 => ?_
  refine awp_region rfl ?_  -- region 1
  simp only [go_sem, vcSeq, Nat.reduceAdd, Nat.reduceMul, Nat.reduceSub, Nat.reduceLeDiff, Nat.reduceEqDiff, Nat.reduceLT]
  apply hK2; clear hK2 K2
  refine awp_seq_k fun K3 hK3 => ?_
  refine awp_seq_k fun K4 hK4 => ?_
  refine awp_region rfl ?_  -- region 2
  simp only [go_sem, vcSeq, Nat.reduceAdd, Nat.reduceMul, Nat.reduceSub, Nat.reduceLeDiff, Nat.reduceEqDiff, Nat.reduceLT]
  apply hK4; clear hK4 K4
  refine awp_block ?_  -- block 0
  refine awp_loop_c (α := Nat) (fun x => x ≤ b.length) (fun x => b.length - x) (fun x => ([(4, .raw (.int .i64 (x : Int))), (0, .sl 2 (b.map postAV)), (3, .ref 0)], [(0, .row 31 2 ((b.take x).map postOwn))])) 1 0 (Nat.zero_le _) [] ?_ ?_
  · simp only [go_sem, AObj.bel, List.take_zero, Int.natCast_zero, Nat.reduceEqDiff, Nat.reduceLeDiff, Nat.reduceLT, Nat.reduceAdd] <;> simp
  rintro i hi
  skip
  refine awp_seq_k fun K5 hK5 => ?_
  refine awp_seq_k fun K6 hK6 => ?_
  refine awp_region rfl ?_  -- region 3
  simp only [go_sem, vcSeq, Nat.reduceAdd, Nat.reduceMul, Nat.reduceSub, Nat.reduceLeDiff, Nat.reduceEqDiff, Nat.reduceLT]
  apply hK6; clear hK6 K6
  refine awp_cond rfl ?_ ?_
  · intro hc1
    have hlt : i < b.length := by simpa using hc1
    obtain ⟨q, hq⟩ : ∃ q, b[i]? = some q := ⟨_, List.getElem?_eq_getElem hlt⟩
    have hdrop := drop_get hq
    have hmq := List.mem_of_getElem? hq
    have hpl := (hs q hmq).1
    refine awp_skip ?_
    try simp only [athen]
    apply hK5; clear hK5 K5
    refine awp_seq_k fun K7 hK7 => ?_
    refine awp_block ?_  -- block 1
    refine awp_region rfl ?_  -- region 5
    simp only [go_sem, vcSeq, hq, postAV, Nat.reduceAdd, Nat.reduceMul, Nat.reduceSub, Nat.reduceLeDiff, Nat.reduceEqDiff, Nat.reduceLT]
    refine ⟨⟨by omega, by omega⟩, ?_⟩
    refine vsem_call (fun hN => lstep_gives (s := []) 1 rfl rfl rfl ⟨Tryd.func53, rfl, rfl⟩ hN (w53 q (hs q hmq)) rfl (by simp only [go_sem, postAV, Nat.reduceEqDiff]) ?_ (fit_new (by simp) (by omega))) (.inr (by decide)) ?_
    · simp only [go_sem, postAV]
    simp only [go_sem, vcSeq, AV.ren, AObj.ren, renL, shift, sg, Nat.le_refl, Nat.add_zero, Nat.sub_self, Nat.reduceAdd, Nat.reduceMul, Nat.reduceSub, Nat.reduceLeDiff, Nat.reduceEqDiff, Nat.reduceLT]
    refine ⟨⟨by simp [maxLen]; omega, by simp; omega⟩, ?_⟩
    have htk : (b.take i).map postOwn ++ [AV.agg [AV.raw (Value.int IntKind.i64 q.id), AV.own 35 3 (List.map legAV q.legs)]] = (b.take (i + 1)).map postOwn := by
      rw [List.take_add_one, hq]; simp [postOwn]
    try simp only [go_sem, loopQ, Nat.reduceEqDiff]
    apply hK7; clear hK7 K7
    have hw : IntKind.i64.wrap ((i : Int) + 1) = ((i + 1 : Nat) : Int) := by rw [IntKind.wrap_i64]; omega
    refine awp_region rfl ?_  -- region 4
    simp only [go_sem, vcSeq, hw, Nat.reduceAdd, Nat.reduceMul, Nat.reduceSub, Nat.reduceLeDiff, Nat.reduceEqDiff, Nat.reduceLT]
    try simp only [loopQ, athen, inBlk]
    refine ⟨i + 1, by omega, by omega, [(0, 3)], ?_⟩
    rw [htk]
    simp only [go_sem, AV.ren, AObj.ren, AObj.bel, sg, Option.getD_some, Nat.reduceEqDiff, Nat.reduceLeDiff, Nat.reduceLT] <;> simp
  · intro hc1
    have hge : b.length ≤ i := by have h9 : ¬ i < b.length := (by simpa using hc1); omega
    have hib : i = b.length := by omega
    subst hib
    refine awp_exit ?_
    try simp only [go_sem, loopQ, Nat.reduceEqDiff]
    clear hK5 K5
    apply hK3; clear hK3 K3
    refine awp_seq_k fun K8 hK8 => ?_
    refine awp_region rfl ?_  -- region 6
    simp only [go_sem, vcSeq, Nat.reduceAdd, Nat.reduceMul, Nat.reduceSub, Nat.reduceLeDiff, Nat.reduceEqDiff, Nat.reduceLT]
    apply hK8; clear hK8 K8
    refine awp_ret ?_
    refine ⟨[], ?_⟩
    simp only [go_sem, AObj.bel, List.take_length, Nat.reduceEqDiff, Nat.reduceLeDiff, Nat.reduceLT] <;> simp

theorem w22 (b : List Post) (p : Post) (hb : b.length ≤ 1048576) (hs : ∀ q ∈ b, smallP q) (hp : smallP p) : Gives P 22 [.sl 2 (b.map postAV), postAV p] [] 0 (.tup [.ref 0, .raw (.int .i64 (specPost b p).2)]) [(0, .row 31 2 ((specPost b p).1.map postOwn))] 1 := by  -- "loop.example/comptoir/spec.BookPost"
  refine gives_of_awp (fn := Tryd.f22) (N := 26) (vs := [.tmp 4, .tmp 5]) ⟨Tryd.func22, rfl, rfl⟩ rfl rfl (by simp) ?_
  simp only [enumE, postAV]
  have hp1 := hp.1
  refine awp_seq_k fun K1 hK1 => ?_
  refine awp_region rfl ?_  -- region 0
  simp only [go_sem, vcSeq, Nat.reduceAdd, Nat.reduceMul, Nat.reduceSub, Nat.reduceLeDiff, Nat.reduceEqDiff, Nat.reduceLT]
  apply hK1; clear hK1 K1
  refine awp_seq_k fun K2 hK2 => ?_
  refine awp_seq_k fun K3 hK3 => ?_
  refine awp_region rfl ?_  -- region 1
  simp only [go_sem, vcSeq, Nat.reduceAdd, Nat.reduceMul, Nat.reduceSub, Nat.reduceLeDiff, Nat.reduceEqDiff, Nat.reduceLT]
  refine vsem_call (fun hN => lstep_pure0 rfl rfl rfl ⟨Tryd.func15, rfl, rfl⟩ hN (w15 b hb hs) rfl ?_) (.inl rfl) ?_
  · simp only [go_sem, Nat.reduceAdd, Nat.reduceMul, Nat.reduceSub, Nat.reduceLeDiff, Nat.reduceEqDiff, Nat.reduceLT]
  simp only [go_sem, vcSeq, Nat.reduceAdd, Nat.reduceMul, Nat.reduceSub, Nat.reduceLeDiff, Nat.reduceEqDiff, Nat.reduceLT]
  apply hK3; clear hK3 K3
  refine awp_cond rfl ?_ ?_
  · intro hc1
    have hok : okS b = false := by simpa using hc1
    have hsp : specPost b p = ([], 1) := by simp [specPost, hok]
    refine awp_seq_k fun K4 hK4 => ?_
    refine awp_region rfl ?_  -- region 2
    simp only [go_sem, vcSeq, Nat.reduceAdd, Nat.reduceMul, Nat.reduceSub, Nat.reduceLeDiff, Nat.reduceEqDiff, Nat.reduceLT]
    apply hK4; clear hK4 K4
    refine awp_ret ?_
    rw [hsp]
    refine ⟨[(0, 1)], ?_⟩
    simp only [go_sem, AObj.bel, AObj.ren, AV.ren, renL, sg, Nat.reduceAdd, Nat.reduceMul, Nat.reduceSub, Nat.reduceLeDiff, Nat.reduceEqDiff, Nat.reduceLT] <;> simp
  · intro hc1
    have hok : okS b = true := by simpa using hc1
    refine awp_skip ?_
    try simp only [athen]
    apply hK2; clear hK2 K2
    refine awp_seq_k fun K5 hK5 => ?_
    refine awp_region rfl ?_  -- region 3
    simp only [go_sem, vcSeq, Nat.reduceAdd, Nat.reduceMul, Nat.reduceSub, Nat.reduceLeDiff, Nat.reduceEqDiff, Nat.reduceLT]
    refine vsem_call (fun hN => lstep_pure0 rfl rfl rfl ⟨Tryd.func42, rfl, rfl⟩ hN (w42 b p hb hs hp) rfl ?_) (.inl rfl) ?_
    · simp only [go_sem, postAV]
    simp only [go_sem, vcSeq, Nat.reduceAdd, Nat.reduceMul, Nat.reduceSub, Nat.reduceLeDiff, Nat.reduceEqDiff, Nat.reduceLT]
    apply hK5; clear hK5 K5
    refine awp_seq_k fun K6 hK6 => ?_
    refine awp_seq_k fun K7 hK7 => ?_
    refine awp_region rfl ?_  -- region 4
    simp only [go_sem, vcSeq, Nat.reduceAdd, Nat.reduceMul, Nat.reduceSub, Nat.reduceLeDiff, Nat.reduceEqDiff, Nat.reduceLT]
    apply hK7; clear hK7 K7
    refine awp_cond rfl ?_ ?_
    · intro hc2
      have hk : codeS b p ≠ 0 := by simpa using hc2
      have hsp : specPost b p = (b, codeS b p) := by simp [specPost, hok, hk]
      refine awp_seq_k fun K8 hK8 => ?_
      refine awp_region rfl ?_  -- region 5
      simp only [go_sem, vcSeq, Nat.reduceAdd, Nat.reduceMul, Nat.reduceSub, Nat.reduceLeDiff, Nat.reduceEqDiff, Nat.reduceLT]
      refine vsem_call (fun hN => lstep_gives (s := []) 1 rfl rfl rfl ⟨Tryd.func52, rfl, rfl⟩ hN (w52 b hb hs) rfl (by simp only [go_sem, Nat.reduceEqDiff]) ?_ (fit_new (by simp) (by omega))) (.inr (by decide)) ?_
      · simp only [go_sem]
      simp only [go_sem, vcSeq, AV.ren, AObj.ren, renL, shift, sg, Nat.le_refl, Nat.add_zero, Nat.sub_self, Nat.reduceAdd, Nat.reduceMul, Nat.reduceSub, Nat.reduceLeDiff, Nat.reduceEqDiff, Nat.reduceLT]
      apply hK8; clear hK8 K8
      refine awp_ret ?_
      rw [hsp]
      refine ⟨[(0, 1)], ?_⟩
      simp only [go_sem, AObj.bel, AObj.ren, AV.ren, renL, sg, Nat.reduceAdd, Nat.reduceMul, Nat.reduceSub, Nat.reduceLeDiff, Nat.reduceEqDiff, Nat.reduceLT] <;> simp
    · intro hc2
      have hk : codeS b p = 0 := by simpa using hc2
      have hsp : specPost b p = (b ++ [p], 0) := by simp [specPost, hok, hk]
      refine awp_skip ?_
      try simp only [athen]
      apply hK6; clear hK6 K6
      refine awp_seq_k fun K9 hK9 => ?_
      refine awp_draw mixed rfl ?_  -- region 6
      simp only [go_sem, vcDraw, Nat.reduceAdd, Nat.reduceMul, Nat.reduceSub, Nat.reduceLeDiff, Nat.reduceEqDiff, Nat.reduceLT]
      refine vtr_call (fun hN => lstep_gives (s := []) 1 rfl rfl rfl ⟨Tryd.func52, rfl, rfl⟩ hN (w52 b hb hs) rfl (by simp only [go_sem, Nat.reduceEqDiff]) ?_ (fit_new (by simp) (by omega))) (.inr (by decide)) ?_
      · simp only [go_sem]
      simp only [go_sem, vcDraw, AV.ren, AObj.ren, renL, shift, sg, Nat.le_refl, Nat.add_zero, Nat.sub_self, Nat.reduceAdd, Nat.reduceMul, Nat.reduceSub, Nat.reduceLeDiff, Nat.reduceEqDiff, Nat.reduceLT]
      refine vtr_call (fun hN => lstep_gives (s := []) 1 rfl rfl rfl ⟨Tryd.func53, rfl, rfl⟩ hN (w53 p hp) rfl (by simp only [go_sem, postAV, Nat.reduceEqDiff]) ?_ (fit_new (by simp) (by omega))) (.inr (by decide)) ?_
      · simp only [go_sem, postAV]
      simp only [go_sem, vcDraw, AV.ren, AObj.ren, renL, shift, sg, Nat.le_refl, Nat.add_zero, Nat.sub_self, Nat.reduceAdd, Nat.reduceMul, Nat.reduceSub, Nat.reduceLeDiff, Nat.reduceEqDiff, Nat.reduceLT]
      refine ⟨⟨by simp [maxLen]; omega, by omega⟩, ?_⟩
      have htk : b.map postOwn ++ [AV.agg [AV.raw (Value.int IntKind.i64 p.id), AV.own 35 3 (List.map legAV p.legs)]] = (b ++ [p]).map postOwn := by simp [postOwn]
      rw [htk]
      refine ⟨by rfl, ?_⟩
      apply hK9; clear hK9 K9
      refine awp_ret ?_
      rw [hsp]
      refine ⟨[(0, 4)], ?_⟩
      simp only [go_sem, hk, AObj.bel, AObj.ren, AV.ren, renL, sg, Nat.reduceAdd, Nat.reduceMul, Nat.reduceSub, Nat.reduceLeDiff, Nat.reduceEqDiff, Nat.reduceLT] <;> simp

end Go.Proofs.T
end

/- C14 -/
section
set_option linter.unusedVariables false
set_option linter.unusedSimpArgs false
open Go Go.Abs Go.Proofs
namespace Go.Proofs.T
set_option maxRecDepth 20000
attribute [local go_sem] legAV_bel legAV_ren postAV_bel postAV_ren legAV_elem postOwn_bel postOwn_ren
def szLeg (l : Leg) (left : Int) : Int := if left - (l.acct.size : Int) < 0 then -1 else left - l.acct.size
def szLegs1 : List Leg → Int → Int
  | [], n => n
  | l :: r, n => if szLeg l n < 0 then -1 else szLegs1 r (szLeg l n)
def szLegs (ls : List Leg) (left : Int) : Int := if left - (ls.length : Int) < 0 then -1 else szLegs1 ls (left - ls.length)
def szPost (p : Post) (left : Int) : Int := if szLegs p.legs left < 0 then -1 else szLegs p.legs left
def szPosts1 : List Post → Int → Int
  | [], n => n
  | p :: r, n => if szPost p n < 0 then -1 else szPosts1 r (szPost p n)
def szPosts (ls : List Post) (left : Int) : Int := if left - (ls.length : Int) < 0 then -1 else szPosts1 ls (left - ls.length)
theorem szLeg_le (l : Leg) (n : Int) (h : 0 ≤ n) : szLeg l n ≤ n := by unfold szLeg; split <;> omega
theorem szLegs1_le : ∀ (ls : List Leg) (n : Int), 0 ≤ n → szLegs1 ls n ≤ n
  | [], n, _ => Int.le_refl _
  | l :: r, n, h => by
    unfold szLegs1
    have h1 := szLeg_le l n h
    split
    · omega
    · have := szLegs1_le r (szLeg l n) (by omega); omega
theorem szLegs_le (ls : List Leg) (n : Int) (h : 0 ≤ n) : szLegs ls n ≤ n := by
  unfold szLegs
  split
  · omega
  · have := szLegs1_le ls (n - ls.length) (by omega); omega
theorem szPost_le (p : Post) (n : Int) (h : 0 ≤ n) : szPost p n ≤ n := by
  unfold szPost
  have := szLegs_le p.legs n h
  split <;> omega

theorem w74 (l : Leg) (left : Int) (h0 : 0 ≤ left) (h1 : left ≤ 1048576) (hz : l.acct.size ≤ 9223372036854775807) : Pure P 74 [legAV l, .raw (.int .i64 left)] [] 0 (.raw (.int .i64 (szLeg l left))) := by  -- "loop.example/comptoir/laws.szLeg"
  refine pure_of_awp (fn := Tryd.f74) (N := 13) (vs := [.tmp 4]) ⟨Tryd.func74, rfl, rfl⟩ rfl rfl (by simp) ?_
  simp only [enumE, legAV]
  have hw : IntKind.i64.wrap (left - (l.acct.size : Int)) = left - l.acct.size := by rw [IntKind.wrap_i64]; omega
  refine awp_seq_k fun K1 hK1 => ?_
  refine awp_region rfl ?_  -- region 0
  simp only [go_sem, vcSeq, Nat.reduceAdd, Nat.reduceMul, Nat.reduceSub, Nat.reduceLeDiff, Nat.reduceEqDiff, Nat.reduceLT]
  apply hK1; clear hK1 K1
  refine awp_seq_k fun K2 hK2 => ?_
  refine awp_region rfl ?_  -- region 1
  simp only [go_sem, vcSeq, hw, Nat.reduceAdd, Nat.reduceMul, Nat.reduceSub, Nat.reduceLeDiff, Nat.reduceEqDiff, Nat.reduceLT]
  apply hK2; clear hK2 K2
  refine awp_seq_k fun K3 hK3 => ?_
  refine awp_seq_k fun K4 hK4 => ?_
  refine awp_region rfl ?_  -- region 2
  simp only [go_sem, vcSeq, Nat.reduceAdd, Nat.reduceMul, Nat.reduceSub, Nat.reduceLeDiff, Nat.reduceEqDiff, Nat.reduceLT]
  apply hK4; clear hK4 K4
  refine awp_cond rfl ?_ ?_
  · intro hc1
    have h3 : left - (l.acct.size : Int) < 0 := by simpa using hc1
    refine awp_seq_k fun K5 hK5 => ?_
    refine awp_region rfl ?_  -- region 3
    simp only [go_sem, vcSeq, Nat.reduceAdd, Nat.reduceMul, Nat.reduceSub, Nat.reduceLeDiff, Nat.reduceEqDiff, Nat.reduceLT]
    apply hK5; clear hK5 K5
    refine awp_ret ?_
    refine final0 ?_ trivial
    simp only [go_sem, szLeg, h3, Nat.reduceAdd, Nat.reduceMul, Nat.reduceSub, Nat.reduceLeDiff, Nat.reduceEqDiff, Nat.reduceLT]
  · intro hc1
    have h3 : ¬ left - (l.acct.size : Int) < 0 := by simpa using hc1
    refine awp_skip ?_
    try simp only [athen]
    apply hK3; clear hK3 K3
    refine awp_seq_k fun K6 hK6 => ?_
    refine awp_region rfl ?_  -- region 4
    simp only [go_sem, vcSeq, Nat.reduceAdd, Nat.reduceMul, Nat.reduceSub, Nat.reduceLeDiff, Nat.reduceEqDiff, Nat.reduceLT]
    apply hK6; clear hK6 K6
    refine awp_ret ?_
    refine final0 ?_ trivial
    simp only [go_sem, szLeg, h3, Nat.reduceAdd, Nat.reduceMul, Nat.reduceSub, Nat.reduceLeDiff, Nat.reduceEqDiff, Nat.reduceLT]

theorem w56 (ls : List Leg) (left : Int) (h0 : 0 ≤ left) (h1 : left ≤ 1048576) (hlen : ls.length ≤ 9223372036854775807) (hz : ∀ l ∈ ls, l.acct.size ≤ 9223372036854775807) : Pure P 56 [.sl 3 (ls.map legAV), .raw (.int .i64 left)] [] 0 (.raw (.int .i64 (szLegs ls left))) := by  -- "loop.example/comptoir/laws.szLegS"
  refine pure_of_awp (fn := Tryd.f56) (N := 27) (vs := [.tmp 4]) ⟨Tryd.func56, rfl, rfl⟩ rfl rfl (by simp) ?_
  simp only [enumE]
  have hw0 : IntKind.i64.wrap (left - (ls.length : Int)) = left - ls.length := by rw [IntKind.wrap_i64]; omega
  refine awp_seq_k fun K1 hK1 => ?_
  refine awp_region rfl ?_  -- region 0
  simp only [go_sem, vcSeq, Nat.reduceAdd, Nat.reduceMul, Nat.reduceSub, Nat.reduceLeDiff, Nat.reduceEqDiff, Nat.reduceLT]
  apply hK1; clear hK1 K1
  refine awp_seq_k fun K2 hK2 => ?_
  refine awp_region rfl ?_  -- region 1
  simp only [go_sem, vcSeq, hw0, Nat.reduceAdd, Nat.reduceMul, Nat.reduceSub, Nat.reduceLeDiff, Nat.reduceEqDiff, Nat.reduceLT]
  apply hK2; clear hK2 K2
  refine awp_seq_k fun K3 hK3 => ?_
  refine awp_seq_k fun K4 hK4 => ?_
  refine awp_region rfl ?_  -- region 2
  simp only [go_sem, vcSeq, Nat.reduceAdd, Nat.reduceMul, Nat.reduceSub, Nat.reduceLeDiff, Nat.reduceEqDiff, Nat.reduceLT]
  apply hK4; clear hK4 K4
  refine awp_cond rfl ?_ ?_
  · intro hc1
    have h3 : left - (ls.length : Int) < 0 := by simpa using hc1
    refine awp_seq_k fun K5 hK5 => ?_
    refine awp_region rfl ?_  -- region 3
    simp only [go_sem, vcSeq, Nat.reduceAdd, Nat.reduceMul, Nat.reduceSub, Nat.reduceLeDiff, Nat.reduceEqDiff, Nat.reduceLT]
    apply hK5; clear hK5 K5
    refine awp_ret ?_
    refine final0 ?_ trivial
    simp only [go_sem, szLegs, h3, Nat.reduceAdd, Nat.reduceMul, Nat.reduceSub, Nat.reduceLeDiff, Nat.reduceEqDiff, Nat.reduceLT]
  · intro hc1
    have h3 : ¬ left - (ls.length : Int) < 0 := by simpa using hc1
    refine awp_skip ?_
    try simp only [athen]
    apply hK3; clear hK3 K3
    refine awp_seq_k fun K6 hK6 => ?_
    refine awp_seq_k fun K7 hK7 => ?_
    refine awp_region rfl ?_  -- region 4
    simp only [go_sem, vcSeq, Nat.reduceAdd, Nat.reduceMul, Nat.reduceSub, Nat.reduceLeDiff, Nat.reduceEqDiff, Nat.reduceLT]
    apply hK7; clear hK7 K7
    refine awp_block ?_  -- block 0
    refine awp_loop_c (α := Nat × Int) (fun x => x.1 ≤ ls.length ∧ 0 ≤ x.2 ∧ x.2 ≤ 1048576 ∧ szLegs1 (ls.drop x.1) x.2 = szLegs1 ls (left - ls.length)) (fun x => ls.length - x.1) (fun x => ([(1, .raw (.int .i64 x.2)), (5, .raw (.int .i64 (x.1 : Int))), (0, .sl 3 (ls.map legAV))], [])) 0 (0, left - ls.length) ⟨Nat.zero_le _, by omega, by simp only; omega, by simp⟩ [] ?_ ?_
    · simp only [go_sem, Int.natCast_zero, Nat.reduceAdd, Nat.reduceMul, Nat.reduceSub, Nat.reduceLeDiff, Nat.reduceEqDiff, Nat.reduceLT] <;> simp
    rintro ⟨i, n⟩ ⟨hi, hn0, hn1, hfold⟩
    simp only at hi hn0 hn1 hfold ⊢
    refine awp_seq_k fun K8 hK8 => ?_
    refine awp_seq_k fun K9 hK9 => ?_
    refine awp_region rfl ?_  -- region 5
    simp only [go_sem, vcSeq, Nat.reduceAdd, Nat.reduceMul, Nat.reduceSub, Nat.reduceLeDiff, Nat.reduceEqDiff, Nat.reduceLT]
    apply hK9; clear hK9 K9
    refine awp_cond rfl ?_ ?_
    · intro hc2
      have hlt : i < ls.length := by simpa using hc2
      obtain ⟨l, hl⟩ : ∃ l, ls[i]? = some l := ⟨_, List.getElem?_eq_getElem hlt⟩
      have hdrop := drop_get hl
      have hml := List.mem_of_getElem? hl
      refine awp_skip ?_
      try simp only [athen]
      apply hK8; clear hK8 K8
      refine awp_seq_k fun K10 hK10 => ?_
      refine awp_block ?_  -- block 1
      refine awp_seq_k fun K11 hK11 => ?_
      refine awp_region rfl ?_  -- region 7
      simp only [go_sem, vcSeq, hl, legAV, Nat.reduceAdd, Nat.reduceMul, Nat.reduceSub, Nat.reduceLeDiff, Nat.reduceEqDiff, Nat.reduceLT]
      refine ⟨⟨by omega, by omega⟩, ?_⟩
      refine vsem_call (fun hN => lstep_pure0 rfl rfl rfl ⟨Tryd.func74, rfl, rfl⟩ hN (w74 l n hn0 hn1 (hz l hml)) rfl ?_) (.inl rfl) ?_
      · simp only [go_sem, legAV]
      simp only [go_sem, vcSeq, Nat.reduceAdd, Nat.reduceMul, Nat.reduceSub, Nat.reduceLeDiff, Nat.reduceEqDiff, Nat.reduceLT]
      apply hK11; clear hK11 K11
      refine awp_seq_k fun K12 hK12 => ?_
      refine awp_region rfl ?_  -- region 8
      simp only [go_sem, vcSeq, Nat.reduceAdd, Nat.reduceMul, Nat.reduceSub, Nat.reduceLeDiff, Nat.reduceEqDiff, Nat.reduceLT]
      apply hK12; clear hK12 K12
      refine awp_cond rfl ?_ ?_
      · intro hc3
        have h5 : szLeg l n < 0 := by simpa using hc3
        refine awp_seq_k fun K13 hK13 => ?_
        refine awp_region rfl ?_  -- region 9
        simp only [go_sem, vcSeq, Nat.reduceAdd, Nat.reduceMul, Nat.reduceSub, Nat.reduceLeDiff, Nat.reduceEqDiff, Nat.reduceLT]
        apply hK13; clear hK13 K13
        refine awp_ret ?_
        simp only [go_sem, loopQ]
        rw [hdrop, szLegs1, if_pos h5] at hfold
        refine final0 ?_ trivial
        simp only [go_sem, Nat.reduceEqDiff, szLegs, if_neg h3, ← hfold]
      · intro hc3
        have h5 : ¬ szLeg l n < 0 := by simpa using hc3
        refine awp_skip ?_
        try simp only [athen]
        try simp only [go_sem, loopQ, Nat.reduceEqDiff]
        apply hK10; clear hK10 K10
        have hw : IntKind.i64.wrap ((i : Int) + 1) = ((i + 1 : Nat) : Int) := by rw [IntKind.wrap_i64]; omega
        refine awp_region rfl ?_  -- region 6
        simp only [go_sem, vcSeq, hw, Nat.reduceAdd, Nat.reduceMul, Nat.reduceSub, Nat.reduceLeDiff, Nat.reduceEqDiff, Nat.reduceLT]
        try simp only [loopQ, athen, inBlk]
        refine ⟨(i + 1, szLeg l n), ⟨by omega, by simp only; omega, by have := szLeg_le l n hn0; simp only; omega, by rw [hdrop, szLegs1, if_neg h5] at hfold; exact hfold⟩, by omega, [], ?_⟩
        simp only [go_sem, Nat.reduceAdd, Nat.reduceMul, Nat.reduceSub, Nat.reduceLeDiff, Nat.reduceEqDiff, Nat.reduceLT] <;> simp
    · intro hc2
      have hge : ls.length ≤ i := by have h9 : ¬ i < ls.length := (by simpa using hc2); omega
      refine awp_exit ?_
      try simp only [go_sem, loopQ, Nat.reduceEqDiff]
      clear hK8 K8
      apply hK6; clear hK6 K6
      refine awp_seq_k fun K14 hK14 => ?_
      refine awp_region rfl ?_  -- region 10
      simp only [go_sem, vcSeq, Nat.reduceAdd, Nat.reduceMul, Nat.reduceSub, Nat.reduceLeDiff, Nat.reduceEqDiff, Nat.reduceLT]
      apply hK14; clear hK14 K14
      refine awp_ret ?_
      rw [List.drop_eq_nil_of_le hge, szLegs1] at hfold
      refine final0 ?_ trivial
      simp only [go_sem, Nat.reduceEqDiff, szLegs, if_neg h3, ← hfold]

theorem w26 (p : Post) (left : Int) (h0 : 0 ≤ left) (h1 : left ≤ 1048576) (hlen : p.legs.length ≤ 9223372036854775807) (hz : ∀ l ∈ p.legs, l.acct.size ≤ 9223372036854775807) : Pure P 26 [postAV p, .raw (.int .i64 left)] [] 0 (.raw (.int .i64 (szPost p left))) := by  -- "loop.example/comptoir/laws.szPost"
  refine pure_of_awp (fn := Tryd.f26) (N := 12) (vs := [.tmp 4]) ⟨Tryd.func26, rfl, rfl⟩ rfl rfl (by simp) ?_
  simp only [enumE, postAV]
  refine awp_seq_k fun K1 hK1 => ?_
  refine awp_region rfl ?_  -- region 0
  simp only [go_sem, vcSeq, Nat.reduceAdd, Nat.reduceMul, Nat.reduceSub, Nat.reduceLeDiff, Nat.reduceEqDiff, Nat.reduceLT]
  apply hK1; clear hK1 K1
  refine awp_seq_k fun K2 hK2 => ?_
  refine awp_region rfl ?_  -- region 1
  simp only [go_sem, vcSeq, Nat.reduceAdd, Nat.reduceMul, Nat.reduceSub, Nat.reduceLeDiff, Nat.reduceEqDiff, Nat.reduceLT]
  refine vsem_call (fun hN => lstep_pure0 rfl rfl rfl ⟨Tryd.func56, rfl, rfl⟩ hN (w56 p.legs left h0 h1 hlen hz) rfl ?_) (.inl rfl) ?_
  · simp only [go_sem, Nat.reduceAdd, Nat.reduceMul, Nat.reduceSub, Nat.reduceLeDiff, Nat.reduceEqDiff, Nat.reduceLT]
  simp only [go_sem, vcSeq, Nat.reduceAdd, Nat.reduceMul, Nat.reduceSub, Nat.reduceLeDiff, Nat.reduceEqDiff, Nat.reduceLT]
  apply hK2; clear hK2 K2
  refine awp_seq_k fun K3 hK3 => ?_
  refine awp_seq_k fun K4 hK4 => ?_
  refine awp_region rfl ?_  -- region 2
  simp only [go_sem, vcSeq, Nat.reduceAdd, Nat.reduceMul, Nat.reduceSub, Nat.reduceLeDiff, Nat.reduceEqDiff, Nat.reduceLT]
  apply hK4; clear hK4 K4
  refine awp_cond rfl ?_ ?_
  · intro hc1
    have h3 : szLegs p.legs left < 0 := by simpa using hc1
    refine awp_seq_k fun K5 hK5 => ?_
    refine awp_region rfl ?_  -- region 3
    simp only [go_sem, vcSeq, Nat.reduceAdd, Nat.reduceMul, Nat.reduceSub, Nat.reduceLeDiff, Nat.reduceEqDiff, Nat.reduceLT]
    apply hK5; clear hK5 K5
    refine awp_ret ?_
    refine final0 ?_ trivial
    simp only [go_sem, szPost, h3, Nat.reduceAdd, Nat.reduceMul, Nat.reduceSub, Nat.reduceLeDiff, Nat.reduceEqDiff, Nat.reduceLT]
  · intro hc1
    have h3 : ¬ szLegs p.legs left < 0 := by simpa using hc1
    refine awp_skip ?_
    try simp only [athen]
    apply hK3; clear hK3 K3
    refine awp_seq_k fun K6 hK6 => ?_
    refine awp_region rfl ?_  -- region 4
    simp only [go_sem, vcSeq, Nat.reduceAdd, Nat.reduceMul, Nat.reduceSub, Nat.reduceLeDiff, Nat.reduceEqDiff, Nat.reduceLT]
    apply hK6; clear hK6 K6
    refine awp_ret ?_
    refine final0 ?_ trivial
    simp only [go_sem, szPost, h3, Nat.reduceAdd, Nat.reduceMul, Nat.reduceSub, Nat.reduceLeDiff, Nat.reduceEqDiff, Nat.reduceLT]

theorem w25 (ls : List Post) (left : Int) (h0 : 0 ≤ left) (h1 : left ≤ 1048576) (hlen : ls.length ≤ 9223372036854775807) (hz : ∀ l ∈ ls, l.legs.length ≤ 9223372036854775807 ∧ ∀ x ∈ l.legs, x.acct.size ≤ 9223372036854775807) : Pure P 25 [.sl 2 (ls.map postAV), .raw (.int .i64 left)] [] 0 (.raw (.int .i64 (szPosts ls left))) := by  -- "loop.example/comptoir/laws.szPostS"
  refine pure_of_awp (fn := Tryd.f25) (N := 27) (vs := [.tmp 4]) ⟨Tryd.func25, rfl, rfl⟩ rfl rfl (by simp) ?_
  simp only [enumE]
  have hw0 : IntKind.i64.wrap (left - (ls.length : Int)) = left - ls.length := by rw [IntKind.wrap_i64]; omega
  refine awp_seq_k fun K1 hK1 => ?_
  refine awp_region rfl ?_  -- region 0
  simp only [go_sem, vcSeq, Nat.reduceAdd, Nat.reduceMul, Nat.reduceSub, Nat.reduceLeDiff, Nat.reduceEqDiff, Nat.reduceLT]
  apply hK1; clear hK1 K1
  refine awp_seq_k fun K2 hK2 => ?_
  refine awp_region rfl ?_  -- region 1
  simp only [go_sem, vcSeq, hw0, Nat.reduceAdd, Nat.reduceMul, Nat.reduceSub, Nat.reduceLeDiff, Nat.reduceEqDiff, Nat.reduceLT]
  apply hK2; clear hK2 K2
  refine awp_seq_k fun K3 hK3 => ?_
  refine awp_seq_k fun K4 hK4 => ?_
  refine awp_region rfl ?_  -- region 2
  simp only [go_sem, vcSeq, Nat.reduceAdd, Nat.reduceMul, Nat.reduceSub, Nat.reduceLeDiff, Nat.reduceEqDiff, Nat.reduceLT]
  apply hK4; clear hK4 K4
  refine awp_cond rfl ?_ ?_
  · intro hc1
    have h3 : left - (ls.length : Int) < 0 := by simpa using hc1
    refine awp_seq_k fun K5 hK5 => ?_
    refine awp_region rfl ?_  -- region 3
    simp only [go_sem, vcSeq, Nat.reduceAdd, Nat.reduceMul, Nat.reduceSub, Nat.reduceLeDiff, Nat.reduceEqDiff, Nat.reduceLT]
    apply hK5; clear hK5 K5
    refine awp_ret ?_
    refine final0 ?_ trivial
    simp only [go_sem, szPosts, h3, Nat.reduceAdd, Nat.reduceMul, Nat.reduceSub, Nat.reduceLeDiff, Nat.reduceEqDiff, Nat.reduceLT]
  · intro hc1
    have h3 : ¬ left - (ls.length : Int) < 0 := by simpa using hc1
    refine awp_skip ?_
    try simp only [athen]
    apply hK3; clear hK3 K3
    refine awp_seq_k fun K6 hK6 => ?_
    refine awp_seq_k fun K7 hK7 => ?_
    refine awp_region rfl ?_  -- region 4
    simp only [go_sem, vcSeq, Nat.reduceAdd, Nat.reduceMul, Nat.reduceSub, Nat.reduceLeDiff, Nat.reduceEqDiff, Nat.reduceLT]
    apply hK7; clear hK7 K7
    refine awp_block ?_  -- block 0
    refine awp_loop_c (α := Nat × Int) (fun x => x.1 ≤ ls.length ∧ 0 ≤ x.2 ∧ x.2 ≤ 1048576 ∧ szPosts1 (ls.drop x.1) x.2 = szPosts1 ls (left - ls.length)) (fun x => ls.length - x.1) (fun x => ([(1, .raw (.int .i64 x.2)), (5, .raw (.int .i64 (x.1 : Int))), (0, .sl 2 (ls.map postAV))], [])) 0 (0, left - ls.length) ⟨Nat.zero_le _, by omega, by simp only; omega, by simp⟩ [] ?_ ?_
    · simp only [go_sem, Int.natCast_zero, Nat.reduceAdd, Nat.reduceMul, Nat.reduceSub, Nat.reduceLeDiff, Nat.reduceEqDiff, Nat.reduceLT] <;> simp
    rintro ⟨i, n⟩ ⟨hi, hn0, hn1, hfold⟩
    simp only at hi hn0 hn1 hfold ⊢
    refine awp_seq_k fun K8 hK8 => ?_
    refine awp_seq_k fun K9 hK9 => ?_
    refine awp_region rfl ?_  -- region 5
    simp only [go_sem, vcSeq, Nat.reduceAdd, Nat.reduceMul, Nat.reduceSub, Nat.reduceLeDiff, Nat.reduceEqDiff, Nat.reduceLT]
    apply hK9; clear hK9 K9
    refine awp_cond rfl ?_ ?_
    · intro hc2
      have hlt : i < ls.length := by simpa using hc2
      obtain ⟨l, hl⟩ : ∃ l, ls[i]? = some l := ⟨_, List.getElem?_eq_getElem hlt⟩
      have hdrop := drop_get hl
      have hml := List.mem_of_getElem? hl
      refine awp_skip ?_
      try simp only [athen]
      apply hK8; clear hK8 K8
      refine awp_seq_k fun K10 hK10 => ?_
      refine awp_block ?_  -- block 1
      refine awp_seq_k fun K11 hK11 => ?_
      refine awp_region rfl ?_  -- region 7
      simp only [go_sem, vcSeq, hl, postAV, Nat.reduceAdd, Nat.reduceMul, Nat.reduceSub, Nat.reduceLeDiff, Nat.reduceEqDiff, Nat.reduceLT]
      refine ⟨⟨by omega, by omega⟩, ?_⟩
      refine vsem_call (fun hN => lstep_pure0 rfl rfl rfl ⟨Tryd.func26, rfl, rfl⟩ hN (w26 l n hn0 hn1 (hz l hml).1 (hz l hml).2) rfl ?_) (.inl rfl) ?_
      · simp only [go_sem, postAV]
      simp only [go_sem, vcSeq, Nat.reduceAdd, Nat.reduceMul, Nat.reduceSub, Nat.reduceLeDiff, Nat.reduceEqDiff, Nat.reduceLT]
      apply hK11; clear hK11 K11
      refine awp_seq_k fun K12 hK12 => ?_
      refine awp_region rfl ?_  -- region 8
      simp only [go_sem, vcSeq, Nat.reduceAdd, Nat.reduceMul, Nat.reduceSub, Nat.reduceLeDiff, Nat.reduceEqDiff, Nat.reduceLT]
      apply hK12; clear hK12 K12
      refine awp_cond rfl ?_ ?_
      · intro hc3
        have h5 : szPost l n < 0 := by simpa using hc3
        refine awp_seq_k fun K13 hK13 => ?_
        refine awp_region rfl ?_  -- region 9
        simp only [go_sem, vcSeq, Nat.reduceAdd, Nat.reduceMul, Nat.reduceSub, Nat.reduceLeDiff, Nat.reduceEqDiff, Nat.reduceLT]
        apply hK13; clear hK13 K13
        refine awp_ret ?_
        simp only [go_sem, loopQ]
        rw [hdrop, szPosts1, if_pos h5] at hfold
        refine final0 ?_ trivial
        simp only [go_sem, Nat.reduceEqDiff, szPosts, if_neg h3, ← hfold]
      · intro hc3
        have h5 : ¬ szPost l n < 0 := by simpa using hc3
        refine awp_skip ?_
        try simp only [athen]
        try simp only [go_sem, loopQ, Nat.reduceEqDiff]
        apply hK10; clear hK10 K10
        have hw : IntKind.i64.wrap ((i : Int) + 1) = ((i + 1 : Nat) : Int) := by rw [IntKind.wrap_i64]; omega
        refine awp_region rfl ?_  -- region 6
        simp only [go_sem, vcSeq, hw, Nat.reduceAdd, Nat.reduceMul, Nat.reduceSub, Nat.reduceLeDiff, Nat.reduceEqDiff, Nat.reduceLT]
        try simp only [loopQ, athen, inBlk]
        refine ⟨(i + 1, szPost l n), ⟨by omega, by simp only; omega, by have := szPost_le l n hn0; simp only; omega, by rw [hdrop, szPosts1, if_neg h5] at hfold; exact hfold⟩, by omega, [], ?_⟩
        simp only [go_sem, Nat.reduceAdd, Nat.reduceMul, Nat.reduceSub, Nat.reduceLeDiff, Nat.reduceEqDiff, Nat.reduceLT] <;> simp
    · intro hc2
      have hge : ls.length ≤ i := by have h9 : ¬ i < ls.length := (by simpa using hc2); omega
      refine awp_exit ?_
      try simp only [go_sem, loopQ, Nat.reduceEqDiff]
      clear hK8 K8
      apply hK6; clear hK6 K6
      refine awp_seq_k fun K14 hK14 => ?_
      refine awp_region rfl ?_  -- region 10
      simp only [go_sem, vcSeq, Nat.reduceAdd, Nat.reduceMul, Nat.reduceSub, Nat.reduceLeDiff, Nat.reduceEqDiff, Nat.reduceLT]
      apply hK14; clear hK14 K14
      refine awp_ret ?_
      rw [List.drop_eq_nil_of_le hge, szPosts1] at hfold
      refine final0 ?_ trivial
      simp only [go_sem, Nat.reduceEqDiff, szPosts, if_neg h3, ← hfold]

end Go.Proofs.T
end

/- C15 -/
section
set_option linter.unusedVariables false
set_option linter.unusedSimpArgs false
open Go Go.Abs Go.Proofs
namespace Go.Proofs.T
set_option maxRecDepth 20000
attribute [local go_sem] legAV_bel legAV_ren postAV_bel postAV_ren legAV_elem postOwn_bel postOwn_ren
/-- A row in the making: the first i elements are there. -/
def mix {α : Type} (f : α → AV) (xs : List α) (z : AV) (i : Nat) : List AV := (xs.take i).map f ++ List.replicate (xs.length - i) z
theorem mix_zero {α : Type} (f : α → AV) (xs : List α) (z : AV) : mix f xs z 0 = List.replicate xs.length z := by simp [mix]
theorem mix_end {α : Type} (f : α → AV) (xs : List α) (z : AV) : mix f xs z xs.length = xs.map f := by simp [mix]
theorem mix_len {α : Type} (f : α → AV) {xs : List α} {z : AV} {i : Nat} (h : i ≤ xs.length) : (mix f xs z i).length = xs.length := by simp [mix]; omega
theorem mix_get {α : Type} (f : α → AV) {xs : List α} {z : AV} {i : Nat} (h : i < xs.length) : (mix f xs z i)[i]? = some z := by
  unfold mix
  have hl : ((xs.take i).map f).length = i := by rw [List.length_map, List.length_take]; omega
  rw [List.getElem?_append_right (by omega), hl, Nat.sub_self, List.getElem?_replicate, if_pos (by omega)]
theorem mix_set {α : Type} (f : α → AV) {xs : List α} {z : AV} {i : Nat} {x : α} (h : xs[i]? = some x) : (mix f xs z i).set i (f x) = mix f xs z (i + 1) := by
  have hlt := (List.getElem?_eq_some_iff.1 h).1
  have hl : ((xs.take i).map f).length = i := by rw [List.length_map, List.length_take]; omega
  unfold mix
  rw [List.set_append_right _ _ (by omega), hl, Nat.sub_self, List.take_add_one, h]
  have hr : xs.length - i = (xs.length - (i + 1)) + 1 := by omega
  rw [hr, List.replicate_succ, List.set_cons_zero]
  simp
abbrev zLeg : AV := .agg [.raw (.string ⟨#[]⟩), .raw (.int .i64 0), .raw (.int .i64 0)]
abbrev zPost : AV := .agg [.raw (.int .i64 0), .raw (.slice none 0 0)]
theorem rep_bel (U : Nat → Prop) (n : Nat) {z : AV} (h : z.bel U) : belL U (List.replicate n z) := by
  rw [belL_iff]; intro x hx; rw [(List.mem_replicate.1 hx).2]; exact h
theorem zLegs_bel (U : Nat → Prop) (n : Nat) : belL U (List.replicate n zLeg) := rep_bel U n ⟨trivial, trivial, trivial, trivial⟩
theorem zPosts_bel (U : Nat → Prop) (n : Nat) : belL U (List.replicate n zPost) := rep_bel U n ⟨trivial, trivial, trivial⟩
theorem mixLeg_bel (U : Nat → Prop) (ls : List Leg) (i : Nat) : belL U (mix legAV ls zLeg i) := by
  unfold mix
  rw [belL_iff]; intro x hx
  rcases List.mem_append.1 hx with h | h
  · exact belL_iff.1 (legAV_bel U (ls.take i)) x h
  · exact belL_iff.1 (zLegs_bel U _) x h
theorem mixPost_bel (U : Nat → Prop) (ls : List Post) (i : Nat) : belL U (mix postOwn ls zPost i) := by
  unfold mix
  rw [belL_iff]; intro x hx
  rcases List.mem_append.1 hx with h | h
  · exact belL_iff.1 (postOwn_bel U (ls.take i)) x h
  · exact belL_iff.1 (zPosts_bel U _) x h

theorem w75 (l : Leg) : Pure P 75 [legAV l] [] 0 (legAV l) := by  -- "loop.example/comptoir/laws.toLeg"
  refine pure_of_awp (fn := Tryd.f75) (N := 14) (vs := [.cell 2 35]) ⟨Tryd.func75, rfl, rfl⟩ rfl rfl (by simp) ?_
  simp only [enumE, legAV]
  refine awp_seq_k fun K1 hK1 => ?_
  refine awp_region rfl ?_  -- region 0
  simp only [go_sem, vcSeq, Nat.reduceAdd, Nat.reduceMul, Nat.reduceSub, Nat.reduceLeDiff, Nat.reduceEqDiff, Nat.reduceLT]
  apply hK1; clear hK1 K1
  refine awp_seq_k fun K2 hK2 => ?_
  refine awp_region rfl ?_  -- region 1
  simp only [go_sem, vcSeq, Nat.reduceAdd, Nat.reduceMul, Nat.reduceSub, Nat.reduceLeDiff, Nat.reduceEqDiff, Nat.reduceLT]
  apply hK2; clear hK2 K2
  refine awp_seq_k fun K3 hK3 => ?_
  refine awp_region rfl ?_  -- region 2
  simp only [go_sem, vcSeq, Nat.reduceAdd, Nat.reduceMul, Nat.reduceSub, Nat.reduceLeDiff, Nat.reduceEqDiff, Nat.reduceLT]
  apply hK3; clear hK3 K3
  refine awp_seq_k fun K4 hK4 => ?_
  refine awp_region rfl ?_  -- region 3
  simp only [go_sem, vcSeq, Nat.reduceAdd, Nat.reduceMul, Nat.reduceSub, Nat.reduceLeDiff, Nat.reduceEqDiff, Nat.reduceLT]
  apply hK4; clear hK4 K4
  refine awp_seq_k fun K5 hK5 => ?_
  refine awp_region rfl ?_  -- region 4
  simp only [go_sem, vcSeq, Nat.reduceAdd, Nat.reduceMul, Nat.reduceSub, Nat.reduceLeDiff, Nat.reduceEqDiff, Nat.reduceLT]
  apply hK5; clear hK5 K5
  refine awp_seq_k fun K6 hK6 => ?_
  refine awp_region rfl ?_  -- region 5
  simp only [go_sem, vcSeq, Nat.reduceAdd, Nat.reduceMul, Nat.reduceSub, Nat.reduceLeDiff, Nat.reduceEqDiff, Nat.reduceLT]
  apply hK6; clear hK6 K6
  refine awp_ret ?_
  refine final0 ?_ ⟨trivial, trivial, trivial, trivial⟩
  simp only [go_sem, legAV, Nat.reduceAdd, Nat.reduceMul, Nat.reduceSub, Nat.reduceLeDiff, Nat.reduceEqDiff, Nat.reduceLT]

theorem w57 (ls : List Leg) (hlen : ls.length ≤ 1048576) : Gives P 57 [.sl 3 (ls.map legAV)] [] 0 (.ref 0) [(0, .row 35 3 (ls.map legAV))] 1 := by  -- "loop.example/comptoir/laws.toLegS"
  refine gives_of_awp (fn := Tryd.f57) (N := 23) (vs := [.tmp 2]) ⟨Tryd.func57, rfl, rfl⟩ rfl rfl (by simp) ?_
  simp only [enumE]
  refine awp_seq_k fun K1 hK1 => ?_
  refine awp_region rfl ?_  -- region 0
  simp only [go_sem, vcSeq, Nat.reduceAdd, Nat.reduceMul, Nat.reduceSub, Nat.reduceLeDiff, Nat.reduceEqDiff, Nat.reduceLT]
  apply hK1; clear hK1 K1
  refine awp_seq_k fun K2 hK2 => ?_
  refine awp_region rfl ?_  -- region 1
  simp only [go_sem, vcSeq, Nat.reduceAdd, Nat.reduceMul, Nat.reduceSub, Nat.reduceLeDiff, Nat.reduceEqDiff, Nat.reduceLT]
  refine ⟨⟨by omega, by omega, by omega, by simp [maxLen]; omega⟩, ?_⟩
  apply hK2; clear hK2 K2
  refine awp_seq_k fun K3 hK3 => ?_
  refine awp_seq_k fun K4 hK4 => ?_
  refine awp_region rfl ?_  -- region 2
  simp only [go_sem, vcSeq, Nat.reduceAdd, Nat.reduceMul, Nat.reduceSub, Nat.reduceLeDiff, Nat.reduceEqDiff, Nat.reduceLT]
  apply hK4; clear hK4 K4
  refine awp_block ?_  -- block 0
  refine awp_loop_c (α := Nat) (fun x => x ≤ ls.length) (fun x => ls.length - x) (fun x => ([(4, .raw (.int .i64 (x : Int))), (0, .sl 3 (ls.map legAV)), (3, .ref 0)], [(0, .row 35 3 (mix legAV ls zLeg x))])) 1 0 (Nat.zero_le _) [] ?_ ?_
  · rw [mix_zero]
    simp only [go_sem, AObj.bel, zLeg, zLegs_bel, Int.natCast_zero, Nat.reduceEqDiff, Nat.reduceLeDiff, Nat.reduceLT, Nat.reduceAdd] <;> simp [zLegs_bel]
  rintro i hi
  skip
  refine awp_seq_k fun K5 hK5 => ?_
  refine awp_seq_k fun K6 hK6 => ?_
  refine awp_region rfl ?_  -- region 3
  simp only [go_sem, vcSeq, Nat.reduceAdd, Nat.reduceMul, Nat.reduceSub, Nat.reduceLeDiff, Nat.reduceEqDiff, Nat.reduceLT]
  apply hK6; clear hK6 K6
  refine awp_cond rfl ?_ ?_
  · intro hc1
    have hlt : i < ls.length := by simpa using hc1
    obtain ⟨l, hl⟩ : ∃ l, ls[i]? = some l := ⟨_, List.getElem?_eq_getElem hlt⟩
    have hdrop := drop_get hl
    have hml := List.mem_of_getElem? hl
    have hmg := mix_get legAV (z := zLeg) hlt
    have hms := mix_set legAV (z := zLeg) hl
    have hml2 := mix_len legAV (xs := ls) (z := zLeg) hi
    refine awp_skip ?_
    try simp only [athen]
    apply hK5; clear hK5 K5
    refine awp_seq_k fun K7 hK7 => ?_
    refine awp_block ?_  -- block 1
    refine awp_region rfl ?_  -- region 5
    simp only [go_sem, vcSeq, hl, legAV, Nat.reduceAdd, Nat.reduceMul, Nat.reduceSub, Nat.reduceLeDiff, Nat.reduceEqDiff, Nat.reduceLT]
    refine ⟨⟨by omega, by omega⟩, ?_⟩
    refine vsem_call (fun hN => lstep_pure0 rfl rfl rfl ⟨Tryd.func75, rfl, rfl⟩ hN (w75 l) (by simp only [go_sem, legAV, Nat.reduceEqDiff]) ?_) (.inl rfl) ?_
    · simp only [go_sem, legAV]
    simp only [go_sem, vcSeq, legAV, hmg, hml2, Nat.reduceAdd, Nat.reduceMul, Nat.reduceSub, Nat.reduceLeDiff, Nat.reduceEqDiff, Nat.reduceLT]
    refine ⟨⟨by omega, by omega⟩, ?_⟩
    have hms' : (mix legAV ls zLeg i).set i (.agg [.raw (.string l.acct), .raw (.int .i64 l.cur), .raw (.int .i64 l.n)]) = mix legAV ls zLeg (i + 1) := hms
    rw [hms']
    try simp only [go_sem, loopQ, Nat.reduceEqDiff]
    apply hK7; clear hK7 K7
    have hw : IntKind.i64.wrap ((i : Int) + 1) = ((i + 1 : Nat) : Int) := by rw [IntKind.wrap_i64]; omega
    refine awp_region rfl ?_  -- region 4
    simp only [go_sem, vcSeq, hw, Nat.reduceAdd, Nat.reduceMul, Nat.reduceSub, Nat.reduceLeDiff, Nat.reduceEqDiff, Nat.reduceLT]
    try simp only [loopQ, athen, inBlk]
    refine ⟨i + 1, by omega, by omega, [], ?_⟩
    simp only [go_sem, AObj.bel, mixLeg_bel, Nat.reduceEqDiff, Nat.reduceLeDiff, Nat.reduceLT] <;> simp
  · intro hc1
    have hge : ls.length ≤ i := by have h9 : ¬ i < ls.length := (by simpa using hc1); omega
    refine awp_exit ?_
    try simp only [go_sem, loopQ, Nat.reduceEqDiff]
    clear hK5 K5
    apply hK3; clear hK3 K3
    refine awp_seq_k fun K8 hK8 => ?_
    refine awp_region rfl ?_  -- region 6
    simp only [go_sem, vcSeq, Nat.reduceAdd, Nat.reduceMul, Nat.reduceSub, Nat.reduceLeDiff, Nat.reduceEqDiff, Nat.reduceLT]
    apply hK8; clear hK8 K8
    refine awp_ret ?_
    have hie : i = ls.length := by omega
    subst hie
    rw [mix_end]
    refine ⟨[], ?_⟩
    simp only [go_sem, AObj.bel, Nat.reduceEqDiff, Nat.reduceLeDiff, Nat.reduceLT] <;> simp

theorem w28 (p : Post) (hlen : p.legs.length ≤ 1048576) : Gives P 28 [postAV p] [] 0 (.agg [.raw (.int .i64 p.id), .ref 0]) [(0, .row 35 3 (p.legs.map legAV))] 1 := by  -- "loop.example/comptoir/laws.toPost"
  refine gives_of_awp (fn := Tryd.f28) (N := 12) (vs := [.cell 2 31]) ⟨Tryd.func28, rfl, rfl⟩ rfl rfl (by simp) ?_
  simp only [enumE, postAV]
  refine awp_seq_k fun K1 hK1 => ?_
  refine awp_region rfl ?_  -- region 0
  simp only [go_sem, vcSeq, Nat.reduceAdd, Nat.reduceMul, Nat.reduceSub, Nat.reduceLeDiff, Nat.reduceEqDiff, Nat.reduceLT]
  apply hK1; clear hK1 K1
  refine awp_seq_k fun K2 hK2 => ?_
  refine awp_region rfl ?_  -- region 1
  simp only [go_sem, vcSeq, Nat.reduceAdd, Nat.reduceMul, Nat.reduceSub, Nat.reduceLeDiff, Nat.reduceEqDiff, Nat.reduceLT]
  apply hK2; clear hK2 K2
  refine awp_seq_k fun K3 hK3 => ?_
  refine awp_region rfl ?_  -- region 2
  simp only [go_sem, vcSeq, Nat.reduceAdd, Nat.reduceMul, Nat.reduceSub, Nat.reduceLeDiff, Nat.reduceEqDiff, Nat.reduceLT]
  apply hK3; clear hK3 K3
  refine awp_seq_k fun K4 hK4 => ?_
  refine awp_region rfl ?_  -- region 3
  simp only [go_sem, vcSeq, Nat.reduceAdd, Nat.reduceMul, Nat.reduceSub, Nat.reduceLeDiff, Nat.reduceEqDiff, Nat.reduceLT]
  refine vsem_call (fun hN => lstep_gives (s := []) 1 rfl rfl rfl ⟨Tryd.func57, rfl, rfl⟩ hN (w57 p.legs hlen) rfl (by simp only [go_sem, Nat.reduceEqDiff]) ?_ (fit_new (by simp) (by omega))) (.inr (by decide)) ?_
  · simp only [go_sem]
  simp only [go_sem, vcSeq, AV.ren, AObj.ren, renL, shift, sg, Nat.le_refl, Nat.add_zero, Nat.sub_self, Nat.reduceAdd, Nat.reduceMul, Nat.reduceSub, Nat.reduceLeDiff, Nat.reduceEqDiff, Nat.reduceLT]
  apply hK4; clear hK4 K4
  refine awp_seq_k fun K5 hK5 => ?_
  refine awp_region rfl ?_  -- region 4
  simp only [go_sem, vcSeq, Nat.reduceAdd, Nat.reduceMul, Nat.reduceSub, Nat.reduceLeDiff, Nat.reduceEqDiff, Nat.reduceLT]
  apply hK5; clear hK5 K5
  refine awp_ret ?_
  refine ⟨[(0, 3)], ?_⟩
  simp only [go_sem, AObj.bel, AObj.ren, AV.ren, renL, sg, Nat.reduceAdd, Nat.reduceMul, Nat.reduceSub, Nat.reduceLeDiff, Nat.reduceEqDiff, Nat.reduceLT] <;> simp

theorem w27 (ls : List Post) (hlen : ls.length ≤ 1048576) (hs : ∀ p ∈ ls, p.legs.length ≤ 1048576) : Gives P 27 [.sl 2 (ls.map postAV)] [] 0 (.ref 0) [(0, .row 31 2 (ls.map postOwn))] 1 := by  -- "loop.example/comptoir/laws.toPostS"
  refine gives_of_awp (fn := Tryd.f27) (N := 23) (vs := [.tmp 2]) ⟨Tryd.func27, rfl, rfl⟩ rfl rfl (by simp) ?_
  simp only [enumE]
  refine awp_seq_k fun K1 hK1 => ?_
  refine awp_region rfl ?_  -- region 0
  simp only [go_sem, vcSeq, Nat.reduceAdd, Nat.reduceMul, Nat.reduceSub, Nat.reduceLeDiff, Nat.reduceEqDiff, Nat.reduceLT]
  apply hK1; clear hK1 K1
  refine awp_seq_k fun K2 hK2 => ?_
  refine awp_region rfl ?_  -- region 1
  simp only [go_sem, vcSeq, Nat.reduceAdd, Nat.reduceMul, Nat.reduceSub, Nat.reduceLeDiff, Nat.reduceEqDiff, Nat.reduceLT]
  refine ⟨⟨by omega, by omega, by omega, by simp [maxLen]; omega⟩, ?_⟩
  apply hK2; clear hK2 K2
  refine awp_seq_k fun K3 hK3 => ?_
  refine awp_seq_k fun K4 hK4 => ?_
  refine awp_region rfl ?_  -- region 2
  simp only [go_sem, vcSeq, Nat.reduceAdd, Nat.reduceMul, Nat.reduceSub, Nat.reduceLeDiff, Nat.reduceEqDiff, Nat.reduceLT]
  apply hK4; clear hK4 K4
  refine awp_block ?_  -- block 0
  refine awp_loop_c (α := Nat) (fun x => x ≤ ls.length) (fun x => ls.length - x) (fun x => ([(4, .raw (.int .i64 (x : Int))), (0, .sl 2 (ls.map postAV)), (3, .ref 0)], [(0, .row 31 2 (mix postOwn ls zPost x))])) 1 0 (Nat.zero_le _) [] ?_ ?_
  · rw [mix_zero]
    simp only [go_sem, AObj.bel, zPost, Int.natCast_zero, Nat.reduceEqDiff, Nat.reduceLeDiff, Nat.reduceLT, Nat.reduceAdd] <;> simp [zPosts_bel]
  rintro i hi
  skip
  refine awp_seq_k fun K5 hK5 => ?_
  refine awp_seq_k fun K6 hK6 => ?_
  refine awp_region rfl ?_  -- region 3
  simp only [go_sem, vcSeq, Nat.reduceAdd, Nat.reduceMul, Nat.reduceSub, Nat.reduceLeDiff, Nat.reduceEqDiff, Nat.reduceLT]
  apply hK6; clear hK6 K6
  refine awp_cond rfl ?_ ?_
  · intro hc1
    have hlt : i < ls.length := by simpa using hc1
    obtain ⟨l, hl⟩ : ∃ l, ls[i]? = some l := ⟨_, List.getElem?_eq_getElem hlt⟩
    have hdrop := drop_get hl
    have hml := List.mem_of_getElem? hl
    have hmg := mix_get postOwn (z := zPost) hlt
    have hms := mix_set postOwn (z := zPost) hl
    have hml2 := mix_len postOwn (xs := ls) (z := zPost) hi
    refine awp_skip ?_
    try simp only [athen]
    apply hK5; clear hK5 K5
    refine awp_seq_k fun K7 hK7 => ?_
    refine awp_block ?_  -- block 1
    refine awp_region rfl ?_  -- region 5
    simp only [go_sem, vcSeq, hl, postAV, Nat.reduceAdd, Nat.reduceMul, Nat.reduceSub, Nat.reduceLeDiff, Nat.reduceEqDiff, Nat.reduceLT]
    refine ⟨⟨by omega, by omega⟩, ?_⟩
    refine vsem_call (fun hN => lstep_gives (s := []) 1 rfl rfl rfl ⟨Tryd.func28, rfl, rfl⟩ hN (w28 l (hs l hml)) rfl (by simp only [go_sem, postAV, Nat.reduceEqDiff]) ?_ (fit_new (by simp) (by omega))) (.inr (by decide)) ?_
    · simp only [go_sem, postAV]
    simp only [go_sem, vcSeq, AV.ren, AObj.ren, renL, shift, sg, Nat.le_refl, Nat.add_zero, Nat.sub_self, hmg, hml2, Nat.reduceAdd, Nat.reduceMul, Nat.reduceSub, Nat.reduceLeDiff, Nat.reduceEqDiff, Nat.reduceLT]
    refine ⟨⟨by omega, by omega⟩, ?_⟩
    have hms' : (mix postOwn ls zPost i).set i (.agg [.raw (.int .i64 l.id), .own 35 3 (l.legs.map legAV)]) = mix postOwn ls zPost (i + 1) := hms
    rw [hms']
    try simp only [go_sem, loopQ, Nat.reduceEqDiff]
    apply hK7; clear hK7 K7
    have hw : IntKind.i64.wrap ((i : Int) + 1) = ((i + 1 : Nat) : Int) := by rw [IntKind.wrap_i64]; omega
    refine awp_region rfl ?_  -- region 4
    simp only [go_sem, vcSeq, hw, Nat.reduceAdd, Nat.reduceMul, Nat.reduceSub, Nat.reduceLeDiff, Nat.reduceEqDiff, Nat.reduceLT]
    try simp only [loopQ, athen, inBlk]
    refine ⟨i + 1, by omega, by omega, [], ?_⟩
    simp only [go_sem, AObj.bel, mixPost_bel, Nat.reduceEqDiff, Nat.reduceLeDiff, Nat.reduceLT] <;> simp
  · intro hc1
    have hge : ls.length ≤ i := by have h9 : ¬ i < ls.length := (by simpa using hc1); omega
    refine awp_exit ?_
    try simp only [go_sem, loopQ, Nat.reduceEqDiff]
    clear hK5 K5
    apply hK3; clear hK3 K3
    refine awp_seq_k fun K8 hK8 => ?_
    refine awp_region rfl ?_  -- region 6
    simp only [go_sem, vcSeq, Nat.reduceAdd, Nat.reduceMul, Nat.reduceSub, Nat.reduceLeDiff, Nat.reduceEqDiff, Nat.reduceLT]
    apply hK8; clear hK8 K8
    refine awp_ret ?_
    have hie : i = ls.length := by omega
    subst hie
    rw [mix_end]
    refine ⟨[], ?_⟩
    simp only [go_sem, AObj.bel, Nat.reduceEqDiff, Nat.reduceLeDiff, Nat.reduceLT] <;> simp

theorem w76 (l : Leg) : Pure P 76 [legAV l, legAV l] [] 0 (.raw (.bool true)) := by  -- "loop.example/comptoir/laws.eqLeg"
  refine pure_of_awp (fn := Tryd.f76) (N := 20) (vs := [.tmp 4]) ⟨Tryd.func76, rfl, rfl⟩ rfl rfl (by simp) ?_
  simp only [enumE, legAV]
  refine awp_seq_k fun K1 hK1 => ?_
  refine awp_region rfl ?_  -- region 0
  simp only [go_sem, vcSeq, Nat.reduceAdd, Nat.reduceMul, Nat.reduceSub, Nat.reduceLeDiff, Nat.reduceEqDiff, Nat.reduceLT]
  apply hK1; clear hK1 K1
  refine awp_seq_k fun K2 hK2 => ?_
  refine awp_seq_k fun K3 hK3 => ?_
  refine awp_region rfl ?_  -- region 1
  simp only [go_sem, vcSeq, beq_self_eq_true, Bool.not_true, Nat.reduceAdd, Nat.reduceMul, Nat.reduceSub, Nat.reduceLeDiff, Nat.reduceEqDiff, Nat.reduceLT]
  apply hK3; clear hK3 K3
  refine awp_cond rfl (fun hc => by simp at hc) ?_
  intro hc1
  refine awp_skip ?_
  try simp only [athen]
  apply hK2; clear hK2 K2
  refine awp_seq_k fun K4 hK4 => ?_
  refine awp_seq_k fun K5 hK5 => ?_
  refine awp_region rfl ?_  -- region 3
  simp only [go_sem, vcSeq, decide_true, Bool.not_true, Nat.reduceAdd, Nat.reduceMul, Nat.reduceSub, Nat.reduceLeDiff, Nat.reduceEqDiff, Nat.reduceLT]
  apply hK5; clear hK5 K5
  refine awp_cond rfl (fun hc => by simp at hc) ?_
  intro hc2
  refine awp_skip ?_
  try simp only [athen]
  apply hK4; clear hK4 K4
  refine awp_seq_k fun K6 hK6 => ?_
  refine awp_seq_k fun K7 hK7 => ?_
  refine awp_region rfl ?_  -- region 5
  simp only [go_sem, vcSeq, decide_true, Bool.not_true, Nat.reduceAdd, Nat.reduceMul, Nat.reduceSub, Nat.reduceLeDiff, Nat.reduceEqDiff, Nat.reduceLT]
  apply hK7; clear hK7 K7
  refine awp_cond rfl (fun hc => by simp at hc) ?_
  intro hc3
  refine awp_skip ?_
  try simp only [athen]
  apply hK6; clear hK6 K6
  refine awp_seq_k fun K8 hK8 => ?_
  refine awp_region rfl ?_  -- region 7
  simp only [go_sem, vcSeq, Nat.reduceAdd, Nat.reduceMul, Nat.reduceSub, Nat.reduceLeDiff, Nat.reduceEqDiff, Nat.reduceLT]
  apply hK8; clear hK8 K8
  refine awp_ret ?_
  refine final0 ?_ trivial
  simp only [go_sem, Nat.reduceAdd, Nat.reduceMul, Nat.reduceSub, Nat.reduceLeDiff, Nat.reduceEqDiff, Nat.reduceLT]

theorem w58 (ls : List Leg) (hlen : ls.length ≤ 1048576) : Pure P 58 [.sl 3 (ls.map legAV), .sl 3 (ls.map legAV)] [] 0 (.raw (.bool true)) := by  -- "loop.example/comptoir/laws.eqLegS"
  refine pure_of_awp (fn := Tryd.f58) (N := 27) (vs := [.tmp 4]) ⟨Tryd.func58, rfl, rfl⟩ rfl rfl (by simp) ?_
  simp only [enumE]
  refine awp_seq_k fun K1 hK1 => ?_
  refine awp_region rfl ?_  -- region 0
  simp only [go_sem, vcSeq, Nat.reduceAdd, Nat.reduceMul, Nat.reduceSub, Nat.reduceLeDiff, Nat.reduceEqDiff, Nat.reduceLT]
  apply hK1; clear hK1 K1
  refine awp_seq_k fun K2 hK2 => ?_
  refine awp_seq_k fun K3 hK3 => ?_
  refine awp_region rfl ?_  -- region 1
  simp only [go_sem, vcSeq, decide_true, Bool.not_true, Nat.reduceAdd, Nat.reduceMul, Nat.reduceSub, Nat.reduceLeDiff, Nat.reduceEqDiff, Nat.reduceLT]
  apply hK3; clear hK3 K3
  refine awp_cond rfl (fun hc => by simp at hc) ?_
  intro hc1
  refine awp_skip ?_
  try simp only [athen]
  apply hK2; clear hK2 K2
  refine awp_seq_k fun K4 hK4 => ?_
  refine awp_seq_k fun K5 hK5 => ?_
  refine awp_region rfl ?_  -- region 3
  simp only [go_sem, vcSeq, Nat.reduceAdd, Nat.reduceMul, Nat.reduceSub, Nat.reduceLeDiff, Nat.reduceEqDiff, Nat.reduceLT]
  apply hK5; clear hK5 K5
  refine awp_block ?_  -- block 0
  refine awp_loop_c (α := Nat) (fun x => x ≤ ls.length) (fun x => ls.length - x) (fun x => ([(5, .raw (.int .i64 (x : Int))), (0, .sl 3 (ls.map legAV)), (1, .sl 3 (ls.map legAV))], [])) 0 0 (Nat.zero_le _) [] ?_ ?_
  · simp only [go_sem, Int.natCast_zero, Nat.reduceAdd, Nat.reduceMul, Nat.reduceSub, Nat.reduceLeDiff, Nat.reduceEqDiff, Nat.reduceLT] <;> simp
  rintro i hi
  skip
  refine awp_seq_k fun K6 hK6 => ?_
  refine awp_seq_k fun K7 hK7 => ?_
  refine awp_region rfl ?_  -- region 4
  simp only [go_sem, vcSeq, Nat.reduceAdd, Nat.reduceMul, Nat.reduceSub, Nat.reduceLeDiff, Nat.reduceEqDiff, Nat.reduceLT]
  apply hK7; clear hK7 K7
  refine awp_cond rfl ?_ ?_
  · intro hc2
    have hlt : i < ls.length := by simpa using hc2
    obtain ⟨l, hl⟩ : ∃ l, ls[i]? = some l := ⟨_, List.getElem?_eq_getElem hlt⟩
    have hdrop := drop_get hl
    have hml := List.mem_of_getElem? hl
    refine awp_skip ?_
    try simp only [athen]
    apply hK6; clear hK6 K6
    refine awp_seq_k fun K8 hK8 => ?_
    refine awp_block ?_  -- block 1
    refine awp_seq_k fun K9 hK9 => ?_
    refine awp_draw mixed rfl ?_  -- region 6
    simp only [go_sem, vcDraw, hl, legAV, Nat.reduceAdd, Nat.reduceMul, Nat.reduceSub, Nat.reduceLeDiff, Nat.reduceEqDiff, Nat.reduceLT]
    refine ⟨⟨by omega, by omega⟩, ⟨by omega, by omega⟩, ?_⟩
    refine vtr_call (fun hN => lstep_pure0 rfl rfl rfl ⟨Tryd.func76, rfl, rfl⟩ hN (w76 l) rfl ?_) (.inl rfl) ?_
    · simp only [go_sem, legAV]
    simp only [go_sem, vcDraw, Nat.reduceAdd, Nat.reduceMul, Nat.reduceSub, Nat.reduceLeDiff, Nat.reduceEqDiff, Nat.reduceLT]
    refine ⟨by rfl, ?_⟩
    apply hK9; clear hK9 K9
    refine awp_cond rfl (fun hc => by simp at hc) ?_
    intro hc3
    refine awp_skip ?_
    try simp only [athen]
    try simp only [go_sem, loopQ, Nat.reduceEqDiff]
    apply hK8; clear hK8 K8
    have hw : IntKind.i64.wrap ((i : Int) + 1) = ((i + 1 : Nat) : Int) := by rw [IntKind.wrap_i64]; omega
    refine awp_region rfl ?_  -- region 5
    simp only [go_sem, vcSeq, hw, Nat.reduceAdd, Nat.reduceMul, Nat.reduceSub, Nat.reduceLeDiff, Nat.reduceEqDiff, Nat.reduceLT]
    try simp only [loopQ, athen, inBlk]
    refine ⟨i + 1, by omega, by omega, [], ?_⟩
    simp only [go_sem, Nat.reduceAdd, Nat.reduceMul, Nat.reduceSub, Nat.reduceLeDiff, Nat.reduceEqDiff, Nat.reduceLT] <;> simp
  · intro hc2
    have hge : ls.length ≤ i := by have h9 : ¬ i < ls.length := (by simpa using hc2); omega
    refine awp_exit ?_
    try simp only [go_sem, loopQ, Nat.reduceEqDiff]
    clear hK6 K6
    apply hK4; clear hK4 K4
    refine awp_seq_k fun K10 hK10 => ?_
    refine awp_region rfl ?_  -- region 8
    simp only [go_sem, vcSeq, Nat.reduceAdd, Nat.reduceMul, Nat.reduceSub, Nat.reduceLeDiff, Nat.reduceEqDiff, Nat.reduceLT]
    apply hK10; clear hK10 K10
    refine awp_ret ?_
    refine final0 ?_ trivial
    simp only [go_sem, Nat.reduceAdd, Nat.reduceMul, Nat.reduceSub, Nat.reduceLeDiff, Nat.reduceEqDiff, Nat.reduceLT]

theorem w30 (p : Post) (hlen : p.legs.length ≤ 1048576) : Pure P 30 [postAV p, postAV p] [] 0 (.raw (.bool true)) := by  -- "loop.example/comptoir/laws.eqPost"
  refine pure_of_awp (fn := Tryd.f30) (N := 16) (vs := [.tmp 4]) ⟨Tryd.func30, rfl, rfl⟩ rfl rfl (by simp) ?_
  simp only [enumE, postAV]
  refine awp_seq_k fun K1 hK1 => ?_
  refine awp_region rfl ?_  -- region 0
  simp only [go_sem, vcSeq, Nat.reduceAdd, Nat.reduceMul, Nat.reduceSub, Nat.reduceLeDiff, Nat.reduceEqDiff, Nat.reduceLT]
  apply hK1; clear hK1 K1
  refine awp_seq_k fun K2 hK2 => ?_
  refine awp_seq_k fun K3 hK3 => ?_
  refine awp_region rfl ?_  -- region 1
  simp only [go_sem, vcSeq, decide_true, Bool.not_true, Nat.reduceAdd, Nat.reduceMul, Nat.reduceSub, Nat.reduceLeDiff, Nat.reduceEqDiff, Nat.reduceLT]
  apply hK3; clear hK3 K3
  refine awp_cond rfl (fun hc => by simp at hc) ?_
  intro hc1
  refine awp_skip ?_
  try simp only [athen]
  apply hK2; clear hK2 K2
  refine awp_seq_k fun K4 hK4 => ?_
  refine awp_seq_k fun K5 hK5 => ?_
  refine awp_region rfl ?_  -- region 3
  simp only [go_sem, vcSeq, Nat.reduceAdd, Nat.reduceMul, Nat.reduceSub, Nat.reduceLeDiff, Nat.reduceEqDiff, Nat.reduceLT]
  refine vsem_call (fun hN => lstep_pure0 rfl rfl rfl ⟨Tryd.func58, rfl, rfl⟩ hN (w58 p.legs hlen) rfl ?_) (.inl rfl) ?_
  · simp only [go_sem, Nat.reduceAdd, Nat.reduceMul, Nat.reduceSub, Nat.reduceLeDiff, Nat.reduceEqDiff, Nat.reduceLT]
  simp only [go_sem, vcSeq, Nat.reduceAdd, Nat.reduceMul, Nat.reduceSub, Nat.reduceLeDiff, Nat.reduceEqDiff, Nat.reduceLT]
  apply hK5; clear hK5 K5
  refine awp_cond rfl (fun hc => by simp at hc) ?_
  intro hc2
  refine awp_skip ?_
  try simp only [athen]
  apply hK4; clear hK4 K4
  refine awp_seq_k fun K6 hK6 => ?_
  refine awp_region rfl ?_  -- region 5
  simp only [go_sem, vcSeq, Nat.reduceAdd, Nat.reduceMul, Nat.reduceSub, Nat.reduceLeDiff, Nat.reduceEqDiff, Nat.reduceLT]
  apply hK6; clear hK6 K6
  refine awp_ret ?_
  refine final0 ?_ trivial
  simp only [go_sem, Nat.reduceAdd, Nat.reduceMul, Nat.reduceSub, Nat.reduceLeDiff, Nat.reduceEqDiff, Nat.reduceLT]

theorem w29 (ls : List Post) (hlen : ls.length ≤ 1048576) (hs : ∀ p ∈ ls, p.legs.length ≤ 1048576) : Pure P 29 [.sl 2 (ls.map postAV), .sl 2 (ls.map postAV)] [] 0 (.raw (.bool true)) := by  -- "loop.example/comptoir/laws.eqPostS"
  refine pure_of_awp (fn := Tryd.f29) (N := 27) (vs := [.tmp 4]) ⟨Tryd.func29, rfl, rfl⟩ rfl rfl (by simp) ?_
  simp only [enumE]
  refine awp_seq_k fun K1 hK1 => ?_
  refine awp_region rfl ?_  -- region 0
  simp only [go_sem, vcSeq, Nat.reduceAdd, Nat.reduceMul, Nat.reduceSub, Nat.reduceLeDiff, Nat.reduceEqDiff, Nat.reduceLT]
  apply hK1; clear hK1 K1
  refine awp_seq_k fun K2 hK2 => ?_
  refine awp_seq_k fun K3 hK3 => ?_
  refine awp_region rfl ?_  -- region 1
  simp only [go_sem, vcSeq, decide_true, Bool.not_true, Nat.reduceAdd, Nat.reduceMul, Nat.reduceSub, Nat.reduceLeDiff, Nat.reduceEqDiff, Nat.reduceLT]
  apply hK3; clear hK3 K3
  refine awp_cond rfl (fun hc => by simp at hc) ?_
  intro hc1
  refine awp_skip ?_
  try simp only [athen]
  apply hK2; clear hK2 K2
  refine awp_seq_k fun K4 hK4 => ?_
  refine awp_seq_k fun K5 hK5 => ?_
  refine awp_region rfl ?_  -- region 3
  simp only [go_sem, vcSeq, Nat.reduceAdd, Nat.reduceMul, Nat.reduceSub, Nat.reduceLeDiff, Nat.reduceEqDiff, Nat.reduceLT]
  apply hK5; clear hK5 K5
  refine awp_block ?_  -- block 0
  refine awp_loop_c (α := Nat) (fun x => x ≤ ls.length) (fun x => ls.length - x) (fun x => ([(5, .raw (.int .i64 (x : Int))), (0, .sl 2 (ls.map postAV)), (1, .sl 2 (ls.map postAV))], [])) 0 0 (Nat.zero_le _) [] ?_ ?_
  · simp only [go_sem, Int.natCast_zero, Nat.reduceAdd, Nat.reduceMul, Nat.reduceSub, Nat.reduceLeDiff, Nat.reduceEqDiff, Nat.reduceLT] <;> simp
  rintro i hi
  skip
  refine awp_seq_k fun K6 hK6 => ?_
  refine awp_seq_k fun K7 hK7 => ?_
  refine awp_region rfl ?_  -- region 4
  simp only [go_sem, vcSeq, Nat.reduceAdd, Nat.reduceMul, Nat.reduceSub, Nat.reduceLeDiff, Nat.reduceEqDiff, Nat.reduceLT]
  apply hK7; clear hK7 K7
  refine awp_cond rfl ?_ ?_
  · intro hc2
    have hlt : i < ls.length := by simpa using hc2
    obtain ⟨l, hl⟩ : ∃ l, ls[i]? = some l := ⟨_, List.getElem?_eq_getElem hlt⟩
    have hdrop := drop_get hl
    have hml := List.mem_of_getElem? hl
    refine awp_skip ?_
    try simp only [athen]
    apply hK6; clear hK6 K6
    refine awp_seq_k fun K8 hK8 => ?_
    refine awp_block ?_  -- block 1
    refine awp_seq_k fun K9 hK9 => ?_
    refine awp_draw mixed rfl ?_  -- region 6
    simp only [go_sem, vcDraw, hl, postAV, Nat.reduceAdd, Nat.reduceMul, Nat.reduceSub, Nat.reduceLeDiff, Nat.reduceEqDiff, Nat.reduceLT]
    refine ⟨⟨by omega, by omega⟩, ⟨by omega, by omega⟩, ?_⟩
    refine vtr_call (fun hN => lstep_pure0 rfl rfl rfl ⟨Tryd.func30, rfl, rfl⟩ hN (w30 l (hs l hml)) rfl ?_) (.inl rfl) ?_
    · simp only [go_sem, postAV]
    simp only [go_sem, vcDraw, Nat.reduceAdd, Nat.reduceMul, Nat.reduceSub, Nat.reduceLeDiff, Nat.reduceEqDiff, Nat.reduceLT]
    refine ⟨by rfl, ?_⟩
    apply hK9; clear hK9 K9
    refine awp_cond rfl (fun hc => by simp at hc) ?_
    intro hc3
    refine awp_skip ?_
    try simp only [athen]
    try simp only [go_sem, loopQ, Nat.reduceEqDiff]
    apply hK8; clear hK8 K8
    have hw : IntKind.i64.wrap ((i : Int) + 1) = ((i + 1 : Nat) : Int) := by rw [IntKind.wrap_i64]; omega
    refine awp_region rfl ?_  -- region 5
    simp only [go_sem, vcSeq, hw, Nat.reduceAdd, Nat.reduceMul, Nat.reduceSub, Nat.reduceLeDiff, Nat.reduceEqDiff, Nat.reduceLT]
    try simp only [loopQ, athen, inBlk]
    refine ⟨i + 1, by omega, by omega, [], ?_⟩
    simp only [go_sem, Nat.reduceAdd, Nat.reduceMul, Nat.reduceSub, Nat.reduceLeDiff, Nat.reduceEqDiff, Nat.reduceLT] <;> simp
  · intro hc2
    have hge : ls.length ≤ i := by have h9 : ¬ i < ls.length := (by simpa using hc2); omega
    refine awp_exit ?_
    try simp only [go_sem, loopQ, Nat.reduceEqDiff]
    clear hK6 K6
    apply hK4; clear hK4 K4
    refine awp_seq_k fun K10 hK10 => ?_
    refine awp_region rfl ?_  -- region 8
    simp only [go_sem, vcSeq, Nat.reduceAdd, Nat.reduceMul, Nat.reduceSub, Nat.reduceLeDiff, Nat.reduceEqDiff, Nat.reduceLT]
    apply hK10; clear hK10 K10
    refine awp_ret ?_
    refine final0 ?_ trivial
    simp only [go_sem, Nat.reduceAdd, Nat.reduceMul, Nat.reduceSub, Nat.reduceLeDiff, Nat.reduceEqDiff, Nat.reduceLT]

end Go.Proofs.T
end

/- C16 -/
section
set_option linter.unusedVariables false
set_option linter.unusedSimpArgs false
open Go Go.Abs Go.Proofs
namespace Go.Proofs.T
set_option maxRecDepth 20000

def dig (k : Int) : ByteArray := ByteArray.empty.push (UInt8.ofNat (IntKind.u8.wrap (IntKind.i64.wrap (48 + k.tmod 10))).toNat)
def digs : Nat → Int → ByteArray → ByteArray
  | 0, _, out => out
  | f + 1, k, out => if k ≤ 0 then out else digs f (k.tdiv 10) (dig k ++ out)
def markTxt (k : Int) : ByteArray := if k ≤ 0 then ⟨#[109, 48]⟩ else ⟨#[109]⟩ ++ digs 20 k ⟨#[]⟩
theorem FB : Tryd.prog.underlying 22 = some (.slice 5) ∧ Tryd.prog.underlying 5 = some (.int .u8) ∧ Tryd.prog.underlying 9 = some .string := by refine ⟨?_, ?_, ?_⟩ <;> kernel_rfl

theorem FI : intInfo Tryd.prog 3 = some .i64 ∧ intInfo Tryd.prog 5 = some .u8 := by refine ⟨?_, ?_⟩ <;> kernel_rfl
theorem h10 : ((10 : Int) = 0) = False := by simp
theorem w77 (k : Int) (hk : k < 1000000000000000000) : Pure P 77 [.raw (.int .i64 k)] [] 0 (.raw (.string (markTxt k))) := by
  refine pure_of_awp (fn := Tryd.f77) (N := 20) (vs := [.tmp 2]) ⟨Tryd.func77, rfl, rfl⟩ rfl rfl (by simp) ?_
  simp only [enumE]
  refine awp_seq_k fun K1 hK1 => ?_
  refine awp_region rfl ?_  -- region 0
  simp only [go_sem, vcSeq, Nat.reduceAdd, Nat.reduceMul, Nat.reduceSub, Nat.reduceLeDiff, Nat.reduceEqDiff, Nat.reduceLT]
  apply hK1; clear hK1 K1
  refine awp_seq_k fun K2 hK2 => ?_
  refine awp_seq_k fun K3 hK3 => ?_
  refine awp_region rfl ?_  -- region 1
  simp only [go_sem, vcSeq, Nat.reduceAdd, Nat.reduceMul, Nat.reduceSub, Nat.reduceLeDiff, Nat.reduceEqDiff, Nat.reduceLT]
  apply hK3; clear hK3 K3
  refine awp_cond rfl ?_ ?_
  · intro hc1
    have h0 : k ≤ 0 := by simpa using hc1
    refine awp_seq_k fun K4 hK4 => ?_
    refine awp_region rfl ?_  -- region 2
    simp only [go_sem, vcSeq, Nat.reduceAdd, Nat.reduceMul, Nat.reduceSub, Nat.reduceLeDiff, Nat.reduceEqDiff, Nat.reduceLT]
    apply hK4; clear hK4 K4
    refine awp_ret (final0 ?_ trivial)
    simp only [go_sem, Nat.reduceEqDiff, markTxt, h0]
  · intro hc1
    have h0 : ¬ k ≤ 0 := by simpa using hc1
    refine awp_skip ?_
    try simp only [athen]
    apply hK2; clear hK2 K2
    refine awp_seq_k fun K6 hK6 => ?_
    refine awp_region rfl ?_  -- region 3
    simp only [go_sem, vcSeq, Nat.reduceAdd, Nat.reduceMul, Nat.reduceSub, Nat.reduceLeDiff, Nat.reduceEqDiff, Nat.reduceLT]
    apply hK6; clear hK6 K6
    refine awp_seq_k fun K5 hK5 => ?_
    refine awp_block ?_  -- block 0
    refine awp_loop_c (α := Nat × Int × ByteArray) (fun x => 0 ≤ x.2.1 ∧ x.2.1 < 10 ^ x.1 ∧ x.2.2.size + x.1 ≤ 20 ∧ x.2.1 < 1000000000000000000 ∧ digs x.1 x.2.1 x.2.2 = digs 20 k ⟨#[]⟩) (fun x => x.2.1.toNat) (fun x => ([(0, .raw (.int .i64 x.2.1)), (3, .raw (.string x.2.2))], [])) 0 (20, k, ⟨#[]⟩) ⟨by simp only; omega, by simp only; omega, by simp [ByteArray.size], hk, rfl⟩ [] ?_ ?_
    · simp only [go_sem, Nat.reduceAdd, Nat.reduceMul, Nat.reduceSub, Nat.reduceLeDiff, Nat.reduceEqDiff, Nat.reduceLT] <;> simp
    rintro ⟨f, m, out⟩ ⟨hm0, hmf, hsz, hmk, hd⟩
    simp only at hm0 hmf hsz hmk hd ⊢
    refine awp_seq_k fun K7 hK7 => ?_
    refine awp_seq_k fun K8 hK8 => ?_
    refine awp_region rfl ?_  -- region 4
    simp only [go_sem, vcSeq, Nat.reduceAdd, Nat.reduceMul, Nat.reduceSub, Nat.reduceLeDiff, Nat.reduceEqDiff, Nat.reduceLT]
    apply hK8; clear hK8 K8
    refine awp_cond rfl ?_ ?_
    · intro hc2
      have hpos : 0 < m := by simpa using hc2
      obtain ⟨g, rfl⟩ : ∃ g, f = g + 1 := by
        cases f with
        | zero => simp at hmf; omega
        | succ g => exact ⟨g, rfl⟩
      refine awp_skip ?_
      try simp only [athen]
      apply hK7; clear hK7 K7
      refine awp_block ?_  -- block 1
      refine awp_seq_k fun K9 hK9 => ?_
      refine awp_region rfl ?_  -- region 5
      simp only [go_sem, vcSeq, FI, h10, Option.isSome_some, Nat.reduceAdd, Nat.reduceMul, Nat.reduceSub, Nat.reduceLeDiff, Nat.reduceEqDiff, Nat.reduceLT]
      refine vsem_call (fun hN => lstep_byteStr (n := IntKind.u8.wrap (IntKind.i64.wrap (48 + m.tmod 10))) rfl rfl hN FB.1 FB.2.1 FB.2.2 rfl rfl) (.inl rfl) ?_
      have hd1 : ByteArray.empty.push (UInt8.ofNat (IntKind.u8.wrap (IntKind.i64.wrap (48 + m.tmod 10))).toNat) = dig m := rfl
      have hds : (dig m).size = 1 := rfl
      have hsz' : (dig m).size + out.size ≤ 9223372036854775807 := by rw [hds]; omega
      simp only [go_sem, vcSeq, hd1, if_pos hsz', Nat.reduceAdd, Nat.reduceMul, Nat.reduceSub, Nat.reduceLeDiff, Nat.reduceEqDiff, Nat.reduceLT]
      apply hK9; clear hK9 K9
      refine awp_region rfl ?_  -- region 6
      have hq : m.tdiv 10 = m / 10 := Int.tdiv_eq_ediv_of_nonneg (by omega)
      have hwq : IntKind.i64.wrap (m.tdiv 10) = m.tdiv 10 := by
        rw [IntKind.wrap_i64, hq]
        omega
      simp only [go_sem, vcSeq, FI, h10, hwq, Option.isSome_some, Nat.reduceAdd, Nat.reduceMul, Nat.reduceSub, Nat.reduceLeDiff, Nat.reduceEqDiff, Nat.reduceLT]
      simp only [loopQ]
      have hstep : digs (g + 1) m out = digs g (m.tdiv 10) (dig m ++ out) := by simp [digs]; omega
      refine ⟨(g, m.tdiv 10, dig m ++ out), ⟨by simp only; omega, ?_, ?_, by simp only; omega, by rw [← hd, hstep]⟩, ?_, [], ?_⟩
      · simp only
        rw [hq]
        have h9 : m < 10 ^ g * 10 := by rw [← Int.pow_succ]; exact hmf
        omega
      · simp only [ByteArray.size_append]
        rw [hds]; omega
      · simp only; omega
      · simp only [go_sem, Nat.reduceAdd, Nat.reduceMul, Nat.reduceSub, Nat.reduceLeDiff, Nat.reduceEqDiff, Nat.reduceLT] <;> simp
    · intro hc2
      have hm : m ≤ 0 := by have h9 : ¬ 0 < m := (by simpa using hc2); omega
      refine awp_exit ?_
      try simp only [go_sem, loopQ, Nat.reduceEqDiff]
      clear hK7 K7
      apply hK5; clear hK5 K5
      have hm' : m = 0 := by omega
      subst hm'
      have hd0 : digs f 0 out = out := by cases f <;> simp [digs]
      rw [hd0] at hd
      refine awp_seq_k fun K10 hK10 => ?_
      refine awp_region rfl ?_  -- region 7
      have hsz' : (#[(109 : UInt8)] : Array UInt8).size + out.size ≤ 9223372036854775807 := by
        have : (#[(109 : UInt8)] : Array UInt8).size = 1 := rfl
        omega
      simp only [go_sem, vcSeq, if_pos hsz', Nat.reduceAdd, Nat.reduceMul, Nat.reduceSub, Nat.reduceLeDiff, Nat.reduceEqDiff, Nat.reduceLT]
      apply hK10; clear hK10 K10
      refine awp_ret (final0 ?_ trivial)
      simp only [go_sem, Nat.reduceEqDiff, markTxt, h0, ← hd]
end Go.Proofs.T
end

/- C17 -/
section
set_option linter.unusedVariables false
set_option linter.unusedSimpArgs false
open Go Go.Abs Go.Proofs
namespace Go.Proofs.T
set_option maxRecDepth 20000
attribute [local go_sem] legAV_bel legAV_ren postAV_bel postAV_ren legAV_elem postOwn_bel postOwn_ren
def markLeg (k : Int) : Leg := ⟨markTxt k, k + 1, k + 2⟩
def markLegs : List Leg → Int → List Leg
  | [], _ => []
  | _ :: r, k => markLeg k :: markLegs r (k + 3)
theorem markLegs_len : ∀ (ls : List Leg) (k : Int), (markLegs ls k).length = ls.length
  | [], _ => rfl
  | _ :: r, k => by simp [markLegs, markLegs_len r]
theorem markLegs_get : ∀ (ls : List Leg) (k : Int) (i : Nat), i < ls.length → (markLegs ls k)[i]? = some (markLeg (k + 3 * i))
  | [], _, _, h => by simp at h
  | _ :: r, k, 0, _ => by simp [markLegs]
  | _ :: r, k, i + 1, h => by
    simp only [markLegs, List.getElem?_cons_succ]
    rw [markLegs_get r (k + 3) i (by simpa using h)]
    congr 2
    push_cast
    omega
theorem markLegs_app : ∀ (xs ys : List Leg) (k : Int), markLegs (xs ++ ys) k = markLegs xs k ++ markLegs ys (k + 3 * xs.length)
  | [], ys, k => by simp [markLegs]
  | x :: r, ys, k => by
    simp only [List.cons_append, markLegs, markLegs_app r ys, List.length_cons]
    congr 3
    push_cast
    omega
/-- Legs in the marking. -/
def mkL (ls : List Leg) (k : Int) (i : Nat) : List Leg := markLegs (ls.take i) k ++ ls.drop i
theorem mkL_zero (ls : List Leg) (k : Int) : mkL ls k 0 = ls := by simp [mkL, markLegs]
theorem mkL_end (ls : List Leg) (k : Int) : mkL ls k ls.length = markLegs ls k := by simp [mkL]
theorem mkL_len (ls : List Leg) (k : Int) (i : Nat) : (mkL ls k i).length = ls.length := by simp [mkL, markLegs_len]; omega
theorem mkL_get {ls : List Leg} (k : Int) {i : Nat} {l : Leg} (h : ls[i]? = some l) : (mkL ls k i)[i]? = some l := by
  have hlt := (List.getElem?_eq_some_iff.1 h).1
  have hl : (markLegs (ls.take i) k).length = i := by rw [markLegs_len, List.length_take]; omega
  unfold mkL
  rw [List.getElem?_append_right (by omega), hl, Nat.sub_self, drop_get h]
  rfl
theorem mkL_set {ls : List Leg} (k : Int) {i : Nat} {l : Leg} (h : ls[i]? = some l) : (mkL ls k i).set i (markLeg (k + 3 * i)) = mkL ls k (i + 1) := by
  have hlt := (List.getElem?_eq_some_iff.1 h).1
  have hl : (markLegs (ls.take i) k).length = i := by rw [markLegs_len, List.length_take]; omega
  have hl2 : (ls.take i).length = i := by rw [List.length_take]; omega
  unfold mkL
  rw [List.set_append_right _ _ (by omega), hl, Nat.sub_self, drop_get h, List.set_cons_zero, List.take_add_one, h, Option.toList_some, markLegs_app, hl2]
  simp [markLegs]

theorem w59 (ls : List Leg) (k : Int) (hlen : ls.length ≤ 1048576) (h0 : 0 ≤ k) (hk : k ≤ 100000000000000) : Gives P 59 [.ref 0, .raw (.int .i64 k)] [(0, .row 35 3 (ls.map legAV))] 1 (.raw (.int .i64 (k + 3 * (ls.length : Int)))) [(0, .row 35 3 ((markLegs ls k).map legAV))] 1 := by  -- "loop.example/comptoir/laws.markLegS"
  refine gives_of_awp (fn := Tryd.f59) (N := 35) (vs := [.tmp 4]) ⟨Tryd.func59, rfl, rfl⟩ rfl rfl (by simp) ?_
  simp only [enumE]
  refine awp_seq_k fun K1 hK1 => ?_
  refine awp_region rfl ?_  -- region 0
  simp only [go_sem, vcSeq, Nat.reduceAdd, Nat.reduceMul, Nat.reduceSub, Nat.reduceLeDiff, Nat.reduceEqDiff, Nat.reduceLT]
  apply hK1; clear hK1 K1
  refine awp_seq_k fun K2 hK2 => ?_
  refine awp_seq_k fun K3 hK3 => ?_
  refine awp_region rfl ?_  -- region 1
  simp only [go_sem, vcSeq, Nat.reduceAdd, Nat.reduceMul, Nat.reduceSub, Nat.reduceLeDiff, Nat.reduceEqDiff, Nat.reduceLT]
  apply hK3; clear hK3 K3
  refine awp_block ?_  -- block 0
  refine awp_loop_c (α := Nat) (fun x => x ≤ ls.length) (fun x => ls.length - x) (fun x => ([(5, .raw (.int .i64 (x : Int))), (1, .raw (.int .i64 (k + 3 * (x : Int)))), (0, .ref 0)], [(0, .row 35 3 ((mkL ls k x).map legAV))])) 1 0 (Nat.zero_le _) [] ?_ ?_
  · rw [mkL_zero]
    simp only [go_sem, AObj.bel, Int.natCast_zero, Int.mul_zero, Int.add_zero, Nat.reduceEqDiff, Nat.reduceLeDiff, Nat.reduceLT, Nat.reduceAdd] <;> simp
  rintro i hi
  skip
  refine awp_seq_k fun K4 hK4 => ?_
  refine awp_seq_k fun K5 hK5 => ?_
  refine awp_region rfl ?_  -- region 2
  simp only [go_sem, vcSeq, mkL_len, Nat.reduceAdd, Nat.reduceMul, Nat.reduceSub, Nat.reduceLeDiff, Nat.reduceEqDiff, Nat.reduceLT]
  apply hK5; clear hK5 K5
  refine awp_cond rfl ?_ ?_
  · intro hc1
    have hlt : i < ls.length := by simpa using hc1
    obtain ⟨l, hl⟩ : ∃ l, ls[i]? = some l := ⟨_, List.getElem?_eq_getElem hlt⟩
    have hdrop := drop_get hl
    have hml := List.mem_of_getElem? hl
    have hgL := mkL_get k hl
    have hg0 : ((mkL ls k i).map legAV)[i]? = some (legAV l) := by rw [List.getElem?_map, hgL]; rfl
    have hgs : ∀ a, (((mkL ls k i).map legAV).set i a)[i]? = some a := fun a => set_get_eq hg0
    have hw1 : IntKind.i64.wrap (k + 3 * (i : Int) + 1) = k + 3 * i + 1 := by rw [IntKind.wrap_i64]; omega
    have hw2 : IntKind.i64.wrap (k + 3 * (i : Int) + 1 + 1) = k + 3 * i + 2 := by rw [IntKind.wrap_i64]; omega
    have hw3 : IntKind.i64.wrap (k + 3 * (i : Int) + 2 + 1) = k + 3 * ((i + 1 : Nat) : Int) := by rw [IntKind.wrap_i64]; push_cast; omega
    refine awp_skip ?_
    try simp only [athen]
    apply hK4; clear hK4 K4
    refine awp_seq_k fun K6 hK6 => ?_
    refine awp_block ?_  -- block 1
    refine awp_seq_k fun K7 hK7 => ?_
    refine awp_region rfl ?_  -- region 4
    simp only [go_sem, vcSeq, Nat.reduceAdd, Nat.reduceMul, Nat.reduceSub, Nat.reduceLeDiff, Nat.reduceEqDiff, Nat.reduceLT]
    refine vsem_call (fun hN => lstep_pure0 rfl rfl rfl ⟨Tryd.func77, rfl, rfl⟩ hN (w77 (k + 3 * i) (by omega)) rfl ?_) (.inl rfl) ?_
    · simp only [go_sem, Nat.reduceAdd, Nat.reduceMul, Nat.reduceSub, Nat.reduceLeDiff, Nat.reduceEqDiff, Nat.reduceLT]
    simp only [go_sem, vcSeq, hg0, legAV, mkL_len, Nat.reduceAdd, Nat.reduceMul, Nat.reduceSub, Nat.reduceLeDiff, Nat.reduceEqDiff, Nat.reduceLT]
    refine ⟨⟨by omega, by omega⟩, ?_⟩
    apply hK7; clear hK7 K7
    refine awp_seq_k fun K8 hK8 => ?_
    refine awp_region rfl ?_  -- region 5
    simp only [go_sem, vcSeq, hw1, Nat.reduceAdd, Nat.reduceMul, Nat.reduceSub, Nat.reduceLeDiff, Nat.reduceEqDiff, Nat.reduceLT]
    apply hK8; clear hK8 K8
    refine awp_seq_k fun K9 hK9 => ?_
    refine awp_region rfl ?_  -- region 6
    simp only [go_sem, vcSeq, hgs, mkL_len, List.length_set, Nat.reduceAdd, Nat.reduceMul, Nat.reduceSub, Nat.reduceLeDiff, Nat.reduceEqDiff, Nat.reduceLT]
    refine ⟨⟨by omega, by omega⟩, ?_⟩
    apply hK9; clear hK9 K9
    refine awp_seq_k fun K10 hK10 => ?_
    refine awp_region rfl ?_  -- region 7
    simp only [go_sem, vcSeq, hw2, Nat.reduceAdd, Nat.reduceMul, Nat.reduceSub, Nat.reduceLeDiff, Nat.reduceEqDiff, Nat.reduceLT]
    apply hK10; clear hK10 K10
    refine awp_seq_k fun K11 hK11 => ?_
    refine awp_region rfl ?_  -- region 8
    simp only [go_sem, vcSeq, hgs, mkL_len, List.length_set, List.set_set, Nat.reduceAdd, Nat.reduceMul, Nat.reduceSub, Nat.reduceLeDiff, Nat.reduceEqDiff, Nat.reduceLT]
    refine ⟨⟨by omega, by omega⟩, ?_⟩
    apply hK11; clear hK11 K11
    refine awp_region rfl ?_  -- region 9
    simp only [go_sem, vcSeq, hw3, Nat.reduceAdd, Nat.reduceMul, Nat.reduceSub, Nat.reduceLeDiff, Nat.reduceEqDiff, Nat.reduceLT]
    try simp only [go_sem, loopQ, Nat.reduceEqDiff]
    apply hK6; clear hK6 K6
    have hw : IntKind.i64.wrap ((i : Int) + 1) = ((i + 1 : Nat) : Int) := by rw [IntKind.wrap_i64]; omega
    have hset : ((mkL ls k i).map legAV).set i (.agg [.raw (.string (markTxt (k + 3 * i))), .raw (.int .i64 (k + 3 * i + 1)), .raw (.int .i64 (k + 3 * i + 2))]) = (mkL ls k (i + 1)).map legAV := by
      rw [← mkL_set k hl, List.map_set]
      rfl
    rw [hset]
    refine awp_region rfl ?_  -- region 3
    simp only [go_sem, vcSeq, hw, Nat.reduceAdd, Nat.reduceMul, Nat.reduceSub, Nat.reduceLeDiff, Nat.reduceEqDiff, Nat.reduceLT]
    try simp only [loopQ, athen, inBlk]
    refine ⟨i + 1, by omega, by omega, [], ?_⟩
    simp only [go_sem, AObj.bel, Nat.reduceEqDiff, Nat.reduceLeDiff, Nat.reduceLT] <;> simp
  · intro hc1
    have hge : ls.length ≤ i := by have h9 : ¬ i < ls.length := (by simpa using hc1); omega
    refine awp_exit ?_
    try simp only [go_sem, loopQ, Nat.reduceEqDiff]
    clear hK4 K4
    apply hK2; clear hK2 K2
    refine awp_seq_k fun K12 hK12 => ?_
    refine awp_region rfl ?_  -- region 10
    simp only [go_sem, vcSeq, Nat.reduceAdd, Nat.reduceMul, Nat.reduceSub, Nat.reduceLeDiff, Nat.reduceEqDiff, Nat.reduceLT]
    apply hK12; clear hK12 K12
    refine awp_ret ?_
    have hie : i = ls.length := by omega
    subst hie
    rw [mkL_end]
    refine ⟨[], ?_⟩
    simp only [go_sem, AObj.bel, Nat.reduceEqDiff, Nat.reduceLeDiff, Nat.reduceLT] <;> simp

theorem w60 (ls : List Leg) (k : Int) (hlen : ls.length ≤ 1048576) (h0 : 0 ≤ k) (hk : k ≤ 100000000000000) : Pure P 60 [.sl 3 ((markLegs ls k).map legAV), .raw (.int .i64 k)] [] 0 (.raw (.int .i64 (k + 3 * (ls.length : Int)))) := by  -- "loop.example/comptoir/laws.heldLegS"
  refine pure_of_awp (fn := Tryd.f60) (N := 41) (vs := [.tmp 4]) ⟨Tryd.func60, rfl, rfl⟩ rfl rfl (by simp) ?_
  simp only [enumE]
  refine awp_seq_k fun K1 hK1 => ?_
  refine awp_region rfl ?_  -- region 0
  simp only [go_sem, vcSeq, Nat.reduceAdd, Nat.reduceMul, Nat.reduceSub, Nat.reduceLeDiff, Nat.reduceEqDiff, Nat.reduceLT]
  apply hK1; clear hK1 K1
  refine awp_seq_k fun K2 hK2 => ?_
  refine awp_seq_k fun K3 hK3 => ?_
  refine awp_region rfl ?_  -- region 1
  simp only [go_sem, vcSeq, Nat.reduceAdd, Nat.reduceMul, Nat.reduceSub, Nat.reduceLeDiff, Nat.reduceEqDiff, Nat.reduceLT]
  apply hK3; clear hK3 K3
  refine awp_block ?_  -- block 0
  refine awp_loop_c (α := Nat) (fun x => x ≤ ls.length) (fun x => ls.length - x) (fun x => ([(5, .raw (.int .i64 (x : Int))), (1, .raw (.int .i64 (k + 3 * (x : Int)))), (0, .sl 3 ((markLegs ls k).map legAV))], [])) 0 0 (Nat.zero_le _) [] ?_ ?_
  · simp only [go_sem, Int.natCast_zero, Int.mul_zero, Int.add_zero, Nat.reduceEqDiff, Nat.reduceLeDiff, Nat.reduceLT, Nat.reduceAdd] <;> simp
  rintro i hi
  skip
  refine awp_seq_k fun K4 hK4 => ?_
  refine awp_seq_k fun K5 hK5 => ?_
  refine awp_region rfl ?_  -- region 2
  simp only [go_sem, vcSeq, markLegs_len, Nat.reduceAdd, Nat.reduceMul, Nat.reduceSub, Nat.reduceLeDiff, Nat.reduceEqDiff, Nat.reduceLT]
  apply hK5; clear hK5 K5
  refine awp_cond rfl ?_ ?_
  · intro hc1
    have hlt : i < ls.length := by simpa using hc1
    have hgL := markLegs_get ls k i hlt
    have hw1 : IntKind.i64.wrap (k + 3 * (i : Int) + 1) = k + 3 * i + 1 := by rw [IntKind.wrap_i64]; omega
    have hw2 : IntKind.i64.wrap (k + 3 * (i : Int) + 1 + 1) = k + 3 * i + 2 := by rw [IntKind.wrap_i64]; omega
    have hw3 : IntKind.i64.wrap (k + 3 * (i : Int) + 2 + 1) = k + 3 * ((i + 1 : Nat) : Int) := by rw [IntKind.wrap_i64]; push_cast; omega
    refine awp_skip ?_
    try simp only [athen]
    apply hK4; clear hK4 K4
    refine awp_seq_k fun K6 hK6 => ?_
    refine awp_block ?_  -- block 1
    refine awp_seq_k fun K7 hK7 => ?_
    refine awp_seq_k fun K8 hK8 => ?_
    refine awp_draw mixed rfl ?_  -- region 4
    simp only [go_sem, vcDraw, hgL, markLeg, legAV, markLegs_len, Nat.reduceAdd, Nat.reduceMul, Nat.reduceSub, Nat.reduceLeDiff, Nat.reduceEqDiff, Nat.reduceLT]
    refine ⟨⟨by omega, by omega⟩, ?_⟩
    refine vtr_call (fun hN => lstep_pure0 rfl rfl rfl ⟨Tryd.func77, rfl, rfl⟩ hN (w77 (k + 3 * i) (by omega)) rfl ?_) (.inl rfl) ?_
    · simp only [go_sem, Nat.reduceAdd, Nat.reduceMul, Nat.reduceSub, Nat.reduceLeDiff, Nat.reduceEqDiff, Nat.reduceLT]
    simp only [go_sem, vcDraw, beq_self_eq_true, Bool.not_true, Nat.reduceAdd, Nat.reduceMul, Nat.reduceSub, Nat.reduceLeDiff, Nat.reduceEqDiff, Nat.reduceLT]
    refine ⟨by rfl, ?_⟩
    apply hK8; clear hK8 K8
    refine awp_cond rfl (fun hc => by simp at hc) ?_
    intro hc2
    refine awp_skip ?_
    try simp only [athen]
    apply hK7; clear hK7 K7
    refine awp_seq_k fun K9 hK9 => ?_
    refine awp_region rfl ?_  -- region 6
    simp only [go_sem, vcSeq, hw1, Nat.reduceAdd, Nat.reduceMul, Nat.reduceSub, Nat.reduceLeDiff, Nat.reduceEqDiff, Nat.reduceLT]
    apply hK9; clear hK9 K9
    refine awp_seq_k fun K10 hK10 => ?_
    refine awp_seq_k fun K11 hK11 => ?_
    refine awp_region rfl ?_  -- region 7
    simp only [go_sem, vcSeq, hgL, markLeg, legAV, markLegs_len, decide_true, Bool.not_true, Nat.reduceAdd, Nat.reduceMul, Nat.reduceSub, Nat.reduceLeDiff, Nat.reduceEqDiff, Nat.reduceLT]
    refine ⟨⟨by omega, by omega⟩, ?_⟩
    apply hK11; clear hK11 K11
    refine awp_cond rfl (fun hc => by simp at hc) ?_
    intro hc3
    refine awp_skip ?_
    try simp only [athen]
    apply hK10; clear hK10 K10
    refine awp_seq_k fun K12 hK12 => ?_
    refine awp_region rfl ?_  -- region 9
    simp only [go_sem, vcSeq, hw2, Nat.reduceAdd, Nat.reduceMul, Nat.reduceSub, Nat.reduceLeDiff, Nat.reduceEqDiff, Nat.reduceLT]
    apply hK12; clear hK12 K12
    refine awp_seq_k fun K13 hK13 => ?_
    refine awp_seq_k fun K14 hK14 => ?_
    refine awp_region rfl ?_  -- region 10
    simp only [go_sem, vcSeq, hgL, markLeg, legAV, markLegs_len, decide_true, Bool.not_true, Nat.reduceAdd, Nat.reduceMul, Nat.reduceSub, Nat.reduceLeDiff, Nat.reduceEqDiff, Nat.reduceLT]
    refine ⟨⟨by omega, by omega⟩, ?_⟩
    apply hK14; clear hK14 K14
    refine awp_cond rfl (fun hc => by simp at hc) ?_
    intro hc4
    refine awp_skip ?_
    try simp only [athen]
    apply hK13; clear hK13 K13
    refine awp_region rfl ?_  -- region 12
    simp only [go_sem, vcSeq, hw3, Nat.reduceAdd, Nat.reduceMul, Nat.reduceSub, Nat.reduceLeDiff, Nat.reduceEqDiff, Nat.reduceLT]
    try simp only [go_sem, loopQ, Nat.reduceEqDiff]
    apply hK6; clear hK6 K6
    have hw : IntKind.i64.wrap ((i : Int) + 1) = ((i + 1 : Nat) : Int) := by rw [IntKind.wrap_i64]; omega
    refine awp_region rfl ?_  -- region 3
    simp only [go_sem, vcSeq, hw, Nat.reduceAdd, Nat.reduceMul, Nat.reduceSub, Nat.reduceLeDiff, Nat.reduceEqDiff, Nat.reduceLT]
    try simp only [loopQ, athen, inBlk]
    refine ⟨i + 1, by omega, by omega, [], ?_⟩
    simp only [go_sem, Nat.reduceAdd, Nat.reduceMul, Nat.reduceSub, Nat.reduceLeDiff, Nat.reduceEqDiff, Nat.reduceLT] <;> simp
  · intro hc1
    have hge : ls.length ≤ i := by have h9 : ¬ i < ls.length := (by simpa using hc1); omega
    refine awp_exit ?_
    try simp only [go_sem, loopQ, Nat.reduceEqDiff]
    clear hK4 K4
    apply hK2; clear hK2 K2
    refine awp_seq_k fun K15 hK15 => ?_
    refine awp_region rfl ?_  -- region 13
    simp only [go_sem, vcSeq, Nat.reduceAdd, Nat.reduceMul, Nat.reduceSub, Nat.reduceLeDiff, Nat.reduceEqDiff, Nat.reduceLT]
    apply hK15; clear hK15 K15
    refine awp_ret ?_
    have hie : i = ls.length := by omega
    subst hie
    refine final0 ?_ trivial
    simp only [go_sem, Nat.reduceAdd, Nat.reduceMul, Nat.reduceSub, Nat.reduceLeDiff, Nat.reduceEqDiff, Nat.reduceLT]

theorem w32 (id : Int) (ls : List Leg) (k : Int) (hlen : ls.length ≤ 1048576) (h0 : 0 ≤ k) (hk : k ≤ 100000000000000) : Gives P 32 [.agg [.raw (.int .i64 id), .ref 0], .raw (.int .i64 k)] [(0, .row 35 3 (ls.map legAV))] 1 (.raw (.int .i64 (k + 3 * (ls.length : Int)))) [(0, .row 35 3 ((markLegs ls k).map legAV))] 1 := by  -- "loop.example/comptoir/laws.markPost"
  refine gives_of_awp (fn := Tryd.f32) (N := 10) (vs := [.tmp 4]) ⟨Tryd.func32, rfl, rfl⟩ rfl rfl (by simp) ?_
  simp only [enumE]
  refine awp_seq_k fun K1 hK1 => ?_
  refine awp_region rfl ?_  -- region 0
  simp only [go_sem, vcSeq, Nat.reduceAdd, Nat.reduceMul, Nat.reduceSub, Nat.reduceLeDiff, Nat.reduceEqDiff, Nat.reduceLT]
  apply hK1; clear hK1 K1
  refine awp_seq_k fun K2 hK2 => ?_
  refine awp_region rfl ?_  -- region 1
  simp only [go_sem, vcSeq, Nat.reduceAdd, Nat.reduceMul, Nat.reduceSub, Nat.reduceLeDiff, Nat.reduceEqDiff, Nat.reduceLT]
  refine vsem_call (fun hN => lstep_gives (s := []) 0 rfl rfl rfl ⟨Tryd.func59, rfl, rfl⟩ hN (w59 ls k hlen h0 hk) rfl (by simp only [go_sem, Nat.reduceEqDiff]) ?_ (fit_same ⟨rfl, trivial⟩ (by simp [UU, AObj.bel, legAV_bel]) (by simp) (by simp) rfl (by omega))) (.inl rfl) ?_
  · simp only [go_sem, Nat.reduceLT]
  simp only [shift_zero, AV.ren_nil, AObj.ren_nil, sg_nil_at]
  simp only [go_sem, vcSeq, Nat.reduceAdd, Nat.reduceMul, Nat.reduceSub, Nat.reduceLeDiff, Nat.reduceEqDiff, Nat.reduceLT]
  apply hK2; clear hK2 K2
  refine awp_seq_k fun K3 hK3 => ?_
  refine awp_region rfl ?_  -- region 2
  simp only [go_sem, vcSeq, Nat.reduceAdd, Nat.reduceMul, Nat.reduceSub, Nat.reduceLeDiff, Nat.reduceEqDiff, Nat.reduceLT]
  apply hK3; clear hK3 K3
  refine awp_ret ?_
  refine ⟨[], ?_⟩
  simp only [go_sem, AObj.bel, Nat.reduceEqDiff, Nat.reduceLeDiff, Nat.reduceLT] <;> simp

end Go.Proofs.T
end

/- C18 -/
section
set_option linter.unusedVariables false
set_option linter.unusedSimpArgs false
open Go Go.Abs Go.Proofs
namespace Go.Proofs.T
set_option maxRecDepth 20000
attribute [local go_sem] legAV_bel legAV_ren postAV_bel postAV_ren legAV_elem postOwn_bel postOwn_ren
def markPosts : List Post → Int → List Post
  | [], _ => []
  | p :: r, k => ⟨k, markLegs p.legs (k + 1)⟩ :: markPosts r (k + 1 + 3 * p.legs.length)
def kEnd : List Post → Int → Int
  | [], k => k
  | p :: r, k => kEnd r (k + 1 + 3 * p.legs.length)
theorem kEnd_app : ∀ (xs ys : List Post) (k : Int), kEnd (xs ++ ys) k = kEnd ys (kEnd xs k)
  | [], ys, k => rfl
  | x :: r, ys, k => by simp only [List.cons_append, kEnd, kEnd_app r ys]
theorem kEnd_le : ∀ (xs : List Post) (k : Int), (∀ p ∈ xs, p.legs.length ≤ 1048576) → k ≤ kEnd xs k ∧ kEnd xs k ≤ k + 3145729 * xs.length
  | [], k, _ => by simp [kEnd]
  | x :: r, k, h => by
    have h1 := kEnd_le r (k + 1 + 3 * x.legs.length) fun p hp => h p (List.mem_cons_of_mem _ hp)
    have h2 := h x List.mem_cons_self
    simp only [kEnd, List.length_cons]
    push_cast
    omega
theorem markPosts_len : ∀ (ls : List Post) (k : Int), (markPosts ls k).length = ls.length
  | [], _ => rfl
  | _ :: r, k => by simp [markPosts, markPosts_len r]
theorem markPosts_app : ∀ (xs ys : List Post) (k : Int), markPosts (xs ++ ys) k = markPosts xs k ++ markPosts ys (kEnd xs k)
  | [], ys, k => rfl
  | x :: r, ys, k => by simp only [List.cons_append, markPosts, kEnd, markPosts_app r ys]
theorem markPosts_get : ∀ (ls : List Post) (k : Int) (i : Nat) (p : Post), ls[i]? = some p → (markPosts ls k)[i]? = some ⟨kEnd (ls.take i) k, markLegs p.legs (kEnd (ls.take i) k + 1)⟩
  | [], _, _, _, h => by simp at h
  | q :: r, k, 0, p, h => by simp at h; subst h; simp [markPosts, kEnd]
  | q :: r, k, i + 1, p, h => by
    simp only [markPosts, List.getElem?_cons_succ, List.take_succ_cons, kEnd]
    exact markPosts_get r _ i p (by simpa using h)
theorem kEnd_succ {ls : List Post} {k : Int} {i : Nat} {p : Post} (h : ls[i]? = some p) : kEnd (ls.take (i + 1)) k = kEnd (ls.take i) k + 1 + 3 * p.legs.length := by
  rw [List.take_add_one, h, kEnd_app]; rfl
def mkP (ls : List Post) (k : Int) (i : Nat) : List Post := markPosts (ls.take i) k ++ ls.drop i
theorem mkP_zero (ls : List Post) (k : Int) : mkP ls k 0 = ls := by simp [mkP, markPosts]
theorem mkP_end (ls : List Post) (k : Int) : mkP ls k ls.length = markPosts ls k := by simp [mkP]
theorem mkP_len (ls : List Post) (k : Int) (i : Nat) : (mkP ls k i).length = ls.length := by simp [mkP, markPosts_len]; omega
theorem mkP_get {ls : List Post} (k : Int) {i : Nat} {l : Post} (h : ls[i]? = some l) : (mkP ls k i)[i]? = some l := by
  have hlt := (List.getElem?_eq_some_iff.1 h).1
  have hl : (markPosts (ls.take i) k).length = i := by rw [markPosts_len, List.length_take]; omega
  unfold mkP
  rw [List.getElem?_append_right (by omega), hl, Nat.sub_self, drop_get h]
  rfl
theorem mkP_set {ls : List Post} (k : Int) {i : Nat} {l : Post} (h : ls[i]? = some l) : (mkP ls k i).set i ⟨kEnd (ls.take i) k, markLegs l.legs (kEnd (ls.take i) k + 1)⟩ = mkP ls k (i + 1) := by
  have hlt := (List.getElem?_eq_some_iff.1 h).1
  have hl : (markPosts (ls.take i) k).length = i := by rw [markPosts_len, List.length_take]; omega
  unfold mkP
  rw [List.set_append_right _ _ (by omega), hl, Nat.sub_self, drop_get h, List.set_cons_zero, List.take_add_one, h, Option.toList_some, markPosts_app]
  simp [markPosts]
theorem fit_one {H : Heap} {k : Nat} {o o' : AObj} (h : get H k = some (o.ren (sg [(0, k)]))) (hb : o.bel (UU 1)) : FitC H [(0, k)] [(0, o)] 1 0 [(0, o')] where
  objs := ⟨h, .inl (by omega), hb, trivial⟩
  inj := by simp
  cov := fun i hi => by have : i = 0 := by omega
                        subst this; rfl
  sk := fun p hp => by rw [List.mem_singleton.1 hp]; rfl
  dom := fun p hp => by rw [List.mem_singleton.1 hp]; exact .inl rfl
  all := fun p hp => by rw [List.mem_singleton.1 hp]; rfl
  far := by omega

theorem w31 (ls : List Post) (k : Int) (hlen : ls.length ≤ 1048577) (hs : ∀ p ∈ ls, p.legs.length ≤ 1048576) (h0 : 0 ≤ k) (hk : k ≤ 10000000000000) : Gives P 31 [.ref 0, .raw (.int .i64 k)] [(0, .row 31 2 (ls.map postOwn))] 1 (.raw (.int .i64 (kEnd ls k))) [(0, .row 31 2 ((markPosts ls k).map postOwn))] 1 := by  -- "loop.example/comptoir/laws.markPostS"
  refine gives_of_awp (fn := Tryd.f31) (N := 27) (vs := [.tmp 4]) ⟨Tryd.func31, rfl, rfl⟩ rfl rfl (by simp) ?_
  simp only [enumE]
  refine awp_seq_k fun K1 hK1 => ?_
  refine awp_region rfl ?_  -- region 0
  simp only [go_sem, vcSeq, Nat.reduceAdd, Nat.reduceMul, Nat.reduceSub, Nat.reduceLeDiff, Nat.reduceEqDiff, Nat.reduceLT]
  apply hK1; clear hK1 K1
  refine awp_seq_k fun K2 hK2 => ?_
  refine awp_seq_k fun K3 hK3 => ?_
  refine awp_region rfl ?_  -- region 1
  simp only [go_sem, vcSeq, Nat.reduceAdd, Nat.reduceMul, Nat.reduceSub, Nat.reduceLeDiff, Nat.reduceEqDiff, Nat.reduceLT]
  apply hK3; clear hK3 K3
  refine awp_block ?_  -- block 0
  refine awp_loop_c (α := Nat) (fun x => x ≤ ls.length) (fun x => ls.length - x) (fun x => ([(5, .raw (.int .i64 (x : Int))), (1, .raw (.int .i64 (kEnd (ls.take x) k))), (0, .ref 0)], [(0, .row 31 2 ((mkP ls k x).map postOwn))])) 1 0 (Nat.zero_le _) [] ?_ ?_
  · rw [mkP_zero]
    simp only [go_sem, AObj.bel, kEnd, Int.natCast_zero, Nat.reduceEqDiff, Nat.reduceLeDiff, Nat.reduceLT, Nat.reduceAdd] <;> simp
  rintro i hi
  skip
  refine awp_seq_k fun K4 hK4 => ?_
  refine awp_seq_k fun K5 hK5 => ?_
  refine awp_region rfl ?_  -- region 2
  simp only [go_sem, vcSeq, mkP_len, Nat.reduceAdd, Nat.reduceMul, Nat.reduceSub, Nat.reduceLeDiff, Nat.reduceEqDiff, Nat.reduceLT]
  apply hK5; clear hK5 K5
  refine awp_cond rfl ?_ ?_
  · intro hc1
    have hlt : i < ls.length := by simpa using hc1
    obtain ⟨l, hl⟩ : ∃ l, ls[i]? = some l := ⟨_, List.getElem?_eq_getElem hlt⟩
    have hdrop := drop_get hl
    have hml := List.mem_of_getElem? hl
    have hgL := mkP_get k hl
    have hg0 : ((mkP ls k i).map postOwn)[i]? = some (.agg [.raw (.int .i64 l.id), .own 35 3 (l.legs.map legAV)]) := by rw [List.getElem?_map, hgL]; rfl
    have hgs : ∀ a, (((mkP ls k i).map postOwn).set i a)[i]? = some a := fun a => set_get_eq hg0
    have hset := mkP_set k hl
    have hks := kEnd_succ (k := k) hl
    have hkb := kEnd_le (ls.take i) k (fun p hp => hs p (List.mem_of_mem_take hp))
    have htl : (ls.take i).length = i := by rw [List.length_take]; omega
    rw [htl] at hkb
    have hll := hs l hml
    generalize hkk : kEnd (ls.take i) k = kk at hks hkb ⊢
    have hw1 : IntKind.i64.wrap (kk + 1) = kk + 1 := by rw [IntKind.wrap_i64]; omega
    rw [hkk] at hset
    refine awp_skip ?_
    try simp only [athen]
    apply hK4; clear hK4 K4
    refine awp_seq_k fun K6 hK6 => ?_
    refine awp_block ?_  -- block 1
    refine awp_seq_k fun K7 hK7 => ?_
    refine awp_region rfl ?_  -- region 4
    simp only [go_sem, vcSeq, hg0, mkP_len, Nat.reduceAdd, Nat.reduceMul, Nat.reduceSub, Nat.reduceLeDiff, Nat.reduceEqDiff, Nat.reduceLT]
    refine ⟨⟨by omega, by omega⟩, ?_⟩
    apply hK7; clear hK7 K7
    refine awp_seq_k fun K8 hK8 => ?_
    refine awp_region rfl ?_  -- region 5
    simp only [go_sem, vcSeq, hw1, Nat.reduceAdd, Nat.reduceMul, Nat.reduceSub, Nat.reduceLeDiff, Nat.reduceEqDiff, Nat.reduceLT]
    apply hK8; clear hK8 K8
    refine awp_split (i := 0) (j := i) (q := 1) (by omega) rfl (hgs _) rfl ?_
    refine awp_region rfl ?_  -- region 6
    simp only [go_sem, vcSeq, hgs, mkP_len, List.length_set, List.set_set, Nat.reduceAdd, Nat.reduceMul, Nat.reduceSub, Nat.reduceLeDiff, Nat.reduceEqDiff, Nat.reduceLT]
    refine ⟨⟨by omega, by omega⟩, ?_⟩
    refine vsem_call (fun hN => lstep_gives (s := [(0, 1)]) 0 rfl rfl rfl ⟨Tryd.func59, rfl, rfl⟩ hN (w59 l.legs (kk + 1) hll (by omega) (by omega)) rfl (by simp only [go_sem, renL, AV.ren, sg, Nat.reduceEqDiff]) ?_ (fit_one (by simp only [AObj.ren, legAV_ren]; rfl) (legAV_bel _ _))) (.inl rfl) ?_
    · simp only [go_sem, Nat.reduceLT]
    simp only [shift_zero, AObj.ren, AV.ren, legAV_ren, sg]
    simp only [go_sem, vcSeq, Nat.reduceAdd, Nat.reduceMul, Nat.reduceSub, Nat.reduceLeDiff, Nat.reduceEqDiff, Nat.reduceLT]
    try simp only [go_sem, loopQ, Nat.reduceEqDiff]
    apply hK6; clear hK6 K6
    have hw : IntKind.i64.wrap ((i : Int) + 1) = ((i + 1 : Nat) : Int) := by rw [IntKind.wrap_i64]; omega
    refine awp_join (i := 0) (n := 1) (j := i) (q := 1) (by omega) rfl rfl (hgs _) rfl ?_
    have hset' : ((mkP ls k i).map postOwn).set i (.agg [.raw (.int .i64 kk), .own 35 3 ((markLegs l.legs (kk + 1)).map legAV)]) = (mkP ls k (i + 1)).map postOwn := by
      rw [← hset, List.map_set]
      rfl
    simp only [go_sem, List.set_set, hset']
    refine awp_region rfl ?_  -- region 3
    simp only [go_sem, vcSeq, hw, Nat.reduceAdd, Nat.reduceMul, Nat.reduceSub, Nat.reduceLeDiff, Nat.reduceEqDiff, Nat.reduceLT]
    try simp only [loopQ, athen, inBlk]
    refine ⟨i + 1, by omega, by omega, [], ?_⟩
    rw [hks]
    simp only [go_sem, AObj.bel, Nat.reduceEqDiff, Nat.reduceLeDiff, Nat.reduceLT] <;> simp
  · intro hc1
    have hge : ls.length ≤ i := by have h9 : ¬ i < ls.length := (by simpa using hc1); omega
    refine awp_exit ?_
    try simp only [go_sem, loopQ, Nat.reduceEqDiff]
    clear hK4 K4
    apply hK2; clear hK2 K2
    refine awp_seq_k fun K9 hK9 => ?_
    refine awp_region rfl ?_  -- region 7
    simp only [go_sem, vcSeq, Nat.reduceAdd, Nat.reduceMul, Nat.reduceSub, Nat.reduceLeDiff, Nat.reduceEqDiff, Nat.reduceLT]
    apply hK9; clear hK9 K9
    refine awp_ret ?_
    have hie : i = ls.length := by omega
    subst hie
    rw [mkP_end]
    refine ⟨[], ?_⟩
    simp only [go_sem, AObj.bel, List.take_length, Nat.reduceEqDiff, Nat.reduceLeDiff, Nat.reduceLT] <;> simp

theorem w33 (ls : List Post) (k : Int) (hlen : ls.length ≤ 1048577) (hs : ∀ p ∈ ls, p.legs.length ≤ 1048576) (h0 : 0 ≤ k) (hk : k ≤ 10000000000000) : Pure P 33 [.sl 2 ((markPosts ls k).map postAV), .raw (.int .i64 k)] [] 0 (.raw (.int .i64 (kEnd ls k))) := by  -- "loop.example/comptoir/laws.heldPostS"
  refine pure_of_awp (fn := Tryd.f33) (N := 31) (vs := [.tmp 4]) ⟨Tryd.func33, rfl, rfl⟩ rfl rfl (by simp) ?_
  simp only [enumE]
  refine awp_seq_k fun K1 hK1 => ?_
  refine awp_region rfl ?_  -- region 0
  simp only [go_sem, vcSeq, Nat.reduceAdd, Nat.reduceMul, Nat.reduceSub, Nat.reduceLeDiff, Nat.reduceEqDiff, Nat.reduceLT]
  apply hK1; clear hK1 K1
  refine awp_seq_k fun K2 hK2 => ?_
  refine awp_seq_k fun K3 hK3 => ?_
  refine awp_region rfl ?_  -- region 1
  simp only [go_sem, vcSeq, Nat.reduceAdd, Nat.reduceMul, Nat.reduceSub, Nat.reduceLeDiff, Nat.reduceEqDiff, Nat.reduceLT]
  apply hK3; clear hK3 K3
  refine awp_block ?_  -- block 0
  refine awp_loop_c (α := Nat) (fun x => x ≤ ls.length) (fun x => ls.length - x) (fun x => ([(5, .raw (.int .i64 (x : Int))), (1, .raw (.int .i64 (kEnd (ls.take x) k))), (0, .sl 2 ((markPosts ls k).map postAV))], [])) 0 0 (Nat.zero_le _) [] ?_ ?_
  · simp only [go_sem, kEnd, Int.natCast_zero, List.take_zero, Nat.reduceEqDiff, Nat.reduceLeDiff, Nat.reduceLT, Nat.reduceAdd] <;> simp
  rintro i hi
  skip
  refine awp_seq_k fun K4 hK4 => ?_
  refine awp_seq_k fun K5 hK5 => ?_
  refine awp_region rfl ?_  -- region 2
  simp only [go_sem, vcSeq, markPosts_len, Nat.reduceAdd, Nat.reduceMul, Nat.reduceSub, Nat.reduceLeDiff, Nat.reduceEqDiff, Nat.reduceLT]
  apply hK5; clear hK5 K5
  refine awp_cond rfl ?_ ?_
  · intro hc1
    have hlt : i < ls.length := by simpa using hc1
    obtain ⟨l, hl⟩ : ∃ l, ls[i]? = some l := ⟨_, List.getElem?_eq_getElem hlt⟩
    have hdrop := drop_get hl
    have hml := List.mem_of_getElem? hl
    have hgL := markPosts_get ls k i l hl
    have hks := kEnd_succ (k := k) hl
    have hkb := kEnd_le (ls.take i) k (fun p hp => hs p (List.mem_of_mem_take hp))
    have htl : (ls.take i).length = i := by rw [List.length_take]; omega
    rw [htl] at hkb
    have hll := hs l hml
    generalize hkk : kEnd (ls.take i) k = kk at hks hkb ⊢
    have hw1 : IntKind.i64.wrap (kk + 1) = kk + 1 := by rw [IntKind.wrap_i64]; omega
    rw [hkk] at hgL
    refine awp_skip ?_
    try simp only [athen]
    apply hK4; clear hK4 K4
    refine awp_seq_k fun K6 hK6 => ?_
    refine awp_block ?_  -- block 1
    refine awp_seq_k fun K7 hK7 => ?_
    refine awp_seq_k fun K8 hK8 => ?_
    refine awp_region rfl ?_  -- region 4
    simp only [go_sem, vcSeq, hgL, postAV, markPosts_len, decide_true, Bool.not_true, Nat.reduceAdd, Nat.reduceMul, Nat.reduceSub, Nat.reduceLeDiff, Nat.reduceEqDiff, Nat.reduceLT]
    refine ⟨⟨by omega, by omega⟩, ?_⟩
    apply hK8; clear hK8 K8
    refine awp_cond rfl (fun hc => by simp at hc) ?_
    intro hc2
    refine awp_skip ?_
    try simp only [athen]
    apply hK7; clear hK7 K7
    refine awp_seq_k fun K9 hK9 => ?_
    refine awp_region rfl ?_  -- region 6
    simp only [go_sem, vcSeq, hw1, Nat.reduceAdd, Nat.reduceMul, Nat.reduceSub, Nat.reduceLeDiff, Nat.reduceEqDiff, Nat.reduceLT]
    apply hK9; clear hK9 K9
    refine awp_seq_k fun K10 hK10 => ?_
    refine awp_region rfl ?_  -- region 7
    simp only [go_sem, vcSeq, hgL, postAV, markPosts_len, Nat.reduceAdd, Nat.reduceMul, Nat.reduceSub, Nat.reduceLeDiff, Nat.reduceEqDiff, Nat.reduceLT]
    refine ⟨⟨by omega, by omega⟩, ?_⟩
    refine vsem_call (fun hN => lstep_pure0 rfl rfl rfl ⟨Tryd.func60, rfl, rfl⟩ hN (w60 l.legs (kk + 1) hll (by omega) (by omega)) rfl ?_) (.inl rfl) ?_
    · simp only [go_sem, Nat.reduceAdd, Nat.reduceMul, Nat.reduceSub, Nat.reduceLeDiff, Nat.reduceEqDiff, Nat.reduceLT]
    simp only [go_sem, vcSeq, Nat.reduceAdd, Nat.reduceMul, Nat.reduceSub, Nat.reduceLeDiff, Nat.reduceEqDiff, Nat.reduceLT]
    apply hK10; clear hK10 K10
    refine awp_seq_k fun K11 hK11 => ?_
    refine awp_region rfl ?_  -- region 8
    simp only [go_sem, vcSeq, Nat.reduceAdd, Nat.reduceMul, Nat.reduceSub, Nat.reduceLeDiff, Nat.reduceEqDiff, Nat.reduceLT]
    apply hK11; clear hK11 K11
    refine awp_cond rfl ?_ ?_
    · intro hc3
      exfalso
      simp at hc3
      omega
    · intro hc3
      refine awp_skip ?_
      try simp only [athen]
      try simp only [go_sem, loopQ, Nat.reduceEqDiff]
      apply hK6; clear hK6 K6
      have hw : IntKind.i64.wrap ((i : Int) + 1) = ((i + 1 : Nat) : Int) := by rw [IntKind.wrap_i64]; omega
      refine awp_region rfl ?_  -- region 3
      simp only [go_sem, vcSeq, hw, Nat.reduceAdd, Nat.reduceMul, Nat.reduceSub, Nat.reduceLeDiff, Nat.reduceEqDiff, Nat.reduceLT]
      try simp only [loopQ, athen, inBlk]
      refine ⟨i + 1, by omega, by omega, [], ?_⟩
      rw [hks]
      simp only [go_sem, Nat.reduceEqDiff, Nat.reduceLeDiff, Nat.reduceLT] <;> simp
  · intro hc1
    have hge : ls.length ≤ i := by have h9 : ¬ i < ls.length := (by simpa using hc1); omega
    refine awp_exit ?_
    try simp only [go_sem, loopQ, Nat.reduceEqDiff]
    clear hK4 K4
    apply hK2; clear hK2 K2
    refine awp_seq_k fun K12 hK12 => ?_
    refine awp_region rfl ?_  -- region 10
    simp only [go_sem, vcSeq, Nat.reduceAdd, Nat.reduceMul, Nat.reduceSub, Nat.reduceLeDiff, Nat.reduceEqDiff, Nat.reduceLT]
    apply hK12; clear hK12 K12
    refine awp_ret ?_
    have hie : i = ls.length := by omega
    subst hie
    refine final0 ?_ trivial
    simp only [go_sem, Nat.reduceEqDiff, List.take_length]

end Go.Proofs.T
end

/- C19 -/
section
set_option linter.unusedVariables false
set_option linter.unusedSimpArgs false
open Go Go.Abs Go.Proofs
namespace Go.Proofs.T

theorem wrap_idem (u v : Int) : IntKind.i64.wrap (IntKind.i64.wrap u + v) = IntKind.i64.wrap (u + v) := by
  rw [IntKind.wrap_i64, IntKind.wrap_i64, IntKind.wrap_i64]; omega
theorem wrap_idem2 (u v : Int) : IntKind.i64.wrap (u + IntKind.i64.wrap v) = IntKind.i64.wrap (u + v) := by
  rw [Int.add_comm, wrap_idem, Int.add_comm]
def inR (x : Int) : Prop := -9223372036854775808 ≤ x ∧ x ≤ 9223372036854775807
theorem wrap_inR (x : Int) : inR (IntKind.i64.wrap x) := by unfold inR; rw [IntKind.wrap_i64]; omega
theorem wrap_self {x : Int} (h : inR x) : IntKind.i64.wrap x = x := by unfold inR at h; rw [IntKind.wrap_i64]; omega

/-- The sum without wrapping. -/
def exact (a : ByteArray) (c : Int) (ls : List Leg) : Int := (ls.map fun l => if l.cur = c ∧ l.acct = a then l.n else 0).sum
theorem toStep_sum (a : ByteArray) (c : Int) : ∀ (ls : List Leg) (x : Int), inR x → ls.foldl (toStep a c) x = IntKind.i64.wrap (x + exact a c ls)
  | [], x, h => by simp [exact, wrap_self h]
  | l :: r, x, h => by
    have hs : inR (toStep a c x l) := by
      unfold toStep
      split
      · exact wrap_inR _
      · exact h
    rw [List.foldl_cons, toStep_sum a c r _ hs]
    have he : exact a c (l :: r) = (if l.cur = c ∧ l.acct = a then l.n else 0) + exact a c r := by simp [exact]
    rw [he]
    unfold toStep
    by_cases hc : l.cur = c ∧ l.acct = a
    · rw [if_pos hc, if_pos hc, wrap_idem]
      congr 1
      omega
    · rw [if_neg hc, if_neg hc]
      congr 1
      omega

theorem sums_mval (a : ByteArray) (c : Int) : ∀ (ls : List Leg) (m : List (ByteArray × Int)), mval (ls.foldl (sumStep c) m) a 0 = ls.foldl (toStep a c) (mval m a 0)
  | [], m => rfl
  | l :: r, m => by
    rw [List.foldl_cons, List.foldl_cons, sums_mval a c r]
    congr 1
    unfold sumStep toStep
    by_cases hc : l.cur = c
    · rw [if_pos hc, mval_mset]
      by_cases ha : l.acct = a
      · rw [if_pos ha, if_pos ⟨hc, ha⟩, ha]
      · rw [if_neg ha, if_neg (fun q => ha q.2)]
    · rw [if_neg hc, if_neg (fun q => hc q.1)]
theorem bals_mval (a : ByteArray) (c : Int) : ∀ (ls : List Leg) (m : List ((ByteArray × Int) × Int)), mval (ls.foldl balStep m) (a, c) 0 = ls.foldl (toStep a c) (mval m (a, c) 0)
  | [], m => rfl
  | l :: r, m => by
    rw [List.foldl_cons, List.foldl_cons, bals_mval a c r]
    congr 1
    unfold balStep toStep
    rw [mval_mset]
    by_cases hc : l.cur = c ∧ l.acct = a
    · obtain ⟨h1, h2⟩ := hc
      rw [h1, h2, if_pos rfl, if_pos ⟨rfl, rfl⟩]
    · rw [if_neg hc, if_neg (fun q => hc ⟨congrArg Prod.snd q, congrArg Prod.fst q⟩)]

theorem postTo_eq {p : Post} (h : postOk p = true) (a : ByteArray) (c : Int) : postTo p a c = l1to p a c := by
  unfold postTo sums l1to
  rw [sums_mval]
  simp [legsOf, h, mval_nil]

theorem l2bal_inR (b : List Post) (a : ByteArray) (c : Int) : inR (l2bal b a c) := by
  unfold l2bal
  have : ∀ (b : List Post) (x : Int), inR x → inR (b.foldl (balSum a c) x) := by
    intro b
    induction b with
    | nil => exact fun x h => h
    | cons p r ih => exact fun x _ => ih _ (wrap_inR _)
  exact this b 0 (by unfold inR; omega)

structure LI (pre : List Post) (g : Ledger) : Prop where
  count : g.count = pre.length
  ids : ∀ id : Int, mval g.ids id 0 = ((pre.filter fun q => decide (q.id = id)).length : Int)
  bals : ∀ a c, mval g.bals (a, c) 0 = l2bal pre a c

theorem chk_eq {pre : List Post} {g : Ledger} (h : LI pre g) (p : Post) : chk g p = codeS pre p := by
  unfold chk codeS
  by_cases hf : postFair p = false
  · rw [if_pos hf, if_pos hf]
  · have hok : postOk p = true := by
      unfold postFair at hf
      cases hpo : postOk p with
      | true => rfl
      | false => rw [hpo] at hf; simp at hf
    rw [if_neg hf, if_neg hf]
    have h1 : (0 < mval g.ids p.id 0) ↔ (pre.any (fun q => decide (q.id = p.id)) = true) := by
      rw [h.ids, List.any_eq_true]
      constructor
      · intro hl
        have hl : 0 < (pre.filter fun q => decide (q.id = p.id)).length := by omega
        obtain ⟨q, hq⟩ := List.exists_mem_of_length_pos hl
        rw [List.mem_filter] at hq
        exact ⟨q, hq.1, hq.2⟩
      · rintro ⟨q, hq, hd⟩
        have : 0 < (pre.filter fun q => decide (q.id = p.id)).length := List.length_pos_of_mem (List.mem_filter.2 ⟨hq, hd⟩)
        omega
    have h2 : (legsOf p).any (over1 g p) = p.legs.any (overS pre p) := by
      have hl : legsOf p = p.legs := by simp [legsOf, hok]
      rw [hl]
      congr 1
      funext l
      unfold over1 overS overBal
      rw [h.bals, postTo_eq hok]
    rw [h2, h.count]
    by_cases h3 : pre.any (fun q => decide (q.id = p.id)) = true
    · rw [if_pos (h1.2 h3), if_pos h3]
    · rw [if_neg (fun q => h3 (h1.1 q)), if_neg h3]
      by_cases h4 : p.legs.any (overS pre p) = true
      · rw [if_pos h4, if_pos h4]
      · rw [if_neg h4, if_neg h4]
        by_cases h5 : 40 ≤ pre.length
        · rw [if_pos h5, if_pos (by omega)]
        · rw [if_neg h5, if_neg (by omega)]

theorem codeS_fair {pre : List Post} {p : Post} (h : codeS pre p = 0) : postOk p = true := by
  unfold codeS at h
  by_cases hf : postFair p = false
  · rw [if_pos hf] at h; omega
  · unfold postFair at hf
    cases hpo : postOk p with
    | true => rfl
    | false => rw [hpo] at hf; simp at hf

theorem LI_add {pre : List Post} {g : Ledger} (h : LI pre g) {p : Post} (hok : postOk p = true) (hlen : pre.length ≤ 40) : LI (pre ++ [p]) (ledAdd g p) where
  count := by
    show IntKind.i64.wrap (g.count + 1) = _
    rw [h.count, IntKind.wrap_i64]
    simp
    omega
  ids := fun id => by
    show mval (mset g.ids p.id (IntKind.i64.wrap (mval g.ids p.id 0 + 1))) id 0 = _
    rw [mval_mset, List.filter_append, List.length_append]
    have hle : ∀ id : Int, (pre.filter fun q => decide (q.id = id)).length ≤ pre.length := fun id => List.length_filter_le _ _
    by_cases e : p.id = id
    · rw [if_pos e, ← e, h.ids]
      have := hle p.id
      simp
      rw [IntKind.wrap_i64]
      omega
    · rw [if_neg e, h.ids]
      simp [e]
  bals := fun a c => by
    show mval ((legsOf p).foldl balStep g.bals) (a, c) 0 = _
    have hl : legsOf p = p.legs := by simp [legsOf, hok]
    rw [bals_mval, hl, h.bals, toStep_sum a c p.legs _ (l2bal_inR pre a c)]
    show _ = (pre ++ [p]).foldl (balSum a c) 0
    rw [List.foldl_append]
    show _ = IntKind.i64.wrap (pre.foldl (balSum a c) 0 + l1to p a c)
    unfold l1to
    rw [toStep_sum a c p.legs 0 (by unfold inR; omega), Int.zero_add, wrap_idem2]
    rfl

theorem runLedger_spec : ∀ (b pre : List Post) (g : Ledger), LI pre g → pre.length + b.length ≤ 40 →
    ((runLedger b g).2 = true ↔ ∀ (i : Nat) (q : Post), b[i]? = some q → codeS (pre ++ b.take i) q = 0) ∧ ((runLedger b g).2 = true → LI (pre ++ b) (runLedger b g).1)
  | [], pre, g, h, _ => ⟨⟨fun _ i q hq => by simp at hq, fun _ => rfl⟩, fun _ => by rw [List.append_nil]; exact h⟩
  | p :: r, pre, g, h, hlen => by
    unfold runLedger
    rw [chk_eq h]
    by_cases hc : codeS pre p = 0
    · rw [if_pos hc]
      have hok := codeS_fair hc
      have hl2 : (pre ++ [p]).length + r.length ≤ 40 := by simp at hlen ⊢; omega
      obtain ⟨h1, h2⟩ := runLedger_spec r (pre ++ [p]) (ledAdd g p) (LI_add h hok (by simp at hlen; omega)) hl2
      refine ⟨h1.trans ⟨fun h3 i q hq => ?_, fun h3 i q hq => ?_⟩, fun h3 => ?_⟩
      · cases i with
        | zero => simp at hq; subst hq; simpa using hc
        | succ i =>
          have := h3 i q (by simpa using hq)
          simpa using this
      · have := h3 (i + 1) q (by simpa using hq)
        simpa using this
      · have := h2 h3
        simpa using this
    · rw [if_neg hc]
      refine ⟨⟨fun h3 => by simp at h3, fun h3 => ?_⟩, fun h3 => by simp at h3⟩
      exact absurd (by simpa using h3 0 p rfl) hc

theorem LI_nil : LI [] led0 where
  count := rfl
  ids := fun _ => rfl
  bals := fun _ _ => rfl

theorem okS_eq (b : List Post) : okS b = (ledgerOf b).2 := by
  unfold okS ledgerOf
  by_cases h : 40 < b.length
  · rw [if_pos h, if_pos h]
  · rw [if_neg h, if_neg h]
    obtain ⟨h1, _⟩ := runLedger_spec b [] led0 LI_nil (by simp; omega)
    rw [Bool.eq_iff_iff, h1, List.all_eq_true]
    constructor
    · intro h2 i q hq
      have hil := (List.getElem?_eq_some_iff.1 hq).1
      have := h2 i (List.mem_range.2 hil)
      rw [hq] at this
      simpa using this
    · intro h2 i hi
      have hil := List.mem_range.1 hi
      rw [List.getElem?_eq_getElem hil]
      simpa using h2 i _ (List.getElem?_eq_getElem hil)

/-- The reference's answer is the program's. -/
theorem spec_eq (b : List Post) (p : Post) : specPost b p = bookPost b p := by
  unfold specPost bookPost
  rw [okS_eq]
  by_cases h : (ledgerOf b).2 = true
  · rw [if_pos h, if_pos h]
    have hLI : LI b (ledgerOf b).1 := by
      unfold ledgerOf at h ⊢
      by_cases h40 : 40 < b.length
      · rw [if_pos h40] at h; simp at h
      · rw [if_neg h40] at h ⊢
        have := (runLedger_spec b [] led0 LI_nil (by simp; omega)).2 h
        simpa using this
    rw [chk_eq hLI]
  · rw [if_neg h, if_neg h]
end Go.Proofs.T
end
