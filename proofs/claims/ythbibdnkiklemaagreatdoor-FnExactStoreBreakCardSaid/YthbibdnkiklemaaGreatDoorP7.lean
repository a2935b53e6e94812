/-
  The law FnExactStoreBreak answers true for every input, and leaves its arguments as they were: the tied card. Conditions: those of the given row and card, none of its own (the listed variables as the program's text lays them).
-/
import Derived.Test.YthbibdnkiklemaaGreatDoorP6
import Derived.Test.YthbibdnkiklemaaGreatDoorTie
import Derived.Test.YthbibdnkiklemaaGreatDoorCards
import Derived.SevenTiedAt
set_option linter.all false
set_option maxRecDepth 100000
section
open Go Go.Abs Go.Proofs
namespace Go.Proofs.S
theorem storeBreakS_s {s : Store} (h : bM s) (q : Int) : bM (cJ s q) ∧ ∀ k, 0 ≤ k → gT (cJ s q) k ≤ 2 * gT s k + 2 := by
  have hz : bM zStore := ⟨⟨⟨by decide, by intro e he; cases he⟩, ⟨by decide, by intro e he; cases he⟩, by decide⟩, ⟨by decide, by intro e he; cases he⟩⟩
  have p1 := sT s.tree.levels
  have p2 := sT s.disk.levels
  have z0 : kGo kRuns gE.levels 0 = 0 := rfl
  have z1 : gE.mem.length = 0 := rfl
  have z2 : gE.snaps.length = 0 := rfl
  have hc : ∀ k, gT (aJ s) k ≤ gT s k := fun k => by
    unfold aJ; split
    · exact Int.le_refl _
    rw [hY, hY]; simp only [z0, z1, z2]; omega
  have hs := copyS_s h
  have q1 := sT (aJ s).tree.levels
  have q2 := sT (aJ s).disk.levels
  unfold cJ; split
  · refine ⟨hz, fun k hk => ?_⟩
    rw [hY s]
    have : gT zStore k = k := rfl
    rw [this]; omega
  split
  · exact ⟨hs, fun k hk => by have := hc k; have h9 := hY (aJ s) k; omega⟩
  have hl : mR (brJ (aJ s)).disk.levels ∧ kGo kRuns (brJ (aJ s)).disk.levels 0 ≤ 5 * ((aJ s).tree.mem.length : Int) + kGo kRuns (aJ s).tree.levels 0 + 1 + kGo kRuns (aJ s).disk.levels 0 := by
    obtain ⟨_, f2, _⟩ := flushJ_k (aJ s).tree
    by_cases hf : (flS (aJ s)).2 = true
    · have hb : (brJ (aJ s)).disk.levels = (cU (aJ s).tree).1.levels := by
        have e1 : (flS (aJ s)).1.disk.levels = (cU (aJ s).tree).1.levels := by
          unfold flS at hf ⊢
          split at hf
          · cases hf
          rename_i h1
          rw [if_neg h1]; split at hf
          · cases hf
          rename_i h2
          rw [if_neg h2]
        unfold brJ; rw [if_pos hf]; exact e1
      rw [hb]
      exact ⟨(zY hs.1).2.1, by omega⟩
    · have hb : brJ (aJ s) = aJ s := by unfold brJ; rw [if_neg hf]
      rw [hb]
      exact ⟨hs.2, by omega⟩
  refine ⟨⟨⟨⟨by show (0 : Nat) ≤ _; omega, by intro e he; cases he⟩, ⟨by show (0 : Nat) ≤ _; omega, by intro e he; cases he⟩, by show (0 : Nat) ≤ _; omega⟩, hl.1⟩, fun k hk => ?_⟩
  have := hc k
  have h9 := hY (aJ s) k
  have h8 : gT (fallS (brJ (aJ s)) q) k = k + kGo kRuns (brJ (aJ s)).disk.levels 0 := by
    rw [hY]
    show k + (5 * ((0 : Nat) : Int) + 0 + ((0 : Nat) : Int) + kGo kRuns (brJ (aJ s)).disk.levels 0) = _
    omega
  have h7 := hl.2
  have h6 : k ≤ gT s k := zM s k
  rw [h9] at this; rw [h8]
  generalize kGo kRuns (brJ (aJ s)).disk.levels 0 = X at h7 ⊢
  generalize gT s k = Y at this h6 ⊢
  generalize kGo kRuns (aJ s).disk.levels 0 = Z at h7 this q2
  omega
theorem w_law_b (s : Store) (keep : Int) (hz1 : mEnts s.tree.mem) (hz2 : mLvs s.tree.levels) (hz3 : s.tree.snaps.length ≤ 9223372036854775807) (hz4 : s.disk.log.size ≤ 9223372036854775807) (hz5 : mLvs s.disk.levels) : aB P 5 [stA s, .raw (.int .i64 keep)] [] 0 (.raw (.bool true)) := by
 refine pq 74 [.tmp 4] Tryz.func5 ?_
 simp only [stA]; refine aj ?_; refine aj ?_
 refine sr rfl fun _ k3 => ja ?_
 refine vr rfl rfl rfl Tryz.func7 (w_laws_szStore s 1048576 (by decide) (by decide) hz1 hz2 hz3 hz4 hz5) (by simp only [go_sem, stA]) (by simp only [go_sem, stA]) (k3 ?_)
 refine sq fun _ k4 => aj ?_
 refine cd rfl (fun hc1 => ?_) fun hc1 => ?_
 · skip
   refine aj (wR ?_)
   refine fO ?_ trivial; simp only [go_sem]
 have hns : 0 ≤ lL s 1048576 := by simpa using hc1
 obtain ⟨hs, hlog, hk⟩ := store_sz (by decide) (by decide) hns
 have hle : lL s 1048576 ≤ 1048576 := by have h1 := szTree_le s.tree 1048576 (by decide); unfold lL at hns ⊢; unfold Lq at h1; split at hns; omega; have h2 := szDisk_le s.disk (eD s.tree 1048576) (by omega); unfold Lq at h2; split <;> omega
 have hk1 := hk 1
 have hkp := zM s 1
 refine wk (k4 (sr rfl fun _ k7 => (ja ?_)))
 refine vn 4 rfl rfl rfl ⟨Tryz.func10, rfl, rfl⟩ (lV s hs.1.1 hs.1.2.1 hs.1.2.2 hs.2) (by simp only [go_sem, stA]) (by simp only [go_sem, stA]) (by simp) (by decide) ?_
 simp only [go_sem, AV.ren, AObj.ren, aA, shift, sg, Nat.le_refl, Nat.add_zero, Nat.sub_self]
 refine jV 1 rfl ?_
 simp only [go_sem, dH, dA, gA]
 refine jV 2 rfl ?_
 simp only [go_sem, dH, dA, gA]
 refine jV 3 rfl ?_
 simp only [go_sem, dH, dA, gA]
 refine jV 4 rfl ?_
 simp only [go_sem, dH, dA, gA]
 refine vs rfl rfl rfl Tryz.func20 (w_spec_StoreBreak s keep hs hlog) (by simp only [go_sem, stA]) (by simp only [go_sem, stA]) ?_
 simp only [go_sem, stA]
 refine k7 (sr rfl fun _ k8 => (ja ?_))
 refine vn 4 rfl rfl rfl ⟨Tryz.func10, rfl, rfl⟩ (lV s hs.1.1 hs.1.2.1 hs.1.2.2 hs.2) (by simp only [go_sem, stA]) (by simp only [go_sem, stA]) (by simp) (by decide) ?_
 simp only [go_sem, AV.ren, AObj.ren, aA, shift, sg, Nat.le_refl, Nat.add_zero, Nat.sub_self]
 refine k8 (sr rfl fun _ k9 => (ja ?_))
 refine vC (fun hN => lend_new [6, 7, 8, 9] (xs := [.agg [.raw (.bool s.up), .raw (.int .i64 s.tree.seq), .ref 6, .ref 7, .ref 8, .raw (.string s.disk.log), .raw (.int .i64 s.disk.safe), .ref 9, .raw (.int .i64 s.disk.seq)], .raw (.int .i64 keep)]) rfl rfl rfl ⟨Tryz.func21, rfl, rfl⟩ hN (rG s keep hs) (by simp) (by decide) (by simp only [go_sem]) (by simp [wF, nV, mE, Abs.get, dA, dH, gA, stA]) (by simp only [go_sem, stA]) rfl (sto_nf _)) (.inr (by decide)) ?_
 rw [xI s keep]
 obtain ⟨hr, hkr⟩ := storeBreakS_s hs keep
 have hkr1 := hkr 1 (by decide)
 generalize hre : cJ s keep = r at hr hkr1 ⊢
 have hkrp := zM r 1
 have hbnd : gT r 1 ≤ 1000000000000000000 := by omega
 clear hkr
 simp only [go_sem, AV.ren, AObj.ren, aA, shift, sg, Nat.le_refl, Nat.add_zero, Nat.sub_self]
 refine k9 (sq fun _ k10 => (sr rfl fun _ k11 => (ja ?_)))
 refine vC (fun hN => mF (xs := [.agg [.raw (.bool r.up), .raw (.int .i64 r.tree.seq), .ref 11, .ref 12, .ref 13, .raw (.string r.disk.log), .raw (.int .i64 r.disk.safe), .ref 14, .raw (.int .i64 r.disk.seq)], stA r]) [11, 12, 13, 14] rfl rfl rfl ⟨Tryz.func13, rfl, rfl⟩ hN (lR r hr.1.1 hr.1.2.1 hr.1.2.2 hr.2) (by simp only [go_sem, stA]) (by simp [wF, nV, mE, Abs.get, dH, dA, gA, stA]) (by simp only [go_sem, stA]) rfl) (.inl rfl) ?_
 simp only [go_sem, stA]; apply k11
 refine cd rfl (fun hc2 => ?_) fun hc2 => ?_
 · exfalso; simp at hc2
 refine wk (k10 (sq fun _ k12 => (sd mixed rfl fun _ k13 => (ja ?_))))
 refine tn 4 rfl rfl rfl ⟨Tryz.func10, rfl, rfl⟩ (lV s hs.1.1 hs.1.2.1 hs.1.2.2 hs.2) (by simp only [go_sem, stA]) (by simp only [go_sem, stA]) (by simp) (by decide) ?_
 simp only [go_sem, AV.ren, AObj.ren, aA, shift, sg, Nat.le_refl, Nat.add_zero, Nat.sub_self]
 refine bQ (fun hN => mF (xs := [.agg [.raw (.bool s.up), .raw (.int .i64 s.tree.seq), .ref 6, .ref 7, .ref 8, .raw (.string s.disk.log), .raw (.int .i64 s.disk.safe), .ref 9, .raw (.int .i64 s.disk.seq)], .agg [.raw (.bool s.up), .raw (.int .i64 s.tree.seq), .ref 16, .ref 17, .ref 18, .raw (.string s.disk.log), .raw (.int .i64 s.disk.safe), .ref 19, .raw (.int .i64 s.disk.seq)]]) [6, 7, 8, 9, 16, 17, 18, 19] rfl rfl rfl ⟨Tryz.func13, rfl, rfl⟩ hN (lR s hs.1.1 hs.1.2.1 hs.1.2.2 hs.2) (by simp only [go_sem, stA]) (by simp [wF, nV, mE, Abs.get, dH, dA, gA, stA]) (by simp only [go_sem, stA]) rfl) (.inl rfl) ?_
 simp only [go_sem, stA]; refine ⟨by rfl, ?_⟩; apply k13
 refine cd rfl (fun hc3 => ?_) fun hc3 => ?_
 · exfalso; simp at hc3
 refine wk (k12 (aj ?_))
 refine sr rfl fun _ k15 => ja ?_
 refine vC (fun hN => bU (s := [(0, 6), (1, 7), (2, 8), (3, 9)]) 0 rfl rfl rfl ⟨Tryz.func15, rfl, rfl⟩ hN (sN s 1 hs (by decide) (by omega)) rfl (by simp only [go_sem, aA, AV.ren, sg]) ?_ (pK (by simp [eX, sg, Abs.get, AObj.ren, AObj.bel, UU, dX, bH, eW, enB, eH, bE]) (by simp [sg, Abs.get]) (by intro i hi; simp; omega) (by simp) rfl (by omega))) (.inl rfl) ?_
 · simp only [go_sem]
 simp only [go_sem, aR, AObj.ren, AV.ren, dX, bH, eW, sg]
 refine k15 (sq fun _ k16 => (sr rfl fun _ k17 => (ja ?_)))
 refine vC (fun hN => cH hN rfl rfl rfl rfl (by simp only [go_sem]) (fun _ => mF (xs := [.agg [.raw (.bool r.up), .raw (.int .i64 r.tree.seq), .ref 11, .ref 12, .ref 13, .raw (.string r.disk.log), .raw (.int .i64 r.disk.safe), .ref 14, .raw (.int .i64 r.disk.seq)], stA r]) [11, 12, 13, 14] rfl rfl rfl ⟨Tryz.func13, rfl, rfl⟩ hN (lR r hr.1.1 hr.1.2.1 hr.1.2.2 hr.2) (by simp only [go_sem, stA]) (by simp [wF, nV, mE, Abs.get, dH, dA, gA, stA]) (by simp only [go_sem, stA]) rfl) trivial) (.inl rfl) ?_
 simp only [go_sem, stA]; apply k17
 refine cd rfl (fun hc4 => ?_) fun hc4 => ?_
 · exfalso; simp at hc4; omega
 refine wk (k16 (aj ?_))
 refine sr rfl fun _ k19 => ja ?_
 refine vC (fun hN => bU (s := [(0, 11), (1, 12), (2, 13), (3, 14)]) 0 rfl rfl rfl ⟨Tryz.func15, rfl, rfl⟩ hN (sN r 1 hr (by decide) hbnd) rfl (by simp only [go_sem, aA, AV.ren, sg]) ?_ (pK (by simp [eX, sg, Abs.get, AObj.ren, AObj.bel, UU, dX, bH, eW, enB, eH, bE]) (by simp [sg, Abs.get]) (by intro i hi; simp; omega) (by simp) rfl (by omega))) (.inl rfl) ?_
 · simp only [go_sem]
 simp only [go_sem, aR, AObj.ren, AV.ren, dX, bH, eW, sg]
 refine k19 (aj ?_)
 refine sr rfl fun _ k21 => ja ?_
 refine vC (fun hN => mF (xs := [.agg [.raw (.bool r.up), .raw (.int .i64 r.tree.seq), .ref 11, .ref 12, .ref 13, .raw (.string r.disk.log), .raw (.int .i64 r.disk.safe), .ref 14, .raw (.int .i64 r.disk.seq)], .raw (.int .i64 1)]) [11, 12, 13, 14] rfl rfl rfl ⟨Tryz.func17, rfl, rfl⟩ hN (sH r 1 hr (by decide) hbnd) (by simp only [go_sem, stA]) (by simp [wF, nV, mE, Abs.get, dH, dA, gA, stA]; exact ⟨rfl, rfl, rfl, rfl, rfl⟩) (by simp only [go_sem, stA]) rfl) (.inl rfl) ?_
 simp only [go_sem, stA]
 refine k21 (sq fun _ k22 => (aj ?_))
 refine cd rfl (fun hc5 => ?_) fun hc5 => ?_
 · exfalso; simp at hc5; omega
 refine wk (k22 (sq fun _ k24 => (aj ?_)))
 refine cd rfl (fun hc6 => ?_) fun hc6 => ?_
 · exfalso; simp at hc6
 refine wk (k24 (sr rfl fun _ k26 => (ja ?_)))
 refine vn 4 rfl rfl rfl ⟨Tryz.func10, rfl, rfl⟩ (lV s hs.1.1 hs.1.2.1 hs.1.2.2 hs.2) (by simp only [go_sem, stA]) (by simp only [go_sem, stA]) (by simp) (by decide) ?_
 simp only [go_sem, AV.ren, AObj.ren, aA, shift, sg, Nat.le_refl, Nat.add_zero, Nat.sub_self]
 refine vC (fun hN => lend_new [20, 21, 22, 23] (xs := [.agg [.raw (.bool s.up), .raw (.int .i64 s.tree.seq), .ref 20, .ref 21, .ref 22, .raw (.string s.disk.log), .raw (.int .i64 s.disk.safe), .ref 23, .raw (.int .i64 s.disk.seq)], .raw (.int .i64 keep)]) rfl rfl rfl ⟨Tryz.func21, rfl, rfl⟩ hN (rG s keep hs) (by simp) (by decide) (by simp only [go_sem]) (by simp [wF, nV, mE, Abs.get, dA, dH, gA, stA]) (by simp only [go_sem, stA]) rfl (sto_nf _)) (.inr (by decide)) ?_
 rw [xI s keep, hre]; simp only [go_sem, AV.ren, AObj.ren, aA, shift, sg, Nat.le_refl, Nat.add_zero, Nat.sub_self]
 refine k26 (sq fun _ k27 => (sr rfl fun _ k28 => (ja ?_)))
 refine vC (fun hN => mF (xs := [.agg [.raw (.bool r.up), .raw (.int .i64 r.tree.seq), .ref 24, .ref 25, .ref 26, .raw (.string r.disk.log), .raw (.int .i64 r.disk.safe), .ref 27, .raw (.int .i64 r.disk.seq)], stA r]) [24, 25, 26, 27] rfl rfl rfl ⟨Tryz.func13, rfl, rfl⟩ hN (lR r hr.1.1 hr.1.2.1 hr.1.2.2 hr.2) (by simp only [go_sem, stA]) (by simp [wF, nV, mE, Abs.get, dH, dA, gA, stA]) (by simp only [go_sem, stA]) rfl) (.inl rfl) ?_
 simp only [go_sem, stA]; apply k28
 refine cd rfl (fun hc7 => ?_) fun hc7 => ?_
 · exfalso; simp at hc7
 refine wk (k27 (aj ?_))
 refine sr rfl fun _ k30 => ja ?_
 refine vC (fun hN => mF (xs := [.agg [.raw (.bool r.up), .raw (.int .i64 r.tree.seq), .ref 11, .ref 12, .ref 13, .raw (.string r.disk.log), .raw (.int .i64 r.disk.safe), .ref 14, .raw (.int .i64 r.disk.seq)], .raw (.int .i64 1)]) [11, 12, 13, 14] rfl rfl rfl ⟨Tryz.func17, rfl, rfl⟩ hN (sH r 1 hr (by decide) hbnd) (by simp only [go_sem, stA]) (by simp [wF, nV, mE, Abs.get, dH, dA, gA, stA]; exact ⟨rfl, rfl, rfl, rfl, rfl⟩) (by simp only [go_sem, stA]) rfl) (.inl rfl) ?_
 simp only [go_sem, stA]
 refine k30 (sq fun _ k31 => (aj ?_))
 refine cd rfl (fun hc8 => ?_) fun hc8 => ?_
 · exfalso; simp at hc8; omega
 refine wk (k31 (sq fun _ k33 => (aj ?_)))
 refine cd rfl (fun hc9 => ?_) fun hc9 => ?_
 · exfalso; simp at hc9
 refine wk (k33 (aj (wR ?_)))
 refine fO ?_ trivial; simp only [go_sem]
end Go.Proofs.S
end
section
open Go Go.Abs Go.Proofs
open Go.ChangeShapes Go.WideShapes Go.RowKit Go.Proofs.YthbibdnkiklemaaGreatDoor
namespace Go.Proofs.S
theorem rdI : P.readableRec 3 = true := by kernel_rfl
theorem parsB : Tryz.f5.params = #[30, 3] := by kernel_rfl
abbrev lB : List (String × DataW Unit) := Rows.fnExactStoreBreakRow.laid
theorem lB_plain {w : World} (h : laidMetH P lB w) : laidMet P lB w := by rw [MakeChecks.laidMetH_plain _ _ _ (by kernel_rfl)] at h; exact h
theorem law_liftedB (os : Os) (started : os.Started) (H : Type) (enc : TypeId × Value → H) :
    ReturnsInHanded {} Tryz.checked os 5 .any (fun w args => (Rows.fnExactStoreBreakSpec.pre enc P Tryz.f5 [] false w args ∧ laidMetH P lB w) ∧
        sizedMet enc P Tryz.f5 (OpenSpec.ofChange Rows.fnExactStoreBreakSpec) false w args)
      (Rows.fnExactStoreBreakSpec.post enc P Tryz.f5 false true false false) := by
  refine returnsInHanded_of_change_and (C := Tryz.checked) (X := fun w _ => laidMetH P lB w) (fun _ _ _ hh h => h.of_heap hh) oKnob started (by kernel_rfl) Tryz.func5
    (ChangeSpec.witness_shaped (enc := enc) (C := Tryz.checked) (os := os) (X := fun w _ => laidMetH P lB w) false (World.laidAll P os lB) #[.agg #[.bool false, .int .i64 0, .slice none 0 0, .slice none 0 0, .slice none 0 0, .string ⟨#[]⟩, .int .i64 0, .slice none 0 0, .int .i64 0], .int .i64 0] 8 (World.laidAll_os _ _ _)
      (World.shaped_of_ZipB (by kernel_rfl) (by kernel_rfl)) (by kernel_rfl) (by kernel_rfl) (by kernel_rfl)
      (by rw [MakeChecks.laidMetH_plain _ _ _ (by kernel_rfl)]; exact laidMet_laidAll _ (by kernel_rfl) (by kernel_rfl))) ?_
  intro W base args ds gs before hval0 hW _ _ hL _
  have hval : ∀ (j : Nat) t v, Tryz.f5.params[j]? = some t → args[j]? = some v → Value.okWide P W .any base t v := hval0
  have hW' := hW
  have hlt := hW.lt
  obtain ⟨p, q, hA0, hV0, rfl, _, _⟩ := hW
  have hA : DataW.TrodAll enc P W 0 (fun _ => true) true Tryz.f5.params.toList args.toList ds p := hA0
  have hV : DataW.TrodVars enc P W (fun _ => true) [] gs q := hV0
  rw [parsB] at hA hval
  obtain ⟨v0, v1, d0, d1, p0, p1, rfl, rfl, rfl, h0, h1⟩ := trodAll_two hA
  obtain ⟨rfl, rfl⟩ : gs = [] ∧ q = [] := by
    cases gs with
    | nil => exact ⟨rfl, hV⟩
    | cons g r => exact absurd hV (by intro h; cases h)
  have gl := gl_of (lB_plain hL) (by simp [lB, Rows.fnExactStoreBreakRow]) (by simp [lB, Rows.fnExactStoreBreakRow]) (by simp [lB, Rows.fnExactStoreBreakRow])
  obtain ⟨f0, g0⟩ := id h0
  obtain ⟨f1, g1⟩ := id h1
  obtain ⟨b, hv1⟩ : ∃ n, v1 = .int .i64 n := by
    have := hval 1 3 v1 rfl rfl
    simp only [Value.okWide, uI] at this
    cases v1 <;> simp_all [Cell.okWide, Cell.ok, uI, IntKind.has]
  subst hv1
  obtain ⟨cs0, rfl⟩ := agg_of uSt (hval 0 30 v0 rfl rfl)
  obtain ⟨s, w0, hs, _, _, _, e0, r0⟩ := op_store (ρ := C0.ρ) (av := C0.avoid []) C0_av _ _ _ g0
  obtain rfl : w0 = .agg cs0 := by rw [e0 (by omega)]; rfl
  refine ((w_law_b s b hs.1.1 hs.1.2.1 hs.1.2.2 hs.2.1 hs.2.2) C0 W #[.agg cs0, .int .i64 b] (C0_rel gl) ⟨rfl, fun j x hj => ?_⟩ ?_).mono ?_
  · match j, hj with
    | 0, hj => cases hj; exact r0
    | 1, hj => cases hj; exact .raw _
    | j + 2, hj => simp at hj
  · exact ⟨dN _ _, trivial, trivial⟩
  rintro e W' ⟨v, r, H', n', C', rfl, hn, ⟨rfl, rfl, rfl⟩, hR, hS, hv, _⟩
  cases hv
  have hbelow := C0_below hS
  have hl0 : ∀ x ∈ p0, x.block < W.heap.size := fun x hx => hlt x (by simp [hx])
  have hl1 : ∀ x ∈ p1, x.block < W.heap.size := fun x hx => hlt x (by simp [hx])
  refine ⟨_, rfl, [d0, d1], [], _, [], p0 ++ p1, [], hW', ?_, ?_, ?_, hbelow.frame _, fun h => by cases h⟩
  · exact trodAll_mk1 (shut_bool uB true)
  · exact trodAll_mk2 (Below.trod oLaid rdSt (of_decide_eq_true (by kernel_rfl)) h0 hbelow hl0) (Below.trod oLaid rdI (of_decide_eq_true (by kernel_rfl)) h1 hbelow hl1)
  exact rfl
theorem f_holdsB : Rows.FnExactStoreBreakSaid :=
  OpenClaim.holds_of_wide 5 Tryz.f5 rfl rfl rfl rfl rfl rfl rfl ⟨rfl, rfl, rfl, rfl, rfl⟩ rfl rfl rfl rfl rfl (by kernel_rfl) Tryz.func5 (by kernel_rfl)
    (of_decide_eq_true (by kernel_rfl)) (by unfold Func.isWrapper; rw [if_neg (of_decide_eq_false (by kernel_rfl))]; exact ⟨rfl, rfl⟩)
    (fun os started H enc _ => law_liftedB os started H enc)
end Go.Proofs.S
end
section
open Go
namespace Go.Proofs.YthbibdnkiklemaaGreatDoor
theorem fnExactStoreBreak_card : Rows.FnExactStoreBreakCardSaid :=
  Claim7.holds_tied_plain_at .later [] [.data, .data, .data, .sentinel, .sentinel] true (true, "84a6217a5bfb3aca5bb11f94d1427a067a1d81862944acb0a7be4fc2b7eb6dc6") true
    S.f_holdsB (fun _ h => by cases h) (by kernel_rfl) (fun _ h => by cases h) fnExactStoreBreak_row_tie rfl ⟨rfl, rfl⟩ (by kernel_rfl) rfl
    (fun f fn hf hfn => by
      obtain rfl : f = 5 := Option.some.inj ((show Tryz.prog.funcNamed "loop.example/comptoir/laws.FnExactStoreBreak" = some 5 by kernel_rfl).symm.trans hf) |>.symm
      obtain rfl : fn = Tryz.f5 := (Option.some.inj (Tryz.func5.symm.trans hfn)).symm
      exact ⟨by kernel_rfl, fun j t ht => by
        rw [S.parsB] at ht
        have h3 : t = 30 ∨ t = 3 := by
          rcases j with _ | _ | j
          · exact .inl (by simpa using ht.symm)
          · exact .inr (by simpa using ht.symm)
          simp at ht
        rcases h3 with rfl | rfl
        · exact (show Tryz.prog.wantsStandIn 30 = false by kernel_rfl)
        exact (show Tryz.prog.wantsStandIn 3 = false by kernel_rfl)⟩)
    (by kernel_rfl)
end Go.Proofs.YthbibdnkiklemaaGreatDoor
end
