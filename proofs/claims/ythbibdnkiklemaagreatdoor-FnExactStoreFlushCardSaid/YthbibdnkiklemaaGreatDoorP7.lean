/-
  The law FnExactStoreFlush answers true for every input, and leaves its arguments as they were: the tied card. Conditions: those of the given row and card, none of its own (the listed variables as the program's text lays them).
-/
import Derived.Test.YthbibdnkiklemaaGreatDoorP6
import Derived.Test.YthbibdnkiklemaaGreatDoorTie
import Derived.Test.YthbibdnkiklemaaGreatDoorCards
import Derived.SevenTiedAt
set_option linter.all false
set_option maxRecDepth 100000
section
open Go Go.Abs Go.Proofs
open Go.ChangeShapes Go.WideShapes Go.RowKit Go.Proofs.YthbibdnkiklemaaGreatDoor
namespace Go.Proofs.S
theorem parsF : Tryz.f4.params = #[30] := by kernel_rfl
abbrev lF : List (String × DataW Unit) := Rows.fnExactStoreFlushRow.laid
theorem lF_plain {w : World} (h : laidMetH P lF w) : laidMet P lF w := by rw [MakeChecks.laidMetH_plain _ _ _ (by kernel_rfl)] at h; exact h
theorem law_liftedF (os : Os) (started : os.Started) (H : Type) (enc : TypeId × Value → H) :
    ReturnsInHanded {} Tryz.checked os 4 .any (fun w args => (Rows.fnExactStoreFlushSpec.pre enc P Tryz.f4 [] false w args ∧ laidMetH P lF w) ∧
        sizedMet enc P Tryz.f4 (OpenSpec.ofChange Rows.fnExactStoreFlushSpec) false w args)
      (Rows.fnExactStoreFlushSpec.post enc P Tryz.f4 false true false false) := by
  refine returnsInHanded_of_change_and (C := Tryz.checked) (X := fun w _ => laidMetH P lF w) (fun _ _ _ hh h => h.of_heap hh) oKnob started (by kernel_rfl) Tryz.func4
    (ChangeSpec.witness_shaped (enc := enc) (C := Tryz.checked) (os := os) (X := fun w _ => laidMetH P lF w) false (World.laidAll P os lF) #[.agg #[.bool false, .int .i64 0, .slice none 0 0, .slice none 0 0, .slice none 0 0, .string ⟨#[]⟩, .int .i64 0, .slice none 0 0, .int .i64 0]] 8 (World.laidAll_os _ _ _)
      (World.shaped_of_ZipB (by kernel_rfl) (by kernel_rfl)) (by kernel_rfl) (by kernel_rfl) (by kernel_rfl)
      (by rw [MakeChecks.laidMetH_plain _ _ _ (by kernel_rfl)]; exact laidMet_laidAll _ (by kernel_rfl) (by kernel_rfl))) ?_
  intro W base args ds gs before hval0 hW _ _ hL _
  have hval : ∀ (j : Nat) t v, Tryz.f4.params[j]? = some t → args[j]? = some v → Value.okWide P W .any base t v := hval0
  have hW' := hW
  have hlt := hW.lt
  obtain ⟨p, q, hA0, hV0, rfl, _, _⟩ := hW
  have hA : DataW.TrodAll enc P W 0 (fun _ => true) true Tryz.f4.params.toList args.toList ds p := hA0
  have hV : DataW.TrodVars enc P W (fun _ => true) [] gs q := hV0
  rw [parsF] at hA hval
  obtain ⟨v0, d0, rfl, rfl, h0⟩ := trodAll_one hA
  obtain ⟨rfl, rfl⟩ : gs = [] ∧ q = [] := by
    cases gs with
    | nil => exact ⟨rfl, hV⟩
    | cons g r => exact absurd hV (by intro h; cases h)
  have gl := gl_of (lF_plain hL) (by simp [lF, Rows.fnExactStoreFlushRow]) (by simp [lF, Rows.fnExactStoreFlushRow]) (by simp [lF, Rows.fnExactStoreFlushRow])
  obtain ⟨f0, g0⟩ := id h0
  obtain ⟨cs0, rfl⟩ := agg_of uSt (hval 0 30 v0 rfl rfl)
  obtain ⟨s, w0, hs, _, _, _, e0, r0⟩ := op_store (ρ := C0.ρ) (av := C0.avoid []) C0_av _ _ _ g0
  obtain rfl : w0 = .agg cs0 := by rw [e0 (by omega)]; rfl
  refine ((w_law_f s hs.1.1 hs.1.2.1 hs.1.2.2 hs.2.1 hs.2.2) C0 W #[.agg cs0] (C0_rel gl) ⟨rfl, fun j x hj => ?_⟩ ?_).mono ?_
  · match j, hj with
    | 0, hj => cases hj; exact r0
    | j + 1, hj => simp at hj
  · exact ⟨bR _ _, trivial⟩
  rintro e W' ⟨v, r, H', n', C', rfl, hn, ⟨rfl, rfl, rfl⟩, hR, hS, hv, _⟩
  cases hv
  have hbelow := C0_below hS
  have hl0 : ∀ x ∈ p, x.block < W.heap.size := fun x hx => hlt x (by simp [hx])
  refine ⟨_, rfl, [d0], [], _, [], p, [], hW', ?_, ?_, ?_, hbelow.frame _, fun h => by cases h⟩
  · exact trodAll_mk1 (shut_bool uB true)
  · exact trodAll_mk1 (Below.trod oLaid rdSt (of_decide_eq_true (by kernel_rfl)) h0 hbelow hl0)
  exact rfl
theorem f_holdsF : Rows.FnExactStoreFlushSaid :=
  OpenClaim.holds_of_wide 4 Tryz.f4 rfl rfl rfl rfl rfl rfl rfl ⟨rfl, rfl, rfl, rfl, rfl⟩ rfl rfl rfl rfl rfl (by kernel_rfl) Tryz.func4 (by kernel_rfl)
    (of_decide_eq_true (by kernel_rfl)) (by unfold Func.isWrapper; rw [if_neg (of_decide_eq_false (by kernel_rfl))]; exact ⟨rfl, rfl⟩)
    (fun os started H enc _ => law_liftedF os started H enc)
end Go.Proofs.S
end
section
open Go
namespace Go.Proofs.YthbibdnkiklemaaGreatDoor
theorem fnExactStoreFlush_card : Rows.FnExactStoreFlushCardSaid :=
  Claim7.holds_tied_plain_at .later [] [.data, .data, .data, .sentinel, .sentinel] true (true, "84a6217a5bfb3aca5bb11f94d1427a067a1d81862944acb0a7be4fc2b7eb6dc6") true
    S.f_holdsF (fun _ h => by cases h) (by kernel_rfl) (fun _ h => by cases h) fnExactStoreFlush_row_tie rfl ⟨rfl, rfl⟩ (by kernel_rfl) rfl
    (fun f fn hf hfn => by
      obtain rfl : f = 4 := Option.some.inj ((show Tryz.prog.funcNamed "loop.example/comptoir/laws.FnExactStoreFlush" = some 4 by kernel_rfl).symm.trans hf) |>.symm
      obtain rfl : fn = Tryz.f4 := (Option.some.inj (Tryz.func4.symm.trans hfn)).symm
      exact ⟨by kernel_rfl, fun j t ht => by
        rw [S.parsF] at ht
        have h3 : t = 30 := by
          rcases j with _ | j
          · simpa using ht.symm
          simp at ht
        rw [h3]
        exact (show Tryz.prog.wantsStandIn 30 = false by kernel_rfl)⟩)
    (by kernel_rfl)
end Go.Proofs.YthbibdnkiklemaaGreatDoor
end
