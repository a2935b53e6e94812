/-
  The abstract layer and the walks that the claim leans on, part 2 of 6 (merged out of the working texts Abs6a, Abs7, Abs8, Abs9, Abs10, Abs11, Abs12, Abs13, Abs14, Abs15). It proves lemmas alone; no condition of its own.
-/
import Derived.Test.YtfmiaofafefblaaDoorP1
set_option linter.all false

/- Abs6a -/
section
/- The abstract layer, still ahead of the seventh part: function values, whole numbers of other kinds, fields of values, new maps. -/
set_option linter.unusedVariables false
set_option linter.unusedSimpArgs false
namespace Go.Abs
open Go

/-- A map's type. -/
def mapInfo (P : Program) (t : TypeId) : Option (TypeId × TypeId) :=
  match P.underlying t with
  | some (.map k e) => some (k, e)
  | _ => none
theorem mapInfo_open {P : Program} {t k e : TypeId} (h : mapInfo P t = some (k, e)) : P.underlying t = some (.map k e) := by
  unfold mapInfo at h
  split at h
  · cases h; assumption
  · cases h

def intInfo (P : Program) (t : TypeId) : Option IntKind :=
  match P.underlying t with
  | some (.int k) => some k
  | _ => none
theorem intInfo_open {P : Program} {t : TypeId} {k : IntKind} (h : intInfo P t = some k) : P.underlying t = some (.int k) := by
  unfold intInfo at h
  split at h
  · cases h; assumption
  · cases h

section
variable {P : Program} {ro : Option Nat} {N : Nat} {o : Oper} {E : Env} {H : Heap} {U : Nat → Prop}

theorem opT_makeMap {t kt et : TypeId} {nw : Nat} (ho : o.op = .makeMap t none) (hN : ∀ d, o.dst = some d → d < N) (hm : mapInfo P t = some (kt, et)) (hnw : ¬ U nw) :
    OpT P ro N o E H U (putO E o.dst (.ref nw)) (put H nw (.map kt et [])) (fun j => U j ∨ j = nw) := by
  refine opT_new (by simp [ho, Op.noDefer]) hN hnw trivial (Or.inr rfl) fun C a w hR => ?_
  refine ⟨.map (some w.heap.size), .map #[] 0, .map (some w.heap.size), [w.heap.size], rfl, ?_, by simp, fun ρ av hold => ⟨?_, fun e => by rw [← e]; exact .ref _⟩⟩
  · simp [execOp, ho, Instr.makeMap, run_underlying (mapInfo_open hm)]
  · exact ⟨w.heap.size, #[], 0, rfl, rfl, heap_alloc_new w _, rfl, by simp [maxLen], fun j k x hj => by simp at hj, fun j e hj => by simp at hj⟩

theorem repL_ops {C : Conc} {a : Act} {w : World} (hR : Rel C N E H U a w) {xs : Array Operand} {ps : List AV} (h : xs.toList.map (opv E) = ps.map some) : RepL C.ρ (C.avoid H) w.heap ps (xs.map a.eval) ∧ belL U ps := by
  have hlen : xs.size = ps.length := by have := congrArg List.length h; simpa using this
  have hget : ∀ (j : Nat) (p : AV), ps[j]? = some p → ∃ x, xs[j]? = some x ∧ opv E x = some p := fun j p hj => by
    have h1 : (xs.toList.map (opv E))[j]? = some (some p) := by rw [h, List.getElem?_map, hj]; rfl
    rw [List.getElem?_map, Array.getElem?_toList] at h1
    obtain ⟨x, hx, hxp⟩ := Option.map_eq_some_iff.1 h1
    exact ⟨x, hx, hxp⟩
  refine ⟨⟨by simpa using hlen, fun j p hj => ?_⟩, belL_iff.2 fun p hp => ?_⟩
  · obtain ⟨x, hx, hxp⟩ := hget j p hj
    have := (hR.opv hxp).1
    simpa [Array.getD_eq_getD_getElem?, hx] using this
  · obtain ⟨j, hj⟩ := List.getElem?_of_mem hp
    obtain ⟨x, _, hxp⟩ := hget j p hj
    exact (hR.opv hxp).2

theorem opT_makeFunc {f : Fn} {first cap : Array Operand} {as bs : List AV} (ho : o.op = .makeFunc f first cap) (hN : ∀ d, o.dst = some d → d < N) (ha : first.toList.map (opv E) = as.map some) (hb : cap.toList.map (opv E) = bs.map some) :
    OpT P ro N o E H U (putO E o.dst (.fn f as bs)) H U := by
  refine opT_val (by simp [ho, Op.noDefer]) hN fun C a w hR => ?_
  obtain ⟨h1, h2⟩ := repL_ops hR ha
  obtain ⟨h3, h4⟩ := repL_ops hR hb
  exact ⟨⟨h2, h4⟩, _, by simp [execOp, ho, Instr.makeFunc], .fn _ _ _ _ _ h1.1 h1.2 h3.1 h3.2⟩

theorem opT_convInt {s t : TypeId} {x : Operand} {k k' : IntKind} {n : Int} (ho : o.op = .convert s t x) (hN : ∀ d, o.dst = some d → d < N) (hs : (intInfo P s).isSome = true) (ht : intInfo P t = some k') (hx : opv E x = some (.raw (.int k n))) :
    OpT P ro N o E H U (putO E o.dst (.raw (.int k' (k'.wrap n)))) H U := by
  refine opT_val (by simp [ho, Op.noDefer]) hN fun C a w hR => ?_
  obtain ⟨h1, _⟩ := hR.opv hx
  generalize hev : a.eval x = u at h1
  cases h1
  obtain ⟨ks, hks⟩ := Option.isSome_iff_exists.1 hs
  refine ⟨trivial, _, ?_, .raw _⟩
  simp [execOp, ho, hev, convert, run_underlying (intInfo_open ht), run_underlying (intInfo_open hks), Conv.intToInt]

theorem opT_field {t : TypeId} {x : Operand} {j off sz : Nat} {ag : Bool} {p r : AV} (ho : o.op = .field t x j) (hN : ∀ d, o.dst = some d → d < N) (hf : fieldInfo P t j = some (off, some sz, some ag)) (hx : opv E x = some p) (hp : p.notAgg = false) (hr : elPart p off sz ag = some r) :
    OpT P ro N o E H U (putO E o.dst r) H U := by
  refine opT_val (by simp [ho, Op.noDefer]) hN fun C a w hR => ?_
  obtain ⟨h1, h2⟩ := hR.opv hx
  obtain ⟨q1, q2, q3⟩ := elPart_rep h1 C.one h2 hr
  obtain ⟨fs, f, hu, hfj, hoff, hv⟩ := fieldInfo_open hf
  refine ⟨q2, _, ?_, q1⟩
  have hagg : ∃ vs, a.eval x = .agg vs := by
    cases p with
    | agg cs => generalize a.eval x = v at h1; cases h1; exact ⟨_, rfl⟩
    | _ => simp [AV.notAgg] at hp
  obtain ⟨vs, hvs⟩ := hagg
  rw [hvs] at q3
  have q3' : off + sz ≤ vs.size := q3
  have hpart : (part f.type vs f.offset).run P w = .ok (valPart (.agg vs) off sz ag) w := by
    unfold part
    rw [Sem.run_bind, hv.run_agg w, hoff]
    cases ag with
    | true =>
      simp only [Result.andThen_ok, if_true, Sem.run_bind, hv.run_size w, Sem.run_pure, valPart, Value.cells]
      congr 2
      apply Array.ext
      · simp; omega
      · intro q h1 h2
        simp at h1 h2
        simp [Array.getD_eq_getD_getElem?, show off + q < vs.size by omega]
    | false =>
      have hsz : sz = 1 := elPart_pos hr rfl
      have hlt : off < vs.size := by omega
      simp [valPart, Value.cells, Array.getElem?_eq_getElem hlt, Array.getD_eq_getD_getElem?]
  rw [hvs]
  simp only [execOp, ho, hvs, Instr.field, Sem.run_bind, run_underlying hu, Result.andThen_ok, hfj, asAgg, Sem.run_pure, hpart]

end
end Go.Abs
end

/- Abs7 -/
section
/- The abstract layer, seventh part: other names for the same objects. -/
set_option linter.unusedVariables false
set_option linter.unusedSimpArgs false
namespace Go.Abs
open Go

mutual
/-- Other names. -/
def AV.ren (σ : Nat → Nat) : AV → AV
  | .any => .any
  | .raw v => .raw v
  | .agg cs => .agg (renL σ cs)
  | .tup cs => .tup (renL σ cs)
  | .sl sz xs => .sl sz (renL σ xs)
  | .fp sz xs j off => .fp sz (renL σ xs) j off
  | .ptr i off => .ptr (σ i) off
  | .ep i sz j off => .ep (σ i) sz j off
  | .ref i => .ref (σ i)
  | .iface t x => .iface t (x.ren σ)
  | .fn f a b => .fn f (renL σ a) (renL σ b)
  | .when c x => .when c (x.ren σ)
  | .own e sz xs => .own e sz (renL σ xs)
def renL (σ : Nat → Nat) : List AV → List AV
  | [] => []
  | x :: xs => x.ren σ :: renL σ xs
end

theorem renL_eq (σ : Nat → Nat) : ∀ xs : List AV, renL σ xs = xs.map (AV.ren σ)
  | [] => rfl
  | x :: xs => by rw [renL, renL_eq σ xs]; rfl

theorem renL_get (σ : Nat → Nat) (xs : List AV) (j : Nat) : (renL σ xs)[j]? = (xs[j]?).map (AV.ren σ) := by rw [renL_eq, List.getElem?_map]
theorem renL_length (σ : Nat → Nat) (xs : List AV) : (renL σ xs).length = xs.length := by rw [renL_eq, List.length_map]

mutual
theorem AV.ren_congr {σ τ : Nat → Nat} {U : Nat → Prop} (h : ∀ i, U i → σ i = τ i) : ∀ x : AV, x.bel U → x.ren σ = x.ren τ
  | .any, _ => rfl
  | .raw _, _ => rfl
  | .agg cs, hx => by rw [AV.ren, AV.ren, renL_congr h cs hx]
  | .tup cs, hx => by rw [AV.ren, AV.ren, renL_congr h cs hx]
  | .sl _ xs, hx => by rw [AV.ren, AV.ren, renL_congr h xs hx]
  | .fp _ xs _ _, hx => by rw [AV.ren, AV.ren, renL_congr h xs hx]
  | .ptr i _, hx => by rw [AV.ren, AV.ren, h i hx]
  | .ep i _ _ _, hx => by rw [AV.ren, AV.ren, h i hx]
  | .ref i, hx => by rw [AV.ren, AV.ren, h i hx]
  | .iface _ x, hx => by rw [AV.ren, AV.ren, AV.ren_congr h x hx]
  | .fn _ a b, hx => by rw [AV.ren, AV.ren, renL_congr h a hx.1, renL_congr h b hx.2]
  | .when _ x, hx => by rw [AV.ren, AV.ren, AV.ren_congr h x hx]
  | .own _ _ xs, hx => by rw [AV.ren, AV.ren, renL_congr h xs hx]
theorem renL_congr {σ τ : Nat → Nat} {U : Nat → Prop} (h : ∀ i, U i → σ i = τ i) : ∀ xs : List AV, belL U xs → renL σ xs = renL τ xs
  | [], _ => rfl
  | x :: xs, hx => by rw [renL, renL, AV.ren_congr h x hx.1, renL_congr h xs hx.2]
end

mutual
theorem AV.ren_id : ∀ x : AV, x.ren id = x
  | .any => rfl
  | .raw _ => rfl
  | .agg cs => by rw [AV.ren, renL_id]
  | .tup cs => by rw [AV.ren, renL_id]
  | .sl _ xs => by rw [AV.ren, renL_id]
  | .fp _ xs _ _ => by rw [AV.ren, renL_id]
  | .ptr i _ => rfl
  | .ep i _ _ _ => rfl
  | .ref i => rfl
  | .iface _ x => by rw [AV.ren, AV.ren_id]
  | .fn _ a b => by rw [AV.ren, renL_id, renL_id]
  | .when _ x => by rw [AV.ren, AV.ren_id]
  | .own _ _ xs => by rw [AV.ren, renL_id]
theorem renL_id : ∀ xs : List AV, renL id xs = xs
  | [] => rfl
  | x :: xs => by rw [renL, AV.ren_id, renL_id]
end

/-- What names no object has no other name. -/
theorem AV.ren_closed (σ : Nat → Nat) {x : AV} (h : x.bel fun _ => False) : x.ren σ = x :=
  (AV.ren_congr (τ := id) (fun _ h => h.elim) x h).trans (AV.ren_id x)
theorem renL_closed (σ : Nat → Nat) {xs : List AV} (h : belL (fun _ => False) xs) : renL σ xs = xs :=
  (renL_congr (τ := id) (fun _ h => h.elim) xs h).trans (renL_id xs)

mutual
theorem AV.bel_ren {U : Nat → Prop} {σ : Nat → Nat} : ∀ {x : AV}, (x.ren σ).bel U ↔ x.bel fun i => U (σ i)
  | .any => Iff.rfl
  | .raw _ => Iff.rfl
  | .agg cs => by rw [AV.ren]; exact belL_ren
  | .tup cs => by rw [AV.ren]; exact belL_ren
  | .sl _ xs => by rw [AV.ren]; exact belL_ren
  | .fp _ xs _ _ => by rw [AV.ren]; exact belL_ren
  | .ptr _ _ => Iff.rfl
  | .ep _ _ _ _ => Iff.rfl
  | .ref _ => Iff.rfl
  | .iface _ x => by rw [AV.ren]; exact AV.bel_ren
  | .fn _ a b => by rw [AV.ren]; exact and_congr belL_ren belL_ren
  | .when _ x => by rw [AV.ren]; exact AV.bel_ren
  | .own _ _ xs => by rw [AV.ren]; exact belL_ren
theorem belL_ren {U : Nat → Prop} {σ : Nat → Nat} : ∀ {xs : List AV}, belL U (renL σ xs) ↔ belL (fun i => U (σ i)) xs
  | [] => Iff.rfl
  | x :: xs => by rw [renL]; exact and_congr AV.bel_ren belL_ren
end

theorem Rep.ren {ρ : Nat → Value} {av : Nat → Prop} {hp : Array Obj} {σ : Nat → Nat} {x : AV} {v : Value} (h : Rep (fun i => ρ (σ i)) av hp x v) : Rep ρ av hp (x.ren σ) v := by
  have aux : ∀ {xs : List AV} {g : Nat → Value}, (∀ (j : Nat) (y : AV), xs[j]? = some y → Rep ρ av hp (y.ren σ) (g j)) → ∀ (j : Nat) (y : AV), (renL σ xs)[j]? = some y → Rep ρ av hp y (g j) := fun hh j y hy => by
    rw [renL_get] at hy
    obtain ⟨z, hz, rfl⟩ := Option.map_eq_some_iff.1 hy
    exact hh j z hz
  induction h with
  | any v => exact .any v
  | raw v => exact .raw v
  | agg cs vs hn _ ih => exact .agg _ vs (by rw [renL_length]; exact hn) (aux ih)
  | tup cs vs hn _ ih => exact .tup _ vs (by rw [renL_length]; exact hn) (aux ih)
  | sl0 sz A c hc => exact .sl0 sz A c hc
  | sl sz xs b off c cells t fr vals h0 hc hm hb hh _ hcells ih =>
    have := Rep.sl sz (renL σ xs) b off c cells t fr vals (by rw [renL_length]; exact h0) (by rw [renL_length]; exact hc) hm hb hh (aux ih) (by rw [renL_length]; exact hcells)
    rw [renL_length] at this
    exact this
  | fp sz xs j d b off cells t fr vals hb hh _ hcells ih => exact .fp sz _ j d b off cells t fr vals hb hh (aux ih) (by rw [renL_length]; exact hcells)
  | ptr i off b h => exact .ptr _ off b h
  | ep i sz j off b h => exact .ep _ sz j off b h
  | ref i => exact .ref _
  | iface t x v _ ih => exact .iface t _ v ih
  | fn f first cap vs us hn _ hn' _ ih ih' => exact .fn f _ _ vs us (by rw [renL_length]; exact hn) (aux ih) (by rw [renL_length]; exact hn') (aux ih')
  | when c x v _ h' ih => exact .when c _ v ih h'

theorem Rep.unren {ρ : Nat → Value} {av : Nat → Prop} {hp : Array Obj} {σ : Nat → Nat} {y : AV} {v : Value} (h : Rep ρ av hp y v) : ∀ x : AV, y = x.ren σ → Rep (fun i => ρ (σ i)) av hp x v := by
  have aux : ∀ {ys xs : List AV} {g : Nat → Value}, ys = renL σ xs → (∀ (j : Nat) (y : AV), ys[j]? = some y → ∀ x : AV, y = x.ren σ → Rep (fun i => ρ (σ i)) av hp x (g j)) → ∀ (j : Nat) (x : AV), xs[j]? = some x → Rep (fun i => ρ (σ i)) av hp x (g j) := fun he hh j x hx => by
    subst he
    exact hh j (x.ren σ) (by rw [renL_get, hx]; rfl) x rfl
  induction h with
  | any v => intro x hx; cases x <;> simp [AV.ren] at hx; exact .any v
  | raw v => intro x hx; cases x <;> simp [AV.ren] at hx; subst hx; exact .raw v
  | agg cs vs hn _ ih => intro x hx; cases x <;> simp [AV.ren] at hx; exact .agg _ vs (by rw [hn, hx, renL_length]) (aux hx ih)
  | tup cs vs hn _ ih => intro x hx; cases x <;> simp [AV.ren] at hx; exact .tup _ vs (by rw [hn, hx, renL_length]) (aux hx ih)
  | sl0 sz A c hc =>
    intro x hx
    cases x <;> simp [AV.ren] at hx
    rename_i sz' xs
    obtain ⟨rfl, hx⟩ := hx
    cases xs with
    | nil => exact .sl0 _ A c hc
    | cons _ _ => simp [renL] at hx
  | sl sz xs b off c cells t fr vals h0 hc hm hb hh _ hcells ih =>
    intro x hx
    cases x <;> simp [AV.ren] at hx
    rename_i sz' xs'
    obtain ⟨rfl, hx⟩ := hx
    have hl : xs.length = xs'.length := by rw [hx, renL_length]
    have := Rep.sl (ρ := fun i => ρ (σ i)) (av := av) (hp := hp) sz xs' b off c cells t fr vals (by omega) (by omega) hm hb hh (aux hx ih) (by rw [← hl]; exact hcells)
    rw [hl]
    exact this
  | fp sz xs j d b off cells t fr vals hb hh _ hcells ih =>
    intro x hx
    cases x <;> simp [AV.ren] at hx
    rename_i sz' xs' j' d'
    obtain ⟨rfl, hx, rfl, rfl⟩ := hx
    have hl : xs.length = xs'.length := by rw [hx, renL_length]
    exact .fp sz xs' j d b off cells t fr vals hb hh (aux hx ih) (by rw [← hl]; exact hcells)
  | ptr i off b h => intro x hx; cases x <;> simp [AV.ren] at hx; obtain ⟨rfl, rfl⟩ := hx; exact .ptr _ _ b h
  | ep i sz j off b h => intro x hx; cases x <;> simp [AV.ren] at hx; obtain ⟨rfl, rfl, rfl, rfl⟩ := hx; exact .ep _ _ _ _ b h
  | ref i =>
    intro x hx
    cases x <;> simp [AV.ren] at hx
    subst hx
    exact Rep.ref (ρ := fun i => ρ (σ i)) _
  | iface t x v _ ih => intro x' hx; cases x' <;> simp [AV.ren] at hx; obtain ⟨rfl, hx⟩ := hx; exact .iface _ _ v (ih _ hx)
  | fn f first cap vs us hn _ hn' _ ih ih' =>
    intro x hx
    cases x <;> simp [AV.ren] at hx
    obtain ⟨rfl, h1, h2⟩ := hx
    exact .fn _ _ _ vs us (by rw [hn, h1, renL_length]) (aux h1 ih) (by rw [hn', h2, renL_length]) (aux h2 ih')
  | when c x v _ h' ih => intro x' hx; cases x' <;> simp [AV.ren] at hx; obtain ⟨hcc, hx⟩ := hx; exact .when _ _ v (fun hc => ih (hcc.2 hc) _ hx) (fun hc => h' (fun q => hc (hcc.1 q)))

theorem RepO.ren {ρ : Nat → Value} {av : Nat → Prop} {hp : Array Obj} {σ : Nat → Nat} {x : AV} {v : Value} {ow : List Nat} (h : RepO (fun i => ρ (σ i)) av hp x v ow) : RepO ρ av hp (x.ren σ) v ow := by
  have aux : ∀ {xs : List AV} {g : Nat → Value} {ows : Nat → List Nat}, (∀ (j : Nat) (y : AV), xs[j]? = some y → RepO ρ av hp (y.ren σ) (g j) (ows j)) → ∀ (j : Nat) (y : AV), (renL σ xs)[j]? = some y → RepO ρ av hp y (g j) (ows j) := fun hh j y hy => by
    rw [renL_get] at hy
    obtain ⟨z, hz, rfl⟩ := Option.map_eq_some_iff.1 hy
    exact hh j z hz
  induction h with
  | leaf x v h => exact .leaf _ v h.ren
  | agg cs vs ows hn _ ih =>
    have := RepO.agg (renL σ cs) vs ows (by rw [renL_length]; exact hn) (aux (g := fun j => vs.getD j undef) ih)
    rw [renL_length] at this
    exact this
  | own0 e sz => exact .own0 e sz
  | own e sz xs b c cells vals ows hh hs hc hm _ hcells ih =>
    have := RepO.own e sz (renL σ xs) b c cells vals ows hh hs (by rw [renL_length]; exact hc) hm (aux ih) (by rw [renL_length]; exact hcells)
    rw [renL_length] at this
    exact this

theorem RepO.unren {ρ : Nat → Value} {av : Nat → Prop} {hp : Array Obj} {σ : Nat → Nat} {y : AV} {v : Value} {ow : List Nat} (h : RepO ρ av hp y v ow) : ∀ x : AV, y = x.ren σ → RepO (fun i => ρ (σ i)) av hp x v ow := by
  have aux : ∀ {ys xs : List AV} {g : Nat → Value} {ows : Nat → List Nat}, ys = renL σ xs → (∀ (j : Nat) (y : AV), ys[j]? = some y → ∀ x : AV, y = x.ren σ → RepO (fun i => ρ (σ i)) av hp x (g j) (ows j)) →
      ∀ (j : Nat) (x : AV), xs[j]? = some x → RepO (fun i => ρ (σ i)) av hp x (g j) (ows j) := fun he hh j x hx => by
    subst he
    exact hh j (x.ren σ) (by rw [renL_get, hx]; rfl) x rfl
  induction h with
  | leaf y v h => intro x hx; exact .leaf x v (h.unren x hx)
  | agg cs vs ows hn _ ih =>
    intro x hx
    cases x <;> simp [AV.ren] at hx
    rename_i cs'
    have hl : cs.length = cs'.length := by rw [hx, renL_length]
    have := RepO.agg (ρ := fun i => ρ (σ i)) (av := av) (hp := hp) cs' vs ows (by omega) (aux (g := fun j => vs.getD j undef) hx ih)
    rw [hl]
    exact this
  | own0 e sz =>
    intro x hx
    cases x <;> simp [AV.ren] at hx
    rename_i e' sz' xs
    obtain ⟨rfl, rfl, hx⟩ := hx
    cases xs with
    | nil => exact .own0 _ _
    | cons _ _ => simp [renL] at hx
  | own e sz xs b c cells vals ows hh hs hc hm _ hcells ih =>
    intro x hx
    cases x <;> simp [AV.ren] at hx
    rename_i e' sz' xs'
    obtain ⟨rfl, rfl, hx⟩ := hx
    have hl : xs.length = xs'.length := by rw [hx, renL_length]
    have := RepO.own (ρ := fun i => ρ (σ i)) (av := av) (hp := hp) e sz xs' b c cells vals ows hh hs (by omega) hm (aux hx ih) (by rw [← hl]; exact hcells)
    rw [hl]
    exact this

def AObj.ren (σ : Nat → Nat) : AObj → AObj
  | .dead => .dead
  | .cells t cs => .cells t (renL σ cs)
  | .row e sz xs => .row e sz (renL σ xs)
  | .map kt et m => .map kt et (m.map fun p => (p.1, p.2.ren σ))
  | .mapS kt et m k st => .mapS kt et (m.map fun p => (p.1, p.2.ren σ)) k (σ st)
  | .other b o => .other b o
  | .loop l rec No Eo => .loop l rec No (Eo.map fun p => (p.1, p.2.ren σ))

theorem AObj.ren_congr {σ τ : Nat → Nat} {U : Nat → Prop} (h : ∀ i, U i → σ i = τ i) (o : AObj) (ho : o.bel U) : o.ren σ = o.ren τ := by
  cases o with
  | dead => rfl
  | cells t cs => rw [AObj.ren, AObj.ren, renL_congr h cs ho]
  | row e sz xs => rw [AObj.ren, AObj.ren, renL_congr h xs ho]
  | map kt et m =>
    rw [AObj.ren, AObj.ren]
    congr 1
    apply List.map_congr_left
    intro p hp
    have : p.2.bel U := belL_iff.1 ho _ (List.mem_map_of_mem hp)
    rw [AV.ren_congr h _ this]
  | mapS kt et m k st =>
    rw [AObj.ren, AObj.ren, h st ho.2]
    congr 1
    apply List.map_congr_left
    intro p hp
    have : p.2.bel U := belL_iff.1 ho.1 _ (List.mem_map_of_mem hp)
    rw [AV.ren_congr h _ this]
  | other b o => rfl
  | loop l rec No Eo =>
    rw [AObj.ren, AObj.ren]
    congr 1
    apply List.map_congr_left
    intro p hp
    have : p.2.bel U := belL_iff.1 ho _ (List.mem_map_of_mem hp)
    rw [AV.ren_congr h _ this]

theorem AObj.bel_ren {U : Nat → Prop} {σ : Nat → Nat} {o : AObj} : (o.ren σ).bel U ↔ o.bel fun i => U (σ i) := by
  cases o with
  | dead => exact Iff.rfl
  | cells t cs => exact belL_ren
  | row e sz xs => exact belL_ren
  | map kt et m =>
    have : ((m.map fun p => (p.1, p.2.ren σ)).map fun x => x.2) = renL σ (m.map fun x => x.2) := by rw [renL_eq]; simp
    show belL U _ ↔ belL _ _
    rw [this]
    exact belL_ren
  | mapS kt et m k st =>
    have : ((m.map fun p => (p.1, p.2.ren σ)).map fun x => x.2) = renL σ (m.map fun x => x.2) := by rw [renL_eq]; simp
    show belL U _ ∧ U (σ st) ↔ belL _ _ ∧ U (σ st)
    rw [this]
    exact and_congr belL_ren Iff.rfl
  | other b o => exact Iff.rfl
  | loop l rec No m =>
    have : ((m.map fun p => (p.1, p.2.ren σ)).map fun x => x.2) = renL σ (m.map fun x => x.2) := by rw [renL_eq]; simp
    show belL U _ ↔ belL _ _
    rw [this]
    exact belL_ren

theorem RepL.ren {ρ : Nat → Value} {av : Nat → Prop} {hp : Array Obj} {σ : Nat → Nat} {xs : List AV} {vs : Array Value} (h : RepL (fun i => ρ (σ i)) av hp xs vs) : RepL ρ av hp (renL σ xs) vs :=
  ⟨by rw [renL_length]; exact h.1, fun j y hy => by
    rw [renL_get] at hy
    obtain ⟨z, hz, rfl⟩ := Option.map_eq_some_iff.1 hy
    exact (h.2 j z hz).ren⟩
theorem RepL.unren {ρ : Nat → Value} {av : Nat → Prop} {hp : Array Obj} {σ : Nat → Nat} {xs : List AV} {vs : Array Value} (h : RepL ρ av hp (renL σ xs) vs) : RepL (fun i => ρ (σ i)) av hp xs vs :=
  ⟨by rw [h.1, renL_length], fun j x hx => (h.2 j (x.ren σ) (by rw [renL_get, hx]; rfl)).unren x rfl⟩

theorem RepObj.ren {ρ : Nat → Value} {av : Nat → Prop} {hp : Array Obj} {σ : Nat → Nat} {own : List Nat} {o : AObj} {v : Value} (h : RepObj (fun i => ρ (σ i)) av hp own o v) : RepObj ρ av hp own (o.ren σ) v := by
  cases o with
  | dead => exact h
  | cells t cs => obtain ⟨b, vs, h1, h2, h3, h4⟩ := h; exact ⟨b, vs, h1, h2, h3, h4.ren⟩
  | row e sz xs => exact ⟨h.1.ren, h.2⟩
  | map kt et m =>
    obtain ⟨b, es, clock, h1, h2, h3, h4, h5, h6, h7⟩ := h
    refine ⟨b, es, clock, h1, h2, h3, by simpa using h4, h5, fun j k x hj => ?_, h7⟩
    rw [List.getElem?_map] at hj
    obtain ⟨⟨k', z⟩, hz, he⟩ := Option.map_eq_some_iff.1 hj
    simp only [Prod.mk.injEq] at he
    obtain ⟨rfl, rfl⟩ := he
    obtain ⟨e, he, hk, hr⟩ := h6 j _ z hz
    exact ⟨e, he, hk, hr.ren⟩
  | mapS kt et m k st =>
    obtain ⟨b, es, clock, h1, h2, h3, h4, h5, h6, h7⟩ := h
    refine ⟨b, es, clock, h1, h2, h3, by simpa using h4, h5, fun j k x hj => ?_, h7⟩
    rw [List.getElem?_map] at hj
    obtain ⟨⟨k', z⟩, hz, he⟩ := Option.map_eq_some_iff.1 hj
    simp only [Prod.mk.injEq] at he
    obtain ⟨rfl, rfl⟩ := he
    obtain ⟨e, he, hk, hr⟩ := h6 j _ z hz
    exact ⟨e, he, hk, hr.ren⟩
  | other b o => exact h
  | loop l rec No Eo =>
    obtain ⟨h1, h2, h3, h4, h5⟩ := h
    refine ⟨h1, h2, h3, h4, fun j t x hj => ?_⟩
    rw [List.getElem?_map] at hj
    obtain ⟨⟨t', z⟩, hz, he⟩ := Option.map_eq_some_iff.1 hj
    simp only [Prod.mk.injEq] at he
    obtain ⟨rfl, rfl⟩ := he
    exact ⟨(h5 j _ z hz).1, (h5 j _ z hz).2.ren⟩

theorem RepObj.unren {ρ : Nat → Value} {av : Nat → Prop} {hp : Array Obj} {σ : Nat → Nat} {own : List Nat} {o : AObj} {v : Value} (h : RepObj ρ av hp own (o.ren σ) v) : RepObj (fun i => ρ (σ i)) av hp own o v := by
  cases o with
  | dead => exact h
  | cells t cs => obtain ⟨b, vs, h1, h2, h3, h4⟩ := h; exact ⟨b, vs, h1, h2, h3, h4.unren⟩
  | row e sz xs => exact ⟨h.1.unren _ rfl, h.2⟩
  | map kt et m =>
    obtain ⟨b, es, clock, h1, h2, h3, h4, h5, h6, h7⟩ := h
    refine ⟨b, es, clock, h1, h2, h3, by simpa using h4, h5, fun j k x hj => ?_, h7⟩
    obtain ⟨e, he, hk, hr⟩ := h6 j k (x.ren σ) (by rw [List.getElem?_map, hj]; rfl)
    exact ⟨e, he, hk, hr.unren x rfl⟩
  | mapS kt et m k st =>
    obtain ⟨b, es, clock, h1, h2, h3, h4, h5, h6, h7⟩ := h
    refine ⟨b, es, clock, h1, h2, h3, by simpa using h4, h5, fun j k x hj => ?_, h7⟩
    obtain ⟨e, he, hk, hr⟩ := h6 j k (x.ren σ) (by rw [List.getElem?_map, hj]; rfl)
    exact ⟨e, he, hk, hr.unren x rfl⟩
  | other b o => exact h
  | loop l rec No Eo =>
    obtain ⟨h1, h2, h3, h4, h5⟩ := h
    refine ⟨h1, h2, h3, h4, fun j t x hj => ?_⟩
    have := h5 j t (x.ren σ) (by rw [List.getElem?_map, hj]; rfl)
    exact ⟨this.1, this.2.unren x rfl⟩

end Go.Abs
end

/- Abs8 -/
section
/- The abstract layer, eighth part: the calculus of abstract states, functions' contracts. -/
set_option linter.unusedVariables false
set_option linter.unusedSimpArgs false
namespace Go.Abs
open Go

/-- The names in use: the first n, and those of what was handed in from far. -/
def UU (n : Nat) : Nat → Prop := fun i => i < n ∨ 1000 ≤ i
theorem UU_mono {n m : Nat} (h : n ≤ m) (i : Nat) (hi : UU n i) : UU m i := hi.imp (fun h' => Nat.lt_of_lt_of_le h' h) id
theorem UU_new {n : Nat} (h : n < 1000) : ¬ UU n n := fun hi => by rcases hi with hi | hi <;> omega
theorem UU_succ {n i : Nat} (h : UU n i ∨ i = n) : UU (n + 1) i := by
  rcases h with (h | h) | h
  · exact .inl (by omega)
  · exact .inr h
  · exact .inl (by omega)

abbrev AQ := Exit → Env → Heap → Nat → Prop
abbrev AK := Env → Heap → Nat → Prop

/-- From an abstract state, the code comes to states as told. -/
def AWP (P : Program) (ro : Option Nat) (N n0 : Nat) (c : Code) (Q : AQ) (E : Env) (H : Heap) (nx : Nat) : Prop :=
  ∀ (C : Conc) (a : Act) (w : World) (Qc : Exit → Act → World → Prop), n0 ≤ nx → Rel C N E H (UU nx) a w →
    (∀ (e : Exit) (E' : Env) (H' : Heap) (nx' : Nat) (C' : Conc) (a' : Act) (w' : World), n0 ≤ nx' → Rel C' N E' H' (UU nx') a' w' → StepR C H (UU n0) w C' H' w' → Q e E' H' nx' → Qc e a' w') →
    c.wpIn (FW ro) 0 P Qc a w

def athen (K : AK) (Q : AQ) : AQ
  | .normal => K
  | e => Q e

def inBlk (id : Nat) (Q : AQ) : AQ
  | .exit id' => fun E H nx => if id' = id then Q .normal E H nx else Q (.exit id') E H nx
  | e => Q e

theorem StepR.fewerNames {C C' : Conc} {H H' : Heap} {U U' : Nat → Prop} {w w' : World} (h : StepR C H U w C' H' w') (hU : ∀ i, U' i → U i) : StepR C H U' w C' H' w' :=
  { h with ρ := fun i hi => h.ρ i (hU i hi) }

section
variable {P : Program} {ro : Option Nat} {N n0 : Nat} {Q : AQ} {E : Env} {H : Heap} {nx : Nat}

theorem awp_mono {c : Code} {Q' : AQ} (h : AWP P ro N n0 c Q E H nx) (hq : ∀ e E H nx, Q e E H nx → Q' e E H nx) : AWP P ro N n0 c Q' E H nx :=
  fun C a w Qc hn hR hK => h C a w Qc hn hR fun e E' H' nx' C' a' w' hn' hR' hs hQ => hK e E' H' nx' C' a' w' hn' hR' hs (hq _ _ _ _ hQ)

theorem awp_skip (h : Q .normal E H nx) : AWP P ro N n0 .skip Q E H nx :=
  fun C a w Qc hn hR hK => wpIn_skip (hK _ _ _ _ C _ _ hn hR (StepR.refl C H _ w) h)
theorem awp_exit {id : Nat} (h : Q (.exit id) E H nx) : AWP P ro N n0 (.exit id) Q E H nx :=
  fun C a w Qc hn hR hK => wpIn_exit (hK _ _ _ _ C _ _ hn hR (StepR.refl C H _ w) h)
theorem awp_ret (h : Q .ret E H nx) : AWP P ro N n0 .ret Q E H nx :=
  fun C a w Qc hn hR hK => wpIn_ret (hK _ _ _ _ C _ _ hn hR (StepR.refl C H _ w) h)

theorem awp_seq {x y : Code} (h : AWP P ro N n0 x (athen (AWP P ro N n0 y Q) Q) E H nx) : AWP P ro N n0 (.seq x y) Q E H nx := by
  intro C a w Qc hn hR hK
  refine wpIn_seq (h C a w _ hn hR fun e E' H' nx' C' a' w' hn' hR' hs hQ => ?_)
  cases e with
  | normal => exact hQ C' a' w' Qc hn' hR' fun e E2 H2 nx2 C2 a2 w2 hn2 hR2 hs2 hQ2 => hK e E2 H2 nx2 C2 a2 w2 hn2 hR2 (hs.trans (fun _ h => h) hs2) hQ2
  | _ => exact hK _ E' H' nx' C' a' w' hn' hR' hs hQ

/-- The rest of the code is laid aside meanwhile. -/
theorem awp_seq_k {x y : Code} (h : ∀ K : AK, (∀ E H nx, AWP P ro N n0 y Q E H nx → K E H nx) → AWP P ro N n0 x (athen K Q) E H nx) : AWP P ro N n0 (.seq x y) Q E H nx :=
  awp_seq (h _ fun _ _ _ h => h)

theorem awp_cond {c : Operand} {x y : Code} {b : Bool} (hc : opv E c = some (.raw (.bool b))) (ht : b = true → AWP P ro N n0 x Q E H nx) (hf : b = false → AWP P ro N n0 y Q E H nx) : AWP P ro N n0 (.cond c x y) Q E H nx := by
  intro C a w Qc hn hR hK
  obtain ⟨h1, _⟩ := hR.opv hc
  have hv : a.eval c = .bool b := by generalize a.eval c = v at h1; cases h1; rfl
  cases b with
  | true => exact wpIn_cond_true hv (ht rfl C a w Qc hn hR hK)
  | false => exact wpIn_cond_false hv (hf rfl C a w Qc hn hR hK)

theorem awp_block {id : Nat} {c : Code} (h : AWP P ro N n0 c (inBlk id Q) E H nx) : AWP P ro N n0 (.block id c) Q E H nx := by
  intro C a w Qc hn hR hK
  refine wpIn_block (h C a w _ hn hR fun e E' H' nx' C' a' w' hn' hR' hs hQ => ?_)
  cases e with
  | exit id' =>
    simp only [Exit.inBlock]
    simp only [inBlk] at hQ
    split
    · rename_i he
      rw [if_pos he] at hQ
      exact hK _ E' H' nx' C' a' w' hn' hR' hs hQ
    · rename_i he
      rw [if_neg he] at hQ
      exact hK _ E' H' nx' C' a' w' hn' hR' hs hQ
  | _ => exact hK _ E' H' nx' C' a' w' hn' hR' hs hQ

def aloop (I : Nat → AK) (m : Nat) (Q : AQ) : AQ
  | .normal => fun E H nx => ∃ m', m' < m ∧ I m' E H nx
  | e => Q e

theorem least {p : Nat → Prop} (h : ∃ m, p m) : ∃ m, p m ∧ ∀ k, p k → m ≤ k := by
  obtain ⟨m, hm⟩ := h
  induction m using Nat.strongRecOn with
  | _ m ih =>
    by_cases hk : ∃ k, k < m ∧ p k
    · obtain ⟨k, h1, h2⟩ := hk
      exact ih k h1 h2
    · exact ⟨m, hm, fun k hp => by
        rcases Nat.lt_or_ge k m with h1 | h1
        · exact absurd ⟨k, h1, hp⟩ hk
        · exact h1⟩

/-- A loop, by what holds at its head; the number falls. -/
theorem awp_loop {c : Code} (I : Nat → AK) (m0 : Nat) (h0 : I m0 E H nx) (h : ∀ m E H nx, n0 ≤ nx → I m E H nx → AWP P ro N n0 c (aloop I m Q) E H nx) : AWP P ro N n0 (.loop c) Q E H nx := by
  intro C a w Qc hn hR hK
  let J : Nat → Act → World → Prop := fun m a' w' => ∃ E' H' nx' C', n0 ≤ nx' ∧ Rel C' N E' H' (UU nx') a' w' ∧ StepR C H (UU n0) w C' H' w' ∧ I m E' H' nx'
  classical
  refine wpIn_loop (fun a' w' => ∃ m, J m a' w') (fun a' w' => if hj : ∃ m, J m a' w' then Classical.choose (least hj) else 0) ⟨m0, E, H, nx, C, hn, hR, StepR.refl C H _ w, h0⟩ fun a1 w1 hj => ?_
  have hf := (Classical.choose_spec (least hj)).1
  simp only [dif_pos hj]
  generalize Classical.choose (least hj) = m at hf
  obtain ⟨E1, H1, nx1, C1, hn1, hR1, hs1, hI1⟩ := hf
  refine h m E1 H1 nx1 hn1 hI1 C1 a1 w1 _ hn1 hR1 fun e E2 H2 nx2 C2 a2 w2 hn2 hR2 hs2 hQ2 => ?_
  have hs3 := hs1.trans (fun _ h => h) hs2
  cases e with
  | normal =>
    obtain ⟨m', hm', hI'⟩ := hQ2
    have hj2 : ∃ m, J m a2 w2 := ⟨m', E2, H2, nx2, C2, hn2, hR2, hs3, hI'⟩
    refine ⟨hj2, ?_⟩
    rw [dif_pos hj2]
    exact Nat.lt_of_le_of_lt ((Classical.choose_spec (least hj2)).2 _ ⟨E2, H2, nx2, C2, hn2, hR2, hs3, hI'⟩) hm'
  | _ => exact hK _ E2 H2 nx2 C2 a2 w2 hn2 hR2 hs3 hQ2

/-! ### Other names, fewer claims -/
def Conc.ren (C : Conc) (σ : Nat → Nat) : Conc := { C with ρ := fun i => C.ρ (σ i), one := fun i => C.one (σ i), own := fun i => C.own (σ i) }

theorem RelH.ren {C : Conc} {U U1 : Nat → Prop} {w : World} (h : RelH C H U w) {σ : Nat → Nat} {H1 : Heap} (hH : ∀ i o, get H1 i = some o → get H (σ i) = some (o.ren σ) ∧ U1 i ∧ o.bel U1)
    (hσ : ∀ i j oi oj, get H1 i = some oi → get H1 j = some oj → σ i = σ j → i = j) : RelH (C.ren σ) H1 U1 w := by
  have hav : ∀ b, (C.ren σ).avoid H1 b → C.avoid H b := fun b hb => hb.imp id (fun ⟨i, o, hi, hb⟩ => ⟨σ i, _, (hH i o hi).1, hb⟩)
  exact {
    obj := fun i o hi => ((h.obj (σ i) _ (hH i o hi).1).mono (av' := (C.ren σ).avoid H1) (fun b _ => hav b) (fun _ _ _ => rfl) (fun _ _ => rfl)).unren (ρ := C.ρ)
    apart := fun i j oi oj b hne hi hj hb hb' => h.apart (σ i) (σ j) _ _ b (fun e => hne (hσ i j oi oj hi hj e)) (hH i oi hi).1 (hH j oj hj).1 hb hb'
    xapart := fun i o b hi hb => h.xapart (σ i) _ b (hH i o hi).1 hb
    xlt := h.xlt
    objb := fun i o hi => (hH i o hi).2 }

theorem Rel.ren {C : Conc} {U U1 : Nat → Prop} {a : Act} {w : World} (h : Rel C N E H U a w) {σ : Nat → Nat} {E1 : Env} {H1 : Heap} (hH : ∀ i o, get H1 i = some o → get H (σ i) = some (o.ren σ) ∧ U1 i ∧ o.bel U1)
    (hσ : ∀ i j oi oj, get H1 i = some oi → get H1 j = some oj → σ i = σ j → i = j) (hE : ∀ t x, get E1 t = some x → get E t = some (x.ren σ) ∧ x.bel U1) : Rel (C.ren σ) N E1 H1 U1 a w := by
  have hav : ∀ b, (C.ren σ).avoid H1 b → C.avoid H b := fun b hb => hb.imp id (fun ⟨i, o, hi, hb⟩ => ⟨σ i, _, (hH i o hi).1, hb⟩)
  exact { toRelH := h.toRelH.ren hH hσ, size := h.size, hB := h.hB, nodup := h.nodup
          marks := fun d hd => by obtain ⟨r, h1, h2, h3, h4⟩ := h.marks d hd; exact ⟨r, h1, h2, h3, fun q => h4 (hav r q)⟩
          env := fun t x ht => by
            obtain ⟨h1, h2⟩ := hE t x ht
            obtain ⟨h3, _, h4⟩ := h.env t _ h1
            exact ⟨h3, h2, (h4.mono (av' := (C.ren σ).avoid H1) (fun b _ => hav b) (fun _ _ _ => rfl)).unren (ρ := C.ρ) x rfl⟩ }

theorem StepR.ren_left {C C' : Conc} {H1 H' : Heap} {U0 : Nat → Prop} {w w' : World} {σ : Nat → Nat} (h : StepR (C.ren σ) H1 U0 w C' H' w') (hH : ∀ i o, get H1 i = some o → ∃ o', get H (σ i) = some o') (hσ : ∀ i, U0 i → σ i = i) :
    StepR C H U0 w C' H' w' := by
  have hW : ∀ b, (C.ren σ).W H1 b → C.W H b := fun b ⟨i, o, hi, hb⟩ => let ⟨o', h'⟩ := hH i o hi; ⟨σ i, o', h', hb⟩
  exact { os := h.os, tape := h.tape, output := h.output, size := h.size, keep := fun k hk hn => h.keep k hk (fun q => hn (hW k q)), wr := fun b hb => (h.wr b hb).imp (hW b) id, X := h.X, B := h.B
          ρ := fun i hi => (h.ρ i hi).trans (congrArg C.ρ (hσ i hi)) }

/-- A finite change of names. -/
def sg (s : List (Nat × Nat)) : Nat → Nat := fun i => (get s i).getD i

/-- The slots' values under other names. -/
def envOk (σ : Nat → Nat) (n1 : Nat) (E : Env) : Env → Prop
  | [] => True
  | (t, x) :: r => get E t = some (x.ren σ) ∧ x.bel (UU n1) ∧ envOk σ n1 E r
def heapOk (σ : Nat → Nat) (n1 : Nat) (H : Heap) : Heap → Prop
  | [] => True
  | (i, o) :: r => get H (σ i) = some (o.ren σ) ∧ UU n1 i ∧ o.bel (UU n1) ∧ heapOk σ n1 H r

theorem get_mem {α : Type} : ∀ {l : List (Nat × α)} {n : Nat} {x : α}, get l n = some x → (n, x) ∈ l
  | [], _, _, h => by cases h
  | (k, y) :: r, n, x, h => by
    unfold Abs.get at h
    split at h
    · rename_i e; subst e; cases h; exact List.mem_cons_self
    · exact List.mem_cons_of_mem _ (get_mem h)

theorem envOk_iff {σ : Nat → Nat} {n1 : Nat} {E : Env} : ∀ {E1 : Env}, envOk σ n1 E E1 → ∀ t x, (t, x) ∈ E1 → get E t = some (x.ren σ) ∧ x.bel (UU n1)
  | [], _, _, _, h => by cases h
  | (t, x) :: r, h, t', x', h' => by
    rcases List.mem_cons.1 h' with e | e
    · cases e; exact ⟨h.1, h.2.1⟩
    · exact envOk_iff h.2.2 t' x' e
theorem heapOk_iff {σ : Nat → Nat} {n1 : Nat} {H : Heap} : ∀ {H1 : Heap}, heapOk σ n1 H H1 → ∀ i o, (i, o) ∈ H1 → get H (σ i) = some (o.ren σ) ∧ UU n1 i ∧ o.bel (UU n1)
  | [], _, _, _, h => by cases h
  | (t, x) :: r, h, t', x', h' => by
    rcases List.mem_cons.1 h' with e | e
    · cases e; exact ⟨h.1, h.2.1, h.2.2.1⟩
    · exact heapOk_iff h.2.2.2 t' x' e

theorem inj_of_nodup {α : Type} {σ : Nat → Nat} {H1 : List (Nat × α)} (h : (H1.map fun p => σ p.1).Nodup) : ∀ i j oi oj, get H1 i = some oi → get H1 j = some oj → σ i = σ j → i = j := by
  induction H1 with
  | nil => intro i j oi oj hi; cases hi
  | cons p r ih =>
    obtain ⟨k, x⟩ := p
    simp only [List.map_cons, List.nodup_cons] at h
    intro i j oi oj hi hj e
    unfold Abs.get at hi hj
    by_cases h1 : k = i
    · by_cases h2 : k = j
      · omega
      · rw [if_neg h2] at hj
        subst h1
        exact absurd (List.mem_map.2 ⟨_, get_mem hj, e.symm⟩) h.1
    · rw [if_neg h1] at hi
      by_cases h2 : k = j
      · subst h2
        exact absurd (List.mem_map.2 ⟨_, get_mem hi, e⟩) h.1
      · rw [if_neg h2] at hj
        exact ih h.2 i j oi oj hi hj e

/-- Go on from fewer claims, under other names. -/
theorem awp_ren {c : Code} {E1 : Env} {H1 : Heap} {n1 : Nat} (s : List (Nat × Nat)) (hn : n0 ≤ n1) (hE : envOk (sg s) n1 E E1) (hH : heapOk (sg s) n1 H H1) (hi : (H1.map fun p => sg s p.1).Nodup)
    (hs : ∀ p ∈ s, n0 ≤ p.1 ∧ p.1 < 1000) (h : AWP P ro N n0 c Q E1 H1 n1) : AWP P ro N n0 c Q E H nx := by
  have hσ : ∀ i, UU n0 i → sg s i = i := fun i hu => by
    unfold sg
    cases hg : get s i with
    | none => rfl
    | some j =>
      have := hs _ (get_mem hg)
      rcases hu with hu | hu <;> simp at this <;> omega
  intro C a w Qc _ hR hK
  refine h (C.ren (sg s)) a w Qc hn (hR.ren (fun i o hi' => heapOk_iff hH i o (get_mem hi')) (inj_of_nodup hi) (fun t x ht => envOk_iff hE t x (get_mem ht))) fun e E' H' nx' C' a' w' hn' hR' hs' hQ => ?_
  exact hK e E' H' nx' C' a' w' hn' hR' (hs'.ren_left (fun i o hi' => ⟨_, (heapOk_iff hH i o (get_mem hi')).1⟩) hσ) hQ

end
end Go.Abs
end

/- Abs9 -/
section
/- The abstract layer, ninth part: functions' contracts, and calls by them. -/
set_option linter.unusedVariables false
set_option linter.unusedSimpArgs false
namespace Go.Abs
open Go

structure FnT (P : Program) (f : Nat) (fn : Func) (c : Code) : Prop where
  at' : P.funcs[f]? = some fn
  body : fn.body = some c
  name : (fn.name == "runtime.NumGoroutine") = false

theorem FnT.run {P : Program} {f : Nat} {fn : Func} {c : Code} (h : FnT P f fn c) (args : Array Value) (w : World) : (callFunc f args).run P w = .ok (.enter f args) w := by
  have := h.name
  simp only [beq_eq_false_iff_ne, ne_eq] at this
  simp [callFunc, Sem.run_bind, h.at', this, h.body]

/-- A function's contract: at arguments and objects as told, it returns a value, with objects as told. -/
def Meets (P : Program) (f : Nat) (args : List AV) (nd : Heap) (n0 : Nat) (R : AV → Heap → Nat → Prop) : Prop :=
  ∀ (C : Conc) (w : World) (vals : Array Value), RelH C nd (UU n0) w → RepL C.ρ (C.avoid nd) w.heap args vals → belL (UU n0) args →
    Calls P f vals w fun e w' => ∃ v r H' n' C', e = .returned v ∧ n0 ≤ n' ∧ R r H' n' ∧ RelH C' H' (UU n') w' ∧ StepR C nd (UU n0) w C' H' w' ∧ Rep C'.ρ (C'.avoid H') w'.heap r v ∧ r.bel (UU n')

theorem Meets.mono {P : Program} {f : Nat} {args : List AV} {nd : Heap} {n0 : Nat} {R R' : AV → Heap → Nat → Prop} (h : Meets P f args nd n0 R) (hR : ∀ r H n, R r H n → R' r H n) : Meets P f args nd n0 R' :=
  fun C w vals h1 h2 h3 => (h C w vals h1 h2 h3).mono fun e w' ⟨v, r, H', n', C', a1, a2, a3, a4⟩ => ⟨v, r, H', n', C', a1, a2, hR _ _ _ a3, a4⟩

/-- Pure: the objects stay. -/
def Pure (P : Program) (f : Nat) (args : List AV) (nd : Heap) (n0 : Nat) (r : AV) : Prop := Meets P f args nd n0 fun r' H' n' => r' = r ∧ H' = nd ∧ n' = n0

def varInfo (P : Program) (t : TypeId) : Option (Nat × Bool) :=
  match (P.info? t).map (·.size), (P.underlying t).map aggD with
  | some sz, some ag => some (sz, ag)
  | _, _ => none
theorem varInfo_open {P : Program} {t : TypeId} {sz : Nat} {ag : Bool} (h : varInfo P t = some (sz, ag)) : VarT P t sz ag := by
  unfold varInfo at h
  split at h
  · rename_i h1 h2
    cases h
    exact ⟨h1, h2⟩
  · cases h

/-- What the results are. -/
def resAV (P : Program) (E : Env) (H : Heap) : List ResultVar → Option (List AV)
  | [] => some []
  | .tmp t :: r => match get E t, resAV P E H r with
    | some x, some xs => some (x :: xs)
    | _, _ => none
  | .cell t ty :: r => match get E t, varInfo P ty with
    | some (.ptr i off), some (sz, ag) => match get H i with
      | some (.cells _ cs) => match elPart (.agg cs) off sz ag, resAV P E H r with
        | some x, some xs => some (x :: xs)
        | _, _ => none
      | _ => none
    | _, _ => none

def packAV : List AV → AV
  | [x] => x
  | xs => .tup xs

def resRun (tmps : Array Value) : ResultVar → Sem Value
  | .tmp t => pure (tmps.getD t undef)
  | .cell a t => do loadVar t (← asAddr (tmps.getD a undef))

section
variable {P : Program} {N : Nat} {E : Env} {H : Heap} {U : Nat → Prop} {C : Conc} {a : Act} {w : World}

theorem run_resL (hR : Rel C N E H U a w) : ∀ (rs : List ResultVar) (xs : List AV), resAV P E H rs = some xs → ∃ vs : List Value, (rs.mapM (resRun a.tmps)).run P w = .ok vs w ∧ RepL C.ρ (C.avoid H) w.heap xs vs.toArray ∧ belL U xs
  | [], xs, h => by simp only [resAV, Option.some.injEq] at h; subst h; exact ⟨[], rfl, ⟨rfl, fun j x hj => by simp at hj⟩, trivial⟩
  | .tmp t :: r, xs, h => by
    simp only [resAV] at h
    split at h
    · rename_i x ys hx hys
      cases h
      obtain ⟨vs, h1, h2, h3⟩ := run_resL hR r ys hys
      obtain ⟨_, h4, h5⟩ := hR.env t x hx
      refine ⟨a.tmps.getD t undef :: vs, ?_, ⟨by simp [← h2.1], fun j y hj => ?_⟩, ⟨h4, h3⟩⟩
      · simp only [List.mapM_cons, resRun, Sem.run_bind, Sem.run_pure, Result.andThen_ok, h1]
      · cases j with
        | zero => simp at hj; subst hj; simpa using h5
        | succ j => simpa [Array.getD_eq_getD_getElem?] using h2.2 j y (by simpa using hj)
    · cases h
  | .cell t ty :: r, xs, h => by
    simp only [resAV] at h
    split at h
    · rename_i i off sz ag ht hv
      split at h
      · rename_i t0 cs hH
        split at h
        · rename_i x ys hx hys
          cases h
          obtain ⟨vs, h1, h2, h3⟩ := run_resL hR r ys hys
          obtain ⟨_, _, h5⟩ := hR.env t _ ht
          obtain ⟨b, us, hval, _, hb, hrep⟩ := hR.obj i _ hH
          obtain ⟨hr1, hr2, hr3⟩ := elPart_rep (v := .agg us) (.agg cs us hrep.1 hrep.2) C.one (U := U) (hR.objb i _ hH).2 hx
          have hev := val_of_ptr h5 (b := b) (by rw [hval]; rfl)
          have hl := run_loadVar (P := P) (w := w) (varInfo_open hv) hb (v := .agg us) (o := off) (off := off) (fun k _ => rfl) hr3 (fun e => by rw [elPart_pos hx e]; omega)
          refine ⟨valPart (.agg us) off sz ag :: vs, ?_, ⟨by simp [← h2.1], fun j y hj => ?_⟩, ⟨hr2, h3⟩⟩
          · simp only [List.mapM_cons, resRun, hev, asAddr, Sem.run_bind, Sem.run_pure, Result.andThen_ok, hl, h1]
          · cases j with
            | zero => simp at hj; subst hj; simpa using hr1
            | succ j => simpa [Array.getD_eq_getD_getElem?] using h2.2 j y (by simpa using hj)
        · cases h
      · cases h
    · cases h

theorem rep_pack {ρ : Nat → Value} {av : Nat → Prop} {hp : Array Obj} {xs : List AV} {vs : Array Value} (h : RepL ρ av hp xs vs) : Rep ρ av hp (packAV xs) (if h : vs.size = 1 then vs[0] else .tuple vs) := by
  match xs, h with
  | [x], h =>
    have h1 : vs.size = 1 := h.1
    rw [dif_pos h1]
    have := h.2 0 x rfl
    simpa [Array.getD_eq_getD_getElem?, h1, packAV] using this
  | [], h =>
    have h1 : ¬ vs.size = 1 := by rw [h.1]; simp
    rw [dif_neg h1]
    exact .tup _ _ h.1 h.2
  | x :: y :: r, h =>
    have h1 : ¬ vs.size = 1 := by rw [h.1]; simp
    rw [dif_neg h1]
    exact .tup _ _ h.1 h.2

theorem bel_pack {xs : List AV} (h : belL U xs) : (packAV xs).bel U := by
  match xs, h with
  | [x], h => exact h.1
  | [], h => exact h
  | x :: y :: r, h => exact h

theorem run_results (hR : Rel C N E H U a w) {fn : Func} {xs : List AV} (h : resAV P E H fn.results.toList = some xs) : ∃ v, (results fn a.tmps).run P w = .ok v w ∧ Rep C.ρ (C.avoid H) w.heap (packAV xs) v ∧ (packAV xs).bel U := by
  obtain ⟨vs, h1, h2, h3⟩ := run_resL hR _ xs h
  refine ⟨if h : vs.toArray.size = 1 then vs.toArray[0] else .tuple vs.toArray, ?_, rep_pack h2, bel_pack h3⟩
  have hm : (fn.results.mapM (resRun a.tmps)).run P w = .ok vs.toArray w := by
    rw [← Array.toList_mapM] at h1
    rw [Sem.run_map] at h1
    generalize hg : (fn.results.mapM (resRun a.tmps)).run P w = q at h1 ⊢
    cases q with
    | ok x w2 => simp only [Result.andThen_ok, Result.ok.injEq] at h1; obtain ⟨h7, rfl⟩ := h1; rw [← h7]
    | halt x w2 => simp [Result.andThen] at h1
  have he : results fn a.tmps = (do let vs ← fn.results.mapM (resRun a.tmps); pure (if h : vs.size = 1 then vs[0] else .tuple vs)) := by
    unfold results
    congr 1
  rw [he, Sem.run_bind, hm]
  rfl

/-- What is behind the marks' own steps. -/
structure Marked (B : Nat) (w w' : World) : Prop where
  os : w'.os = w.os
  tape : w'.tape = w.tape
  output : w'.output = w.output
  size : w'.heap.size = w.heap.size
  keep : ∀ b, b < B → w'.heap[b]? = w.heap[b]?

theorem Rel.unmark {tmps : Array Value} {d : Deferred} {ds : List Deferred} (hR : Rel C N E H U { tmps := tmps, defers := d :: ds } w) : ∃ r, d.target = .collected r ∧ (Instr.takeDeferred r).run P w = .ok [] (w.putObj r (.deferred none)) ∧ C.B ≤ r ∧
    Rel C N E H U { tmps := tmps, defers := ds } (w.putObj r (.deferred none)) := by
  obtain ⟨r, hd, hB, hh, hav⟩ := hR.marks d List.mem_cons_self
  refine ⟨r, by rw [hd], run_takeDeferred hh, hB, ?_⟩
  have hlt := lt_of_block hh
  have hother : ∀ k, k ≠ r → (w.putObj r (.deferred none)).heap[k]? = w.heap[k]? := fun k hk => by
    show (w.heap.setIfInBounds r _)[k]? = _
    rw [Array.getElem?_setIfInBounds, if_neg (fun e => hk e.symm)]
  have hsz : (w.putObj r (.deferred none)).heap.size = w.heap.size := by show (w.heap.setIfInBounds r _).size = _; simp
  have heq : ∀ b cells t fr, w.heap[b]? = some (.cells cells t fr) → ¬ C.avoid H b → (w.putObj r (.deferred none)).heap[b]? = w.heap[b]? := fun b cells t fr hb _ => hother b (fun e => by rw [e, hh] at hb; cases hb)
  exact {
    obj := fun i o hi => (hR.obj i o hi).mono' (fun _ _ h => h) heq (fun b hb => hother b (fun e => hav (.inr ⟨i, o, hi, e ▸ hb⟩)))
    apart := hR.apart
    xapart := hR.xapart
    xlt := fun b hb => by rw [hsz]; exact hR.xlt b hb
    objb := hR.objb
    size := hR.size
    hB := by rw [hsz]; exact hR.hB
    nodup := (List.nodup_cons.1 hR.nodup).2
    marks := fun d' hd' => by
      obtain ⟨r', h1, h2, h3, h4⟩ := hR.marks d' (List.mem_cons_of_mem _ hd')
      refine ⟨r', h1, h2, ?_, h4⟩
      rw [hother r' (fun e => ?_)]
      · exact h3
      · subst e
        exact (List.nodup_cons.1 hR.nodup).1 (by rw [hd, ← h1]; exact hd')
    env := fun t x ht => by
      obtain ⟨h1, h2, h3⟩ := hR.env t x ht
      exact ⟨h1, h2, h3.mono' (fun _ _ h => h) heq⟩ }

theorem leaves_marks {F : Fence} {n : Nat} {fn : Func} {tmps : Array Value} {R : Ending → World → Prop} : ∀ (ds : List Deferred) (w : World), Rel C N E H U { tmps := tmps, defers := ds } w →
    (∀ w', Rel C N E H U { tmps := tmps, defers := [] } w' → Marked C.B w w' → ∃ v, (results fn tmps).run P w' = .ok v w' ∧ R (.returned v) w') → LeavesInM F n P fn tmps R ds .returning w
  | [], w, hR, hk => hk w hR ⟨rfl, rfl, rfl, rfl, fun _ _ => rfl⟩
  | d :: ds, w, hR, hk => by
    obtain ⟨r, h1, h2, h3, h4⟩ := hR.unmark (P := P)
    refine ⟨fun h => (by cases h), .inl ⟨r, _, h1, h2, leaves_marks ds _ h4 fun w' hw' hm => hk w' hw' ⟨hm.os, hm.tape, hm.output, ?_, fun b hb => ?_⟩⟩⟩
    · rw [hm.size]; show (w.heap.setIfInBounds r _).size = _; simp
    · rw [hm.keep b hb]
      show (w.heap.setIfInBounds r _)[b]? = _
      rw [Array.getElem?_setIfInBounds, if_neg (by omega)]

def enumE : Nat → List AV → Env
  | _, [] => []
  | k, x :: xs => (k, x) :: enumE (k + 1) xs

theorem enumE_get : ∀ (xs : List AV) (k t : Nat) (x : AV), get (enumE k xs) t = some x → k ≤ t ∧ xs[t - k]? = some x
  | [], _, _, _, h => by cases h
  | y :: ys, k, t, x, h => by
    unfold enumE Abs.get at h
    split at h
    · rename_i e; subst e; cases h; exact ⟨Nat.le_refl _, by simp⟩
    · obtain ⟨h1, h2⟩ := enumE_get ys (k + 1) t x h
      refine ⟨by omega, ?_⟩
      rw [show t - k = (t - (k + 1)) + 1 by omega, List.getElem?_cons_succ]
      exact h2

/-- What is asked at a function's end. -/
def endQ (P : Program) (vs : List ResultVar) (R : AV → Heap → Nat → Prop) : AQ := fun e E H nx =>
  match e with
  | .ret => ∃ rs, resAV P E H vs = some rs ∧ R (packAV rs) H nx
  | .normal => ∃ rs, resAV P E H vs = some rs ∧ R (packAV rs) H nx
  | _ => False

/-- A contract from a walk of the body. -/
theorem meets_of_awp {f : Nat} {fn : Func} {c : Code} {args : List AV} {nd : Heap} {n0 : Nat} {R : AV → Heap → Nat → Prop} {vs : List ResultVar} (hf : FnT P f fn c) (hN : fn.ntmps = N) (hv : fn.results.toList = vs) (hl : args.length ≤ N)
    (h : AWP P none N n0 c (endQ P vs R) (enumE 0 args) nd n0) : Meets P f args nd n0 R := by
  subst hv
  intro C w vals hRH hargs hb
  let C₁ : Conc := { C with B := w.heap.size }
  refine calls_FW (n := 0) (callsIn_of_wp_marks hf.at' hf.body (FW_fn none f) ?_ rfl)
  have hsz : vals.size = args.length := hargs.1
  have hget : ∀ t, t < vals.size → (vals ++ Array.replicate (fn.ntmps - vals.size) undef).getD t undef = vals.getD t undef := fun t ht => by
    simp [Array.getD_eq_getD_getElem?, Array.getElem?_append, ht]
  have hR0 : Rel C₁ N (enumE 0 args) nd (UU n0) { tmps := vals ++ Array.replicate (fn.ntmps - vals.size) undef, defers := [] } w :=
    { obj := hRH.obj, apart := hRH.apart, xapart := hRH.xapart, xlt := hRH.xlt, objb := hRH.objb
      size := by simp; omega
      hB := Nat.le_refl _
      nodup := List.nodup_nil
      marks := fun d hd => by cases hd
      env := fun t x ht => by
        obtain ⟨_, h2⟩ := enumE_get args 0 t x ht
        rw [Nat.sub_zero] at h2
        have hlt := (List.getElem?_eq_some_iff.1 h2).1
        refine ⟨by omega, belL_get hb h2, ?_⟩
        show Rep C.ρ (C.avoid nd) w.heap x ((vals ++ Array.replicate (fn.ntmps - vals.size) undef).getD t undef)
        rw [hget t (by omega)]
        exact hargs.2 t x h2 }
  have key : ∀ (E' : Env) (H' : Heap) (nx' : Nat) (C' : Conc) (a' : Act) (w' : World), n0 ≤ nx' → Rel C' N E' H' (UU nx') a' w' → StepR C₁ nd (UU n0) w C' H' w' → (∃ rs, resAV P E' H' fn.results.toList = some rs ∧ R (packAV rs) H' nx') →
      LeavesInM (FW none) 0 P fn a'.tmps (fun e w' => ∃ v r H' n' C', e = .returned v ∧ n0 ≤ n' ∧ R r H' n' ∧ RelH C' H' (UU n') w' ∧ StepR C nd (UU n0) w C' H' w' ∧ Rep C'.ρ (C'.avoid H') w'.heap r v ∧ r.bel (UU n')) a'.defers .returning w' := by
    intro E' H' nx' C' a' w' hn' hR' hs ⟨rs, hrs, hRR⟩
    refine leaves_marks a'.defers w' hR' fun w2 hR2 hm => ?_
    obtain ⟨v, h1, h2, h3⟩ := run_results (P := P) hR2 hrs
    have hB : C'.B = w.heap.size := hs.B
    refine ⟨v, h1, v, packAV rs, H', nx', { C' with B := C.B }, rfl, hn', hRR, ?_, ?_, h2, h3⟩
    · exact { obj := hR2.obj, apart := hR2.apart, xapart := hR2.xapart, xlt := hR2.xlt, objb := hR2.objb }
    · exact { os := hm.os.trans hs.os, tape := hm.tape.trans hs.tape, output := hm.output.trans hs.output
              size := by have := hs.size; rw [hm.size]; exact this
              keep := fun k hk hn => (hm.keep k (by omega)).trans (hs.keep k hk hn)
              wr := hs.wr, X := hs.X, B := rfl, ρ := hs.ρ }
  refine h C₁ _ w _ (Nat.le_refl _) hR0 fun e E' H' nx' C' a' w' hn' hR' hs hQ => ?_
  cases e with
  | normal => exact key E' H' nx' C' a' w' hn' hR' hs hQ
  | ret => exact key E' H' nx' C' a' w' hn' hR' hs hQ
  | _ => exact hQ.elim

end
end Go.Abs
end

/- Abs10 -/
section
/- The abstract layer, tenth part: single operations reckoned, and regions in order. -/
set_option linter.unusedVariables false
set_option linter.unusedSimpArgs false
namespace Go.Abs
open Go

/-- What an operation comes to: what must hold, its value, what objects become, new names. -/
structure Ev where
  ok : Prop
  val : AV
  ps : Heap
  nw : Nat

def refsIn : List AV → List Nat
  | [] => []
  | .ref i :: r => i :: refsIn r
  | _ :: r => refsIn r
/-- The objects that a value leads to, one step. -/
def idsOf : AV → List Nat
  | .ptr i _ => [i]
  | .ep i _ _ _ => [i]
  | .ref i => [i]
  | .agg cs => refsIn cs
  | _ => []

abbrev Look := Nat → Option AObj

def strip : AV → Option (Prop × Bool)
  | .raw (.bool b) => some (True, b)
  | .when c (.raw (.bool b)) => some (c, b)
  | _ => none

/-- 'If b then p else q', for two truth values. -/
def pk (b p q : Bool) : Bool := if b then p else q
theorem pk_true (b q : Bool) : pk b true q = (b || q) := by cases b <;> rfl
theorem pk_false (b p : Bool) : pk b p false = (b && p) := by cases b <;> simp [pk]

def evPick (c x y : AV) : Option Ev :=
  match c, strip x, strip y with
  | .raw (.bool b), some (c1, p), some (c2, q) => some ⟨(b = true → c1) ∧ (b = false → c2), .raw (.bool (pk b p q)), [], 0⟩
  | _, _, _ => none

def evLoad (P : Program) (t : TypeId) (p : AV) (h : Look) : Option Ev :=
  match varInfo P t with
  | some (sz, ag) =>
    match p with
    | .ptr i off => match h i with
      | some (.cells _ cs) => (elPart (.agg cs) off sz ag).map fun r => ⟨True, r, [], 0⟩
      | _ => none
    | .ep i esz j off => match h i with
      | some (.row _ esz' xs) => if esz = esz' then (match xs[j]? with
        | some el => match elPart el off sz ag with
          | some r => if r.free = true then some ⟨True, r, [], 0⟩ else none
          | none => none
        | none => none) else none
      | _ => none
    | .fp esz xs j off => match xs[j]? with
      | some el => (elPart el off sz ag).map fun r => ⟨True, r, [], 0⟩
      | none => none
    | _ => none
  | none => none

def evStore (P : Program) (t : TypeId) (p y : AV) (h : Look) : Option Ev :=
  match varInfo P t, cellsL y with
  | some (sz, _), some ys =>
    match p with
    | .ptr i off => match h i with
      | some (.cells t0 cs) => if ys.length = sz ∧ off + sz ≤ cs.length then some ⟨True, .raw undef, [(i, .cells t0 (splice cs off ys))], 0⟩ else none
      | _ => none
    | .ep i esz j off => match h i with
      | some (.row e esz' xs) => if esz' = esz ∧ y.solid = true ∧ y.elem = true ∧ y.width = sz ∧ off + sz ≤ esz ∧ (absorb h y).2.Nodup ∧ i ∉ (absorb h y).2 then (match xs[j]? with
        | some el => (elSet el off esz sz (absorb h y).1).map fun el' => ⟨True, .raw undef, (i, .row e esz (xs.set j el')) :: deads (absorb h y).2, 0⟩
        | none => none) else none
      | _ => none
    | _ => none
  | _, _ => none

def evField (P : Program) (t : TypeId) (p : AV) (j : Nat) : Option Ev :=
  match fieldInfo P t j with
  | some (off, some sz, some _) => if 0 < sz then (addF p off).map fun r => ⟨True, r, [], 0⟩ else none
  | _ => none

def evIndexAddr (P : Program) (t : TypeId) (x y : AV) (h : Look) : Option Ev :=
  match slInfo P t, y with
  | some (_, some (sz, _)), .raw (.int _ n) =>
    match x with
    | .sl sz' xs => if sz' = sz then some ⟨0 ≤ n ∧ n < xs.length, .fp sz xs n.toNat 0, [], 0⟩ else none
    | .ref i => match h i with
      | some (.row _ sz' xs) => if sz' = sz then some ⟨0 ≤ n ∧ n < xs.length, .ep i sz n.toNat 0, [], 0⟩ else none
      | _ => none
    | _ => none
  | _, _ => none

def evIndex (P : Program) (t : TypeId) (x y : AV) : Option Ev :=
  match x, y with
  | .raw (.string s), .raw (.int _ n) => if isStr P t = true then some ⟨0 ≤ n ∧ n < s.size, .raw (.int .u8 (byteAt s n.toNat)), [], 0⟩ else none
  | _, _ => none

def evUn (op : UnOp) (x : AV) : Option Ev :=
  match op, x with
  | .not, .raw (.bool b) => some ⟨True, .raw (.bool (!b)), [], 0⟩
  | .neg, .raw (.int k n) => some ⟨True, .raw (.int k (k.wrap (-n))), [], 0⟩
  | _, _ => none

def evBin (op : BinOp) (x y : AV) : Option Ev :=
  match x, y with
  | .raw (.int k n), .raw (.int k' m) => if k = k' then (iop op k n m).map fun v => ⟨True, .raw v, [], 0⟩ else none
  | .raw (.string n), .raw (.string m) => (sop op n m).map fun v => ⟨True, .raw v, [], 0⟩
  | _, _ => none

/-- Against the literal nil. -/
def evNil (P : Program) (op : BinOp) (t : TypeId) (x : AV) : Option Ev :=
  match nilOf x with
  | some b => match nilCmp op b with
    | some r => if isIf P t = true then some ⟨True, .raw (.bool r), [], 0⟩ else none
    | none => none
  | none => none

/-- A struct type's fields: where, how many cells. -/
def structTab (P : Program) (t : TypeId) : Option (List (Nat × Nat)) := (structInfo P t).bind fun l => l.mapM fun p => p.2.map fun n => (p.1, n)
theorem structTab_aux : ∀ (l : List (Nat × Option Nat)) (tab : List (Nat × Nat)), (l.mapM fun p => p.2.map fun n => (p.1, n)) = some tab → l = tab.map fun p => (p.1, some p.2)
  | [], tab, h => by simp at h; subst h; rfl
  | (a, none) :: l, tab, h => by simp at h
  | (a, some n) :: l, tab, h => by
    simp only [List.mapM_cons, Option.map_some, Option.pure_def, Option.bind_eq_bind, Option.bind_some] at h
    obtain ⟨r, hr, h⟩ := Option.bind_eq_some_iff.1 h
    cases h
    rw [List.map_cons, ← structTab_aux l r hr]
theorem structTab_open {P : Program} {t : TypeId} {tab : List (Nat × Nat)} (h : structTab P t = some tab) : structInfo P t = some (tab.map fun p => (p.1, some p.2)) := by
  obtain ⟨l, hl, h⟩ := Option.bind_eq_some_iff.1 h
  rw [hl, structTab_aux l tab h]

def opsV (e : Operand → Option AV) : List (Nat × Operand) → Option (List (Nat × AV))
  | [] => some []
  | (i, x) :: r => match e x, opsV e r with
    | some v, some vs => some ((i, v) :: vs)
    | _, _ => none
theorem opsV_eq (E : Env) : ∀ l, opsV (opv E) l = operands E l
  | [] => rfl
  | (i, x) :: r => by
    rw [opsV, operands, opsV_eq E r]
    cases opv E x <;> cases operands E r <;> rfl
def opsL (e : Operand → Option AV) : List (Nat × Operand) → Option (List AV)
  | [] => some []
  | (_, x) :: r => match e x, opsL e r with
    | some v, some vs => some (v :: vs)
    | _, _ => none
def isEnum : Nat → List (Nat × Operand) → Bool
  | _, [] => true
  | k, (i, _) :: r => i == k && isEnum (k + 1) r

theorem isEnum_open : ∀ (l : List (Nat × Operand)) (k : Nat), isEnum k l = true → l = enumP k (l.map (·.2))
  | [], _, _ => rfl
  | (i, x) :: r, k, h => by
    simp only [isEnum, Bool.and_eq_true, beq_iff_eq] at h
    rw [List.map_cons, enumP, ← isEnum_open r (k + 1) h.2, h.1]
theorem opsL_open {e : Operand → Option AV} : ∀ (l : List (Nat × Operand)) (vs : List AV), opsL e l = some vs → (l.map (·.2)).map e = vs.map some
  | [], vs, h => by simp only [opsL, Option.some.injEq] at h; subst h; rfl
  | (i, x) :: r, vs, h => by
    simp only [opsL] at h
    split at h
    · rename_i v us hv hus
      cases h
      simp [hv, opsL_open r us hus]
    · cases h

def evBuild (P : Program) (t : TypeId) (ps : List (Nat × AV)) : Option Ev :=
  match structTab P t, zeroCellsOf P t with
  | some tab, some zs => (buildL (fun i => tab[i]?) (zs.map .raw) ps).map fun rs => ⟨True, .agg rs, [], 0⟩
  | _, _ => none

def evBuildSlice (P : Program) (t : TypeId) (len : Nat) (parts : List (Nat × Operand)) (ps : List AV) (h : Look) (nx : Nat) : Option Ev :=
  match slInfo P t with
  | some (e, some (sz, _)) => match zeroCellsOf P e with
    | some _ => if isEnum 0 parts = true ∧ parts.length = len ∧ ps.all (AV.fitsEl sz) = true ∧ 0 < sz ∧ len * sz ≤ 16777216 ∧ (absorbs h ps).2.Nodup then
        some ⟨True, .ref nx, (nx, .row e sz (absorbs h ps).1) :: deads (absorbs h ps).2, 1⟩ else none
    | none => none
  | _ => none

def evMakeSlice (P : Program) (t : TypeId) (x y : AV) (nx : Nat) : Option Ev :=
  match slInfo P t, x, y with
  | some (e, some (sz, by')), .raw (.int _ n), .raw (.int _ m) => match zeroEl P e with
    | some zel => if zel.width = sz ∧ 0 < sz then some ⟨0 ≤ n ∧ n ≤ m ∧ (by' : Int) * m ≤ 281474976710656 ∧ m.toNat ≤ maxLen, .ref nx, [(nx, .row e sz (List.replicate n.toNat zel))], 1⟩ else none
    | none => none
  | _, _, _ => none

/-- A bound that is given, or not. -/
def boundV (d : Int) : Option (Option AV) → Option Int
  | none => some d
  | some (some (.raw (.int _ n))) => some n
  | _ => none

def evSlice (P : Program) (t : TypeId) (x : AV) (lo hi : Option (Option AV)) : Option Ev :=
  match slInfo P t, x with
  | some (_, some (sz, _)), .sl sz' xs => match boundV 0 lo, boundV xs.length hi with
    | some l, some h => if sz' = sz then some ⟨0 ≤ l ∧ l ≤ h ∧ h ≤ xs.length, .sl sz ((xs.take h.toNat).drop l.toNat), [], 0⟩ else none
    | _, _ => none
  | _, _ => none

/-- What append begins with; what it is given. -/
def appRow (e sz i : Nat) (h : Look) : Option (List AV × List Nat) :=
  match h i with
  | some (.row e' sz' xs) => if e' = e ∧ sz' = sz then some (xs, [i]) else none
  | _ => none
def appRaw (sz : Nat) : AV → Option (List AV × List Nat)
  | .raw (.slice none 0 0) => some ([], [])
  | _ => none
def appRaw2 (sz : Nat) : AV → Option (List AV × List Nat)
  | .raw (.slice none 0 0) => some ([], [])
  | .sl sz' ys => if sz' = sz then some (ys, []) else none
  | _ => none
def app1 (e sz : Nat) (h : Look) (x : AV) : Option (List AV × List Nat) :=
  match x with
  | .ref i => appRow e sz i h
  | x => appRaw sz x
def app2 (e sz : Nat) (h : Look) (x : AV) : Option (List AV × List Nat) :=
  match x with
  | .ref i => appRow e sz i h
  | x => appRaw2 sz x

def evAppend (P : Program) (t : TypeId) (x y : AV) (h : Look) (nx : Nat) : Option Ev :=
  match slInfo P t with
  | some (e, some (sz, by')) => match zeroCellsOf P e, app1 e sz h x, app2 e sz h y with
    | some zs, some (xs, k1), some (ys, k2) => if zs.length = sz ∧ 0 < sz ∧ (∀ i ∈ k1, i ∉ k2) then
        some ⟨ys.all AV.elem = true ∧ xs.length + ys.length ≤ maxLen ∧ (xs.length + ys.length) * by' ≤ 140737488355328, .ref nx, (nx, .row e sz (xs ++ ys)) :: deads (k1 ++ k2), 1⟩ else none
    | _, _, _ => none
  | _ => none

def evCall (P : Program) (e : Operand → Option AV) (h : Look) (nx : Nat) (c : Call) : Option Ev :=
  match c.callee, c.args.toList, c.argTypes.toList with
  | .builtin .len, [x], [t] => match e x with
    | some p => (lenAV P t p h).map fun (n : Nat) => ⟨True, .raw (.int .i64 (n : Int)), [], 0⟩
    | none => none
  | .builtin .append, [x, y], [t, t'] => match e x, e y with
    | some p, some q => if t' = t then evAppend P t p q h nx else none
    | _, _ => none
  | _, _, _ => none

def opsO (e : Operand → Option AV) : List Operand → Option (List AV)
  | [] => some []
  | x :: r => match e x, opsO e r with
    | some v, some vs => some (v :: vs)
    | _, _ => none
theorem opsO_open {e : Operand → Option AV} : ∀ (l : List Operand) (vs : List AV), opsO e l = some vs → l.map e = vs.map some
  | [], vs, h => by simp only [opsO, Option.some.injEq] at h; subst h; rfl
  | x :: r, vs, h => by
    simp only [opsO] at h
    split at h
    · rename_i v us hv hus
      cases h
      simp [hv, opsO_open r us hus]
    · cases h
theorem opsO_local {e e' : Operand → Option AV} : ∀ {l : List Operand}, (∀ x ∈ l, e x = e' x) → opsO e l = opsO e' l
  | [], _ => rfl
  | x :: r, h => by rw [opsO, opsO, h x List.mem_cons_self, opsO_local fun y hy => h y (List.mem_cons_of_mem _ hy)]

/-- What an operation other than a call comes to. -/
def evOp (P : Program) (e : Operand → Option AV) (h : Look) (nx : Nat) : Op → Option Ev
  | .move x => (e x).map fun r => ⟨True, r, [], 0⟩
  | .assign x => (e x).map fun r => ⟨True, r, [], 0⟩
  | .pick c x y => match e c, e x, e y with
    | some c', some x', some y' => evPick c' x' y'
    | _, _, _ => none
  | .load t x => match e x with
    | some p => evLoad P t p h
    | none => none
  | .store t x y => match e x, e y with
    | some p, some v => evStore P t p v h
    | _, _ => none
  | .fieldAddr t x j => match e x with
    | some p => evField P t p j
    | none => none
  | .indexAddr t x y => match e x, e y with
    | some p, some v => evIndexAddr P t p v h
    | _, _ => none
  | .index t x y => match e x, e y with
    | some p, some v => evIndex P t p v
    | _, _ => none
  | .nilCheck x => match e x with
    | some p => if isPtr p = true then some ⟨True, p, [], 0⟩ else none
    | none => none
  | .extract x i => match e x with
    | some (.tup vs) => (vs[i]?).map fun r => ⟨True, r, [], 0⟩
    | _ => none
  | .makeInterface t x => match e x with
    | some p => if P.concrete t = true then some ⟨True, .iface t p, [], 0⟩ else none
    | none => none
  | .unOp op _ x => match e x with
    | some p => evUn op p
    | none => none
  | .binOp op t x y _ => match y with
    | .const .nilIface => match e x with
      | some p => evNil P op t p
      | none => none
    | y => match e x, e y with
      | some p, some v => evBin op p v
      | _, _ => none
  | .alloc t => match zeroCellsOf P t with
    | some zs => some ⟨True, .ptr nx 0, [(nx, .cells t (zs.map .raw))], 1⟩
    | none => none
  | .box t x => match e x with
    | some p => (cellsL p).map fun ys => ⟨True, .ptr nx 0, [(nx, .cells t ys)], 1⟩
    | none => none
  | .build t parts => match opsV e parts.toList with
    | some ps => evBuild P t ps
    | none => none
  | .buildSlice t len parts => match opsL e parts.toList with
    | some ps => evBuildSlice P t len parts.toList ps h nx
    | none => none
  | .makeSlice t x y => match e x, e y with
    | some p, some v => evMakeSlice P t p v nx
    | _, _ => none
  | .slice t x lo hi mx => match e x, mx with
    | some p, none => evSlice P t p (lo.map e) (hi.map e)
    | _, _ => none
  | .call c => evCall P e h nx c
  | .makeMap t r => match r, mapInfo P t with
    | none, some (kt, et) => some ⟨True, .ref nx, [(nx, .map kt et [])], 1⟩
    | _, _ => none
  | .makeFunc f first cap => match opsO e first.toList, opsO e cap.toList with
    | some as, some bs => some ⟨True, .fn f as bs, [], 0⟩
    | _, _ => none
  | .convert s t x => match e x with
    | some (.raw (.int _ n)) => if (intInfo P s).isSome = true then (intInfo P t).map fun k => ⟨True, .raw (.int k (k.wrap n)), [], 0⟩ else none
    | _ => none
  | .field t x j => match e x, fieldInfo P t j with
    | some p, some (off, some sz, some ag) => if p.notAgg = false then (elPart p off sz ag).map fun r => ⟨True, r, [], 0⟩ else none
    | _, _ => none
  | _ => none

def addU (U : Nat → Prop) (nx nw : Nat) : Nat → Prop := fun j => U j ∨ (nx ≤ j ∧ j < nx + nw)
theorem addU_zero (U : Nat → Prop) (nx : Nat) : addU U nx 0 = U := by
  funext j
  exact propext ⟨fun h => h.elim id (fun h => by omega), .inl⟩
theorem addU_one (U : Nat → Prop) (nx : Nat) : addU U nx 1 = fun j => U j ∨ j = nx := by
  funext j
  exact propext ⟨fun h => h.imp id (fun h => by omega), fun h => h.imp id (fun h => by omega)⟩
theorem addU_UU (n nw : Nat) : addU (UU n) n nw = UU (n + nw) := by
  funext j
  refine propext ⟨?_, ?_⟩
  · rintro ((h | h) | h)
    · exact .inl (by omega)
    · exact .inr h
    · exact .inl (by omega)
  · rintro (h | h)
    · rcases Nat.lt_or_ge j n with h1 | h1
      · exact .inl (.inl h1)
      · exact .inr ⟨h1, h⟩
    · exact .inl (.inr h)

section
variable {P : Program} {ro : Option Nat} {N : Nat} {o : Oper} {E : Env} {H : Heap} {U : Nat → Prop}

theorem rep_strip {ρ : Nat → Value} {av : Nat → Prop} {hp : Array Obj} {x : AV} {c : Prop} {p : Bool} {v : Value} (h : strip x = some (c, p)) (hr : Rep ρ av hp x v) (hc : c) : v = .bool p := by
  cases x with
  | raw u =>
    cases hr
    cases v <;> simp [strip] at h
    rw [h.2]
  | when c' y =>
    cases hr with
    | when _ _ _ hh _ =>
      cases y <;> simp [strip] at h
      rename_i u
      cases u <;> simp [strip] at h
      have := hh (by rw [h.1]; exact hc)
      cases this
      rw [h.2]
  | _ => simp [strip] at h

theorem opT_pickB {c x y : Operand} {b p q : Bool} {c1 c2 : Prop} {x' y' : AV} (ho : o.op = .pick c x y) (hN : ∀ d, o.dst = some d → d < N) (hc : opv E c = some (.raw (.bool b))) (hx : opv E x = some x') (hy : opv E y = some y')
    (h1 : strip x' = some (c1, p)) (h2 : strip y' = some (c2, q)) (k1 : b = true → c1) (k2 : b = false → c2) : OpT P ro N o E H U (putO E o.dst (.raw (.bool (pk b p q)))) H U := by
  refine opT_val (by simp [ho, Op.noDefer]) hN fun C a w hR => ?_
  obtain ⟨r1, _⟩ := hR.opv hx
  obtain ⟨r2, _⟩ := hR.opv hy
  obtain ⟨r3, _⟩ := hR.opv hc
  have hv : a.eval c = .bool b := by generalize a.eval c = v at r3; cases r3; rfl
  refine ⟨trivial, .bool (pk b p q), ?_, .raw _⟩
  cases b with
  | true =>
    have := rep_strip h1 r1 (k1 rfl)
    simp [execOp, ho, hv, asBool, this, pk]
  | false =>
    have := rep_strip h2 r2 (k2 rfl)
    simp [execOp, ho, hv, asBool, this, pk]

theorem evOp_sound {op : Op} {nx : Nat} {r : Ev} (ho : o.op = op) (hN : ∀ d, o.dst = some d → d < N) (h : evOp P (opv E) (get H) nx op = some r) (hok : r.ok) (hnx : r.nw ≠ 0 → ¬ U nx) :
    (r.nw = 0 ∨ r.nw = 1) ∧ OpT P ro N o E H U (putO E o.dst r.val) (over H r.ps) (addU U nx r.nw) := by
  cases op <;> simp only [evOp, reduceCtorEq] at h
  case move x => obtain ⟨p, hp, rfl⟩ := Option.map_eq_some_iff.1 h; exact ⟨.inl rfl, by rw [addU_zero]; exact opT_move (.inl ho) hp hN⟩
  case assign x => obtain ⟨p, hp, rfl⟩ := Option.map_eq_some_iff.1 h; exact ⟨.inl rfl, by rw [addU_zero]; exact opT_move (.inr ho) hp hN⟩
  case pick c x y =>
    split at h
    · rename_i c' x' y' hc hx hy
      unfold evPick at h
      split at h
      · rename_i b c1 p c2 q hs1 hs2
        cases h
        exact ⟨.inl rfl, by rw [addU_zero]; exact opT_pickB ho hN hc hx hy hs1 hs2 hok.1 hok.2⟩
      · cases h
    · cases h
  case load t x =>
    split at h
    · rename_i p hx
      unfold evLoad at h
      split at h
      · rename_i sz ag hv
        split at h
        · split at h
          · rename_i hH
            obtain ⟨r', hr, rfl⟩ := Option.map_eq_some_iff.1 h
            exact ⟨.inl rfl, by rw [addU_zero]; exact opT_load_cells ho hN (varInfo_open hv) hx hH hr⟩
          · cases h
        · split at h
          · rename_i hH
            split at h
            · rename_i he
              subst he
              split at h
              · rename_i hj
                split at h
                · rename_i hr
                  split at h
                  · rename_i hf
                    cases h
                    exact ⟨.inl rfl, by rw [addU_zero]; exact opT_load_row ho hN (varInfo_open hv) hx hH hj hr hf⟩
                  · cases h
                · cases h
              · cases h
            · cases h
          · cases h
        · split at h
          · rename_i hj
            obtain ⟨r', hr, rfl⟩ := Option.map_eq_some_iff.1 h
            exact ⟨.inl rfl, by rw [addU_zero]; exact opT_load_fp ho hN (varInfo_open hv) hx hj hr⟩
          · cases h
        · cases h
      · cases h
    · cases h
  case store t x y =>
    split at h
    · rename_i p v hx hy
      unfold evStore at h
      split at h
      · rename_i sz ag ys hv hys
        split at h
        · split at h
          · rename_i hH
            split at h
            · rename_i hc
              cases h
              exact ⟨.inl rfl, by rw [addU_zero]; exact opT_store_cells ho hN (varInfo_open hv) hx hH hy hys hc.1 hc.2⟩
            · cases h
          · cases h
        · split at h
          · rename_i hH
            split at h
            · rename_i hc
              obtain ⟨rfl, hc1, hc2, hc3, hc4, hc5, hc6⟩ := hc
              split at h
              · rename_i hj
                obtain ⟨el', hel, rfl⟩ := Option.map_eq_some_iff.1 h
                exact ⟨.inl rfl, by rw [addU_zero]; exact opT_store_row ho hN (varInfo_open hv) hx hH hj hy hc1 hc2 hc3 hc4 hel hc5 hc6⟩
              · cases h
            · cases h
          · cases h
        · cases h
      · cases h
    · cases h
  case fieldAddr t x j =>
    split at h
    · rename_i p hx
      unfold evField at h
      split at h
      · rename_i off sz ag hf
        split at h
        · rename_i h0
          obtain ⟨r', hr, rfl⟩ := Option.map_eq_some_iff.1 h
          exact ⟨.inl rfl, by rw [addU_zero]; exact opT_fieldAddr ho hN hf h0 hx hr⟩
        · cases h
      · cases h
    · cases h
  case indexAddr t x y =>
    split at h
    · rename_i p v hx hy
      unfold evIndexAddr at h
      split at h
      · rename_i et sz by' k n hs
        split at h
        · split at h
          · rename_i he
            subst he
            cases h
            exact ⟨.inl rfl, by rw [addU_zero]; exact opT_indexAddr_sl ho hN hs hx hy hok.1 hok.2⟩
          · cases h
        · split at h
          · rename_i hH
            split at h
            · rename_i he
              subst he
              cases h
              exact ⟨.inl rfl, by rw [addU_zero]; exact opT_indexAddr_row ho hN hs hx hH hy hok.1 hok.2⟩
            · cases h
          · cases h
        · cases h
      · cases h
    · cases h
  case index t x y =>
    split at h
    · rename_i p v hx hy
      unfold evIndex at h
      split at h
      · split at h
        · rename_i hs
          cases h
          have ht := isStr_open hs
          exact ⟨.inl rfl, by rw [addU_zero]; exact opT_index_str ho hN ht hx hy hok.1 hok.2⟩
        · cases h
      · cases h
    · cases h
  case nilCheck x =>
    split at h
    · rename_i p hx
      split at h
      · rename_i hp
        cases h
        exact ⟨.inl rfl, by rw [addU_zero]; exact opT_nilCheck ho hN hx (isPtr_rep hp)⟩
      · cases h
    · cases h
  case extract x i =>
    split at h
    · rename_i vs hx
      obtain ⟨r', hr, rfl⟩ := Option.map_eq_some_iff.1 h
      exact ⟨.inl rfl, by rw [addU_zero]; exact opT_extract ho hN hx hr⟩
    · cases h
  case makeInterface t x =>
    split at h
    · rename_i p hx
      split at h
      · rename_i ht
        cases h
        exact ⟨.inl rfl, by rw [addU_zero]; exact opT_makeInterface ho hN ht hx⟩
      · cases h
    · cases h
  case unOp op t x =>
    split at h
    · rename_i p hx
      unfold evUn at h
      split at h
      · cases h; exact ⟨.inl rfl, by rw [addU_zero]; exact opT_not ho hN hx⟩
      · cases h; exact ⟨.inl rfl, by rw [addU_zero]; exact opT_neg ho hN hx⟩
      · cases h
    · cases h
  case binOp op t x y t' =>
    split at h
    · split at h
      · rename_i p hx
        unfold evNil at h
        split at h
        · rename_i b hp
          split at h
          · rename_i r' hr
            split at h
            · rename_i ht
              cases h
              exact ⟨.inl rfl, by rw [addU_zero]; exact opT_nilIface ho hN ht hx hp hr⟩
            · cases h
          · cases h
        · cases h
      · cases h
    split at h
    · rename_i p v hx hy
      unfold evBin at h
      split at h
      · split at h
        · rename_i hk
          subst hk
          obtain ⟨v', hv, rfl⟩ := Option.map_eq_some_iff.1 h
          exact ⟨.inl rfl, by rw [addU_zero]; exact opT_iop ho hN hx hy hv⟩
        · cases h
      · obtain ⟨v', hv, rfl⟩ := Option.map_eq_some_iff.1 h
        exact ⟨.inl rfl, by rw [addU_zero]; exact opT_sop ho hN hx hy hv⟩
      · cases h
    · cases h
  case alloc t =>
    split at h
    · rename_i zs hz
      cases h
      exact ⟨.inr rfl, by rw [addU_one]; exact opT_alloc ho hN hz (hnx (by simp))⟩
    · cases h
  case box t x =>
    split at h
    · rename_i p hx
      obtain ⟨ys, hy, rfl⟩ := Option.map_eq_some_iff.1 h
      exact ⟨.inr rfl, by rw [addU_one]; exact opT_box ho hN hx hy (hnx (by simp))⟩
    · cases h
  case build t parts =>
    split at h
    · rename_i ps hps
      rw [opsV_eq] at hps
      unfold evBuild at h
      split at h
      · rename_i tab zs ht hz
        obtain ⟨rs, hr, rfl⟩ := Option.map_eq_some_iff.1 h
        exact ⟨.inl rfl, by rw [addU_zero]; exact opT_build ho hN (structTab_open ht) hz hps hr⟩
      · cases h
    · cases h
  case buildSlice t len parts =>
    split at h
    · rename_i ps hps
      unfold evBuildSlice at h
      split at h
      · rename_i e sz by' hs
        split at h
        · rename_i zs hz
          split at h
          · rename_i hc
            obtain ⟨h1, h2, h3, h4, h5, h6⟩ := hc
            cases h
            exact ⟨.inr rfl, by rw [addU_one]; exact opT_buildSlice ho hN hs hz (isEnum_open _ _ h1) (by simpa using h2) (opsL_open _ _ hps) h3 h4 h5 h6 (hnx (by simp))⟩
          · cases h
        · cases h
      · cases h
    · cases h
  case makeSlice t x y =>
    split at h
    · rename_i p v hx hy
      unfold evMakeSlice at h
      split at h
      · rename_i e sz by' k n k' m hs
        split at h
        · rename_i zel hz
          split at h
          · rename_i hc
            cases h
            exact ⟨.inr rfl, by rw [addU_one]; exact opT_makeSlice ho hN hs hz hc.1 hc.2 hx hy hok.1 hok.2.1 hok.2.2.1 hok.2.2.2 (hnx (by simp))⟩
          · cases h
        · cases h
      · cases h
    · cases h
  case slice t x lo hi mx =>
    split at h
    · rename_i p hx
      unfold evSlice at h
      split at h
      · rename_i e sz by' sz' xs hs
        split at h
        · rename_i l hh hl hhi
          split at h
          · rename_i hc
            subst hc
            cases h
            refine ⟨.inl rfl, ?_⟩
            rw [addU_zero]
            have bound : ∀ (d : Int) (b : Option Operand) (n : Int), boundV d (b.map (opv E)) = some n → (b = none ∧ n = d) ∨ ∃ y k, b = some y ∧ opv E y = some (.raw (.int k n)) := fun d b n hb => by
              cases b with
              | none => simp only [Option.map_none, boundV, Option.some.injEq] at hb; exact .inl ⟨rfl, hb.symm⟩
              | some y =>
                simp only [Option.map_some] at hb
                unfold boundV at hb
                split at hb
                · rename_i hq; cases hq
                · rename_i k n' hq
                  cases hb
                  exact .inr ⟨y, _, rfl, by simpa using hq⟩
                · cases hb
            exact opT_slice_sl ho hN hs hx (bound _ _ _ hl) (bound _ _ _ hhi) hok.1 hok.2.1 hok.2.2
          · cases h
        · cases h
      · cases h
    · cases h
  case call c =>
    unfold evCall at h
    split at h
    · rename_i x t hc ha ht
      split at h
      · rename_i p hx
        obtain ⟨n, hn, rfl⟩ := Option.map_eq_some_iff.1 h
        exact ⟨.inl rfl, by rw [addU_zero]; exact opT_len ho hc (by rw [← ha]) (by rw [← ht]) hN hx hn⟩
      · cases h
    · rename_i x y t t' hc ha ht
      split at h
      · rename_i p q hx hy
        split at h
        · rename_i htt
          subst htt
          unfold evAppend at h
          split at h
          · rename_i e sz by' hs
            split at h
            · rename_i zs xs k1 ys k2 hz h1 h2
              split at h
              · rename_i hcc
                cases h
                have a1 : App1 E H x e sz xs k1 := by
                  unfold app1 at h1
                  split at h1
                  · unfold appRow at h1
                    split at h1
                    · rename_i hH
                      split at h1
                      · rename_i hq; obtain ⟨rfl, rfl⟩ := hq; cases h1; exact .row _ _ hx hH
                      · cases h1
                    · cases h1
                  · unfold appRaw at h1
                    split at h1
                    · cases h1; exact .nil hx
                    · cases h1
                have a2 : App2 E H y e sz ys k2 := by
                  unfold app2 at h2
                  split at h2
                  · unfold appRow at h2
                    split at h2
                    · rename_i hH
                      split at h2
                      · rename_i hq; obtain ⟨rfl, rfl⟩ := hq; cases h2; exact .row _ _ hy hH
                      · cases h2
                    · cases h2
                  · unfold appRaw2 at h2
                    split at h2
                    · cases h2; exact .nil hy
                    · split at h2
                      · rename_i hq; subst hq; cases h2; exact .sl _ hy
                      · cases h2
                    · cases h2
                exact ⟨.inr rfl, by rw [addU_one]; exact opT_append ho hc (by rw [← ha]) (by rw [← ht]) hN hs hz hcc.1 hcc.2.1 a1 a2 hcc.2.2 hok.1 hok.2.1 hok.2.2 (hnx (by simp))⟩
              · cases h
            · cases h
          · cases h
        · cases h
      · cases h
    · cases h

  case makeMap t r =>
    split at h
    · rename_i kt et hm
      cases h
      exact ⟨.inr rfl, by rw [addU_one]; exact opT_makeMap ho hN hm (hnx (by simp))⟩
    · cases h
  case makeFunc f first cap =>
    split at h
    · rename_i as bs ha hb
      cases h
      exact ⟨.inl rfl, by rw [addU_zero]; exact opT_makeFunc ho hN (opsO_open _ _ ha) (opsO_open _ _ hb)⟩
    · cases h
  case convert s t x =>
    split at h
    · rename_i k n hx
      split at h
      · rename_i hs
        obtain ⟨k', hk, rfl⟩ := Option.map_eq_some_iff.1 h
        exact ⟨.inl rfl, by rw [addU_zero]; exact opT_convInt ho hN hs hk hx⟩
      · cases h
    · cases h
  case field t x j =>
    split at h
    · rename_i p off sz ag hx hf
      split at h
      · rename_i hp
        obtain ⟨r', hr, rfl⟩ := Option.map_eq_some_iff.1 h
        exact ⟨.inl rfl, by rw [addU_zero]; exact opT_field ho hN hf hx hp hr⟩
      · cases h
    · cases h

/-- Only what an operation looks at counts. -/
def opnds : Op → List Operand
  | .move x | .assign x | .box _ x | .load _ x | .nilCheck x | .unOp _ _ x | .makeInterface _ x | .fieldAddr _ x _ | .extract x _ | .convert _ _ x | .field _ x _ => [x]
  | .makeFunc _ a b => a.toList ++ b.toList
  | .pick c a b => [c, a, b]
  | .store _ a v | .binOp _ _ a v _ | .indexAddr _ a v | .index _ a v | .makeSlice _ a v => [a, v]
  | .build _ ps => ps.toList.map (·.2)
  | .buildSlice _ _ ps => ps.toList.map (·.2)
  | .slice _ x lo hi _ => x :: (lo.toList ++ hi.toList)
  | .call c => c.args.toList
  | _ => []

theorem mem_refsIn {i : Nat} : ∀ {cs : List AV}, .ref i ∈ cs → i ∈ refsIn cs
  | x :: r, h => by
    rcases List.mem_cons.1 h with e | e
    · subst e; exact List.mem_cons_self
    · cases x <;> simp only [refsIn] <;> first | exact List.mem_cons_of_mem _ (mem_refsIn e) | exact mem_refsIn e

theorem absorb1_local {h h' : Look} {x : AV} (hh : ∀ i, x = .ref i → h i = h' i) : absorb1 h x = absorb1 h' x := by
  cases x with
  | ref i => unfold absorb1; simp only [hh i rfl]
  | _ => rfl
theorem absorbL_local {h h' : Look} : ∀ {cs : List AV}, (∀ i ∈ refsIn cs, h i = h' i) → absorbL h cs = absorbL h' cs
  | [], _ => rfl
  | x :: r, hh => by
    rw [absorbL, absorbL, absorb1_local fun i hi => hh i (mem_refsIn (by rw [hi]; exact List.mem_cons_self)), absorbL_local fun i hi => hh i (by cases x <;> simp only [refsIn] <;> first | exact List.mem_cons_of_mem _ hi | exact hi)]
theorem absorb_local {h h' : Look} {x : AV} (hh : ∀ i ∈ idsOf x, h i = h' i) : absorb h x = absorb h' x := by
  cases x with
  | agg cs => simp only [absorb, absorbL_local hh]
  | ref i => exact absorb1_local (x := .ref i) fun j hj => hh j (by injection hj with e; subst e; exact List.mem_singleton.2 rfl)
  | _ => rfl
theorem absorbs_local {h h' : Look} : ∀ {ps : List AV}, (∀ p ∈ ps, ∀ i ∈ idsOf p, h i = h' i) → absorbs h ps = absorbs h' ps
  | [], _ => rfl
  | x :: r, hh => by rw [absorbs, absorbs, absorb_local (hh x List.mem_cons_self), absorbs_local fun p hp => hh p (List.mem_cons_of_mem _ hp)]

theorem evLoad_local {t : TypeId} {p : AV} {h h' : Look} (hh : ∀ i ∈ idsOf p, h i = h' i) : evLoad P t p h = evLoad P t p h' := by
  cases p <;> simp only [evLoad] <;> simp only [idsOf, List.mem_singleton, forall_eq] at hh <;> rw [hh]
theorem evStore_local {t : TypeId} {p y : AV} {h h' : Look} (hh : ∀ i ∈ idsOf p, h i = h' i) (hy : ∀ i ∈ idsOf y, h i = h' i) : evStore P t p y h = evStore P t p y h' := by
  have hab := absorb_local hy
  cases p <;> simp only [evStore] <;> simp only [idsOf, List.mem_singleton, forall_eq] at hh <;> rw [hh]
  rw [hab]
theorem evIndexAddr_local {t : TypeId} {p y : AV} {h h' : Look} (hh : ∀ i ∈ idsOf p, h i = h' i) : evIndexAddr P t p y h = evIndexAddr P t p y h' := by
  cases p <;> simp only [evIndexAddr] <;> simp only [idsOf, List.mem_singleton, forall_eq] at hh <;> rw [hh]
theorem lenAV_local {t : TypeId} {p : AV} {h h' : Look} (hh : ∀ i ∈ idsOf p, h i = h' i) : lenAV P t p h = lenAV P t p h' := by
  cases p <;> first | rfl | skip
  simp only [idsOf, List.mem_singleton, forall_eq] at hh
  simp only [lenAV, hh]
theorem app1_local {e sz : Nat} {p : AV} {h h' : Look} (hh : ∀ i ∈ idsOf p, h i = h' i) : app1 e sz h p = app1 e sz h' p := by
  cases p <;> first | rfl | skip
  simp only [idsOf, List.mem_singleton, forall_eq] at hh
  simp only [app1, appRow, hh]
theorem app2_local {e sz : Nat} {p : AV} {h h' : Look} (hh : ∀ i ∈ idsOf p, h i = h' i) : app2 e sz h p = app2 e sz h' p := by
  cases p <;> first | rfl | skip
  simp only [idsOf, List.mem_singleton, forall_eq] at hh
  simp only [app2, appRow, hh]

theorem opsV_local {e e' : Operand → Option AV} : ∀ {l : List (Nat × Operand)}, (∀ x ∈ l.map (·.2), e x = e' x) → opsV e l = opsV e' l
  | [], _ => rfl
  | (i, x) :: r, h => by
    rw [opsV, opsV, h x (by simp), opsV_local fun y hy => h y (by simp only [List.map_cons]; exact List.mem_cons_of_mem _ hy)]
theorem opsL_local {e e' : Operand → Option AV} : ∀ {l : List (Nat × Operand)}, (∀ x ∈ l.map (·.2), e x = e' x) → opsL e l = opsL e' l
  | [], _ => rfl
  | (i, x) :: r, h => by
    rw [opsL, opsL, h x (by simp), opsL_local fun y hy => h y (by simp only [List.map_cons]; exact List.mem_cons_of_mem _ hy)]
theorem opsL_mem {e : Operand → Option AV} : ∀ {l : List (Nat × Operand)} {vs : List AV}, opsL e l = some vs → ∀ v ∈ vs, ∃ x ∈ l.map (·.2), e x = some v
  | [], vs, h, v, hv => by simp only [opsL, Option.some.injEq] at h; subst h; cases hv
  | (i, x) :: r, vs, h, v, hv => by
    simp only [opsL] at h
    split at h
    · rename_i u us hu hus
      cases h
      rcases List.mem_cons.1 hv with e' | e'
      · subst e'; exact ⟨x, by simp, hu⟩
      · obtain ⟨y, hy, hyv⟩ := opsL_mem hus v e'
        exact ⟨y, by simp only [List.map_cons]; exact List.mem_cons_of_mem _ hy, hyv⟩
    · cases h

theorem evOp_local {op : Op} {e e' : Operand → Option AV} {h h' : Look} {nx : Nat} (he : ∀ x ∈ opnds op, e x = e' x) (hh : ∀ x ∈ opnds op, ∀ p, e x = some p → ∀ i ∈ idsOf p, h i = h' i) : evOp P e h nx op = evOp P e' h' nx op := by
  cases op
  case build t parts => simp only [evOp]; rw [opsV_local he]
  case buildSlice t len parts =>
    simp only [evOp]
    rw [← opsL_local he]
    cases hp : opsL e parts.toList with
    | none => rfl
    | some ps =>
      simp only [evBuildSlice]
      rw [absorbs_local fun p hpm i hi => by obtain ⟨x, hx, hxp⟩ := opsL_mem hp p hpm; exact hh x hx p hxp i hi]
  case slice t x lo hi mx =>
    simp only [evOp]
    rw [he x (by simp [opnds])]
    have h1 : lo.map e = lo.map e' := by
      cases lo with
      | none => rfl
      | some y => simp only [Option.map_some]; rw [he y (by simp [opnds])]
    have h2 : hi.map e = hi.map e' := by
      cases hi with
      | none => rfl
      | some y => simp only [Option.map_some]; rw [he y (by simp [opnds])]
    rw [h1, h2]
  case call c =>
    simp only [evOp, evCall]
    simp only [opnds] at he hh
    generalize c.args.toList = as at he hh
    generalize c.argTypes.toList = ts
    generalize c.callee = cl
    split
    · rename_i x t
      rw [← he x (by simp)]
      cases hx : e x with
      | none => rfl
      | some p => simp only [lenAV_local (hh x (by simp) p hx)]
    · rename_i x y t t'
      rw [← he x (by simp), ← he y (by simp)]
      cases hx : e x with
      | none => rfl
      | some p =>
        cases hy : e y with
        | none => rfl
        | some q => simp only [evAppend, app1_local (hh x (by simp) p hx), app2_local (hh y (by simp) q hy)]
    · rfl
  case makeFunc f first cap =>
    simp only [evOp]
    rw [opsO_local fun x hx => he x (by simp only [opnds]; exact List.mem_append.2 (.inl hx)), opsO_local fun x hx => he x (by simp only [opnds]; exact List.mem_append.2 (.inr hx))]
  all_goals simp only [opnds, List.mem_cons, List.not_mem_nil, or_false, forall_eq_or_imp, forall_eq] at he hh
  all_goals simp only [evOp]
  case move x => rw [he]
  case assign x => rw [he]
  case pick c x y => rw [he.1, he.2.1, he.2.2]
  case load t x =>
    rw [← he]
    cases hx : e x with
    | none => rfl
    | some p => exact evLoad_local (hh p hx)
  case store t x y =>
    rw [← he.1, ← he.2]
    cases hx : e x with
    | none => rfl
    | some p =>
      cases hy : e y with
      | none => rfl
      | some v => exact evStore_local (hh.1 p hx) (hh.2 v hy)
  case fieldAddr t x j => rw [he]
  case indexAddr t x y =>
    rw [← he.1, ← he.2]
    cases hx : e x with
    | none => rfl
    | some p =>
      cases hy : e y with
      | none => rfl
      | some v => exact evIndexAddr_local (hh.1 p hx)
  case index t x y => rw [he.1, he.2]
  case makeSlice t x y => rw [he.1, he.2]
  case nilCheck x => rw [he]
  case extract x i => rw [he]
  case makeInterface t x => rw [he]
  case unOp op t x => rw [he]
  case binOp op t x y t' =>
    rw [he.1]
    split
    · rfl
    · rw [he.2]
  case box t x => rw [he]
  case convert s t x => rw [he]
  case field t x j => rw [he]

end
end Go.Abs
end

/- Abs11 -/
section
/- The abstract layer, eleventh part: a call within a larger heap. -/
set_option linter.unusedVariables false
set_option linter.unusedSimpArgs false
namespace Go.Abs
open Go

theorem get_map {β : Type} (τ : Nat → Nat) (g : AObj → β) (m : Nat) (o : β) : ∀ (l : Heap), get (l.map fun p => (τ p.1, g p.2)) m = some o → ∃ i o', get l i = some o' ∧ τ i = m ∧ g o' = o
  | [], h => by cases h
  | (k, x) :: r, h => by
    simp only [List.map_cons, Abs.get] at h
    split at h
    · rename_i e
      cases h
      exact ⟨k, x, by simp [Abs.get], e, rfl⟩
    · rename_i e
      obtain ⟨i, o', h1, h2, h3⟩ := get_map τ g m o r h
      refine ⟨i, o', ?_, h2, h3⟩
      unfold Abs.get
      rw [if_neg (fun e' => e (by rw [e']; exact h2))]
      exact h1

theorem get_map_of {β : Type} (τ : Nat → Nat) (g : AObj → β) : ∀ (l : Heap) (i : Nat) (o : AObj), (∀ i j oi oj, get l i = some oi → get l j = some oj → τ i = τ j → i = j) → get l i = some o → get (l.map fun p => (τ p.1, g p.2)) (τ i) = some (g o) := by
  intro l i o hinj hi
  cases hm : get (l.map fun p => (τ p.1, g p.2)) (τ i) with
  | none =>
    exfalso
    clear hinj
    induction l with
    | nil => cases hi
    | cons p r ih =>
      obtain ⟨k, x⟩ := p
      simp only [List.map_cons, Abs.get] at hm
      unfold Abs.get at hi
      split at hm
      · cases hm
      · rename_i e
        rw [if_neg (fun e' => e (by rw [e']))] at hi
        exact ih hi hm
  | some y =>
    obtain ⟨j, o', h1, h2, h3⟩ := get_map τ g _ _ l hm
    have := hinj j i o' o h1 hi h2
    subst this
    rw [h1] at hi
    cases hi
    rw [← h3]

/-- The callee's names in the caller's. -/
def shift (σ : Nat → Nat) (n0 nx nw : Nat) : Nat → Nat := fun i => if n0 ≤ i ∧ i < n0 + nw then nx + (i - n0) else σ i

/-- How a call's objects lie in the caller's. -/
structure Fit (U : Nat → Prop) (H : Heap) (σ : Nat → Nat) (nd : Heap) (n0 nx nw : Nat) (H1 : Heap) : Prop where
  objs : ∀ i o, get nd i = some o → get H (σ i) = some (o.ren σ) ∧ UU n0 i ∧ o.bel (UU n0)
  inj : ∀ i j oi oj, get nd i = some oi → get nd j = some oj → σ i = σ j → i = j
  known : ∀ i, UU n0 i → U (σ i)
  dom : ∀ i o, get H1 i = some o → (∃ o', get nd i = some o') ∨ (n0 ≤ i ∧ i < n0 + nw)
  all : ∀ i o, get nd i = some o → ∃ o', get H1 i = some o'
  fresh : ∀ j, nx ≤ j → j < nx + nw → ¬ U j
  far : n0 + nw ≤ 1000

section
variable {C : Conc} {H : Heap} {U : Nat → Prop} {w : World} {σ : Nat → Nat} {nd : Heap} {n0 nx nw : Nat} {H1 : Heap}

def callee (C : Conc) (H : Heap) (σ : Nat → Nat) (nd : Heap) : Conc :=
  { ρ := fun i => C.ρ (σ i), one := fun i => C.one (σ i), own := fun i => C.own (σ i), B := C.B
    X := fun b => C.X b ∨ ∃ i o, get H i = some o ∧ (∀ j o', get nd j = some o' → σ j ≠ i) ∧ b ∈ C.own i }

theorem callee_avoid (hF : Fit U H σ nd n0 nx nw H1) (b : Nat) : (callee C H σ nd).avoid nd b ↔ C.avoid H b := by
  constructor
  · rintro ((h | ⟨i, o, hi, _, hb⟩) | ⟨i, o, hi, hb⟩)
    · exact .inl h
    · exact .inr ⟨i, o, hi, hb⟩
    · exact .inr ⟨σ i, _, (hF.objs i o hi).1, hb⟩
  · rintro (h | ⟨i, o, hi, hb⟩)
    · exact .inl (.inl h)
    · by_cases hm : ∃ j o', get nd j = some o' ∧ σ j = i
      · obtain ⟨j, o', hj, rfl⟩ := hm
        exact .inr ⟨j, o', hj, hb⟩
      · exact .inl (.inr ⟨i, o, hi, fun j o' hj e => hm ⟨j, o', hj, e⟩, hb⟩)

theorem RelH.callee (hR : RelH C H U w) (hF : Fit U H σ nd n0 nx nw H1) : RelH (callee C H σ nd) nd (UU n0) w where
  obj := fun i o hi => ((hR.obj _ _ (hF.objs i o hi).1).mono (av' := (Abs.callee C H σ nd).avoid nd) (fun b _ hb => (callee_avoid hF b).1 hb) (fun _ _ _ => rfl) (fun _ _ => rfl)).unren (ρ := C.ρ)
  apart := fun i j oi oj b hne hi hj hb hb' => hR.apart (σ i) (σ j) _ _ b (fun e => hne (hF.inj i j oi oj hi hj e)) (hF.objs i oi hi).1 (hF.objs j oj hj).1 hb hb'
  xapart := fun i o b hi hb hx => by
    rcases hx with hx | ⟨j, oj, hj, hn, hb'⟩
    · exact hR.xapart _ _ b (hF.objs i o hi).1 hb hx
    · exact hR.apart (σ i) j _ oj b (hn i o hi) (hF.objs i o hi).1 hj hb hb'
  xlt := fun b hx => by
    rcases hx with hx | ⟨j, oj, hj, hn, hb'⟩
    · exact hR.xlt b hx
    · exact (hR.obj j oj hj).own_lt b hb'
  objb := fun i o hi => (hF.objs i o hi).2

open Classical in
noncomputable def back (C C1 : Conc) (σ : Nat → Nat) (nd : Heap) (n0 nx nw : Nat) : Conc :=
  { ρ := fun i => if nx ≤ i ∧ i < nx + nw then C1.ρ (n0 + (i - nx)) else C.ρ i
    one := fun i => by split; exact C1.one _; exact C.one _
    own := fun i => if nx ≤ i ∧ i < nx + nw then C1.own (n0 + (i - nx)) else if h : ∃ j o', get nd j = some o' ∧ σ j = i then C1.own (Classical.choose h) else C.own i
    X := C.X, B := C.B }

open Classical in
/-- Behind the call: the caller's whole heap. -/
theorem RelH.back (hR : RelH C H U w) (hF : Fit U H σ nd n0 nx nw H1) {C1 : Conc} {w' : World} (hR1 : RelH C1 H1 (UU (n0 + nw)) w') (hs : StepR (Abs.callee C H σ nd) nd (UU n0) w C1 H1 w') :
    let H2 := over H (H1.map fun p => (shift σ n0 nx nw p.1, p.2.ren (shift σ n0 nx nw)))
    let C2 := Abs.back C C1 σ nd n0 nx nw
    RelH C2 H2 (addU U nx nw) w' ∧ StepR C H U w C2 H2 w' ∧ ∀ r v, r.bel (UU (n0 + nw)) → Rep C1.ρ (C1.avoid H1) w'.heap r v → Rep C2.ρ (C2.avoid H2) w'.heap (r.ren (shift σ n0 nx nw)) v ∧ (r.ren (shift σ n0 nx nw)).bel (addU U nx nw) := by
  intro H2 C2
  have hnew : ∀ i, U i → ¬ (nx ≤ i ∧ i < nx + nw) := fun i hu ⟨h1, h2⟩ => hF.fresh i h1 h2 hu
  -- names
  have hτold : ∀ i, UU n0 i → shift σ n0 nx nw i = σ i := fun i hu => by
    unfold shift
    rw [if_neg]
    rintro ⟨h1, h2⟩
    have := hF.far
    rcases hu with hu | hu <;> omega
  have hτnew : ∀ i, n0 ≤ i → i < n0 + nw → shift σ n0 nx nw i = nx + (i - n0) := fun i h1 h2 => if_pos ⟨h1, h2⟩
  have hsplit : ∀ i, UU (n0 + nw) i → UU n0 i ∨ (n0 ≤ i ∧ i < n0 + nw) := fun i hu => by
    rcases hu with hu | hu
    · rcases Nat.lt_or_ge i n0 with h | h
      · exact .inl (.inl h)
      · exact .inr ⟨h, hu⟩
    · exact .inl (.inr hu)
  have hknown : ∀ i, UU (n0 + nw) i → addU U nx nw (shift σ n0 nx nw i) := fun i hu => by
    rcases hsplit i hu with h | ⟨h1, h2⟩
    · rw [hτold i h]; exact .inl (hF.known i h)
    · rw [hτnew i h1 h2]; exact .inr (by omega)
  have hρ : ∀ i, UU (n0 + nw) i → C2.ρ (shift σ n0 nx nw i) = C1.ρ i := fun i hu => by
    rcases hsplit i hu with h | ⟨h1, h2⟩
    · rw [hτold i h]
      show (if _ then _ else _) = _
      rw [if_neg (hnew _ (hF.known i h))]
      exact (hs.ρ i h).symm
    · rw [hτnew i h1 h2]
      show (if _ then _ else _) = _
      rw [if_pos (by omega)]
      congr 1
      omega
  have hmem1 : ∀ i o, get H1 i = some o → UU (n0 + nw) i := fun i o hi => (hR1.objb i o hi).1
  have hown1 : ∀ i o, get H1 i = some o → C2.own (shift σ n0 nx nw i) = C1.own i := fun i o hi => by
    rcases hF.dom i o hi with ⟨o', ho'⟩ | ⟨h1, h2⟩
    · have hu := (hF.objs i o' ho').2.1
      rw [hτold i hu]
      show (if _ then _ else if h : _ then _ else _) = _
      have hex : ∃ j o'', get nd j = some o'' ∧ σ j = σ i := ⟨i, o', ho', rfl⟩
      rw [if_neg (hnew _ (hF.known i hu)), dif_pos hex]
      obtain ⟨o2, h1, h2⟩ := Classical.choose_spec hex
      rw [hF.inj _ i _ _ h1 ho' h2]
    · rw [hτnew i h1 h2]
      show (if _ then _ else _) = _
      rw [if_pos (by omega)]
      congr 1
      omega
  have hinj1 : ∀ i j oi oj, get H1 i = some oi → get H1 j = some oj → shift σ n0 nx nw i = shift σ n0 nx nw j → i = j := fun i j oi oj hi hj e => by
    rcases hF.dom i oi hi with ⟨o1, ho1⟩ | ⟨h1, h2⟩
    · have hu := (hF.objs i o1 ho1).2.1
      rcases hF.dom j oj hj with ⟨o2, ho2⟩ | ⟨h3, h4⟩
      · have hu2 := (hF.objs j o2 ho2).2.1
        rw [hτold i hu, hτold j hu2] at e
        exact hF.inj i j _ _ ho1 ho2 e
      · rw [hτold i hu, hτnew j h3 h4] at e
        exact absurd ⟨by omega, by omega⟩ (hnew _ (hF.known i hu))
    · rcases hF.dom j oj hj with ⟨o2, ho2⟩ | ⟨h3, h4⟩
      · have hu2 := (hF.objs j o2 ho2).2.1
        rw [hτold j hu2, hτnew i h1 h2] at e
        exact absurd ⟨by omega, by omega⟩ (hnew _ (hF.known j hu2))
      · rw [hτnew i h1 h2, hτnew j h3 h4] at e
        omega
  -- the objects behind the call: the callee's, or old ones that it did not see
  have hcase : ∀ i o, get H2 i = some o → (∃ j o', get H1 j = some o' ∧ shift σ n0 nx nw j = i ∧ o'.ren (shift σ n0 nx nw) = o) ∨
      (get H i = some o ∧ C2.own i = C.own i ∧ ∀ j o', get nd j = some o' → σ j ≠ i) := fun i o hi => by
    rw [over_get] at hi
    cases hm : get (H1.map fun p => (shift σ n0 nx nw p.1, p.2.ren (shift σ n0 nx nw))) i with
    | some y =>
      rw [hm] at hi
      cases hi
      exact .inl (get_map _ _ _ _ _ hm)
    | none =>
      rw [hm] at hi
      have hun : ∀ j o', get nd j = some o' → σ j ≠ i := fun j o' hj e => by
        obtain ⟨o2, ho2⟩ := hF.all j o' hj
        have := get_map_of (shift σ n0 nx nw) (AObj.ren (shift σ n0 nx nw)) H1 j o2 hinj1 ho2
        rw [hτold j (hF.objs j o' hj).2.1, e, hm] at this
        cases this
      refine .inr ⟨hi, ?_, hun⟩
      show (if _ then _ else if h : _ then _ else _) = _
      rw [if_neg (hnew _ (hR.objb i o hi).1), dif_neg]
      rintro ⟨j, o', hj, e⟩
      exact hun j o' hj e
  have hW1 : ∀ b, (Abs.callee C H σ nd).W nd b → C.W H b := fun b ⟨i, o, hi, hb⟩ => ⟨σ i, _, (hF.objs i o hi).1, hb⟩
  have hav21 : ∀ b, C2.avoid H2 b → C1.avoid H1 b := fun b hb => by
    rcases hb with hb | ⟨i, o, hi, hb⟩
    · exact .inl (by rw [hs.X]; exact .inl hb)
    · rcases hcase i o hi with ⟨j, o', hj, rfl, _⟩ | ⟨hi', hown, hun⟩
      · exact .inr ⟨j, o', hj, by rw [← hown1 j o' hj]; exact hb⟩
      · rw [hown] at hb
        exact .inl (by rw [hs.X]; exact .inr ⟨i, o, hi', hun, hb⟩)
  have hav1 : ∀ b, b < w.heap.size → C1.avoid H1 b → C.avoid H b := fun b hb hq => by
    rw [← callee_avoid hF b]
    rcases hq with hq | hq
    · exact .inl (by rw [← hs.X]; exact hq)
    · rcases hs.wr b hq with h1 | h1
      · exact .inr h1
      · omega
  have hstep : StepR C H U w C2 H2 w' :=
    { os := hs.os, tape := hs.tape, output := hs.output, size := hs.size
      keep := fun k hk hn => hs.keep k hk fun q => hn (hW1 k q)
      wr := fun b ⟨i, o, hi, hb⟩ => by
        rcases hcase i o hi with ⟨j, o', hj, rfl, _⟩ | ⟨hi', hown, hun⟩
        · rcases hs.wr b ⟨j, o', hj, by rw [← hown1 j o' hj]; exact hb⟩ with h1 | h1
          · exact .inl (hW1 b h1)
          · exact .inr h1
        · exact .inl ⟨i, o, hi', by rw [← hown]; exact hb⟩
      X := rfl, B := rfl
      ρ := fun i hi => if_neg (hnew i hi) }
  have hrep : ∀ r v, r.bel (UU (n0 + nw)) → Rep C1.ρ (C1.avoid H1) w'.heap r v → Rep C2.ρ (C2.avoid H2) w'.heap (r.ren (shift σ n0 nx nw)) v := fun r v hr hrr =>
    Rep.ren (ρ := C2.ρ) ((hrr.mono (av' := C2.avoid H2) (fun b _ => hav21 b) (fun _ _ _ => rfl)).named (ρ' := fun i => C2.ρ (shift σ n0 nx nw i)) hρ hr)
  refine ⟨{ obj := fun i o hi => ?_, apart := fun i j oi oj b hne hi hj hb hb' => ?_, xapart := fun i o b hi hb hx => ?_, xlt := fun b hx => Nat.lt_of_lt_of_le (hR.xlt b hx) hs.size, objb := fun i o hi => ?_ }, hstep, fun r v hr hrr => ⟨hrep r v hr hrr, AV.bel_ren.2 (AV.bel_mono hknown r hr)⟩⟩
  · rcases hcase i o hi with ⟨j, o', hj, rfl, rfl⟩ | ⟨hi', hown, hun⟩
    · rw [hown1 j o' hj, hρ j (hmem1 j o' hj)]
      exact RepObj.ren (ρ := C2.ρ) (((hR1.obj j o' hj).mono (av' := C2.avoid H2) (fun b _ => hav21 b) (fun _ _ _ => rfl) (fun _ _ => rfl)).named (ρ' := fun i => C2.ρ (shift σ n0 nx nw i)) hρ (hR1.objb j o' hj).2)
    · have hkeep : ∀ b, b ∈ C.own i → w'.heap[b]? = w.heap[b]? := fun b hb => hs.keep b ((hR.obj i o hi').own_lt b hb) fun ⟨j, oj, hj, hb'⟩ =>
        hR.apart i (σ j) o _ b (fun e => hun j oj hj e.symm) hi' (hF.objs j oj hj).1 hb hb'
      have hρi : C2.ρ i = C.ρ i := if_neg (hnew i (hR.objb i o hi').1)
      rw [hown, hρi]
      exact ((hR.obj i o hi').mono (av' := C2.avoid H2) (fun b hb hq => hav1 b hb (hav21 b hq)) (fun b hb hn => hs.keep b hb fun q => hn (.inr (hW1 b q))) hkeep).named (ρ' := C2.ρ) (fun j hj => if_neg (hnew j hj)) (hR.objb i o hi').2
  · rcases hcase i oi hi with ⟨i', oi', hi', rfl, _⟩ | ⟨hi', hown, hun⟩
    · rw [hown1 i' oi' hi'] at hb
      rcases hcase j oj hj with ⟨j', oj', hj', rfl, _⟩ | ⟨hj', hown2, hun2⟩
      · rw [hown1 j' oj' hj'] at hb'
        exact hR1.apart i' j' oi' oj' b (fun e => hne (by rw [e])) hi' hj' hb hb'
      · rw [hown2] at hb'
        exact hR1.xapart i' oi' b hi' hb (by rw [hs.X]; exact .inr ⟨j, oj, hj', hun2, hb'⟩)
    · rw [hown] at hb
      rcases hcase j oj hj with ⟨j', oj', hj', rfl, _⟩ | ⟨hj', hown2, hun2⟩
      · rw [hown1 j' oj' hj'] at hb'
        exact hR1.xapart j' oj' b hj' hb' (by rw [hs.X]; exact .inr ⟨i, oi, hi', hun, hb⟩)
      · rw [hown2] at hb'
        exact hR.apart i j oi oj b hne hi' hj' hb hb'
  · rcases hcase i o hi with ⟨j, o', hj, rfl, _⟩ | ⟨hi', hown, hun⟩
    · rw [hown1 j o' hj] at hb
      exact hR1.xapart j o' b hj hb (by rw [hs.X]; exact .inl hx)
    · rw [hown] at hb
      exact hR.xapart i o b hi' hb hx
  · rcases hcase i o hi with ⟨j, o', hj, rfl, rfl⟩ | ⟨hi', hown, hun⟩
    · exact ⟨hknown j (hmem1 j o' hj), AObj.bel_ren.2 (AObj.bel_mono hknown o' (hR1.objb j o' hj).2)⟩
    · exact ⟨.inl (hR.objb i o hi').1, AObj.bel_mono (fun _ h => .inl h) o (hR.objb i o hi').2⟩

end
end Go.Abs
end

/- Abs12 -/
section
/- The abstract layer, twelfth part: steps of a region, in order. -/
set_option linter.unusedVariables false
set_option linter.unusedSimpArgs false
namespace Go.Abs
open Go

/-- What the operation at place j has yielded, by the slots alone. -/
def yieldD (ds : List (Option Tmp)) (tmps : Array Value) (j : Nat) : Option Bool :=
  match ((ds[j]?).join).bind (tmps[·]?) with
  | some (.bool b) => some b
  | _ => none

theorem yielded_eq (ops : Array Oper) (tmps : Array Value) (j : Nat) : yielded ops tmps j = yieldD (ops.toList.map (·.dst)) tmps j := by
  unfold yielded yieldD
  rw [List.getElem?_map, Array.getElem?_toList]
  cases ops[j]? <;> rfl

/-- An operation, if its guard lets it come. -/
def GS (P : Program) (ro : Option Nat) (ds : List (Option Tmp)) (o : Oper) (a : Act) (w : World) (next : Act → World → Prop) (Q : Exit → Act → World → Prop) : Prop :=
  if Region.wanted o (yieldD ds a.tmps) then o.wpIn (FW ro) 0 P a w next Q else (∀ f, o.about P w a.eval = some f → (FW ro).fn f) ∧ next (a.put o.dst undef) w

/-- An operation, told by what it looks at alone. -/
def LStep (P : Program) (ro : Option Nat) (N : Nat) (ds : List (Option Tmp)) (o : Oper) (b0 : Nat) (E0 : Env) (H0 : Heap) (rt rd : List Nat) (val : AV) (ps : Heap) (nx nw : Nat) : Prop :=
  ∀ (E : Env) (H : Heap) (U : Nat → Prop), (∀ t ∈ rt, get E t = get E0 t) → (∀ i ∈ rd, get H i = get H0 i) → (∀ j, UU b0 j → U j) → (∀ j, nx ≤ j → j < nx + nw → ¬ U j) →
    ∀ (C : Conc) (a : Act) (w : World) (next : Act → World → Prop) (Q : Exit → Act → World → Prop), Rel C N E H U a w →
      (∀ C' a' w', Rel C' N (putO E o.dst val) (over H ps) (addU U nx nw) a' w' → StepR C H U w C' (over H ps) w' → next a' w') → GS P ro ds o a w next Q

structure Rec where
  rt : List Nat
  ro : List Nat
  wt : Option Nat
  wo : List Nat
  /-- objects that may as well lie so -/
  al : Heap
  ps : Heap

/-- The same, with objects that may as well lie otherwise. -/
def LStepA (P : Program) (ro : Option Nat) (N : Nat) (ds : List (Option Tmp)) (o : Oper) (b0 : Nat) (E0 : Env) (H0 : Heap) (rt rd : List Nat) (al : Heap) (val : AV) (ps : Heap) (nx nw : Nat) : Prop :=
  ∀ (E : Env) (H : Heap) (U : Nat → Prop), (∀ t ∈ rt, get E t = get E0 t) → (∀ i ∈ rd, get H i = get H0 i ∨ ∃ x, get al i = some x ∧ get H i = some x) → (∀ j, UU b0 j → U j) → (∀ j, nx ≤ j → j < nx + nw → ¬ U j) →
    ∀ (C : Conc) (a : Act) (w : World) (next : Act → World → Prop) (Q : Exit → Act → World → Prop), Rel C N E H U a w →
      (∀ C' a' w', Rel C' N (putO E o.dst val) (over H ps) (addU U nx nw) a' w' → StepR C H U w C' (over H ps) w' → next a' w') → GS P ro ds o a w next Q
theorem LStep.toA {P : Program} {ro : Option Nat} {N : Nat} {ds : List (Option Tmp)} {o : Oper} {b0 : Nat} {E0 : Env} {H0 : Heap} {rt rd : List Nat} {val : AV} {ps : Heap} {nx nw : Nat} (h : LStep P ro N ds o b0 E0 H0 rt rd val ps nx nw) :
    LStepA P ro N ds o b0 E0 H0 rt rd [] val ps nx nw :=
  fun E H U hE hH => h E H U hE fun i hi => (hH i hi).resolve_right (by rintro ⟨x, hx, _⟩; cases hx)

/-- A step in the course of a region. -/
def VStep (P : Program) (ro : Option Nat) (N : Nat) (ds : List (Option Tmp)) (b0 : Nat) (o : Oper) (E : Env) (H : Heap) (nx : Nat) (K : Rec → AK) : Prop :=
  ∃ rt rd val ps nw, (nw = 0 ∨ nx + nw ≤ 1000) ∧ LStep P ro N ds o b0 E H rt rd val ps nx nw ∧ K ⟨rt, rd, o.dst, ps.map (·.1), [], ps⟩ (putO E o.dst val) (over H ps) (nx + nw)

theorem get_cons {α : Type} (k : Nat) (x : α) (r : List (Nat × α)) (n : Nat) : get ((k, x) :: r) n = if k = n then some x else get r n := rfl

def tmpsOf : List Operand → List Nat
  | [] => []
  | .tmp t :: r => t :: tmpsOf r
  | _ :: r => tmpsOf r

theorem mem_tmpsOf {t : Nat} : ∀ {xs : List Operand}, Operand.tmp t ∈ xs → t ∈ tmpsOf xs
  | x :: xs, h => by
    rcases List.mem_cons.1 h with e | e
    · subst e; exact List.mem_cons_self
    · cases x <;> simp only [tmpsOf] <;> first | exact List.mem_cons_of_mem _ (mem_tmpsOf e) | exact mem_tmpsOf e

theorem opv_congr {E E' : Env} {xs : List Operand} (h : ∀ t ∈ tmpsOf xs, get E t = get E' t) : ∀ x ∈ xs, opv E x = opv E' x := fun x hx => by
  cases x with
  | tmp t => exact h t (mem_tmpsOf hx)
  | _ => rfl

/-- The objects that operands lead to. -/
def topsOf (E : Env) : List Operand → List Nat
  | [] => []
  | x :: r => match opv E x with
    | some p => idsOf p ++ topsOf E r
    | none => topsOf E r

theorem mem_topsOf {E : Env} {x : Operand} {p : AV} {i : Nat} (hp : opv E x = some p) (hi : i ∈ idsOf p) : ∀ {xs : List Operand}, x ∈ xs → i ∈ topsOf E xs
  | y :: ys, h => by
    unfold topsOf
    rcases List.mem_cons.1 h with e | e
    · subst e
      rw [hp]
      exact List.mem_append.2 (.inl hi)
    · split
      · exact List.mem_append.2 (.inr (mem_topsOf hp hi e))
      · exact mem_topsOf hp hi e

section
variable {P : Program} {ro : Option Nat} {N : Nat} {o : Oper} {E : Env} {H : Heap} {nx b0 : Nat} {ds : List (Option Tmp)} {K : Rec → AK}

theorem GS_plain {a : Act} {w : World} {next : Act → World → Prop} {Q : Exit → Act → World → Prop} (hg : o.guard = none) (h : o.wpIn (FW ro) 0 P a w next Q) : GS P ro ds o a w next Q := by
  unfold GS Region.wanted
  rw [hg]
  exact h

theorem lstep_ev {r : Ev} (hg : o.guard = none) (hN : ∀ d, o.dst = some d → d < N) (h : evOp P (opv E) (get H) nx o.op = some r) (hok : r.ok) :
    LStep P ro N ds o b0 E H (tmpsOf (opnds o.op)) (topsOf E (opnds o.op)) r.val r.ps nx r.nw := by
  intro E' H' U hE hH _ hnx C a w next Q hR hK
  have hops := opv_congr hE
  have hloc : evOp P (opv E') (get H') nx o.op = some r := by
    rw [← h]
    exact evOp_local hops fun x hx p hp i hi => hH i (mem_topsOf (by rw [← hops x hx]; exact hp) hi hx)
  exact GS_plain hg ((evOp_sound (U := U) rfl hN hloc hok (fun hw => hnx nx (Nat.le_refl _) (by omega))).2 C a w next Q hR hK)

/-! ### Guards -/
def unwhen : AV → AV
  | .when _ x => x
  | x => x
def whenOk (G : Prop) : Option AV → Prop
  | some (.when c _) => G → c
  | _ => True

/-- The operands' values, if the guard holds. -/
def unE (E : Env) : List Nat → Env
  | [] => []
  | t :: r => match get E t with
    | some x => (t, unwhen x) :: unE E r
    | none => unE E r
def unOk (G : Prop) (E : Env) : List Nat → Prop
  | [] => True
  | t :: r => whenOk G (get E t) ∧ unOk G E r

theorem unE_get {E : Env} {t : Nat} : ∀ {rt : List Nat}, t ∈ rt → get (unE E rt) t = (get E t).map unwhen
  | s :: r, h => by
    unfold unE
    by_cases e : s = t
    · subst e
      cases hs : get E s with
      | some x => simp [Abs.get]
      | none =>
        simp only [Option.map_none]
        clear h
        induction r with
        | nil => rfl
        | cons q r ih =>
          unfold unE
          cases hq : get E q with
          | some y =>
            simp only []
            rw [get_cons, if_neg (fun e => by rw [e, hs] at hq; cases hq)]
            exact ih
          | none => exact ih
    · have h' : t ∈ r := by
        rcases List.mem_cons.1 h with e' | e'
        · exact absurd e'.symm e
        · exact e'
      cases hs : get E s with
      | some x => simp only []; rw [get_cons, if_neg e]; exact unE_get h'
      | none => exact unE_get h'
theorem unE_sub {E : Env} {t : Nat} {x : AV} : ∀ {rt : List Nat}, get (unE E rt) t = some x → ∃ y, get E t = some y ∧ x = unwhen y ∧ t ∈ rt
  | [], h => by cases h
  | s :: r, h => by
    unfold unE at h
    split at h
    · rename_i z hz
      unfold Abs.get at h
      split at h
      · rename_i e
        subst e
        cases h
        exact ⟨z, hz, rfl, List.mem_cons_self⟩
      · obtain ⟨y, h1, h2, h3⟩ := unE_sub h
        exact ⟨y, h1, h2, List.mem_cons_of_mem _ h3⟩
    · obtain ⟨y, h1, h2, h3⟩ := unE_sub h
      exact ⟨y, h1, h2, List.mem_cons_of_mem _ h3⟩
theorem unOk_mem {G : Prop} {E : Env} {t : Nat} : ∀ {rt : List Nat}, unOk G E rt → t ∈ rt → whenOk G (get E t)
  | s :: r, h, ht => by
    rcases List.mem_cons.1 ht with e | e
    · subst e; exact h.1
    · exact unOk_mem h.2 e

theorem get_app {α : Type} (n : Nat) (l' : List (Nat × α)) : ∀ l : List (Nat × α), get (l ++ l') n = match get l n with | some x => some x | none => get l' n
  | [] => rfl
  | (k, x) :: r => by
    show get ((k, x) :: (r ++ l')) n = _
    rw [get_cons, get_cons]
    by_cases h : k = n
    · simp [h]
    · simp only [h, if_false]; exact get_app n l' r

theorem rep_unwhen {ρ : Nat → Value} {av : Nat → Prop} {hp : Array Obj} {x : AV} {v : Value} {G : Prop} (hr : Rep ρ av hp x v) (hw : whenOk G (some x)) (hG : G) : Rep ρ av hp (unwhen x) v := by
  cases x with
  | when c y =>
    cases hr with
    | when _ _ _ h _ => exact h (hw hG)
  | _ => exact hr
theorem bel_unwhen {U : Nat → Prop} {x : AV} (h : x.bel U) : (unwhen x).bel U := by cases x <;> exact h

theorem wanted_guard {C : Conc} {U : Nat → Prop} {a : Act} {w : World} {i g : Nat} {want b : Bool} {c : Prop} {x : AV} (hR : Rel C N E H U a w) (hg : o.guard = some (i, want)) (hi : (ds[i]?).join = some g) (hE : get E g = some x) (hs : strip x = some (c, b)) :
    Region.wanted o (yieldD ds a.tmps) = true ↔ c ∧ b = want := by
  obtain ⟨hlt, _, hr⟩ := hR.env g x hE
  have hsz : g < a.tmps.size := by rw [hR.size]; exact hlt
  have hgd : a.tmps[g]? = some (a.tmps.getD g undef) := by simp [Array.getD_eq_getD_getElem?, hsz]
  unfold Region.wanted
  rw [hg]
  show (yieldD ds a.tmps i == some want) = true ↔ _
  unfold yieldD
  rw [hi]
  simp only [Option.bind_some, hgd]
  generalize a.tmps.getD g undef = v at hr
  by_cases hc : c
  · have hv := rep_strip hs hr hc
    subst hv
    simp [hc]
  · have hu : v = .tuple #[] := by
      cases x with
      | raw u => cases u <;> simp [strip] at hs; exact absurd hs.1 hc
      | when c' y =>
        cases hr with
        | when _ _ _ h9 h' =>
          clear h9
          cases y with
          | raw u =>
            cases u <;> simp only [strip, Option.some.injEq, Prod.mk.injEq, reduceCtorEq] at hs
            exact h' (by rw [hs.1]; exact hc)
          | _ => simp [strip] at hs
      | _ => simp [strip] at hs
    subst hu
    simp [hc]

theorem Rel.more {C : Conc} {U : Nat → Prop} {a : Act} {w : World} (hR : Rel C N E H U a w) {E1 : Env} (h : ∀ t x, get E1 t = some x → t < N ∧ x.bel U ∧ Rep C.ρ (C.avoid H) w.heap x (a.tmps.getD t undef)) : Rel C N (E1 ++ E) H U a w :=
  { toRelH := hR.toRelH, size := hR.size, hB := hR.hB, nodup := hR.nodup, marks := hR.marks
    env := fun t x ht => by
      rw [get_app] at ht
      split at ht
      · rename_i y hy
        cases ht
        exact h t x hy
      · exact hR.env t x ht }

/-- A guarded operation that changes no object. -/
theorem lstep_guard {i g : Nat} {want b : Bool} {c : Prop} {x val : AV} {rt rd : List Nat} (hN : ∀ d, o.dst = some d → d < N) (hg : o.guard = some (i, want)) (hi : (ds[i]?).join = some g) (hE : get E g = some x) (hs : strip x = some (c, b))
    (hun : unOk (c ∧ b = want) E rt) (h : c ∧ b = want → LStep P ro N ds { o with guard := none } b0 (unE E rt) H rt rd val [] nx 0) (hb : val.bel (UU b0)) : LStep P ro N ds o b0 E H (g :: rt) rd (.when (c ∧ b = want) val) [] nx 0 := by
  intro E' H' U hE' hH' hU hnx C a w next Q hR hK
  have hEg : get E' g = some x := (hE' g List.mem_cons_self).trans hE
  have hw := wanted_guard (o := o) (ds := ds) hR hg hi hEg hs
  unfold GS
  by_cases hG : c ∧ b = want
  · rw [if_pos (hw.2 hG)]
    have hR2 : Rel C N (unE E rt ++ E') H' U a w := hR.more fun t y hy => by
      obtain ⟨z, hz, hyz, ht⟩ := unE_sub hy
      obtain ⟨h1, h2, h3⟩ := hR.env t z ((hE' t (List.mem_cons_of_mem _ ht)).trans hz)
      have hok := unOk_mem hun ht
      rw [hz] at hok
      subst hyz
      exact ⟨h1, bel_unwhen h2, rep_unwhen h3 hok hG⟩
    have hl := h hG (unE E rt ++ E') H' U (fun t ht => by
      rw [get_app]
      cases hq : get (unE E rt) t with
      | some y => rfl
      | none =>
        rw [unE_get ht] at hq
        simp only [Option.map_eq_none_iff] at hq
        rw [hE' t (List.mem_cons_of_mem _ ht), hq]) hH' hU hnx C a w next Q hR2
    have hl2 := hl fun C' a' w' hR' hs' => by
      refine hK C' a' w' { toRelH := hR'.toRelH, size := hR'.size, hB := hR'.hB, nodup := hR'.nodup, marks := hR'.marks, env := fun t y ht => ?_ } hs'
      have henv := hR'.env
      cases hd : o.dst with
      | none =>
        simp only [hd, putO] at ht henv
        by_cases hq : ∃ z, get (unE E rt) t = some z
        · obtain ⟨z, hz⟩ := hq
          obtain ⟨u, hu, hzu, htr⟩ := unE_sub hz
          have hE2 := (hE' t (List.mem_cons_of_mem _ htr)).trans hu
          rw [hE2] at ht
          obtain rfl : u = y := Option.some.inj ht
          obtain ⟨h1, h2, h3⟩ := henv t z (by rw [get_app, hz])
          have hok := unOk_mem hun htr
          rw [hu] at hok
          subst hzu
          refine ⟨h1, ?_, ?_⟩
          · cases u <;> exact h2
          · cases u with
            | when c' u' => exact .when _ _ _ (fun _ => h3) (fun hn => absurd (hok hG) hn)
            | _ => exact h3
        · refine henv t y ?_
          rw [get_app]
          cases hz : get (unE E rt) t with
          | some z => exact absurd ⟨z, hz⟩ hq
          | none => exact ht
      | some d =>
        simp only [hd, putO, Abs.get] at ht henv
        by_cases hdt : d = t
        · rw [if_pos hdt] at ht
          cases ht
          obtain ⟨h1, h2, h3⟩ := henv t val (by rw [if_pos hdt])
          exact ⟨h1, h2, .when _ _ _ (fun _ => h3) (fun hn => absurd hG hn)⟩
        · rw [if_neg hdt] at ht
          by_cases hq : ∃ z, get (unE E rt) t = some z
          · obtain ⟨z, hz⟩ := hq
            obtain ⟨u, hu, hzu, htr⟩ := unE_sub hz
            have hE2 := (hE' t (List.mem_cons_of_mem _ htr)).trans hu
            rw [hE2] at ht
            obtain rfl : u = y := Option.some.inj ht
            obtain ⟨h1, h2, h3⟩ := henv t z (by rw [if_neg hdt, get_app, hz])
            have hok := unOk_mem hun htr
            rw [hu] at hok
            subst hzu
            refine ⟨h1, ?_, ?_⟩
            · cases u <;> exact h2
            · cases u with
              | when c' u' => exact .when _ _ _ (fun _ => h3) (fun hn => absurd (hok hG) hn)
              | _ => exact h3
          · refine henv t y ?_
            rw [if_neg hdt, get_app]
            cases hz : get (unE E rt) t with
            | some z => exact absurd ⟨z, hz⟩ hq
            | none => exact ht
    unfold GS Region.wanted at hl2
    simp only [if_true] at hl2
    exact hl2
  · rw [if_neg (fun q => hG (hw.1 q))]
    refine ⟨fun _ _ => trivial, hK C _ w ?_ (StepR.refl C H' U w)⟩
    rw [addU_zero]
    exact hR.put hN (.when _ _ _ (fun hc => absurd hc hG) (fun _ => rfl)) (AV.bel_mono hU val hb)

end
end Go.Abs
end

/- Abs13 -/
section
/- The abstract layer, thirteenth part: calls as steps; regions in order. -/
set_option linter.unusedVariables false
set_option linter.unusedSimpArgs false
namespace Go.Abs
open Go

section
variable {C : Conc} {N : Nat} {E : Env} {H H' : Heap} {U : Nat → Prop} {a : Act} {w : World}

theorem avoid_ext (h : ∀ m, get H' m = get H m) : C.avoid H' = C.avoid H := by
  funext b
  refine propext (or_congr Iff.rfl ⟨?_, ?_⟩)
  · rintro ⟨i, o, hi, hb⟩; exact ⟨i, o, by rw [← h]; exact hi, hb⟩
  · rintro ⟨i, o, hi, hb⟩; exact ⟨i, o, by rw [h]; exact hi, hb⟩

theorem RelH.ext (h : ∀ m, get H' m = get H m) (hR : RelH C H U w) : RelH C H' U w where
  obj := fun i o hi => by rw [avoid_ext h]; exact hR.obj i o (by rw [← h]; exact hi)
  apart := fun i j oi oj b hne hi hj => hR.apart i j oi oj b hne (by rw [← h]; exact hi) (by rw [← h]; exact hj)
  xapart := fun i o b hi => hR.xapart i o b (by rw [← h]; exact hi)
  xlt := hR.xlt
  objb := fun i o hi => hR.objb i o (by rw [← h]; exact hi)

theorem Rel.ext (h : ∀ m, get H' m = get H m) (hR : Rel C N E H U a w) : Rel C N E H' U a w :=
  { toRelH := hR.toRelH.ext h, size := hR.size, hB := hR.hB, nodup := hR.nodup, marks := by rw [avoid_ext h]; exact hR.marks, env := by rw [avoid_ext h]; exact hR.env }

theorem StepR.ext {C' : Conc} {H0 : Heap} {w' : World} (h : ∀ m, get H' m = get H m) (hs : StepR C H0 U w C' H w') : StepR C H0 U w C' H' w' :=
  { hs with wr := fun b ⟨i, o, hi, hb⟩ => hs.wr b ⟨i, o, by rw [← h]; exact hi, hb⟩ }
end

section
variable {P : Program} {ro : Option Nat} {N : Nat} {o : Oper} {E : Env} {H : Heap} {nx b0 : Nat} {ds : List (Option Tmp)} {K : Rec → AK}

theorem run_call {c : Call} {f : Nat} {fn : Func} {code : Code} {a : Act} {w : World} (ho : o.op = .call c) (hc : c.callee = .value (.func f)) (hT : FnT P f fn code) :
    (execOp a.eval o).run P w = .ok (.enter f (c.args.map a.eval)) w := by
  have hev : a.eval (.func f) = .func (.func f) #[] #[] := rfl
  simp [execOp, ho, resolve, hc, hev, Deferred.ofValue, invoke, hT.run]

theorem wpIn_call {c : Call} {f : Nat} {fn : Func} {code : Code} {a : Act} {w : World} {next : Act → World → Prop} {Q : Exit → Act → World → Prop} {R : Value → World → Prop} (ho : o.op = .call c) (hc : c.callee = .value (.func f)) (hT : FnT P f fn code)
    (h : Calls P f (c.args.map a.eval) w fun e w' => ∃ v, e = .returned v ∧ R v w') (hn : ∀ v w', R v w' → next (a.put o.dst v) w') : o.wpIn (FW ro) 0 P a w next Q := by
  refine ⟨fun _ _ => trivial, ?_⟩
  rw [semAt_plain (by simp [ho, Op.noDefer]), run_call ho hc hT]
  rw [Oper.uponIn_enter]
  exact ⟨fun hh => (by cases hh), callsIn_FW (h.mono fun e w' ⟨v, he, hv⟩ => by subst he; exact hn v w' hv)⟩

/-- What is asked of the objects' fit, to be reckoned. -/
structure FitC (H : Heap) (s : List (Nat × Nat)) (nd : Heap) (m0 nw : Nat) (H1 : Heap) : Prop where
  objs : heapOk (sg s) m0 H nd
  inj : (nd.map fun p => sg s p.1).Nodup
  cov : ∀ i, i < m0 → (get nd i).isSome = true
  sk : ∀ p ∈ s, (get nd p.1).isSome = true
  dom : ∀ p ∈ H1, (get nd p.1).isSome = true ∨ (m0 ≤ p.1 ∧ p.1 < m0 + nw)
  all : ∀ p ∈ nd, (get H1 p.1).isSome = true
  far : m0 + nw ≤ 1000

theorem FitC.fit {s : List (Nat × Nat)} {nd H1 : Heap} {m0 nw : Nat} (h : FitC H s nd m0 nw H1) {C : Conc} {U : Nat → Prop} {w : World} {H' : Heap} (hR : RelH C H' U w) (hU : ∀ j, 1000 ≤ j → U j) (hH : ∀ p ∈ nd, get H' (sg s p.1) = get H (sg s p.1))
    (hf : ∀ j, nx ≤ j → j < nx + nw → ¬ U j) : Fit U H' (sg s) nd m0 nx nw H1 where
  objs := fun i ob hi => by
    have h1 := heapOk_iff h.objs i ob (get_mem hi)
    exact ⟨(hH _ (get_mem hi)).trans h1.1, h1.2⟩
  inj := inj_of_nodup h.inj
  known := fun i hi => by
    have aux : ∀ i ob, get nd i = some ob → U (sg s i) := fun i ob hi => (hR.objb _ _ ((hH _ (get_mem hi)).trans (heapOk_iff h.objs i ob (get_mem hi)).1)).1
    rcases hi with hi | hi
    · obtain ⟨ob, hob⟩ := Option.isSome_iff_exists.1 (h.cov i hi)
      exact aux i ob hob
    · cases hg : get s i with
      | none => simpa [sg, hg] using hU i hi
      | some j =>
        obtain ⟨ob, hob⟩ := Option.isSome_iff_exists.1 (h.sk _ (get_mem hg))
        exact aux i ob hob
  dom := fun i ob hi => by
    rcases h.dom _ (get_mem hi) with h1 | h1
    · exact .inl (Option.isSome_iff_exists.1 h1)
    · exact .inr h1
  all := fun i ob hi => Option.isSome_iff_exists.1 (h.all _ (get_mem hi))
  fresh := hf
  far := h.far

/-- A call by a contract. -/
theorem lstep_call {c : Call} {f : Nat} {fn : Func} {code : Code} {args : List AV} {nd H1 : Heap} {m0 nw : Nat} {r0 : AV} (s : List (Nat × Nat)) (hg : o.guard = none) (ho : o.op = .call c) (hc : c.callee = .value (.func f)) (hT : FnT P f fn code)
    (hN : ∀ d, o.dst = some d → d < N) (hM : Meets P f args nd m0 fun r H' n' => r = r0 ∧ H' = H1 ∧ n' = m0 + nw) (hargs : c.args.toList.map (opv E) = (renL (sg s) args).map some) (hab : belL (UU m0) args) (hF : FitC H s nd m0 nw H1) :
    LStep P ro N ds o b0 E H (tmpsOf c.args.toList) (nd.map fun p => sg s p.1) (r0.ren (shift (sg s) m0 nx nw)) (H1.map fun p => (shift (sg s) m0 nx nw p.1, p.2.ren (shift (sg s) m0 nx nw))) nx nw := by
  intro E' H' U hE hH hU hnx C a w next Q hR hK
  have hops := opv_congr hE
  have hfit := hF.fit hR.toRelH (fun j hj => hU j (.inr hj)) (fun p hp => hH _ (List.mem_map.2 ⟨p, hp, rfl⟩)) hnx
  have hRc := hR.toRelH.callee hfit
  have hlen : c.args.toList.length = args.length := by have := congrArg List.length hargs; simpa [renL_length] using this
  have hargsR : RepL (callee C H' (sg s) nd).ρ ((callee C H' (sg s) nd).avoid nd) w.heap args (c.args.map a.eval) := by
    refine ⟨by simpa using hlen, fun j x hj => ?_⟩
    have hjl : j < c.args.toList.length := by rw [hlen]; exact (List.getElem?_eq_some_iff.1 hj).1
    have h1 : (c.args.toList.map (opv E))[j]? = some (some (x.ren (sg s))) := by rw [hargs, List.getElem?_map, renL_get, hj]; rfl
    rw [List.getElem?_map, List.getElem?_eq_getElem hjl] at h1
    simp only [Option.map_some, Option.some.injEq] at h1
    have h2 : opv E' c.args.toList[j] = some (x.ren (sg s)) := by rw [hops _ (List.getElem_mem hjl)]; exact h1
    obtain ⟨h3, _⟩ := hR.opv h2
    have hv : (c.args.map a.eval).getD j undef = a.eval c.args.toList[j] := by
      simp at hjl
      simp [Array.getD_eq_getD_getElem?, hjl]
    rw [hv]
    exact (h3.mono (av' := (callee C H' (sg s) nd).avoid nd) (fun b _ hb => (callee_avoid hfit b).1 hb) (fun _ _ _ => rfl)).unren (ρ := C.ρ) x rfl
  refine GS_plain hg (wpIn_call (R := fun v w' => ∃ C1, RelH C1 H1 (UU (m0 + nw)) w' ∧ StepR (callee C H' (sg s) nd) nd (UU m0) w C1 H1 w' ∧ Rep C1.ρ (C1.avoid H1) w'.heap r0 v ∧ r0.bel (UU (m0 + nw))) ho hc hT
    ((hM _ w _ hRc hargsR hab).mono fun e w' ⟨v, r, H2, n', C1, he, hn', ⟨hr, hH2, hn2⟩, h1, h2, h3, h4⟩ => ?_) fun v w' ⟨C1, h1, h2, h3, h4⟩ => ?_)
  · subst hr; subst hH2; subst hn2
    exact ⟨v, he, C1, h1, h2, h3, h4⟩
  · obtain ⟨k1, k2, k3⟩ := hR.toRelH.back hfit h1 h2
    obtain ⟨k4, k5⟩ := k3 r0 v h4 h3
    have hRel := hR.change k2 (fun i hi => .inl hi) k1
    exact hK _ _ w' (hRel.put hN k4 k5) k2

theorem shift_zero (σ : Nat → Nat) (m0 nx : Nat) : shift σ m0 nx 0 = σ := by
  funext i
  unfold shift
  rw [if_neg (by omega)]

/-- A call by a pure contract: no object changes. -/
theorem lstep_pure {c : Call} {f : Nat} {fn : Func} {code : Code} {args : List AV} {nd : Heap} {m0 : Nat} {r0 : AV} (s : List (Nat × Nat)) (hg : o.guard = none) (ho : o.op = .call c) (hc : c.callee = .value (.func f)) (hT : FnT P f fn code)
    (hN : ∀ d, o.dst = some d → d < N) (hM : Pure P f args nd m0 r0) (hargs : c.args.toList.map (opv E) = (renL (sg s) args).map some) (hab : belL (UU m0) args) (hF : FitC H s nd m0 0 nd) :
    LStep P ro N ds o b0 E H (tmpsOf c.args.toList) (nd.map fun p => sg s p.1) (r0.ren (sg s)) [] nx 0 := by
  have hl := lstep_call (P := P) (ro := ro) (N := N) (o := o) (E := E) (H := H) (nx := nx) (b0 := b0) (ds := ds) s hg ho hc hT hN (Meets.mono hM fun r H' n' h => h) hargs hab hF
  rw [shift_zero] at hl
  intro E' H' U hE hH hU hnx C a w next Q hR hK
  have hext : ∀ m, get (over H' []) m = get (over H' (nd.map fun p => (sg s p.1, p.2.ren (sg s)))) m := fun m => by
    rw [over_get, over_get]
    show get H' m = _
    cases hm : get (nd.map fun p => (sg s p.1, p.2.ren (sg s))) m with
    | none => rfl
    | some ob =>
      obtain ⟨i, o', h1, h2, h3⟩ := get_map (sg s) (AObj.ren (sg s)) m ob nd hm
      have h4 := (heapOk_iff hF.objs i o' (get_mem h1)).1
      rw [← h2, hH _ (List.mem_map.2 ⟨_, get_mem h1, rfl⟩), h4, h3]
  exact hl E' H' U hE hH hU hnx C a w next Q hR fun C' a' w' hR' hs' => hK C' a' w' (hR'.ext hext) (hs'.ext hext)

theorem sg_nil : sg [] = id := rfl

/-- A call of a function of data alone. -/
theorem lstep_pure0 {c : Call} {f : Nat} {fn : Func} {code : Code} {args : List AV} {r0 : AV} (hg : o.guard = none) (ho : o.op = .call c) (hc : c.callee = .value (.func f)) (hT : FnT P f fn code)
    (hN : ∀ d, o.dst = some d → d < N) (hM : Pure P f args [] 0 r0) (hargs : c.args.toList.map (opv E) = args.map some) (hab : belL (UU 0) args) : LStep P ro N ds o b0 E H (tmpsOf c.args.toList) [] r0 [] nx 0 := by
  have hl := lstep_pure (P := P) (ro := ro) (N := N) (o := o) (E := E) (H := H) (nx := nx) (b0 := b0) (ds := ds) (nd := []) (m0 := 0) [] hg ho hc hT hN hM (by rw [sg_nil, renL_id]; exact hargs) hab
    ⟨trivial, List.nodup_nil, (fun i hi => by omega), (fun p hp => by cases hp), (fun p hp => by cases hp), (fun p hp => by cases hp), by omega⟩
  rw [sg_nil, AV.ren_id] at hl
  exact hl

theorem vstep_of {rt rd : List Nat} {val : AV} {ps : Heap} {nw : Nat} (hl : LStep P ro N ds o b0 E H rt rd val ps nx nw) (hn : nw = 0 ∨ nx + nw ≤ 1000) (hk : K ⟨rt, rd, o.dst, ps.map (·.1), [], ps⟩ (putO E o.dst val) (over H ps) (nx + nw)) : VStep P ro N ds b0 o E H nx K :=
  ⟨rt, rd, val, ps, nw, hn, hl, hk⟩

/-! ### A region in order -/
/-- What the rest of a region's operations comes to. -/
def VSem (P : Program) (ro : Option Nat) (N : Nat) (ds : List (Option Tmp)) (l : List Oper) (K : AK) (E : Env) (H : Heap) (nx : Nat) : Prop :=
  ∀ (ops : Array Oper) (n0 : Nat) (Q : Exit → Act → World → Prop) (C : Conc) (a : Act) (w : World), ops.toList.map (·.dst) = ds → (∀ o ∈ l, ∀ d, o.dst = some d → d < N) → n0 ≤ nx → Rel C N E H (UU nx) a w →
    (∀ E' H' nx' C' a' w', n0 ≤ nx' → Rel C' N E' H' (UU nx') a' w' → StepR C H (UU n0) w C' H' w' → K E' H' nx' → Q .normal a' w') → wpListIn (FW ro) 0 P ops Q l a w

def vcSeq (P : Program) (ro : Option Nat) (N : Nat) (ds : List (Option Tmp)) : List Oper → AK → AK
  | [], K, E, H, nx => K E H nx
  | o :: l, K, E, H, nx =>
    match o.guard with
    | none => match evOp P (opv E) (get H) nx o.op with
      | some r => r.ok ∧ (r.nw = 0 ∨ nx + r.nw ≤ 1000) ∧ vcSeq P ro N ds l K (putO E o.dst r.val) (over H r.ps) (nx + r.nw)
      | none => VSem P ro N ds (o :: l) K E H nx
    | some (i, want) => match (ds[i]?).join with
      | some g => match (get E g).bind strip with
        | some (c, b) => match evOp P (opv (unE E (tmpsOf (opnds o.op)))) (get H) nx o.op with
          | some ⟨ok, val, [], 0⟩ => ((c ∧ b = want) → ok) ∧ unOk (c ∧ b = want) E (tmpsOf (opnds o.op)) ∧ val.bel (UU nx) ∧ vcSeq P ro N ds l K (putO E o.dst (.when (c ∧ b = want) val)) H nx
          | _ => VSem P ro N ds (o :: l) K E H nx
        | none => VSem P ro N ds (o :: l) K E H nx
      | none => VSem P ro N ds (o :: l) K E H nx

theorem vsem_step {l : List Oper} {K : AK} (h : VStep P ro N ds nx o E H nx fun _ => VSem P ro N ds l K) : VSem P ro N ds (o :: l) K E H nx := by
  intro ops n0 Q C a w hds hd hn hR hk
  subst hds
  obtain ⟨rt, rd, val, ps, nw, hnw, hl, hK⟩ := h
  have h1 := hl E H (UU nx) (fun _ _ => rfl) (fun _ _ => rfl) (fun _ h => h) (fun j h1 h2 h3 => by rcases h3 with h3 | h3 <;> omega) C a w (wpListIn (FW ro) 0 P ops Q l) Q hR fun C' a' w' hR' hs' => by
    rw [addU_UU] at hR'
    exact hK ops n0 Q C' a' w' rfl (fun o ho => hd o (List.mem_cons_of_mem _ ho)) (by omega) hR' fun E2 H2 nx2 C2 a2 w2 hn2 hR2 hs2 hK2 =>
      hk E2 H2 nx2 C2 a2 w2 hn2 hR2 ((hs'.fewerNames (UU_mono hn)).trans (fun _ h => h) hs2) hK2
  unfold GS at h1
  have hy : yieldD (ops.toList.map (·.dst)) a.tmps = yielded ops a.tmps := by funext j; rw [yielded_eq]
  rw [hy] at h1
  exact h1

theorem vsem_dst {l : List Oper} {K : AK} (h : (∀ o ∈ l, ∀ d, o.dst = some d → d < N) → VSem P ro N ds l K E H nx) : VSem P ro N ds l K E H nx :=
  fun ops n0 Q C a w hds hd hn hR hk => h hd ops n0 Q C a w hds hd hn hR hk

theorem vsem_vc : ∀ (l : List Oper) (K : AK) (E : Env) (H : Heap) (nx : Nat), vcSeq P ro N ds l K E H nx → VSem P ro N ds l K E H nx
  | [], K, E, H, nx, h => fun ops n0 Q C a w hds hd hn hR hk => hk E H nx C a w hn hR (StepR.refl C H _ w) h
  | o :: l, K, E, H, nx, h => vsem_dst fun hd => by
    have hN := hd o List.mem_cons_self
    simp only [vcSeq] at h
    split at h
    · rename_i hg
      split at h
      · rename_i r hr
        obtain ⟨hok, hnx, hrest⟩ := h
        exact vsem_step (vstep_of (lstep_ev hg hN hr hok) hnx (vsem_vc l K _ _ _ hrest))
      · exact h
    · rename_i i want hg
      split at h
      · rename_i g hgi
        split at h
        · rename_i c b hs
          obtain ⟨x, hx, hsx⟩ := Option.bind_eq_some_iff.1 hs
          split at h
          · rename_i ok val hr
            obtain ⟨hok, hun, hb, hrest⟩ := h
            exact vsem_step (vstep_of (lstep_guard (rt := tmpsOf (opnds o.op)) hN hg hgi hx hsx hun (fun hG => lstep_ev (o := { o with guard := none }) rfl hN hr (hok hG)) hb) (.inl rfl) (vsem_vc l K _ _ _ hrest))
          · exact h
        · exact h
      · exact h

/-- A call step within a region. -/
theorem vsem_call {l : List Oper} {K : AK} {rt rd : List Nat} {val : AV} {ps : Heap} {nw : Nat} (hl : (∀ d, o.dst = some d → d < N) → LStep P ro N ds o nx E H rt rd val ps nx nw) (hn : nw = 0 ∨ nx + nw ≤ 1000) (h : vcSeq P ro N ds l K (putO E o.dst val) (over H ps) (nx + nw)) :
    VSem P ro N ds (o :: l) K E H nx :=
  vsem_dst fun hd => vsem_step (vstep_of (hl (hd o List.mem_cons_self)) hn (vsem_vc l K _ _ _ h))

def dstOk (N : Nat) (l : List Oper) : Bool := l.all fun o => match o.dst with | some d => decide (d < N) | none => true
theorem dstOk_iff {l : List Oper} (h : dstOk N l = true) : ∀ o ∈ l, ∀ d, o.dst = some d → d < N := fun o ho d hd => by
  have := List.all_eq_true.1 h o ho
  rw [hd] at this
  simpa using this

theorem awp_region {n0 : Nat} {Q : AQ} {id : Nat} {ops : Array Oper} (hd : dstOk N ops.toList = true) (h : vcSeq P ro N (ops.toList.map (·.dst)) ops.toList (Q .normal) E H nx) : AWP P ro N n0 (.region id ops false) Q E H nx := by
  intro C a w Qc hn hR hK
  exact wpIn_region_list (vsem_vc ops.toList _ E H nx h ops n0 Qc C a w rfl (dstOk_iff hd) hn hR fun E' H' nx' C' a' w' hn' hR' hs' hk => hK .normal E' H' nx' C' a' w' hn' hR' hs' hk)

end
end Go.Abs
end

/- Abs14 -/
section
/- The abstract layer, fourteenth part: a region that draws its order. -/
set_option linter.unusedVariables false
set_option linter.unusedSimpArgs false
namespace Go.Abs
open Go

/-- What a step is. -/
structure St where
  rt : List Nat
  rd : List Nat
  wt : Option Nat
  al : Heap
  val : AV
  ps : Heap
  nx : Nat
  nw : Nat

def St.row (s : St) : Rec := ⟨s.rt, s.rd, s.wt, s.ps.map (·.1), s.al, s.ps⟩

/-- The steps of a region, one behind the other. -/
def Chain (P : Program) (ro : Option Nat) (N : Nat) (ds : List (Option Tmp)) (b0 : Nat) : List Oper → Env → Heap → Nat → List St → Env → Heap → Nat → Prop
  | [], E, H, nx, [], E', H', nx' => E' = E ∧ H' = H ∧ nx' = nx
  | o :: l, E, H, nx, s :: ss, E', H', nx' => s.nx = nx ∧ s.wt = o.dst ∧ (s.nw = 0 ∨ nx + s.nw ≤ 1000) ∧ LStepA P ro N ds o b0 E H s.rt s.rd s.al s.val s.ps nx s.nw ∧
      Chain P ro N ds b0 l (putO E o.dst s.val) (over H s.ps) (nx + s.nw) ss E' H' nx'
  | _, _, _, _, _, _, _, _ => False

/-- The states behind those steps that are done. -/
def stE (D : Nat → Bool) : Nat → List St → Env → Env
  | _, [], E => E
  | k, s :: r, E => stE D (k + 1) r (if D k = true then putO E s.wt s.val else E)
def stH (D : Nat → Bool) : Nat → List St → Heap → Heap
  | _, [], H => H
  | k, s :: r, H => stH D (k + 1) r (if D k = true then over H s.ps else H)
def stU (D : Nat → Bool) (U : Nat → Prop) (ss : List St) : Nat → Prop := fun m => U m ∨ ∃ k s, ss[k]? = some s ∧ D k = true ∧ s.nx ≤ m ∧ m < s.nx + s.nw

theorem putO_get {E E' : Env} {d : Option Nat} {x : AV} {t : Nat} (h : get E t = get E' t) : get (putO E d x) t = get (putO E' d x) t := by
  cases d with
  | none => exact h
  | some d => show get ((d, x) :: E) t = get ((d, x) :: E') t; rw [get_cons, get_cons, h]
theorem putO_get_ne {E : Env} {d : Option Nat} {x : AV} {t : Nat} (h : d ≠ some t) : get (putO E d x) t = get E t := by
  cases d with
  | none => rfl
  | some d => show get ((d, x) :: E) t = _; rw [get_cons, if_neg (fun e => h (by rw [e]))]
theorem over_get_eq {H H' ps : Heap} {m : Nat} (h : get H m = get H' m) : get (over H ps) m = get (over H' ps) m := by rw [over_get, over_get, h]
theorem over_get_ne {H ps : Heap} {m : Nat} (h : m ∉ ps.map (·.1)) : get (over H ps) m = get H m := by
  rw [over_get]
  cases hm : get ps m with
  | none => rfl
  | some o => exact absurd (List.mem_map.2 ⟨_, get_mem hm, rfl⟩) h

theorem stE_congr (t : Nat) (D D' : Nat → Bool) : ∀ (ss : List St) (k : Nat) (E E' : Env), get E t = get E' t → (∀ j s, ss[j]? = some s → s.wt = some t → D (k + j) = D' (k + j)) → get (stE D k ss E) t = get (stE D' k ss E') t
  | [], k, E, E', h, _ => h
  | s :: r, k, E, E', h, hD => by
    unfold stE
    refine stE_congr t D D' r (k + 1) _ _ ?_ fun j s' hj hw => by have := hD (j + 1) s' (by simpa using hj) hw; rwa [show k + 1 + j = k + (j + 1) by omega]
    by_cases hw : s.wt = some t
    · have := hD 0 s rfl hw
      rw [Nat.add_zero] at this
      rw [this]
      split
      · exact putO_get h
      · exact h
    · have h1 : get (if D k = true then putO E s.wt s.val else E) t = get E t := by
        split
        · exact putO_get_ne hw
        · rfl
      have h2 : get (if D' k = true then putO E' s.wt s.val else E') t = get E' t := by
        split
        · exact putO_get_ne hw
        · rfl
      rw [h1, h2, h]

theorem stH_congr (m : Nat) (D D' : Nat → Bool) : ∀ (ss : List St) (k : Nat) (H H' : Heap), get H m = get H' m → (∀ j s, ss[j]? = some s → m ∈ s.ps.map (·.1) → D (k + j) = D' (k + j)) → get (stH D k ss H) m = get (stH D' k ss H') m
  | [], k, H, H', h, _ => h
  | s :: r, k, H, H', h, hD => by
    unfold stH
    refine stH_congr m D D' r (k + 1) _ _ ?_ fun j s' hj hw => by have := hD (j + 1) s' (by simpa using hj) hw; rwa [show k + 1 + j = k + (j + 1) by omega]
    by_cases hw : m ∈ s.ps.map (·.1)
    · have := hD 0 s rfl hw
      rw [Nat.add_zero] at this
      rw [this]
      split
      · exact over_get_eq h
      · exact h
    · have h1 : get (if D k = true then over H s.ps else H) m = get H m := by
        split
        · exact over_get_ne hw
        · rfl
      have h2 : get (if D' k = true then over H' s.ps else H') m = get H' m := by
        split
        · exact over_get_ne hw
        · rfl
      rw [h1, h2, h]

/-- The last that is done counts. -/
theorem stE_last (t : Nat) (D : Nat → Bool) (i : Nat) (si : St) (hD : D i = true) (hw : si.wt = some t) : ∀ (ss : List St) (k : Nat) (E : Env), k ≤ i → ss[i - k]? = some si → (∀ j s, ss[j]? = some s → s.wt = some t → i < k + j → D (k + j) = false) → get (stE D k ss E) t = some si.val
  | [], k, E, _, h, _ => by simp at h
  | s :: r, k, E, hk, h, hl => by
    unfold stE
    by_cases e : k = i
    · subst e
      simp only [Nat.sub_self, List.getElem?_cons_zero, Option.some.injEq] at h
      subst h
      rw [hD, if_pos rfl]
      have h1 := stE_congr t D (fun _ => false) r (k + 1) (putO E s.wt s.val) (putO E s.wt s.val) rfl fun j s' hj hw' => by
        have := hl (j + 1) s' (by simpa using hj) hw' (by omega)
        rwa [show k + 1 + j = k + (j + 1) by omega]
      rw [h1]
      have h2 : ∀ (r : List St) (q : Nat) (E : Env), stE (fun _ => false) q r E = E := by
        intro r
        induction r with
        | nil => intro q E; rfl
        | cons a r ih => intro q E; unfold stE; simp [ih]
      rw [h2, hw]
      show get ((t, s.val) :: E) t = _
      rw [get_cons, if_pos rfl]
    · refine stE_last t D i si hD hw r (k + 1) _ (by omega) ?_ fun j s' hj hw' hlt => ?_
      · rw [show i - k = (i - (k + 1)) + 1 by omega] at h
        simpa using h
      · have := hl (j + 1) s' (by simpa using hj) hw' (by omega)
        rwa [show k + 1 + j = k + (j + 1) by omega]

/-- A part of the steps, and what the rest leaves. -/
theorem stH_split (m : Nat) (D p : Nat → Bool) (Sx : Option AObj → Prop) : ∀ (ss : List St) (k : Nat) (H H' : Heap), (∀ j sj, ss[j]? = some sj → D (k + j) = true → p (k + j) = false → m ∈ sj.ps.map (·.1) → Sx (get sj.ps m)) →
    (get H m = get H' m ∨ Sx (get H m)) → get (stH D k ss H) m = get (stH (fun j => D j && p j) k ss H') m ∨ Sx (get (stH D k ss H) m)
  | [], k, H, H', _, h => h
  | s :: r, k, H, H', hS, h => by
    have hover : ∀ G : Heap, m ∈ s.ps.map (·.1) → get (over G s.ps) m = get s.ps m := fun G hm => by
      rw [over_get]
      obtain ⟨o, ho⟩ : ∃ o, get s.ps m = some o := by
        clear hS
        generalize s.ps = ps at hm
        induction ps with
        | nil => simp at hm
        | cons q r ih =>
          obtain ⟨i, o⟩ := q
          unfold Abs.get
          split
          · exact ⟨o, rfl⟩
          · rename_i e
            simp only [List.map_cons, List.mem_cons] at hm
            exact ih (hm.resolve_left (fun e' => e e'.symm))
      rw [ho]
    unfold stH
    refine stH_split m D p Sx r (k + 1) _ _ (fun j sj hj hD hp hm => hS (j + 1) sj (by simpa using hj) (by rwa [show k + (j + 1) = k + 1 + j by omega]) (by rwa [show k + (j + 1) = k + 1 + j by omega]) hm) ?_
    by_cases hD : D k = true
    · rw [if_pos hD]
      by_cases hm : m ∈ s.ps.map (·.1)
      · cases hp : p k with
        | true =>
          rw [if_pos (by simp [hD])]
          exact .inl (by rw [hover H hm, hover H' hm])
        | false =>
          exact .inr (by rw [hover H hm]; exact hS 0 s rfl hD hp hm)
      · cases hp : p k with
        | true => rw [if_pos (by simp [hD])]; rw [over_get_ne hm, over_get_ne hm]; exact h
        | false => rw [if_neg (by simp)]; rw [over_get_ne hm]; exact h
    · rw [if_neg hD, if_neg (by simp [hD])]
      exact h

theorem stH_last (m : Nat) (D : Nat → Bool) (i : Nat) (si : St) (hD : D i = true) (hw : m ∈ si.ps.map (·.1)) : ∀ (ss : List St) (k : Nat) (H : Heap), k ≤ i → ss[i - k]? = some si → (∀ j s, ss[j]? = some s → m ∈ s.ps.map (·.1) → i < k + j → D (k + j) = false) → get (stH D k ss H) m = get si.ps m
  | [], k, H, _, h, _ => by simp at h
  | s :: r, k, H, hk, h, hl => by
    unfold stH
    by_cases e : k = i
    · subst e
      simp only [Nat.sub_self, List.getElem?_cons_zero, Option.some.injEq] at h
      subst h
      rw [hD, if_pos rfl]
      have h1 := stH_congr m D (fun _ => false) r (k + 1) (over H s.ps) (over H s.ps) rfl fun j s' hj hw' => by
        have := hl (j + 1) s' (by simpa using hj) hw' (by omega)
        rwa [show k + 1 + j = k + (j + 1) by omega]
      rw [h1]
      have h2 : ∀ (r : List St) (q : Nat) (H : Heap), stH (fun _ => false) q r H = H := by
        intro r
        induction r with
        | nil => intro q H; rfl
        | cons a r ih => intro q H; unfold stH; simp [ih]
      rw [h2, over_get]
      have hex : ∃ o, get s.ps m = some o := by
        clear h1 hl h2 hk hD
        generalize s.ps = ps at hw
        induction ps with
        | nil => simp at hw
        | cons p r ih =>
          obtain ⟨i, o⟩ := p
          rw [get_cons]
          by_cases e : i = m
          · exact ⟨o, if_pos e⟩
          · rw [if_neg e]
            refine ih ?_
            simp only [List.map_cons, List.mem_cons] at hw
            exact hw.resolve_left (fun e' => e e'.symm)
      obtain ⟨o, ho⟩ := hex
      rw [ho]
    · refine stH_last m D i si hD hw r (k + 1) _ (by omega) ?_ fun j s' hj hw' hlt => ?_
      · rw [show i - k = (i - (k + 1)) + 1 by omega] at h
        simpa using h
      · have := hl (j + 1) s' (by simpa using hj) hw' (by omega)
        rwa [show k + 1 + j = k + (j + 1) by omega]

section
variable {P : Program} {ro : Option Nat} {N : Nat} {ds : List (Option Tmp)} {b0 : Nat}

/-- What a chain says of one of its steps. -/
theorem Chain.at' : ∀ (l : List Oper) (ss : List St) (E : Env) (H : Heap) (nx : Nat) (E' : Env) (H' : Heap) (nx' : Nat) (k : Nat), Chain P ro N ds b0 l E H nx ss E' H' nx' → ss.length = l.length ∧ nx ≤ nx' ∧
    (∀ (i : Nat) (o : Oper) (s : St), l[i]? = some o → ss[i]? = some s → s.wt = o.dst ∧ nx ≤ s.nx ∧ s.nx + s.nw ≤ nx' ∧ (s.nw = 0 ∨ s.nx + s.nw ≤ 1000) ∧
      LStepA P ro N ds o b0 (stE (fun j => decide (j < k + i)) k ss E) (stH (fun j => decide (j < k + i)) k ss H) s.rt s.rd s.al s.val s.ps s.nx s.nw) ∧
    (∀ (i j : Nat) (s s' : St), ss[i]? = some s → ss[j]? = some s' → i < j → s.nx + s.nw ≤ s'.nx) ∧
    E' = stE (fun _ => true) k ss E ∧ H' = stH (fun _ => true) k ss H ∧ (∀ m, nx ≤ m → m < nx' → ∃ (i : Nat) (s : St), ss[i]? = some s ∧ s.nx ≤ m ∧ m < s.nx + s.nw)
  | [], [], E, H, nx, E', H', nx', k, ⟨h1, h2, h3⟩ => ⟨rfl, by omega, fun i o s hi => by simp at hi, fun i j s s' hi => by simp at hi, h1, h2, fun m h4 h5 => by omega⟩
  | [], s :: ss, E, H, nx, E', H', nx', k, h => by simp [Chain] at h
  | o :: l, [], E, H, nx, E', H', nx', k, h => by simp [Chain] at h
  | o :: l, s :: ss, E, H, nx, E', H', nx', k, h => by
    obtain ⟨h1, h2, h3, h4, h5⟩ := h
    obtain ⟨a1, a2, a3, a4, a5, a6, a7⟩ := Chain.at' l ss _ _ _ E' H' nx' (k + 1) h5
    have hfalse : ∀ (r : List St) (q : Nat) (E : Env), k ≤ q → stE (fun j => decide (j < k)) q r E = E := by
      intro r
      induction r with
      | nil => intro q E _; rfl
      | cons a r ih => intro q E hq; unfold stE; rw [if_neg (by simp; omega)]; exact ih (q + 1) E (by omega)
    have hfalseH : ∀ (r : List St) (q : Nat) (H : Heap), k ≤ q → stH (fun j => decide (j < k)) q r H = H := by
      intro r
      induction r with
      | nil => intro q H _; rfl
      | cons a r ih => intro q H hq; unfold stH; rw [if_neg (by simp; omega)]; exact ih (q + 1) H (by omega)
    refine ⟨by simp [a1], by omega, fun i o' s' hi hs => ?_, fun i j s1 s2 hi hj hij => ?_, ?_, ?_, fun m h6 h7 => ?_⟩
    · cases i with
      | zero =>
        simp only [List.getElem?_cons_zero, Option.some.injEq] at hi hs
        subst hi; subst hs
        refine ⟨h2, by omega, by omega, by rw [h1]; exact h3, ?_⟩
        rw [Nat.add_zero, hfalse _ _ _ (Nat.le_refl _), hfalseH _ _ _ (Nat.le_refl _), h1]
        exact h4
      | succ i =>
        obtain ⟨b1, b2, b3, b4, b5⟩ := a3 i o' s' (by simpa using hi) (by simpa using hs)
        refine ⟨b1, by omega, b3, b4, ?_⟩
        rw [show k + (i + 1) = k + 1 + i by omega]
        unfold stE stH
        rw [if_pos (by simp; omega), if_pos (by simp; omega), h2]
        exact b5
    · cases j with
      | zero => omega
      | succ j =>
        cases i with
        | zero =>
          simp only [List.getElem?_cons_zero, Option.some.injEq] at hi
          subst hi
          have hj' : ss[j]? = some s2 := by simpa using hj
          have hjl := (List.getElem?_eq_some_iff.1 hj').1
          obtain ⟨_, b2, _⟩ := a3 j (l[j]'(by omega)) s2 (List.getElem?_eq_getElem (by omega)) hj'
          omega
        | succ i => exact a4 i j s1 s2 (by simpa using hi) (by simpa using hj) (by omega)
    · unfold stE; rw [if_pos rfl, h2]; exact a5
    · unfold stH; rw [if_pos rfl]; exact a6
    · rcases Nat.lt_or_ge m (nx + s.nw) with h8 | h8
      · exact ⟨0, s, rfl, by omega, by omega⟩
      · obtain ⟨i, s', h9, h10⟩ := a7 m h8 h7
        exact ⟨i + 1, s', by simpa using h9, h10⟩

end
end Go.Abs
end

/- Abs15 -/
section
/- The abstract layer, fifteenth part: a region that draws its order comes to what its operations come to in order. -/
set_option linter.unusedVariables false
set_option linter.unusedSimpArgs false
namespace Go.Abs
open Go

/-- Do two steps touch the same thing, one of them writing? -/
def confl (r s : Rec) : Bool :=
  (match r.wt with | some t => s.rt.contains t || s.wt == some t | none => false) || (match s.wt with | some t => r.rt.contains t | none => false) ||
  r.wo.any (fun m => s.ro.contains m || s.wo.contains m) || s.wo.any (fun m => r.ro.contains m)

def ancStep (acc : List (List Nat)) (es : List Edge) : List Nat := (es.filter (Region.binds .any)).flatMap fun e => e.on :: (acc[e.on]?).getD []
def ancs : List (List Edge) → List (List Nat) → List (List Nat)
  | [], acc => acc
  | es :: r, acc => ancs r (acc ++ [ancStep acc es])

/-- The same, but for what the later one writes and the earlier one reads. -/
def conflW (r s : Rec) : Bool :=
  (match r.wt with | some t => s.rt.contains t || s.wt == some t | none => false) || (match s.wt with | some t => r.rt.contains t | none => false) ||
  r.wo.any (fun m => s.ro.contains m || s.wo.contains m)

/-- Steps that touch the same thing have their order; but what x.2 writes x.1 may read before or after. -/
def indepX (x : Nat × Nat) (afts : List (List Edge)) (rs : List Rec) : Bool :=
  (List.range afts.length).all (fun j => ((afts[j]?).getD []).all fun e => !Region.binds .any e || decide (e.on < j)) &&
  (List.range rs.length).all (fun j => (List.range j).all fun i => match rs[i]?, rs[j]? with
    | some r, some s => !(if x = (i, j) then conflW r s else confl r s) || (((ancs afts [])[j]?).getD []).contains i
    | _, _ => true)

/-- Steps that touch the same thing have their order. -/
def indep (afts : List (List Edge)) (rs : List Rec) : Bool :=
  (List.range afts.length).all (fun j => ((afts[j]?).getD []).all fun e => !Region.binds .any e || decide (e.on < j)) &&
  (List.range rs.length).all (fun j => (List.range j).all fun i => match rs[i]?, rs[j]? with
    | some r, some s => !confl r s || (((ancs afts [])[j]?).getD []).contains i
    | _, _ => true)

theorem ancs_length : ∀ (l : List (List Edge)) (acc : List (List Nat)), (ancs l acc).length = acc.length + l.length
  | [], acc => rfl
  | es :: r, acc => by rw [ancs, ancs_length r]; simp; omega
theorem ancs_get : ∀ (l : List (List Edge)) (acc : List (List Nat)) (j : Nat), j < acc.length → (ancs l acc)[j]? = acc[j]?
  | [], acc, j, _ => rfl
  | es :: r, acc, j, h => by
    rw [ancs, ancs_get r _ j (by simp; omega), List.getElem?_append_left h]

/-- What is done has what it leans on done. -/
theorem ancs_closed {D : Nat → Bool} : ∀ (l : List (List Edge)) (acc : List (List Nat)), (∀ j es e, l[j]? = some es → D (acc.length + j) = true → e ∈ es → Region.binds .any e = true → D e.on = true) →
    (∀ j as i, acc[j]? = some as → D j = true → i ∈ as → D i = true) → ∀ j as i, (ancs l acc)[j]? = some as → D j = true → i ∈ as → D i = true
  | [], acc, _, h2 => h2
  | es :: r, acc, h1, h2 => by
    rw [ancs]
    refine ancs_closed r _ (fun j es' e hj hD he hb => h1 (j + 1) es' e (by simpa using hj) (by rw [List.length_append] at hD; rw [show acc.length + (j + 1) = acc.length + [ancStep acc es].length + j by simp; omega]; exact hD) he hb) fun j as i hj hD hi => ?_
    rcases Nat.lt_or_ge j acc.length with h | h
    · rw [List.getElem?_append_left h] at hj
      exact h2 j as i hj hD hi
    · rw [List.getElem?_append_right h] at hj
      have hj0 : j = acc.length := by
        have := (List.getElem?_eq_some_iff.1 hj).1
        simp at this
        omega
      subst hj0
      simp only [Nat.sub_self, List.getElem?_cons_zero, Option.some.injEq] at hj
      subst hj
      unfold ancStep at hi
      obtain ⟨e, he, hie⟩ := List.mem_flatMap.1 hi
      obtain ⟨he1, he2⟩ := List.mem_filter.1 he
      have hDe := h1 0 es e rfl hD he1 he2
      rcases List.mem_cons.1 hie with e' | e'
      · rw [e']; exact hDe
      · cases hg : acc[e.on]? with
        | none => rw [hg] at e'; cases e'
        | some as' => rw [hg] at e'; exact h2 e.on as' i hg hDe e'

theorem unl_lt {p q : Nat → Bool} {i : Nat} (hp : p i = true) (hq : q i = false) (hi : ∀ j, q j = true → p j = true) : ∀ l : List Nat, i ∈ l → (l.filter q).length < (l.filter p).length := by
  have hle : ∀ l : List Nat, (l.filter q).length ≤ (l.filter p).length := by
    intro l
    induction l with
    | nil => simp
    | cons a l ih =>
      by_cases ha : q a = true
      · simp [ha, hi a ha]; exact ih
      · by_cases hb : p a = true
        · simp [ha, hb]; omega
        · simp [ha, hb]; exact ih
  intro l
  induction l with
  | nil => intro h; cases h
  | cons a l ih =>
    intro h
    by_cases e : a = i
    · subst e
      have := hle l
      simp [hp, hq]
      omega
    · have h' : i ∈ l := by
        rcases List.mem_cons.1 h with e' | e'
        · exact absurd e'.symm e
        · exact e'
      have := ih h'
      by_cases ha : q a = true
      · simp [ha, hi a ha]; exact this
      · by_cases hb : p a = true
        · simp [ha, hb]; omega
        · simp [ha, hb]; exact this

section
variable {P : Program} {ro : Option Nat} {N n0 : Nat}

theorem rel_env {C : Conc} {E E' : Env} {H : Heap} {U : Nat → Prop} {a : Act} {w : World} (h : Rel C N E H U a w) (he : ∀ t, get E' t = get E t) : Rel C N E' H U a w := h.fewer fun t x ht => by rw [← he]; exact ht

/-- The course of a region that draws. -/
theorem draw_any {x : Nat × Nat} {ops : Array Oper} {ss : List St} {E : Env} {H : Heap} {nx : Nat} {E' : Env} {H' : Heap} {nx' : Nat} (hd : ∀ o ∈ ops.toList, ∀ d, o.dst = some d → d < N) (hn0 : n0 ≤ nx)
    (hC : Chain P ro N (ops.toList.map (·.dst)) nx ops.toList E H nx ss E' H' nx') (hI : indepX x (ops.toList.map (·.after.toList)) (ss.map St.row) = true)
    (hX : ∀ s s', ss[x.1]? = some s → ss[x.2]? = some s' → x.1 < x.2 → ∀ m, m ∈ s'.ps.map (·.1) → m ∈ s.rd → get s'.ps m = get s.al m) {Q : Exit → Act → World → Prop} {C0 : Conc} {w0 : World}
    (hk : ∀ C a w, Rel C N E' H' (UU nx') a w → StepR C0 H (UU n0) w0 C H' w → Q .normal a w) :
    ∀ (fuel : Nat) (listed : Array Bool) (C : Conc) (a : Act) (w : World), listed.size = ops.size →
      (∀ j o e, ops[j]? = some o → listed.getD j false = true → e ∈ o.after → Region.binds .any e = true → listed.getD e.on false = true) →
      Rel C N (stE (fun j => listed.getD j false) 0 ss E) (stH (fun j => listed.getD j false) 0 ss H) (stU (fun j => listed.getD j false) (UU nx) ss) a w →
      StepR C0 H (UU n0) w0 C (stH (fun j => listed.getD j false) 0 ss H) w →
      ((List.range ops.size).filter (fun j => !listed.getD j true)).length ≤ fuel → wpAnyIn (FW ro) 0 P .any ops Q fuel listed a w := by
  obtain ⟨c1, c2, c3, c4, c5, c6, c7⟩ := Chain.at' _ _ _ _ _ _ _ _ 0 hC
  simp only [indepX, Bool.and_eq_true] at hI
  obtain ⟨hI1, hI2⟩ := hI
  have hlen : ss.length = ops.size := by simpa using c1
  have hedge : ∀ j o e, ops[j]? = some o → e ∈ o.after → Region.binds .any e = true → e.on < j := fun j o e hj he hb => by
    have hjl := (Array.getElem?_eq_some_iff.1 hj).1
    have h1 := List.all_eq_true.1 hI1 j (List.mem_range.2 (by simpa using hjl))
    rw [List.getElem?_map, Array.getElem?_toList, hj] at h1
    have h2 := List.all_eq_true.1 h1 e (by simpa using he)
    simpa [hb] using h2
  have hconf0 : ∀ (i j : Nat) (si sj : St), i < j → ss[i]? = some si → ss[j]? = some sj → (if x = (i, j) then conflW si.row sj.row else confl si.row sj.row) = true → i ∈ ((ancs (ops.toList.map (·.after.toList)) [])[j]?).getD [] := fun i j si sj hij hi hj hc => by
    have hjl := (List.getElem?_eq_some_iff.1 hj).1
    have h1 := List.all_eq_true.1 (List.all_eq_true.1 hI2 j (List.mem_range.2 (by simpa using hjl))) i (List.mem_range.2 hij)
    rw [List.getElem?_map, List.getElem?_map, hi, hj] at h1
    simp only [Option.map_some, hc, Bool.not_true, Bool.false_or, List.contains_iff_mem] at h1
    exact h1
  have hconf : ∀ (i j : Nat) (si sj : St), i < j → ss[i]? = some si → ss[j]? = some sj → conflW si.row sj.row = true → i ∈ ((ancs (ops.toList.map (·.after.toList)) [])[j]?).getD [] := fun i j si sj hij hi hj hc => hconf0 i j si sj hij hi hj (by
    split
    · exact hc
    · simp only [confl, conflW, Bool.or_eq_true] at hc ⊢
      exact .inl hc)
  have hconfR : ∀ (i j : Nat) (si sj : St), i < j → x ≠ (i, j) → ss[i]? = some si → ss[j]? = some sj → confl si.row sj.row = true → i ∈ ((ancs (ops.toList.map (·.after.toList)) [])[j]?).getD [] := fun i j si sj hij hx hi hj hc => hconf0 i j si sj hij hi hj (by rw [if_neg hx]; exact hc)
  have hfin : ∀ (listed : Array Bool) (C : Conc) (a : Act) (w : World), (∀ j, j < ops.size → listed.getD j false = true) →
      Rel C N (stE (fun j => listed.getD j false) 0 ss E) (stH (fun j => listed.getD j false) 0 ss H) (stU (fun j => listed.getD j false) (UU nx) ss) a w →
      StepR C0 H (UU n0) w0 C (stH (fun j => listed.getD j false) 0 ss H) w → Q .normal a w := fun listed C a w hall hR hs => by
    have hE : ∀ t, get E' t = get (stE (fun j => listed.getD j false) 0 ss E) t := fun t => by
      rw [c5]
      exact stE_congr t _ _ ss 0 E E rfl fun j s hj _ => by
        have := (List.getElem?_eq_some_iff.1 hj).1
        rw [Nat.zero_add, hall j (by omega)]
    have hH : ∀ m, get H' m = get (stH (fun j => listed.getD j false) 0 ss H) m := fun m => by
      rw [c6]
      exact stH_congr m _ _ ss 0 H H rfl fun j s hj _ => by
        have := (List.getElem?_eq_some_iff.1 hj).1
        rw [Nat.zero_add, hall j (by omega)]
    have hU : stU (fun j => listed.getD j false) (UU nx) ss = UU nx' := by
      funext m
      refine propext ⟨?_, fun hm => ?_⟩
      · rintro (h | ⟨k, s, hk, _, h1, h2⟩)
        · exact UU_mono c2 m h
        · have hkl := (List.getElem?_eq_some_iff.1 hk).1
          obtain ⟨_, _, h4, _⟩ := c3 k (ops.toList[k]'(by simp; omega)) s (List.getElem?_eq_getElem (by simp; omega)) hk
          exact .inl (by omega)
      · rcases hm with hm | hm
        · rcases Nat.lt_or_ge m nx with h | h
          · exact .inl (.inl h)
          · obtain ⟨i, s, hi, h1, h2⟩ := c7 m h hm
            have hil := (List.getElem?_eq_some_iff.1 hi).1
            exact .inr ⟨i, s, hi, hall i (by omega), h1, h2⟩
        · exact .inl (.inr hm)
    rw [hU] at hR
    exact hk C a w ((rel_env hR hE).ext hH) (hs.ext hH)
  have hnone : ∀ (listed : Array Bool), listed.size = ops.size → Region.ready .any ops listed = [] → ∀ j, j < ops.size → listed.getD j false = true := fun listed hsz hr j => by
    induction j using Nat.strongRecOn with
    | _ j ih =>
      intro hj
      cases hl : listed.getD j false with
      | true => rfl
      | false =>
        exfalso
        have hmem : j ∈ Region.ready .any ops listed := by
          unfold Region.ready
          refine List.mem_filter.2 ⟨List.mem_range.2 hj, ?_⟩
          have h1 : listed.getD j true = false := by
            rw [Array.getD_eq_getD_getElem?, Array.getElem?_eq_getElem (by omega)] at hl ⊢
            exact hl
          have h2 : ops[j]? = some ops[j] := Array.getElem?_eq_getElem hj
          simp only [h1, Bool.not_false, Bool.true_and, h2, Option.map_some, Option.getD_some, Array.all_eq_true']
          intro e he
          by_cases hb : Region.binds .any e = true
          · have h3 := hedge j _ e h2 he hb
            rw [ih e.on h3 (by omega)]
            simp
          · simp [hb]
        rw [hr] at hmem
        cases hmem
  intro fuel
  induction fuel with
  | zero =>
    intro listed C a w hsz hcl hR hs hf
    have hall : ∀ j, j < ops.size → listed.getD j false = true := fun j hj => by
      have h0 := List.eq_nil_of_length_eq_zero (Nat.le_zero.1 hf)
      have := List.filter_eq_nil_iff.1 h0 j (List.mem_range.2 hj)
      rw [Array.getD_eq_getD_getElem?, Array.getElem?_eq_getElem (by omega)] at this ⊢
      simpa using this
    refine ⟨?_, hfin listed C a w hall hR hs⟩
    unfold Region.ready
    refine List.filter_eq_nil_iff.2 fun j hj => ?_
    have hjl := List.mem_range.1 hj
    have := hall j hjl
    rw [Array.getD_eq_getD_getElem?, Array.getElem?_eq_getElem (by omega)] at this
    rw [Array.getD_eq_getD_getElem? (d := true), Array.getElem?_eq_getElem (by omega)]
    simp only [Option.getD_some] at this ⊢
    simp [this]
  | succ fuel ih =>
    intro listed C a w hsz hcl hR hs hf
    refine ⟨fun hr => hfin listed C a w (hnone listed hsz hr) hR hs, fun i hi => ?_⟩
    obtain ⟨hi1, hi2⟩ := List.mem_filter.1 hi
    have hil := List.mem_range.1 hi1
    have hoi : ops[i]? = some ops[i] := Array.getElem?_eq_getElem hil
    simp only [hoi, Option.map_some, Option.getD_some, Bool.and_eq_true, Bool.not_eq_true', Array.all_eq_true'] at hi2
    obtain ⟨hli, hpre⟩ := hi2
    have hDi : listed.getD i false = false := by
      rw [Array.getD_eq_getD_getElem?, Array.getElem?_eq_getElem (by omega)] at hli ⊢
      exact hli
    have hsi : ss[i]? = some (ss[i]'(by omega)) := List.getElem?_eq_getElem (by omega)
    obtain ⟨d1, d2, d3, d4, d5⟩ := c3 i ops[i] (ss[i]'(by omega)) (by rw [Array.getElem?_toList]; exact hoi) hsi
    generalize ss[i]'(by omega) = s at hsi d1 d2 d3 d4 d5
    -- what is done
    have hclo : ∀ j as q, (ancs (ops.toList.map (·.after.toList)) [])[j]? = some as → listed.getD j false = true → q ∈ as → listed.getD q false = true :=
      ancs_closed (D := fun j => listed.getD j false) _ _ (fun j es e hj hD he hb => by
        rw [List.getElem?_map, Array.getElem?_toList] at hj
        obtain ⟨o, ho, rfl⟩ := Option.map_eq_some_iff.1 hj
        exact hcl j o e ho (by simpa using hD) (by simpa using he) hb) (fun j as i hj => by simp at hj)
    have hprei : ∀ q, q ∈ ((ancs (ops.toList.map (·.after.toList)) [])[i]?).getD [] → listed.getD q false = true := by
      -- as if i were done
      intro q hq
      have hq' : (fun j => listed.getD j false || j == i) q = true := by
        have h1 := ancs_closed (D := fun j => listed.getD j false || j == i) (ops.toList.map (·.after.toList)) [] (fun j es e hj hD he hb => by
          rw [List.getElem?_map, Array.getElem?_toList] at hj
          obtain ⟨o, ho, rfl⟩ := Option.map_eq_some_iff.1 hj
          simp only [List.length_nil, Nat.zero_add, Bool.or_eq_true, beq_iff_eq] at hD
          rcases hD with hD | hD
          · simp [hcl j o e ho hD (by simpa using he) hb]
          · subst hD
            rw [hoi] at ho
            cases ho
            have := hpre e (by simpa using he)
            rw [hb] at this
            simp at this
            simp [this]) (fun j as i hj => by simp at hj) i
        cases hA : (ancs (ops.toList.map (·.after.toList)) [])[i]? with
        | none => rw [hA] at hq; cases hq
        | some as => rw [hA] at hq; exact h1 as q hA (by simp) hq
      simp only [Bool.or_eq_true, beq_iff_eq] at hq'
      rcases hq' with h | h
      · exact h
      · exfalso
        -- i is not among its own
        subst h
        have hlt : ∀ (l : List (List Edge)) (acc : List (List Nat)), (∀ j es e, l[j]? = some es → e ∈ es → Region.binds .any e = true → e.on < acc.length + j) → (∀ (j : Nat) (as : List Nat) (r : Nat), acc[j]? = some as → r ∈ as → r < j) →
            ∀ (j : Nat) (as : List Nat) (r : Nat), (ancs l acc)[j]? = some as → r ∈ as → r < j := by
          intro l
          induction l with
          | nil => intro acc _ h; exact h
          | cons es l ih =>
            intro acc h1 h2
            rw [ancs]
            refine ih _ (fun j es' e hj he hb => by have := h1 (j + 1) es' e (by simpa using hj) he hb; simp; omega) fun j as r hj hr => ?_
            rcases Nat.lt_or_ge j acc.length with h | h
            · rw [List.getElem?_append_left h] at hj
              exact h2 j as r hj hr
            · rw [List.getElem?_append_right h] at hj
              have hj0 : j = acc.length := by
                have := (List.getElem?_eq_some_iff.1 hj).1
                simp at this
                omega
              subst hj0
              simp only [Nat.sub_self, List.getElem?_cons_zero, Option.some.injEq] at hj
              subst hj
              unfold ancStep at hr
              obtain ⟨e, he, hre⟩ := List.mem_flatMap.1 hr
              obtain ⟨he1, he2⟩ := List.mem_filter.1 he
              have hlt := h1 0 es e rfl he1 he2
              rcases List.mem_cons.1 hre with e' | e'
              · omega
              · cases hg : acc[e.on]? with
                | none => rw [hg] at e'; cases e'
                | some as' =>
                  rw [hg] at e'
                  have := h2 e.on as' r hg e'
                  omega
        cases hA : (ancs (ops.toList.map (·.after.toList)) [])[q]? with
        | none => rw [hA] at hq; cases hq
        | some as =>
          rw [hA] at hq
          have := hlt _ _ (fun j es e hj he hb => by
            rw [List.getElem?_map, Array.getElem?_toList] at hj
            obtain ⟨o, ho, rfl⟩ := Option.map_eq_some_iff.1 hj
            have := hedge j o e ho (by simpa using he) hb
            simp; omega) (fun j as r hj => by simp at hj) q as q hA hq
          omega
    -- before: what touches what i touches is done exactly if it stands before i
    have hbefore : ∀ (j : Nat) (sj : St), ss[j]? = some sj → conflW sj.row s.row = true → j < i → listed.getD j false = true := fun j sj hj hc hlt => hprei j (hconf j i sj s hlt hj hsi hc)
    have hafter : ∀ (j : Nat) (sj : St), ss[j]? = some sj → conflW s.row sj.row = true → i < j → listed.getD j false = false := fun j sj hj hc hlt => by
      cases hl : listed.getD j false with
      | false => rfl
      | true =>
        have h1 := hconf i j s sj hlt hsi hj hc
        cases hA : (ancs (ops.toList.map (·.after.toList)) [])[j]? with
        | none => rw [hA] at h1; cases h1
        | some as =>
          rw [hA] at h1
          have := hclo j as i hA hl h1
          rw [hDi] at this
          cases this
    have hafterR : ∀ (j : Nat) (sj : St), ss[j]? = some sj → confl s.row sj.row = true → i < j → x ≠ (i, j) → listed.getD j false = false := fun j sj hj hc hlt hx => by
      cases hl : listed.getD j false with
      | false => rfl
      | true =>
        have h1 := hconfR i j s sj hlt hx hsi hj hc
        cases hA : (ancs (ops.toList.map (·.after.toList)) [])[j]? with
        | none => rw [hA] at h1; cases h1
        | some as =>
          rw [hA] at h1
          have := hclo j as i hA hl h1
          rw [hDi] at this
          cases this
    have hrt : ∀ t ∈ s.rt, get (stE (fun j => listed.getD j false) 0 ss E) t = get (stE (fun j => decide (j < 0 + i)) 0 ss E) t := fun t ht => stE_congr t _ _ ss 0 E E rfl fun j sj hj hw => by
      simp only [Nat.zero_add]
      rcases Nat.lt_trichotomy j i with h | h | h
      · rw [hbefore j sj hj (by simp [conflW, St.row, hw, ht]) h]; simp [h]
      · subst h; rw [hDi]; simp
      · rw [hafter j sj hj (by simp [conflW, St.row, hw, ht]) h]; simp; omega
    have hrd : ∀ m ∈ s.rd, get (stH (fun j => listed.getD j false) 0 ss H) m = get (stH (fun j => decide (j < 0 + i)) 0 ss H) m ∨ ∃ y, get s.al m = some y ∧ get (stH (fun j => listed.getD j false) 0 ss H) m = some y := fun m hm => by
      have h1 := stH_split m (fun j => listed.getD j false) (fun j => decide (j < i)) (fun q => ∃ y, get s.al m = some y ∧ q = some y) ss 0 H H (fun j sj hj hD hp hw => by
        simp only [Nat.zero_add] at hD hp
        have hge : i ≤ j := by simpa using hp
        rcases Nat.lt_or_eq_of_le hge with hlt | he
        · by_cases hx : x = (i, j)
          · have h2 := hX s sj (by rw [hx]; exact hsi) (by rw [hx]; exact hj) (by rw [hx]; exact hlt) m hw hm
            obtain ⟨o, ho⟩ : ∃ o, get sj.ps m = some o := by
              generalize sj.ps = ps at hw
              induction ps with
              | nil => simp at hw
              | cons q r ih =>
                obtain ⟨i, o⟩ := q
                unfold Abs.get
                split
                · exact ⟨o, rfl⟩
                · rename_i e
                  simp only [List.map_cons, List.mem_cons] at hw
                  exact ih (hw.resolve_left (fun e' => e e'.symm))
            exact ⟨o, by rw [← h2]; exact ho, ho⟩
          · have h2 := hafterR j sj hj (by
              simp only [confl, St.row, Bool.or_eq_true, List.any_eq_true, List.contains_iff_mem]
              exact .inr ⟨m, hw, hm⟩) hlt hx
            rw [h2] at hD
            cases hD
        · subst he
          rw [hDi] at hD
          cases hD) (.inl rfl)
      rcases h1 with h1 | ⟨y, h2, h3⟩
      · refine .inl (h1.trans (stH_congr m _ _ ss 0 H H rfl fun j sj hj hw => ?_))
        simp only [Nat.zero_add]
        by_cases h : j < i
        · rw [hbefore j sj hj (by
            simp only [conflW, St.row, Bool.or_eq_true, List.any_eq_true, List.contains_iff_mem]
            exact .inr ⟨m, hw, .inl hm⟩) h]
          simp [h]
        · simp [h]
      · exact .inr ⟨y, h2, h3⟩
    have hfr : ∀ m, s.nx ≤ m → m < s.nx + s.nw → ¬ stU (fun j => listed.getD j false) (UU nx) ss m := fun m h1 h2 hu => by
      rcases hu with (hu | hu) | ⟨k, sk, hk', hD, h3, h4⟩
      · omega
      · rcases d4 with d4 | d4 <;> omega
      · rcases Nat.lt_trichotomy k i with h | h | h
        · have := c4 k i sk s hk' hsi h; omega
        · subst h; simp only [hDi] at hD; cases hD
        · have := c4 i k s sk hsi hk' h; omega
    have hset : ∀ j, (listed.setIfInBounds i true).getD j false = if j = i then true else listed.getD j false := fun j => by
      rw [Array.getD_eq_getD_getElem?, Array.getD_eq_getD_getElem?, Array.getElem?_setIfInBounds]
      by_cases e : i = j
      · subst e; simp [show i < listed.size by omega]
      · rw [if_neg e, if_neg (fun e' => e e'.symm)]
    have hstep := d5 (stE (fun j => listed.getD j false) 0 ss E) (stH (fun j => listed.getD j false) 0 ss H) (stU (fun j => listed.getD j false) (UU nx) ss) hrt hrd (fun j hj => .inl hj) hfr C a w
      (wpAnyIn (FW ro) 0 P .any ops Q fuel (listed.setIfInBounds i true)) Q hR fun C' a' w' hR' hs' => by
        refine ih (listed.setIfInBounds i true) C' a' w' (by simpa using hsz) (fun j o e ho hD he hb => ?_) ?_ ?_ ?_
        · rw [hset] at hD ⊢
          by_cases hji : j = i
          · subst hji
            rw [hoi] at ho
            cases ho
            have := hpre e (by simpa using he)
            rw [hb] at this
            simp at this
            simp [this]
          · rw [if_neg hji] at hD
            rw [hcl j o e ho hD he hb]
            simp
        · have hE : ∀ t, get (stE (fun j => (listed.setIfInBounds i true).getD j false) 0 ss E) t = get (putO (stE (fun j => listed.getD j false) 0 ss E) ops[i].dst s.val) t := fun t => by
            rw [← d1]
            by_cases hw : s.wt = some t
            · rw [stE_last t _ i s (by simp only [hset, if_true]) hw ss 0 E (Nat.zero_le _) hsi fun j sj hj hw' hlt => by
                simp only [Nat.zero_add] at hlt ⊢
                rw [hset, if_neg (by omega)]
                exact hafter j sj hj (by simp [conflW, St.row, hw, hw']) hlt]
              rw [hw]
              show _ = get ((t, s.val) :: _) t
              rw [get_cons, if_pos rfl]
            · rw [putO_get_ne hw]
              exact stE_congr t _ _ ss 0 E E rfl fun j sj hj hw' => by
                rw [Nat.zero_add, hset, if_neg (fun e => ?_)]
                subst e
                rw [hsi] at hj
                cases hj
                exact hw hw'
          have hH : ∀ m, get (stH (fun j => (listed.setIfInBounds i true).getD j false) 0 ss H) m = get (over (stH (fun j => listed.getD j false) 0 ss H) s.ps) m := fun m => by
            by_cases hw : m ∈ s.ps.map (·.1)
            · have h1 := stH_last m (fun j => (listed.setIfInBounds i true).getD j false) i s (by simp only [hset, if_true]) hw ss 0 H (Nat.zero_le _) hsi fun j sj hj hw' hlt => by
                simp only [Nat.zero_add] at hlt ⊢
                rw [hset, if_neg (by omega)]
                refine hafter j sj hj ?_ hlt
                simp only [conflW, St.row, Bool.or_eq_true, List.any_eq_true, List.contains_iff_mem]
                exact .inr ⟨m, hw, .inr hw'⟩
              rw [h1, over_get]
              cases hg : get s.ps m with
              | some o => rfl
              | none =>
                exfalso
                clear h1
                generalize s.ps = ps at hw hg
                induction ps with
                | nil => simp at hw
                | cons p r ih =>
                  obtain ⟨q, o⟩ := p
                  rw [get_cons] at hg
                  split at hg
                  · cases hg
                  · rename_i e
                    simp only [List.map_cons, List.mem_cons] at hw
                    exact ih (hw.resolve_left (fun e' => e e'.symm)) hg
            · rw [over_get_ne hw]
              exact stH_congr m _ _ ss 0 H H rfl fun j sj hj hw' => by
                rw [Nat.zero_add, hset, if_neg (fun e => ?_)]
                subst e
                rw [hsi] at hj
                cases hj
                exact hw hw'
          have hU : stU (fun j => (listed.setIfInBounds i true).getD j false) (UU nx) ss = addU (stU (fun j => listed.getD j false) (UU nx) ss) s.nx s.nw := by
            funext m
            refine propext ⟨?_, ?_⟩
            · rintro (h | ⟨k, sk, hk', hD, h1, h2⟩)
              · exact .inl (.inl h)
              · simp only [hset] at hD
                by_cases hki : k = i
                · subst hki
                  rw [hsi] at hk'
                  cases hk'
                  exact .inr ⟨h1, h2⟩
                · rw [if_neg hki] at hD
                  exact .inl (.inr ⟨k, sk, hk', hD, h1, h2⟩)
            · rintro ((h | ⟨k, sk, hk', hD, h1, h2⟩) | ⟨h1, h2⟩)
              · exact .inl h
              · exact .inr ⟨k, sk, hk', by simp only [hset]; split <;> first | rfl | exact hD, h1, h2⟩
              · exact .inr ⟨i, s, hsi, by simp only [hset, if_true], h1, h2⟩
          rw [hU]
          exact (rel_env hR' hE).ext hH
        · have hH : ∀ m, get (stH (fun j => (listed.setIfInBounds i true).getD j false) 0 ss H) m = get (over (stH (fun j => listed.getD j false) 0 ss H) s.ps) m := fun m => by
            by_cases hw : m ∈ s.ps.map (·.1)
            · have h1 := stH_last m (fun j => (listed.setIfInBounds i true).getD j false) i s (by simp only [hset, if_true]) hw ss 0 H (Nat.zero_le _) hsi fun j sj hj hw' hlt => by
                simp only [Nat.zero_add] at hlt ⊢
                rw [hset, if_neg (by omega)]
                refine hafter j sj hj ?_ hlt
                simp only [conflW, St.row, Bool.or_eq_true, List.any_eq_true, List.contains_iff_mem]
                exact .inr ⟨m, hw, .inr hw'⟩
              rw [h1, over_get]
              cases hg : get s.ps m with
              | some o => rfl
              | none =>
                exfalso
                clear h1
                generalize s.ps = ps at hw hg
                induction ps with
                | nil => simp at hw
                | cons p r ih =>
                  obtain ⟨q, o⟩ := p
                  rw [get_cons] at hg
                  split at hg
                  · cases hg
                  · rename_i e
                    simp only [List.map_cons, List.mem_cons] at hw
                    exact ih (hw.resolve_left (fun e' => e e'.symm)) hg
            · rw [over_get_ne hw]
              exact stH_congr m _ _ ss 0 H H rfl fun j sj hj hw' => by
                rw [Nat.zero_add, hset, if_neg (fun e => ?_)]
                subst e
                rw [hsi] at hj
                cases hj
                exact hw hw'
          exact (hs.trans (fun _ h => h) (hs'.fewerNames (fun j hj => .inl (UU_mono hn0 j hj)))).ext hH
        · have h1 := unl_lt (p := fun j => !listed.getD j true) (q := fun j => !(listed.setIfInBounds i true).getD j true) (i := i) (by simpa using hli)
            (by simp [Array.getD_eq_getD_getElem?, Array.getElem?_setIfInBounds, show i < listed.size by omega])
            (fun j hj => by
              simp only [Array.getD_eq_getD_getElem?, Array.getElem?_setIfInBounds] at hj ⊢
              by_cases e : i = j
              · rw [if_pos e] at hj
                split at hj <;> simp at hj
              · rw [if_neg e] at hj; exact hj) (List.range ops.size) (List.mem_range.2 hil)
          have h2 : ((List.range ops.size).filter (fun j => !(listed.setIfInBounds i true).getD j true)).length < ((List.range ops.size).filter (fun j => !listed.getD j true)).length := h1
          omega
    have hy : yieldD (ops.toList.map (·.dst)) a.tmps = yielded ops a.tmps := by funext j; rw [yielded_eq]
    unfold GS at hstep
    rw [hy] at hstep
    unfold wpOpIn
    rw [hoi]
    exact hstep

end
end Go.Abs
end
