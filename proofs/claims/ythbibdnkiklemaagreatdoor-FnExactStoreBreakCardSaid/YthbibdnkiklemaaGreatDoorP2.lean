/-
  The abstract layer, the walks and the plain laws that the claim leans on, part 2 of 7 (working texts Abs10 to Abs30). It proves lemmas alone; no condition of its own.
-/
import Derived.Test.YthbibdnkiklemaaGreatDoorP1
import Derived.MapKept
import Derived.WideKeyRuns
import Derived.RangeFuncSeq
set_option linter.all false
section
open Go
namespace Go.Abs
section
variable [Globals]
variable {p x y : AV} {t : TypeId} {op : Op} {nx e sz : Nat}
structure Ev where
  ok : Prop
  val : AV
  ps : Heap
  nw : Nat
def uU : List AV → List Nat
  | [] => []
  | .ref i :: r => i :: uU r
  | _ :: r => uU r
def lP : AV → List Nat
  | .ptr i _ => [i]
  | .ep i _ _ _ => [i]
  | .ref i => [i]
  | .agg cs => uU cs
  | _ => []
abbrev Look := Nat → Option AObj
def iE : AV → Option (Prop × Bool)
  | .raw (.bool b) => some (True, b)
  | .when c (.raw (.bool b)) => some (c, b)
  | _ => none
def pk (b p q : Bool) : Bool := if b then p else q
theorem pk_true (b q : Bool) : pk b true q = (b || q) := by cases b <;> rfl
theorem pk_false (b p : Bool) : pk b p false = (b && p) := by cases b <;> simp [pk]
def evPick (c x y : AV) : Option Ev :=
  match c, iE x, iE y with
  | .raw (.bool b), some (c1, p), some (c2, q) => some ⟨(b = true → c1) ∧ (b = false → c2), .raw (.bool (pk b p q)), [], 0⟩
  | _, _, _ => none
def evLoad (P : Program) (t : TypeId) (p : AV) (h : Look) : Option Ev :=
  match vI P t with
  | some (sz, ag) =>
    match p with
    | .ptr i off => match h i with
      | some (.cells _ cs) => (eF (.agg cs) off sz ag).map fun r => ⟨True, r, [], 0⟩
      | _ => none
    | .ep i esz j off => match h i with
      | some (.row _ esz' xs) => if esz = esz' then (match xs[j]? with
        | some el => match eF el off sz ag with
          | some r => if r.free = true then some ⟨True, r, [], 0⟩ else none
          | none => none
        | none => none) else none
      | _ => none
    | .fp esz xs j off => match xs[j]? with
      | some el => (eF el off sz ag).map fun r => ⟨True, r, [], 0⟩
      | none => none
    | _ => none
  | none => none
def wU (P : Program) (t : TypeId) (p y : AV) (h : Look) : Option Ev :=
  match vI P t, tG y with
  | some (sz, _), some ys =>
    match p with
    | .ptr i off => match h i with
      | some (.cells t0 cs) => if ys.length = sz ∧ off + sz ≤ cs.length then some ⟨True, .raw undef, [(i, .cells t0 (bS cs off ys))], 0⟩ else none
      | _ => none
    | .ep i esz j off => match h i with
      | some (.row e esz' xs) => if esz' = esz ∧ y.solid = true ∧ y.elem = true ∧ y.width = sz ∧ off + sz ≤ esz ∧ (dZ h y).2.Nodup ∧ i ∉ (dZ h y).2 then (match xs[j]? with
        | some el => (elSet el off esz sz (dZ h y).1).map fun el' => ⟨True, .raw undef, (i, .row e esz (xs.set j el')) :: cP (dZ h y).2, 0⟩
        | none => none) else none
      | _ => none
    | _ => none
  | _, _ => none
def evField (P : Program) (t : TypeId) (p : AV) (j : Nat) : Option Ev :=
  match fI P t j with
  | some (off, some sz, some _) => if 0 < sz then (addF p off).map fun r => ⟨True, r, [], 0⟩ else none
  | _ => none
def jU (P : Program) (t : TypeId) (x y : AV) (h : Look) : Option Ev :=
  match cZ P t, y with
  | some (_, some (sz, _)), .raw (.int _ n) =>
    match x with
    | .sl sz' xs => if sz' = sz then some ⟨0 ≤ n ∧ n < xs.length, .fp sz xs n.toNat 0, [], 0⟩ else none
    | .ref i => match h i with
      | some (.row _ sz' xs) => if sz' = sz then some ⟨0 ≤ n ∧ n < xs.length, .ep i sz n.toNat 0, [], 0⟩ else none
      | _ => none
    | _ => none
  | _, _ => none
def evIndex (P : Program) (t : TypeId) (x y : AV) : Option Ev :=
  match x, y with
  | .raw (.string s), .raw (.int _ n) => if isStr P t = true then some ⟨0 ≤ n ∧ n < s.size, .raw (.int .u8 (aE s n.toNat)), [], 0⟩ else none
  | _, _ => none
def evUn (op : UnOp) (x : AV) : Option Ev :=
  match op, x with
  | .not, .raw (.bool b) => some ⟨True, .raw (.bool (!b)), [], 0⟩
  | .neg, .raw (.int k n) => some ⟨True, .raw (.int k (k.wrap (-n))), [], 0⟩
  | _, _ => none
def evBin (P : Program) (op : BinOp) (t : TypeId) (x y : AV) : Option Ev :=
  match x, y with
  | .raw (.int k n), .raw (.int k' m) => match shop op k n m with
    | some v => some ⟨0 ≤ m, .raw v, [], 0⟩
    | none => if k = k' then (iop op k n m).map fun v => ⟨True, .raw v, [], 0⟩ else none
  | .raw (.bool n), .raw (.bool m) => if isBo P t = true then (bop op n m).map fun v => ⟨True, .raw (.bool v), [], 0⟩ else none
  | .raw (.string n), .raw (.string m) => match op with
    | .add => some ⟨n.size + m.size ≤ 9223372036854775807, .raw (.string (n ++ m)), [], 0⟩
    | op => (sop op n m).map fun v => ⟨True, .raw v, [], 0⟩
  | _, _ => none
def evNil (P : Program) (op : BinOp) (t : TypeId) (x : AV) : Option Ev :=
  match nilOf x with
  | some b => match nilCmp op b with
    | some r => if isIf P t = true then some ⟨True, .raw (.bool r), [], 0⟩ else none
    | none => none
  | none => none
def aV (P : Program) (t : TypeId) : Option (List (Nat × Nat)) := (tP P t).bind fun l => l.mapM fun p => p.2.map fun n => (p.1, n)
theorem yG : ∀ (l : List (Nat × Option Nat)) (tab : List (Nat × Nat)), (l.mapM fun p => p.2.map fun n => (p.1, n)) = some tab → l = tab.map fun p => (p.1, some p.2)
  | [], tab, h => by simp at h; subst h; rfl
  | (a, none) :: l, tab, h => by simp at h
  | (a, some n) :: l, tab, h => by
    simp only [List.mapM_cons, Option.map_some, Option.pure_def, Option.bind_eq_bind, Option.bind_some] at h
    obtain ⟨r, hr, h⟩ := Option.bind_eq_some_iff.1 h
    cases h; rw [List.map_cons, ← yG l r hr]
theorem structTab_open {P : Program} {tab : List (Nat × Nat)} (h : aV P t = some tab) : tP P t = some (tab.map fun p => (p.1, some p.2)) := by
  obtain ⟨l, hl, h⟩ := Option.bind_eq_some_iff.1 h
  rw [hl, yG l tab h]
def opsV (e : Operand → Option AV) : List (Nat × Operand) → Option (List (Nat × AV))
  | [] => some []
  | (i, x) :: r => match e x, opsV e r with
    | some v, some vs => some ((i, v) :: vs)
    | _, _ => none
theorem opsV_eq (E : Env) : ∀ l, opsV (opv E) l = nW E l
  | [] => rfl
  | (i, x) :: r => by
    rw [opsV, nW, opsV_eq E r]
    cases opv E x <;> cases nW E r <;> rfl
def opsL (e : Operand → Option AV) : List (Nat × Operand) → Option (List AV)
  | [] => some []
  | (_, x) :: r => match e x, opsL e r with
    | some v, some vs => some (v :: vs)
    | _, _ => none
def isEnum : Nat → List (Nat × Operand) → Bool
  | _, [] => true
  | k, (i, _) :: r => i == k && isEnum (k + 1) r
theorem isEnum_open : ∀ (l : List (Nat × Operand)) (k : Nat), isEnum k l = true → l = enumP k (l.map (·.2))
  | [], _, _ => rfl
  | (i, x) :: r, k, h => by
    simp only [isEnum, Bool.and_eq_true, beq_iff_eq] at h
    rw [List.map_cons, enumP, ← isEnum_open r (k + 1) h.2, h.1]
theorem opsL_open {e : Operand → Option AV} : ∀ (l : List (Nat × Operand)) (vs : List AV), opsL e l = some vs → (l.map (·.2)).map e = vs.map some
  | [], vs, h => by simp only [opsL, Option.some.injEq] at h; subst h; rfl
  | (i, x) :: r, vs, h => by
    simp only [opsL] at h
    split at h
    · rename_i v us hv hus
      cases h
      simp [hv, opsL_open r us hus]
    cases h
def evBuild (P : Program) (t : TypeId) (ps : List (Nat × AV)) : Option Ev :=
  match aV P t, zC P t with
  | some tab, some zs => (yL (fun i => tab[i]?) (zs.map .raw) ps).map fun rs => ⟨True, .agg rs, [], 0⟩
  | _, _ => none
def pI (P : Program) (t : TypeId) (len : Nat) (dB : List (Nat × Operand)) (ps : List AV) (h : Look) (nx : Nat) : Option Ev :=
  match cZ P t with
  | some (e, some (sz, _)) => match zC P e with
    | some _ => if isEnum 0 dB = true ∧ dB.length = len ∧ ps.all (AV.fitsEl sz) = true ∧ 0 < sz ∧ len * sz ≤ 16777216 ∧ (aL h ps).2.Nodup then
        some ⟨True, .ref nx, (nx, .row e sz (aL h ps).1) :: cP (aL h ps).2, 1⟩ else none
    | none => none
  | _ => none
def vH (P : Program) (t : TypeId) (x y : AV) (nx : Nat) : Option Ev :=
  match cZ P t, x, y with
  | some (e, some (sz, by')), .raw (.int _ n), .raw (.int _ m) => match zE P e with
    | some zel => if zel.width = sz ∧ 0 < sz then some ⟨0 ≤ n ∧ n ≤ m ∧ (by' : Int) * m ≤ 281474976710656 ∧ m.toNat ≤ maxLen, .ref nx, [(nx, .row e sz (List.replicate n.toNat zel))], 1⟩ else none
    | none => none
  | _, _, _ => none
def vF (d : Int) : Option (Option AV) → Option Int
  | none => some d
  | some (some (.raw (.int _ n))) => some n
  | _ => none
def evSliceS (P : Program) (t : TypeId) (x : AV) (lo hi : Option (Option AV)) : Option Ev :=
  match cZ P t, x with
  | some (_, some (sz, _)), .sl sz' xs => match vF 0 lo, vF xs.length hi with
    | some l, some h => if sz' = sz then some ⟨0 ≤ l ∧ l ≤ h ∧ h ≤ xs.length, .sl sz ((xs.take h.toNat).drop l.toNat), [], 0⟩ else none
    | _, _ => none
  | _, _ => none
def evSlice (P : Program) (t : TypeId) (x : AV) (lo hi : Option (Option AV)) : Option Ev :=
  match x with
  | .raw (.string s) => if isStr P t = true then (match vF 0 lo, vF s.size hi with
    | some l, some h => some ⟨0 ≤ l ∧ l ≤ h ∧ h ≤ s.size, .raw (.string (s.extract l.toNat h.toNat)), [], 0⟩
    | _, _ => none) else none
  | x => evSliceS P t x lo hi
def yU (e sz i : Nat) (h : Look) : Option (List AV × List Nat) :=
  match h i with
  | some (.row e' sz' xs) => if e' = e ∧ sz' = sz then some (xs, [i]) else none
  | _ => none
def appRaw (sz : Nat) : AV → Option (List AV × List Nat)
  | .raw (.slice none 0 0) => some ([], [])
  | _ => none
def appRaw2 (sz : Nat) : AV → Option (List AV × List Nat)
  | .raw (.slice none 0 0) => some ([], [])
  | .sl sz' ys => if sz' = sz then some (ys, []) else none
  | _ => none
def app1 (e sz : Nat) (h : Look) (x : AV) : Option (List AV × List Nat) :=
  match x with
  | .ref i => yU e sz i h
  | x => appRaw sz x
def app2 (e sz : Nat) (h : Look) (x : AV) : Option (List AV × List Nat) :=
  match x with
  | .ref i => yU e sz i h
  | x => appRaw2 sz x
def evAppend (P : Program) (t : TypeId) (x y : AV) (h : Look) (nx : Nat) : Option Ev :=
  match cZ P t with
  | some (e, some (sz, by')) => match zC P e, app1 e sz h x, app2 e sz h y with
    | some zs, some (xs, k1), some (ys, k2) => if zs.length = sz ∧ 0 < sz ∧ (∀ i ∈ k1, i ∉ k2) then
        some ⟨ys.all AV.elem = true ∧ xs.length + ys.length ≤ maxLen ∧ (xs.length + ys.length) * by' ≤ 140737488355328, .ref nx, (nx, .row e sz (xs ++ ys)) :: cP (k1 ++ k2), 1⟩ else none
    | _, _, _ => none
  | _ => none
def evCall (P : Program) (e : Operand → Option AV) (h : Look) (nx : Nat) (c : Call) : Option Ev :=
  match c.callee, c.args.toList, c.argTypes.toList with
  | .builtin .len, [x], [t] => match e x with
    | some p => (lenAV P t p h).map fun (n : Nat) => ⟨True, .raw (.int .i64 (n : Int)), [], 0⟩
    | none => none
  | .builtin .append, [x, y], [t, t'] => match e x, e y with
    | some p, some q => if t' = t then evAppend P t p q h nx else none
    | _, _ => none
  | .builtin b, [x, y], _ => match e x, e y with
    | some p, some q => (mmop b p q).map fun v => ⟨True, .raw v, [], 0⟩
    | _, _ => none
  | _, _, _ => none
def opsO (e : Operand → Option AV) : List Operand → Option (List AV)
  | [] => some []
  | x :: r => match e x, opsO e r with
    | some v, some vs => some (v :: vs)
    | _, _ => none
theorem opsO_open {e : Operand → Option AV} : ∀ (l : List Operand) (vs : List AV), opsO e l = some vs → l.map e = vs.map some
  | [], vs, h => by simp only [opsO, Option.some.injEq] at h; subst h; rfl
  | x :: r, vs, h => by
    simp only [opsO] at h
    split at h
    · rename_i v us hv hus
      cases h
      simp [hv, opsO_open r us hus]
    cases h
theorem yT {e e' : Operand → Option AV} : ∀ {l : List Operand}, (∀ x ∈ l, e x = e' x) → opsO e l = opsO e' l
  | [], _ => rfl
  | x :: r, h => by rw [opsO, opsO, h x List.mem_cons_self, yT fun y hy => h y (List.mem_cons_of_mem _ hy)]
def uL (P : Program) (e : Operand → Option AV) (h : Look) (nx : Nat) : Op → Option Ev
  | .move x => (e x).map fun r => ⟨True, r, [], 0⟩
  | .assign x => (e x).map fun r => ⟨True, r, [], 0⟩
  | .pick c x y => match e c, e x, e y with
    | some c', some x', some y' => evPick c' x' y'
    | _, _, _ => none
  | .load t x => match e x with
    | some p => evLoad P t p h
    | none => none
  | .store t x y => match e x, e y with
    | some p, some v => wU P t p v h
    | _, _ => none
  | .fieldAddr t x j => match e x with
    | some p => evField P t p j
    | none => none
  | .indexAddr t x y => match e x, e y with
    | some p, some v => jU P t p v h
    | _, _ => none
  | .index t x y => match e x, e y with
    | some p, some v => evIndex P t p v
    | _, _ => none
  | .nilCheck x => match e x with
    | some p => if isPtr p = true then some ⟨True, p, [], 0⟩ else none
    | none => none
  | .extract x i => match e x with
    | some (.tup vs) => (vs[i]?).map fun r => ⟨True, r, [], 0⟩
    | _ => none
  | .makeInterface t x => match e x with
    | some p => if P.concrete t = true then some ⟨True, .iface t p, [], 0⟩ else none
    | none => none
  | .unOp op _ x => match e x with
    | some p => evUn op p
    | none => none
  | .binOp op t x y _ => match y with
    | .const .nilIface => match e x with
      | some p => evNil P op t p
      | none => none
    | y => match e x, e y with
      | some p, some v => evBin P op t p v
      | _, _ => none
  | .alloc t => match zC P t with
    | some zs => some ⟨True, .ptr nx 0, [(nx, .cells t (zs.map .raw))], 1⟩
    | none => none
  | .box t x => match e x with
    | some p => (tG p).map fun ys => ⟨True, .ptr nx 0, [(nx, .cells t ys)], 1⟩
    | none => none
  | .build t dB => match opsV e dB.toList with
    | some ps => evBuild P t ps
    | none => none
  | .buildSlice t len dB => match opsL e dB.toList with
    | some ps => pI P t len dB.toList ps h nx
    | none => none
  | .makeSlice t x y => match e x, e y with
    | some p, some v => vH P t p v nx
    | _, _ => none
  | .slice t x lo hi mx => match e x, mx with
    | some p, none => evSlice P t p (lo.map e) (hi.map e)
    | _, _ => none
  | .call c => evCall P e h nx c
  | .makeMap t r => match r, iY P t with
    | none, some (kt, et) => some ⟨True, .ref nx, [(nx, .map kt et [])], 1⟩
    | _, _ => none
  | .makeFunc f first cap => match opsO e first.toList, opsO e cap.toList with
    | some as, some bs => some ⟨True, .fn f as bs, [], 0⟩
    | _, _ => none
  | .convert s t x => match e x with
    | some (.raw (.int _ n)) => if (eC P s).isSome = true then (eC P t).map fun k => ⟨True, .raw (.int k (k.wrap n)), [], 0⟩ else none
    | _ => none
  | .field t x j => match e x, fI P t j with
    | some p, some (off, some sz, some ag) => if p.notAgg = false then (eF p off sz ag).map fun r => ⟨True, r, [], 0⟩ else none
    | _, _ => none
  | _ => none
def addU (U : Nat → Prop) (nx nw : Nat) : Nat → Prop := fun j => U j ∨ (nx ≤ j ∧ j < nx + nw)
theorem aU0 (U : Nat → Prop) (nx : Nat) : addU U nx 0 = U := by
  funext j
  exact propext ⟨fun h => h.elim id (fun h => by omega), .inl⟩
theorem eB (U : Nat → Prop) (nx : Nat) : addU U nx 1 = fun j => U j ∨ j = nx := by
  funext j
  exact propext ⟨fun h => h.imp id (fun h => by omega), fun h => h.imp id (fun h => by omega)⟩
theorem wK (n nw : Nat) : addU (UU n) n nw = UU (n + nw) := by
  funext j
  refine propext ⟨?_, ?_⟩
  · rintro ((h | h) | h)
    · exact .inl (by omega)
    · exact .inr h
    exact .inl (by omega)
  rintro (h | h)
  · rcases Nat.lt_or_ge j n with h1 | h1
    · exact .inl (.inl h1)
    exact .inr ⟨h1, h⟩
  exact .inl (.inr h)
section
variable {P : Program} {ro : Option Nat} {N : Nat} {o : Oper} {E : Env} {H : Heap} {U : Nat → Prop}
theorem rep_strip {ρ : Nat → Value} {av : Nat → Prop} {hp : Array Obj} {c : Prop} {p : Bool} {v : Value} (h : iE x = some (c, p)) (hr : Rep ρ av hp x v) (hc : c) : v = .bool p := by
  cases x with
  | raw u =>
    cases hr
    cases v <;> simp [iE] at h
    rw [h.2]
  | when c' y =>
    cases hr with
    | when _ _ _ hh _ =>
      cases y <;> simp [iE] at h
      rename_i u
      cases u <;> simp [iE] at h
      have := hh (by rw [h.1]; exact hc)
      cases this; rw [h.2]
  | _ => simp [iE] at h
theorem opT_pickB {c x y : Operand} {b p q : Bool} {c1 c2 : Prop} {x' y' : AV} (ho : o.op = .pick c x y) (hN : ∀ d, o.dst = some d → d < N) (hc : opv E c = some (.raw (.bool b))) (hx : opv E x = some x') (hy : opv E y = some y')
    (h1 : iE x' = some (c1, p)) (h2 : iE y' = some (c2, q)) (k1 : b = true → c1) (k2 : b = false → c2) : OpT P ro N o E H U (aU E o.dst (.raw (.bool (pk b p q)))) H U := by
  refine aG (by simp [ho, Op.noDefer]) hN fun C a w hR => ?_
  obtain ⟨r1, _⟩ := hR.opv hx
  obtain ⟨r2, _⟩ := hR.opv hy
  obtain ⟨r3, _⟩ := hR.opv hc
  have hv : a.eval c = .bool b := by generalize a.eval c = v at r3; cases r3; rfl
  refine ⟨trivial, .bool (pk b p q), ?_, .raw _⟩
  cases b with
  | true =>
    have := rep_strip h1 r1 (k1 rfl)
    simp [execOp, ho, hv, asBool, this, pk]
  | false =>
    have := rep_strip h2 r2 (k2 rfl)
    simp [execOp, ho, hv, asBool, this, pk]
theorem evOp_sound {r : Ev} (ho : o.op = op) (hN : ∀ d, o.dst = some d → d < N) (h : uL P (opv E) (get H) nx op = some r) (hok : r.ok) (hnx : r.nw ≠ 0 → ¬ U nx) :
    (r.nw = 0 ∨ r.nw = 1) ∧ OpT P ro N o E H U (aU E o.dst r.val) (over H r.ps) (addU U nx r.nw) := by
  cases op <;> simp only [uL, reduceCtorEq] at h
  case move x => obtain ⟨p, hp, rfl⟩ := Option.map_eq_some_iff.1 h; exact ⟨.inl rfl, by rw [aU0]; exact opT_move (.inl ho) hp hN⟩
  case assign x => obtain ⟨p, hp, rfl⟩ := Option.map_eq_some_iff.1 h; exact ⟨.inl rfl, by rw [aU0]; exact opT_move (.inr ho) hp hN⟩
  case pick c x y =>
    split at h
    · rename_i c' x' y' hc hx hy
      unfold evPick at h; split at h
      · rename_i b c1 p c2 q hs1 hs2
        cases h
        exact ⟨.inl rfl, by rw [aU0]; exact opT_pickB ho hN hc hx hy hs1 hs2 hok.1 hok.2⟩
      cases h
    cases h
  case load t x =>
    split at h
    · rename_i p hx
      unfold evLoad at h; split at h
      · rename_i sz ag hv
        split at h
        · split at h
          · rename_i hH
            obtain ⟨r', hr, rfl⟩ := Option.map_eq_some_iff.1 h
            exact ⟨.inl rfl, by rw [aU0]; exact opT_load_cells ho hN (iM hv) hx hH hr⟩
          cases h
        · split at h
          · rename_i hH
            split at h
            · rename_i he
              subst he; split at h
              · rename_i hj
                split at h
                · rename_i hr
                  split at h
                  · rename_i hf
                    cases h
                    exact ⟨.inl rfl, by rw [aU0]; exact opT_load_row ho hN (iM hv) hx hH hj hr hf⟩
                  cases h
                cases h
              cases h
            cases h
          cases h
        · split at h
          · rename_i hj
            obtain ⟨r', hr, rfl⟩ := Option.map_eq_some_iff.1 h
            exact ⟨.inl rfl, by rw [aU0]; exact opT_load_fp ho hN (iM hv) hx hj hr⟩
          cases h
        cases h
      cases h
    cases h
  case store t x y =>
    split at h
    · rename_i p v hx hy
      unfold wU at h; split at h
      · rename_i sz ag ys hv hys
        split at h
        · split at h
          · rename_i hH
            split at h
            · rename_i hc
              cases h
              exact ⟨.inl rfl, by rw [aU0]; exact opT_store_cells ho hN (iM hv) hx hH hy hys hc.1 hc.2⟩
            cases h
          cases h
        · split at h
          · rename_i hH
            split at h
            · rename_i hc
              obtain ⟨rfl, hc1, hc2, hc3, hc4, hc5, hc6⟩ := hc
              split at h
              · rename_i hj
                obtain ⟨el', hel, rfl⟩ := Option.map_eq_some_iff.1 h
                exact ⟨.inl rfl, by rw [aU0]; exact opT_store_row ho hN (iM hv) hx hH hj hy hc1 hc2 hc3 hc4 hel hc5 hc6⟩
              cases h
            cases h
          cases h
        cases h
      cases h
    cases h
  case fieldAddr t x j =>
    split at h
    · rename_i p hx
      unfold evField at h; split at h
      · rename_i off sz ag hf
        split at h
        · rename_i h0
          obtain ⟨r', hr, rfl⟩ := Option.map_eq_some_iff.1 h
          exact ⟨.inl rfl, by rw [aU0]; exact opT_fieldAddr ho hN hf h0 hx hr⟩
        cases h
      cases h
    cases h
  case indexAddr t x y =>
    split at h
    · rename_i p v hx hy
      unfold jU at h; split at h
      · rename_i et sz by' k n hs
        split at h
        · split at h
          · rename_i he
            subst he; cases h
            exact ⟨.inl rfl, by rw [aU0]; exact opT_indexAddr_sl ho hN hs hx hy hok.1 hok.2⟩
          cases h
        · split at h
          · rename_i hH
            split at h
            · rename_i he
              subst he; cases h
              exact ⟨.inl rfl, by rw [aU0]; exact opT_indexAddr_row ho hN hs hx hH hy hok.1 hok.2⟩
            cases h
          cases h
        cases h
      cases h
    cases h
  case index t x y =>
    split at h
    · rename_i p v hx hy
      unfold evIndex at h; split at h
      · split at h
        · rename_i hs
          cases h
          have ht := yR hs
          exact ⟨.inl rfl, by rw [aU0]; exact opT_index_str ho hN ht hx hy hok.1 hok.2⟩
        cases h
      cases h
    cases h
  case nilCheck x =>
    split at h
    · rename_i p hx
      split at h
      · rename_i hp
        cases h
        exact ⟨.inl rfl, by rw [aU0]; exact opT_nilCheck ho hN hx (isPtr_rep hp)⟩
      cases h
    cases h
  case extract x i =>
    split at h
    · rename_i vs hx
      obtain ⟨r', hr, rfl⟩ := Option.map_eq_some_iff.1 h
      exact ⟨.inl rfl, by rw [aU0]; exact opT_extract ho hN hx hr⟩
    cases h
  case makeInterface t x =>
    split at h
    · rename_i p hx
      split at h
      · rename_i ht
        cases h
        exact ⟨.inl rfl, by rw [aU0]; exact opT_makeInterface ho hN ht hx⟩
      cases h
    cases h
  case unOp op t x =>
    split at h
    · rename_i p hx
      unfold evUn at h; split at h
      · cases h; exact ⟨.inl rfl, by rw [aU0]; exact opT_not ho hN hx⟩
      · cases h; exact ⟨.inl rfl, by rw [aU0]; exact opT_neg ho hN hx⟩
      cases h
    cases h
  case binOp op t x y t' =>
    split at h
    · split at h
      · rename_i p hx
        unfold evNil at h; split at h
        · rename_i b hp
          split at h
          · rename_i r' hr
            split at h
            · rename_i ht
              cases h
              exact ⟨.inl rfl, by rw [aU0]; exact opT_nilIface ho hN ht hx hp hr⟩
            cases h
          cases h
        cases h
      cases h
    split at h
    · rename_i p v hx hy
      unfold evBin at h; split at h
      · split at h
        · rename_i v' hv
          cases h
          exact ⟨.inl rfl, by rw [aU0]; exact opT_shop ho hN hx hy hok hv⟩
        split at h
        · rename_i hk
          subst hk
          obtain ⟨v', hv, rfl⟩ := Option.map_eq_some_iff.1 h
          exact ⟨.inl rfl, by rw [aU0]; exact opT_iop ho hN hx hy hv⟩
        cases h
      · split at h
        · rename_i hb
          obtain ⟨v', hv, rfl⟩ := Option.map_eq_some_iff.1 h
          exact ⟨.inl rfl, by rw [aU0]; exact opT_bop ho hN hb hx hy hv⟩
        cases h
      · split at h
        · cases h
          exact ⟨.inl rfl, by rw [aU0]; exact opT_sop ho hN hx hy (by simp only [sop]; rw [if_pos hok])⟩
        obtain ⟨v', hv, rfl⟩ := Option.map_eq_some_iff.1 h
        exact ⟨.inl rfl, by rw [aU0]; exact opT_sop ho hN hx hy hv⟩
      cases h
    cases h
  case alloc t =>
    split at h
    · rename_i zs hz
      cases h
      exact ⟨.inr rfl, by rw [eB]; exact opT_alloc ho hN hz (hnx (by simp))⟩
    cases h
  case box t x =>
    split at h
    · rename_i p hx
      obtain ⟨ys, hy, rfl⟩ := Option.map_eq_some_iff.1 h
      exact ⟨.inr rfl, by rw [eB]; exact opT_box ho hN hx hy (hnx (by simp))⟩
    cases h
  case build t dB =>
    split at h
    · rename_i ps hps
      rw [opsV_eq] at hps; unfold evBuild at h; split at h
      · rename_i tab zs ht hz
        obtain ⟨rs, hr, rfl⟩ := Option.map_eq_some_iff.1 h
        exact ⟨.inl rfl, by rw [aU0]; exact opT_build ho hN (structTab_open ht) hz hps hr⟩
      cases h
    cases h
  case buildSlice t len dB =>
    split at h
    · rename_i ps hps
      unfold pI at h; split at h
      · rename_i e sz by' hs
        split at h
        · rename_i zs hz
          split at h
          · rename_i hc
            obtain ⟨h1, h2, h3, h4, h5, h6⟩ := hc
            cases h
            exact ⟨.inr rfl, by rw [eB]; exact opT_buildSlice ho hN hs hz (isEnum_open _ _ h1) (by simpa using h2) (opsL_open _ _ hps) h3 h4 h5 h6 (hnx (by simp))⟩
          cases h
        cases h
      cases h
    cases h
  case makeSlice t x y =>
    split at h
    · rename_i p v hx hy
      unfold vH at h; split at h
      · rename_i e sz by' k n k' m hs
        split at h
        · rename_i zel hz
          split at h
          · rename_i hc
            cases h
            exact ⟨.inr rfl, by rw [eB]; exact opT_makeSlice ho hN hs hz hc.1 hc.2 hx hy hok.1 hok.2.1 hok.2.2.1 hok.2.2.2 (hnx (by simp))⟩
          cases h
        cases h
      cases h
    cases h
  case slice t x lo hi mx =>
    split at h
    · rename_i p hx
      have bound : ∀ (d : Int) (b : Option Operand) (n : Int), vF d (b.map (opv E)) = some n → (b = none ∧ n = d) ∨ ∃ y k, b = some y ∧ opv E y = some (.raw (.int k n)) := fun d b n hb => by
        cases b with
        | none => simp only [Option.map_none, vF, Option.some.injEq] at hb; exact .inl ⟨rfl, hb.symm⟩
        | some y =>
          simp only [Option.map_some] at hb
          unfold vF at hb; split at hb
          · rename_i hq; cases hq
          · rename_i k n' hq
            cases hb
            exact .inr ⟨y, _, rfl, by simpa using hq⟩
          cases hb
      unfold evSlice at h; split at h
      · rename_i s
        split at h
        · rename_i hst
          split at h
          · rename_i l hh hl hhi
            cases h
            refine ⟨.inl rfl, ?_⟩
            rw [aU0]
            exact opT_slice_str ho hN hst hx (bound _ _ _ hl) (bound _ _ _ hhi) hok.1 hok.2.1 hok.2.2
          cases h
        cases h
      unfold evSliceS at h; split at h
      · rename_i e sz by' sz' xs hs hno
        split at h
        · rename_i l hh hl hhi
          split at h
          · rename_i hc
            subst hc; cases h
            refine ⟨.inl rfl, ?_⟩
            rw [aU0]
            exact opT_slice_sl ho hN hs hx (bound _ _ _ hl) (bound _ _ _ hhi) hok.1 hok.2.1 hok.2.2
          cases h
        cases h
      cases h
    cases h
  case call c =>
    unfold evCall at h; split at h
    · rename_i x t hc ha ht
      split at h
      · rename_i p hx
        obtain ⟨n, hn, rfl⟩ := Option.map_eq_some_iff.1 h
        exact ⟨.inl rfl, by rw [aU0]; exact opT_len ho hc (by rw [← ha]) (by rw [← ht]) hN hx hn⟩
      cases h
    · rename_i x y t t' hc ha ht
      split at h
      · rename_i p q hx hy
        split at h
        · rename_i htt
          subst htt; unfold evAppend at h; split at h
          · rename_i e sz by' hs
            split at h
            · rename_i zs xs k1 ys k2 hz h1 h2
              split at h
              · rename_i hcc
                cases h
                have a1 : App1 E H x e sz xs k1 := by
                  unfold app1 at h1; split at h1
                  · unfold yU at h1; split at h1
                    · rename_i hH
                      split at h1
                      · rename_i hq; obtain ⟨rfl, rfl⟩ := hq; cases h1; exact .row _ _ hx hH
                      cases h1
                    cases h1
                  unfold appRaw at h1; split at h1
                  · cases h1; exact .nil hx
                  cases h1
                have a2 : App2 E H y e sz ys k2 := by
                  unfold app2 at h2; split at h2
                  · unfold yU at h2; split at h2
                    · rename_i hH
                      split at h2
                      · rename_i hq; obtain ⟨rfl, rfl⟩ := hq; cases h2; exact .row _ _ hy hH
                      cases h2
                    cases h2
                  unfold appRaw2 at h2; split at h2
                  · cases h2; exact .nil hy
                  · split at h2
                    · rename_i hq; subst hq; cases h2; exact .sl _ hy
                    cases h2
                  cases h2
                exact ⟨.inr rfl, by rw [eB]; exact opT_append ho hc (by rw [← ha]) (by rw [← ht]) hN hs hz hcc.1 hcc.2.1 a1 a2 hcc.2.2 hok.1 hok.2.1 hok.2.2 (hnx (by simp))⟩
              cases h
            cases h
          cases h
        cases h
      cases h
    · rename_i b x y _ hc ha _
      split at h
      · rename_i p q hx hy
        obtain ⟨v', hv, rfl⟩ := Option.map_eq_some_iff.1 h
        exact ⟨.inl rfl, by rw [aU0]; exact opT_mmop ho hc (by rw [← ha]) hN hx hy hv⟩
      cases h
    cases h
  case makeMap t r =>
    split at h
    · rename_i kt et hm
      cases h
      exact ⟨.inr rfl, by rw [eB]; exact opT_makeMap ho hN hm (hnx (by simp))⟩
    cases h
  case makeFunc f first cap =>
    split at h
    · rename_i as bs ha hb
      cases h
      exact ⟨.inl rfl, by rw [aU0]; exact opT_makeFunc ho hN (opsO_open _ _ ha) (opsO_open _ _ hb)⟩
    cases h
  case convert s t x =>
    split at h
    · rename_i k n hx
      split at h
      · rename_i hs
        obtain ⟨k', hk, rfl⟩ := Option.map_eq_some_iff.1 h
        exact ⟨.inl rfl, by rw [aU0]; exact opT_convInt ho hN hs hk hx⟩
      cases h
    cases h
  case field t x j =>
    split at h
    · rename_i p off sz ag hx hf
      split at h
      · rename_i hp
        obtain ⟨r', hr, rfl⟩ := Option.map_eq_some_iff.1 h
        exact ⟨.inl rfl, by rw [aU0]; exact opT_field ho hN hf hx hp hr⟩
      cases h
    cases h
def hZ : Op → List Operand
  | .move x | .assign x | .box _ x | .load _ x | .nilCheck x | .unOp _ _ x | .makeInterface _ x | .fieldAddr _ x _ | .extract x _ | .convert _ _ x | .field _ x _ => [x]
  | .makeFunc _ a b => a.toList ++ b.toList
  | .pick c a b => [c, a, b]
  | .store _ a v | .binOp _ _ a v _ | .indexAddr _ a v | .index _ a v | .makeSlice _ a v => [a, v]
  | .build _ ps => ps.toList.map (·.2)
  | .buildSlice _ _ ps => ps.toList.map (·.2)
  | .slice _ x lo hi _ => x :: (lo.toList ++ hi.toList)
  | .call c => c.args.toList
  | _ => []
theorem zH {i : Nat} : ∀ {cs : List AV}, .ref i ∈ cs → i ∈ uU cs
  | x :: r, h => by
    rcases List.mem_cons.1 h with e | e
    · subst e; exact List.mem_cons_self
    cases x <;> simp only [uU] <;> first | exact List.mem_cons_of_mem _ (zH e) | exact zH e
theorem yH {h h' : Look} (hh : ∀ i, x = .ref i → h i = h' i) : gG h x = gG h' x := by
  cases x with
  | ref i => unfold gG; simp only [hh i rfl]
  | _ => rfl
theorem xP {h h' : Look} : ∀ {cs : List AV}, (∀ i ∈ uU cs, h i = h' i) → dE h cs = dE h' cs
  | [], _ => rfl
  | x :: r, hh => by
    rw [dE, dE, yH fun i hi => hh i (zH (by rw [hi]; exact List.mem_cons_self)), xP fun i hi => hh i (by cases x <;> simp only [uU] <;> first | exact List.mem_cons_of_mem _ hi | exact hi)]
theorem zV {h h' : Look} (hh : ∀ i ∈ lP x, h i = h' i) : dZ h x = dZ h' x := by
  cases x with
  | agg cs => simp only [dZ, xP hh]
  | ref i => exact yH (x := .ref i) fun j hj => hh j (by injection hj with e; subst e; exact List.mem_singleton.2 rfl)
  | _ => rfl
theorem xX {h h' : Look} : ∀ {ps : List AV}, (∀ p ∈ ps, ∀ i ∈ lP p, h i = h' i) → aL h ps = aL h' ps
  | [], _ => rfl
  | x :: r, hh => by rw [aL, aL, zV (hh x List.mem_cons_self), xX fun p hp => hh p (List.mem_cons_of_mem _ hp)]
theorem evLoad_local {h h' : Look} (hh : ∀ i ∈ lP p, h i = h' i) : evLoad P t p h = evLoad P t p h' := by
  cases p <;> simp only [evLoad] <;> simp only [lP, List.mem_singleton, forall_eq] at hh <;> rw [hh]
theorem evStore_local {h h' : Look} (hh : ∀ i ∈ lP p, h i = h' i) (hy : ∀ i ∈ lP y, h i = h' i) : wU P t p y h = wU P t p y h' := by
  have hab := zV hy
  cases p <;> simp only [wU] <;> simp only [lP, List.mem_singleton, forall_eq] at hh <;> rw [hh]
  rw [hab]
theorem evIndexAddr_local {h h' : Look} (hh : ∀ i ∈ lP p, h i = h' i) : jU P t p y h = jU P t p y h' := by
  cases p <;> simp only [jU] <;> simp only [lP, List.mem_singleton, forall_eq] at hh <;> rw [hh]
theorem lenAV_local {h h' : Look} (hh : ∀ i ∈ lP p, h i = h' i) : lenAV P t p h = lenAV P t p h' := by
  cases p <;> first | rfl | skip
  simp only [lP, List.mem_singleton, forall_eq] at hh
  simp only [lenAV, hh]
theorem app1_local {h h' : Look} (hh : ∀ i ∈ lP p, h i = h' i) : app1 e sz h p = app1 e sz h' p := by
  cases p <;> first | rfl | skip
  simp only [lP, List.mem_singleton, forall_eq] at hh
  simp only [app1, yU, hh]
theorem app2_local {h h' : Look} (hh : ∀ i ∈ lP p, h i = h' i) : app2 e sz h p = app2 e sz h' p := by
  cases p <;> first | rfl | skip
  simp only [lP, List.mem_singleton, forall_eq] at hh
  simp only [app2, yU, hh]
theorem opsV_local {e e' : Operand → Option AV} : ∀ {l : List (Nat × Operand)}, (∀ x ∈ l.map (·.2), e x = e' x) → opsV e l = opsV e' l
  | [], _ => rfl
  | (i, x) :: r, h => by
    rw [opsV, opsV, h x (by simp), opsV_local fun y hy => h y (by simp only [List.map_cons]; exact List.mem_cons_of_mem _ hy)]
theorem opsL_local {e e' : Operand → Option AV} : ∀ {l : List (Nat × Operand)}, (∀ x ∈ l.map (·.2), e x = e' x) → opsL e l = opsL e' l
  | [], _ => rfl
  | (i, x) :: r, h => by
    rw [opsL, opsL, h x (by simp), opsL_local fun y hy => h y (by simp only [List.map_cons]; exact List.mem_cons_of_mem _ hy)]
theorem opsL_mem {e : Operand → Option AV} : ∀ {l : List (Nat × Operand)} {vs : List AV}, opsL e l = some vs → ∀ v ∈ vs, ∃ x ∈ l.map (·.2), e x = some v
  | [], vs, h, v, hv => by simp only [opsL, Option.some.injEq] at h; subst h; cases hv
  | (i, x) :: r, vs, h, v, hv => by
    simp only [opsL] at h
    split at h
    · rename_i u us hu hus
      cases h
      rcases List.mem_cons.1 hv with e' | e'
      · subst e'; exact ⟨x, by simp, hu⟩
      obtain ⟨y, hy, hyv⟩ := opsL_mem hus v e'
      exact ⟨y, by simp only [List.map_cons]; exact List.mem_cons_of_mem _ hy, hyv⟩
    cases h
theorem evOp_local {e e' : Operand → Option AV} {h h' : Look} (he : ∀ x ∈ hZ op, e x = e' x) (hh : ∀ x ∈ hZ op, ∀ p, e x = some p → ∀ i ∈ lP p, h i = h' i) : uL P e h nx op = uL P e' h' nx op := by
  cases op
  case build t dB => simp only [uL]; rw [opsV_local he]
  case buildSlice t len dB =>
    simp only [uL]; rw [← opsL_local he]
    cases hp : opsL e dB.toList with
    | none => rfl
    | some ps =>
      simp only [pI]; rw [xX fun p hpm i hi => by obtain ⟨x, hx, hxp⟩ := opsL_mem hp p hpm; exact hh x hx p hxp i hi]
  case slice t x lo hi mx =>
    simp only [uL]
    rw [he x (by simp [hZ])]
    have h1 : lo.map e = lo.map e' := by
      cases lo with
      | none => rfl
      | some y => simp only [Option.map_some]; rw [he y (by simp [hZ])]
    have h2 : hi.map e = hi.map e' := by
      cases hi with
      | none => rfl
      | some y => simp only [Option.map_some]; rw [he y (by simp [hZ])]
    rw [h1, h2]
  case call c =>
    simp only [uL, evCall]
    simp only [hZ] at he hh
    generalize c.args.toList = as at he hh
    generalize c.argTypes.toList = ts
    generalize c.callee = cl
    split
    · rename_i x t
      rw [← he x (by simp)]
      cases hx : e x with
      | none => rfl
      | some p => simp only [lenAV_local (hh x (by simp) p hx)]
    · rename_i x y t t'
      rw [← he x (by simp), ← he y (by simp)]
      cases hx : e x with
      | none => rfl
      | some p =>
        cases hy : e y with
        | none => rfl
        | some q => simp only [evAppend, app1_local (hh x (by simp) p hx), app2_local (hh y (by simp) q hy)]
    · rename_i b x y _
      rw [← he x (by simp), ← he y (by simp)]
    rfl
  case makeFunc f first cap =>
    simp only [uL]
    rw [yT fun x hx => he x (by simp only [hZ]; exact List.mem_append.2 (.inl hx)), yT fun x hx => he x (by simp only [hZ]; exact List.mem_append.2 (.inr hx))]
  all_goals simp only [hZ, List.mem_cons, List.not_mem_nil, or_false, forall_eq_or_imp, forall_eq] at he hh
  all_goals simp only [uL]
  case move x => rw [he]
  case assign x => rw [he]
  case pick c x y => rw [he.1, he.2.1, he.2.2]
  case load t x =>
    rw [← he]
    cases hx : e x with
    | none => rfl
    | some p => exact evLoad_local (hh p hx)
  case store t x y =>
    rw [← he.1, ← he.2]
    cases hx : e x with
    | none => rfl
    | some p =>
      cases hy : e y with
      | none => rfl
      | some v => exact evStore_local (hh.1 p hx) (hh.2 v hy)
  case fieldAddr t x j => rw [he]
  case indexAddr t x y =>
    rw [← he.1, ← he.2]
    cases hx : e x with
    | none => rfl
    | some p =>
      cases hy : e y with
      | none => rfl
      | some v => exact evIndexAddr_local (hh.1 p hx)
  case index t x y => rw [he.1, he.2]
  case makeSlice t x y => rw [he.1, he.2]
  case nilCheck x => rw [he]
  case extract x i => rw [he]
  case makeInterface t x => rw [he]
  case unOp op t x => rw [he]
  case binOp op t x y t' =>
    rw [he.1]; split
    · rfl
    rw [he.2]
  case box t x => rw [he]
  case convert s t x => rw [he]
  case field t x j => rw [he]
end
end
section
variable [Globals]
theorem wX {β : Type} (τ : Nat → Nat) (g : AObj → β) (m : Nat) (o : β) : ∀ (l : Heap), get (l.map fun p => (τ p.1, g p.2)) m = some o → ∃ i o', get l i = some o' ∧ τ i = m ∧ g o' = o
  | [], h => by cases h
  | (k, x) :: r, h => by
    simp only [List.map_cons, Abs.get] at h
    split at h
    · rename_i e
      cases h
      exact ⟨k, x, by simp [Abs.get], e, rfl⟩
    rename_i e
    obtain ⟨i, o', h1, h2, h3⟩ := wX τ g m o r h
    refine ⟨i, o', ?_, h2, h3⟩
    unfold Abs.get
    rw [if_neg (fun e' => e (by rw [e']; exact h2))]
    exact h1
theorem zJ {β : Type} (τ : Nat → Nat) (g : AObj → β) : ∀ (l : Heap) (i : Nat) (o : AObj), (∀ i j oi oj, get l i = some oi → get l j = some oj → τ i = τ j → i = j) → get l i = some o → get (l.map fun p => (τ p.1, g p.2)) (τ i) = some (g o) := by
  intro l i o hinj hi
  cases hm : get (l.map fun p => (τ p.1, g p.2)) (τ i) with
  | none =>
    exfalso
    clear hinj
    induction l with
    | nil => cases hi
    | cons p r ih =>
      obtain ⟨k, x⟩ := p
      simp only [List.map_cons, Abs.get] at hm
      unfold Abs.get at hi; split at hm
      · cases hm
      rename_i e
      rw [if_neg (fun e' => e (by rw [e']))] at hi
      exact ih hi hm
  | some y =>
    obtain ⟨j, o', h1, h2, h3⟩ := wX τ g _ _ l hm
    have := hinj j i o' o h1 hi h2
    subst this; rw [h1] at hi; cases hi; rw [← h3]
def shift (σ : Nat → Nat) (n0 nx nw : Nat) : Nat → Nat := fun i => if n0 ≤ i ∧ i < n0 + nw then nx + (i - n0) else σ i
structure Fit (U : Nat → Prop) (H : Heap) (σ : Nat → Nat) (nd : Heap) (n0 nx nw : Nat) (H1 : Heap) : Prop where
  objs : ∀ i o, get nd i = some o → get H (σ i) = some (o.ren σ) ∧ UU n0 i ∧ o.bel (UU n0)
  inj : ∀ i j oi oj, get nd i = some oi → get nd j = some oj → σ i = σ j → i = j
  known : ∀ i, UU n0 i → U (σ i)
  dom : ∀ i o, get H1 i = some o → (∃ o', get nd i = some o') ∨ (n0 ≤ i ∧ i < n0 + nw)
  all : ∀ i o, get nd i = some o → ∃ o', get H1 i = some o'
  fresh : ∀ j, nx ≤ j → j < nx + nw → ¬ U j
  far : n0 + nw ≤ 1000
section
variable {C : Conc} {H : Heap} {U : Nat → Prop} {w : World} {σ : Nat → Nat} {nd : Heap} {n0 nx nw : Nat} {H1 : Heap}
def callee (C : Conc) (H : Heap) (σ : Nat → Nat) (nd : Heap) : Conc :=
  { ρ := fun i => C.ρ (σ i), one := fun i => C.one (σ i), own := fun i => C.own (σ i), B := C.B
    X := fun b => C.X b ∨ ∃ i o, get H i = some o ∧ (∀ j o', get nd j = some o' → σ j ≠ i) ∧ b ∈ C.own i }
theorem dV (hF : Fit U H σ nd n0 nx nw H1) (b : Nat) : (callee C H σ nd).avoid nd b ↔ C.avoid H b := by
  constructor
  · rintro ((h | ⟨i, o, hi, _, hb⟩) | ⟨i, o, hi, hb⟩)
    · exact .inl h
    · exact .inr ⟨i, o, hi, hb⟩
    exact .inr ⟨σ i, _, (hF.objs i o hi).1, hb⟩
  rintro (h | ⟨i, o, hi, hb⟩)
  · exact .inl (.inl h)
  by_cases hm : ∃ j o', get nd j = some o' ∧ σ j = i
  · obtain ⟨j, o', hj, rfl⟩ := hm
    exact .inr ⟨j, o', hj, hb⟩
  exact .inl (.inr ⟨i, o, hi, fun j o' hj e => hm ⟨j, o', hj, e⟩, hb⟩)
theorem RelH.callee (hR : RelH C H U w) (hF : Fit U H σ nd n0 nx nw H1) : RelH (callee C H σ nd) nd (UU n0) w where
  obj := fun i o hi => ((hR.obj _ _ (hF.objs i o hi).1).mono (av' := (Abs.callee C H σ nd).avoid nd) (fun b _ hb => (dV hF b).1 hb) (fun _ _ _ => rfl) (fun _ _ => rfl)).unren (ρ := C.ρ)
  apart := fun i j oi oj b hne hi hj hb hb' => hR.apart (σ i) (σ j) _ _ b (fun e => hne (hF.inj i j oi oj hi hj e)) (hF.objs i oi hi).1 (hF.objs j oj hj).1 hb hb'
  xapart := fun i o b hi hb hx => by
    rcases hx with hx | ⟨j, oj, hj, hn, hb'⟩
    · exact hR.xapart _ _ b (hF.objs i o hi).1 hb hx
    exact hR.apart (σ i) j _ oj b (hn i o hi) (hF.objs i o hi).1 hj hb hb'
  xlt := fun b hx => by
    rcases hx with hx | ⟨j, oj, hj, hn, hb'⟩
    · exact hR.xlt b hx
    exact (hR.obj j oj hj).own_lt b hb'
  objb := fun i o hi => (hF.objs i o hi).2
  gl := hR.glK (fun b _ hb => (dV hF b).1 hb) (fun _ _ _ _ _ _ => rfl)
open Classical in
noncomputable def back (C C1 : Conc) (σ : Nat → Nat) (nd : Heap) (n0 nx nw : Nat) : Conc :=
  { ρ := fun i => if nx ≤ i ∧ i < nx + nw then C1.ρ (n0 + (i - nx)) else C.ρ i
    one := fun i => by split; exact C1.one _; exact C.one _
    own := fun i => if nx ≤ i ∧ i < nx + nw then C1.own (n0 + (i - nx)) else if h : ∃ j o', get nd j = some o' ∧ σ j = i then C1.own (Classical.choose h) else C.own i
    X := C.X, B := C.B }
open Classical in
theorem RelH.back (hR : RelH C H U w) (hF : Fit U H σ nd n0 nx nw H1) {C1 : Conc} {w' : World} (hR1 : RelH C1 H1 (UU (n0 + nw)) w') (hs : StepR (Abs.callee C H σ nd) nd (UU n0) w C1 H1 w') :
    let H2 := over H (H1.map fun p => (shift σ n0 nx nw p.1, p.2.ren (shift σ n0 nx nw)))
    let C2 := Abs.back C C1 σ nd n0 nx nw
    RelH C2 H2 (addU U nx nw) w' ∧ StepR C H U w C2 H2 w' ∧ ∀ r v, r.bel (UU (n0 + nw)) → Rep C1.ρ (C1.avoid H1) w'.heap r v → Rep C2.ρ (C2.avoid H2) w'.heap (r.ren (shift σ n0 nx nw)) v ∧ (r.ren (shift σ n0 nx nw)).bel (addU U nx nw) := by
  intro H2 C2
  have hnew : ∀ i, U i → ¬ (nx ≤ i ∧ i < nx + nw) := fun i hu ⟨h1, h2⟩ => hF.fresh i h1 h2 hu
  have hτold : ∀ i, UU n0 i → shift σ n0 nx nw i = σ i := fun i hu => by
    unfold shift; rw [if_neg]
    rintro ⟨h1, h2⟩
    have := hF.far
    rcases hu with hu | hu <;> omega
  have hτnew : ∀ i, n0 ≤ i → i < n0 + nw → shift σ n0 nx nw i = nx + (i - n0) := fun i h1 h2 => if_pos ⟨h1, h2⟩
  have hsplit : ∀ i, UU (n0 + nw) i → UU n0 i ∨ (n0 ≤ i ∧ i < n0 + nw) := fun i hu => by
    rcases hu with hu | hu
    · rcases Nat.lt_or_ge i n0 with h | h
      · exact .inl (.inl h)
      exact .inr ⟨h, hu⟩
    exact .inl (.inr hu)
  have hknown : ∀ i, UU (n0 + nw) i → addU U nx nw (shift σ n0 nx nw i) := fun i hu => by
    rcases hsplit i hu with h | ⟨h1, h2⟩
    · rw [hτold i h]; exact .inl (hF.known i h)
    rw [hτnew i h1 h2]; exact .inr (by omega)
  have hρ : ∀ i, UU (n0 + nw) i → C2.ρ (shift σ n0 nx nw i) = C1.ρ i := fun i hu => by
    rcases hsplit i hu with h | ⟨h1, h2⟩
    · rw [hτold i h]
      show (if _ then _ else _) = _
      rw [if_neg (hnew _ (hF.known i h))]
      exact (hs.ρ i h).symm
    rw [hτnew i h1 h2]
    show (if _ then _ else _) = _
    rw [if_pos (by omega)]
    congr 1
    omega
  have hmem1 : ∀ i o, get H1 i = some o → UU (n0 + nw) i := fun i o hi => (hR1.objb i o hi).1
  have hown1 : ∀ i o, get H1 i = some o → C2.own (shift σ n0 nx nw i) = C1.own i := fun i o hi => by
    rcases hF.dom i o hi with ⟨o', ho'⟩ | ⟨h1, h2⟩
    · have hu := (hF.objs i o' ho').2.1
      rw [hτold i hu]
      show (if _ then _ else if h : _ then _ else _) = _
      have hex : ∃ j o'', get nd j = some o'' ∧ σ j = σ i := ⟨i, o', ho', rfl⟩
      rw [if_neg (hnew _ (hF.known i hu)), dif_pos hex]
      obtain ⟨o2, h1, h2⟩ := Classical.choose_spec hex
      rw [hF.inj _ i _ _ h1 ho' h2]
    rw [hτnew i h1 h2]
    show (if _ then _ else _) = _
    rw [if_pos (by omega)]
    congr 1
    omega
  have hinj1 : ∀ i j oi oj, get H1 i = some oi → get H1 j = some oj → shift σ n0 nx nw i = shift σ n0 nx nw j → i = j := fun i j oi oj hi hj e => by
    rcases hF.dom i oi hi with ⟨o1, ho1⟩ | ⟨h1, h2⟩
    · have hu := (hF.objs i o1 ho1).2.1
      rcases hF.dom j oj hj with ⟨o2, ho2⟩ | ⟨h3, h4⟩
      · have hu2 := (hF.objs j o2 ho2).2.1
        rw [hτold i hu, hτold j hu2] at e
        exact hF.inj i j _ _ ho1 ho2 e
      rw [hτold i hu, hτnew j h3 h4] at e
      exact absurd ⟨by omega, by omega⟩ (hnew _ (hF.known i hu))
    rcases hF.dom j oj hj with ⟨o2, ho2⟩ | ⟨h3, h4⟩
    · have hu2 := (hF.objs j o2 ho2).2.1
      rw [hτold j hu2, hτnew i h1 h2] at e
      exact absurd ⟨by omega, by omega⟩ (hnew _ (hF.known j hu2))
    rw [hτnew i h1 h2, hτnew j h3 h4] at e; omega
  have hcase : ∀ i o, get H2 i = some o → (∃ j o', get H1 j = some o' ∧ shift σ n0 nx nw j = i ∧ o'.ren (shift σ n0 nx nw) = o) ∨
      (get H i = some o ∧ C2.own i = C.own i ∧ ∀ j o', get nd j = some o' → σ j ≠ i) := fun i o hi => by
    rw [bB] at hi
    cases hm : get (H1.map fun p => (shift σ n0 nx nw p.1, p.2.ren (shift σ n0 nx nw))) i with
    | some y =>
      rw [hm] at hi; cases hi
      exact .inl (wX _ _ _ _ _ hm)
    | none =>
      rw [hm] at hi
      have hun : ∀ j o', get nd j = some o' → σ j ≠ i := fun j o' hj e => by
        obtain ⟨o2, ho2⟩ := hF.all j o' hj
        have := zJ (shift σ n0 nx nw) (AObj.ren (shift σ n0 nx nw)) H1 j o2 hinj1 ho2
        rw [hτold j (hF.objs j o' hj).2.1, e, hm] at this; cases this
      refine .inr ⟨hi, ?_, hun⟩
      show (if _ then _ else if h : _ then _ else _) = _
      rw [if_neg (hnew _ (hR.objb i o hi).1), dif_neg]
      rintro ⟨j, o', hj, e⟩
      exact hun j o' hj e
  have hW1 : ∀ b, (Abs.callee C H σ nd).W nd b → C.W H b := fun b ⟨i, o, hi, hb⟩ => ⟨σ i, _, (hF.objs i o hi).1, hb⟩
  have hav21 : ∀ b, C2.avoid H2 b → C1.avoid H1 b := fun b hb => by
    rcases hb with hb | ⟨i, o, hi, hb⟩
    · exact .inl (by rw [hs.X]; exact .inl hb)
    rcases hcase i o hi with ⟨j, o', hj, rfl, _⟩ | ⟨hi', hown, hun⟩
    · exact .inr ⟨j, o', hj, by rw [← hown1 j o' hj]; exact hb⟩
    rw [hown] at hb
    exact .inl (by rw [hs.X]; exact .inr ⟨i, o, hi', hun, hb⟩)
  have hav1 : ∀ b, b < w.heap.size → C1.avoid H1 b → C.avoid H b := fun b hb hq => by
    rw [← dV hF b]
    rcases hq with hq | hq
    · exact .inl (by rw [← hs.X]; exact hq)
    rcases hs.wr b hq with h1 | h1
    · exact .inr h1
    omega
  have hstep : StepR C H U w C2 H2 w' :=
    { os := hs.os, tape := hs.tape, output := hs.output, size := hs.size
      keep := fun k hk hn => hs.keep k hk fun q => hn (hW1 k q)
      wr := fun b ⟨i, o, hi, hb⟩ => by
        rcases hcase i o hi with ⟨j, o', hj, rfl, _⟩ | ⟨hi', hown, hun⟩
        · rcases hs.wr b ⟨j, o', hj, by rw [← hown1 j o' hj]; exact hb⟩ with h1 | h1
          · exact .inl (hW1 b h1)
          exact .inr h1
        exact .inl ⟨i, o, hi', by rw [← hown]; exact hb⟩
      X := rfl, B := rfl
      ρ := fun i hi => if_neg (hnew i hi) }
  have hrep : ∀ r v, r.bel (UU (n0 + nw)) → Rep C1.ρ (C1.avoid H1) w'.heap r v → Rep C2.ρ (C2.avoid H2) w'.heap (r.ren (shift σ n0 nx nw)) v := fun r v hr hrr =>
    Rep.ren (ρ := C2.ρ) ((hrr.mono (av' := C2.avoid H2) (fun b _ => hav21 b) (fun _ _ _ => rfl)).named (ρ' := fun i => C2.ρ (shift σ n0 nx nw i)) hρ hr)
  refine ⟨{ obj := fun i o hi => ?_, apart := fun i j oi oj b hne hi hj hb hb' => ?_, xapart := fun i o b hi hb hx => ?_, xlt := fun b hx => Nat.lt_of_lt_of_le (hR.xlt b hx) hs.size, objb := fun i o hi => ?_, gl := fun g hg => let ⟨o, h1, h2, h3⟩ := hR1.gl g hg; ⟨o, h1, h2, fun q => h3 (hav21 g q)⟩ }, hstep, fun r v hr hrr => ⟨hrep r v hr hrr, AV.bel_ren.2 (AV.bel_mono hknown r hr)⟩⟩
  · rcases hcase i o hi with ⟨j, o', hj, rfl, rfl⟩ | ⟨hi', hown, hun⟩
    · rw [hown1 j o' hj, hρ j (hmem1 j o' hj)]
      exact cC.ren (ρ := C2.ρ) (((hR1.obj j o' hj).mono (av' := C2.avoid H2) (fun b _ => hav21 b) (fun _ _ _ => rfl) (fun _ _ => rfl)).named (ρ' := fun i => C2.ρ (shift σ n0 nx nw i)) hρ (hR1.objb j o' hj).2)
    have hkeep : ∀ b, b ∈ C.own i → w'.heap[b]? = w.heap[b]? := fun b hb => hs.keep b ((hR.obj i o hi').own_lt b hb) fun ⟨j, oj, hj, hb'⟩ =>
      hR.apart i (σ j) o _ b (fun e => hun j oj hj e.symm) hi' (hF.objs j oj hj).1 hb hb'
    have hρi : C2.ρ i = C.ρ i := if_neg (hnew i (hR.objb i o hi').1)
    rw [hown, hρi]
    exact ((hR.obj i o hi').mono (av' := C2.avoid H2) (fun b hb hq => hav1 b hb (hav21 b hq)) (fun b hb hn => hs.keep b hb fun q => hn (.inr (hW1 b q))) hkeep).named (ρ' := C2.ρ) (fun j hj => if_neg (hnew j hj)) (hR.objb i o hi').2
  · rcases hcase i oi hi with ⟨i', oi', hi', rfl, _⟩ | ⟨hi', hown, hun⟩
    · rw [hown1 i' oi' hi'] at hb
      rcases hcase j oj hj with ⟨j', oj', hj', rfl, _⟩ | ⟨hj', hown2, hun2⟩
      · rw [hown1 j' oj' hj'] at hb'
        exact hR1.apart i' j' oi' oj' b (fun e => hne (by rw [e])) hi' hj' hb hb'
      rw [hown2] at hb'
      exact hR1.xapart i' oi' b hi' hb (by rw [hs.X]; exact .inr ⟨j, oj, hj', hun2, hb'⟩)
    rw [hown] at hb
    rcases hcase j oj hj with ⟨j', oj', hj', rfl, _⟩ | ⟨hj', hown2, hun2⟩
    · rw [hown1 j' oj' hj'] at hb'
      exact hR1.xapart j' oj' b hj' hb' (by rw [hs.X]; exact .inr ⟨i, oi, hi', hun, hb⟩)
    rw [hown2] at hb'
    exact hR.apart i j oi oj b hne hi' hj' hb hb'
  · rcases hcase i o hi with ⟨j, o', hj, rfl, _⟩ | ⟨hi', hown, hun⟩
    · rw [hown1 j o' hj] at hb
      exact hR1.xapart j o' b hj hb (by rw [hs.X]; exact .inl hx)
    rw [hown] at hb
    exact hR.xapart i o b hi' hb hx
  rcases hcase i o hi with ⟨j, o', hj, rfl, rfl⟩ | ⟨hi', hown, hun⟩
  · exact ⟨hknown j (hmem1 j o' hj), AObj.bel_ren.2 (AObj.bel_mono hknown o' (hR1.objb j o' hj).2)⟩
  exact ⟨.inl (hR.objb i o hi').1, AObj.bel_mono (fun _ h => .inl h) o (hR.objb i o hi').2⟩
end
end
section
variable [Globals]
variable {x val : AV} {rd rt : List Nat} {i g : Nat} {want b : Bool} {c : Prop} {a : Act} {w : World} {U : Nat → Prop} {C : Conc}
def vG (ds : List (Option Tmp)) (tmps : Array Value) (j : Nat) : Option Bool :=
  match ((ds[j]?).join).bind (tmps[·]?) with
  | some (.bool b) => some b
  | _ => none
theorem yielded_eq (ops : Array Oper) (tmps : Array Value) (j : Nat) : yielded ops tmps j = vG (ops.toList.map (·.dst)) tmps j := by
  unfold yielded vG; rw [List.getElem?_map, Array.getElem?_toList]
  cases ops[j]? <;> rfl
def GS (P : Program) (ro : Option Nat) (ds : List (Option Tmp)) (o : Oper) (a : Act) (w : World) (next : Act → World → Prop) (Q : Exit → Act → World → Prop) : Prop :=
  if Region.wanted o (vG ds a.tmps) then o.wpIn (FW ro) 0 P a w next Q else (∀ f, o.about P w a.eval = some f → (FW ro).fn f) ∧ next (a.put o.dst undef) w
def bC (P : Program) (ro : Option Nat) (N : Nat) (ds : List (Option Tmp)) (o : Oper) (b0 : Nat) (E0 : Env) (H0 : Heap) (rt rd : List Nat) (val : AV) (ps : Heap) (nx nw : Nat) : Prop :=
  ∀ (E : Env) (H : Heap) (U : Nat → Prop), (∀ t ∈ rt, get E t = get E0 t) → (∀ i ∈ rd, get H i = get H0 i) → (∀ j, UU b0 j → U j) → (∀ j, nx ≤ j → j < nx + nw → ¬ U j) →
    ∀ (C : Conc) (a : Act) (w : World) (next : Act → World → Prop) (Q : Exit → Act → World → Prop), Rel C N E H U a w →
      (∀ C' a' w', Rel C' N (aU E o.dst val) (over H ps) (addU U nx nw) a' w' → StepR C H U w C' (over H ps) w' → next a' w') → GS P ro ds o a w next Q
structure Rec where
  rt : List Nat
  ro : List Nat
  wt : Option Nat
  wo : List Nat
  al : Heap
  ps : Heap
def LStepA (P : Program) (ro : Option Nat) (N : Nat) (ds : List (Option Tmp)) (o : Oper) (b0 : Nat) (E0 : Env) (H0 : Heap) (rt rd : List Nat) (al : Heap) (val : AV) (ps : Heap) (nx nw : Nat) : Prop :=
  ∀ (E : Env) (H : Heap) (U : Nat → Prop), (∀ t ∈ rt, get E t = get E0 t) → (∀ i ∈ rd, get H i = get H0 i ∨ ∃ x, get al i = some x ∧ get H i = some x) → (∀ j, UU b0 j → U j) → (∀ j, nx ≤ j → j < nx + nw → ¬ U j) →
    ∀ (C : Conc) (a : Act) (w : World) (next : Act → World → Prop) (Q : Exit → Act → World → Prop), Rel C N E H U a w →
      (∀ C' a' w', Rel C' N (aU E o.dst val) (over H ps) (addU U nx nw) a' w' → StepR C H U w C' (over H ps) w' → next a' w') → GS P ro ds o a w next Q
theorem bC.toA {P : Program} {ro : Option Nat} {N : Nat} {ds : List (Option Tmp)} {o : Oper} {b0 : Nat} {E0 : Env} {H0 : Heap} {ps : Heap} {nx nw : Nat} (h : bC P ro N ds o b0 E0 H0 rt rd val ps nx nw) :
    LStepA P ro N ds o b0 E0 H0 rt rd [] val ps nx nw :=
  fun E H U hE hH => h E H U hE fun i hi => (hH i hi).resolve_right (by rintro ⟨x, hx, _⟩; cases hx)
def VStep (P : Program) (ro : Option Nat) (N : Nat) (ds : List (Option Tmp)) (b0 : Nat) (o : Oper) (E : Env) (H : Heap) (nx : Nat) (K : Rec → AK) : Prop :=
  ∃ rt rd val ps nw, (nw = 0 ∨ nx + nw ≤ 1000) ∧ bC P ro N ds o b0 E H rt rd val ps nx nw ∧ K ⟨rt, rd, o.dst, ps.map (·.1), [], ps⟩ (aU E o.dst val) (over H ps) (nx + nw)
theorem aO {α : Type} (k : Nat) (x : α) (r : List (Nat × α)) (n : Nat) : get ((k, x) :: r) n = if k = n then some x else get r n := rfl
def tO : List Operand → List Nat
  | [] => []
  | .tmp t :: r => t :: tO r
  | _ :: r => tO r
theorem zA {t : Nat} : ∀ {xs : List Operand}, Operand.tmp t ∈ xs → t ∈ tO xs
  | x :: xs, h => by
    rcases List.mem_cons.1 h with e | e
    · subst e; exact List.mem_cons_self
    cases x <;> simp only [tO] <;> first | exact List.mem_cons_of_mem _ (zA e) | exact zA e
theorem oCg {E E' : Env} {xs : List Operand} (h : ∀ t ∈ tO xs, get E t = get E' t) : ∀ x ∈ xs, opv E x = opv E' x := fun x hx => by
  cases x with
  | tmp t => exact h t (zA hx)
  | _ => rfl
def zK (E : Env) : List Operand → List Nat
  | [] => []
  | x :: r => match opv E x with
    | some p => lP p ++ zK E r
    | none => zK E r
theorem yP {E : Env} {x : Operand} {p : AV} {i : Nat} (hp : opv E x = some p) (hi : i ∈ lP p) : ∀ {xs : List Operand}, x ∈ xs → i ∈ zK E xs
  | y :: ys, h => by
    unfold zK
    rcases List.mem_cons.1 h with e | e
    · subst e; rw [hp]
      exact List.mem_append.2 (.inl hi)
    split
    · exact List.mem_append.2 (.inr (yP hp hi e))
    exact yP hp hi e
section
variable {P : Program} {ro : Option Nat} {N : Nat} {o : Oper} {E : Env} {H : Heap} {nx b0 : Nat} {ds : List (Option Tmp)} {K : Rec → AK}
theorem qN {next : Act → World → Prop} {Q : Exit → Act → World → Prop} (hg : o.guard = none) (h : o.wpIn (FW ro) 0 P a w next Q) : GS P ro ds o a w next Q := by
  unfold GS Region.wanted; rw [hg]; exact h
def rdsOf (E : Env) (op : Op) : List Nat := match op with
  | .move _ | .assign _ => []
  | op => zK E (hZ op)
section
variable {E : Env}
end
theorem lstep_ev {r : Ev} (hg : o.guard = none) (hN : ∀ d, o.dst = some d → d < N) (h : uL P (opv E) (get H) nx o.op = some r) (hok : r.ok) :
    bC P ro N ds o b0 E H (tO (hZ o.op)) (rdsOf E o.op) r.val r.ps nx r.nw := by
  intro E' H' U hE hH _ hnx C a w next Q hR hK
  have hops := oCg hE
  have hloc : uL P (opv E') (get H') nx o.op = some r := by
    rw [← h]
    by_cases hm : (∃ x, o.op = .move x) ∨ ∃ x, o.op = .assign x
    · rcases hm with ⟨x, e⟩ | ⟨x, e⟩ <;> rw [e] <;> simp only [uL] <;> rw [hops x (by rw [e]; simp [hZ])]
    have hr : rdsOf E o.op = zK E (hZ o.op) := by
      unfold rdsOf; split
      · exact absurd (.inl ⟨_, by assumption⟩) hm
      · exact absurd (.inr ⟨_, by assumption⟩) hm
      rfl
    rw [hr] at hH
    exact evOp_local hops fun x hx p hp i hi => hH i (yP (by rw [← hops x hx]; exact hp) hi hx)
  exact qN hg ((evOp_sound (U := U) rfl hN hloc hok (fun hw => hnx nx (Nat.le_refl _) (by omega))).2 C a w next Q hR hK)
def unwhen : AV → AV
  | .when _ x => x
  | x => x
def whenOk (G : Prop) : Option AV → Prop
  | some (.when c _) => G → c
  | _ => True
def unE (E : Env) : List Nat → Env
  | [] => []
  | t :: r => match get E t with
    | some x => (t, unwhen x) :: unE E r
    | none => unE E r
def unOk (G : Prop) (E : Env) : List Nat → Prop
  | [] => True
  | t :: r => whenOk G (get E t) ∧ unOk G E r
theorem unE_get {E : Env} {t : Nat} : ∀ {rt : List Nat}, t ∈ rt → get (unE E rt) t = (get E t).map unwhen
  | s :: r, h => by
    unfold unE
    by_cases e : s = t
    · subst e
      cases hs : get E s with
      | some x => simp [Abs.get]
      | none =>
        simp only [Option.map_none]
        clear h
        induction r with
        | nil => rfl
        | cons q r ih =>
          unfold unE
          cases hq : get E q with
          | some y =>
            simp only []
            rw [aO, if_neg (fun e => by rw [e, hs] at hq; cases hq)]
            exact ih
          | none => exact ih
    have h' : t ∈ r := by
      rcases List.mem_cons.1 h with e' | e'
      · exact absurd e'.symm e
      exact e'
    cases hs : get E s with
    | some x => simp only []; rw [aO, if_neg e]; exact unE_get h'
    | none => exact unE_get h'
theorem unE_sub {E : Env} {t : Nat} {x : AV} : ∀ {rt : List Nat}, get (unE E rt) t = some x → ∃ y, get E t = some y ∧ x = unwhen y ∧ t ∈ rt
  | [], h => by cases h
  | s :: r, h => by
    unfold unE at h; split at h
    · rename_i z hz
      unfold Abs.get at h; split at h
      · rename_i e
        subst e; cases h
        exact ⟨z, hz, rfl, List.mem_cons_self⟩
      obtain ⟨y, h1, h2, h3⟩ := unE_sub h
      exact ⟨y, h1, h2, List.mem_cons_of_mem _ h3⟩
    obtain ⟨y, h1, h2, h3⟩ := unE_sub h
    exact ⟨y, h1, h2, List.mem_cons_of_mem _ h3⟩
theorem zZ {G : Prop} {E : Env} {t : Nat} : ∀ {rt : List Nat}, unOk G E rt → t ∈ rt → whenOk G (get E t)
  | s :: r, h, ht => by
    rcases List.mem_cons.1 ht with e | e
    · subst e; exact h.1
    exact zZ h.2 e
theorem iX {α : Type} (n : Nat) (l' : List (Nat × α)) : ∀ l : List (Nat × α), get (l ++ l') n = match get l n with | some x => some x | none => get l' n
  | [] => rfl
  | (k, x) :: r => by
    show get ((k, x) :: (r ++ l')) n = _
    rw [aO, aO]
    by_cases h : k = n
    · simp [h]
    simp only [h, if_false]; exact iX n l' r
theorem rep_unwhen {ρ : Nat → Value} {av : Nat → Prop} {hp : Array Obj} {v : Value} {G : Prop} (hr : Rep ρ av hp x v) (hw : whenOk G (some x)) (hG : G) : Rep ρ av hp (unwhen x) v := by
  cases x with
  | when c y =>
    cases hr with
    | when _ _ _ h _ => exact h (hw hG)
  | _ => exact hr
theorem bel_unwhen (h : x.bel U) : (unwhen x).bel U := by cases x <;> exact h
theorem wanted_guard (hR : Rel C N E H U a w) (hg : o.guard = some (i, want)) (hi : (ds[i]?).join = some g) (hE : get E g = some x) (hs : iE x = some (c, b)) :
    Region.wanted o (vG ds a.tmps) = true ↔ c ∧ b = want := by
  obtain ⟨hlt, _, hr⟩ := hR.env g x hE
  have hsz : g < a.tmps.size := by rw [hR.size]; exact hlt
  have hgd : a.tmps[g]? = some (a.tmps.getD g undef) := by simp [Array.getD_eq_getD_getElem?, hsz]
  unfold Region.wanted; rw [hg]
  show (vG ds a.tmps i == some want) = true ↔ _
  unfold vG; rw [hi]; simp only [Option.bind_some, hgd]
  generalize a.tmps.getD g undef = v at hr
  by_cases hc : c
  · have hv := rep_strip hs hr hc
    subst hv
    simp [hc]
  have hu : v = .tuple #[] := by
    cases x with
    | raw u => cases u <;> simp [iE] at hs; exact absurd hs.1 hc
    | when c' y =>
      cases hr with
      | when _ _ _ h9 h' =>
        clear h9
        cases y with
        | raw u =>
          cases u <;> simp only [iE, Option.some.injEq, Prod.mk.injEq, reduceCtorEq] at hs
          exact h' (by rw [hs.1]; exact hc)
        | _ => simp [iE] at hs
    | _ => simp [iE] at hs
  subst hu
  simp [hc]
theorem Rel.more (hR : Rel C N E H U a w) {E1 : Env} (h : ∀ t x, get E1 t = some x → t < N ∧ x.bel U ∧ Rep C.ρ (C.avoid H) w.heap x (a.tmps.getD t undef)) : Rel C N (E1 ++ E) H U a w :=
  { toRelH := hR.toRelH, size := hR.size, hB := hR.hB, nodup := hR.nodup, marks := hR.marks
    env := fun t x ht => by
      rw [iX] at ht; split at ht
      · rename_i y hy
        cases ht
        exact h t x hy
      exact hR.env t x ht }
theorem zP {rt rd ru : List Nat} {Eg : Env} (hru : ∀ t ∈ ru, t ∈ rt) (hEg : ∀ t ∈ rt, get Eg t = get (unE E ru ++ E) t) (hN : ∀ d, o.dst = some d → d < N) (hg : o.guard = some (i, want)) (hi : (ds[i]?).join = some g) (hE : get E g = some x) (hs : iE x = some (c, b))
    (hun : unOk (c ∧ b = want) E ru) (h : c ∧ b = want → bC P ro N ds { o with guard := none } b0 Eg H rt rd val [] nx 0) (hb : val.bel (UU b0)) : bC P ro N ds o b0 E H (g :: rt) rd (.when (c ∧ b = want) val) [] nx 0 := by
  intro E' H' U hE' hH' hU hnx C a w next Q hR hK
  have hEgg : get E' g = some x := (hE' g List.mem_cons_self).trans hE
  have hw := wanted_guard (o := o) (ds := ds) hR hg hi hEgg hs
  unfold GS
  by_cases hG : c ∧ b = want
  · rw [if_pos (hw.2 hG)]
    have hR2 : Rel C N (unE E ru ++ E') H' U a w := hR.more fun t y hy => by
      obtain ⟨z, hz, hyz, ht⟩ := unE_sub hy
      obtain ⟨h1, h2, h3⟩ := hR.env t z ((hE' t (List.mem_cons_of_mem _ (hru t ht))).trans hz)
      have hok := zZ hun ht
      rw [hz] at hok; subst hyz
      exact ⟨h1, bel_unwhen h2, rep_unwhen h3 hok hG⟩
    have hl := h hG (unE E ru ++ E') H' U (fun t ht => by
      rw [hEg t ht, iX, iX, hE' t (List.mem_cons_of_mem _ ht)]) hH' hU hnx C a w next Q hR2
    have hl2 := hl fun C' a' w' hR' hs' => by
      refine hK C' a' w' { toRelH := hR'.toRelH, size := hR'.size, hB := hR'.hB, nodup := hR'.nodup, marks := hR'.marks, env := fun t y ht => ?_ } hs'
      have henv := hR'.env
      cases hd : o.dst with
      | none =>
        simp only [hd, aU] at ht henv
        by_cases hq : ∃ z, get (unE E ru) t = some z
        · obtain ⟨z, hz⟩ := hq
          obtain ⟨u, hu, hzu, htr⟩ := unE_sub hz
          have hE2 := (hE' t (List.mem_cons_of_mem _ (hru t htr))).trans hu
          rw [hE2] at ht
          obtain rfl : u = y := Option.some.inj ht
          obtain ⟨h1, h2, h3⟩ := henv t z (by rw [iX, hz])
          have hok := zZ hun htr
          rw [hu] at hok; subst hzu
          refine ⟨h1, ?_, ?_⟩
          · cases u <;> exact h2
          cases u with
          | when c' u' => exact .when _ _ _ (fun _ => h3) (fun hn => absurd (hok hG) hn)
          | _ => exact h3
        refine henv t y ?_
        rw [iX]
        cases hz : get (unE E ru) t with
        | some z => exact absurd ⟨z, hz⟩ hq
        | none => exact ht
      | some d =>
        simp only [hd, aU, Abs.get] at ht henv
        by_cases hdt : d = t
        · rw [if_pos hdt] at ht; cases ht
          obtain ⟨h1, h2, h3⟩ := henv t val (by rw [if_pos hdt])
          exact ⟨h1, h2, .when _ _ _ (fun _ => h3) (fun hn => absurd hG hn)⟩
        rw [if_neg hdt] at ht
        by_cases hq : ∃ z, get (unE E ru) t = some z
        · obtain ⟨z, hz⟩ := hq
          obtain ⟨u, hu, hzu, htr⟩ := unE_sub hz
          have hE2 := (hE' t (List.mem_cons_of_mem _ (hru t htr))).trans hu
          rw [hE2] at ht
          obtain rfl : u = y := Option.some.inj ht
          obtain ⟨h1, h2, h3⟩ := henv t z (by rw [if_neg hdt, iX, hz])
          have hok := zZ hun htr
          rw [hu] at hok; subst hzu
          refine ⟨h1, ?_, ?_⟩
          · cases u <;> exact h2
          cases u with
          | when c' u' => exact .when _ _ _ (fun _ => h3) (fun hn => absurd (hok hG) hn)
          | _ => exact h3
        refine henv t y ?_
        rw [if_neg hdt, iX]
        cases hz : get (unE E ru) t with
        | some z => exact absurd ⟨z, hz⟩ hq
        | none => exact ht
    unfold GS Region.wanted at hl2
    simp only [if_true] at hl2
    exact hl2
  rw [if_neg (fun q => hG (hw.1 q))]
  refine ⟨fun _ _ => trivial, hK C _ w ?_ (StepR.refl C H' U w)⟩
  rw [aU0]
  exact hR.put hN (.when _ _ _ (fun hc => absurd hc hG) (fun _ => rfl)) (AV.bel_mono hU val hb)
theorem cH (hN : ∀ d, o.dst = some d → d < N) (hg : o.guard = some (i, want)) (hi : (ds[i]?).join = some g) (hE : get E g = some x) (hs : iE x = some (c, b))
    (hun : unOk (c ∧ b = want) E rt) (h : c ∧ b = want → bC P ro N ds { o with guard := none } b0 (unE E rt) H rt rd val [] nx 0) (hb : val.bel (UU b0)) : bC P ro N ds o b0 E H (g :: rt) rd (.when (c ∧ b = want) val) [] nx 0 :=
  zP (fun _ h => h) (fun t ht => by
    rw [iX]
    cases hq : get (unE E rt) t with
    | some y => rfl
    | none =>
      rw [unE_get ht] at hq
      simp only [Option.map_eq_none_iff] at hq
      exact hq.symm) hN hg hi hE hs hun h hb
def rdG : Op → List Nat
  | .pick c _ _ => tO [c]
  | o => tO (hZ o)
def xN (E : Env) : List Nat → Env
  | [] => []
  | t :: r => match get E t with
    | some x => (t, x) :: xN E r
    | none => xN E r
def envG (E : Env) : Op → Env
  | .pick c x y => unE E (tO [c]) ++ xN E (tO [x, y])
  | o => unE E (tO (hZ o))
theorem keepE_get {E : Env} {t : Nat} : ∀ {rt : List Nat}, (t ∈ rt → get (xN E rt) t = get E t) ∧ (t ∉ rt → get (xN E rt) t = none)
  | [] => ⟨fun h => (List.not_mem_nil h).elim, fun _ => rfl⟩
  | s :: r => by
    have ih := keepE_get (E := E) (t := t) (rt := r)
    unfold xN
    by_cases e : s = t
    · subst e
      refine ⟨fun _ => ?_, fun h => absurd List.mem_cons_self h⟩
      cases hs : get E s with
      | some x => simp [Abs.get]
      | none =>
        show get (xN E r) s = none
        by_cases h : s ∈ r
        · rw [ih.1 h, hs]
        exact ih.2 h
    refine ⟨fun h => ?_, fun h => ?_⟩
    · have h' : t ∈ r := by
        rcases List.mem_cons.1 h with e' | e'
        · exact absurd e'.symm e
        exact e'
      cases hs : get E s with
      | some x => simp only []; rw [aO, if_neg e]; exact ih.1 h'
      | none => exact ih.1 h'
    · have h' : t ∉ r := fun q => h (List.mem_cons_of_mem _ q)
      cases hs : get E s with
      | some x => simp only []; rw [aO, if_neg e]; exact ih.2 h'
      | none => exact ih.2 h'
theorem rdG_sub (op : Op) : ∀ t ∈ rdG op, t ∈ tO (hZ op) := by
  intro t ht; cases op
  case pick c x y =>
    cases c with
    | tmp s => simp only [rdG, hZ, tO, List.mem_cons, List.not_mem_nil, or_false] at ht ⊢; exact .inl ht
    | _ => simp only [rdG, tO, List.not_mem_nil] at ht
  all_goals exact ht
theorem envG_get (E : Env) (op : Op) : ∀ t ∈ tO (hZ op), get (envG E op) t = get (unE E (rdG op) ++ E) t := by
  intro t ht
  have hno : ∀ {rt : List Nat}, t ∈ rt → get (unE E rt) t = none → get E t = none := fun hm hq => by
    rw [unE_get hm] at hq
    simpa only [Option.map_eq_none_iff] using hq
  have old : ∀ rt : List Nat, t ∈ rt → get (unE E rt) t = get (unE E rt ++ E) t := fun rt hm => by
    rw [iX]
    cases hq : get (unE E rt) t with
    | some y => rfl
    | none => exact (hno hm hq).symm
  cases op
  case pick c x y =>
    show get (unE E (tO [c]) ++ xN E (tO [x, y])) t = get (unE E (tO [c]) ++ E) t
    rw [iX, iX]
    cases hq : get (unE E (tO [c])) t with
    | some y => rfl
    | none =>
      show get (xN E (tO [x, y])) t = get E t
      by_cases h2 : t ∈ tO [x, y]
      · exact keepE_get.1 h2
      rw [keepE_get.2 h2]
      have h1 : t ∈ tO [c] := by
        have ht' : t ∈ tO [c, x, y] := ht
        cases c with
        | tmp s =>
          simp only [tO] at ht' ⊢
          rcases List.mem_cons.1 ht' with e | e
          · rw [e]; exact List.mem_cons_self
          exact absurd e h2
        | _ => exact absurd ht' h2
      exact (hno h1 hq).symm
  all_goals exact old _ ht
theorem lstep_guardO (hN : ∀ d, o.dst = some d → d < N) (hg : o.guard = some (i, want)) (hi : (ds[i]?).join = some g) (hE : get E g = some x) (hs : iE x = some (c, b))
    (hun : unOk (c ∧ b = want) E (rdG o.op)) (h : c ∧ b = want → bC P ro N ds { o with guard := none } b0 (envG E o.op) H (tO (hZ o.op)) rd val [] nx 0) (hb : val.bel (UU b0)) : bC P ro N ds o b0 E H (g :: tO (hZ o.op)) rd (.when (c ∧ b = want) val) [] nx 0 :=
  zP (rdG_sub _) (envG_get E _) hN hg hi hE hs hun h hb
end
end
section
variable [Globals]
variable {c : Call} {f nw m0 : Nat} {code : Code} {nd H1 ps : Heap} {args : List AV} {r0 val : AV} {rt rd : List Nat}
section
variable {C : Conc} {N : Nat} {E : Env} {H H' : Heap} {U : Nat → Prop} {a : Act} {w : World}
theorem sG (h : ∀ m, get H' m = get H m) : C.avoid H' = C.avoid H := by
  funext b
  refine propext (or_congr Iff.rfl ⟨?_, ?_⟩)
  · rintro ⟨i, o, hi, hb⟩; exact ⟨i, o, by rw [← h]; exact hi, hb⟩
  rintro ⟨i, o, hi, hb⟩; exact ⟨i, o, by rw [h]; exact hi, hb⟩
theorem RelH.ext (h : ∀ m, get H' m = get H m) (hR : RelH C H U w) : RelH C H' U w where
  obj := fun i o hi => by rw [sG h]; exact hR.obj i o (by rw [← h]; exact hi)
  apart := fun i j oi oj b hne hi hj => hR.apart i j oi oj b hne (by rw [← h]; exact hi) (by rw [← h]; exact hj)
  xapart := fun i o b hi => hR.xapart i o b (by rw [← h]; exact hi)
  xlt := hR.xlt
  gl := by rw [sG h]; exact hR.gl
  objb := fun i o hi => hR.objb i o (by rw [← h]; exact hi)
theorem Rel.ext (h : ∀ m, get H' m = get H m) (hR : Rel C N E H U a w) : Rel C N E H' U a w :=
  { toRelH := hR.toRelH.ext h, size := hR.size, hB := hR.hB, nodup := hR.nodup, marks := by rw [sG h]; exact hR.marks, env := by rw [sG h]; exact hR.env }
theorem StepR.ext {C' : Conc} {H0 : Heap} {w' : World} (h : ∀ m, get H' m = get H m) (hs : StepR C H0 U w C' H w') : StepR C H0 U w C' H' w' :=
  { hs with wr := fun b ⟨i, o, hi, hb⟩ => hs.wr b ⟨i, o, by rw [← h]; exact hi, hb⟩ }
end
section
variable {P : Program} {ro : Option Nat} {N : Nat} {o : Oper} {E : Env} {H : Heap} {nx b0 : Nat} {ds : List (Option Tmp)} {K : Rec → AK}
theorem run_call {fn : Func} {a : Act} {w : World} (ho : o.op = .call c) (hc : c.callee = .value (.func f)) (hT : FnT P f fn code) :
    (execOp a.eval o).run P w = .ok (.enter f (c.args.map a.eval)) w := by
  have hev : a.eval (.func f) = .func (.func f) #[] #[] := rfl
  simp [execOp, ho, resolve, hc, hev, Deferred.ofValue, invoke, hT.run]
theorem wpIn_call {fn : Func} {a : Act} {w : World} {next : Act → World → Prop} {Q : Exit → Act → World → Prop} {R : Value → World → Prop} (ho : o.op = .call c) (hc : c.callee = .value (.func f)) (hT : FnT P f fn code)
    (h : Calls P f (c.args.map a.eval) w fun e w' => ∃ v, e = .returned v ∧ R v w') (hn : ∀ v w', R v w' → next (a.put o.dst v) w') : o.wpIn (FW ro) 0 P a w next Q := by
  refine ⟨fun _ _ => trivial, ?_⟩
  rw [nH (by simp [ho, Op.noDefer]), run_call ho hc hT]
  rw [Oper.uponIn_enter]
  exact ⟨fun hh => (by cases hh), yZ (h.mono fun e w' ⟨v, he, hv⟩ => by subst he; exact hn v w' hv)⟩
structure FitC (H : Heap) (s : List (Nat × Nat)) (nd : Heap) (m0 nw : Nat) (H1 : Heap) : Prop where
  objs : eX (sg s) m0 H nd
  inj : (nd.map fun p => sg s p.1).Nodup
  cov : ∀ i, i < m0 → (get nd i).isSome = true
  sk : ∀ p ∈ s, (get nd p.1).isSome = true
  dom : ∀ p ∈ H1, (get nd p.1).isSome = true ∨ (m0 ≤ p.1 ∧ p.1 < m0 + nw)
  all : ∀ p ∈ nd, (get H1 p.1).isSome = true
  far : m0 + nw ≤ 1000
theorem FitC.fit {s : List (Nat × Nat)} (h : FitC H s nd m0 nw H1) {C : Conc} {U : Nat → Prop} {w : World} {H' : Heap} (hR : RelH C H' U w) (hU : ∀ j, 1000 ≤ j → U j) (hH : ∀ p ∈ nd, get H' (sg s p.1) = get H (sg s p.1))
    (hf : ∀ j, nx ≤ j → j < nx + nw → ¬ U j) : Fit U H' (sg s) nd m0 nx nw H1 where
  objs := fun i ob hi => by
    have h1 := jG h.objs i ob (aN hi)
    exact ⟨(hH _ (aN hi)).trans h1.1, h1.2⟩
  inj := sV h.inj
  known := fun i hi => by
    have aux : ∀ i ob, get nd i = some ob → U (sg s i) := fun i ob hi => (hR.objb _ _ ((hH _ (aN hi)).trans (jG h.objs i ob (aN hi)).1)).1
    rcases hi with hi | hi
    · obtain ⟨ob, hob⟩ := Option.isSome_iff_exists.1 (h.cov i hi)
      exact aux i ob hob
    cases hg : get s i with
    | none => simpa [sg, hg] using hU i hi
    | some j =>
      obtain ⟨ob, hob⟩ := Option.isSome_iff_exists.1 (h.sk _ (aN hg))
      exact aux i ob hob
  dom := fun i ob hi => by
    rcases h.dom _ (aN hi) with h1 | h1
    · exact .inl (Option.isSome_iff_exists.1 h1)
    exact .inr h1
  all := fun i ob hi => Option.isSome_iff_exists.1 (h.all _ (aN hi))
  fresh := hf
  far := h.far
theorem lstep_call {fn : Func} (s : List (Nat × Nat)) (hg : o.guard = none) (ho : o.op = .call c) (hc : c.callee = .value (.func f)) (hT : FnT P f fn code)
    (hN : ∀ d, o.dst = some d → d < N) (hM : tW P f args nd m0 fun r H' n' => r = r0 ∧ H' = H1 ∧ n' = m0 + nw) (hargs : c.args.toList.map (opv E) = (aA (sg s) args).map some) (hab : aC (UU m0) args) (hF : FitC H s nd m0 nw H1) :
    bC P ro N ds o b0 E H (tO c.args.toList) (nd.map fun p => sg s p.1) (r0.ren (shift (sg s) m0 nx nw)) (H1.map fun p => (shift (sg s) m0 nx nw p.1, p.2.ren (shift (sg s) m0 nx nw))) nx nw := by
  intro E' H' U hE hH hU hnx C a w next Q hR hK
  have hops := oCg hE
  have hfit := hF.fit hR.toRelH (fun j hj => hU j (.inr hj)) (fun p hp => hH _ (List.mem_map.2 ⟨p, hp, rfl⟩)) hnx
  have hRc := hR.toRelH.callee hfit
  have hlen : c.args.toList.length = args.length := by have := congrArg List.length hargs; simpa [rnl] using this
  have hargsR : cF (callee C H' (sg s) nd).ρ ((callee C H' (sg s) nd).avoid nd) w.heap args (c.args.map a.eval) := by
    refine ⟨by simpa using hlen, fun j x hj => ?_⟩
    have hjl : j < c.args.toList.length := by rw [hlen]; exact (List.getElem?_eq_some_iff.1 hj).1
    have h1 : (c.args.toList.map (opv E))[j]? = some (some (x.ren (sg s))) := by rw [hargs, List.getElem?_map, pV, hj]; rfl
    rw [List.getElem?_map, List.getElem?_eq_getElem hjl] at h1
    simp only [Option.map_some, Option.some.injEq] at h1
    have h2 : opv E' c.args.toList[j] = some (x.ren (sg s)) := by rw [hops _ (List.getElem_mem hjl)]; exact h1
    obtain ⟨h3, _⟩ := hR.opv h2
    have hv : (c.args.map a.eval).getD j undef = a.eval c.args.toList[j] := by
      simp at hjl
      simp [Array.getD_eq_getD_getElem?, hjl]
    rw [hv]
    exact (h3.mono (av' := (callee C H' (sg s) nd).avoid nd) (fun b _ hb => (dV hfit b).1 hb) (fun _ _ _ => rfl)).unren (ρ := C.ρ) x rfl
  refine qN hg (wpIn_call (R := fun v w' => ∃ C1, RelH C1 H1 (UU (m0 + nw)) w' ∧ StepR (callee C H' (sg s) nd) nd (UU m0) w C1 H1 w' ∧ Rep C1.ρ (C1.avoid H1) w'.heap r0 v ∧ r0.bel (UU (m0 + nw))) ho hc hT
    ((hM _ w _ hRc hargsR hab).mono fun e w' ⟨v, r, H2, n', C1, he, hn', ⟨hr, hH2, hn2⟩, h1, h2, h3, h4⟩ => ?_) fun v w' ⟨C1, h1, h2, h3, h4⟩ => ?_)
  · subst hr; subst hH2; subst hn2
    exact ⟨v, he, C1, h1, h2, h3, h4⟩
  obtain ⟨k1, k2, k3⟩ := hR.toRelH.back hfit h1 h2
  obtain ⟨k4, k5⟩ := k3 r0 v h4 h3
  have hRel := hR.change k2 (fun i hi => .inl hi) k1
  exact hK _ _ w' (hRel.put hN k4 k5) k2
theorem aR (σ : Nat → Nat) (m0 nx : Nat) : shift σ m0 nx 0 = σ := by
  funext i
  unfold shift; rw [if_neg (by omega)]
theorem lstep_pure {fn : Func} (s : List (Nat × Nat)) (hg : o.guard = none) (ho : o.op = .call c) (hc : c.callee = .value (.func f)) (hT : FnT P f fn code)
    (hN : ∀ d, o.dst = some d → d < N) (hM : aB P f args nd m0 r0) (hargs : c.args.toList.map (opv E) = (aA (sg s) args).map some) (hab : aC (UU m0) args) (hF : FitC H s nd m0 0 nd) :
    bC P ro N ds o b0 E H (tO c.args.toList) (nd.map fun p => sg s p.1) (r0.ren (sg s)) [] nx 0 := by
  have hl := lstep_call (P := P) (ro := ro) (N := N) (o := o) (E := E) (H := H) (nx := nx) (b0 := b0) (ds := ds) s hg ho hc hT hN (tW.mono hM fun r H' n' h => h) hargs hab hF
  rw [aR] at hl
  intro E' H' U hE hH hU hnx C a w next Q hR hK
  have hext : ∀ m, get (over H' []) m = get (over H' (nd.map fun p => (sg s p.1, p.2.ren (sg s)))) m := fun m => by
    rw [bB, bB]
    show get H' m = _
    cases hm : get (nd.map fun p => (sg s p.1, p.2.ren (sg s))) m with
    | none => rfl
    | some ob =>
      obtain ⟨i, o', h1, h2, h3⟩ := wX (sg s) (AObj.ren (sg s)) m ob nd hm
      have h4 := (jG hF.objs i o' (aN h1)).1
      rw [← h2, hH _ (List.mem_map.2 ⟨_, aN h1, rfl⟩), h4, h3]
  exact hl E' H' U hE hH hU hnx C a w next Q hR fun C' a' w' hR' hs' => hK C' a' w' (hR'.ext hext) (hs'.ext hext)
theorem sg_nil : sg [] = id := rfl
theorem rK {fn : Func} (hg : o.guard = none) (ho : o.op = .call c) (hc : c.callee = .value (.func f)) (hT : FnT P f fn code)
    (hN : ∀ d, o.dst = some d → d < N) (hM : aB P f args [] 0 r0) (hargs : c.args.toList.map (opv E) = args.map some) (hab : aC (UU 0) args) : bC P ro N ds o b0 E H (tO c.args.toList) [] r0 [] nx 0 := by
  have hl := lstep_pure (P := P) (ro := ro) (N := N) (o := o) (E := E) (H := H) (nx := nx) (b0 := b0) (ds := ds) (nd := []) (m0 := 0) [] hg ho hc hT hN hM (by rw [sg_nil, gY]; exact hargs) hab
    ⟨trivial, List.nodup_nil, (fun i hi => by omega), (fun p hp => by cases hp), (fun p hp => by cases hp), (fun p hp => by cases hp), by omega⟩
  rw [sg_nil, AV.ren_id] at hl; exact hl
theorem vstep_of (hl : bC P ro N ds o b0 E H rt rd val ps nx nw) (hn : nw = 0 ∨ nx + nw ≤ 1000) (hk : K ⟨rt, rd, o.dst, ps.map (·.1), [], ps⟩ (aU E o.dst val) (over H ps) (nx + nw)) : VStep P ro N ds b0 o E H nx K :=
  ⟨rt, rd, val, ps, nw, hn, hl, hk⟩
def uN (P : Program) (ro : Option Nat) (N : Nat) (ds : List (Option Tmp)) (l : List Oper) (K : AK) (E : Env) (H : Heap) (nx : Nat) : Prop :=
  ∀ (ops : Array Oper) (n0 : Nat) (Q : Exit → Act → World → Prop) (C : Conc) (a : Act) (w : World), ops.toList.map (·.dst) = ds → (∀ o ∈ l, ∀ d, o.dst = some d → d < N) → n0 ≤ nx → Rel C N E H (UU nx) a w →
    (∀ E' H' nx' C' a' w', n0 ≤ nx' → Rel C' N E' H' (UU nx') a' w' → StepR C H (UU n0) w C' H' w' → K E' H' nx' → Q .normal a' w') → wpListIn (FW ro) 0 P ops Q l a w
def rV (P : Program) (ro : Option Nat) (N : Nat) (ds : List (Option Tmp)) : List Oper → AK → AK
  | [], K, E, H, nx => K E H nx
  | o :: l, K, E, H, nx =>
    match o.guard with
    | none => match uL P (opv E) (get H) nx o.op with
      | some r => r.ok ∧ (r.nw = 0 ∨ nx + r.nw ≤ 1000) ∧ rV P ro N ds l K (aU E o.dst r.val) (over H r.ps) (nx + r.nw)
      | none => uN P ro N ds (o :: l) K E H nx
    | some (i, want) => match (ds[i]?).join with
      | some g => match (get E g).bind iE with
        | some (c, b) => match uL P (opv (envG E o.op)) (get H) nx o.op with
          | some ⟨ok, val, [], 0⟩ => ((c ∧ b = want) → ok) ∧ unOk (c ∧ b = want) E (rdG o.op) ∧ val.bel (UU nx) ∧ rV P ro N ds l K (aU E o.dst (.when (c ∧ b = want) val)) H nx
          | _ => uN P ro N ds (o :: l) K E H nx
        | none => uN P ro N ds (o :: l) K E H nx
      | none => uN P ro N ds (o :: l) K E H nx
theorem vsem_step {l : List Oper} {K : AK} (h : VStep P ro N ds nx o E H nx fun _ => uN P ro N ds l K) : uN P ro N ds (o :: l) K E H nx := by
  intro ops n0 Q C a w hds hd hn hR hk; subst hds
  obtain ⟨rt, rd, val, ps, nw, hnw, hl, hK⟩ := h
  have h1 := hl E H (UU nx) (fun _ _ => rfl) (fun _ _ => rfl) (fun _ h => h) (fun j h1 h2 h3 => by rcases h3 with h3 | h3 <;> omega) C a w (wpListIn (FW ro) 0 P ops Q l) Q hR fun C' a' w' hR' hs' => by
    rw [wK] at hR'
    exact hK ops n0 Q C' a' w' rfl (fun o ho => hd o (List.mem_cons_of_mem _ ho)) (by omega) hR' fun E2 H2 nx2 C2 a2 w2 hn2 hR2 hs2 hK2 =>
      hk E2 H2 nx2 C2 a2 w2 hn2 hR2 ((hs'.fewerNames (dM hn)).trans (fun _ h => h) hs2) hK2
  unfold GS at h1
  have hy : vG (ops.toList.map (·.dst)) a.tmps = yielded ops a.tmps := by funext j; rw [yielded_eq]
  rw [hy] at h1; exact h1
theorem vsem_dst {l : List Oper} {K : AK} (h : (∀ o ∈ l, ∀ d, o.dst = some d → d < N) → uN P ro N ds l K E H nx) : uN P ro N ds l K E H nx :=
  fun ops n0 Q C a w hds hd hn hR hk => h hd ops n0 Q C a w hds hd hn hR hk
theorem vsem_vc : ∀ (l : List Oper) (K : AK) (E : Env) (H : Heap) (nx : Nat), rV P ro N ds l K E H nx → uN P ro N ds l K E H nx
  | [], K, E, H, nx, h => fun ops n0 Q C a w hds hd hn hR hk => hk E H nx C a w hn hR (StepR.refl C H _ w) h
  | o :: l, K, E, H, nx, h => vsem_dst fun hd => by
    have hN := hd o List.mem_cons_self
    simp only [rV] at h
    split at h
    · rename_i hg
      split at h
      · rename_i r hr
        obtain ⟨hok, hnx, hrest⟩ := h
        exact vsem_step (vstep_of (lstep_ev hg hN hr hok) hnx (vsem_vc l K _ _ _ hrest))
      exact h
    rename_i i want hg
    split at h
    · rename_i g hgi
      split at h
      · rename_i c b hs
        obtain ⟨x, hx, hsx⟩ := Option.bind_eq_some_iff.1 hs
        split at h
        · rename_i ok val hr
          obtain ⟨hok, hun, hb, hrest⟩ := h
          exact vsem_step (vstep_of (lstep_guardO hN hg hgi hx hsx hun (fun hG => lstep_ev (o := { o with guard := none }) rfl hN hr (hok hG)) hb) (.inl rfl) (vsem_vc l K _ _ _ hrest))
        exact h
      exact h
    exact h
theorem vC {l : List Oper} {K : AK} (hl : (∀ d, o.dst = some d → d < N) → bC P ro N ds o nx E H rt rd val ps nx nw) (hn : nw = 0 ∨ nx + nw ≤ 1000) (h : rV P ro N ds l K (aU E o.dst val) (over H ps) (nx + nw)) :
    uN P ro N ds (o :: l) K E H nx :=
  vsem_dst fun hd => vsem_step (vstep_of (hl (hd o List.mem_cons_self)) hn (vsem_vc l K _ _ _ h))
def dstOk (N : Nat) (l : List Oper) : Bool := l.all fun o => match o.dst with | some d => decide (d < N) | none => true
theorem dstOk_iff {l : List Oper} (h : dstOk N l = true) : ∀ o ∈ l, ∀ d, o.dst = some d → d < N := fun o ho d hd => by
  have := List.all_eq_true.1 h o ho
  rw [hd] at this
  simpa using this
theorem wg {n0 : Nat} {Q : AQ} {id : Nat} {ops : Array Oper} (hd : dstOk N ops.toList = true) (h : rV P ro N (ops.toList.map (·.dst)) ops.toList (Q .normal) E H nx) : AWP P ro N n0 (.region id ops false) Q E H nx := by
  intro C a w Qc hn hR hK
  exact wpIn_region_list (vsem_vc ops.toList _ E H nx h ops n0 Qc C a w rfl (dstOk_iff hd) hn hR fun E' H' nx' C' a' w' hn' hR' hs' hk => hK .normal E' H' nx' C' a' w' hn' hR' hs' hk)
end
end
section
variable [Globals]
variable {E : Env} {d : Option Nat} {x : AV} {t m : Nat} {H ps : Heap}
structure St where
  rt : List Nat
  rd : List Nat
  wt : Option Nat
  al : Heap
  val : AV
  ps : Heap
  nx : Nat
  nw : Nat
def St.row (s : St) : Rec := ⟨s.rt, s.rd, s.wt, s.ps.map (·.1), s.al, s.ps⟩
def yE (P : Program) (ro : Option Nat) (N : Nat) (ds : List (Option Tmp)) (b0 : Nat) : List Oper → Env → Heap → Nat → List St → Env → Heap → Nat → Prop
  | [], E, H, nx, [], E', H', nx' => E' = E ∧ H' = H ∧ nx' = nx
  | o :: l, E, H, nx, s :: ss, E', H', nx' => s.nx = nx ∧ s.wt = o.dst ∧ (s.nw = 0 ∨ nx + s.nw ≤ 1000) ∧ LStepA P ro N ds o b0 E H s.rt s.rd s.al s.val s.ps nx s.nw ∧
      yE P ro N ds b0 l (aU E o.dst s.val) (over H s.ps) (nx + s.nw) ss E' H' nx'
  | _, _, _, _, _, _, _, _ => False
def stE (D : Nat → Bool) : Nat → List St → Env → Env
  | _, [], E => E
  | k, s :: r, E => stE D (k + 1) r (if D k = true then aU E s.wt s.val else E)
def stH (D : Nat → Bool) : Nat → List St → Heap → Heap
  | _, [], H => H
  | k, s :: r, H => stH D (k + 1) r (if D k = true then over H s.ps else H)
def stU (D : Nat → Bool) (U : Nat → Prop) (ss : List St) : Nat → Prop := fun m => U m ∨ ∃ k s, ss[k]? = some s ∧ D k = true ∧ s.nx ≤ m ∧ m < s.nx + s.nw
theorem putO_get {E E' : Env} (h : get E t = get E' t) : get (aU E d x) t = get (aU E' d x) t := by
  cases d with
  | none => exact h
  | some d => show get ((d, x) :: E) t = get ((d, x) :: E') t; rw [aO, aO, h]
theorem vR (h : d ≠ some t) : get (aU E d x) t = get E t := by
  cases d with
  | none => rfl
  | some d => show get ((d, x) :: E) t = _; rw [aO, if_neg (fun e => h (by rw [e]))]
theorem over_get_eq {H H' ps : Heap} (h : get H m = get H' m) : get (over H ps) m = get (over H' ps) m := by rw [bB, bB, h]
theorem iG (h : m ∉ ps.map (·.1)) : get (over H ps) m = get H m := by
  rw [bB]
  cases hm : get ps m with
  | none => rfl
  | some o => exact absurd (List.mem_map.2 ⟨_, aN hm, rfl⟩) h
theorem sB (t : Nat) (D D' : Nat → Bool) : ∀ (ss : List St) (k : Nat) (E E' : Env), get E t = get E' t → (∀ j s, ss[j]? = some s → s.wt = some t → D (k + j) = D' (k + j)) → get (stE D k ss E) t = get (stE D' k ss E') t
  | [], k, E, E', h, _ => h
  | s :: r, k, E, E', h, hD => by
    unfold stE
    refine sB t D D' r (k + 1) _ _ ?_ fun j s' hj hw => by have := hD (j + 1) s' (by simpa using hj) hw; rwa [show k + 1 + j = k + (j + 1) by omega]
    by_cases hw : s.wt = some t
    · have := hD 0 s rfl hw
      rw [Nat.add_zero] at this; rw [this]; split
      · exact putO_get h
      exact h
    have h1 : get (if D k = true then aU E s.wt s.val else E) t = get E t := by
      split
      · exact vR hw
      rfl
    have h2 : get (if D' k = true then aU E' s.wt s.val else E') t = get E' t := by
      split
      · exact vR hw
      rfl
    rw [h1, h2, h]
theorem pN (m : Nat) (D D' : Nat → Bool) : ∀ (ss : List St) (k : Nat) (H H' : Heap), get H m = get H' m → (∀ j s, ss[j]? = some s → m ∈ s.ps.map (·.1) → D (k + j) = D' (k + j)) → get (stH D k ss H) m = get (stH D' k ss H') m
  | [], k, H, H', h, _ => h
  | s :: r, k, H, H', h, hD => by
    unfold stH
    refine pN m D D' r (k + 1) _ _ ?_ fun j s' hj hw => by have := hD (j + 1) s' (by simpa using hj) hw; rwa [show k + 1 + j = k + (j + 1) by omega]
    by_cases hw : m ∈ s.ps.map (·.1)
    · have := hD 0 s rfl hw
      rw [Nat.add_zero] at this; rw [this]; split
      · exact over_get_eq h
      exact h
    have h1 : get (if D k = true then over H s.ps else H) m = get H m := by
      split
      · exact iG hw
      rfl
    have h2 : get (if D' k = true then over H' s.ps else H') m = get H' m := by
      split
      · exact iG hw
      rfl
    rw [h1, h2, h]
theorem stE_last (t : Nat) (D : Nat → Bool) (i : Nat) (si : St) (hD : D i = true) (hw : si.wt = some t) : ∀ (ss : List St) (k : Nat) (E : Env), k ≤ i → ss[i - k]? = some si → (∀ j s, ss[j]? = some s → s.wt = some t → i < k + j → D (k + j) = false) → get (stE D k ss E) t = some si.val
  | [], k, E, _, h, _ => by simp at h
  | s :: r, k, E, hk, h, hl => by
    unfold stE
    by_cases e : k = i
    · subst e
      simp only [Nat.sub_self, List.getElem?_cons_zero, Option.some.injEq] at h
      subst h; rw [hD, if_pos rfl]
      have h1 := sB t D (fun _ => false) r (k + 1) (aU E s.wt s.val) (aU E s.wt s.val) rfl fun j s' hj hw' => by
        have := hl (j + 1) s' (by simpa using hj) hw' (by omega)
        rwa [show k + 1 + j = k + (j + 1) by omega]
      rw [h1]
      have h2 : ∀ (r : List St) (q : Nat) (E : Env), stE (fun _ => false) q r E = E := by
        intro r
        induction r with
        | nil => intro q E; rfl
        | cons a r ih => intro q E; unfold stE; simp [ih]
      rw [h2, hw]
      show get ((t, s.val) :: E) t = _
      rw [aO, if_pos rfl]
    refine stE_last t D i si hD hw r (k + 1) _ (by omega) ?_ fun j s' hj hw' hlt => ?_
    · rw [show i - k = (i - (k + 1)) + 1 by omega] at h
      simpa using h
    have := hl (j + 1) s' (by simpa using hj) hw' (by omega)
    rwa [show k + 1 + j = k + (j + 1) by omega]
theorem stH_split (m : Nat) (D p : Nat → Bool) (Sx : Option AObj → Prop) : ∀ (ss : List St) (k : Nat) (H H' : Heap), (∀ j sj, ss[j]? = some sj → D (k + j) = true → p (k + j) = false → m ∈ sj.ps.map (·.1) → Sx (get sj.ps m)) →
    (get H m = get H' m ∨ Sx (get H m)) → get (stH D k ss H) m = get (stH (fun j => D j && p j) k ss H') m ∨ Sx (get (stH D k ss H) m)
  | [], k, H, H', _, h => h
  | s :: r, k, H, H', hS, h => by
    have hover : ∀ G : Heap, m ∈ s.ps.map (·.1) → get (over G s.ps) m = get s.ps m := fun G hm => by
      rw [bB]
      obtain ⟨o, ho⟩ : ∃ o, get s.ps m = some o := by
        clear hS
        generalize s.ps = ps at hm
        induction ps with
        | nil => simp at hm
        | cons q r ih =>
          obtain ⟨i, o⟩ := q
          unfold Abs.get; split
          · exact ⟨o, rfl⟩
          rename_i e
          simp only [List.map_cons, List.mem_cons] at hm
          exact ih (hm.resolve_left (fun e' => e e'.symm))
      rw [ho]
    unfold stH
    refine stH_split m D p Sx r (k + 1) _ _ (fun j sj hj hD hp hm => hS (j + 1) sj (by simpa using hj) (by rwa [show k + (j + 1) = k + 1 + j by omega]) (by rwa [show k + (j + 1) = k + 1 + j by omega]) hm) ?_
    by_cases hD : D k = true
    · rw [if_pos hD]
      by_cases hm : m ∈ s.ps.map (·.1)
      · cases hp : p k with
        | true =>
          rw [if_pos (by simp [hD])]
          exact .inl (by rw [hover H hm, hover H' hm])
        | false =>
          exact .inr (by rw [hover H hm]; exact hS 0 s rfl hD hp hm)
      cases hp : p k with
      | true => rw [if_pos (by simp [hD])]; rw [iG hm, iG hm]; exact h
      | false => rw [if_neg (by simp)]; rw [iG hm]; exact h
    rw [if_neg hD, if_neg (by simp [hD])]
    exact h
theorem stH_last (m : Nat) (D : Nat → Bool) (i : Nat) (si : St) (hD : D i = true) (hw : m ∈ si.ps.map (·.1)) : ∀ (ss : List St) (k : Nat) (H : Heap), k ≤ i → ss[i - k]? = some si → (∀ j s, ss[j]? = some s → m ∈ s.ps.map (·.1) → i < k + j → D (k + j) = false) → get (stH D k ss H) m = get si.ps m
  | [], k, H, _, h, _ => by simp at h
  | s :: r, k, H, hk, h, hl => by
    unfold stH
    by_cases e : k = i
    · subst e
      simp only [Nat.sub_self, List.getElem?_cons_zero, Option.some.injEq] at h
      subst h; rw [hD, if_pos rfl]
      have h1 := pN m D (fun _ => false) r (k + 1) (over H s.ps) (over H s.ps) rfl fun j s' hj hw' => by
        have := hl (j + 1) s' (by simpa using hj) hw' (by omega)
        rwa [show k + 1 + j = k + (j + 1) by omega]
      rw [h1]
      have h2 : ∀ (r : List St) (q : Nat) (H : Heap), stH (fun _ => false) q r H = H := by
        intro r
        induction r with
        | nil => intro q H; rfl
        | cons a r ih => intro q H; unfold stH; simp [ih]
      rw [h2, bB]
      have hex : ∃ o, get s.ps m = some o := by
        clear h1 hl h2 hk hD
        generalize s.ps = ps at hw
        induction ps with
        | nil => simp at hw
        | cons p r ih =>
          obtain ⟨i, o⟩ := p
          rw [aO]
          by_cases e : i = m
          · exact ⟨o, if_pos e⟩
          rw [if_neg e]; refine ih ?_
          simp only [List.map_cons, List.mem_cons] at hw
          exact hw.resolve_left (fun e' => e e'.symm)
      obtain ⟨o, ho⟩ := hex
      rw [ho]
    refine stH_last m D i si hD hw r (k + 1) _ (by omega) ?_ fun j s' hj hw' hlt => ?_
    · rw [show i - k = (i - (k + 1)) + 1 by omega] at h
      simpa using h
    have := hl (j + 1) s' (by simpa using hj) hw' (by omega)
    rwa [show k + 1 + j = k + (j + 1) by omega]
section
variable {P : Program} {ro : Option Nat} {N : Nat} {ds : List (Option Tmp)} {b0 : Nat}
theorem yE.at' : ∀ (l : List Oper) (ss : List St) (E : Env) (H : Heap) (nx : Nat) (E' : Env) (H' : Heap) (nx' : Nat) (k : Nat), yE P ro N ds b0 l E H nx ss E' H' nx' → ss.length = l.length ∧ nx ≤ nx' ∧
    (∀ (i : Nat) (o : Oper) (s : St), l[i]? = some o → ss[i]? = some s → s.wt = o.dst ∧ nx ≤ s.nx ∧ s.nx + s.nw ≤ nx' ∧ (s.nw = 0 ∨ s.nx + s.nw ≤ 1000) ∧
      LStepA P ro N ds o b0 (stE (fun j => decide (j < k + i)) k ss E) (stH (fun j => decide (j < k + i)) k ss H) s.rt s.rd s.al s.val s.ps s.nx s.nw) ∧
    (∀ (i j : Nat) (s s' : St), ss[i]? = some s → ss[j]? = some s' → i < j → s.nx + s.nw ≤ s'.nx) ∧
    E' = stE (fun _ => true) k ss E ∧ H' = stH (fun _ => true) k ss H ∧ (∀ m, nx ≤ m → m < nx' → ∃ (i : Nat) (s : St), ss[i]? = some s ∧ s.nx ≤ m ∧ m < s.nx + s.nw)
  | [], [], E, H, nx, E', H', nx', k, ⟨h1, h2, h3⟩ => ⟨rfl, by omega, fun i o s hi => by simp at hi, fun i j s s' hi => by simp at hi, h1, h2, fun m h4 h5 => by omega⟩
  | [], s :: ss, E, H, nx, E', H', nx', k, h => by simp [yE] at h
  | o :: l, [], E, H, nx, E', H', nx', k, h => by simp [yE] at h
  | o :: l, s :: ss, E, H, nx, E', H', nx', k, h => by
    obtain ⟨h1, h2, h3, h4, h5⟩ := h
    obtain ⟨a1, a2, a3, a4, a5, a6, a7⟩ := yE.at' l ss _ _ _ E' H' nx' (k + 1) h5
    have hfalse : ∀ (r : List St) (q : Nat) (E : Env), k ≤ q → stE (fun j => decide (j < k)) q r E = E := by
      intro r
      induction r with
      | nil => intro q E _; rfl
      | cons a r ih => intro q E hq; unfold stE; rw [if_neg (by simp; omega)]; exact ih (q + 1) E (by omega)
    have hfalseH : ∀ (r : List St) (q : Nat) (H : Heap), k ≤ q → stH (fun j => decide (j < k)) q r H = H := by
      intro r
      induction r with
      | nil => intro q H _; rfl
      | cons a r ih => intro q H hq; unfold stH; rw [if_neg (by simp; omega)]; exact ih (q + 1) H (by omega)
    refine ⟨by simp [a1], by omega, fun i o' s' hi hs => ?_, fun i j s1 s2 hi hj hij => ?_, ?_, ?_, fun m h6 h7 => ?_⟩
    · cases i with
      | zero =>
        simp only [List.getElem?_cons_zero, Option.some.injEq] at hi hs
        subst hi; subst hs
        refine ⟨h2, by omega, by omega, by rw [h1]; exact h3, ?_⟩
        rw [Nat.add_zero, hfalse _ _ _ (Nat.le_refl _), hfalseH _ _ _ (Nat.le_refl _), h1]; exact h4
      | succ i =>
        obtain ⟨b1, b2, b3, b4, b5⟩ := a3 i o' s' (by simpa using hi) (by simpa using hs)
        refine ⟨b1, by omega, b3, b4, ?_⟩
        rw [show k + (i + 1) = k + 1 + i by omega]; unfold stE stH; rw [if_pos (by simp; omega), if_pos (by simp; omega), h2]; exact b5
    · cases j with
      | zero => omega
      | succ j =>
        cases i with
        | zero =>
          simp only [List.getElem?_cons_zero, Option.some.injEq] at hi
          subst hi
          have hj' : ss[j]? = some s2 := by simpa using hj
          have hjl := (List.getElem?_eq_some_iff.1 hj').1
          obtain ⟨_, b2, _⟩ := a3 j (l[j]'(by omega)) s2 (List.getElem?_eq_getElem (by omega)) hj'
          omega
        | succ i => exact a4 i j s1 s2 (by simpa using hi) (by simpa using hj) (by omega)
    · unfold stE; rw [if_pos rfl, h2]; exact a5
    · unfold stH; rw [if_pos rfl]; exact a6
    rcases Nat.lt_or_ge m (nx + s.nw) with h8 | h8
    · exact ⟨0, s, rfl, by omega, by omega⟩
    obtain ⟨i, s', h9, h10⟩ := a7 m h8 h7
    exact ⟨i + 1, s', by simpa using h9, h10⟩
end
end
section
variable [Globals]
variable {E E' : Env} {H : Heap}
def confl (r s : Rec) : Bool :=
  (match r.wt with | some t => s.rt.contains t || s.wt == some t | none => false) || (match s.wt with | some t => r.rt.contains t | none => false) ||
  r.wo.any (fun m => s.ro.contains m || s.wo.contains m) || s.wo.any (fun m => r.ro.contains m)
def ancStep (acc : List (List Nat)) (es : List Edge) : List Nat := (es.filter (Region.binds .any)).flatMap fun e => e.on :: (acc[e.on]?).getD []
def xH : List (List Edge) → List (List Nat) → List (List Nat)
  | [], acc => acc
  | es :: r, acc => xH r (acc ++ [ancStep acc es])
def pB (r s : Rec) : Bool :=
  (match r.wt with | some t => s.rt.contains t || s.wt == some t | none => false) || (match s.wt with | some t => r.rt.contains t | none => false) ||
  r.wo.any (fun m => s.ro.contains m || s.wo.contains m)
def indepX (x : Nat × Nat) (afts : List (List Edge)) (rs : List Rec) : Bool :=
  (List.range afts.length).all (fun j => ((afts[j]?).getD []).all fun e => !Region.binds .any e || decide (e.on < j)) &&
  (List.range rs.length).all (fun j => (List.range j).all fun i => match rs[i]?, rs[j]? with
    | some r, some s => !(if x = (i, j) then pB r s else confl r s) || (((xH afts [])[j]?).getD []).contains i
    | _, _ => true)
def indep (afts : List (List Edge)) (rs : List Rec) : Bool :=
  (List.range afts.length).all (fun j => ((afts[j]?).getD []).all fun e => !Region.binds .any e || decide (e.on < j)) &&
  (List.range rs.length).all (fun j => (List.range j).all fun i => match rs[i]?, rs[j]? with
    | some r, some s => !confl r s || (((xH afts [])[j]?).getD []).contains i
    | _, _ => true)
theorem vP {D : Nat → Bool} : ∀ (l : List (List Edge)) (acc : List (List Nat)), (∀ j es e, l[j]? = some es → D (acc.length + j) = true → e ∈ es → Region.binds .any e = true → D e.on = true) →
    (∀ j as i, acc[j]? = some as → D j = true → i ∈ as → D i = true) → ∀ j as i, (xH l acc)[j]? = some as → D j = true → i ∈ as → D i = true
  | [], acc, _, h2 => h2
  | es :: r, acc, h1, h2 => by
    rw [xH]
    refine vP r _ (fun j es' e hj hD he hb => h1 (j + 1) es' e (by simpa using hj) (by rw [List.length_append] at hD; rw [show acc.length + (j + 1) = acc.length + [ancStep acc es].length + j by simp; omega]; exact hD) he hb) fun j as i hj hD hi => ?_
    rcases Nat.lt_or_ge j acc.length with h | h
    · rw [List.getElem?_append_left h] at hj
      exact h2 j as i hj hD hi
    rw [List.getElem?_append_right h] at hj
    have hj0 : j = acc.length := by
      have := (List.getElem?_eq_some_iff.1 hj).1
      simp at this; omega
    subst hj0
    simp only [Nat.sub_self, List.getElem?_cons_zero, Option.some.injEq] at hj
    subst hj; unfold ancStep at hi
    obtain ⟨e, he, hie⟩ := List.mem_flatMap.1 hi
    obtain ⟨he1, he2⟩ := List.mem_filter.1 he
    have hDe := h1 0 es e rfl hD he1 he2
    rcases List.mem_cons.1 hie with e' | e'
    · rw [e']; exact hDe
    cases hg : acc[e.on]? with
    | none => rw [hg] at e'; cases e'
    | some as' => rw [hg] at e'; exact h2 e.on as' i hg hDe e'
theorem unl_lt {p q : Nat → Bool} {i : Nat} (hp : p i = true) (hq : q i = false) (hi : ∀ j, q j = true → p j = true) : ∀ l : List Nat, i ∈ l → (l.filter q).length < (l.filter p).length := by
  have hle : ∀ l : List Nat, (l.filter q).length ≤ (l.filter p).length := by
    intro l
    induction l with
    | nil => simp
    | cons a l ih =>
      by_cases ha : q a = true
      · simp [ha, hi a ha]; exact ih
      by_cases hb : p a = true
      · simp [ha, hb]; omega
      simp [ha, hb]; exact ih
  intro l
  induction l with
  | nil => intro h; cases h
  | cons a l ih =>
    intro h
    by_cases e : a = i
    · subst e
      have := hle l
      simp [hp, hq]
      omega
    have h' : i ∈ l := by
      rcases List.mem_cons.1 h with e' | e'
      · exact absurd e'.symm e
      exact e'
    have := ih h'
    by_cases ha : q a = true
    · simp [ha, hi a ha]; exact this
    by_cases hb : p a = true
    · simp [ha, hb]; omega
    simp [ha, hb]; exact this
section
variable {P : Program} {ro : Option Nat} {N n0 : Nat}
theorem rel_env {C : Conc} {U : Nat → Prop} {a : Act} {w : World} (h : Rel C N E H U a w) (he : ∀ t, get E' t = get E t) : Rel C N E' H U a w := h.fewer fun t x ht => by rw [← he]; exact ht
theorem draw_any {x : Nat × Nat} {ops : Array Oper} {ss : List St} {nx : Nat} {H' : Heap} {nx' : Nat} (hd : ∀ o ∈ ops.toList, ∀ d, o.dst = some d → d < N) (hn0 : n0 ≤ nx)
    (hC : yE P ro N (ops.toList.map (·.dst)) nx ops.toList E H nx ss E' H' nx') (hI : indepX x (ops.toList.map (·.after.toList)) (ss.map St.row) = true)
    (hX : ∀ s s', ss[x.1]? = some s → ss[x.2]? = some s' → x.1 < x.2 → ∀ m, m ∈ s'.ps.map (·.1) → m ∈ s.rd → get s'.ps m = get s.al m) {Q : Exit → Act → World → Prop} {C0 : Conc} {w0 : World}
    (hk : ∀ C a w, Rel C N E' H' (UU nx') a w → StepR C0 H (UU n0) w0 C H' w → Q .normal a w) :
    ∀ (fuel : Nat) (listed : Array Bool) (C : Conc) (a : Act) (w : World), listed.size = ops.size →
      (∀ j o e, ops[j]? = some o → listed.getD j false = true → e ∈ o.after → Region.binds .any e = true → listed.getD e.on false = true) →
      Rel C N (stE (fun j => listed.getD j false) 0 ss E) (stH (fun j => listed.getD j false) 0 ss H) (stU (fun j => listed.getD j false) (UU nx) ss) a w →
      StepR C0 H (UU n0) w0 C (stH (fun j => listed.getD j false) 0 ss H) w →
      ((List.range ops.size).filter (fun j => !listed.getD j true)).length ≤ fuel → wpAnyIn (FW ro) 0 P .any ops Q fuel listed a w := by
  obtain ⟨c1, c2, c3, c4, c5, c6, c7⟩ := yE.at' _ _ _ _ _ _ _ _ 0 hC
  simp only [indepX, Bool.and_eq_true] at hI
  obtain ⟨hI1, hI2⟩ := hI
  have hlen : ss.length = ops.size := by simpa using c1
  have hedge : ∀ j o e, ops[j]? = some o → e ∈ o.after → Region.binds .any e = true → e.on < j := fun j o e hj he hb => by
    have hjl := (Array.getElem?_eq_some_iff.1 hj).1
    have h1 := List.all_eq_true.1 hI1 j (List.mem_range.2 (by simpa using hjl))
    rw [List.getElem?_map, Array.getElem?_toList, hj] at h1
    have h2 := List.all_eq_true.1 h1 e (by simpa using he)
    simpa [hb] using h2
  have hconf0 : ∀ (i j : Nat) (si sj : St), i < j → ss[i]? = some si → ss[j]? = some sj → (if x = (i, j) then pB si.row sj.row else confl si.row sj.row) = true → i ∈ ((xH (ops.toList.map (·.after.toList)) [])[j]?).getD [] := fun i j si sj hij hi hj hc => by
    have hjl := (List.getElem?_eq_some_iff.1 hj).1
    have h1 := List.all_eq_true.1 (List.all_eq_true.1 hI2 j (List.mem_range.2 (by simpa using hjl))) i (List.mem_range.2 hij)
    rw [List.getElem?_map, List.getElem?_map, hi, hj] at h1
    simp only [Option.map_some, hc, Bool.not_true, Bool.false_or, List.contains_iff_mem] at h1
    exact h1
  have hconf : ∀ (i j : Nat) (si sj : St), i < j → ss[i]? = some si → ss[j]? = some sj → pB si.row sj.row = true → i ∈ ((xH (ops.toList.map (·.after.toList)) [])[j]?).getD [] := fun i j si sj hij hi hj hc => hconf0 i j si sj hij hi hj (by
    split
    · exact hc
    simp only [confl, pB, Bool.or_eq_true] at hc ⊢
    exact .inl hc)
  have hconfR : ∀ (i j : Nat) (si sj : St), i < j → x ≠ (i, j) → ss[i]? = some si → ss[j]? = some sj → confl si.row sj.row = true → i ∈ ((xH (ops.toList.map (·.after.toList)) [])[j]?).getD [] := fun i j si sj hij hx hi hj hc => hconf0 i j si sj hij hi hj (by rw [if_neg hx]; exact hc)
  have hfin : ∀ (listed : Array Bool) (C : Conc) (a : Act) (w : World), (∀ j, j < ops.size → listed.getD j false = true) →
      Rel C N (stE (fun j => listed.getD j false) 0 ss E) (stH (fun j => listed.getD j false) 0 ss H) (stU (fun j => listed.getD j false) (UU nx) ss) a w →
      StepR C0 H (UU n0) w0 C (stH (fun j => listed.getD j false) 0 ss H) w → Q .normal a w := fun listed C a w hall hR hs => by
    have hE : ∀ t, get E' t = get (stE (fun j => listed.getD j false) 0 ss E) t := fun t => by
      rw [c5]
      exact sB t _ _ ss 0 E E rfl fun j s hj _ => by
        have := (List.getElem?_eq_some_iff.1 hj).1
        rw [Nat.zero_add, hall j (by omega)]
    have hH : ∀ m, get H' m = get (stH (fun j => listed.getD j false) 0 ss H) m := fun m => by
      rw [c6]
      exact pN m _ _ ss 0 H H rfl fun j s hj _ => by
        have := (List.getElem?_eq_some_iff.1 hj).1
        rw [Nat.zero_add, hall j (by omega)]
    have hU : stU (fun j => listed.getD j false) (UU nx) ss = UU nx' := by
      funext m
      refine propext ⟨?_, fun hm => ?_⟩
      · rintro (h | ⟨k, s, hk, _, h1, h2⟩)
        · exact dM c2 m h
        have hkl := (List.getElem?_eq_some_iff.1 hk).1
        obtain ⟨_, _, h4, _⟩ := c3 k (ops.toList[k]'(by simp; omega)) s (List.getElem?_eq_getElem (by simp; omega)) hk
        exact .inl (by omega)
      rcases hm with hm | hm
      · rcases Nat.lt_or_ge m nx with h | h
        · exact .inl (.inl h)
        obtain ⟨i, s, hi, h1, h2⟩ := c7 m h hm
        have hil := (List.getElem?_eq_some_iff.1 hi).1
        exact .inr ⟨i, s, hi, hall i (by omega), h1, h2⟩
      exact .inl (.inr hm)
    rw [hU] at hR
    exact hk C a w ((rel_env hR hE).ext hH) (hs.ext hH)
  have hnone : ∀ (listed : Array Bool), listed.size = ops.size → Region.ready .any ops listed = [] → ∀ j, j < ops.size → listed.getD j false = true := fun listed hsz hr j => by
    induction j using Nat.strongRecOn with
    | _ j ih =>
      intro hj
      cases hl : listed.getD j false with
      | true => rfl
      | false =>
        exfalso
        have hmem : j ∈ Region.ready .any ops listed := by
          unfold Region.ready
          refine List.mem_filter.2 ⟨List.mem_range.2 hj, ?_⟩
          have h1 : listed.getD j true = false := by
            rw [Array.getD_eq_getD_getElem?, Array.getElem?_eq_getElem (by omega)] at hl ⊢
            exact hl
          have h2 : ops[j]? = some ops[j] := Array.getElem?_eq_getElem hj
          simp only [h1, Bool.not_false, Bool.true_and, h2, Option.map_some, Option.getD_some, Array.all_eq_true']; intro e he
          by_cases hb : Region.binds .any e = true
          · have h3 := hedge j _ e h2 he hb
            rw [ih e.on h3 (by omega)]
            simp
          simp [hb]
        rw [hr] at hmem; cases hmem
  intro fuel
  induction fuel with
  | zero =>
    intro listed C a w hsz hcl hR hs hf
    have hall : ∀ j, j < ops.size → listed.getD j false = true := fun j hj => by
      have h0 := List.eq_nil_of_length_eq_zero (Nat.le_zero.1 hf)
      have := List.filter_eq_nil_iff.1 h0 j (List.mem_range.2 hj)
      rw [Array.getD_eq_getD_getElem?, Array.getElem?_eq_getElem (by omega)] at this ⊢
      simpa using this
    refine ⟨?_, hfin listed C a w hall hR hs⟩
    unfold Region.ready
    refine List.filter_eq_nil_iff.2 fun j hj => ?_
    have hjl := List.mem_range.1 hj
    have := hall j hjl
    rw [Array.getD_eq_getD_getElem?, Array.getElem?_eq_getElem (by omega)] at this; rw [Array.getD_eq_getD_getElem? (d := true), Array.getElem?_eq_getElem (by omega)]
    simp only [Option.getD_some] at this ⊢
    simp [this]
  | succ fuel ih =>
    intro listed C a w hsz hcl hR hs hf
    refine ⟨fun hr => hfin listed C a w (hnone listed hsz hr) hR hs, fun i hi => ?_⟩
    obtain ⟨hi1, hi2⟩ := List.mem_filter.1 hi
    have hil := List.mem_range.1 hi1
    have hoi : ops[i]? = some ops[i] := Array.getElem?_eq_getElem hil
    simp only [hoi, Option.map_some, Option.getD_some, Bool.and_eq_true, Bool.not_eq_true', Array.all_eq_true'] at hi2
    obtain ⟨hli, hpre⟩ := hi2
    have hDi : listed.getD i false = false := by
      rw [Array.getD_eq_getD_getElem?, Array.getElem?_eq_getElem (by omega)] at hli ⊢
      exact hli
    have hsi : ss[i]? = some (ss[i]'(by omega)) := List.getElem?_eq_getElem (by omega)
    obtain ⟨d1, d2, d3, d4, d5⟩ := c3 i ops[i] (ss[i]'(by omega)) (by rw [Array.getElem?_toList]; exact hoi) hsi
    generalize ss[i]'(by omega) = s at hsi d1 d2 d3 d4 d5
    have hclo : ∀ j as q, (xH (ops.toList.map (·.after.toList)) [])[j]? = some as → listed.getD j false = true → q ∈ as → listed.getD q false = true :=
      vP (D := fun j => listed.getD j false) _ _ (fun j es e hj hD he hb => by
        rw [List.getElem?_map, Array.getElem?_toList] at hj
        obtain ⟨o, ho, rfl⟩ := Option.map_eq_some_iff.1 hj
        exact hcl j o e ho (by simpa using hD) (by simpa using he) hb) (fun j as i hj => by simp at hj)
    have hprei : ∀ q, q ∈ ((xH (ops.toList.map (·.after.toList)) [])[i]?).getD [] → listed.getD q false = true := by
      intro q hq
      have hq' : (fun j => listed.getD j false || j == i) q = true := by
        have h1 := vP (D := fun j => listed.getD j false || j == i) (ops.toList.map (·.after.toList)) [] (fun j es e hj hD he hb => by
          rw [List.getElem?_map, Array.getElem?_toList] at hj
          obtain ⟨o, ho, rfl⟩ := Option.map_eq_some_iff.1 hj
          simp only [List.length_nil, Nat.zero_add, Bool.or_eq_true, beq_iff_eq] at hD
          rcases hD with hD | hD
          · simp [hcl j o e ho hD (by simpa using he) hb]
          subst hD; rw [hoi] at ho; cases ho
          have := hpre e (by simpa using he)
          rw [hb] at this; simp at this
          simp [this]) (fun j as i hj => by simp at hj) i
        cases hA : (xH (ops.toList.map (·.after.toList)) [])[i]? with
        | none => rw [hA] at hq; cases hq
        | some as => rw [hA] at hq; exact h1 as q hA (by simp) hq
      simp only [Bool.or_eq_true, beq_iff_eq] at hq'
      rcases hq' with h | h
      · exact h
      exfalso; subst h
      have hlt : ∀ (l : List (List Edge)) (acc : List (List Nat)), (∀ j es e, l[j]? = some es → e ∈ es → Region.binds .any e = true → e.on < acc.length + j) → (∀ (j : Nat) (as : List Nat) (r : Nat), acc[j]? = some as → r ∈ as → r < j) →
          ∀ (j : Nat) (as : List Nat) (r : Nat), (xH l acc)[j]? = some as → r ∈ as → r < j := by
        intro l
        induction l with
        | nil => intro acc _ h; exact h
        | cons es l ih =>
          intro acc h1 h2; rw [xH]
          refine ih _ (fun j es' e hj he hb => by have := h1 (j + 1) es' e (by simpa using hj) he hb; simp; omega) fun j as r hj hr => ?_
          rcases Nat.lt_or_ge j acc.length with h | h
          · rw [List.getElem?_append_left h] at hj
            exact h2 j as r hj hr
          rw [List.getElem?_append_right h] at hj
          have hj0 : j = acc.length := by
            have := (List.getElem?_eq_some_iff.1 hj).1
            simp at this; omega
          subst hj0
          simp only [Nat.sub_self, List.getElem?_cons_zero, Option.some.injEq] at hj
          subst hj; unfold ancStep at hr
          obtain ⟨e, he, hre⟩ := List.mem_flatMap.1 hr
          obtain ⟨he1, he2⟩ := List.mem_filter.1 he
          have hlt := h1 0 es e rfl he1 he2
          rcases List.mem_cons.1 hre with e' | e'
          · omega
          cases hg : acc[e.on]? with
          | none => rw [hg] at e'; cases e'
          | some as' =>
            rw [hg] at e'
            have := h2 e.on as' r hg e'
            omega
      cases hA : (xH (ops.toList.map (·.after.toList)) [])[q]? with
      | none => rw [hA] at hq; cases hq
      | some as =>
        rw [hA] at hq
        have := hlt _ _ (fun j es e hj he hb => by
          rw [List.getElem?_map, Array.getElem?_toList] at hj
          obtain ⟨o, ho, rfl⟩ := Option.map_eq_some_iff.1 hj
          have := hedge j o e ho (by simpa using he) hb
          simp; omega) (fun j as r hj => by simp at hj) q as q hA hq
        omega
    have hbefore : ∀ (j : Nat) (sj : St), ss[j]? = some sj → pB sj.row s.row = true → j < i → listed.getD j false = true := fun j sj hj hc hlt => hprei j (hconf j i sj s hlt hj hsi hc)
    have hafter : ∀ (j : Nat) (sj : St), ss[j]? = some sj → pB s.row sj.row = true → i < j → listed.getD j false = false := fun j sj hj hc hlt => by
      cases hl : listed.getD j false with
      | false => rfl
      | true =>
        have h1 := hconf i j s sj hlt hsi hj hc
        cases hA : (xH (ops.toList.map (·.after.toList)) [])[j]? with
        | none => rw [hA] at h1; cases h1
        | some as =>
          rw [hA] at h1
          have := hclo j as i hA hl h1
          rw [hDi] at this; cases this
    have hafterR : ∀ (j : Nat) (sj : St), ss[j]? = some sj → confl s.row sj.row = true → i < j → x ≠ (i, j) → listed.getD j false = false := fun j sj hj hc hlt hx => by
      cases hl : listed.getD j false with
      | false => rfl
      | true =>
        have h1 := hconfR i j s sj hlt hx hsi hj hc
        cases hA : (xH (ops.toList.map (·.after.toList)) [])[j]? with
        | none => rw [hA] at h1; cases h1
        | some as =>
          rw [hA] at h1
          have := hclo j as i hA hl h1
          rw [hDi] at this; cases this
    have hrt : ∀ t ∈ s.rt, get (stE (fun j => listed.getD j false) 0 ss E) t = get (stE (fun j => decide (j < 0 + i)) 0 ss E) t := fun t ht => sB t _ _ ss 0 E E rfl fun j sj hj hw => by
      simp only [Nat.zero_add]
      rcases Nat.lt_trichotomy j i with h | h | h
      · rw [hbefore j sj hj (by simp [pB, St.row, hw, ht]) h]; simp [h]
      · subst h; rw [hDi]; simp
      rw [hafter j sj hj (by simp [pB, St.row, hw, ht]) h]; simp; omega
    have hrd : ∀ m ∈ s.rd, get (stH (fun j => listed.getD j false) 0 ss H) m = get (stH (fun j => decide (j < 0 + i)) 0 ss H) m ∨ ∃ y, get s.al m = some y ∧ get (stH (fun j => listed.getD j false) 0 ss H) m = some y := fun m hm => by
      have h1 := stH_split m (fun j => listed.getD j false) (fun j => decide (j < i)) (fun q => ∃ y, get s.al m = some y ∧ q = some y) ss 0 H H (fun j sj hj hD hp hw => by
        simp only [Nat.zero_add] at hD hp
        have hge : i ≤ j := by simpa using hp
        rcases Nat.lt_or_eq_of_le hge with hlt | he
        · by_cases hx : x = (i, j)
          · have h2 := hX s sj (by rw [hx]; exact hsi) (by rw [hx]; exact hj) (by rw [hx]; exact hlt) m hw hm
            obtain ⟨o, ho⟩ : ∃ o, get sj.ps m = some o := by
              generalize sj.ps = ps at hw
              induction ps with
              | nil => simp at hw
              | cons q r ih =>
                obtain ⟨i, o⟩ := q
                unfold Abs.get; split
                · exact ⟨o, rfl⟩
                rename_i e
                simp only [List.map_cons, List.mem_cons] at hw
                exact ih (hw.resolve_left (fun e' => e e'.symm))
            exact ⟨o, by rw [← h2]; exact ho, ho⟩
          have h2 := hafterR j sj hj (by
            simp only [confl, St.row, Bool.or_eq_true, List.any_eq_true, List.contains_iff_mem]
            exact .inr ⟨m, hw, hm⟩) hlt hx
          rw [h2] at hD; cases hD
        subst he; rw [hDi] at hD
        cases hD) (.inl rfl)
      rcases h1 with h1 | ⟨y, h2, h3⟩
      · refine .inl (h1.trans (pN m _ _ ss 0 H H rfl fun j sj hj hw => ?_))
        simp only [Nat.zero_add]
        by_cases h : j < i
        · rw [hbefore j sj hj (by
            simp only [pB, St.row, Bool.or_eq_true, List.any_eq_true, List.contains_iff_mem]
            exact .inr ⟨m, hw, .inl hm⟩) h]
          simp [h]
        · simp [h]
      exact .inr ⟨y, h2, h3⟩
    have hfr : ∀ m, s.nx ≤ m → m < s.nx + s.nw → ¬ stU (fun j => listed.getD j false) (UU nx) ss m := fun m h1 h2 hu => by
      rcases hu with (hu | hu) | ⟨k, sk, hk', hD, h3, h4⟩
      · omega
      · rcases d4 with d4 | d4 <;> omega
      rcases Nat.lt_trichotomy k i with h | h | h
      · have := c4 k i sk s hk' hsi h; omega
      · subst h; simp only [hDi] at hD; cases hD
      have := c4 i k s sk hsi hk' h; omega
    have hset : ∀ j, (listed.setIfInBounds i true).getD j false = if j = i then true else listed.getD j false := fun j => by
      rw [Array.getD_eq_getD_getElem?, Array.getD_eq_getD_getElem?, Array.getElem?_setIfInBounds]
      by_cases e : i = j
      · subst e; simp [show i < listed.size by omega]
      rw [if_neg e, if_neg (fun e' => e e'.symm)]
    have hstep := d5 (stE (fun j => listed.getD j false) 0 ss E) (stH (fun j => listed.getD j false) 0 ss H) (stU (fun j => listed.getD j false) (UU nx) ss) hrt hrd (fun j hj => .inl hj) hfr C a w
      (wpAnyIn (FW ro) 0 P .any ops Q fuel (listed.setIfInBounds i true)) Q hR fun C' a' w' hR' hs' => by
        refine ih (listed.setIfInBounds i true) C' a' w' (by simpa using hsz) (fun j o e ho hD he hb => ?_) ?_ ?_ ?_
        · rw [hset] at hD ⊢
          by_cases hji : j = i
          · subst hji; rw [hoi] at ho; cases ho
            have := hpre e (by simpa using he)
            rw [hb] at this; simp at this
            simp [this]
          rw [if_neg hji] at hD; rw [hcl j o e ho hD he hb]
          simp
        · have hE : ∀ t, get (stE (fun j => (listed.setIfInBounds i true).getD j false) 0 ss E) t = get (aU (stE (fun j => listed.getD j false) 0 ss E) ops[i].dst s.val) t := fun t => by
            rw [← d1]
            by_cases hw : s.wt = some t
            · rw [stE_last t _ i s (by simp only [hset, if_true]) hw ss 0 E (Nat.zero_le _) hsi fun j sj hj hw' hlt => by
                simp only [Nat.zero_add] at hlt ⊢
                rw [hset, if_neg (by omega)]
                exact hafter j sj hj (by simp [pB, St.row, hw, hw']) hlt]
              rw [hw]
              show _ = get ((t, s.val) :: _) t
              rw [aO, if_pos rfl]
            · rw [vR hw]
              exact sB t _ _ ss 0 E E rfl fun j sj hj hw' => by
                rw [Nat.zero_add, hset, if_neg (fun e => ?_)]; subst e; rw [hsi] at hj; cases hj
                exact hw hw'
          have hH : ∀ m, get (stH (fun j => (listed.setIfInBounds i true).getD j false) 0 ss H) m = get (over (stH (fun j => listed.getD j false) 0 ss H) s.ps) m := fun m => by
            by_cases hw : m ∈ s.ps.map (·.1)
            · have h1 := stH_last m (fun j => (listed.setIfInBounds i true).getD j false) i s (by simp only [hset, if_true]) hw ss 0 H (Nat.zero_le _) hsi fun j sj hj hw' hlt => by
                simp only [Nat.zero_add] at hlt ⊢
                rw [hset, if_neg (by omega)]
                refine hafter j sj hj ?_ hlt
                simp only [pB, St.row, Bool.or_eq_true, List.any_eq_true, List.contains_iff_mem]
                exact .inr ⟨m, hw, .inr hw'⟩
              rw [h1, bB]
              cases hg : get s.ps m with
              | some o => rfl
              | none =>
                exfalso
                clear h1
                generalize s.ps = ps at hw hg
                induction ps with
                | nil => simp at hw
                | cons p r ih =>
                  obtain ⟨q, o⟩ := p
                  rw [aO] at hg; split at hg
                  · cases hg
                  rename_i e
                  simp only [List.map_cons, List.mem_cons] at hw
                  exact ih (hw.resolve_left (fun e' => e e'.symm)) hg
            · rw [iG hw]
              exact pN m _ _ ss 0 H H rfl fun j sj hj hw' => by
                rw [Nat.zero_add, hset, if_neg (fun e => ?_)]; subst e; rw [hsi] at hj; cases hj
                exact hw hw'
          have hU : stU (fun j => (listed.setIfInBounds i true).getD j false) (UU nx) ss = addU (stU (fun j => listed.getD j false) (UU nx) ss) s.nx s.nw := by
            funext m
            refine propext ⟨?_, ?_⟩
            · rintro (h | ⟨k, sk, hk', hD, h1, h2⟩)
              · exact .inl (.inl h)
              simp only [hset] at hD
              by_cases hki : k = i
              · subst hki
                rw [hsi] at hk'
                cases hk'
                exact .inr ⟨h1, h2⟩
              rw [if_neg hki] at hD
              exact .inl (.inr ⟨k, sk, hk', hD, h1, h2⟩)
            rintro ((h | ⟨k, sk, hk', hD, h1, h2⟩) | ⟨h1, h2⟩)
            · exact .inl h
            · exact .inr ⟨k, sk, hk', by simp only [hset]; split <;> first | rfl | exact hD, h1, h2⟩
            exact .inr ⟨i, s, hsi, by simp only [hset, if_true], h1, h2⟩
          rw [hU]
          exact (rel_env hR' hE).ext hH
        · have hH : ∀ m, get (stH (fun j => (listed.setIfInBounds i true).getD j false) 0 ss H) m = get (over (stH (fun j => listed.getD j false) 0 ss H) s.ps) m := fun m => by
            by_cases hw : m ∈ s.ps.map (·.1)
            · have h1 := stH_last m (fun j => (listed.setIfInBounds i true).getD j false) i s (by simp only [hset, if_true]) hw ss 0 H (Nat.zero_le _) hsi fun j sj hj hw' hlt => by
                simp only [Nat.zero_add] at hlt ⊢
                rw [hset, if_neg (by omega)]
                refine hafter j sj hj ?_ hlt
                simp only [pB, St.row, Bool.or_eq_true, List.any_eq_true, List.contains_iff_mem]
                exact .inr ⟨m, hw, .inr hw'⟩
              rw [h1, bB]
              cases hg : get s.ps m with
              | some o => rfl
              | none =>
                exfalso
                clear h1
                generalize s.ps = ps at hw hg
                induction ps with
                | nil => simp at hw
                | cons p r ih =>
                  obtain ⟨q, o⟩ := p
                  rw [aO] at hg; split at hg
                  · cases hg
                  rename_i e
                  simp only [List.map_cons, List.mem_cons] at hw
                  exact ih (hw.resolve_left (fun e' => e e'.symm)) hg
            · rw [iG hw]
              exact pN m _ _ ss 0 H H rfl fun j sj hj hw' => by
                rw [Nat.zero_add, hset, if_neg (fun e => ?_)]; subst e; rw [hsi] at hj; cases hj
                exact hw hw'
          exact (hs.trans (fun _ h => h) (hs'.fewerNames (fun j hj => .inl (dM hn0 j hj)))).ext hH
        · have h1 := unl_lt (p := fun j => !listed.getD j true) (q := fun j => !(listed.setIfInBounds i true).getD j true) (i := i) (by simpa using hli)
            (by simp [Array.getD_eq_getD_getElem?, Array.getElem?_setIfInBounds, show i < listed.size by omega])
            (fun j hj => by
              simp only [Array.getD_eq_getD_getElem?, Array.getElem?_setIfInBounds] at hj ⊢
              by_cases e : i = j
              · rw [if_pos e] at hj
                split at hj <;> simp at hj
              rw [if_neg e] at hj; exact hj) (List.range ops.size) (List.mem_range.2 hil)
          have h2 : ((List.range ops.size).filter (fun j => !(listed.setIfInBounds i true).getD j true)).length < ((List.range ops.size).filter (fun j => !listed.getD j true)).length := h1
          omega
    have hy : vG (ops.toList.map (·.dst)) a.tmps = yielded ops a.tmps := by funext j; rw [yielded_eq]
    unfold GS at hstep; rw [hy] at hstep; unfold wpOpIn; rw [hoi]; exact hstep
end
end
section
variable [Globals]
variable {rt rd : List Nat} {val : AV} {ps : Heap} {nw id : Nat}
section
variable {P : Program} {ro : Option Nat} {N n0 : Nat} {o : Oper} {E : Env} {H : Heap} {nx b0 : Nat} {ds : List (Option Tmp)}
def VTr (P : Program) (ro : Option Nat) (N : Nat) (ds : List (Option Tmp)) (b0 : Nat) (l : List Oper) (acc : List Rec) (K : List Rec → AK) (E : Env) (H : Heap) (nx : Nat) : Prop :=
  (∀ o ∈ l, ∀ d, o.dst = some d → d < N) → ∃ ss E' H' nx', yE P ro N ds b0 l E H nx ss E' H' nx' ∧ K (acc.reverse ++ ss.map St.row) E' H' nx'
def lW (P : Program) (ro : Option Nat) (N : Nat) (ds : List (Option Tmp)) (b0 : Nat) : List Oper → List Rec → (List Rec → AK) → AK
  | [], acc, K, E, H, nx => K acc.reverse E H nx
  | o :: l, acc, K, E, H, nx =>
    match o.guard with
    | none => match uL P (opv E) (get H) nx o.op with
      | some r => r.ok ∧ (r.nw = 0 ∨ nx + r.nw ≤ 1000) ∧ lW P ro N ds b0 l (⟨tO (hZ o.op), rdsOf E o.op, o.dst, r.ps.map (·.1), [], r.ps⟩ :: acc) K (aU E o.dst r.val) (over H r.ps) (nx + r.nw)
      | none => VTr P ro N ds b0 (o :: l) acc K E H nx
    | some (i, want) => match (ds[i]?).join with
      | some g => match (get E g).bind iE with
        | some (c, b) => match uL P (opv (envG E o.op)) (get H) nx o.op with
          | some ⟨ok, val, [], 0⟩ => ((c ∧ b = want) → ok) ∧ unOk (c ∧ b = want) E (rdG o.op) ∧ val.bel (UU b0) ∧
              lW P ro N ds b0 l (⟨g :: tO (hZ o.op), rdsOf (envG E o.op) o.op, o.dst, [], [], []⟩ :: acc) K (aU E o.dst (.when (c ∧ b = want) val)) H nx
          | _ => VTr P ro N ds b0 (o :: l) acc K E H nx
        | none => VTr P ro N ds b0 (o :: l) acc K E H nx
      | none => VTr P ro N ds b0 (o :: l) acc K E H nx
theorem vtr_stepA {l : List Oper} {acc : List Rec} {K : List Rec → AK} {al : Heap} (hl : (∀ d, o.dst = some d → d < N) → LStepA P ro N ds o b0 E H rt rd al val ps nx nw) (hn : nw = 0 ∨ nx + nw ≤ 1000)
    (h : VTr P ro N ds b0 l (⟨rt, rd, o.dst, ps.map (·.1), al, ps⟩ :: acc) K (aU E o.dst val) (over H ps) (nx + nw)) : VTr P ro N ds b0 (o :: l) acc K E H nx := by
  intro hd
  obtain ⟨ss, E', H', nx', h1, h2⟩ := h fun o' ho' => hd o' (List.mem_cons_of_mem _ ho')
  refine ⟨⟨rt, rd, o.dst, al, val, ps, nx, nw⟩ :: ss, E', H', nx', ⟨rfl, rfl, hn, hl (hd o List.mem_cons_self), h1⟩, ?_⟩
  simpa [St.row] using h2
theorem vtr_step {l : List Oper} {acc : List Rec} {K : List Rec → AK} (hl : (∀ d, o.dst = some d → d < N) → bC P ro N ds o b0 E H rt rd val ps nx nw) (hn : nw = 0 ∨ nx + nw ≤ 1000)
    (h : VTr P ro N ds b0 l (⟨rt, rd, o.dst, ps.map (·.1), [], ps⟩ :: acc) K (aU E o.dst val) (over H ps) (nx + nw)) : VTr P ro N ds b0 (o :: l) acc K E H nx :=
  vtr_stepA (fun hN => (hl hN).toA) hn h
theorem vtr_dst {l : List Oper} {acc : List Rec} {K : List Rec → AK} (h : (∀ o ∈ l, ∀ d, o.dst = some d → d < N) → VTr P ro N ds b0 l acc K E H nx) : VTr P ro N ds b0 l acc K E H nx := fun hd => h hd hd
theorem vtr_vc : ∀ (l : List Oper) (acc : List Rec) (K : List Rec → AK) (E : Env) (H : Heap) (nx : Nat), lW P ro N ds b0 l acc K E H nx → VTr P ro N ds b0 l acc K E H nx
  | [], acc, K, E, H, nx, h => fun _ => ⟨[], E, H, nx, ⟨rfl, rfl, rfl⟩, by rw [List.map_nil, List.append_nil]; exact h⟩
  | o :: l, acc, K, E, H, nx, h => vtr_dst fun hd => by
    have hN := hd o List.mem_cons_self
    simp only [lW] at h
    split at h
    · rename_i hg
      split at h
      · rename_i r hr
        obtain ⟨hok, hnx, hrest⟩ := h
        exact vtr_step (fun hN => lstep_ev hg hN hr hok) hnx (vtr_vc l _ K _ _ _ hrest)
      exact h
    rename_i i want hg
    split at h
    · rename_i g hgi
      split at h
      · rename_i c b hs
        obtain ⟨x, hx, hsx⟩ := Option.bind_eq_some_iff.1 hs
        split at h
        · rename_i ok val hr
          obtain ⟨hok, hun, hb, hrest⟩ := h
          exact vtr_step (fun hN => lstep_guardO hN hg hgi hx hsx hun (fun hG => lstep_ev (o := { o with guard := none }) rfl hN hr (hok hG)) hb) (.inl rfl) (vtr_vc l _ K _ _ _ hrest)
        exact h
      exact h
    exact h
theorem bQ {l : List Oper} {acc : List Rec} {K : List Rec → AK} (hl : (∀ d, o.dst = some d → d < N) → bC P ro N ds o b0 E H rt rd val ps nx nw) (hn : nw = 0 ∨ nx + nw ≤ 1000)
    (h : lW P ro N ds b0 l (⟨rt, rd, o.dst, ps.map (·.1), [], ps⟩ :: acc) K (aU E o.dst val) (over H ps) (nx + nw)) : VTr P ro N ds b0 (o :: l) acc K E H nx :=
  vtr_step hl hn (vtr_vc l _ K _ _ _ h)
def drawn (afts : List (List Edge)) (K : AK) : List Rec → AK := fun rs E H nx => indep afts rs = true ∧ K E H nx
def drawnX (x : Nat × Nat) (afts : List (List Edge)) (K : AK) : List Rec → AK := fun rs E H nx => indepX x afts rs = true ∧ (x.1 < x.2 → (rs[x.1]?).map Rec.al = (rs[x.2]?).map Rec.ps) ∧ K E H nx
theorem indepX_of {afts : List (List Edge)} {rs : List Rec} (h : indep afts rs = true) : indepX (0, 0) afts rs = true := by
  simp only [indep, indepX, Bool.and_eq_true] at h ⊢
  refine ⟨h.1, List.all_eq_true.2 fun j hj => List.all_eq_true.2 fun i hi => ?_⟩
  have := List.all_eq_true.1 (List.all_eq_true.1 h.2 j hj) i hi
  have hne : ((0, 0) : Nat × Nat) ≠ (i, j) := fun e => by
    have hij := List.mem_range.1 hi
    simp only [Prod.mk.injEq] at e
    omega
  simp only [if_neg hne]; exact this
theorem awp_drawG {Q : AQ} {ops : Array Oper} (x : Nat × Nat) (hm : P.follows .mixedOrders = true) (hd : dstOk N ops.toList = true)
    (h : VTr P ro N (ops.toList.map (·.dst)) nx ops.toList [] (drawnX x (ops.toList.map (·.after.toList)) (Q .normal)) E H nx) : AWP P ro N n0 (.region id ops true) Q E H nx := by
  intro C a w Qc hn hR hK
  obtain ⟨ss, E', H', nx', hC, hI, hX, hQ⟩ := h (dstOk_iff hd)
  have hR' : Rel C N E H (UU nx) a { w with drawn := w.drawn + 1 } := hR.heap_eq rfl
  have hnx' : nx ≤ nx' := (yE.at' _ _ _ _ _ _ _ _ 0 hC).2.1
  have hf : ∀ j, (Array.replicate ops.size false).getD j false = false := fun j => by
    rw [Array.getD_eq_getD_getElem?, Array.getElem?_replicate]
    split <;> rfl
  have hE0 : stE (fun j => (Array.replicate ops.size false).getD j false) 0 ss E = E := by
    have : ∀ (r : List St) (q : Nat) (E : Env), stE (fun j => (Array.replicate ops.size false).getD j false) q r E = E := by
      intro r
      induction r with
      | nil => intro q E; rfl
      | cons a r ih => intro q E; unfold stE; rw [hf, if_neg (by simp)]; exact ih _ _
    exact this ss 0 E
  have hH0 : stH (fun j => (Array.replicate ops.size false).getD j false) 0 ss H = H := by
    have : ∀ (r : List St) (q : Nat) (H : Heap), stH (fun j => (Array.replicate ops.size false).getD j false) q r H = H := by
      intro r
      induction r with
      | nil => intro q H; rfl
      | cons a r ih => intro q H; unfold stH; rw [hf, if_neg (by simp)]; exact ih _ _
    exact this ss 0 H
  have hU0 : stU (fun j => (Array.replicate ops.size false).getD j false) (UU nx) ss = UU nx := by
    funext m
    refine propext ⟨?_, .inl⟩
    rintro (h | ⟨k, s, _, hD, _⟩)
    · exact h
    simp only [hf] at hD; cases hD
  refine wpIn_region_any hm (draw_any (x := x) (n0 := n0) (dstOk_iff hd) hn hC (by simpa using hI) (fun s s' h1 h2 h3 m _ _ => by
    have hX := hX h3
    simp only [List.reverse_nil, List.nil_append, List.getElem?_map, h1, h2, Option.map_some, Option.some.injEq] at hX
    have hX' : s.al = s'.ps := hX
    rw [hX']) (C0 := C) (w0 := w) (fun C' a' w' hR2 hs2 => hK .normal E' H' nx' C' a' w' (by omega) hR2 hs2 hQ) ops.size _ C a _ (by simp) (fun j o e ho hD => ?_) ?_ ?_ ?_)
  · rw [hf] at hD; cases hD
  · rw [hE0, hH0, hU0]; exact hR'
  · rw [hH0]
    exact ⟨rfl, rfl, rfl, Nat.le_refl _, fun _ _ _ => rfl, fun _ h => .inl h, rfl, rfl, fun _ _ => rfl⟩
  exact Nat.le_trans (List.length_filter_le _ _) (by simp)
theorem nS {Q : AQ} {ops : Array Oper} (hm : P.follows .mixedOrders = true) (hd : dstOk N ops.toList = true)
    (h : lW P ro N (ops.toList.map (·.dst)) nx ops.toList [] (drawn (ops.toList.map (·.after.toList)) (Q .normal)) E H nx) : AWP P ro N n0 (.region id ops true) Q E H nx :=
  awp_drawG (0, 0) hm hd fun hd' => by
    obtain ⟨ss, E', H', nx', h1, h2, h3⟩ := vtr_vc _ _ _ _ _ _ h hd'
    exact ⟨ss, E', H', nx', h1, indepX_of h2, fun hlt => absurd hlt (by decide), h3⟩
end
end
section
variable [Globals]
variable {f n1 : Nat} {c : Code} {args : List AV} {nd H1 : Heap} {r0 : AV} {R : Prop}
section
variable {P : Program} {N n0 : Nat}
def Final (P : Program) (vs : List ResultVar) (n0 : Nat) (r0 : AV) (H1 : Heap) (n1 : Nat) (E : Env) (H : Heap) : Prop :=
  ∃ s : List (Nat × Nat), (rL P E H vs).map mM = some (r0.ren (sg s)) ∧ eX (sg s) n1 H H1 ∧ (H1.map fun p => sg s p.1).Nodup ∧ r0.bel (UU n1) ∧ (∀ p ∈ s, n0 ≤ p.1 ∧ p.1 < 1000) ∧ n0 ≤ n1
def endC (P : Program) (vs : List ResultVar) (n0 : Nat) (r0 : AV) (H1 : Heap) (n1 : Nat) : AQ := fun e E H nx =>
  match e with
  | .ret => Final P vs n0 r0 H1 n1 E H
  | .normal => Final P vs n0 r0 H1 n1 E H
  | _ => False
abbrev aD (P : Program) (f : Nat) (args : List AV) (nd : Heap) (n0 : Nat) (r0 : AV) (H1 : Heap) (n1 : Nat) : Prop := tW P f args nd n0 fun r H n => r = r0 ∧ H = H1 ∧ n = n1
theorem gw {fn : Func} {vs : List ResultVar} (hf : FnT P f fn c) (hN : fn.ntmps = N) (hv : fn.results.toList = vs) (hl : args.length ≤ N)
    (h : AWP P none N n0 c (endC P vs n0 r0 H1 n1) (eE 0 args) nd n0) : aD P f args nd n0 r0 H1 n1 := by
  have h1 := meets_of_awp (R := fun r H n => ∃ s : List (Nat × Nat), r = r0.ren (sg s) ∧ eX (sg s) n1 H H1 ∧ (H1.map fun p => sg s p.1).Nodup ∧ r0.bel (UU n1) ∧ (∀ p ∈ s, n0 ≤ p.1 ∧ p.1 < 1000) ∧ n0 ≤ n1) hf hN hv hl
    (awp_mono h fun e E H nx hQ => by
      cases e with
      | ret => obtain ⟨s, q0, q3⟩ := hQ; obtain ⟨rs, q1, q2⟩ := Option.map_eq_some_iff.1 q0; exact ⟨rs, q1, s, q2, q3⟩
      | normal => obtain ⟨s, q0, q3⟩ := hQ; obtain ⟨rs, q1, q2⟩ := Option.map_eq_some_iff.1 q0; exact ⟨rs, q1, s, q2, q3⟩
      | _ => exact hQ)
  intro C w vals hR hargs hb
  refine (h1 C w vals hR hargs hb).mono fun e w' ⟨v, r, H', n', C', he, hn, ⟨s, hr, hH, hi, hbel, hs, hn1⟩, a1, a2, a3, a4⟩ => ?_
  have hσ : ∀ i, UU n0 i → sg s i = i := fun i hu => by
    unfold sg
    cases hg : get s i with
    | none => rfl
    | some j =>
      have := hs _ (aN hg)
      rcases hu with hu | hu <;> simp at this <;> omega
  have hHH : ∀ i o, get H1 i = some o → get H' (sg s i) = some (o.ren (sg s)) ∧ UU n1 i ∧ o.bel (UU n1) := fun i o hi' => jG hH i o (aN hi')
  have hav : ∀ b, (C'.ren (sg s)).avoid H1 b → C'.avoid H' b := fun b hb => hb.imp id (fun ⟨i, o, hi, hb⟩ => ⟨sg s i, _, (hHH i o hi).1, hb⟩)
  refine ⟨v, r0, H1, n1, C'.ren (sg s), he, hn1, ⟨rfl, rfl, rfl⟩, a1.ren hHH (sV hi), ?_, ?_, hbel⟩
  · exact { os := a2.os, tape := a2.tape, output := a2.output, size := a2.size, keep := a2.keep
            wr := fun b ⟨i, o, hi', hb'⟩ => a2.wr b ⟨sg s i, _, (hHH i o hi').1, hb'⟩
            X := a2.X, B := a2.B, ρ := fun i hi' => (congrArg C'.ρ (hσ i hi')).trans (a2.ρ i hi') }
  subst hr
  exact (a3.mono (av' := (C'.ren (sg s)).avoid H1) (fun b _ => hav b) (fun _ _ _ => rfl)).unren (ρ := C'.ρ) r0 rfl
theorem pw {fn : Func} {vs : List ResultVar} (hf : FnT P f fn c) (hN : fn.ntmps = N) (hv : fn.results.toList = vs) (hl : args.length ≤ N)
    (h : AWP P none N n0 c (endC P vs n0 r0 nd n0) (eE 0 args) nd n0) : aB P f args nd n0 r0 := gw hf hN hv hl h
theorem gq {fn : Func} (N : Nat) (vs : List ResultVar) (hf : P.funcs[f]? = some fn) (k : R) (hb : fn.body = some c := by rfl) (hn : (fn.name == "runtime.NumGoroutine") = false := by rfl) (hN : fn.ntmps = N := by rfl) (hv : fn.results.toList = vs := by rfl) (hl : args.length ≤ N := by simp)
    (h : R → AWP P none N n0 c (endC P vs n0 r0 H1 n1) (eE 0 args) nd n0 := by intro k; simp only [eE]; exact k) : aD P f args nd n0 r0 H1 n1 := gw ⟨hf, hb, hn⟩ hN hv hl (h k)
theorem pq {fn : Func} (N : Nat) (vs : List ResultVar) (hf : P.funcs[f]? = some fn) (k : R) (hb : fn.body = some c := by rfl) (hn : (fn.name == "runtime.NumGoroutine") = false := by rfl) (hN : fn.ntmps = N := by rfl) (hv : fn.results.toList = vs := by rfl) (hl : args.length ≤ N := by simp)
    (h : R → AWP P none N n0 c (endC P vs n0 r0 nd n0) (eE 0 args) nd n0 := by intro k; simp only [eE]; exact k) : aB P f args nd n0 r0 := gw ⟨hf, hb, hn⟩ hN hv hl (h k)
end
end
section
variable [Globals]
variable {α : Type} {c : Code} {H1 : Heap} {n1 : Nat}
def Told (n0 : Nat) (s : List (Nat × Nat)) (E : Env) (H : Heap) (E1 : Env) (H1 : Heap) (n1 : Nat) : Prop :=
  envOk (sg s) n1 E E1 ∧ eX (sg s) n1 H H1 ∧ (H1.map fun p => sg s p.1).Nodup ∧ (∀ p ∈ s, n0 ≤ p.1 ∧ p.1 < 1000) ∧ n0 ≤ n1
section
variable {P : Program} {ro : Option Nat} {N n0 : Nat} {Q : AQ} {E : Env} {H : Heap} {nx : Nat}
theorem awp_told {E1 : Env} (s : List (Nat × Nat)) (ht : Told n0 s E H E1 H1 n1) (h : AWP P ro N n0 c Q E1 H1 n1) : AWP P ro N n0 c Q E H nx :=
  awp_ren s ht.2.2.2.2 ht.1 ht.2.1 ht.2.2.1 ht.2.2.2.1 h
def lQ (n0 : Nat) (Inv : α → Prop) (μ : α → Nat) (S : α → Env × Heap) (n1 : Nat) (x : α) (Q : AQ) : AQ
  | .normal => fun E H nx => ∃ x', Inv x' ∧ μ x' < μ x ∧ ∃ s, Told n0 s E H (S x').1 (S x').2 n1
  | e => Q e
theorem wl (Inv : α → Prop) (μ : α → Nat) (S : α → Env × Heap) (n1 : Nat) (x0 : α) (hi : Inv x0) (s0 : List (Nat × Nat)) (h0 : Told n0 s0 E H (S x0).1 (S x0).2 n1)
    (h : ∀ x, Inv x → AWP P ro N n0 c (lQ n0 Inv μ S n1 x Q) (S x).1 (S x).2 n1) : AWP P ro N n0 (.loop c) Q E H nx := by
  refine awp_loop (fun m E H nx => ∃ x s, Inv x ∧ μ x = m ∧ Told n0 s E H (S x).1 (S x).2 n1) (μ x0) ⟨x0, s0, hi, rfl, h0⟩ fun m E H nx hn ⟨x, s, hx, hm, ht⟩ => ?_
  subst hm
  refine awp_told s ht (awp_mono (h x hx) fun e E' H' nx' hq => ?_)
  cases e with
  | normal =>
    obtain ⟨x', h1, h2, s', h3⟩ := hq
    exact ⟨μ x', h2, x', s', h1, rfl, h3⟩
  | _ => exact hq
theorem eT {t : Nat} (e sz : Nat) (ht : get E t = some (.raw (.slice none 0 0))) (hn : nx < 1000) (h : AWP P ro N n0 c Q ((t, .ref nx) :: E) (put H nx (.row e sz [])) (nx + 1)) : AWP P ro N n0 c Q E H nx := by
  intro C a w Qc hn0 hR hK
  obtain ⟨h1, _, h3⟩ := hR.env t _ ht
  have hnx : ¬ UU nx nx := fun hu => by rcases hu with hu | hu <;> omega
  have hs := StepR.new (U := UU nx) (w' := w) hR.toRelH rfl rfl rfl (Nat.le_refl _) (fun _ _ => rfl) hnx (v := .slice none 0 0) (own := []) rfl (by simp) (.row e sz [])
  have hH := RelH.new (U := UU nx) (w' := w) hR.toRelH rfl rfl rfl (Nat.le_refl _) (fun _ _ => rfl) hnx (v := .slice none 0 0) (own := []) rfl (by simp) (o := .row e sz []) ⟨.own0 e sz, List.nodup_nil⟩ trivial
  have hR' := hR.change hs (fun _ h => .inl h) hH
  have hU : (fun j => UU nx j ∨ j = nx) = UU (nx + 1) := by rw [← eB, wK]
  rw [hU] at hR' hH
  have hR2 : Rel (C.new nx (.slice none 0 0) [] rfl) N ((t, .ref nx) :: E) (put H nx (.row e sz [])) (UU (nx + 1)) a w :=
    { toRelH := hH, size := hR'.size, hB := hR'.hB, nodup := hR'.nodup, marks := hR'.marks
      env := fun t' x' ht' => by
        rw [aO] at ht'
        split at ht'
        · rename_i e'
          subst e'
          cases ht'
          refine ⟨h1, .inl (by omega), ?_⟩
          generalize a.tmps.getD t undef = v at h3
          cases h3
          have : Rep (C.new nx (.slice none 0 0) [] rfl).ρ ((C.new nx (.slice none 0 0) [] rfl).avoid (put H nx (.row e sz []))) w.heap (.ref nx) ((C.new nx (.slice none 0 0) [] rfl).ρ nx) := .ref nx
          rwa [show (C.new nx (.slice none 0 0) [] rfl).ρ nx = .slice none 0 0 from aZ _ _ _] at this
        exact hR'.env t' x' ht' }
  exact h _ a w Qc (by omega) hR2 fun e' E' H' nx' C' a' w' hn' hR3 hs3 hQ => hK e' E' H' nx' C' a' w' hn' hR3 ((hs.fewerNames (dM hn0)).trans (fun _ h => h) hs3) hQ
theorem bU {o : Oper} {b0 : Nat} {ds : List (Option Tmp)} {c : Call} {f : Nat} {fn : Func} {code : Code} {args : List AV} {nd H1 : Heap} {m0 n1 : Nat} {r0 : AV} (s : List (Nat × Nat)) (nw : Nat) (hg : o.guard = none) (ho : o.op = .call c) (hc : c.callee = .value (.func f)) (hT : FnT P f fn code)
    (hN : ∀ d, o.dst = some d → d < N) (hM : aD P f args nd m0 r0 H1 n1) (hn : n1 = m0 + nw) (hargs : c.args.toList.map (opv E) = (aA (sg s) args).map some) (hab : aC (UU m0) args) (hF : FitC H s nd m0 nw H1) :
    bC P ro N ds o b0 E H (tO c.args.toList) (nd.map fun p => sg s p.1) (r0.ren (shift (sg s) m0 nx nw)) (H1.map fun p => (shift (sg s) m0 nx nw p.1, p.2.ren (shift (sg s) m0 nx nw))) nx nw := by
  subst hn
  exact lstep_call s hg ho hc hT hN hM hargs hab hF
end
end
section
variable [Globals]
attribute [go_sem] List.toList_toArray List.map_cons List.map_nil uL evField evLoad wU evBuild evCall evAppend evBin evNil evUn evPick evIndex vH evSlice evSliceS vF nilOf nilCmp pk_true pk_false iE iop sop shop bop mmop jU pI app1 app2 yU appRaw appRaw2 aL dZ dE gG isEnum opsL AV.fitsEl AV.width AV.solid AV.elem AV.scO AV.notAgg elSet isPtr lenAV lenRaw yL opsV eF addF opv aO Option.map_some Option.map_none over Abs.put aU Bool.and_true Bool.true_and if_true or_true true_and if_false reduceIte Nat.zero_add List.getElem?_cons_zero List.getElem?_cons_succ Bool.false_eq_true true_or Option.join_some Option.bind_some tO hZ zK lP uU AV.bel aC UU unE envG xN rdG unwhen unOk whenOk imp_self List.length_cons List.length_nil cP List.append_nil List.nil_append List.not_mem_nil forall_const tG AV.sc AV.free freeL Value.oneCell' List.all_cons List.all_nil bS List.take_succ_cons List.take_zero List.drop_succ_cons List.drop_zero List.cons_append not_false_eq_true List.take_nil List.drop_nil Option.toList List.append_eq List.reverse_cons List.reverse_nil false_implies beq_self_eq_true decide_true List.nodup_cons List.nodup_nil List.mem_singleton forall_eq Nat.one_ne_zero List.set_cons_zero List.set_cons_succ List.length_map Int.toNat_natCast List.getElem?_map
theorem AV.ren_nil (x : AV) : x.ren (sg []) = x := AV.ren_id x
theorem iH (xs : List AV) : aA (sg []) xs = xs := gY xs
theorem AObj.ren_nil (o : AObj) : o.ren (sg []) = o := by
  cases o with
  | cells t cs => show AObj.cells t (aA (sg []) cs) = _; rw [iH]
  | row e sz xs => show AObj.row e sz (aA (sg []) xs) = _; rw [iH]
  | map kt et m =>
    show AObj.map kt et (m.map fun p => (p.1, p.2.ren (sg []))) = _
    congr 1
    conv => rhs; rw [← List.map_id m]
    exact List.map_congr_left fun p _ => by rw [AV.ren_nil]; rfl
  | mapS kt et m k st =>
    show AObj.mapS kt et (m.map fun p => (p.1, p.2.ren (sg []))) k st = _
    congr 1
    conv => rhs; rw [← List.map_id m]
    exact List.map_congr_left fun p _ => by rw [AV.ren_nil]; rfl
  | loop l rec No m =>
    show AObj.loop l rec No (m.map fun p => (p.1, p.2.ren (sg []))) = _
    congr 1
    conv => rhs; rw [← List.map_id m]
    exact List.map_congr_left fun p _ => by rw [AV.ren_nil]; rfl
  | _ => rfl
theorem sg_nil_at (i : Nat) : sg [] i = i := rfl
attribute [go_sem] AV.ren_nil iH AObj.ren_nil sg_nil_at Told envOk eX
theorem fO {P : Program} {vs : List ResultVar} {r0 : AV} {E : Env} {H : Heap} (h : (rL P E H vs).map mM = some r0) (hb : r0.bel (UU 0)) : Final P vs 0 r0 [] 0 E H :=
  ⟨[], by rw [AV.ren_nil]; exact h, trivial, List.nodup_nil, hb, (fun p hp => by cases hp), Nat.le_refl _⟩
attribute [go_sem] rL mM opsO
attribute [go_sem] implies_true and_true and_self athen inBlk
end
end Go.Abs
end
section
open Go Go.MapKept
namespace Go.Abs
section
variable [Globals]
variable {kt et t : TypeId} {k : Value} {i : Nat} {ρ : Nat → Value} {av : Nat → Prop} {x y : Operand} {kav z v : AV} {w : World} {hp : Array Obj} {ok : Bool}
structure KeyT (P : Program) (kt : TypeId) (isKey : Value → Prop) : Prop where
  check : ∀ k, isKey k → ∀ (e : Bool) (w : World), (Instr.checkKey e 10000 kt k).run P w = .ok () w
  find : ∀ (k : Value) (es : List MapEntry) (w : World), isKey k → (∀ e ∈ es, isKey e.key) → ∃ r, (Instr.findKey kt k es).run P w = .ok r w ∧
    ((r = none ∧ ∀ e ∈ es, e.key ≠ k) ∨ ∃ (j : Nat) (e : MapEntry), r = some (j, e.val) ∧ es[j]? = some e ∧ e.key = k)
  bits : ∀ k, isKey k → Instr.sameBits 10000 k k = true
theorem keyT_plain {P : Program} {d : TypeDesc} (hd : P.underlying kt = some d) (hb : ∀ k, IsKey d k → Instr.sameBits 10000 k k = true) : KeyT P kt (IsKey d) where
  check := fun k hk e w => run_checkKey hd hk e 9999
  find := fun k es w hk hes => by
    rcases findNow_spec hk es 0 hes with ⟨h1, h2⟩ | ⟨j, e, h1, h2, h3⟩
    · exact ⟨none, run_findKey hd h1, .inl ⟨rfl, h2⟩⟩
    rw [Nat.zero_add] at h1
    exact ⟨_, run_findKey hd h1, .inr ⟨j, e, rfl, h2, h3⟩⟩
  bits := hb
section
variable {P : Program} {ro : Option Nat} {N : Nat} {o : Oper} {E : Env} {H : Heap} {U : Nat → Prop}
theorem map_at {C : Conc} {a : Act} {m : List (Value × AV)} (hR : RelH C H U w) (hH : get H i = some (.map kt et m)) : ∃ b es clock, C.ρ i = .map (some b) ∧ C.own i = [b] ∧ w.heap[b]? = some (.map es clock) ∧ es.size = m.length ∧ es.size < maxLen ∧
    (∀ (j : Nat) (k : Value) (x : AV), m[j]? = some (k, x) → ∃ e, es[j]? = some e ∧ e.key = k ∧ Rep C.ρ (C.avoid H) w.heap x e.val) ∧
    (∀ (j : Nat) (e : MapEntry), es[j]? = some e → e.born < clock ∧ ∀ (i : Nat) (d : MapEntry), es[i]? = some d → d.born = e.born → i = j) := hR.obj i _ hH
theorem keys_of {es : Array MapEntry} {m : List (Value × AV)} (hsz : es.size = m.length) (h : ∀ (j : Nat) (k : Value) (x : AV), m[j]? = some (k, x) → ∃ e, es[j]? = some e ∧ e.key = k ∧ Rep ρ av hp x e.val) {isKey : Value → Prop} (hk : ∀ p ∈ m, isKey p.1) :
    ∀ e ∈ es.toList, isKey e.key := fun e he => by
  obtain ⟨j, hj⟩ := List.getElem?_of_mem he
  rw [Array.getElem?_toList] at hj
  have hjl := (Array.getElem?_eq_some_iff.1 hj).1
  have hm : m[j]? = some (m[j]'(by omega)) := List.getElem?_eq_getElem (by omega)
  obtain ⟨e', he', hke, _⟩ := h j (m[j]'(by omega)).1 (m[j]'(by omega)).2 hm
  rw [hj] at he'
  cases he'
  rw [hke]
  exact hk _ (List.getElem_mem _)
def MGet (m : List (Value × AV)) (k : Value) (r : Option (Nat × AV)) : Prop :=
  match r with
  | none => ∀ p ∈ m, p.1 ≠ k
  | some (j, x) => m[j]? = some (k, x)
def lookAV (z : AV) (ok : Bool) (r : Option (Nat × AV)) : AV :=
  let v := match r with | some (_, x) => x | none => z
  if ok then .tup [v, .raw (.bool r.isSome)] else v
theorem run_find {isKey : Value → Prop} (hK : KeyT P kt isKey) {es : Array MapEntry} {m : List (Value × AV)} (hsz : es.size = m.length)
    (h : ∀ (j : Nat) (k : Value) (x : AV), m[j]? = some (k, x) → ∃ e, es[j]? = some e ∧ e.key = k ∧ Rep ρ av w.heap x e.val) (hk : ∀ p ∈ m, isKey p.1) (hkk : isKey k) (hnd : (m.map (·.1)).Nodup) {r : Option (Nat × AV)} (hr : MGet m k r) :
    match r with
    | none => (Instr.findKey kt k es.toList).run P w = .ok none w
    | some (j, x) => ∃ e, es[j]? = some e ∧ e.key = k ∧ Rep ρ av w.heap x e.val ∧ (Instr.findKey kt k es.toList).run P w = .ok (some (j, e.val)) w := by
  obtain ⟨r', h1, h2⟩ := hK.find k es.toList w hkk (keys_of hsz h hk)
  have at_m : ∀ (j : Nat) (e : MapEntry), es[j]? = some e → ∃ x, m[j]? = some (e.key, x) := fun j e hj => by
    have hjl := (Array.getElem?_eq_some_iff.1 hj).1
    have hm : m[j]? = some (m[j]'(by omega)) := List.getElem?_eq_getElem (by omega)
    obtain ⟨e', he', hke, _⟩ := h j (m[j]'(by omega)).1 (m[j]'(by omega)).2 hm
    rw [hj] at he'
    cases he'
    exact ⟨(m[j]'(by omega)).2, by rw [hm, hke]⟩
  cases r with
  | none =>
    rcases h2 with ⟨rfl, _⟩ | ⟨j, e, rfl, hj, hke⟩
    · exact h1
    rw [Array.getElem?_toList] at hj
    obtain ⟨x, hx⟩ := at_m j e hj
    exact absurd hke (hr _ (List.mem_of_getElem? hx))
  | some p =>
    obtain ⟨j, x⟩ := p
    obtain ⟨e, he, hke, hrep⟩ := h j k x hr
    refine ⟨e, he, hke, hrep, ?_⟩
    rcases h2 with ⟨rfl, hno⟩ | ⟨j', e', rfl, hj', hke'⟩
    · exact absurd hke (hno e (by rw [Array.mem_toList_iff]; exact Array.mem_of_getElem? he))
    rw [Array.getElem?_toList] at hj'
    obtain ⟨x', hx'⟩ := at_m j' e' hj'
    have hjj : j' = j := by
      have a1 := (List.getElem?_eq_some_iff.1 hx').1
      have a2 := (List.getElem?_eq_some_iff.1 hr).1
      have q1 : (m.map (·.1))[j']? = some k := by rw [List.getElem?_map, hx', ← hke']; rfl
      have q2 : (m.map (·.1))[j]? = some k := by
        have : m[j]? = some (k, x) := hr
        rw [List.getElem?_map, this]; rfl
      obtain ⟨l1, e1⟩ := List.getElem?_eq_some_iff.1 q1
      obtain ⟨l2, e2⟩ := List.getElem?_eq_some_iff.1 q2
      exact (List.getElem_inj hnd).mp (e1.trans e2.symm)
    subst hjj
    rw [he] at hj'
    cases hj'
    exact h1
theorem opT_lookupG {m : List (Value × AV)} {isKey : Value → Prop} {r : Option (Nat × AV)} (ho : o.op = .lookup t x y ok) (hN : ∀ d, o.dst = some d → d < N) (hm : iY P t = some (kt, et)) (hz : zE P et = some z)
    (hK : KeyT P kt isKey) (hx : opv E x = some (.ref i)) (hat : ∀ (C : Conc) (a : Act) (w : World), Rel C N E H U a w → (∃ b es clock, C.ρ i = .map (some b) ∧ w.heap[b]? = some (.map es clock) ∧ es.size = m.length ∧
      (∀ (j : Nat) (k : Value) (x : AV), m[j]? = some (k, x) → ∃ e, es[j]? = some e ∧ e.key = k ∧ Rep C.ρ (C.avoid H) w.heap x e.val)) ∧ aC U (m.map (·.2))) (hy : opv E y = some kav) (hkv : ∀ (ρ : Nat → Value) (av : Nat → Prop) (hp : Array Obj) (v : Value), Rep ρ av hp kav v → v = k)
    (hkk : isKey k) (hk : ∀ p ∈ m, isKey p.1) (hnd : (m.map (·.1)).Nodup) (hr : MGet m k r) : OpT P ro N o E H U (aU E o.dst (lookAV z ok r)) H U := by
  obtain ⟨iz, zv, hiz, hzz, _, hzr, hzb⟩ := zeroEl_open hz
  refine aG (by simp [ho, Op.noDefer]) hN fun C a w hR => ?_
  obtain ⟨h1, _⟩ := hR.opv hx
  obtain ⟨h2, _⟩ := hR.opv hy
  have hkey := hkv _ _ _ _ h2
  obtain ⟨⟨b, es, clock, hρ, hb, hsz, hent⟩, hbelm⟩ := hat C a w hR
  have hev : a.eval x = .map (some b) := by generalize a.eval x = v at h1; cases h1; exact hρ
  have hfind := run_find (P := P) (w := w) hK hsz hent hk hkk hnd hr
  have hchk := hK.check k hkk es.isEmpty w
  have hzv : (zeroValue et).run P w = .ok zv w := by simp [zeroValue, typeInfo, hiz, hzz]
  have hg := MapKept.run_getObj_map (P := P) (w := w) hb
  have hbase : ∀ (v : Value) (f : Bool), (match r with | none => v = zv ∧ f = false | some (j, x) => ∃ e, es[j]? = some e ∧ v = e.val ∧ f = true) → (Instr.lookup t (.map (some b)) k ok).run P w = .ok (if ok then .tuple #[v, .bool f] else v) w := fun v f hv => by
    simp only [Instr.lookup, Sem.run_bind, run_underlying (pG hm), Result.andThen_ok, hg, Sem.run_pure, hchk]
    cases r with
    | none =>
      obtain ⟨rfl, rfl⟩ := hv
      simp only [hfind, Result.andThen_ok, Sem.run_bind, hzv, Sem.run_pure]
    | some p =>
      obtain ⟨j, xx⟩ := p
      obtain ⟨e, he, rfl, rfl⟩ := hv
      obtain ⟨e', he', _, _, hf⟩ := hfind
      rw [he] at he'
      cases he'
      simp only [hf, Result.andThen_ok, Sem.run_bind, Sem.run_pure]
  cases r with
  | none =>
    have hl := hbase zv false ⟨rfl, rfl⟩
    cases ok with
    | true =>
      refine ⟨⟨hzb U, trivial, trivial⟩, .tuple #[zv, .bool false], by simp [execOp, ho, hev, hkey, hl], ?_⟩
      refine .tup _ _ rfl fun j q hj => ?_
      match j, hj with
      | 0, hj => cases hj; exact hzr _ _ _
      | 1, hj => cases hj; exact .raw _
      | j + 2, hj => cases hj
    | false => exact ⟨hzb U, _, by simp [execOp, ho, hev, hkey, hl], hzr _ _ _⟩
  | some p =>
    obtain ⟨j, xx⟩ := p
    obtain ⟨e, he, hke, hrep, _⟩ := hfind
    have hl := hbase e.val true ⟨e, he, rfl, rfl⟩
    have hbx : xx.bel U := bG hbelm (j := j) (by rw [List.getElem?_map, show m[j]? = some (k, xx) from hr]; rfl)
    cases ok with
    | true =>
      refine ⟨⟨hbx, trivial, trivial⟩, .tuple #[e.val, .bool true], by simp [execOp, ho, hev, hkey, hl], ?_⟩
      refine .tup _ _ rfl fun j q hj => ?_
      match j, hj with
      | 0, hj => cases hj; exact hrep
      | 1, hj => cases hj; exact .raw _
      | j + 2, hj => cases hj
    | false => exact ⟨hbx, _, by simp [execOp, ho, hev, hkey, hl], hrep⟩
theorem opT_lookup {m : List (Value × AV)} {isKey : Value → Prop} {r : Option (Nat × AV)} (ho : o.op = .lookup t x y ok) (hN : ∀ d, o.dst = some d → d < N) (hm : iY P t = some (kt, et)) (hz : zE P et = some z)
    (hK : KeyT P kt isKey) (hx : opv E x = some (.ref i)) (hH : get H i = some (.map kt et m)) (hy : opv E y = some kav) (hkv : ∀ (ρ : Nat → Value) (av : Nat → Prop) (hp : Array Obj) (v : Value), Rep ρ av hp kav v → v = k)
    (hkk : isKey k) (hk : ∀ p ∈ m, isKey p.1) (hnd : (m.map (·.1)).Nodup) (hr : MGet m k r) : OpT P ro N o E H U (aU E o.dst (lookAV z ok r)) H U :=
  opT_lookupG ho hN hm hz hK hx (fun C a w hR => by
    obtain ⟨b, es, clock, hρ, hown, hb, hsz, hlt, hent, hborn⟩ := map_at (a := a) hR.toRelH hH
    exact ⟨⟨b, es, clock, hρ, hb, hsz, hent⟩, (hR.objb i _ hH).2⟩) hy hkv hkk hk hnd hr
theorem xY (w : World) (b : Nat) (o : Obj) : ({ w with heap := w.heap.setIfInBounds b o } : World).heap.size = w.heap.size := by simp
def gL (m : List (Value × AV)) (k : Value) (v : AV) : Option (Nat × AV) → List (Value × AV)
  | some (j, _) => m.set j (k, v)
  | none => m ++ [(k, v)]
theorem mapPut_rep {es : Array MapEntry} {m : List (Value × AV)} {k u : Value} {clock : Nat} {r : Option (Nat × AV)} (hsz : es.size = m.length)
    (h : ∀ (j : Nat) (k : Value) (x : AV), m[j]? = some (k, x) → ∃ e, es[j]? = some e ∧ e.key = k ∧ Rep ρ av hp x e.val) (hv : Rep ρ av hp v u) (hr : MGet m k r) :
    let es' := match r with | some (j, _) => es.modify j fun e => { e with key := k, val := u } | none => es.push { key := k, val := u, born := clock }
    es'.size = (gL m k v r).length ∧ ∀ (j : Nat) (k' : Value) (x : AV), (gL m k v r)[j]? = some (k', x) → ∃ e, es'[j]? = some e ∧ e.key = k' ∧ Rep ρ av hp x e.val := by
  cases r with
  | none =>
    refine ⟨by simp [gL, hsz], fun j k' x hj => ?_⟩
    simp only [gL] at hj ⊢
    rcases Nat.lt_or_ge j m.length with h1 | h1
    · rw [List.getElem?_append_left h1] at hj
      obtain ⟨e, he, hk, hx⟩ := h j k' x hj
      exact ⟨e, by rw [Array.getElem?_push, if_neg (by omega)]; exact he, hk, hx⟩
    rw [List.getElem?_append_right h1] at hj
    have hj0 : j = m.length := by
      have := (List.getElem?_eq_some_iff.1 hj).1
      simp at this; omega
    subst hj0
    simp only [Nat.sub_self, List.getElem?_cons_zero, Option.some.injEq, Prod.mk.injEq] at hj
    obtain ⟨rfl, rfl⟩ := hj
    exact ⟨_, by rw [Array.getElem?_push, if_pos (by omega)], rfl, hv⟩
  | some p =>
    obtain ⟨q, y⟩ := p
    refine ⟨by simp [gL, hsz], fun j k' x hj => ?_⟩
    simp only [gL] at hj ⊢
    rw [List.getElem?_set] at hj
    by_cases e : q = j
    · subst e; rw [if_pos rfl] at hj; split at hj
      · cases hj
        obtain ⟨e, he, _, _⟩ := h q k y hr
        exact ⟨{ e with key := k, val := u }, by rw [Array.getElem?_modify, if_pos rfl, he]; rfl, rfl, hv⟩
      cases hj
    rw [if_neg e] at hj
    obtain ⟨e', he, hk, hx⟩ := h j k' x hj
    exact ⟨e', by rw [Array.getElem?_modify, if_neg e]; exact he, hk, hx⟩
theorem opT_mapUpdate {x y z : Operand} {m : List (Value × AV)} {isKey : Value → Prop} {r : Option (Nat × AV)} (ho : o.op = .mapUpdate t x y z) (hN : ∀ d, o.dst = some d → d < N) (hm : iY P t = some (kt, et))
    (hK : KeyT P kt isKey) (hx : opv E x = some (.ref i)) (hH : get H i = some (.map kt et m)) (hy : opv E y = some kav) (hkv : ∀ (ρ : Nat → Value) (av : Nat → Prop) (hp : Array Obj) (v : Value), Rep ρ av hp kav v → v = k) (hz : opv E z = some v)
    (hkk : isKey k) (hk : ∀ p ∈ m, isKey p.1) (hnd : (m.map (·.1)).Nodup) (hr : MGet m k r) (hlen : m.length + 1 < maxLen) : OpT P ro N o E H U (aU E o.dst (.raw undef)) (put H i (.map kt et (gL m k v r))) U := by
  intro C a w next Q hR hnext
  obtain ⟨h1, _⟩ := hR.opv hx
  obtain ⟨h2, _⟩ := hR.opv hy
  obtain ⟨h3, h3b⟩ := hR.opv hz
  have hkey := hkv _ _ _ _ h2
  obtain ⟨b, es, clock, hρ, hown, hb, hsz, hlt, hent, hborn⟩ := map_at (a := a) hR.toRelH hH
  have hev : a.eval x = .map (some b) := by generalize a.eval x = v at h1; cases h1; exact hρ
  have hbelm := (hR.objb i _ hH).2
  have hfind := run_find (P := P) (w := w) hK hsz hent hk hkk hnd hr
  have hchk := hK.check k hkk false w
  have hg := MapKept.run_getObj_map (P := P) (w := w) hb
  obtain ⟨p1, p2⟩ := mapPut_rep (clock := clock) hsz hent h3 hr
  have hblt := ltB hb
  have key : ∃ es' clock', (Instr.mapUpdate t (.map (some b)) k (a.eval z)).run P w = .ok () { w with heap := w.heap.setIfInBounds b (.map es' clock') } ∧ es'.size = (gL m k v r).length ∧ es'.size < maxLen ∧
      (∀ (j : Nat) (k' : Value) (x : AV), (gL m k v r)[j]? = some (k', x) → ∃ e, es'[j]? = some e ∧ e.key = k' ∧ Rep C.ρ (C.avoid H) w.heap x e.val) ∧
      (∀ (j : Nat) (e : MapEntry), es'[j]? = some e → e.born < clock' ∧ ∀ (i : Nat) (d : MapEntry), es'[i]? = some d → d.born = e.born → i = j) := by
    cases r with
    | none =>
      refine ⟨es.push { key := k, val := a.eval z, born := clock }, clock + 1, ?_, p1, by simp; omega, p2, fun j e hj => ?_⟩
      · simp only [Instr.mapUpdate, Sem.run_bind, run_underlying (pG hm), Result.andThen_ok, hg, hchk, hfind]
        exact MapKept.run_setObj_map _ hb
      rw [Array.getElem?_push] at hj; split at hj
      · cases hj
        refine ⟨Nat.lt_succ_self _, fun i' d hi' hd => ?_⟩
        rw [Array.getElem?_push] at hi'
        split at hi'
        · omega
        have := (hborn i' d hi').1
        simp only at hd
        omega
      obtain ⟨q1, q2⟩ := hborn j e hj
      refine ⟨by omega, fun i' d hi' hd => ?_⟩
      rw [Array.getElem?_push] at hi'
      split at hi'
      · cases hi'
        simp only at hd
        omega
      exact q2 i' d hi' hd
    | some p =>
      obtain ⟨j, y'⟩ := p
      obtain ⟨e, he, hke, _, hf⟩ := hfind
      refine ⟨es.modify j fun e => { e with key := k, val := a.eval z }, clock, ?_, p1, by simpa using hlt, p2, fun j' e' hj' => ?_⟩
      · have hst : (Instr.keyThatStays k k).run P w = .ok k w := by simp [Instr.keyThatStays, hK.bits k hkk]
        have hke' : ((es[j]?).map (·.key)).getD k = k := by rw [he]; exact hke
        simp only [Instr.mapUpdate, Sem.run_bind, run_underlying (pG hm), Result.andThen_ok, hg, hchk, hf, hke', hst]
        exact MapKept.run_setObj_map _ hb
      have at' : ∀ (q : Nat) (d : MapEntry), (es.modify j fun e => { e with key := k, val := a.eval z })[q]? = some d → ∃ d', es[q]? = some d' ∧ d'.born = d.born := fun q d hq => by
        rw [Array.getElem?_modify] at hq; split at hq
        · obtain ⟨d', hd', rfl⟩ := Option.map_eq_some_iff.1 hq
          exact ⟨d', hd', rfl⟩
        exact ⟨d, hq, rfl⟩
      obtain ⟨d, hd, hbd⟩ := at' j' e' hj'
      obtain ⟨q1, q2⟩ := hborn j' d hd
      refine ⟨by omega, fun i' d2 hi' hd2 => ?_⟩
      obtain ⟨d3, hd3, hbd3⟩ := at' i' d2 hi'
      exact q2 i' d3 hd3 (by omega)
  obtain ⟨es', clock', hrun, k1, k2, k3, k4⟩ := key
  have hother : ∀ q, q ≠ b → (w.heap.setIfInBounds b (.map es' clock'))[q]? = w.heap[q]? := fun q hq => by rw [Array.getElem?_setIfInBounds, if_neg (fun e => hq e.symm)]
  have hkeep : ∀ q, q ∉ C.own i → ({ w with heap := w.heap.setIfInBounds b (.map es' clock') } : World).heap[q]? = w.heap[q]? := fun q hq => hother q (fun e => hq (by rw [hown, e]; simp))
  have hs := StepR.inPlace (o' := .map kt et (gL m k v r)) hR.toRelH (w' := { w with heap := w.heap.setIfInBounds b (.map es' clock') }) rfl rfl rfl (xY w b _) hH hkeep
  have hav : ∀ q, q < w.heap.size → ¬ C.avoid H q → ({ w with heap := w.heap.setIfInBounds b (.map es' clock') } : World).heap[q]? = w.heap[q]? := fun q _ hn => hkeep q (fun hb' => hn (.inr ⟨i, _, hH, hb'⟩))
  have hbel' : (AObj.map kt et (gL m k v r)).bel U := by
    have hbelm : aC U (m.map (·.2)) := hbelm
    show aC U _
    rw [bLi] at hbelm ⊢
    intro q hq
    cases r with
    | none =>
      simp only [gL, List.map_append, List.map_cons, List.map_nil, List.mem_append, List.mem_singleton] at hq
      rcases hq with h | h
      · exact hbelm q h
      rw [h]; exact h3b
    | some p =>
      simp only [gL, List.map_set] at hq
      rcases List.mem_or_eq_of_mem_set hq with h | h
      · exact hbelm q h
      rw [h]; exact h3b
  have hRH := hR.toRelH.inPlace (w' := { w with heap := w.heap.setIfInBounds b (.map es' clock') }) rfl rfl rfl (xY w b _) hH (o' := .map kt et (gL m k v r)) hkeep
    ⟨b, es', clock', hρ, hown, by show (w.heap.setIfInBounds b _)[b]? = _; simp [hblt], k1, k2, fun j k' x hj => by obtain ⟨e, he, hke, hx⟩ := k3 j k' x hj; exact ⟨e, he, hke, hx.mono (fun _ _ h => h) hav⟩, k4⟩ hbel'
  have hR' := hR.change hs (fun _ h => h) hRH
  refine tE (by simp [ho, Op.noDefer]) (w' := { w with heap := w.heap.setIfInBounds b (.map es' clock') }) (by simp [execOp, ho, hev, hkey, hrun]) (hnext C _ _ (hR'.put hN (.raw _) trivial) hs)
end
end
section
variable [Globals]
variable {k : Value} {t kt et : TypeId} {x y : Operand} {i : Nat}
section
variable {P : Program} {ro : Option Nat} {N : Nat} {o : Oper} {E : Env} {H : Heap} {nx b0 : Nat} {ds : List (Option Tmp)}
theorem lsO {rt rd : List Nat} {val : AV} {ps : Heap} {nw : Nat} (hg : o.guard = none)
    (h : ∀ (E' : Env) (H' : Heap) (U : Nat → Prop), (∀ t ∈ rt, get E' t = get E t) → (∀ i ∈ rd, get H' i = get H i) → (∀ j, nx ≤ j → j < nx + nw → ¬ U j) → OpT P ro N o E' H' U (aU E' o.dst val) (over H' ps) (addU U nx nw)) :
    bC P ro N ds o b0 E H rt rd val ps nx nw :=
  fun E' H' U hE hH hU hnx C a w next Q hR hK => qN hg (h E' H' U hE hH hnx C a w next Q hR hK)
def rawOf : AV → Option Value
  | .raw v => some v
  | _ => none
def keyV : AV → Option Value
  | .raw v => some v
  | .agg cs => (cs.mapM rawOf).map fun vs => .agg vs.toArray
  | _ => none
theorem keyV_aux {ρ : Nat → Value} {av : Nat → Prop} {hp : Array Obj} : ∀ (cs : List AV) (vs us : List Value), (cs.mapM rawOf) = some vs → us.length = cs.length → (∀ (j : Nat) (x : AV), cs[j]? = some x → Rep ρ av hp x (us.getD j undef)) → us = vs
  | [], vs, us, h, hl, _ => by
    simp at h; subst h
    exact List.eq_nil_of_length_eq_zero hl
  | c :: cs, vs, [], h, hl, _ => by simp at hl
  | c :: cs, vs, u :: us, h, hl, hr => by
    simp only [List.mapM_cons, Option.pure_def, Option.bind_eq_bind] at h
    obtain ⟨v, hv, h⟩ := Option.bind_eq_some_iff.1 h
    obtain ⟨vs', hvs, h⟩ := Option.bind_eq_some_iff.1 h
    cases h
    have h0 := hr 0 c rfl
    have ih := keyV_aux cs vs' us hvs (by simpa using hl) fun j x hj => by simpa using hr (j + 1) x (by simpa using hj)
    cases c with
    | raw w =>
      simp only [rawOf, Option.some.injEq] at hv
      subst hv
      simp only [List.getD_cons_zero] at h0
      cases h0; rw [ih]
    | _ => cases hv
theorem keyV_rep {x : AV} (h : keyV x = some k) (ρ : Nat → Value) (av : Nat → Prop) (hp : Array Obj) (v : Value) (hr : Rep ρ av hp x v) : v = k := by
  cases x with
  | raw u => simp only [keyV, Option.some.injEq] at h; subst h; cases hr; rfl
  | agg cs =>
    simp only [keyV] at h
    obtain ⟨vs, hvs, rfl⟩ := Option.map_eq_some_iff.1 h
    cases hr with
    | agg _ us hn hrep =>
      have := keyV_aux cs vs us.toList hvs (by simpa using hn) fun j x hj => by
        have := hrep j x hj
        simpa [Array.getD_eq_getD_getElem?, List.getD_eq_getElem?_getD] using this
      rw [← this]
  | _ => simp [keyV] at h
theorem lstep_lookup {ok : Bool} {m : List (Value × AV)} {isKey : Value → Prop} {z kav : AV} {r : Option (Nat × AV)} (hg : o.guard = none) (ho : o.op = .lookup t x y ok) (hN : ∀ d, o.dst = some d → d < N) (hm : iY P t = some (kt, et)) (hz : zE P et = some z)
    (hK : KeyT P kt isKey) (hx : opv E x = some (.ref i)) (hH : get H i = some (.map kt et m)) (hy : opv E y = some kav) (hkv : keyV kav = some k) (hkk : isKey k) (hk : ∀ p ∈ m, isKey p.1) (hnd : (m.map (·.1)).Nodup) (hr : MGet m k r) :
    bC P ro N ds o b0 E H (tO [x, y]) [i] (lookAV z ok r) [] nx 0 := by
  refine lsO hg fun E' H' U hE hH' _ => ?_
  rw [aU0]
  have hops := oCg hE
  exact opT_lookup ho hN hm hz hK (by rw [hops x (by simp)]; exact hx) (by rw [hH' i (by simp)]; exact hH) (by rw [hops y (by simp)]; exact hy) (keyV_rep hkv) hkk hk hnd hr
theorem lstep_mapUpdate {x y z : Operand} {m : List (Value × AV)} {isKey : Value → Prop} {kav v : AV} {r : Option (Nat × AV)} (hg : o.guard = none) (ho : o.op = .mapUpdate t x y z) (hN : ∀ d, o.dst = some d → d < N) (hm : iY P t = some (kt, et))
    (hK : KeyT P kt isKey) (hx : opv E x = some (.ref i)) (hH : get H i = some (.map kt et m)) (hy : opv E y = some kav) (hkv : keyV kav = some k) (hz : opv E z = some v) (hkk : isKey k) (hk : ∀ p ∈ m, isKey p.1) (hnd : (m.map (·.1)).Nodup) (hr : MGet m k r) (hlen : m.length + 1 < maxLen) :
    bC P ro N ds o b0 E H (tO [x, y, z]) [i] (.raw undef) [(i, .map kt et (gL m k v r))] nx 0 := by
  refine lsO hg fun E' H' U hE hH' _ => ?_
  rw [aU0]
  have hops := oCg hE
  exact opT_mapUpdate ho hN hm hK (by rw [hops x (by simp)]; exact hx) (by rw [hH' i (by simp)]; exact hH) (by rw [hops y (by simp)]; exact hy) (keyV_rep hkv) (by rw [hops z (by simp)]; exact hz) hkk hk hnd hr hlen
end
end
section
variable [Globals]
variable {P : Program}
theorem keyT_string {kt : TypeId} (hu : P.underlying kt = some .string) : KeyT P kt (IsKey .string) :=
  keyT_plain hu fun v hv => by
    cases v <;> simp [IsKey] at hv
    rename_i s
    have hss : (s == s) = true := (bytes_beq s s).2 rfl
    rw [show (10000 : Nat) = 9999 + 1 from rfl]
    simp [Instr.sameBits, hss]
end
end Go.Abs
end
section
open Go
namespace Go.Abs
section
variable [Globals]
variable {f m0 n1 : Nat} {args xs : List AV} {nd H1 : Heap} {r0 : AV}
section
variable {P : Program} {ro : Option Nat} {N : Nat} {o : Oper} {E : Env} {H : Heap} {nx b0 : Nat} {ds : List (Option Tmp)}
theorem wpIn_enter {vals : Array Value} {a : Act} {w : World} {next : Act → World → Prop} {Q : Exit → Act → World → Prop} {R : Value → World → Prop} (hd : Op.noDefer o.op = true) (hr : (execOp a.eval o).run P w = .ok (.enter f vals) w)
    (h : Calls P f vals w fun e w' => ∃ v, e = .returned v ∧ R v w') (hn : ∀ v w', R v w' → next (a.put o.dst v) w') : o.wpIn (FW ro) 0 P a w next Q := by
  refine ⟨fun _ _ => trivial, ?_⟩
  rw [nH hd, hr, Oper.uponIn_enter]
  exact ⟨fun hh => (by cases hh), yZ (h.mono fun e w' ⟨v, he, hv⟩ => by subst he; exact hn v w' hv)⟩
theorem lstep_enter {rt : List Nat} (s : List (Nat × Nat)) (nw : Nat) (hg : o.guard = none) (hd : Op.noDefer o.op = true) (hN : ∀ d, o.dst = some d → d < N)
    (hent : ∀ (E' : Env) (H' : Heap) (U : Nat → Prop) (C : Conc) (a : Act) (w : World), (∀ t ∈ rt, get E' t = get E t) → Rel C N E' H' U a w → ∃ vals, (execOp a.eval o).run P w = .ok (.enter f vals) w ∧ cF C.ρ (C.avoid H') w.heap (aA (sg s) args) vals)
    (hM : aD P f args nd m0 r0 H1 n1) (hn1 : n1 = m0 + nw) (hab : aC (UU m0) args) (hF : FitC H s nd m0 nw H1) :
    bC P ro N ds o b0 E H rt (nd.map fun p => sg s p.1) (r0.ren (shift (sg s) m0 nx nw)) (H1.map fun p => (shift (sg s) m0 nx nw p.1, p.2.ren (shift (sg s) m0 nx nw))) nx nw := by
  subst hn1
  intro E' H' U hE hH hU hnx C a w next Q hR hK
  have hfit := hF.fit hR.toRelH (fun j hj => hU j (.inr hj)) (fun p hp => hH _ (List.mem_map.2 ⟨p, hp, rfl⟩)) hnx
  have hRc := hR.toRelH.callee hfit
  obtain ⟨vals, hrun, hvals⟩ := hent E' H' U C a w hE hR
  have hargsR : cF (callee C H' (sg s) nd).ρ ((callee C H' (sg s) nd).avoid nd) w.heap args vals :=
    (hvals.mono (av' := (callee C H' (sg s) nd).avoid nd) (fun b _ hb => (dV hfit b).1 hb) (fun _ _ _ => rfl)).unren (ρ := C.ρ)
  refine qN hg (wpIn_enter (R := fun v w' => ∃ C1, RelH C1 H1 (UU (m0 + nw)) w' ∧ StepR (callee C H' (sg s) nd) nd (UU m0) w C1 H1 w' ∧ Rep C1.ρ (C1.avoid H1) w'.heap r0 v ∧ r0.bel (UU (m0 + nw))) hd hrun
    ((hM _ w _ hRc hargsR hab).mono fun e w' ⟨v, r, H2, n', C1, he, hn', ⟨hr, hH2, hn2⟩, h1, h2, h3, h4⟩ => ?_) fun v w' ⟨C1, h1, h2, h3, h4⟩ => ?_)
  · subst hr; subst hH2; subst hn2
    exact ⟨v, he, C1, h1, h2, h3, h4⟩
  obtain ⟨k1, k2, k3⟩ := hR.toRelH.back hfit h1 h2
  obtain ⟨k4, k5⟩ := k3 r0 v h4 h3
  have hRel := hR.change k2 (fun i hi => .inl hi) k1
  exact hK _ _ w' (hRel.put hN k4 k5) k2
theorem cF.append {ρ : Nat → Value} {av : Nat → Prop} {hp : Array Obj} {xs ys : List AV} {vs us : Array Value} (h : cF ρ av hp xs vs) (k : cF ρ av hp ys us) : cF ρ av hp (xs ++ ys) (vs ++ us) := by
  refine ⟨by simp [h.1, k.1], fun j x hj => ?_⟩
  rcases Nat.lt_or_ge j xs.length with h1 | h1
  · rw [List.getElem?_append_left h1] at hj
    have := h.2 j x hj
    rw [Array.getD_eq_getD_getElem?, Array.getElem?_append_left (by rw [h.1]; exact h1), ← Array.getD_eq_getD_getElem?]
    exact this
  rw [List.getElem?_append_right h1] at hj
  have := k.2 _ x hj
  rw [Array.getD_eq_getD_getElem?, Array.getElem?_append_right (by rw [h.1]; exact h1), h.1, ← Array.getD_eq_getD_getElem?]
  exact this
theorem lstep_callFn {c : Call} {y : Operand} {fn : Func} {code : Code} {first cap : List AV} (s : List (Nat × Nat)) (nw : Nat) (hg : o.guard = none) (ho : o.op = .call c) (hc : c.callee = .value y) (hy : opv E y = some (.fn (.func f) first cap))
    (hT : FnT P f fn code) (hN : ∀ d, o.dst = some d → d < N) (hM : aD P f args nd m0 r0 H1 n1) (hn1 : n1 = m0 + nw) (hxs : c.args.toList.map (opv E) = xs.map some) (hargs : first ++ xs ++ cap = aA (sg s) args) (hab : aC (UU m0) args) (hF : FitC H s nd m0 nw H1) :
    bC P ro N ds o b0 E H (tO (y :: c.args.toList)) (nd.map fun p => sg s p.1) (r0.ren (shift (sg s) m0 nx nw)) (H1.map fun p => (shift (sg s) m0 nx nw p.1, p.2.ren (shift (sg s) m0 nx nw))) nx nw := by
  refine lstep_enter s nw hg (by simp [ho, Op.noDefer]) hN (fun E' H' U C a w hE hR => ?_) hM hn1 hab hF
  have hops := oCg hE
  obtain ⟨h1, _⟩ := hR.opv (x := y) (r := .fn (.func f) first cap) (by rw [hops y (by simp)]; exact hy)
  have hxs' : c.args.toList.map (opv E') = xs.map some := by
    rw [← hxs]
    exact List.map_congr_left fun x hx => hops x (List.mem_cons_of_mem _ hx)
  obtain ⟨h2, _⟩ := sD hR hxs'
  generalize hev : a.eval y = u at h1
  cases h1 with
  | fn _ _ _ vs us hn hr hn' hr' =>
    refine ⟨vs ++ c.args.map a.eval ++ us, ?_, by rw [← hargs]; exact (cF.append (cF.append ⟨hn, hr⟩ h2) ⟨hn', hr'⟩)⟩
    simp [execOp, ho, resolve, hc, hev, Deferred.ofValue, invoke, hT.run]
end
end
section
variable [Globals]
variable {ρ : Nat → Value} {av av' : Nat → Prop} {hp hp' : Array Obj} {x : AV} {v : Value} {ow : List Nat}
mutual
def AV.fz : AV → AV
  | .own _ sz xs => .sl sz (fzL xs)
  | .agg cs => .agg (fzL cs)
  | .tup cs => .tup (fzL cs)
  | .sl sz xs => .sl sz (fzL xs)
  | .fp sz xs j off => .fp sz (fzL xs) j off
  | .iface t x => .iface t x.fz
  | .fn f a b => .fn f (fzL a) (fzL b)
  | .when c x => .when c x.fz
  | .any => .any
  | .raw v => .raw v
  | .ptr i off => .ptr i off
  | .ep i sz j off => .ep i sz j off
  | .ref i => .ref i
def fzL : List AV → List AV
  | [] => []
  | x :: xs => x.fz :: fzL xs
end
theorem fzL_get : ∀ (xs : List AV) (j : Nat), (fzL xs)[j]? = (xs[j]?).map AV.fz
  | [], j => rfl
  | x :: xs, 0 => rfl
  | x :: xs, j + 1 => by simpa [fzL] using fzL_get xs j
theorem bT : ∀ xs : List AV, (fzL xs).length = xs.length
  | [] => rfl
  | x :: xs => by simp [fzL, bT xs]
theorem qW {α : Type} (f : α → AV) : ∀ l : List α, fzL (l.map f) = l.map fun a => (f a).fz
  | [] => rfl
  | a :: l => by simp [fzL, qW f l]
theorem Rep.fz (h : Rep ρ av hp x v) : Rep ρ av hp x.fz v := by
  have aux : ∀ {xs : List AV} {g : Nat → Value}, (∀ (j : Nat) (y : AV), xs[j]? = some y → Rep ρ av hp y.fz (g j)) → ∀ (j : Nat) (y : AV), (fzL xs)[j]? = some y → Rep ρ av hp y (g j) := fun hh j y hy => by
    rw [fzL_get] at hy
    obtain ⟨z, hz, rfl⟩ := Option.map_eq_some_iff.1 hy
    exact hh j z hz
  induction h with
  | any v => exact .any v
  | raw v => exact .raw v
  | agg cs vs hn _ ih => exact .agg _ vs (by rw [bT]; exact hn) (aux (g := fun j => vs.getD j undef) ih)
  | tup cs vs hn _ ih => exact .tup _ vs (by rw [bT]; exact hn) (aux (g := fun j => vs.getD j undef) ih)
  | sl0 sz A c hc => exact .sl0 sz A c hc
  | sl sz xs b off c cells t fr vals h0 hc hm hb hh _ hcells ih =>
    have := Rep.sl (ρ := ρ) sz (fzL xs) b off c cells t fr vals (by rw [bT]; exact h0) (by rw [bT]; exact hc) hm hb hh (aux ih) (by rw [bT]; exact hcells)
    rw [bT] at this; exact this
  | fp sz xs j d b off cells t fr vals hb hh _ hcells ih => exact .fp sz _ j d b off cells t fr vals hb hh (aux ih) (by rw [bT]; exact hcells)
  | ptr i off b h => exact .ptr _ off b h
  | ep i sz j off b h => exact .ep _ sz j off b h
  | ref i => exact .ref _
  | iface t x v _ ih => exact .iface t _ v ih
  | fn f first cap vs us hn _ hn' _ ih ih' => exact .fn f _ _ vs us (by rw [bT]; exact hn) (aux (g := fun j => vs.getD j undef) ih) (by rw [bT]; exact hn') (aux (g := fun j => us.getD j undef) ih')
  | when c x v _ h' ih => exact .when c _ v ih h'
theorem RepO.fz (h : RepO ρ av hp x v ow) (hn : ∀ b, b ∈ ow → ¬ av b) : Rep ρ av hp x.fz v := by
  have aux : ∀ {xs : List AV} {g : Nat → Value}, (∀ (j : Nat) (y : AV), xs[j]? = some y → Rep ρ av hp y.fz (g j)) → ∀ (j : Nat) (y : AV), (fzL xs)[j]? = some y → Rep ρ av hp y (g j) := fun hh j y hy => by
    rw [fzL_get] at hy
    obtain ⟨z, hz, rfl⟩ := Option.map_eq_some_iff.1 hy
    exact hh j z hz
  induction h with
  | leaf x v h => exact h.fz
  | agg cs vs ows hl _ ih => exact .agg _ vs (by rw [bT]; exact hl) (aux (g := fun j => vs.getD j undef) fun j x hj => ih j x hj fun b hb => hn b (mFl.2 ⟨j, (List.getElem?_eq_some_iff.1 hj).1, hb⟩))
  | own0 e sz => exact .sl0 sz none 0 (Nat.zero_le _)
  | own e sz xs b c cells vals ows hh hs hc hm hx hcells ih =>
    have hrep : ∀ (j : Nat) (y : AV), (fzL xs)[j]? = some y → Rep ρ av hp y (vals j) := aux fun j x hj => ih j x hj fun b' hb => hn b' (List.mem_cons_of_mem _ (mFl.2 ⟨j, (List.getElem?_eq_some_iff.1 hj).1, hb⟩))
    show Rep ρ av hp (.sl sz (fzL xs)) _
    rcases Nat.eq_zero_or_pos xs.length with h0 | h0
    · have : fzL xs = [] := List.eq_nil_of_length_eq_zero (by rw [bT]; exact h0)
      rw [this, h0]
      exact .sl0 sz _ c hm
    have := Rep.sl (ρ := ρ) (av := av) (hp := hp) sz (fzL xs) b 0 c cells e (0, 0) vals (by rw [bT]; exact h0) (by rw [bT]; exact hc) hm (hn b List.mem_cons_self) hh hrep (by rw [bT]; exact hcells)
    rw [bT] at this; exact this
mutual
def AV.noFz : AV → Bool
  | .sl _ _ => false
  | .fp _ _ _ _ => false
  | .agg cs => jZ cs
  | .tup cs => jZ cs
  | .iface _ x => x.noFz
  | .fn _ a b => jZ a && jZ b
  | .when _ x => x.noFz
  | .own _ _ xs => jZ xs
  | _ => true
def jZ : List AV → Bool
  | [] => true
  | x :: xs => x.noFz && jZ xs
end
theorem iP : ∀ {xs : List AV}, jZ xs = true → ∀ {j : Nat} {x : AV}, xs[j]? = some x → x.noFz = true
  | [], _, j, x, h => by simp at h
  | y :: ys, hf, j, x, h => by
    simp only [jZ, Bool.and_eq_true] at hf
    cases j with
    | zero => simp at h; subst h; exact hf.1
    | succ j => exact iP hf.2 (by simpa using h)
theorem sK {α : Type} (f : α → AV) (h : ∀ a, (f a).noFz = true) : ∀ l : List α, jZ (l.map f) = true
  | [] => rfl
  | a :: l => by simp [jZ, h a, sK f h l]
theorem Rep.anywhere (h : Rep ρ av hp x v) (hx : x.noFz = true) : Rep ρ av' hp' x v := by
  induction h with
  | any v => exact .any v
  | raw v => exact .raw v
  | agg cs vs hn _ ih => exact .agg cs vs hn fun j x hj => ih j x hj (iP (by simpa [AV.noFz] using hx) hj)
  | tup cs vs hn _ ih => exact .tup cs vs hn fun j x hj => ih j x hj (iP (by simpa [AV.noFz] using hx) hj)
  | sl0 sz A c hc => simp [AV.noFz] at hx
  | sl sz xs b off c cells t fr vals h0 hc hm hb hh _ hcells ih => simp [AV.noFz] at hx
  | fp sz xs j d b off cells t fr vals hb hh _ hcells ih => simp [AV.noFz] at hx
  | ptr i off b h => exact .ptr _ off b h
  | ep i sz j off b h => exact .ep _ sz j off b h
  | ref i => exact .ref _
  | iface t x v _ ih => exact .iface t _ v (ih (by simpa [AV.noFz] using hx))
  | fn f first cap vs us hn _ hn' _ ih ih' =>
    have hx' : jZ first = true ∧ jZ cap = true := by simpa [AV.noFz] using hx
    exact .fn f _ _ vs us hn (fun j x hj => ih j x hj (iP hx'.1 hj)) hn' (fun j x hj => ih' j x hj (iP hx'.2 hj))
  | when c x v _ h' ih => exact .when c x v (fun hc => ih hc (by simpa [AV.noFz] using hx)) h'
theorem RepO.anywhere (h : RepO ρ av hp x v ow) (hx : x.noFz = true) (hown : ∀ b, b ∈ ow → hp'[b]? = hp[b]?) : RepO ρ av' hp' x v ow := by
  induction h with
  | leaf x v h => exact .leaf x v (h.anywhere hx)
  | agg cs vs ows hn _ ih => exact .agg cs vs ows hn fun j x hj => ih j x hj (iP (by simpa [AV.noFz] using hx) hj) fun b hb => hown b (mFl.2 ⟨j, (List.getElem?_eq_some_iff.1 hj).1, hb⟩)
  | own0 e sz => exact .own0 e sz
  | own e sz xs b c cells vals ows hh hs hc hm _ hcells ih =>
    exact .own e sz xs b c cells vals ows ((hown b (by simp)).trans hh) hs hc hm (fun j x hj => ih j x hj (iP (by simpa [AV.noFz] using hx) hj) fun b' hb => hown b' (List.mem_cons_of_mem _ (mFl.2 ⟨j, (List.getElem?_eq_some_iff.1 hj).1, hb⟩))) hcells
end
section
variable [Globals]
def AObj.noFz : AObj → Bool
  | .dead => true
  | .cells _ cs => jZ cs
  | .row _ _ xs => jZ xs
  | .map _ _ m => jZ (m.map (·.2))
  | .mapS _ _ _ _ _ => false
  | .other _ _ => true
  | .loop _ _ _ _ => false
theorem cC.anywhere {ρ : Nat → Value} {av av' : Nat → Prop} {hp : Array Obj} {own : List Nat} {o : AObj} {v : Value} (h : cC ρ av hp own o v) (ho : o.noFz = true) : cC ρ av' hp own o v := by
  cases o with
  | dead => exact h
  | cells t cs => obtain ⟨b, vs, h1, h2, h3, h4⟩ := h; exact ⟨b, vs, h1, h2, h3, h4.1, fun j x hj => (h4.2 j x hj).anywhere (iP ho hj)⟩
  | row e sz xs => exact ⟨h.1.anywhere ho (fun _ _ => rfl), h.2⟩
  | map kt et m =>
    obtain ⟨b, es, clock, h1, h2, h3, h4, h5, h6, h7⟩ := h
    refine ⟨b, es, clock, h1, h2, h3, h4, h5, fun j k x hj => ?_, h7⟩
    obtain ⟨e, he, hk, hr⟩ := h6 j k x hj
    exact ⟨e, he, hk, hr.anywhere (iP ho (j := j) (by rw [List.getElem?_map, hj]; rfl))⟩
  | mapS kt et m k st => cases ho
  | other b o => exact h
  | loop l rec No Eo => cases ho
section
variable {bw : List Nat} {C : Conc} {H : Heap} {U : Nat → Prop} {w : World} {σ : Nat → Nat} {nd : Heap} {n0 nx nw : Nat} {H1 : Heap}
def calleeB (bw : List Nat) (C : Conc) (H : Heap) (σ : Nat → Nat) (nd : Heap) : Conc :=
  { ρ := fun i => C.ρ (σ i), one := fun i => C.one (σ i), own := fun i => C.own (σ i), B := C.B
    X := fun b => C.X b ∨ ∃ i o, get H i = some o ∧ i ∉ bw ∧ (∀ j o', get nd j = some o' → σ j ≠ i) ∧ b ∈ C.own i }
theorem nB (hF : Fit U H σ nd n0 nx nw H1) (b : Nat) (h : (calleeB bw C H σ nd).avoid nd b) : C.avoid H b := by
  rcases h with (h | ⟨i, o, hi, _, _, hb⟩) | ⟨i, o, hi, hb⟩
  · exact .inl h
  · exact .inr ⟨i, o, hi, hb⟩
  exact .inr ⟨σ i, _, (hF.objs i o hi).1, hb⟩
theorem calleeB_lent (hR : RelH C H U w) (hF : Fit U H σ nd n0 nx nw H1) (hbw : ∀ i ∈ bw, ∀ j o', get nd j = some o' → σ j ≠ i) {i : Nat} {o : AObj} (hi : i ∈ bw) (ho : get H i = some o) {b : Nat} (hb : b ∈ C.own i) : ¬ (calleeB bw C H σ nd).avoid nd b := by
  rintro ((h | ⟨i', o', hi', hn, _, hb'⟩) | ⟨j, o', hj, hb'⟩)
  · exact hR.xapart i o b ho hb h
  · exact hR.apart i i' o o' b (fun e => hn (e ▸ hi)) ho hi' hb hb'
  exact hR.apart i (σ j) o _ b (fun e => hbw i hi j o' hj e.symm) ho (hF.objs j o' hj).1 hb hb'
theorem RelH.calleeB (hR : RelH C H U w) (hF : Fit U H σ nd n0 nx nw H1) : RelH (calleeB bw C H σ nd) nd (UU n0) w where
  obj := fun i o hi => ((hR.obj _ _ (hF.objs i o hi).1).mono (av' := (Abs.calleeB bw C H σ nd).avoid nd) (fun b _ hb => nB hF b hb) (fun _ _ _ => rfl) (fun _ _ => rfl)).unren (ρ := C.ρ)
  apart := fun i j oi oj b hne hi hj hb hb' => hR.apart (σ i) (σ j) _ _ b (fun e => hne (hF.inj i j oi oj hi hj e)) (hF.objs i oi hi).1 (hF.objs j oj hj).1 hb hb'
  xapart := fun i o b hi hb hx => by
    rcases hx with hx | ⟨j, oj, hj, _, hn, hb'⟩
    · exact hR.xapart _ _ b (hF.objs i o hi).1 hb hx
    exact hR.apart (σ i) j _ oj b (hn i o hi) (hF.objs i o hi).1 hj hb hb'
  xlt := fun b hx => by
    rcases hx with hx | ⟨j, oj, hj, _, hn, hb'⟩
    · exact hR.xlt b hx
    exact (hR.obj j oj hj).own_lt b hb'
  objb := fun i o hi => (hF.objs i o hi).2
  gl := hR.glK (fun b _ hb => nB hF b hb) (fun _ _ _ _ _ _ => rfl)
open Classical in
theorem RelH.backB (hR : RelH C H U w) (hF : Fit U H σ nd n0 nx nw H1) {C1 : Conc} {w' : World} (hR1 : RelH C1 H1 (UU (n0 + nw)) w') (hs : StepR (Abs.calleeB bw C H σ nd) nd (UU n0) w C1 H1 w') (hbw : ∀ i ∈ bw, ∀ j o', get nd j = some o' → σ j ≠ i) (hfz : ∀ i o, get H1 i = some o → o.noFz = true) :
    let H2 := over H (H1.map fun p => (shift σ n0 nx nw p.1, p.2.ren (shift σ n0 nx nw)))
    let C2 := Abs.back C C1 σ nd n0 nx nw
    RelH C2 H2 (addU U nx nw) w' ∧ StepR C H U w C2 H2 w' ∧ ∀ r v, r.noFz = true → r.bel (UU (n0 + nw)) → Rep C1.ρ (C1.avoid H1) w'.heap r v → Rep C2.ρ (C2.avoid H2) w'.heap (r.ren (shift σ n0 nx nw)) v ∧ (r.ren (shift σ n0 nx nw)).bel (addU U nx nw) := by
  intro H2 C2
  have hnew : ∀ i, U i → ¬ (nx ≤ i ∧ i < nx + nw) := fun i hu ⟨h1, h2⟩ => hF.fresh i h1 h2 hu
  have hτold : ∀ i, UU n0 i → shift σ n0 nx nw i = σ i := fun i hu => by
    unfold shift; rw [if_neg]
    rintro ⟨h1, h2⟩
    have := hF.far
    rcases hu with hu | hu <;> omega
  have hτnew : ∀ i, n0 ≤ i → i < n0 + nw → shift σ n0 nx nw i = nx + (i - n0) := fun i h1 h2 => if_pos ⟨h1, h2⟩
  have hsplit : ∀ i, UU (n0 + nw) i → UU n0 i ∨ (n0 ≤ i ∧ i < n0 + nw) := fun i hu => by
    rcases hu with hu | hu
    · rcases Nat.lt_or_ge i n0 with h | h
      · exact .inl (.inl h)
      exact .inr ⟨h, hu⟩
    exact .inl (.inr hu)
  have hknown : ∀ i, UU (n0 + nw) i → addU U nx nw (shift σ n0 nx nw i) := fun i hu => by
    rcases hsplit i hu with h | ⟨h1, h2⟩
    · rw [hτold i h]; exact .inl (hF.known i h)
    rw [hτnew i h1 h2]; exact .inr (by omega)
  have hρ : ∀ i, UU (n0 + nw) i → C2.ρ (shift σ n0 nx nw i) = C1.ρ i := fun i hu => by
    rcases hsplit i hu with h | ⟨h1, h2⟩
    · rw [hτold i h]
      show (if _ then _ else _) = _
      rw [if_neg (hnew _ (hF.known i h))]
      exact (hs.ρ i h).symm
    rw [hτnew i h1 h2]
    show (if _ then _ else _) = _
    rw [if_pos (by omega)]
    congr 1
    omega
  have hmem1 : ∀ i o, get H1 i = some o → UU (n0 + nw) i := fun i o hi => (hR1.objb i o hi).1
  have hown1 : ∀ i o, get H1 i = some o → C2.own (shift σ n0 nx nw i) = C1.own i := fun i o hi => by
    rcases hF.dom i o hi with ⟨o', ho'⟩ | ⟨h1, h2⟩
    · have hu := (hF.objs i o' ho').2.1
      rw [hτold i hu]
      show (if _ then _ else if h : _ then _ else _) = _
      have hex : ∃ j o'', get nd j = some o'' ∧ σ j = σ i := ⟨i, o', ho', rfl⟩
      rw [if_neg (hnew _ (hF.known i hu)), dif_pos hex]
      obtain ⟨o2, h1, h2⟩ := Classical.choose_spec hex
      rw [hF.inj _ i _ _ h1 ho' h2]
    rw [hτnew i h1 h2]
    show (if _ then _ else _) = _
    rw [if_pos (by omega)]
    congr 1
    omega
  have hinj1 : ∀ i j oi oj, get H1 i = some oi → get H1 j = some oj → shift σ n0 nx nw i = shift σ n0 nx nw j → i = j := fun i j oi oj hi hj e => by
    rcases hF.dom i oi hi with ⟨o1, ho1⟩ | ⟨h1, h2⟩
    · have hu := (hF.objs i o1 ho1).2.1
      rcases hF.dom j oj hj with ⟨o2, ho2⟩ | ⟨h3, h4⟩
      · have hu2 := (hF.objs j o2 ho2).2.1
        rw [hτold i hu, hτold j hu2] at e
        exact hF.inj i j _ _ ho1 ho2 e
      rw [hτold i hu, hτnew j h3 h4] at e
      exact absurd ⟨by omega, by omega⟩ (hnew _ (hF.known i hu))
    rcases hF.dom j oj hj with ⟨o2, ho2⟩ | ⟨h3, h4⟩
    · have hu2 := (hF.objs j o2 ho2).2.1
      rw [hτold j hu2, hτnew i h1 h2] at e
      exact absurd ⟨by omega, by omega⟩ (hnew _ (hF.known j hu2))
    rw [hτnew i h1 h2, hτnew j h3 h4] at e; omega
  have hcase : ∀ i o, get H2 i = some o → (∃ j o', get H1 j = some o' ∧ shift σ n0 nx nw j = i ∧ o'.ren (shift σ n0 nx nw) = o) ∨
      (get H i = some o ∧ C2.own i = C.own i ∧ ∀ j o', get nd j = some o' → σ j ≠ i) := fun i o hi => by
    rw [bB] at hi
    cases hm : get (H1.map fun p => (shift σ n0 nx nw p.1, p.2.ren (shift σ n0 nx nw))) i with
    | some y =>
      rw [hm] at hi; cases hi
      exact .inl (wX _ _ _ _ _ hm)
    | none =>
      rw [hm] at hi
      have hun : ∀ j o', get nd j = some o' → σ j ≠ i := fun j o' hj e => by
        obtain ⟨o2, ho2⟩ := hF.all j o' hj
        have := zJ (shift σ n0 nx nw) (AObj.ren (shift σ n0 nx nw)) H1 j o2 hinj1 ho2
        rw [hτold j (hF.objs j o' hj).2.1, e, hm] at this; cases this
      refine .inr ⟨hi, ?_, hun⟩
      show (if _ then _ else if h : _ then _ else _) = _
      rw [if_neg (hnew _ (hR.objb i o hi).1), dif_neg]
      rintro ⟨j, o', hj, e⟩
      exact hun j o' hj e
  have hW1 : ∀ b, (Abs.calleeB bw C H σ nd).W nd b → C.W H b := fun b ⟨i, o, hi, hb⟩ => ⟨σ i, _, (hF.objs i o hi).1, hb⟩
  have hav2 : ∀ b, b < w.heap.size → C2.avoid H2 b → C.avoid H b := fun b hlt hb => by
    rcases hb with hb | ⟨i, o, hi, hb⟩
    · exact .inl hb
    rcases hcase i o hi with ⟨j, o', hj, rfl, _⟩ | ⟨hi', hown, hun⟩
    · rcases hs.wr b ⟨j, o', hj, by rw [← hown1 j o' hj]; exact hb⟩ with h1 | h1
      · exact .inr (hW1 b h1)
      omega
    rw [hown] at hb
    exact .inr ⟨i, o, hi', hb⟩
  have hstep : StepR C H U w C2 H2 w' :=
    { os := hs.os, tape := hs.tape, output := hs.output, size := hs.size
      keep := fun k hk hn => hs.keep k hk fun q => hn (hW1 k q)
      wr := fun b ⟨i, o, hi, hb⟩ => by
        rcases hcase i o hi with ⟨j, o', hj, rfl, _⟩ | ⟨hi', hown, hun⟩
        · rcases hs.wr b ⟨j, o', hj, by rw [← hown1 j o' hj]; exact hb⟩ with h1 | h1
          · exact .inl (hW1 b h1)
          exact .inr h1
        exact .inl ⟨i, o, hi', by rw [← hown]; exact hb⟩
      X := rfl, B := rfl
      ρ := fun i hi => if_neg (hnew i hi) }
  have hrep : ∀ r v, r.noFz = true → r.bel (UU (n0 + nw)) → Rep C1.ρ (C1.avoid H1) w'.heap r v → Rep C2.ρ (C2.avoid H2) w'.heap (r.ren (shift σ n0 nx nw)) v := fun r v hf hr hrr =>
    Rep.ren (ρ := C2.ρ) ((hrr.anywhere (av' := C2.avoid H2) hf).named (ρ' := fun i => C2.ρ (shift σ n0 nx nw i)) hρ hr)
  have cross : ∀ i oi, get H i = some oi → (∀ j o', get nd j = some o' → σ j ≠ i) → ∀ j oj, get H1 j = some oj → ∀ b, b ∈ C.own i → b ∈ C1.own j → False := fun i oi hi hun j oj hj b hb hb' => by
    rcases hs.wr b ⟨j, oj, hj, hb'⟩ with ⟨q, oq, hq, hbq⟩ | h1
    · exact hR.apart i (σ q) oi _ b (fun e => hun q oq hq e.symm) hi (hF.objs q oq hq).1 hb hbq
    have := (hR.obj i oi hi).own_lt b hb; omega
  refine ⟨{ obj := fun i o hi => ?_, apart := fun i j oi oj b hne hi hj hb hb' => ?_, xapart := fun i o b hi hb hx => ?_, xlt := fun b hx => Nat.lt_of_lt_of_le (hR.xlt b hx) hs.size, objb := fun i o hi => ?_, gl := hR.glK hav2 fun b _ _ _ hb hn => hs.keep b (ltB hb) fun q => hn (.inr (hW1 b q)) }, hstep, fun r v hf hr hrr => ⟨hrep r v hf hr hrr, AV.bel_ren.2 (AV.bel_mono hknown r hr)⟩⟩
  · rcases hcase i o hi with ⟨j, o', hj, rfl, rfl⟩ | ⟨hi', hown, hun⟩
    · rw [hown1 j o' hj, hρ j (hmem1 j o' hj)]
      exact cC.ren (ρ := C2.ρ) (((hR1.obj j o' hj).anywhere (av' := C2.avoid H2) (hfz j o' hj)).named (ρ' := fun i => C2.ρ (shift σ n0 nx nw i)) hρ (hR1.objb j o' hj).2)
    have hkeep : ∀ b, b ∈ C.own i → w'.heap[b]? = w.heap[b]? := fun b hb => hs.keep b ((hR.obj i o hi').own_lt b hb) fun ⟨j, oj, hj, hb'⟩ =>
      hR.apart i (σ j) o _ b (fun e => hun j oj hj e.symm) hi' (hF.objs j oj hj).1 hb hb'
    have hρi : C2.ρ i = C.ρ i := if_neg (hnew i (hR.objb i o hi').1)
    rw [hown, hρi]
    exact ((hR.obj i o hi').mono (av' := C2.avoid H2) (fun b hb hq => hav2 b hb hq) (fun b hb hn => hs.keep b hb fun q => hn (.inr (hW1 b q))) hkeep).named (ρ' := C2.ρ) (fun j hj => if_neg (hnew j hj)) (hR.objb i o hi').2
  · rcases hcase i oi hi with ⟨i', oi', hi', rfl, _⟩ | ⟨hi', hown, hun⟩
    · rw [hown1 i' oi' hi'] at hb
      rcases hcase j oj hj with ⟨j', oj', hj', rfl, _⟩ | ⟨hj', hown2, hun2⟩
      · rw [hown1 j' oj' hj'] at hb'
        exact hR1.apart i' j' oi' oj' b (fun e => hne (by rw [e])) hi' hj' hb hb'
      rw [hown2] at hb'
      exact cross j oj hj' hun2 i' oi' hi' b hb' hb
    rw [hown] at hb
    rcases hcase j oj hj with ⟨j', oj', hj', rfl, _⟩ | ⟨hj', hown2, hun2⟩
    · rw [hown1 j' oj' hj'] at hb'
      exact cross i oi hi' hun j' oj' hj' b hb hb'
    rw [hown2] at hb'
    exact hR.apart i j oi oj b hne hi' hj' hb hb'
  · rcases hcase i o hi with ⟨j, o', hj, rfl, _⟩ | ⟨hi', hown, hun⟩
    · rw [hown1 j o' hj] at hb
      exact hR1.xapart j o' b hj hb (by rw [hs.X]; exact .inl hx)
    rw [hown] at hb
    exact hR.xapart i o b hi' hb hx
  rcases hcase i o hi with ⟨j, o', hj, rfl, rfl⟩ | ⟨hi', hown, hun⟩
  · exact ⟨hknown j (hmem1 j o' hj), AObj.bel_ren.2 (AObj.bel_mono hknown o' (hR1.objb j o' hj).2)⟩
  exact ⟨.inl (hR.objb i o hi').1, AObj.bel_mono (fun _ h => .inl h) o (hR.objb i o hi').2⟩
end
end
section
variable [Globals]
variable {x : AV} {v : Value}
def nV (h : Nat → Option AObj) (bw : List Nat) : AV → AV
  | .ref i => if i ∈ bw then (match h i with
    | some (.row _ sz xs) => .sl sz (fzL xs)
    | _ => .ref i) else .ref i
  | x => x
def mE (h : Nat → Option AObj) (bw : List Nat) : List AV → List AV
  | [] => []
  | x :: r => nV h bw x :: mE h bw r
def wF (h : Nat → Option AObj) (bw : List Nat) : AV → AV
  | .agg cs => .agg (mE h bw cs)
  | x => nV h bw x
theorem lendL_get (h : Nat → Option AObj) (bw : List Nat) : ∀ (xs : List AV) (j : Nat), (mE h bw xs)[j]? = (xs[j]?).map (nV h bw)
  | [], j => rfl
  | x :: xs, 0 => rfl
  | x :: xs, j + 1 => by simpa [mE] using lendL_get h bw xs j
theorem lendL_length (h : Nat → Option AObj) (bw : List Nat) : ∀ xs : List AV, (mE h bw xs).length = xs.length
  | [] => rfl
  | x :: xs => by simp [mE, lendL_length h bw xs]
section
variable {P : Program} {ro : Option Nat} {N : Nat} {o : Oper} {E : Env} {H : Heap} {nx b0 : Nat} {ds : List (Option Tmp)} {C : Conc} {U : Nat → Prop} {a : Act} {w : World} {bw : List Nat} {σ : Nat → Nat} {nd H1 : Heap} {n0 nw : Nat}
theorem lend1_rep (hR : RelH C H U w) (hF : Fit U H σ nd n0 nx nw H1) (hbw : ∀ i ∈ bw, ∀ j o', get nd j = some o' → σ j ≠ i) (h : Rep C.ρ (C.avoid H) w.heap x v) : Rep C.ρ ((calleeB bw C H σ nd).avoid nd) w.heap (nV (get H) bw x) v := by
  have plain : Rep C.ρ ((calleeB bw C H σ nd).avoid nd) w.heap x v := h.mono (fun b _ hb => nB hF b hb) (fun _ _ _ => rfl)
  cases x with
  | ref i =>
    simp only [nV]; split
    · rename_i hi
      split
      · rename_i e sz xs hH
        cases h
        obtain ⟨h1, _⟩ := hR.obj i _ hH
        have h2 : RepO C.ρ ((calleeB bw C H σ nd).avoid nd) w.heap (.own e sz xs) (C.ρ i) (C.own i) := h1.mono' (fun b _ hb => nB hF b hb) (fun _ _ _ _ _ _ => rfl) (fun _ _ => rfl)
        exact h2.fz fun b hb => calleeB_lent hR hF hbw hi hH hb
      exact plain
    exact plain
  | _ => exact plain
theorem lend_rep (hR : RelH C H U w) (hF : Fit U H σ nd n0 nx nw H1) (hbw : ∀ i ∈ bw, ∀ j o', get nd j = some o' → σ j ≠ i) (h : Rep C.ρ (C.avoid H) w.heap x v) : Rep C.ρ ((calleeB bw C H σ nd).avoid nd) w.heap (wF (get H) bw x) v := by
  cases x with
  | agg cs =>
    cases h with
    | agg _ vs hn hr =>
      refine .agg _ vs (by rw [lendL_length]; exact hn) fun j y hy => ?_
      rw [lendL_get] at hy
      obtain ⟨z, hz, rfl⟩ := Option.map_eq_some_iff.1 hy
      exact lend1_rep hR hF hbw (hr j z hz)
  | _ => exact lend1_rep hR hF hbw h
theorem lstep_lend {c : Call} {f : Nat} {fn : Func} {code : Code} {args xs : List AV} {m0 n1 : Nat} {r0 : AV} (s : List (Nat × Nat)) (bw : List Nat) (nw : Nat) (hg : o.guard = none) (ho : o.op = .call c) (hc : c.callee = .value (.func f)) (hT : FnT P f fn code)
    (hN : ∀ d, o.dst = some d → d < N) (hM : aD P f args nd m0 r0 H1 n1) (hn1 : n1 = m0 + nw) (hxs : c.args.toList.map (opv E) = xs.map some) (hargs : xs.map (wF (get H) bw) = aA (sg s) args) (hab : aC (UU m0) args) (hF : FitC H s nd m0 nw H1)
    (hbw : ∀ i ∈ bw, ∀ p ∈ nd, sg s p.1 ≠ i) (hfr : r0.noFz = true) (hfo : ∀ p ∈ H1, p.2.noFz = true) :
    bC P ro N ds o b0 E H (tO c.args.toList) ((nd.map fun p => sg s p.1) ++ bw) (r0.ren (shift (sg s) m0 nx nw)) (H1.map fun p => (shift (sg s) m0 nx nw p.1, p.2.ren (shift (sg s) m0 nx nw))) nx nw := by
  subst hn1
  intro E' H' U hE hH hU hnx C a w next Q hR hK
  have hops := oCg hE
  have hfit := hF.fit hR.toRelH (fun j hj => hU j (.inr hj)) (fun p hp => hH _ (List.mem_append.2 (.inl (List.mem_map.2 ⟨p, hp, rfl⟩)))) hnx
  have hbw' : ∀ i ∈ bw, ∀ j o', get nd j = some o' → sg s j ≠ i := fun i hi j o' hj => hbw i hi _ (aN hj)
  have hRc := hR.toRelH.calleeB (bw := bw) hfit
  have hxs' : c.args.toList.map (opv E') = xs.map some := by
    rw [← hxs]
    exact List.map_congr_left fun x hx => hops x hx
  obtain ⟨h2, _⟩ := sD hR hxs'
  have hlend : ∀ x : AV, wF (get H') bw x = wF (get H) bw x := by
    have h1 : ∀ x : AV, nV (get H') bw x = nV (get H) bw x := fun x => by
      cases x with
      | ref i =>
        simp only [nV]; split
        · rename_i hi
          rw [hH i (List.mem_append.2 (.inr hi))]
        rfl
      | _ => rfl
    have h2 : ∀ l : List AV, mE (get H') bw l = mE (get H) bw l := fun l => by
      induction l with
      | nil => rfl
      | cons x r ih => rw [mE, mE, h1, ih]
    intro x; unfold wF; split
    · rw [h2]
    exact h1 _
  have hvals : cF C.ρ ((calleeB bw C H' (sg s) nd).avoid nd) w.heap (aA (sg s) args) (c.args.map a.eval) := by
    rw [← hargs]
    refine ⟨by rw [List.length_map]; exact h2.1, fun j y hy => ?_⟩
    rw [List.getElem?_map] at hy
    obtain ⟨z, hz, rfl⟩ := Option.map_eq_some_iff.1 hy
    have := lend_rep (bw := bw) hR.toRelH hfit hbw' (h2.2 j z hz)
    rwa [hlend] at this
  have hargsR : cF (calleeB bw C H' (sg s) nd).ρ ((calleeB bw C H' (sg s) nd).avoid nd) w.heap args (c.args.map a.eval) := hvals.unren (ρ := C.ρ)
  refine qN hg (wpIn_call (R := fun v w' => ∃ C1, RelH C1 H1 (UU (m0 + nw)) w' ∧ StepR (calleeB bw C H' (sg s) nd) nd (UU m0) w C1 H1 w' ∧ Rep C1.ρ (C1.avoid H1) w'.heap r0 v ∧ r0.bel (UU (m0 + nw))) ho hc hT
    ((hM _ w _ hRc hargsR hab).mono fun e w' ⟨v, r, H2, n', C1, he, hn', ⟨hr, hH2, hn2⟩, h1, h2, h3, h4⟩ => ?_) fun v w' ⟨C1, h1, h2, h3, h4⟩ => ?_)
  · subst hr; subst hH2; subst hn2
    exact ⟨v, he, C1, h1, h2, h3, h4⟩
  obtain ⟨k1, k2, k3⟩ := hR.toRelH.backB hfit h1 h2 hbw' (fun i o hi => hfo _ (aN hi))
  obtain ⟨k4, k5⟩ := k3 r0 v hfr h4 h3
  have hRel := hR.change k2 (fun i hi => .inl hi) k1
  exact hK _ _ w' (hRel.put hN k4 k5) k2
end
end
section
variable [Globals]
section
variable {C : Conc} {N : Nat} {E : Env} {H : Heap} {U : Nat → Prop} {a : Act} {w : World}
theorem Rel.xturn (hR : Rel C N E H U a w) {l : Nat} {o o' : Obj} (hl : w.heap[l]? = some o) (ho : ∀ cells t fr, o ≠ .cells cells t fr) (hd : ∀ ds, o ≠ .deferred ds) (hx : C.X l) : Rel C N E H U a (w.putObj l o') := by
  have hother : ∀ k, k ≠ l → (w.putObj l o').heap[k]? = w.heap[k]? := fun k hk => by
    show (w.heap.setIfInBounds l _)[k]? = _
    rw [Array.getElem?_setIfInBounds, if_neg (fun e => hk e.symm)]
  have hsz : (w.putObj l o').heap.size = w.heap.size := by show (w.heap.setIfInBounds l _).size = _; simp
  have heq : ∀ b cells t fr, w.heap[b]? = some (.cells cells t fr) → ¬ C.avoid H b → (w.putObj l o').heap[b]? = w.heap[b]? := fun b cells t fr hb _ => hother b (fun e => by rw [e, hl] at hb; cases hb; exact ho _ _ _ rfl)
  exact {
    obj := fun i ob hi => (hR.obj i ob hi).mono' (fun _ _ h => h) heq (fun b hb => hother b (fun e => hR.xapart i ob b hi hb (e ▸ hx)))
    apart := hR.apart
    xapart := hR.xapart
    xlt := fun b hb => by rw [hsz]; exact hR.xlt b hb
    gl := hR.toRelH.glK (fun _ _ h => h) heq
    objb := hR.objb
    size := hR.size
    hB := by rw [hsz]; exact hR.hB
    nodup := hR.nodup
    marks := fun d hd' => by
      obtain ⟨r, h1, h2, h3, h4⟩ := hR.marks d hd'
      exact ⟨r, h1, h2, (hother r (fun e => h4 (.inl (e ▸ hx)))).trans h3, h4⟩
    env := fun t x ht => by
      obtain ⟨h1, h2, h3⟩ := hR.env t x ht
      exact ⟨h1, h2, h3.mono' (fun _ _ h => h) heq⟩ }
end
end
section
variable [Globals]
variable {l : Nat} {w : World} {C : Conc} {U : Nat → Prop}
def nY (H : Heap) : Heap → Prop
  | [] => True
  | (i, o) :: r => get H i = some o ∧ nY H r
theorem zF {H : Heap} : ∀ {H1 : Heap}, nY H H1 → ∀ i o, get H1 i = some o → get H i = some o
  | [], _, _, _, h => by cases h
  | (k, x) :: r, h, i, o, hi => by
    unfold Abs.get at hi; split at hi
    · rename_i e; subst e; cases hi; exact h.1
    exact zF h.2 i o hi
def rR (P : Program) (l : Nat) (args : List AV) (nd : Heap) (n0 : Nat) (r0 : AV) (H1 : Heap) : Prop :=
  ∀ (C : Conc) (w : World) (vals : Array Value), RelH C nd (UU n0) w → cF C.ρ (C.avoid nd) w.heap args vals → aC (UU n0) args →
    YieldAt (FW none) 0 P l vals w fun e w' => ∃ v C', e = .returned v ∧ RelH C' H1 (UU n0) w' ∧ StepR C nd (UU n0) w C' H1 w' ∧ Rep C'.ρ (C'.avoid H1) w'.heap r0 v ∧ r0.bel (UU n0)
theorem rR.mono {P : Program} {vals : Array Value} {R R' : Ending → World → Prop} (h : YieldAt (FW none) 0 P l vals w R) (hr : ∀ e w', R e w' → R' e w') : YieldAt (FW none) 0 P l vals w R' := by
  obtain ⟨fn, tmps, assign, body, h1, h2⟩ := h
  exact ⟨fn, tmps, assign, body, h1, h2.mono hr⟩
section
variable {P : Program} {N : Nat} {o : Oper} {E : Env} {H : Heap} {nx b0 : Nat} {ds : List (Option Tmp)}
theorem AObj.ren_id' (o : AObj) : o.ren id = o := by
  cases o with
  | dead => rfl
  | cells t cs => simp [AObj.ren, gY]
  | row e sz xs => simp [AObj.ren, gY]
  | map kt et m =>
    simp only [AObj.ren, AObj.map.injEq, true_and]
    induction m with
    | nil => rfl
    | cons p r ih => simp [AV.ren_id, ih]
  | mapS kt et m k st =>
    simp only [AObj.ren, AObj.mapS.injEq, true_and, and_true, id]
    induction m with
    | nil => rfl
    | cons p r ih =>
      have e : (fun i : Nat => i) = id := rfl
      simp [AV.ren_id, ih]
  | other b ob => rfl
  | loop l rec No Eo =>
    simp only [AObj.ren, AObj.loop.injEq, true_and]
    induction Eo with
    | nil => rfl
    | cons p r ih => simp [AV.ren_id, ih]
theorem lstep_yield {c : Call} {y : Operand} {args : List AV} {nd H1 : Heap} {r0 : AV} (hg : o.guard = none) (ho : o.op = .call c) (hc : c.callee = .value y) (hy : opv E y = some (.raw (.func (.yield l) #[] #[])))
    (hN : ∀ d, o.dst = some d → d < N) (hM : rR P l args nd 0 r0 H1) (hargs : c.args.toList.map (opv E) = args.map some) (hab : aC (UU 0) args) (hF : FitC H [] nd 0 0 H1) :
    bC P none N ds o b0 E H (tO (y :: c.args.toList)) (nd.map (·.1)) r0 H1 nx 0 := by
  intro E' H' U hE hH hU hnx C a w next Q hR hK
  have hops := oCg hE
  have hfit := hF.fit (nx := nx) hR.toRelH (fun j hj => hU j (.inr hj)) (fun p hp => hH _ (List.mem_map.2 ⟨p, hp, rfl⟩)) hnx
  rw [sg_nil] at hfit
  have hRc := hR.toRelH.callee hfit
  obtain ⟨h1, _⟩ := hR.opv (x := y) (r := .raw (.func (.yield l) #[] #[])) (by rw [hops y (by simp)]; exact hy)
  have hev : a.eval y = .func (.yield l) #[] #[] := by generalize a.eval y = v at h1; cases h1; rfl
  have hxs' : c.args.toList.map (opv E') = args.map some := by
    rw [← hargs]
    exact List.map_congr_left fun x hx => hops x (List.mem_cons_of_mem _ hx)
  obtain ⟨h2, _⟩ := sD hR hxs'
  have hargsR : cF (callee C H' id nd).ρ ((callee C H' id nd).avoid nd) w.heap args (c.args.map a.eval) :=
    h2.mono (av' := (callee C H' id nd).avoid nd) (fun b _ hb => (dV hfit b).1 hb) (fun _ _ _ => rfl)
  refine qN hg ⟨fun _ _ => trivial, ?_⟩
  obtain ⟨fn, tmps, assign, body, hy2, hround⟩ := hM _ w _ hRc hargsR hab
  have hrun : (execOp a.eval o).run P w = .ok (.round l fn tmps assign body) w := by
    simp [execOp, ho, resolve, hc, hev, Deferred.ofValue, invoke, hy2]
  rw [nH (by simp [ho, Op.noDefer]), hrun, Oper.uponIn_round]
  refine ⟨fun hh => (by cases hh), hround.mono fun e w' ⟨v, C1, he, k1, k2, k3, k4⟩ => ?_⟩
  subst he
  obtain ⟨q1, q2, q3⟩ := hR.toRelH.back hfit k1 k2
  rw [aR] at q1 q2 q3
  obtain ⟨q4, q5⟩ := q3 r0 v k4 k3
  have hmap : (H1.map fun p => (id p.1, p.2.ren id)) = H1 := by
    conv => rhs; rw [← List.map_id H1]
    exact List.map_congr_left fun p _ => by rw [AObj.ren_id']; rfl
  rw [hmap] at q1 q2 q4
  rw [AV.ren_id] at q4 q5
  exact hK _ _ w' ((hR.change q2 (fun i hi => .inl hi) q1).put hN q4 q5) q2
def roundQ (Ho : Heap) (j : Option Code) : AQ := fun e E H nx =>
  match e with
  | .normal => j = none ∧ nY H Ho
  | .ret => j = some .ret ∧ nY H Ho
  | .exit id => j = some (.exit id) ∧ nY H Ho
  | _ => False
def parE : List Nat → List AV → Env → Env
  | p :: ps, x :: xs, E => parE ps xs ((p, x) :: E)
  | _, _, E => E
theorem Rel.params : ∀ (ps : List Nat) (xs : List AV) (vs : List Value) (E : Env) (tmps : Array Value), (∀ p ∈ ps, p < N) → xs.length = ps.length → vs.length = xs.length →
    (∀ (j : Nat) (x : AV), xs[j]? = some x → x.bel U ∧ Rep C.ρ (C.avoid H) w.heap x (vs.getD j undef)) → Rel C N E H U { tmps := tmps, defers := [] } w →
    Rel C N (parE ps xs E) H U { tmps := (ps.zip vs).foldl (fun t (q : Nat × Value) => t.setIfInBounds q.1 q.2) tmps, defers := [] } w
  | [], [], vs, E, tmps, _, _, _, _, h => by simpa [parE] using h
  | p :: ps, x :: xs, v :: vs, E, tmps, hp, hl, hv, hx, h => by
    simp only [parE, List.zip_cons_cons, List.foldl_cons]
    have hx0 := hx 0 x rfl
    refine Rel.params ps xs vs _ _ (fun q hq => hp q (List.mem_cons_of_mem _ hq)) (by simpa using hl) (by simpa using hv) (fun j y hj => hx (j + 1) y (by simpa using hj)) ?_
    have := h.put (dst := some p) (r := x) (v := v) (fun d hd => by cases hd; exact hp p List.mem_cons_self) (by simpa using hx0.2) hx0.1
    exact this
  | [], _ :: _, _, _, _, _, hl, _, _, _ => by simp at hl
  | _ :: _, [], _, _, _, _, hl, _, _, _ => by simp at hl
  | _ :: _, _ :: _, [], _, _, _, _, hv, _, _ => by simp at hv
theorem Rel.turn {a : Act} (hR : Rel C N E H U a w) {o o' : Obj} (hl : w.heap[l]? = some o) (ho : ∀ cells t fr, o ≠ .cells cells t fr) (hd : ∀ ds, o ≠ .deferred ds)
    (hx : ∀ i ob, get H i = some ob → l ∉ C.own i) : Rel C N E H U a (w.putObj l o') := by
  have hother : ∀ k, k ≠ l → (w.putObj l o').heap[k]? = w.heap[k]? := fun k hk => by
    show (w.heap.setIfInBounds l _)[k]? = _
    rw [Array.getElem?_setIfInBounds, if_neg (fun e => hk e.symm)]
  have hsz : (w.putObj l o').heap.size = w.heap.size := by show (w.heap.setIfInBounds l _).size = _; simp
  have heq : ∀ b cells t fr, w.heap[b]? = some (.cells cells t fr) → ¬ C.avoid H b → (w.putObj l o').heap[b]? = w.heap[b]? := fun b cells t fr hb _ => hother b (fun e => by rw [e, hl] at hb; cases hb; exact ho _ _ _ rfl)
  exact {
    obj := fun i ob hi => (hR.obj i ob hi).mono' (fun _ _ h => h) heq (fun b hb => hother b (fun e => hx i ob hi (e ▸ hb)))
    apart := hR.apart
    xapart := hR.xapart
    xlt := fun b hb => by rw [hsz]; exact hR.xlt b hb
    gl := hR.toRelH.glK (fun _ _ h => h) heq
    objb := hR.objb
    size := hR.size
    hB := by rw [hsz]; exact hR.hB
    nodup := hR.nodup
    marks := fun d hd' => by
      obtain ⟨r, h1, h2, h3, h4⟩ := hR.marks d hd'
      exact ⟨r, h1, h2, (hother r (fun e => by rw [e, hl] at h3; exact hd _ (Option.some.inj h3))).trans h3, h4⟩
    env := fun t x ht => by
      obtain ⟨h1, h2, h3⟩ := hR.env t x ht
      exact ⟨h1, h2, h3.mono' (fun _ _ h => h) heq⟩ }
theorem Rep.step' {C' : Conc} {H' : Heap} {w' : World} (hs : StepR C H U w C' H' w') {x : AV} {v : Value} (hx : x.bel U) (hr : Rep C.ρ (C.avoid H) w.heap x v) : Rep C'.ρ (C'.avoid H') w'.heap x v := by
  refine (hr.mono (fun b hb hq => ?_) (fun b hb hn => hs.keep b hb (fun q => hn (.inr q)))).named hs.ρ hx
  rcases hq with hq | hq
  · exact .inl (by rw [← hs.X]; exact hq)
  rcases hs.wr b hq with h1 | h1
  · exact .inr h1
  omega
theorem ygives_of_awp {l nL : Nat} {rec : Loop} {Eo : Env} {Ho Ho' : Heap} {n0 : Nat} {xs : List AV} {j : Option Code} (hst : rec.state = .ready) (hpd : rec.pending = none) (hpl : xs.length = rec.params.size) (hpN : ∀ p ∈ rec.params.toList, p < N)
    (hnL : ∀ o, get Ho nL ≠ some o) (hnL' : ∀ o, get Ho' nL ≠ some o) (hUL : UU n0 nL) (hb' : ∀ i o, get Ho' i = some o → UU n0 i ∧ o.bel (UU n0))
    (h : AWP P (some l) N n0 rec.assign (athen (AWP P (some l) N n0 rec.body (roundQ Ho' j)) (fun _ _ _ _ => False)) (parE rec.params.toList xs Eo) Ho n0) :
    rR P l xs ((nL, .loop l rec N Eo) :: Ho) n0 (.raw (.bool j.isNone)) ((nL, .loop l { rec with state := if j.isNone then .ready else .done, pending := j } N Eo) :: Ho') := by
  intro C w vals hRH hargs hb
  have hgL : get ((nL, AObj.loop l rec N Eo) :: Ho) nL = some (.loop l rec N Eo) := by rw [aO, if_pos rfl]
  have hgo : ∀ i ob, get Ho i = some ob → i ≠ nL ∧ get ((nL, AObj.loop l rec N Eo) :: Ho) i = some ob := fun i ob hi => by
    have hne : i ≠ nL := fun e => by rw [e] at hi; exact hnL _ hi
    exact ⟨hne, by rw [aO, if_neg (fun e => hne e.symm)]; exact hi⟩
  obtain ⟨hv, hown, hl, hsz, hslots⟩ := hRH.obj nL _ hgL
  have hlt := ltB hl
  have hlown : ∀ i ob, get Ho i = some ob → l ∉ C.own i := fun i ob hi hli => hRH.apart i nL _ _ l (hgo i ob hi).1 (hgo i ob hi).2 hgL hli (by rw [hown]; exact List.mem_singleton.2 rfl)
  obtain ⟨Cr, hCr⟩ : ∃ Cr : Conc, Cr = { C with X := fun b => C.X b ∨ b = l, B := w.heap.size } := ⟨_, rfl⟩
  have hCX : ∀ b, Cr.X b ↔ C.X b ∨ b = l := fun b => by rw [hCr]
  have hCρ : Cr.ρ = C.ρ := by rw [hCr]
  have hCo : Cr.own = C.own := by rw [hCr]
  have hCB : Cr.B = w.heap.size := by rw [hCr]
  have hWW : ∀ b, Cr.W Ho b → C.W ((nL, AObj.loop l rec N Eo) :: Ho) b := fun b ⟨i, ob, hi, hb⟩ => ⟨i, ob, (hgo i ob hi).2, by rw [← hCo]; exact hb⟩
  have hlW : C.W ((nL, AObj.loop l rec N Eo) :: Ho) l := ⟨nL, _, hgL, by rw [hown]; exact List.mem_singleton.2 rfl⟩
  have hav : ∀ b, Cr.avoid Ho b → C.avoid ((nL, AObj.loop l rec N Eo) :: Ho) b := fun b hb => by
    rcases hb with hb | hb
    · rcases (hCX b).1 hb with hb | hb
      · exact .inl hb
      subst hb; exact .inr hlW
    exact .inr (hWW b hb)
  have hRr : RelH Cr Ho (UU n0) w :=
    { obj := fun i ob hi => by rw [hCρ, hCo]; exact (hRH.obj i ob (hgo i ob hi).2).mono (fun b _ => hav b) (fun _ _ _ => rfl) (fun _ _ => rfl)
      apart := fun i k oi ok b hne hi hk => by rw [hCo]; exact hRH.apart i k oi ok b hne (hgo i oi hi).2 (hgo k ok hk).2
      xapart := fun i ob b hi hb hx => by
        rw [hCo] at hb
        rcases (hCX b).1 hx with hx | hx
        · exact hRH.xapart i ob b (hgo i ob hi).2 hb hx
        subst hx; exact hlown i ob hi hb
      xlt := fun b hx => by
        rcases (hCX b).1 hx with hx | hx
        · exact hRH.xlt b hx
        subst hx; exact hlt
      objb := fun i ob hi => hRH.objb i ob (hgo i ob hi).2
      gl := hRH.glK (fun b _ => hav b) (fun _ _ _ _ _ _ => rfl) }
  have hEb : aC (UU n0) (Eo.map (·.2)) := (hRH.objb nL _ hgL).2
  have hslot : ∀ (k t : Nat) (x : AV), Eo[k]? = some (t, x) → t < N ∧ x.bel (UU n0) ∧ Rep Cr.ρ (Cr.avoid Ho) w.heap x (rec.tmps.getD t undef) := fun k t x hk =>
    ⟨(hslots k t x hk).1, bG hEb (j := k) (by simp [hk]), by rw [hCρ]; exact (hslots k t x hk).2.mono (fun b _ => hav b) (fun _ _ _ => rfl)⟩
  have hRo : Rel Cr N Eo Ho (UU n0) { tmps := rec.tmps, defers := [] } w :=
    { toRelH := hRr, size := hsz, hB := by rw [hCB]; exact Nat.le_refl _, nodup := List.nodup_nil, marks := fun d hd => by cases hd
      env := fun t x ht => by
        obtain ⟨k, hk⟩ := List.getElem?_of_mem (aN ht)
        exact hslot k t x hk }
  have hvl : vals.size = xs.length := hargs.1
  have hR0 := Rel.params rec.params.toList xs vals.toList Eo rec.tmps hpN (by simpa using hpl) (by simpa using hvl) (fun k x hk => ⟨bG hb hk, by
    have := (hargs.2 k x hk).mono (av' := Cr.avoid Ho) (fun b _ => hav b) (fun _ _ _ => rfl)
    rw [hCρ]
    simpa [Array.getD_eq_getD_getElem?] using this⟩) hRo
  have htm : (rec.params.zip vals).foldl (fun tmps (q : Nat × Value) => tmps.setIfInBounds q.1 q.2) rec.tmps = (rec.params.toList.zip vals.toList).foldl (fun t (q : Nat × Value) => t.setIfInBounds q.1 q.2) rec.tmps := by
    rw [← Array.foldl_toList, Array.toList_zip]
  have hyr := run_yield (P := P) (args := vals) hl (by rw [hvl, hpl])
  refine ⟨rec.fn, _, rec.assign, rec.body, hyr, roundIn_of_wpIn trivial ?_⟩
  have htm' : (Array.foldl (fun tmps (x : Tmp × Value) => match x with | (t, a) => tmps.setIfInBounds t a) rec.tmps (rec.params.zip vals)) = (rec.params.toList.zip vals.toList).foldl (fun t (q : Nat × Value) => t.setIfInBounds q.1 q.2) rec.tmps := htm
  rw [htm']
  refine h Cr _ w _ (Nat.le_refl _) hR0 fun e E1 H1 nx1 C1 a1 w1 hn1 hR1 hs1 hQ1 => ?_
  cases e with
  | normal =>
    have hl1 : w1.heap[l]? = some (.loop rec) := (hs1.keep l hlt (fun ⟨i, ob, hi, hb⟩ => hlown i ob hi (by rw [← hCo]; exact hb))).trans hl
    have hX1 : C1.X = Cr.X := hs1.X
    have hXl1 : C1.X l := by rw [hX1]; exact (hCX l).2 (.inr rfl)
    have hR2 := hR1.xturn (o' := .loop { rec with state := .busy }) hl1 (fun _ _ _ e => by cases e) (fun _ e => by cases e) hXl1
    refine ⟨_, run_beginRound hl1 hst, hQ1 C1 a1 _ _ hn1 hR2 fun e E2 H2 nx2 C2 a2 w2 hn2 hR3 hs2 hQ2 => ?_⟩
    have hlt1 : l < w1.heap.size := ltB hl1
    have hsz1 : (w1.putObj l (.loop { rec with state := .busy })).heap.size = w1.heap.size := World.putObj_size
    have hlW1 : ¬ C1.W H1 l := fun ⟨i, ob, hi, hb⟩ => hR1.xapart i ob l hi hb hXl1
    have hl2 : w2.heap[l]? = some (.loop { rec with state := .busy }) := (hs2.keep l (by rw [hsz1]; exact hlt1) hlW1).trans (World.putObj_heap_same hlt1)
    have hlt2 := ltB hl2
    have hX2 : C2.X = Cr.X := hs2.X.trans hX1
    have hXl2 : C2.X l := by rw [hX2]; exact (hCX l).2 (.inr rfl)
    have hρ2 : ∀ i, UU n0 i → C2.ρ i = C.ρ i := fun i hi => by rw [hs2.ρ i hi, hs1.ρ i hi, hCρ]
    have hother1 : ∀ (o' : Obj) (k : Nat), k ≠ l → (w1.putObj l o').heap[k]? = w1.heap[k]? := fun o' k hk => World.putObj_heap_other hk
    have hother2 : ∀ (o' : Obj) (k : Nat), k ≠ l → (w2.putObj l o').heap[k]? = w2.heap[k]? := fun o' k hk => World.putObj_heap_other hk
    have hslot2 : ∀ (k t : Nat) (x : AV), Eo[k]? = some (t, x) → t < N ∧ x.bel (UU n0) ∧ Rep C2.ρ (C2.avoid H2) w2.heap x (rec.tmps.getD t undef) := fun k t x hk => by
      obtain ⟨h1, h2, h3⟩ := hslot k t x hk
      refine ⟨h1, h2, Rep.step' hs2 h2 ((Rep.step' hs1 h2 h3).mono' (fun _ _ h => h) fun b cells t fr hb _ => hother1 _ b fun e => by rw [e, hl1] at hb; cases hb)⟩
    have fin : nY H2 Ho' → ∃ v w', (Instr.endRound l j).run P w2 = .ok v w' ∧ ∃ v' C', Ending.returned v = .returned v' ∧ RelH C' ((nL, .loop l { rec with state := if j.isNone then .ready else .done, pending := j } N Eo) :: Ho') (UU n0) w' ∧
        StepR C ((nL, .loop l rec N Eo) :: Ho) (UU n0) w C' ((nL, .loop l { rec with state := if j.isNone then .ready else .done, pending := j } N Eo) :: Ho') w' ∧
        Rep C'.ρ (C'.avoid ((nL, .loop l { rec with state := if j.isNone then .ready else .done, pending := j } N Eo) :: Ho')) w'.heap (.raw (.bool j.isNone)) v' ∧ (AV.raw (.bool j.isNone)).bel (UU n0) := fun hall => by
      have her := run_endRound (P := P) j hl2
      refine ⟨_, _, her, .bool j.isNone, { C2 with X := C.X, B := C.B, own := upd C2.own nL [l] }, rfl, ?_⟩
      generalize hrec1 : ({ rec with state := if j.isNone then .ready else .done, pending := j } : Loop) = rec1
      have hts : rec1.tmps = rec.tmps := by rw [← hrec1]
      have hR4 := hR3.xturn (o' := .loop rec1) hl2 (fun _ _ _ e => by cases e) (fun _ e => by cases e) hXl2
      have hszz : (w2.putObj l (.loop rec1)).heap.size = w2.heap.size := World.putObj_size
      have hown3 : ∀ i, i ≠ nL → upd C2.own nL [l] i = C2.own i := fun i hi => bO _ _ hi
      have hgL' : get ((nL, AObj.loop l rec1 N Eo) :: Ho') nL = some (.loop l rec1 N Eo) := by rw [aO, if_pos rfl]
      have hcase : ∀ i ob, get ((nL, AObj.loop l rec1 N Eo) :: Ho') i = some ob → (i = nL ∧ ob = .loop l rec1 N Eo) ∨ (i ≠ nL ∧ get Ho' i = some ob ∧ get H2 i = some ob) := fun i ob hi => by
        rw [aO] at hi; split at hi
        · rename_i e; exact .inl ⟨e.symm, (Option.some.inj hi).symm⟩
        rename_i e; exact .inr ⟨fun e' => e e'.symm, hi, zF hall i ob hi⟩
      have hav3 : ∀ b, (C.X b ∨ ∃ i ob, get ((nL, AObj.loop l rec1 N Eo) :: Ho') i = some ob ∧ b ∈ upd C2.own nL [l] i) → C2.avoid H2 b := fun b hb => by
        rcases hb with hb | ⟨i, ob, hi, hb⟩
        · exact .inl (by rw [hX2]; exact (hCX b).2 (.inl hb))
        rcases hcase i ob hi with ⟨rfl, rfl⟩ | ⟨hne, h1, h2⟩
        · rw [aZ] at hb; rw [List.mem_singleton.1 hb]
          exact .inl hXl2
        rw [hown3 i hne] at hb
        exact .inr ⟨i, ob, h2, hb⟩
      refine ⟨?_, ?_, .raw _, trivial⟩
      · exact {
          obj := fun i ob hi => by
            rcases hcase i ob hi with ⟨rfl, rfl⟩ | ⟨hne, h1, h2⟩
            · refine ⟨?_, aZ _ _ _, World.putObj_heap_same hlt2, by rw [hts]; exact hsz, fun k t x hk => ?_⟩
              · show C2.ρ i = _
                rw [hρ2 i hUL]; exact hv
              obtain ⟨h1, _, h3⟩ := hslot2 k t x hk
              rw [hts]
              exact ⟨h1, h3.mono' (fun b _ hb => hav3 b hb) fun b cells t fr hb _ => hother2 _ b fun e => by rw [e, hl2] at hb; cases hb⟩
            show cC _ _ _ (upd C2.own nL [l] i) _ _
            rw [hown3 i hne]
            exact (hR4.obj i ob h2).mono (fun b _ hb => hav3 b hb) (fun _ _ _ => rfl) (fun _ _ => rfl)
          apart := fun i k oi ok b hne hi hk hbi hbk => by
            change b ∈ upd C2.own nL [l] i at hbi
            change b ∈ upd C2.own nL [l] k at hbk
            rcases hcase i oi hi with ⟨rfl, rfl⟩ | ⟨h0, h1, h2⟩
            · rcases hcase k ok hk with ⟨rfl, rfl⟩ | ⟨k0, k1, k2⟩
              · exact hne rfl
              rw [aZ] at hbi; rw [hown3 k k0] at hbk
              exact hR3.xapart k ok b k2 hbk (by rw [List.mem_singleton.1 hbi]; exact hXl2)
            rw [hown3 i h0] at hbi
            rcases hcase k ok hk with ⟨rfl, rfl⟩ | ⟨k0, k1, k2⟩
            · rw [aZ] at hbk
              exact hR3.xapart i oi b h2 hbi (by rw [List.mem_singleton.1 hbk]; exact hXl2)
            rw [hown3 k k0] at hbk
            exact hR3.apart i k oi ok b hne h2 k2 hbi hbk
          xapart := fun i ob b hi hb hx => by
            change b ∈ upd C2.own nL [l] i at hb
            rcases hcase i ob hi with ⟨rfl, rfl⟩ | ⟨h0, h1, h2⟩
            · rw [aZ] at hb
              exact hRH.xapart i _ b hgL (by rw [hown]; exact hb) hx
            rw [hown3 i h0] at hb
            exact hR3.xapart i ob b h2 hb (by rw [hX2]; exact (hCX b).2 (.inl hx))
          xlt := fun b hx => by rw [hszz]; exact hR3.xlt b (by rw [hX2]; exact (hCX b).2 (.inl hx))
          gl := hR4.toRelH.glK (fun b _ hb => hav3 b hb) (fun _ _ _ _ _ _ => rfl)
          objb := fun i ob hi => by
            rcases hcase i ob hi with ⟨rfl, rfl⟩ | ⟨h0, h1, h2⟩
            · exact ⟨hUL, hEb⟩
            exact hb' i ob h1 }
      exact {
        os := hs2.os.trans hs1.os
        tape := hs2.tape.trans hs1.tape
        output := hs2.output.trans hs1.output
        size := by rw [hszz]; exact Nat.le_trans (Nat.le_trans hs1.size (by rw [← hsz1]; exact Nat.le_refl _)) hs2.size
        keep := fun k hk hn => by
          have hkl : k ≠ l := fun e => hn (e ▸ hlW)
          have h1 := hs1.keep k hk (fun q => hn (hWW k q))
          have hk1 : k < w1.heap.size := Nat.lt_of_lt_of_le hk hs1.size
          have h2 := hs2.keep k (by rw [hsz1]; exact hk1) (fun q => by rcases hs1.wr k q with h' | h'; exact hn (hWW k h'); omega)
          rw [hother2 _ k hkl, h2, hother1 _ k hkl, h1]
        wr := fun b ⟨i, ob, hi, hb⟩ => by
          change b ∈ upd C2.own nL [l] i at hb
          rcases hcase i ob hi with ⟨rfl, rfl⟩ | ⟨h0, h1, h2⟩
          · rw [aZ] at hb; rw [List.mem_singleton.1 hb]
            exact .inl hlW
          rw [hown3 i h0] at hb
          rcases hs2.wr b ⟨i, ob, h2, hb⟩ with h3 | h3
          · rcases hs1.wr b h3 with h4 | h4
            · exact .inl (hWW b h4)
            exact .inr h4
          rw [hsz1] at h3
          exact .inr (Nat.le_trans hs1.size h3)
        X := rfl
        B := rfl
        ρ := fun i hi => hρ2 i hi }
    cases e with
    | normal =>
      obtain ⟨rfl, hall⟩ := hQ2
      obtain ⟨v, w', h1, h2⟩ := fin hall
      exact ⟨v, w', h1, h2⟩
    | ret =>
      obtain ⟨rfl, hall⟩ := hQ2
      obtain ⟨v, w', h1, h2⟩ := fin hall
      exact ⟨v, w', h1, h2⟩
    | exit id =>
      obtain ⟨rfl, hall⟩ := hQ2
      obtain ⟨v, w', h1, h2⟩ := fin hall
      exact ⟨v, w', h1, h2⟩
    | _ => exact hQ2.elim
  | _ => exact hQ1.elim
end
end
section
variable [Globals]
variable {α : Type} {m i j : Nat} {o : AObj} {K : Heap} {P : Program}
def zI {α S : Type} (nxt : S → α → S × Bool) : List α → S → S
  | [], s => s
  | x :: r, s => if (nxt s x).2 then zI nxt r (nxt s x).1 else (nxt s x).1
def Iter (P : Program) (gf : Nat) (cap : List AV) (CH : Heap) (enc : α → List AV) (xs : List α) : Prop :=
  ∀ (S : Type) (Hx : S → Heap) (Inv : List α → S → Prop) (nxt : S → α → S × Bool) (l : Nat) (s0 : S),
    (∀ s, nY (Hx s) CH) → (∀ s, ∀ p ∈ Hx s, get (Hx s) p.1 = some p.2 ∧ 1000 ≤ p.1 ∧ p.2.bel (UU 0)) → (∀ s, ((Hx s).map (·.1)).Nodup) → (∀ s s', (Hx s).map (·.1) = (Hx s').map (·.1)) →
    (∀ s x r, Inv (x :: r) s → x ∈ xs → rR P l (enc x) (Hx s) 0 (.raw (.bool (nxt s x).2)) (Hx (nxt s x).1) ∧ ((nxt s x).2 = true → Inv r (nxt s x).1)) →
    Inv xs s0 → aD P gf (.raw (.func (.yield l) #[] #[]) :: cap) (Hx s0) 0 (.tup []) (Hx (zI nxt xs s0)) 0
def upσ (m : Nat) : Nat → Nat := fun i => if i < m then i + 1000 else i
def dnσ (m : Nat) : Nat → Nat := fun i => if 1000 ≤ i ∧ i < 1000 + m then i - 1000 else i
def upH (m : Nat) (H : Heap) : Heap := H.map fun p => (upσ m p.1, p.2.ren (upσ m))
mutual
theorem AV.ren_comp (σ τ : Nat → Nat) : ∀ x : AV, (x.ren σ).ren τ = x.ren fun i => τ (σ i)
  | .any => rfl
  | .raw _ => rfl
  | .agg cs => by simp only [AV.ren]; rw [gB σ τ cs]
  | .tup cs => by simp only [AV.ren]; rw [gB σ τ cs]
  | .sl _ xs => by simp only [AV.ren]; rw [gB σ τ xs]
  | .fp _ xs _ _ => by simp only [AV.ren]; rw [gB σ τ xs]
  | .ptr i _ => rfl
  | .ep i _ _ _ => rfl
  | .ref i => rfl
  | .iface _ x => by simp only [AV.ren]; rw [AV.ren_comp σ τ x]
  | .fn _ a b => by simp only [AV.ren]; rw [gB σ τ a, gB σ τ b]
  | .when _ x => by simp only [AV.ren]; rw [AV.ren_comp σ τ x]
  | .own _ _ xs => by simp only [AV.ren]; rw [gB σ τ xs]
theorem gB (σ τ : Nat → Nat) : ∀ xs : List AV, aA τ (aA σ xs) = aA (fun i => τ (σ i)) xs
  | [] => rfl
  | x :: xs => by simp only [aA]; rw [AV.ren_comp σ τ x, gB σ τ xs]
end
theorem AObj.ren_comp (σ τ : Nat → Nat) (o : AObj) : (o.ren σ).ren τ = o.ren fun i => τ (σ i) := by
  cases o with
  | dead => rfl
  | cells t cs => simp only [AObj.ren, gB]
  | row e sz xs => simp only [AObj.ren, gB]
  | map kt et m => simp only [AObj.ren, List.map_map, AObj.map.injEq, true_and]; exact List.map_congr_left fun p _ => by simp [AV.ren_comp]
  | mapS kt et m k st => simp only [AObj.ren, List.map_map, AObj.mapS.injEq, true_and, and_true]; exact List.map_congr_left fun p _ => by simp [AV.ren_comp]
  | other b ob => rfl
  | loop l rec No Eo => simp only [AObj.ren, List.map_map, AObj.loop.injEq, true_and]; exact List.map_congr_left fun p _ => by simp [AV.ren_comp]
theorem dn_up (h : i < m) : dnσ m (upσ m i) = i := by
  simp only [dnσ, upσ, if_pos h]; rw [if_pos ⟨by omega, by omega⟩]; omega
theorem up_ge (h : i < m) : upσ m i = i + 1000 := by simp [upσ, h]
theorem up_inj (hi : i < m) (hj : j < m) (e : upσ m i = upσ m j) : i = j := by rw [up_ge hi, up_ge hj] at e; omega
theorem AObj.dn_up (o : AObj) (h : o.bel (· < m)) : (o.ren (upσ m)).ren (dnσ m) = o := by
  rw [AObj.ren_comp]
  exact (AObj.ren_congr (U := (· < m)) (τ := id) (fun i hi => Abs.dn_up hi) o h).trans (AObj.ren_id' o)
theorem renL_dn_up (xs : List AV) (h : aC (· < m) xs) : aA (dnσ m) (aA (upσ m) xs) = xs := by
  rw [gB]
  exact (dP (U := (· < m)) (τ := id) (fun i hi => Abs.dn_up hi) xs h).trans (gY xs)
theorem upH_dn (K : Heap) (h : ∀ p ∈ K, p.1 < m ∧ p.2.bel (· < m)) : ((upH m K).map fun p => (dnσ m p.1, p.2.ren (dnσ m))) = K := by
  unfold upH; rw [List.map_map]
  conv => rhs; rw [← List.map_id K]
  exact List.map_congr_left fun p hp => by
    obtain ⟨h1, h2⟩ := h p hp
    simp [dn_up h1, AObj.dn_up p.2 h2]
theorem up_bel (h : o.bel (· < m)) : (o.ren (upσ m)).bel (UU 0) := AObj.bel_ren.2 (AObj.bel_mono (fun i hi => .inr (by rw [up_ge hi]; omega)) o h)
theorem upH_get (h : ∀ p ∈ K, p.1 < m ∧ p.2.bel (· < m)) (hj : get K j = some o) : get (upH m K) (upσ m j) = some (o.ren (upσ m)) :=
  zJ (upσ m) (AObj.ren (upσ m)) K j o (fun i j oi oj hi hj e => up_inj (h _ (aN hi)).1 (h _ (aN hj)).1 e) hj
theorem upH_inv (h : ∀ p ∈ K, p.1 < m ∧ p.2.bel (· < m)) (hi : get (upH m K) i = some o) : ∃ j oj, get K j = some oj ∧ j < m ∧ i = upσ m j ∧ dnσ m i = j ∧ o.ren (dnσ m) = oj ∧ oj.bel (· < m) ∧ o = oj.ren (upσ m) := by
  obtain ⟨j, oj, h1, h2, h3⟩ := wX _ _ _ _ _ hi
  obtain ⟨h4, h5⟩ := h _ (aN h1)
  exact ⟨j, oj, h1, h4, h2.symm, by rw [← h2]; exact dn_up h4, by rw [← h3]; exact AObj.dn_up oj h5, h5, h3.symm⟩
theorem iZ {α : Type} : ∀ {l : List (Nat × α)} {i : Nat}, i ∈ l.map (·.1) → ∃ o, get l i = some o
  | (k, x) :: r, i, h => by
    rw [aO]
    by_cases e : k = i
    · exact ⟨x, if_pos e⟩
    rw [if_neg e]; refine iZ ?_
    simp only [List.map_cons, List.mem_cons] at h
    rcases h with h | h
    · exact absurd h.symm e
    exact h
theorem zW {l : List (Nat × α)} {o : α} (h : get l i = some o) : i ∈ l.map (·.1) := List.mem_map.2 ⟨_, aN h, rfl⟩
theorem get_of_mem {α : Type} : ∀ {l : List (Nat × α)} {p : Nat × α}, (l.map (·.1)).Nodup → p ∈ l → get l p.1 = some p.2
  | q :: r, p, hn, hp => by
    rw [List.map_cons, List.nodup_cons] at hn; rw [show (q :: r : List (Nat × α)) = (q.1, q.2) :: r from rfl, aO]
    rcases List.mem_cons.1 hp with e | e
    · subst e; exact if_pos rfl
    rw [if_neg (fun e' => hn.1 (by rw [e']; exact List.mem_map_of_mem e))]
    exact get_of_mem hn.2 e
theorem pJ {α β : Type} {f : α → β} : ∀ {l : List α}, (∀ x, x ∈ l → ∀ y, y ∈ l → f x = f y → x = y) → l.Nodup → (l.map f).Nodup
  | [], _, _ => List.nodup_nil
  | x :: r, h, hn => by
    rw [List.nodup_cons] at hn; rw [List.map_cons, List.nodup_cons]
    refine ⟨fun hm => ?_, pJ (fun a ha b hb => h a (List.mem_cons_of_mem _ ha) b (List.mem_cons_of_mem _ hb)) hn.2⟩
    obtain ⟨y, hy, e⟩ := List.mem_map.1 hm
    have := h y (List.mem_cons_of_mem _ hy) x List.mem_cons_self e
    exact hn.1 (this ▸ hy)
theorem ygives_up {l m : Nat} {args : List AV} {nd H1 : Heap} {r0 : AV} (hm : m ≤ 1000) (hM : rR P l args nd m r0 H1) (ha : aC (fun _ => False) args) (hr : r0.bel fun _ => False)
    (hnd : ∀ p ∈ nd, p.1 < m ∧ p.2.bel (· < m)) (hH1 : ∀ p ∈ H1, p.1 < m ∧ p.2.bel (· < m)) (hk : nd.map (·.1) = H1.map (·.1)) : rR P l args (upH m nd) 0 r0 (upH m H1) := by
  intro C w vals hRH hargs hb
  have hfit : Fit (UU 0) (upH m nd) (upσ m) nd m 0 0 H1 :=
    { objs := fun i o hi => ⟨upH_get hnd hi, .inl (hnd _ (aN hi)).1, AObj.bel_mono (fun j hj => .inl hj) o (hnd _ (aN hi)).2⟩
      inj := fun i j oi oj hi hj e => up_inj (hnd _ (aN hi)).1 (hnd _ (aN hj)).1 e
      known := fun i hi => by
        unfold upσ; split
        · exact .inr (by omega)
        rcases hi with hi | hi
        · omega
        exact .inr hi
      dom := fun i o hi => .inl (iZ (by rw [hk]; exact zW hi))
      all := fun i o hi => iZ (by rw [← hk]; exact zW hi)
      fresh := fun j h1 h2 => by omega
      far := by omega }
  have hRc := hRH.callee hfit
  have hargsR : cF (callee C (upH m nd) (upσ m) nd).ρ ((callee C (upH m nd) (upσ m) nd).avoid nd) w.heap args vals :=
    (cF.mono (av' := (callee C (upH m nd) (upσ m) nd).avoid nd) (fun b _ hb => (dV hfit b).1 hb) (fun _ _ _ => rfl) (show cF C.ρ (C.avoid (upH m nd)) w.heap (aA (upσ m) args) vals by rw [cO _ ha]; exact hargs)).unren (ρ := C.ρ)
  refine rR.mono (hM _ w vals hRc hargsR (cY (fun _ h => h.elim) args ha)) fun e w' ⟨v, C1, he, k1, k2, k3, k4⟩ => ?_
  obtain ⟨q1, q2, q3⟩ := hRH.back hfit k1 k2
  rw [aR] at q1 q2 q3
  obtain ⟨q4, q5⟩ := q3 r0 v k4 k3
  rw [AV.ren_closed _ hr] at q4 q5
  rw [aU0] at q1 q5
  have hext : ∀ k, get (upH m H1) k = get (over (upH m nd) (H1.map fun p => (upσ m p.1, p.2.ren (upσ m)))) k := fun k => by
    rw [bB]
    show _ = match get (upH m H1) k with | some o => some o | none => get (upH m nd) k
    cases h1 : get (upH m H1) k with
    | some o => rfl
    | none =>
      cases h2 : get (upH m nd) k with
      | none => rfl
      | some o =>
        exfalso
        obtain ⟨j, oj, h3, h4, h5, _⟩ := upH_inv hnd h2
        obtain ⟨o', ho'⟩ := iZ (l := H1) (i := j) (by rw [← hk]; exact zW h3)
        have := upH_get hH1 ho'
        rw [← h5, h1] at this; cases this
  refine ⟨v, _, he, q1.ext hext, q2.ext hext, ?_, q5⟩
  rw [sG hext]; exact q4
def jumpQ (Q : AQ) : Option Code → AK
  | none => Q .normal
  | some .ret => Q .ret
  | some (.exit id) => Q (.exit id)
  | _ => fun _ _ _ => False
theorem awp_rangeFunc {N n0 nx : Nat} {Q : AQ} {E : Env} {H : Heap} {α S : Type} {g : Operand} {ps : Array Tmp} {assign body : Code} {gf : Nat} {fn : Func} {code : Code} {cap : List AV} {CH : Heap} {enc : α → List AV} {xs : List α}
    (Ho : S → Heap) (Eo : Env) (Inv : List α → S → Prop) (jmp : S → Option Code) (nxt : S → α → S × Bool) (s0 : S) (hnx : nx + 1 ≤ 1000)
    (hg : opv E g = some (.fn (.func gf) [] cap)) (hT : FnT P gf fn code) (hcap : aC (· < nx) cap) (hit : Iter P gf (aA (upσ (nx + 1)) cap) CH enc xs)
    (hxs : ∀ x ∈ xs, (enc x).length = ps.size ∧ aC (fun _ => False) (enc x)) (hps : ∀ p ∈ ps.toList, p < N)
    (hEo : ∀ p ∈ Eo, get E p.1 = some p.2 ∧ p.2.bel (· < nx)) (hH0 : nY H (Ho s0))
    (hHo : ∀ s, ∀ p ∈ Ho s, p.1 < nx ∧ p.2.bel (· < nx)) (hkn : ∀ s, ((Ho s).map (·.1)).Nodup) (hkk : ∀ s s', (Ho s).map (·.1) = (Ho s').map (·.1))
    (hCH : ∀ s, nY (upH (nx + 1) (Ho s)) CH)
    (hI0 : Inv xs s0) (hIj : ∀ r s, Inv r s → jmp s = none)
    (hround : ∀ s x r l, Inv (x :: r) s → x ∈ xs → AWP P (some l) N (nx + 1) assign (athen (AWP P (some l) N (nx + 1) body (roundQ (Ho (nxt s x).1) (jmp (nxt s x).1))) fun _ _ _ _ => False) (parE ps.toList (enc x) Eo) (Ho s) (nx + 1) ∧
      (nxt s x).2 = (jmp (nxt s x).1).isNone ∧ ((nxt s x).2 = true → Inv r (nxt s x).1))
    (hdone : jumpQ Q (jmp (zI nxt xs s0)) E (over H (Ho (zI nxt xs s0))) (nx + 1)) :
    AWP P none N n0 (.rangeFunc g ps assign body) Q E H nx := by
  intro C a w Qc hn hR hK; refine wpIn_rangeFunc ?_; intro fnr hfnr
  obtain ⟨hrg, _⟩ := hR.opv hg
  generalize hev : a.eval g = gv at hrg
  cases hrg with
  | fn _ _ _ vs us hvs _ hus hus' =>
  have hvs0 : vs = #[] := Array.eq_empty_of_size_eq_zero hvs
  subst hvs0
  obtain ⟨rec0, hrec0⟩ : ∃ rec0 : Loop, rec0 = { state := .ready, pending := none, fn := fnr, tmps := a.tmps, params := ps, assign, body, defers := w.heap.size } := ⟨_, rfl⟩
  obtain ⟨recS, hrecS⟩ : ∃ recS : S → Loop, recS = fun s => { rec0 with state := if (jmp s).isNone then .ready else .done, pending := jmp s } := ⟨_, rfl⟩
  have hrs0 : ∀ s, jmp s = none → recS s = rec0 := fun s hs => by rw [hrecS]; simp only [hs]; rw [hrec0]; rfl
  obtain ⟨l, hl⟩ : ∃ l, l = w.heap.size + 1 := ⟨_, rfl⟩
  obtain ⟨m, hm⟩ : ∃ m, m = nx + 1 := ⟨_, rfl⟩
  rw [← hm] at hit hCH hround hdone hnx
  obtain ⟨W1, hW1⟩ : ∃ W1, (w.alloc (.deferred (some []))).alloc (.loop rec0) = W1 := ⟨_, rfl⟩
  have hsz1 : W1.heap.size = w.heap.size + 2 := by rw [← hW1]; simp
  have hk1 : ∀ k, k < w.heap.size → W1.heap[k]? = w.heap[k]? := fun k hk => by
    rw [← hW1]
    show ((w.heap.push _).push _)[k]? = _
    rw [Array.getElem?_push, if_neg (by simp; omega), Array.getElem?_push, if_neg (by omega)]
  have hD1 : W1.heap[w.heap.size]? = some (.deferred (some [])) := by
    rw [← hW1]
    show ((w.heap.push _).push _)[w.heap.size]? = _
    rw [Array.getElem?_push, if_neg (by simp), Array.getElem?_push, if_pos rfl]
  have hL1 : W1.heap[l]? = some (.loop rec0) := by
    rw [← hW1, hl]
    show ((w.heap.push _).push _)[w.heap.size + 1]? = _
    rw [Array.getElem?_push, if_pos (by simp)]
  have hUm : (fun j => UU nx j ∨ j = nx) = UU m := by rw [hm, ← eB, wK]
  have hnU : ¬ UU nx nx := UU_new (by omega)
  have hown : ∀ b, b ∈ [l] → w.heap.size ≤ b := fun b hb => by rw [List.mem_singleton.1 hb, hl]; omega
  have hos : W1.os = w.os := by rw [← hW1]; rfl
  have htp : W1.tape = w.tape := by rw [← hW1]; rfl
  have hout : W1.output = w.output := by rw [← hW1]; rfl
  obtain ⟨HL, hHL⟩ : ∃ HL, HL = put H nx (.loop l rec0 N Eo) := ⟨_, rfl⟩
  obtain ⟨C1, hC1⟩ : ∃ C1, C1 = C.new nx (.pointer (some ⟨l, 0, none⟩)) [l] rfl := ⟨_, rfl⟩
  have hs1 : StepR C H (UU nx) w C1 HL W1 := by
    rw [hC1, hHL]
    exact StepR.new hR.toRelH hos htp hout (by omega) hk1 hnU rfl hown _
  have hEob : aC (UU nx) (Eo.map (·.2)) := bLi.2 fun x hx => by
    obtain ⟨p, hp, rfl⟩ := List.mem_map.1 hx
    exact AV.bel_mono (fun i hi => .inl hi) _ (hEo p hp).2
  have hRo : ∀ (j t : Nat) (x : AV), Eo[j]? = some (t, x) → t < N ∧ x.bel (UU nx) ∧ Rep C.ρ (C.avoid H) w.heap x (a.tmps.getD t undef) := fun j t x hj => hR.env t x (hEo _ (List.mem_of_getElem? hj)).1
  have hR1 : RelH C1 HL (UU m) W1 := by
    rw [← hUm, hC1, hHL]
    refine RelH.new hR.toRelH hos htp hout (by omega) hk1 hnU rfl hown ⟨rfl, rfl, hL1, by rw [hrec0]; exact hR.size, fun j t x hj => ?_⟩ (cY (fun i hi => .inl hi) _ hEob)
    obtain ⟨h1, h2, h3⟩ := hRo j t x hj
    refine ⟨h1, ?_⟩
    rw [show rec0.tmps = a.tmps by rw [hrec0]]
    have := Rep.step' hs1 h2 h3
    rw [hC1, hHL] at this; exact this
  have hav1 : ¬ C1.avoid HL w.heap.size := fun hq => by
    rcases hq with hq | ⟨i, o, hi, hb⟩
    · rw [hs1.X] at hq
      exact absurd (hR.xlt _ hq) (by omega)
    rw [hHL] at hi
    by_cases e : i = nx
    · rw [e, hC1] at hb
      have : w.heap.size ∈ [l] := by rw [← show (C.new nx (.pointer (some ⟨l, 0, none⟩)) [l] rfl).own nx = [l] from aZ _ _ _]; exact hb
      rw [List.mem_singleton] at this; omega
    rw [cL e] at hi; rw [hC1] at hb
    have hb' : w.heap.size ∈ C.own i := by rw [← show (C.new nx (.pointer (some ⟨l, 0, none⟩)) [l] rfl).own i = C.own i from bO _ _ e]; exact hb
    exact absurd ((hR.obj i o hi).own_lt _ hb') (by omega)
  have hRel1 := hR.change hs1 (U' := UU m) (fun i hi => by rw [hm]; exact dM (Nat.le_succ _) i hi) hR1
  have hRel1' : Rel C1 N E HL (UU m) { a with defers := [{ target := .collected w.heap.size, args := #[] }] ++ a.defers } W1 :=
    { toRelH := hR1, size := hRel1.size, hB := hRel1.hB, env := hRel1.env
      nodup := by
        refine List.nodup_cons.2 ⟨fun hmem => ?_, hR.nodup⟩
        obtain ⟨r, h1, _, h3, _⟩ := hR.marks _ hmem
        have : w.heap.size = r := by simpa using h1
        exact absurd (ltB h3) (by omega)
      marks := fun d hd => by
        rcases List.mem_cons.1 hd with e | e
        · exact ⟨w.heap.size, e, by rw [hs1.B]; exact hR.hB, hD1, hav1⟩
        exact hRel1.marks d e }
  obtain ⟨K, hK0⟩ : ∃ K : S → Heap, K = fun s => (nx, .loop l (recS s) N Eo) :: Ho s := ⟨_, rfl⟩
  have hKm : ∀ s, ∀ p ∈ K s, p.1 < m ∧ p.2.bel (· < m) := fun s p hp => by
    rw [hK0] at hp
    rcases List.mem_cons.1 hp with e | e
    · rw [e]
      exact ⟨by show nx < m; omega, bLi.2 fun x hx => by
        obtain ⟨q, hq, rfl⟩ := List.mem_map.1 hx
        exact AV.bel_mono (fun i hi => by omega) _ (hEo q hq).2⟩
    obtain ⟨h1, h2⟩ := hHo s p e
    exact ⟨by omega, AObj.bel_mono (fun i hi => by omega) _ h2⟩
  have hKn : ∀ s, ((K s).map (·.1)).Nodup := fun s => by
    rw [hK0]
    refine List.nodup_cons.2 ⟨fun hmem => ?_, hkn s⟩
    obtain ⟨p, hp, he⟩ := List.mem_map.1 hmem
    have := (hHo s p hp).1
    have he' : p.1 = nx := he
    omega
  have hKk : ∀ s s', (K s).map (·.1) = (K s').map (·.1) := fun s s' => by rw [hK0]; simp [hkk s s']
  have hnone : ∀ s o, get (Ho s) nx ≠ some o := fun s o ho => by have := (hHo s _ (aN ho)).1; simp at this
  have hupK : ∀ s, (upH m (K s)).map (·.1) = ((K s).map (·.1)).map (upσ m) := fun s => by unfold upH; simp
  have hG := hit S (fun s => upH m (K s)) Inv nxt l s0 (fun s => by
      have := hCH s
      rw [hK0]
      have aux : ∀ {A B : Heap}, (∀ i o, get A i = some o → get B i = some o) → ∀ {D : Heap}, nY A D → nY B D := fun {A B} hab => by
        intro D
        induction D with
        | nil => exact fun _ => trivial
        | cons p r ih => exact fun h => ⟨hab _ _ h.1, ih h.2⟩
      refine aux (fun i o hi => ?_) this
      obtain ⟨j, oj, h1, h2, h3, _⟩ := upH_inv (m := m) (fun p hp => ⟨by have := (hHo s p hp).1; omega, AObj.bel_mono (fun i hi => by omega) _ (hHo s p hp).2⟩) hi
      show get ((upσ m nx, _) :: upH m (Ho s)) i = _
      rw [aO, if_neg]
      · exact hi
      rw [h3]; intro e
      have := up_inj (m := m) (by omega) h2 e
      exact hnone s _ (by rw [this]; exact h1))
    (fun s p hp => by
      obtain ⟨q, hq, rfl⟩ := List.mem_map.1 hp
      obtain ⟨h1, h2⟩ := hKm s q hq
      refine ⟨upH_get (hKm s) (get_of_mem (hKn s) hq), ?_, up_bel h2⟩
      show 1000 ≤ upσ m q.1
      rw [up_ge h1]; omega)
    (fun s => by
      rw [hupK]
      refine pJ ?_ (hKn s)
      intro x hx y hy e
      obtain ⟨p, hp, rfl⟩ := List.mem_map.1 hx
      obtain ⟨q, hq, rfl⟩ := List.mem_map.1 hy
      exact up_inj (hKm s p hp).1 (hKm s q hq).1 e)
    (fun s s' => by rw [hupK, hupK, hKk s s'])
    (fun s x r hI hx => by
      obtain ⟨h1, h2, h3⟩ := hround s x r l hI hx
      refine ⟨?_, h3⟩
      have hy := ygives_of_awp (l := l) (nL := nx) (rec := rec0) (Eo := Eo) (Ho := Ho s) (Ho' := Ho (nxt s x).1) (n0 := m) (xs := enc x) (j := jmp (nxt s x).1) (by rw [hrec0]) (by rw [hrec0]) (by rw [hrec0]; exact (hxs x hx).1) (by rw [hrec0]; exact hps)
        (hnone s) (hnone _) (.inl (by omega)) (fun i o hi => ⟨.inl (by have := (hHo _ _ (aN hi)).1; simp at this; omega), AObj.bel_mono (fun k hk => .inl (by omega)) _ (hHo _ _ (aN hi)).2⟩) (by rw [hrec0]; exact h1)
      rw [← h2] at hy
      have hy2 : rR P l (enc x) (K s) m (.raw (.bool (nxt s x).2)) (K (nxt s x).1) := by
        rw [hK0]
        show rR P l (enc x) ((nx, .loop l (recS s) N Eo) :: Ho s) m _ ((nx, .loop l (recS (nxt s x).1) N Eo) :: Ho (nxt s x).1)
        rw [hrs0 s (hIj _ s hI), hrecS]
        simp only
        rw [← h2]; exact hy
      exact ygives_up (by omega) hy2 (hxs x hx).2 trivial (hKm _) (hKm _) (hKk _ _))
    hI0
  generalize hse : zI nxt xs s0 = se at hG hdone
  have hfit : Fit (UU m) HL (dnσ m) (upH m (K s0)) 0 0 0 (upH m (K se)) :=
    { objs := fun i o hi => by
        obtain ⟨j, oj, h1, h2, h3, h4, h5, h6, h7⟩ := upH_inv (hKm s0) hi
        refine ⟨?_, .inr (by rw [h3, up_ge h2]; omega), by rw [h7]; exact up_bel h6⟩
        rw [h4, h5, hHL]; rw [hK0] at h1
        simp only [aO] at h1
        split at h1
        · rename_i e
          rw [dF, if_pos e, ← h1, hrs0 s0 (hIj _ s0 hI0)]
        rename_i e
        rw [cL (fun e' => e e'.symm)]
        exact zF hH0 j oj h1
      inj := fun i j oi oj hi hj e => by
        obtain ⟨i', _, _, h2, h3, h4, _⟩ := upH_inv (hKm s0) hi
        obtain ⟨j', _, _, k2, k3, k4, _⟩ := upH_inv (hKm s0) hj
        rw [h4, k4] at e; rw [h3, k3, e]
      known := fun i hi => by
        rcases hi with hi | hi
        · omega
        unfold dnσ; split
        · exact .inl (by omega)
        exact .inr hi
      dom := fun i o hi => .inl (iZ (by rw [hupK, hKk s0 se, ← hupK]; exact zW hi))
      all := fun i o hi => iZ (by rw [hupK, hKk se s0, ← hupK]; exact zW hi)
      fresh := fun j h1 h2 => by omega
      far := by omega }
  have hRc := hR1.callee hfit
  have hvals : cF (callee C1 HL (dnσ m) (upH m (K s0))).ρ ((callee C1 HL (dnσ m) (upH m (K s0))).avoid (upH m (K s0))) W1.heap (.raw (.func (.yield l) #[] #[]) :: aA (upσ m) cap) (#[.func (.yield l) #[] #[]] ++ us) := by
    have h1 : cF C1.ρ (C1.avoid HL) W1.heap cap us := ⟨hus, fun j x hj => Rep.step' hs1 (AV.bel_mono (fun i hi => .inl hi) x (bG hcap hj)) (hus' j x hj)⟩
    have h2 : cF C1.ρ (C1.avoid HL) W1.heap (aA (dnσ m) (.raw (.func (.yield l) #[] #[]) :: aA (upσ m) cap)) (#[.func (.yield l) #[] #[]] ++ us) := by
      rw [aA, renL_dn_up cap (cY (fun i hi => by omega) cap hcap)]
      have h3 : cF C1.ρ (C1.avoid HL) W1.heap [.raw (.func (.yield l) #[] #[])] #[.func (.yield l) #[] #[]] := ⟨rfl, fun j x hj => by
        cases j with
        | zero => cases hj; exact .raw _
        | succ j => simp at hj⟩
      exact cF.append h3 h1
    exact (h2.mono (av' := (callee C1 HL (dnσ m) (upH m (K s0))).avoid (upH m (K s0))) (fun b _ hb => (dV hfit b).1 hb) (fun _ _ _ => rfl)).unren (ρ := C1.ρ)
  have hbel : aC (UU 0) (AV.raw (.func (.yield l) #[] #[]) :: aA (upσ m) cap) := ⟨trivial, eJ.2 (cY (fun i hi => .inr (by rw [up_ge (by omega)]; omega)) cap hcap)⟩
  refine ⟨l, [{ target := .collected w.heap.size, args := #[] }], W1, { target := .fn (.func gf) us, args := #[.func (.yield l) #[] #[]] }, W1, gf, #[.func (.yield l) #[] #[]] ++ us, W1, ?_, ?_, fun _ _ => trivial, ?_, fun hh => (by cases hh), ?_⟩
  · rw [← hW1, hrec0, hl]; exact run_enterLoop_outer _ _ _ _ _
  · simp only [resolve, hev]
    simp [go_sem]
  · have := hT.run (P := P)
    simp [invoke, go_sem, this]
  refine yZ ((hG _ W1 _ hRc hvals hbel).mono fun e w3 ⟨v, r, H3, n3, C3, he, hn3, ⟨hr, hH3, hn3'⟩, k1, k2, k3, k4⟩ => ?_)
  subst he; subst hr; subst hH3; subst hn3'
  obtain ⟨q1, q2, _⟩ := hR1.back hfit k1 k2
  rw [aR] at q1 q2
  rw [aU0, upH_dn _ (hKm se)] at q1; rw [upH_dn _ (hKm se)] at q2
  generalize back C1 C3 (dnσ m) (upH m (K s0)) 0 0 0 = Cb at q1 q2
  have hgl : get (over HL (K se)) nx = some (.loop l (recS se) N Eo) := by
    rw [bB, hK0]; simp only [aO, if_true]
  obtain ⟨z1, z2, z3, _⟩ := q1.obj nx _ hgl
  have hst : (recS se).state ≠ .busy := by
    rw [hrecS]
    simp only
    split <;> simp
  refine ⟨_, _, run_endLoop z3 hst, ?_⟩
  have hfor : ∀ i o, get (over H (Ho se)) i = some o → i ≠ nx ∧ get (over HL (K se)) i = some o := fun i o hi => by
    have hne : i ≠ nx := fun e => by
      rw [bB] at hi
      cases h1 : get (Ho se) i with
      | some o' => exact hnone se o' (by rw [← e]; exact h1)
      | none =>
        rw [h1] at hi
        have := (hR.objb i o hi).1
        rw [e] at this
        exact hnU this
    refine ⟨hne, ?_⟩
    rw [bB] at hi; rw [bB, hK0]; simp only [aO, if_neg (fun e => hne (Eq.symm e))]; rw [hHL, cL hne]; exact hi
  have hRel3 := (hRel1'.change q2 (fun _ h => h) q1)
  have hRel4 := hRel3.forget (E' := E) (H' := over H (Ho se)) (U' := UU m) (fun _ _ h => h) (fun t x ht => (hRel3.env t x ht).2.1) (fun i o hi => (hfor i o hi).2) (fun i o hi => q1.objb i o (hfor i o hi).2)
  have hRel5 := hRel4.turn (o' := .loop { recS se with state := .exhausted }) z3 (fun _ _ _ e => by cases e) (fun _ e => by cases e) (fun i o hi hb => q1.apart i nx _ _ l (hfor i o hi).1 (hfor i o hi).2 hgl hb (by rw [z2]; exact List.mem_singleton.2 rfl))
  have hall : StepR C H (UU nx) w Cb (over HL (K se)) w3 := hs1.trans (fun i hi => by rw [hm]; exact dM (Nat.le_succ _) i hi) q2
  have hlge : w.heap.size ≤ l := by omega
  have hstep : StepR C H (UU n0) w Cb (over H (Ho se)) (w3.putObj l (.loop { recS se with state := .exhausted })) :=
    { os := hall.os, tape := hall.tape, output := hall.output
      size := by rw [World.putObj_size]; exact hall.size
      keep := fun k hk hn => (World.putObj_heap_other (by omega)).trans (hall.keep k hk hn)
      wr := fun b ⟨i, o, hi, hb⟩ => hall.wr b ⟨i, o, (hfor i o hi).2, hb⟩
      X := hall.X, B := hall.B
      ρ := fun i hi => hall.ρ i (dM hn i hi) }
  have hpend : (recS se).pending = jmp se := by rw [hrecS]
  have key : ∀ jj : Option Code, jumpQ Q jj E (over H (Ho se)) m → (match jj with
      | none => Qc .normal { a with defers := [{ target := .collected w.heap.size, args := #[] }] ++ a.defers } (w3.putObj l (.loop { recS se with state := .exhausted }))
      | some c => c.wpIn (FW none) 0 P Qc { a with defers := [{ target := .collected w.heap.size, args := #[] }] ++ a.defers } (w3.putObj l (.loop { recS se with state := .exhausted }))) := fun jj hjj => by
    cases jj with
    | none => exact hK .normal E _ m Cb _ _ (by omega) hRel5 hstep hjj
    | some c =>
      cases c with
      | ret => exact wpIn_ret (hK .ret E _ m Cb _ _ (by omega) hRel5 hstep hjj)
      | exit id => exact wpIn_exit (hK (.exit id) E _ m Cb _ _ (by omega) hRel5 hstep hjj)
      | _ => exact hjj.elim
  exact key _ (by rw [hpend]; exact hdone)
end
section
variable [Globals]
variable {H F F' : Heap} {E : Env}
theorem heapOk_of {n1 : Nat} {H : Heap} : ∀ (H1 : Heap), (∀ p ∈ H1, get H p.1 = some p.2 ∧ UU n1 p.1 ∧ p.2.bel (UU n1)) → eX (sg []) n1 H H1
  | [], _ => trivial
  | (i, o) :: r, h => by
    obtain ⟨h1, h2, h3⟩ := h _ List.mem_cons_self
    exact ⟨by rw [AObj.ren_nil]; exact h1, h2, h3, heapOk_of r fun p hp => h p (List.mem_cons_of_mem _ hp)⟩
structure Far (H : Heap) (F : Heap) : Prop where
  at' : ∀ p ∈ F, get H p.1 = some p.2
  far : ∀ p ∈ F, 1000 ≤ p.1 ∧ p.2.bel (UU 0)
  nodup : (F.map (·.1)).Nodup
theorem Far.put (h : Far H F) {n : Nat} (hn : n < 1000) (o : AObj) : Far (put H n o) F :=
  ⟨fun p hp => by rw [cL (by have := (h.far p hp).1; omega)]; exact h.at' p hp, h.far, h.nodup⟩
theorem Far.over (h : Far F' F') : Far (over H F') F' :=
  ⟨fun p hp => by rw [bB, h.at' p hp], h.far, h.nodup⟩
theorem Far.fit (h : Far H F) (hk : F.map (·.1) = F'.map (·.1)) : FitC H [] F 0 0 F' where
  objs := heapOk_of F fun p hp => ⟨h.at' p hp, .inr (h.far p hp).1, (h.far p hp).2⟩
  inj := h.nodup
  cov := fun i hi => by omega
  sk := fun p hp => by cases hp
  dom := fun p hp => .inl (by
    obtain ⟨o, ho⟩ := iZ (l := F) (i := p.1) (by rw [hk]; exact List.mem_map_of_mem hp)
    rw [ho]; rfl)
  all := fun p hp => by
    obtain ⟨o, ho⟩ := iZ (l := F') (i := p.1) (by rw [← hk]; exact List.mem_map_of_mem hp)
    rw [ho]; rfl
  far := by omega
theorem Far.heap (h : Far H F) (n1 : Nat) : eX (sg []) n1 H F := heapOk_of F fun p hp => ⟨h.at' p hp, .inr (h.far p hp).1, AObj.bel_mono (dM (Nat.zero_le _)) _ (h.far p hp).2⟩
theorem Far.told (h : Far H F) {E E1 : Env} (he : envOk (sg []) 0 E E1) : Told 0 [] E H E1 F 0 :=
  ⟨he, h.heap 0, h.nodup, (fun p hp => by cases hp), Nat.le_refl _⟩
theorem Far.final {P : Program} {vs : List ResultVar} {r0 : AV} (h : Far H F) (hr : (rL P E H vs).map mM = some r0) (hb : r0.bel (UU 0)) : Final P vs 0 r0 F 0 E H :=
  ⟨[], by rw [AV.ren_nil]; exact hr, h.heap 0, h.nodup, hb, (fun p hp => by cases hp), Nat.le_refl _⟩
attribute [go_sem] nY parE jumpQ roundQ upσ upH
end
end Go.Abs
end
