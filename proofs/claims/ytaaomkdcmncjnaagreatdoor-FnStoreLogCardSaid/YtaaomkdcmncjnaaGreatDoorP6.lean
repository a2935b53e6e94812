/-
  The abstract layer, the walks and the plain laws that the claim leans on, part 6 of 7 (working texts S71 to S98). It proves lemmas alone; no condition of its own.
-/
import Derived.Test.YtaaomkdcmncjnaaGreatDoorP5
set_option linter.all false
set_option maxRecDepth 20000
section
open Go Go.Abs Go.Proofs Go.Proofs.Tryz
namespace Go.Proofs.S
section
variable {ls : List Entry} {e : Entry}
def tZ (h : bJ e = true) : (jJ e.key = true /\ 1 <= e.seq /\ e.seq <= 100000 /\ nP e.n = true /\ e.text.size <= 60) /\ (e.kind = 1 ∨ (e.kind = 2 /\ e.n = 0) ∨ e.kind = 3) := by
  unfold bJ at h; split at h
  . cases h
  rename_i hb
  have hb' : jS e = false := by simpa using hb
  unfold jS at hb'
  simp only [Bool.or_eq_false_iff, Bool.not_eq_false', decide_eq_false_iff_not] at hb'
  refine ⟨⟨hb'.1.1.1.1, og, og, hb'.1.2, og⟩, ?_⟩
  split at h
  . left; assumption
  split at h
  . right; left; rename_i hk; simp only [B7, decide_eq_true_eq] at h; exact ⟨hk, h.2⟩
  split at h
  . right; right; assumption
  cases h
def bDm (h1 : jJ e.key = true) (h2 : 1 <= e.seq /\ e.seq <= 100000) (h3 : nP e.n = true) (h4 : e.text.size <= 60) (h5 : e.kind = 1 ∨ (e.kind = 2 /\ e.text = ⟨#[]⟩ /\ e.n = 0) ∨ (e.kind = 3 /\ e.text = ⟨#[]⟩)) : bJ e = true := by
  have hb : jS e = false := by
    unfold jS; rw [h1, h3]
    simp; omega
  unfold bJ; rw [hb, if_neg oS]
  rcases h5 with h | ⟨h, ht, hn⟩ | ⟨h, ht⟩
  . rw [if_pos h]
  . rw [if_neg og, if_pos h, ht, hn]; simp
  rw [if_neg og, if_neg og, if_pos h, ht]; simp
def bDw : ∀ (ls : List Entry) (o : Entry) (f : Bool), (∀ e ∈ ls, bJ e = true) -> pL o f ls = rX o f ls
  | [], _, _, _ => rfl
  | e :: r, o, f, h => by
    have hk := (tZ (h e A3)).2
    unfold pL rX
    rcases hk with hk | ⟨hk, hn⟩ | hk
    . rw [if_pos hk, if_neg og, if_pos hk]
    . have g1 : ¬ e.kind = 1 := by omega
      have g3 : ¬ e.kind = 3 := by omega
      rw [if_neg g1, if_pos hk, if_neg g3, if_neg g1, hn, Int.add_zero]
    rw [if_neg og, if_neg og, if_pos hk]
    exact bDw r _ false fun x hx => h x (A4 _ hx)
def bQg (h : ∀ e ∈ ls, bJ e = true) : vQ ls = rL ls := by
  cases ls with
  | nil => rfl
  | cons y r => exact bDw (y :: r) (aDw y) true h
def aTa (n : Int) : (nP n = false) ↔ ((decide (1000000 < n) || decide (n < -1000000)) = true) := by
  unfold nP
  simp
  omega
def bRf (h : ∀ e ∈ ls, bJ e = true) (b : Bool) : jC ls b = sqC ls b := by
  unfold jC sqC; rw [bQg h]
  by_cases hs : nP (rL ls).n = false
  . rw [if_pos hs, if_pos ((aTa _).1 hs)]
  rw [if_neg hs, if_neg (fun e => hs ((aTa _).2 e))]
  cases b with
  | false => simp
  | true =>
    by_cases h2 : (rL ls).kind = 2
    . simp [h2]
    by_cases h3 : (rL ls).kind = 3
    . simp [h3]
    simp [h2, h3]
def aRe {f g : List Entry -> Bool -> List Entry} (b : Bool) : ∀ {cs : List (List Entry)}, (∀ c ∈ cs, ∀ b, f c b = g c b) -> lfL f cs b = lfL g cs b
  | [], _ => rfl
  | c :: r, h => by
    unfold lfL; rw [aRe b (cs := r) fun x hx => h x (A4 _ hx), h c A3]
def bRi {ts : List Int} (h : ∀ e ∈ ls, bJ e = true) (b : Bool) : jK ts ls b = sqK ts ls b := by
  unfold jK sqK; rw [aRe b fun c hc b => bRf (fun e he => h e ((jF hc).2.2 e he)) b]
def aKo {f g : List Entry -> List Entry} {ls : List Entry} (h : ∀ c, (∀ e ∈ c, e ∈ ls) -> f c = g c) : ∀ n s, rF f ls n s = rF g ls n s
  | 0, _ => rfl
  | n + 1, s => by
    unfold rF; rw [aKo h n, h _ fun e he => D1 (D2 he)]
def aQf (ls : List Entry) (ts : List Int) (b : Bool) : bO ls ts b = cI ls ts b := by
  unfold bO cI; split
  . rename_i h
    exact aKo (fun c hc => bRi (fun e he => lY h (hc e he)) b) _ _
  rfl
def kp (e : Entry) : ByteArray × Int := (e.key, e.seq)
def aYl : ∀ (ls : List Entry) (o : Entry) (f : Bool), o.kind = 3 -> o.text = ⟨#[]⟩ -> (f = true -> o.n = 0) -> (∀ e ∈ ls, bJ e = true) ->
    (rX o f ls).key = o.key /\ (rX o f ls).seq = o.seq /\ (rX o f ls).text.size <= 60 /\ ((rX o f ls).kind = 1 ∨ ((rX o f ls).kind = 2 /\ (rX o f ls).text = ⟨#[]⟩ /\ (rX o f ls).n = 0) ∨ ((rX o f ls).kind = 3 /\ (rX o f ls).text = ⟨#[]⟩))
  | [], o, f, hk, ht, hn, _ => ⟨rfl, rfl, by show o.text.size <= 60; rw [ht]; exact A5 _, .inr (.inr ⟨hk, ht⟩)⟩
  | e :: r, o, f, hk, ht, hn, h => by
    have hz : (⟨#[]⟩ : ByteArray).size <= 60 := A5 _
    unfold rX; split
    . exact aYl r { o with n := o.n + e.n } false hk ht (fun h => by cases h) fun x hx => h x (A4 _ hx)
    split
    . exact ⟨rfl, rfl, (tZ (h e A3)).1.2.2.2.2, .inl rfl⟩
    split
    . rename_i hf
      exact ⟨rfl, rfl, by show o.text.size <= 60; rw [ht]; exact hz, .inr (.inl ⟨rfl, ht, hn hf⟩)⟩
    exact ⟨rfl, rfl, by show o.text.size <= 60; rw [ht]; exact hz, .inl rfl⟩
def bLz (h : ∀ e ∈ ls, bJ e = true) {y : Entry} {r : List Entry} (hy : ls = y :: r) : kp (rL ls) = kp y /\
    (nP (rL ls).n = true -> bJ (rL ls) = true /\ ((rL ls).kind = 3 -> bJ { rL ls with kind := 1 } = true)) := by
  have hc : rL ls = rX (aDw y) true ls := by rw [hy]; rfl
  obtain ⟨h1, h2, h3, h4⟩ := aYl ls (aDw y) true rfl rfl (fun _ => rfl) h
  rw [<- hc] at h1 h2 h3 h4
  have hyo := (tZ (h y (by rw [hy]; exact A3))).1
  have k1 : jJ (rL ls).key = true := by rw [h1]; exact hyo.1
  have k2 : 1 <= (rL ls).seq /\ (rL ls).seq <= 100000 := by rw [h2]; exact ⟨hyo.2.1, hyo.2.2.1⟩
  refine ⟨by unfold kp; rw [h1, h2]; rfl, fun hs => ⟨bDm k1 k2 hs h3 h4, fun _ => bDm k1 k2 hs h3 (.inl rfl)⟩⟩
def bAo {c : List Entry} (h : ∀ e ∈ c, bJ e = true) (hne : c ≠ []) (b : Bool) : ((sqC c b).map kp).Sublist (c.map kp) /\ (∀ e ∈ sqC c b, bJ e = true) /\ (b = false -> sqC c b ≠ []) := by
  obtain ⟨y, r, hy⟩ := G4 hne
  obtain ⟨h1, h2⟩ := bLz h hy
  have hs1 : ([rL c].map kp).Sublist (c.map kp) := by rw [hy, List.map_cons, List.map_cons, <- hy, h1]; exact (List.nil_sublist _).cons₂ _
  have hs2 : ([{ rL c with kind := 1 }].map kp).Sublist (c.map kp) := hs1
  unfold sqC; split
  . exact ⟨List.Sublist.refl _, h, fun _ => hne⟩
  rename_i hr
  have hs : nP (rL c).n = true := by
    cases hq : nP (rL c).n with
    | true => rfl
    | false => exact absurd ((aTa _).1 hq) hr
  obtain ⟨g1, g2⟩ := h2 hs
  split
  . rename_i hb
    split
    . exact ⟨List.nil_sublist _, by simp, fun e => by rw [e] at hb; cases hb⟩
    split
    . rename_i hk
      exact ⟨hs2, fun e he => by rw [B6.1 he]; exact g2 hk, fun _ => by simp⟩
    exact ⟨hs1, fun e he => by rw [B6.1 he]; exact g1, fun _ => by simp⟩
  exact ⟨hs1, fun e he => by rw [B6.1 he]; exact g1, fun _ => by simp⟩
def bKj (b : Bool) : ∀ {cs : List (List Entry)}, (∀ c ∈ cs, c ≠ [] /\ ∀ e ∈ c, bJ e = true) -> (((lfL sqC cs b).1.flatten).map kp).Sublist (cs.flatten.map kp) /\ ((lfL sqC cs false).2 = false) /\ (cs ≠ [] -> (lfL sqC cs false).1.flatten ≠ [])
  | [], _ => ⟨by simp [lfL], rfl, fun h => absurd rfl h⟩
  | c :: r, h => by
    obtain ⟨k1, k2, _⟩ := bKj b (cs := r) fun x hx => h x (A4 _ hx)
    have hc := h c A3
    refine ⟨?_, ?_, fun _ e => ?_⟩
    . simp only [lfL, List.flatten_cons, D5]
      exact (bAo hc.2 hc.1 _).1.append k1
    . simp only [lfL, k2, Bool.false_and]
    simp only [lfL, List.flatten_cons, List.append_eq_nil_iff] at e
    rw [k2] at e
    exact (bAo hc.2 hc.1 false).2.2 rfl e.1
def aCo (ts : List Int) (ls : List Entry) : ∀ f s i, f + 1 + i = ls.length + 1 -> s <= i -> (mQ ts ls (f + 1) s i).flatten = ls.drop s
  | f, s, i, h, hs => by
    unfold mQ; split
    . rename_i hc
      simp only [B7, decide_eq_true_eq] at hc
      obtain ⟨g, rfl⟩ : ∃ g, f = g + 1 := ⟨f - 1, og⟩
      exact aCo ts ls g s (i + 1) og og
    have hsp : (ls.take i).drop s ++ ls.drop i = ls.drop s := by
      have h1 := List.take_append_drop i ls
      have h2 : (ls.take i ++ ls.drop i).drop s = (ls.take i).drop s ++ ls.drop i := List.drop_append_of_le_length (by rw [B0]; omega)
      rw [h1] at h2; exact h2.symm
    rw [List.flatten_cons]
    rcases Nat.eq_zero_or_pos f with h0 | h0
    . subst h0
      have hi : i = ls.length := by omega
      rw [mQ, List.flatten_nil, List.append_nil]; rw [hi, List.drop_length, List.append_nil] at hsp
      rw [hi]; exact hsp
    obtain ⟨g, rfl⟩ : ∃ g, f = g + 1 := ⟨f - 1, og⟩
    rw [aCo ts ls g i (i + 1) og og]; exact hsp
def aWt (ts : List Int) (ls : List Entry) : (mO ts ls).flatten = ls := by
  unfold mO
  rcases Nat.eq_zero_or_pos ls.length with h0 | h0
  . rw [h0, mQ]; exact (G8 h0).symm
  obtain ⟨g, hg⟩ : ∃ g, ls.length = g + 1 := ⟨ls.length - 1, og⟩
  have := aCo ts ls g 0 1 og og
  rw [hg]; simpa using this
def aSl {ts : List Int} (h : ∀ e ∈ ls, bJ e = true) (b : Bool) : ((sqK ts ls b).map kp).Sublist (ls.map kp) /\ (∀ e ∈ sqK ts ls b, bJ e = true) /\ (ls ≠ [] -> sqK ts ls false ≠ []) := by
  have hc : ∀ c ∈ mO ts ls, c ≠ [] /\ ∀ e ∈ c, bJ e = true := fun c hc => ⟨(jF hc).1, fun e he => h e ((jF hc).2.2 e he)⟩
  obtain ⟨h1, _, h3⟩ := bKj b hc
  rw [aWt] at h1
  refine ⟨h1, bMr fun c hm b => (bAo (hc c hm).2 (hc c hm).1 b).2.1, fun hne => h3 fun e => hne ?_⟩
  have := aWt ts ls
  rw [e] at this; exact this.symm
def aNt {g : List Entry -> List Entry} {ls : List Entry} (h : ∀ c, (∀ e ∈ c, e ∈ ls) -> ((g c).map kp).Sublist (c.map kp)) : ∀ f s, ((rF g ls f s).map kp).Sublist ((ls.drop s).map kp)
  | 0, s => by simp [rF]
  | f + 1, s => by
    unfold rF; split
    . rename_i hs
      have he := xM hs
      have hsp : (ls.take (dP ls s)).drop s ++ ls.drop (dP ls s) = ls.drop s := by
        have h1 := List.take_append_drop (dP ls s) ls
        have h2 : (ls.take (dP ls s) ++ ls.drop (dP ls s)).drop s = (ls.take (dP ls s)).drop s ++ ls.drop (dP ls s) := List.drop_append_of_le_length (by rw [B0]; omega)
        rw [h1] at h2; exact h2.symm
      rw [<- hsp, D5, D5]
      exact (h _ fun e he => D1 (D2 he)).append (aNt h f _)
    exact List.nil_sublist _
def aNj (h1 : ∀ e ∈ ls, bJ e = true) (h2 : ls.Pairwise fun a b => entLt a b = true) : bU ls = true := by
  unfold bU; rw [C8]; intro i hi
  have hlt := List.mem_range.1 hi
  unfold zX; rw [A1 hlt]
  have g1 := h1 ls[i] (C9 hlt)
  simp only [g1, Bool.not_true, Bool.false_or, Bool.not_eq_true', Bool.and_eq_false_imp, decide_eq_true_eq, Bool.not_eq_false']; intro h0
  have hp : bX ls i = ls[i - 1] := by unfold bX; rw [A1 og]; rfl
  rw [hp]
  exact G3.1 h2 (i - 1) i og hlt og
def ltK (p q : ByteArray × Int) : Bool := Op.bytesLess p.1.toList q.1.toList || (p.1.toList == q.1.toList && decide (q.2 < p.2))
def aNc {ts : List Int} {b : Bool} (h : bU ls = true) : bU (cI ls ts b) = true /\ (ls ≠ [] -> cI ls ts false ≠ []) := by
  have hok := fun e he => lY h (e := e) he
  have hsub : ((cI ls ts b).map kp).Sublist (ls.map kp) := by
    unfold cI; rw [if_pos h]
    have := aNt (g := fun c => sqK ts c b) (ls := ls) (fun c hc => (aSl (fun e he => hok e (hc e he)) b).1) ls.length 0
    simpa using this
  refine ⟨aNj ?_ ?_, fun hne e => ?_⟩
  . unfold cI; rw [if_pos h]
    exact aDd (fun s hs e he => (aSl (fun e he => hok e (D1 (D2 he))) b).2.1 e he) _ _
  . have h1 : (ls.map kp).Pairwise fun p q => ltK p q = true := List.pairwise_map.2 (qT h)
    exact List.pairwise_map.1 (h1.sublist hsub)
  unfold cI at e; rw [if_pos h] at e
  have hp := F7.2 hne
  obtain ⟨g, hg⟩ : ∃ g, ls.length = g + 1 := ⟨ls.length - 1, og⟩
  rw [hg, rF, if_pos hp, List.append_eq_nil_iff] at e
  have he := xM hp
  refine (aSl (ts := ts) (ls := (ls.take (dP ls 0)).drop 0) (fun e he => hok e (D1 (D2 he))) false).2.2 (fun e2 => ?_) e.1
  have := congrArg List.length e2
  rw [B1, B0, List.length_nil] at this; omega
end

def eR (s : Store) (k : Int) : Int := max s.disk.safe (min k (s.disk.log.size : Int))
def qZ (s : Store) (k : Int) : Store := ⟨false, lZ, { s.disk with log := s.disk.log.extract 0 (eR s k).toNat, safe := eR s k }⟩
def brJ (s : Store) : Store := if (flS s).2 = true then { s with disk := { s.disk with levels := (flS s).1.disk.levels, seq := (flS s).1.disk.seq } } else s
def dW (s : Store) (k : Int) : Store := if aJ s = false then zStore else if s.up = false then cD s else qZ (brJ (cD s)) k
def aKv (s : Store) : (brJ s).disk.safe = s.disk.safe /\ (brJ s).disk.log = s.disk.log := by
  unfold brJ; split <;> exact ⟨rfl, rfl⟩
def bQv {s : Store} (hs : gA s) : gA (flS s).1 := by
  unfold flS; split
  . exact hs
  split
  . exact hs
  exact ⟨aKw hs.1, (aKw hs.1).2.1⟩
def aKc (s : Store) : (cD s).disk = s.disk := by unfold cD; split <;> rfl
def bIj {s : Store} (h : gC s = true) : 0 <= s.disk.safe /\ s.disk.safe <= (s.disk.log.size : Int) := by
  have : sP s.disk = true := by
    unfold gC at h; split at h
    . cases h
    rename_i h1; simpa using h1
  unfold sP at this; split at this
  . cases this
  rename_i h1; omega
def aCy (a b : Int) : aK P 74 [Ni a, Ni b] [] 0 (Ni (min a b)) := by
 refine (pq 10 [.tmp 4] func74) ((aj) ?_)
 refine aA fun k2 => (aj) ((cdA) ?_ ?_) <;> intro hc1
 . have h9 : min a b = a := Int.min_eq_left (by simp at hc1; omega)
   exact (aj) (wR (fq h9))
 have h9 : min a b = b := Int.min_eq_right (by simp at hc1; omega)
 exact wk (k2 ((aj) (wR (fq h9))))
def tQ (s : Store) (k : Int) (h0 : 0 <= s.disk.safe) (h1 : s.disk.safe <= (s.disk.log.size : Int)) : aK P 32 [stA s, Ni k] [] 0 (stA (qZ s k)) := by
 refine (pq 30 [.cell 4 31] func32) ?_
 simp only [stA]
 refine (aj) ?_
 refine sd mixed rfl fun k2 => (ja) ?_
 refine tp rfl rfl rfl ⟨func74, rfl, rfl⟩ (aCy k (s.disk.log.size : Int)) oG oG ?_
 refine (ja) ?_
 refine tp rfl rfl rfl ⟨func73, rfl, rfl⟩ (vG s.disk.safe (min k (s.disk.log.size : Int))) oG oG ?_
 refine (ja) ((jy) (k2 ((aj) ((aj) ?_))))
 have hn : 0 <= eR s k /\ eR s k <= (s.disk.log.size : Int) := by unfold eR; omega
 have hcn : max s.disk.safe (min k (s.disk.log.size : Int)) = eR s k := rfl
 try rw [hcn]
 refine sr rfl fun k5 => (ja) ?_
 refine ⟨⟨og, og, og⟩, ?_⟩
 refine k5 ((aj) ((aj) ?_))
 refine dI 0 (ds := [Nb false, Ni 0, .sl 5 [], .sl 1 [], .sl 1 [], Ns (s.disk.log.extract 0 (eR s k).toNat), Ni (eR s k), .sl 1 (s.disk.levels.map rsA), Ni s.disk.seq]) rfl (by repeat (first | exact LeL.nil | refine LeL.cons (by first | exact Le.refl _ | exact Le.nil _) ?_)) (by simp only [go_sem, Int.toNat_zero]) ?_
 refine (ja) ?_
 refine dI 1 (ds := [Nb false, Ni 0, .sl 5 [], .sl 1 [], .sl 1 [], Ns (s.disk.log.extract 0 (eR s k).toNat), Ni (eR s k), .sl 1 (s.disk.levels.map rsA), Ni s.disk.seq]) rfl (by repeat (first | exact LeL.nil | refine LeL.cons (by first | exact Le.refl _ | exact Le.nil _) ?_)) (by simp only [go_sem, Int.toNat_zero]) ?_
 refine (ja) (wR ?_)
 refine fO ?_ ⟨trivial, trivial, enB _ _, bC _ _, dN _ _, trivial, trivial, bC _ _, trivial, trivial⟩
 simp only [go_sem, qZ, lZ, List.map_nil, Int.toNat_zero]
def aEj (s : Store) (k : Int) (hs : gA s) (hlg : s.disk.log.size <= 1048576) : aK P 147 [stA s, Ni k] [] 0 (stA (dW s k)) := by
 refine (pq 39 [.cell 4 31] func147) ?_
 simp only [stA]
 refine (aj) ?_
 refine aA fun k2 => sr rfl fun k3 => (ja) ?_
 refine (vr rfl rfl rfl func11 (jX s hs hlg) Ad Ad) (k3 ((cdA) ?_ ?_)) <;> intro hc1
 . have hok : aJ s = false := by simpa using hc1
   have h9 : dW s k = zStore := by unfold dW; rw [if_pos hok]
   refine (aj) ?_
   refine dI 1 (ds := [Nb false, Ni 0, .sl 5 [], .sl 1 [], .sl 1 [], Ns ⟨#[]⟩, Ni 0, .sl 1 [], Ni 0]) rfl (by repeat (first | exact LeL.nil | refine LeL.cons (by first | exact Le.refl _ | exact Le.nil _) ?_)) oG ?_
   refine (ja) (wR ?_)
   refine fO ?_ ⟨trivial, trivial, enB _ _, bC _ _, dN _ _, trivial, trivial, bC _ _, trivial, trivial⟩
   simp only [go_sem, h9, stA, zStore, lZ, bJw, List.map_nil]
 have hok : aJ s = true := by simpa using hc1
 have hoi : gC s = true := by rw [aBp]; exact hok
 obtain ⟨g0, g1⟩ := bIj hoi
 have hf1 : 0 <= (brJ (cD s)).disk.safe := by rw [(aKv _).1, aKc]; exact g0
 have hf2 : (brJ (cD s)).disk.safe <= ((brJ (cD s)).disk.log.size : Int) := by rw [(aKv _).1, (aKv _).2, aKc]; exact g1
 have hcl : (cD s).up = true -> (cD s).tree.levels.length = 3 := fun hu => by
   have hu2 : s.up = true := by
     unfold cD at hu; split at hu
     . assumption
     exact hu
   have e : cD s = s := by unfold cD; rw [if_pos hu2]
   rw [e]
   exact bPm hoi hu2
 refine wk (k2 (sr rfl fun k5 => (ja) ?_))
 refine vs rfl rfl rfl func31 (iL s hs) Ad Ad ?_
 refine (Ao) (k5 (aA fun k6 => (aj) ((cdA) ?_ ?_))) <;> intro hc2
 . have hup : s.up = false := by simpa using hc2
   have h9 : dW s k = cD s := by unfold dW; rw [if_neg (by rw [hok]; simp), if_pos hup]
   refine (aj) (wR ?_)
   refine fO ?_ ⟨trivial, trivial, enB _ _, bC _ _, dN _ _, trivial, trivial, bC _ _, trivial, trivial⟩
   exact Aw h9
 have hup : ¬ s.up = false := by simpa using hc2
 have h9 : dW s k = qZ (brJ (cD s)) k := by unfold dW; rw [if_neg (by rw [hok]; simp), if_neg hup]
 refine wk (k6 (sr rfl fun k9 => (ja) ?_))
 refine vs rfl rfl rfl func31 (iL s hs) Ad Ad ?_
 refine (Ao) ?_
 refine vs rfl rfl rfl func145 (sE (cD s) (bDg hs) hcl) Ad Ad ?_
 refine (Ao) (k9 (aA fun k10 => (aj) ((cdB) ?_ ?_))) <;> intro hc3
 . have hf : (flS (cD s)).2 = false := by simpa using hc3
   have hbj : brJ (cD s) = cD s := by unfold brJ; rw [if_neg (by rw [hf]; simp)]
   refine wk (k10 (sr rfl fun k14 => (ja) ?_))
   refine vs rfl rfl rfl func32 (tQ (brJ (cD s)) k hf1 hf2) (Aw hbj) (Aw hbj) ?_
   refine (Ao) (k14 (wR ?_))
   refine fO ?_ ⟨trivial, trivial, enB _ _, bC _ _, dN _ _, trivial, trivial, bC _ _, trivial, trivial⟩
   exact Aw h9
 have hf : (flS (cD s)).2 = true := by simpa using hc3
 have hbj : brJ (cD s) = { cD s with disk := { (cD s).disk with levels := (flS (cD s)).1.disk.levels, seq := (flS (cD s)).1.disk.seq } } := by unfold brJ; rw [if_pos hf]
 refine sr rfl fun k12 => (ja) ((vq func72 ((cC (cP (flS (cD s)).1.disk.levels (bQv (bDg hs)).2) oG oG : aK P 72 [.sl 1 ((flS (cD s)).1.disk.levels.map rsA)] [] 0 (.sl 1 ((flS (cD s)).1.disk.levels.map rsA))))) (k12 (wg rfl ((ja) (k10 (sr rfl fun k13 => (ja) ?_))))))
 refine vs rfl rfl rfl func32 (tQ (brJ (cD s)) k hf1 hf2) (Aw hbj) (Aw hbj) ?_
 refine (Ao) (k13 (wR ?_))
 refine fO ?_ ⟨trivial, trivial, enB _ _, bC _ _, dN _ _, trivial, trivial, bC _ _, trivial, trivial⟩
 exact Aw h9

section
variable {rs : List Run} {ls : List Entry} {r : Run}
def rngStep (st : ByteArray × ByteArray) (r : Run) : ByteArray × ByteArray := (bNw st.1 (aH r), aSh st.2 (aL r))
def wC (rs : List Run) : Run := (rs[0]?).getD wW
def lL (rs : List Run) : ByteArray × ByteArray := (rs.drop 1).foldl rngStep (aH (wC rs), aL (wC rs))
def frm (rs : List Run) (low : ByteArray) : Nat := (rs.takeWhile fun r => Op.bytesLess (aL r).toList low.toList).length
def bMn (rs : List Run) (high : ByteArray) : Nat := (rs.takeWhile fun r => !Op.bytesLess high.toList (aH r).toList).length
def sC (rs : List Run) (low high : ByteArray) : Nat := max (frm rs low) (bMn rs high)
def aDz (rs : List Run) (low high : ByteArray) : List Run := (rs.take (sC rs low high)).drop (frm rs low)
def aAr (ls : List Entry) (e : Nat) : Bool := decide ((e : Int) < ls.length) && (decide ((e : Int) < 20) || decide ((qH ls e).key = (bX ls e).key))
def dX (ls : List Entry) : Nat -> Nat -> Nat
  | 0, e => e
  | f + 1, e => if aAr ls e = true then dX ls f (e + 1) else e
def eN (ls : List Entry) : Nat := dX ls ls.length 1
def wL : Nat -> List Entry -> List (List Entry)
  | 0, _ => []
  | f + 1, ls => if ls = [] then [] else ls.take (eN ls) :: wL f (ls.drop (eN ls))
def aKs (ls : List Entry) : List (List Entry) := wL ls.length ls
def bRq (ls : List Entry) : List Run × Bool := if (aKs ls).all (fun p => (iT p).2) = true then ((aKs ls).map fun p => (iT p).1, true) else ([], false)
def aFm (taken beneath : List Run) : List Entry := Plain.mergeAll entLt ((taken ++ aDz beneath (lL taken).1 (lL taken).2).map Run.ents)
def bMq (taken beneath : List Run) (ts : List Int) (bot : Bool) : List Run × Bool :=
  let made := bRq (cI (aFm taken beneath) ts bot)
  let f := frm beneath (lL taken).1
  let t := sC beneath (lL taken).1 (lL taken).2
  if (!made.2 || decide (8 < ((beneath.length : Int) - ((t : Int) - (f : Int)) + (made.1.length : Int)))) = true then ([], false) else (beneath.take f ++ made.1 ++ beneath.drop t, true)
def bQq (c : List Run) (all : List Entry) : Bool := decide ((frm c (qH all 0).key : Int) = (sC c (qH all 0).key (qH all (all.length - 1)).key : Int))
def lW (b : List Run) (p : Nat) : List Run := (b.take (p + 1)).drop p
def uA (b : List Run) (p : Nat) : List Run := b.take p ++ b.drop (p + 1)
def bRv (t : Tree) (level pick : Int) : Tree × Bool := match t.levels with
  | [a, b, c] =>
    if level = 0 then
      if a = [] then (t, false) else
      if (bMq a b t.snaps (bQq c (aFm a b))).2 = false then (t, false) else (⟨t.seq, t.mem, [[], (bMq a b t.snaps (bQq c (aFm a b))).1, c], t.snaps⟩, true)
    else if level = 1 then
      if (decide (pick < 0) || decide ((b.length : Int) <= pick)) = true then (t, false) else
      if (bMq (lW b pick.toNat) c t.snaps true).2 = false then (t, false) else (⟨t.seq, t.mem, [a, uA b pick.toNat, (bMq (lW b pick.toNat) c t.snaps true).1], t.snaps⟩, true)
    else (t, false)
  | _ => (t, false)
def jY (st : ByteArray × ByteArray) (r : Run) : ByteArray × ByteArray := (if Op.bytesLess (aH r).toList st.1.toList = true then aH r else st.1, if (!(Op.bytesLess (aL r).toList st.2.toList || (aL r).toList == st.2.toList)) = true then aL r else st.2)
def nR (rs : List Run) : ByteArray × ByteArray := (rs.drop 1).foldl jY (aH (wC rs), aL (wC rs))
def iU (low high : ByteArray) (r : Run) : Bool := (Op.bytesLess (aH r).toList high.toList || (aH r).toList == high.toList) && (Op.bytesLess low.toList (aL r).toList || low.toList == (aL r).toList)
def tF (ls : List Entry) (s i : Nat) : Bool := decide ((i : Int) = ls.length) || (decide (20 <= (i : Int) - (s : Int)) && !decide ((qH ls i).key = (bX ls i).key))
def rD (ls : List Entry) : Nat -> Nat -> Nat -> List (List Entry)
  | 0, _, _ => []
  | f + 1, s, i => if tF ls s i = true then (ls.take i).drop s :: rD ls f i (i + 1) else rD ls f s (i + 1)
def wE (ls : List Entry) : List Run := (rD ls ls.length 0 1).map fun p => ⟨p, bS p⟩
def gH (ls : List Run) (r : Run) : Nat -> Nat
  | 0 => 0
  | k + 1 => if (!(Op.bytesLess (aH ((ls[k]?).getD wW)).toList (aH r).toList || (aH ((ls[k]?).getD wW)).toList == (aH r).toList)) = true then gH ls r k else k + 1
def pG (ls : List Run) (r : Run) : List Run := ls.take (gH ls r ls.length) ++ [r] ++ ls.drop (gH ls r ls.length)
def sL (a b : List Run) : List Run := b.foldl pG a
def nT (rs : List Run) : Bool := rs.all (fun r => !decide (150 < (r.ents.length : Int))) && decide ((rs.length : Int) <= 8)
def sQ (lists : List (List Entry)) : List Entry := lists.flatten.foldl bY []
def cK (taken beneath : List Run) : List Run := taken ++ beneath.filter (iU (nR taken).1 (nR taken).2)
def iV (c : List Run) (all : List Run) : Bool := decide (((c.filter (iU (nR all).1 (nR all).2)).length : Int) = 0)
def lV (taken beneath : List Run) (ts : List Int) (bot : Bool) : List Run := sL (beneath.filter fun r => !iU (nR taken).1 (nR taken).2 r) (wE (bO (sQ ((cK taken beneath).map Run.ents)) ts bot))
def qE (t : Tree) (level pick : Int) : Tree × Bool := match t.levels with
  | [a, b, c] =>
    if (decide (level = 0) && decide (0 < (a.length : Int))) = true then
      if nT (lV a b t.snaps (iV c (cK a b))) = false then (t, false) else (⟨t.seq, t.mem, [[], lV a b t.snaps (iV c (cK a b)), c], t.snaps⟩, true)
    else if ((decide (level = 1) && decide (0 <= pick)) && decide (pick < (b.length : Int))) = true then
      if nT (lV (lW b pick.toNat) c t.snaps true) = false then (t, false) else (⟨t.seq, t.mem, [a, uA b pick.toNat, lV (lW b pick.toNat) c t.snaps true], t.snaps⟩, true)
    else (t, false)
  | _ => (t, false)
def leB (x y : List UInt8) : (Op.bytesLess x y || x == y) = !Op.bytesLess y x := by
  cases h : Op.bytesLess y x with
  | true =>
    rw [xH h, Bool.false_or]
    show (x == y) = false
    refine beq_eq_false_iff_ne.2 fun e => ?_
    rw [e, bP] at h; cases h
  | false =>
    cases h2 : Op.bytesLess x y with
    | true => rfl
    | false => rw [aBr x y h2 h]; simp
def aVp : jY = rngStep := by
  funext st r
  unfold jY rngStep bNw aSh; rw [leB, leB]
  cases Op.bytesLess (aH r).toList st.1.toList <;> cases h : Op.bytesLess st.2.toList (aL r).toList <;> simp
def bKx (rs : List Run) : nR rs = lL rs := by unfold nR lL; rw [aVp]
def aTz {α : Type} {p : α -> Bool} : ∀ {ls : List α}, (ls.Pairwise fun a b => p b = true -> p a = true) -> ∀ i x, ls[i]? = some x -> (p x = true ↔ i < (ls.takeWhile p).length)
  | [], _, i, x, h => by cases h
  | y :: r, hp, i, x, h => by
    obtain ⟨h1, h2⟩ := List.pairwise_cons.1 hp
    cases hy : p y with
    | true =>
      rw [List.takeWhile_cons_of_pos hy, C4]
      cases i with
      | zero => cases h; exact ⟨fun _ => Nat.succ_pos _, fun _ => hy⟩
      | succ i => rw [aTz h2 i x h]; omega
    | false =>
      rw [List.takeWhile_cons_of_neg (by rw [hy]; simp)]
      refine ⟨fun hx => ?_, fun h => absurd h (H7 _)⟩
      cases i with
      | zero => cases h; rw [hy] at hx; cases hx
      | succ i => have := h1 x (E4 h) hx; rw [hy] at this; cases this
def wK {α : Type} {q : α -> Bool} : ∀ {ls : List α} {f t : Nat}, f <= t -> (∀ i x, ls[i]? = some x -> q x = decide (f <= i /\ i < t)) -> ls.filter q = (ls.take t).drop f /\ ls.filter (fun x => !q x) = ls.take f ++ ls.drop t
  | [], f, t, _, _ => by simp
  | y :: r, f, t, hft, h => by
    have h0 := h 0 y rfl
    match f, t, hft with
    | 0, 0, _ =>
      obtain ⟨g1, g2⟩ := wK (q := q) (ls := r) (f := 0) (t := 0) (A0 _) fun i x hx => (h (i + 1) x hx).trans (decide_eq_decide.2 og)
      have hq : q y = false := by rw [h0]; simp
      simp only [List.filter_cons, hq, g1, g2]
      simp
    | 0, t + 1, _ =>
      obtain ⟨g1, g2⟩ := wK (q := q) (ls := r) (f := 0) (t := t) (A5 _) fun i x hx => (h (i + 1) x hx).trans (decide_eq_decide.2 og)
      have hq : q y = true := by rw [h0]; simp
      simp only [List.filter_cons, hq, g1, g2]
      simp
    | f + 1, t + 1, hft =>
      obtain ⟨g1, g2⟩ := wK (q := q) (ls := r) (f := f) (t := t) og fun i x hx => (h (i + 1) x hx).trans (decide_eq_decide.2 og)
      have hq : q y = false := by rw [h0]; simp
      simp only [List.filter_cons, hq, g1, g2]
      simp
def Lvl (rs : List Run) : Prop := (∀ r ∈ rs, cE r = true) /\ rs.Pairwise fun a b => Op.bytesLess (aL a).toList (aH b).toList = true
def aYa (h : Lvl rs) (low : ByteArray) : ∀ i x, rs[i]? = some x -> (Op.bytesLess (aL x).toList low.toList = true ↔ i < frm rs low) := by
  refine aTz (List.Pairwise.imp_of_mem (fun {a b} ha hb hab hp => ?_) h.2)
  exact rW _ _ _ (lU hab (aEi (h.1 b hb))) hp
def aPt (h : Lvl rs) (high : ByteArray) : ∀ i x, rs[i]? = some x -> ((!Op.bytesLess high.toList (aH x).toList) = true ↔ i < bMn rs high) := by
  refine aTz (List.Pairwise.imp_of_mem (fun {a b} ha hb hab hp => ?_) h.2)
  simp only [Bool.not_eq_true'] at hp ⊢
  cases hq : Op.bytesLess high.toList (aH a).toList with
  | false => rfl
  | true =>
    have := rW _ _ _ (lU hq (aEi (h.1 a ha))) hab
    rw [hp] at this; cases this
def bFc (h : Lvl rs) (low high : ByteArray) : ∀ i x, rs[i]? = some x -> iU low high x = decide (frm rs low <= i /\ i < sC rs low high) := by
  intro i x hx
  have h1 := aYa h low i x hx
  have h2 := aPt h high i x hx
  unfold iU sC; rw [leB, leB, Bool.eq_iff_iff, B7, decide_eq_true_eq, h2]; simp only [Bool.not_eq_true', Bool.eq_false_iff, ne_eq, h1]; omega
def bNb (h : Lvl rs) (low high : ByteArray) : rs.filter (iU low high) = aDz rs low high /\ rs.filter (fun r => !iU low high r) = rs.take (frm rs low) ++ rs.drop (sC rs low high) :=
  wK (by unfold sC; omega) (bFc h low high)
def bKa {x y : Entry} (h1 : entLt x y = false) (h2 : entLt y x = false) : x.key = y.key := by
  have e : x.key.toList = y.key.toList := by
    simp only [entLt, Bool.or_eq_false_iff] at h1 h2
    exact aBr _ _ h1.1 h2.1
  have := aBv x.key y.key
  rw [e] at this
  simpa using this.symm
def aAm (L : List (List Entry)) : Prop := ∀ x ∈ L.flatten, ∀ y ∈ L.flatten, entLt x y = false -> entLt y x = false -> x = y
def aXd {L : List (List Entry)} (h1 : ∀ l ∈ L, bU l = true) (h2 : L.Pairwise fun a b => lM b a = true) : aAm L := by
  intro x hx y hy e1 e2
  obtain ⟨l1, hl1, hx⟩ := List.mem_flatten.1 hx
  obtain ⟨l2, hl2, hy⟩ := List.mem_flatten.1 hy
  obtain ⟨i, hi, gi⟩ := lF hl1
  obtain ⟨j, hj, gj⟩ := lF hl2
  rw [A1 hi] at gi; rw [A1 hj] at gj
  cases gi; cases gj
  have hk := bKa e1 e2
  have hs := aVm e1 e2
  have hp := G3.1 h2
  rcases Nat.lt_trichotomy i j with h | h | h
  . have := (dE _ _).1 (hp i j hi hj h) y hy x hx hk.symm; omega
  . subst h; exact aGl (qT (h1 _ hl1)) x hx y hy e1 e2
  have := (dE _ _).1 (hp j i hj hi h) x hx y hy hk; omega
def aGj {L M : List (List Entry)} (h : aAm L) (hs : ∀ l ∈ M, l ∈ L) : aAm M := fun x hx y hy => by
  have g : ∀ z ∈ M.flatten, z ∈ L.flatten := fun z hz => by
    obtain ⟨l, hl, hz⟩ := List.mem_flatten.1 hz
    exact List.mem_flatten.2 ⟨l, hs l hl, hz⟩
  exact h x (g x hx) y (g y hy)
def bKy {L : List (List Entry)} (h : aAm L) : Plain.mergeAll entLt L = sQ L := by
  have hf : L.flatMap id = L.flatten := by simp [List.flatMap]
  rw [Plain.mergeAll_put qG L (by rw [hf]; exact h) L.flatten (by rw [hf])]
  unfold sQ
  congr 1
  funext a b
  exact bKu a b
def bDs : ∀ (rs : List Run) (st : ByteArray × ByteArray), (∀ r ∈ rs, Op.bytesLess (aH r).toList (rs.foldl rngStep st).1.toList = false) /\ Op.bytesLess st.1.toList (rs.foldl rngStep st).1.toList = false /\ ((rs.foldl rngStep st).1 = st.1 ∨ ∃ r ∈ rs, (rs.foldl rngStep st).1 = aH r)
  | [], st => ⟨fun r hr => by (cases hr), bP _, .inl rfl⟩
  | r :: rs, st => by
    obtain ⟨h1, h2, h3⟩ := bDs rs (rngStep st r)
    have e : (rngStep st r).1 = if Op.bytesLess (aH r).toList st.1.toList = true then aH r else st.1 := by rw [<- aVp]; rfl
    have g : Op.bytesLess (aH r).toList (rngStep st r).1.toList = false /\ Op.bytesLess st.1.toList (rngStep st r).1.toList = false /\ ((rngStep st r).1 = st.1 ∨ (rngStep st r).1 = aH r) := by
      rw [e]; split
      . rename_i h; exact ⟨bP _, xH h, .inr rfl⟩
      rename_i h; exact ⟨by simpa using h, bP _, .inl rfl⟩
    refine ⟨fun x hx => ?_, wJ _ _ _ g.2.1 h2, ?_⟩
    . rcases A8.1 hx with rfl | hx
      . exact wJ _ _ _ g.1 h2
      exact h1 x hx
    rcases h3 with h3 | ⟨x, hx, h3⟩
    . rcases g.2.2 with h4 | h4
      . exact .inl (h3.trans h4)
      exact .inr ⟨r, A3, h3.trans h4⟩
    exact .inr ⟨x, A4 _ hx, h3⟩
def aXz : ∀ (rs : List Run) (st : ByteArray × ByteArray), (∀ r ∈ rs, Op.bytesLess (rs.foldl rngStep st).2.toList (aL r).toList = false) /\ Op.bytesLess (rs.foldl rngStep st).2.toList st.2.toList = false /\ ((rs.foldl rngStep st).2 = st.2 ∨ ∃ r ∈ rs, (rs.foldl rngStep st).2 = aL r)
  | [], st => ⟨fun r hr => by (cases hr), bP _, .inl rfl⟩
  | r :: rs, st => by
    obtain ⟨h1, h2, h3⟩ := aXz rs (rngStep st r)
    have g : Op.bytesLess (rngStep st r).2.toList (aL r).toList = false /\ Op.bytesLess (rngStep st r).2.toList st.2.toList = false /\ ((rngStep st r).2 = st.2 ∨ (rngStep st r).2 = aL r) := by
      show Op.bytesLess (aSh st.2 (aL r)).toList _ = _ /\ Op.bytesLess (aSh st.2 (aL r)).toList _ = _ /\ (aSh st.2 (aL r) = _ ∨ aSh st.2 (aL r) = _)
      unfold aSh; split
      . rename_i h; exact ⟨by simpa using h, bP _, .inl rfl⟩
      rename_i h; exact ⟨bP _, xH (by simpa using h), .inr rfl⟩
    refine ⟨fun x hx => ?_, wJ _ _ _ h2 g.2.1, ?_⟩
    . rcases A8.1 hx with rfl | hx
      . exact wJ _ _ _ h2 g.1
      exact h1 x hx
    rcases h3 with h3 | ⟨x, hx, h3⟩
    . rcases g.2.2 with h4 | h4
      . exact .inl (h3.trans h4)
      exact .inr ⟨r, A3, h3.trans h4⟩
    exact .inr ⟨x, A4 _ hx, h3⟩
def bIh (hne : rs ≠ []) : (∀ r ∈ rs, Op.bytesLess (aH r).toList (lL rs).1.toList = false /\ Op.bytesLess (lL rs).2.toList (aL r).toList = false) /\ (∃ r ∈ rs, (lL rs).1 = aH r) /\ (∃ r ∈ rs, (lL rs).2 = aL r) := by
  obtain ⟨x, r, rfl⟩ := G4 hne
  obtain ⟨h1, h2, h3⟩ := bDs r (aH x, aL x)
  obtain ⟨k1, k2, k3⟩ := aXz r (aH x, aL x)
  show (∀ y ∈ x :: r, Op.bytesLess (aH y).toList (r.foldl rngStep (aH x, aL x)).1.toList = false /\ Op.bytesLess (r.foldl rngStep (aH x, aL x)).2.toList (aL y).toList = false) /\ (∃ y ∈ x :: r, (r.foldl rngStep (aH x, aL x)).1 = aH y) /\ ∃ y ∈ x :: r, (r.foldl rngStep (aH x, aL x)).2 = aL y
  refine ⟨fun y hy => ?_, ?_, ?_⟩
  . rcases A8.1 hy with rfl | hy
    . exact ⟨h2, k2⟩
    exact ⟨h1 y hy, k1 y hy⟩
  . rcases h3 with h3 | ⟨y, hy, h3⟩
    . exact ⟨x, A3, h3⟩
    exact ⟨y, A4 _ hy, h3⟩
  rcases k3 with k3 | ⟨y, hy, k3⟩
  . exact ⟨x, A3, k3⟩
  exact ⟨y, A4 _ hy, k3⟩
def aHt (ls : List Entry) : ∀ f e, e <= ls.length -> e <= dX ls f e /\ dX ls f e <= ls.length
  | 0, e, h => ⟨A0 _, h⟩
  | f + 1, e, h => by
    unfold dX; split
    . rename_i hc
      have hlt : e < ls.length := by simp only [aAr, B7, decide_eq_true_eq] at hc; omega
      have := aHt ls f (e + 1) hlt
      omega
    exact ⟨A0 _, h⟩
def aGc (h : ls ≠ []) : 1 <= eN ls /\ eN ls <= ls.length := aHt ls _ 1 (F7.2 h)
def aXv {s i : Nat} (h : s < i) (hi : i <= ls.length) : aAr (ls.drop s) (i - s) = !tF ls s i := by
  have e1 : qH (ls.drop s) (i - s) = qH ls i := by unfold qH; rw [H4, show s + (i - s) = i by omega]
  have e2 : bX (ls.drop s) (i - s) = bX ls i := by unfold bX; rw [H4, show s + (i - s - 1) = i - 1 by omega]
  unfold aAr tF; rw [e1, e2, B1]
  by_cases g1 : i = ls.length
  . rw [decide_eq_false (show ¬ (((i - s : Nat) : Int) < ((ls.length - s : Nat) : Int)) by omega), decide_eq_true (show (i : Int) = ls.length by omega)]; rfl
  rw [decide_eq_true (show (((i - s : Nat) : Int) < ((ls.length - s : Nat) : Int)) by omega), decide_eq_false (show ¬ (i : Int) = ls.length by omega)]
  by_cases g2 : 20 <= i - s
  . rw [decide_eq_false (show ¬ ((i - s : Nat) : Int) < 20 by omega), decide_eq_true (show (20 : Int) <= (i : Int) - (s : Int) by omega)]
    by_cases g3 : (qH ls i).key = (bX ls i).key <;> simp [g3]
  rw [decide_eq_true (show ((i - s : Nat) : Int) < 20 by omega), decide_eq_false (show ¬ (20 : Int) <= (i : Int) - (s : Int) by omega)]; rfl
def bBy {ls : List Entry} {s : Nat} : ∀ (d i : Nat), s < i -> i + d = ls.length -> ∀ g, d <= g -> rD ls (d + 1) s i = (ls.take (s + dX (ls.drop s) g (i - s))).drop s :: rD ls (ls.length - (s + dX (ls.drop s) g (i - s))) (s + dX (ls.drop s) g (i - s)) (s + dX (ls.drop s) g (i - s) + 1)
  | 0, i, h, hi, g, _ => by
    have hi : i = ls.length := by omega
    have hc := aXv h (Nat.le_of_eq hi)
    have ha : tF ls s i = true := by unfold tF; rw [decide_eq_true (show (i : Int) = ls.length by omega), Bool.true_or]
    have he : dX (ls.drop s) g (i - s) = i - s := by
      cases g with
      | zero => rfl
      | succ g => unfold dX; rw [hc, ha, if_neg oS]
    rw [he, show s + (i - s) = i by omega]; unfold rD; rw [if_pos ha, show ls.length - i = 0 by omega]
    simp [rD]
  | d + 1, i, h, hi, g, hg => by
    obtain ⟨g, rfl⟩ : ∃ k, g = k + 1 := ⟨g - 1, og⟩
    have hc := aXv h (show i <= ls.length by omega)
    have h1 : rD ls (d + 1 + 1) s i = if tF ls s i = true then (ls.take i).drop s :: rD ls (d + 1) i (i + 1) else rD ls (d + 1) s (i + 1) := rfl
    have h2 : dX (ls.drop s) (g + 1) (i - s) = if aAr (ls.drop s) (i - s) = true then dX (ls.drop s) g (i - s + 1) else i - s := rfl
    rw [h1, h2, hc]
    cases ha : tF ls s i with
    | true =>
      simp only [Bool.not_true, C5, if_false, if_true]; rw [show s + (i - s) = i by omega, show ls.length - i = d + 1 by omega]
    | false =>
      simp only [Bool.not_false, C5, if_false, if_true]
      have := bBy (ls := ls) (s := s) d (i + 1) og og g og
      rw [show i + 1 - s = i - s + 1 by omega] at this; exact this
def bCx (ls : List Entry) : ∀ f s, s <= ls.length -> ls.length - s <= f -> wL f (ls.drop s) = rD ls (ls.length - s) s (s + 1)
  | 0, s, h, hf => by rw [show ls.length - s = 0 by omega]; rfl
  | f + 1, s, h, hf => by
    unfold wL
    rcases Nat.eq_or_lt_of_le h with h0 | h0
    . rw [h0, List.drop_length, if_pos rfl, Nat.sub_self]; rfl
    have hne : ls.drop s ≠ [] := by intro e; have := congrArg List.length e; rw [B1, List.length_nil] at this; omega
    have hb := aGc hne
    rw [B1] at hb; rw [if_neg hne, List.drop_drop, bCx ls f (s + eN (ls.drop s)) og og]
    obtain ⟨d, hd⟩ : ∃ d, ls.length - s = d + 1 := ⟨ls.length - s - 1, og⟩
    have := bBy (ls := ls) (s := s) d (s + 1) og og (ls.drop s).length (by rw [B1]; omega)
    rw [show s + 1 - s = 1 by omega] at this; rw [hd, this]
    have hc : dX (ls.drop s) (ls.drop s).length 1 = eN (ls.drop s) := rfl
    rw [hc]
    congr 1
    rw [List.take_drop]
def aEk (ls : List Entry) : wE ls = (aKs ls).map fun p => ⟨p, bS p⟩ := by
  have := bCx ls ls.length 0 (A5 _) og
  rw [List.drop_zero, Nat.sub_zero] at this; unfold wE aKs; rw [this]
def zN : ∀ f (ls : List Entry), ls.length <= f -> (wL f ls).flatten = ls /\ ∀ p ∈ wL f ls, p ≠ []
  | 0, ls, h => by rw [List.length_eq_zero_iff.1 (Nat.le_zero.1 h)]; exact ⟨rfl, fun p hp => by (cases hp)⟩
  | f + 1, ls, h => by
    unfold wL; split
    . rename_i e; rw [e]; exact ⟨rfl, fun p hp => by (cases hp)⟩
    rename_i hne
    have hb := aGc hne
    obtain ⟨h1, h2⟩ := zN f (ls.drop (eN ls)) (by rw [B1]; omega)
    refine ⟨by rw [List.flatten_cons, h1, List.take_append_drop], fun p hp => ?_⟩
    rcases A8.1 hp with rfl | hp
    . intro e; have := congrArg List.length e; rw [B0, List.length_nil] at this; omega
    exact h2 p hp
def bBx {X Y : List Run} {r : Run} (hX : ∀ x ∈ X, Op.bytesLess (aH r).toList (aH x).toList = false) (hY : ∀ y ∈ Y, Op.bytesLess (aH r).toList (aH y).toList = true) : ∀ d, d <= Y.length -> gH (X ++ Y) r (X.length + d) = X.length
  | 0, _ => by
    rcases Nat.eq_zero_or_pos X.length with h0 | h0
    . rw [h0]; rfl
    obtain ⟨k, hk⟩ : ∃ k, X.length = k + 1 := ⟨X.length - 1, og⟩
    rw [Nat.add_zero, hk]; unfold gH; rw [leB, G6 og, A1 og, Option.getD_some, hX _ (C9 _)]
    simp
  | d + 1, h => by
    rw [show X.length + (d + 1) = X.length + d + 1 by omega]; unfold gH; rw [leB, G7 og, show X.length + d - X.length = d by omega, A1 og, Option.getD_some, hY _ (C9 _)]; simp only [Bool.not_true, Bool.not_false, if_true]
    exact bBx hX hY d og
def bNf {X Y : List Run} (hX : ∀ x ∈ X, Op.bytesLess (aH r).toList (aH x).toList = false) (hY : ∀ y ∈ Y, Op.bytesLess (aH r).toList (aH y).toList = true) : pG (X ++ Y) r = X ++ [r] ++ Y := by
  have := bBx hX hY Y.length (A0 _)
  unfold pG; rw [A2, this, List.take_left, List.drop_left]
def aVu : ∀ (M A B : List Run), (∀ m ∈ M, (∀ x ∈ A, Op.bytesLess (aH m).toList (aH x).toList = false) /\ ∀ y ∈ B, Op.bytesLess (aH m).toList (aH y).toList = true) -> (M.Pairwise fun a b => Op.bytesLess (aH b).toList (aH a).toList = false) -> sL (A ++ B) M = A ++ M ++ B
  | [], A, B, _, _ => by simp [sL]
  | m :: M, A, B, h, hp => by
    obtain ⟨p1, p2⟩ := List.pairwise_cons.1 hp
    have hm := h m A3
    have := aVu M (A ++ [m]) B (fun x hx => ⟨fun y hy => ?_, (h x (A4 _ hx)).2⟩) p2
    . unfold sL at this ⊢
      rw [List.foldl_cons, bNf hm.1 hm.2, this]
      simp
    rcases A7.1 hy with hy | hy
    . exact (h x (A4 _ hx)).1 y hy
    rw [B6.1 hy]; exact p1 x hx
def aRx (ls : List Entry) (ts : List Int) (b : Bool) : bU (cI ls ts b) = true /\ ∀ e ∈ cI ls ts b, ∃ f ∈ ls, kp e = kp f := by
  cases ho : bU ls with
  | false => unfold cI; rw [ho]; exact ⟨rfl, fun e he => by (cases he)⟩
  | true =>
    refine ⟨(aNc ho).1, fun e he => ?_⟩
    have hok := fun e he => lY ho (e := e) he
    have hsub : ((cI ls ts b).map kp).Sublist (ls.map kp) := by
      unfold cI; rw [if_pos ho]
      have := aNt (g := fun c => sqK ts c b) (ls := ls) (fun c hc => (aSl (fun e he => hok e (hc e he)) b).1) ls.length 0
      simpa using this
    obtain ⟨f, hf, e2⟩ := A9.1 (hsub.subset (D3 he))
    exact ⟨f, hf, e2.symm⟩
def aPl {ls p : List Entry} (h : bU ls = true) (hs : p.Sublist ls) : bU p = true :=
  aNj (fun e he => lY h (hs.subset he)) ((qT h).sublist hs)
def bCt (h : bU ls = true) : (∀ r ∈ wE ls, ∃ e ∈ ls, aH r = e.key) /\ (wE ls).Pairwise fun a b => Op.bytesLess (aH b).toList (aH a).toList = false := by
  obtain ⟨h1, h2⟩ := zN ls.length ls (A0 _)
  have hk : ∀ p ∈ aKs ls, ∃ e ∈ p, aH (⟨p, bS p⟩ : Run) = e.key := fun p hp => by
    obtain ⟨y, r, rfl⟩ := G4 (h2 p hp)
    exact ⟨y, A3, rfl⟩
  have hp : (aKs ls).Pairwise fun p q => ∀ x ∈ p, ∀ y ∈ q, entLt x y = true := by
    have := qT h
    rw [<- h1] at this
    exact (List.pairwise_flatten.1 this).2
  rw [aEk]
  refine ⟨fun r hr => ?_, ?_⟩
  . obtain ⟨p, hp, rfl⟩ := A9.1 hr
    obtain ⟨e, he, ek⟩ := hk p hp
    exact ⟨e, by rw [<- h1]; exact List.mem_flatten.2 ⟨p, hp, he⟩, ek⟩
  rw [List.pairwise_map]
  refine List.Pairwise.imp_of_mem (fun {p q} hp hq g => ?_) hp
  obtain ⟨x, hx, ex⟩ := hk p hp
  obtain ⟨y, hy, ey⟩ := hk q hq
  rw [ex, ey]
  exact aJd (g x hx y hy)
def aGg {low high : ByteArray} (h : r ∈ aDz rs low high) : r ∈ rs := D1 (D2 h)
def bIb {taken beneath : List Run} {ts : List Int} {bot : Bool} (ht : taken ≠ []) (hr : ∀ r ∈ taken, cE r = true) (hb : Lvl beneath) (ha : aAm ((taken ++ beneath).map Run.ents)) :
    ∃ f t, f <= t /\ t <= beneath.length /\ frm beneath (lL taken).1 = f /\ sC beneath (lL taken).1 (lL taken).2 = t /\ lV taken beneath ts bot = beneath.take f ++ wE (cI (aFm taken beneath) ts bot) ++ beneath.drop t /\
      bU (cI (aFm taken beneath) ts bot) = true /\ (∀ e ∈ cI (aFm taken beneath) ts bot, ∃ g ∈ aG taken ++ aG beneath, kp e = kp g) /\
      ∀ e ∈ cI (aFm taken beneath) ts bot, (∀ x ∈ beneath.take f, Op.bytesLess (aL x).toList e.key.toList = true) /\ ∀ y ∈ beneath.drop t, Op.bytesLess e.key.toList (aH y).toList = true := by
  obtain ⟨q1, q2⟩ := bNb hb (lL taken).1 (lL taken).2
  have hall : cK taken beneath = taken ++ aDz beneath (lL taken).1 (lL taken).2 := by unfold cK; rw [bKx, q1]
  have hAr : ∀ r ∈ taken ++ aDz beneath (lL taken).1 (lL taken).2, cE r = true := fun r h => by
    rcases A7.1 h with h | h
    . exact hr r h
    exact hb.1 r (aGg h)
  have hm : aFm taken beneath = sQ ((cK taken beneath).map Run.ents) := by
    rw [hall]
    refine bKy (aGj ha fun l hl => ?_)
    obtain ⟨r, h, rfl⟩ := A9.1 hl
    refine D3 ?_
    rcases A7.1 h with h | h
    . exact List.mem_append_left _ h
    exact List.mem_append_right _ (aGg h)
  have hperm : (aFm taken beneath).Perm ((taken ++ aDz beneath (lL taken).1 (lL taken).2).map Run.ents).flatten := by
    have := (Plain.mergeAll_ok qG ((taken ++ aDz beneath (lL taken).1 (lL taken).2).map Run.ents)).1
    have hf : ∀ L : List (List Entry), L.flatMap id = L.flatten := fun L => by simp [List.flatMap]
    rw [hf] at this; exact this
  obtain ⟨s1, s2⟩ := aRx (aFm taken beneath) ts bot
  obtain ⟨l1, l2⟩ := bCt s1
  have hsq : bO (sQ ((cK taken beneath).map Run.ents)) ts bot = cI (aFm taken beneath) ts bot := by rw [<- hm]; exact aQf _ _ _
  generalize hL : cI (aFm taken beneath) ts bot = L at s1 s2 l1 l2 hsq
  generalize hf : frm beneath (lL taken).1 = f at q2
  generalize hto : sC beneath (lL taken).1 (lL taken).2 = t at q2
  have hft : f <= t /\ t <= beneath.length := by
    rw [<- hf, <- hto]; unfold sC
    have h1 : frm beneath (lL taken).1 <= beneath.length := List.Sublist.length_le (List.takeWhile_sublist _)
    have h2 : bMn beneath (lL taken).2 <= beneath.length := List.Sublist.length_le (List.takeWhile_sublist _)
    omega
  have hsep : ∀ e ∈ L, (∀ x ∈ beneath.take f, Op.bytesLess (aL x).toList e.key.toList = true) /\ ∀ y ∈ beneath.drop t, Op.bytesLess e.key.toList (aH y).toList = true := fun e he => by
    obtain ⟨g, hg, ek2⟩ := s2 e he
    have ek2 : e.key = g.key := congrArg Prod.fst ek2
    rw [ek2]
    obtain ⟨l, hl, hgl⟩ := List.mem_flatten.1 (hperm.mem_iff.1 hg)
    obtain ⟨r, hrm, rfl⟩ := A9.1 hl
    have hrk := uM (hAr r hrm) hgl
    have hfc := aYa hb (lL taken).1
    have huc := aPt hb (lL taken).2
    have hpw := G3.1 hb.2
    refine ⟨fun x hx => ?_, fun y hy => ?_⟩
    . obtain ⟨i, hi, gi⟩ := List.mem_iff_getElem.1 hx
      have hi2 : i < f := by rw [B0] at hi; omega
      rw [List.getElem_take] at gi
      rcases A7.1 hrm with h | h
      . have h1 := (hfc i x (by rw [A1 og, gi])).2 og
        exact lU (lU h1 ((bIh ht).1 r h).1) hrk.1
      rw [aDz, hf, hto] at h
      obtain ⟨j, hj, gj⟩ := List.mem_iff_getElem.1 h
      rw [B1, B0] at hj; rw [List.getElem_drop, List.getElem_take] at gj
      have h1 := hpw i (f + j) og og og
      rw [gi, gj] at h1
      exact lU h1 hrk.1
    obtain ⟨i, hi, gi⟩ := List.mem_iff_getElem.1 hy
    rw [B1] at hi; rw [List.getElem_drop] at gi
    rcases A7.1 hrm with h | h
    . have h1 : ¬ (!Op.bytesLess (lL taken).2.toList (aH y).toList) = true := fun hc => by
        have := (huc (t + i) y (by rw [A1 og, gi])).1 hc
        have h3 : bMn beneath (lL taken).2 <= t := by rw [<- hto]; unfold sC; omega
        omega
      have h1 : Op.bytesLess (lL taken).2.toList (aH y).toList = true := by simpa using h1
      exact rT (wJ _ _ _ ((bIh ht).1 r h).2 hrk.2) h1
    . rw [aDz, hf, hto] at h
      obtain ⟨j, hj, gj⟩ := List.mem_iff_getElem.1 h
      rw [B1, B0] at hj; rw [List.getElem_drop, List.getElem_take] at gj
      have h1 := hpw (f + j) (t + i) og og og
      rw [gi, gj] at h1
      exact rT hrk.2 h1
  have hord : lV taken beneath ts bot = beneath.take f ++ wE L ++ beneath.drop t := by
    unfold lV; rw [bKx, q2, hsq]
    refine aVu _ _ _ (fun m hm => ?_) l2
    obtain ⟨e, he, ek⟩ := l1 m hm
    rw [ek]
    exact ⟨fun x hx => xH (rT (aEi (hb.1 x (D1 hx))) ((hsep e he).1 x hx)), (hsep e he).2⟩
  refine ⟨f, t, hft.1, hft.2, rfl, rfl, hord, s1, fun e he => ?_, hsep⟩
  obtain ⟨g, hg, ek⟩ := s2 e he
  refine ⟨g, ?_, ek⟩
  obtain ⟨l, hl, hgl⟩ := List.mem_flatten.1 (hperm.mem_iff.1 hg)
  obtain ⟨r, hrm, rfl⟩ := A9.1 hl
  rcases A7.1 hrm with h | h
  . exact List.mem_append_left _ (List.mem_flatMap.2 ⟨r, h, hgl⟩)
  exact List.mem_append_right _ (List.mem_flatMap.2 ⟨r, aGg h, hgl⟩)
end
section
variable {i : Nat} {rs : List Run} {l : Run}
def bPv {α : Type} {ls : List α} {k : Nat} {x : α} (h : ls[k]? = some x) (h1 : 1 <= k) : (ls.take (k + 1)).drop 1 = (ls.take k).drop 1 ++ [x] := by
  have := bOs (fun y => y) h h1
  simpa using this
def bBq {ls : List (List Entry)} {l : List Entry} (h : ls.drop i = l :: ls.drop (i + 1)) (m : List Entry) : (ls.drop i).flatten.foldl bY m = (ls.drop (i + 1)).flatten.foldl bY (l.foldl bY m) := by
  rw [h, List.flatten_cons, List.foldl_append]
def aPp (q : Run -> Bool) (h : rs[i]? = some l) : (rs.take (i + 1)).filter q = (rs.take i).filter q ++ (if q l = true then [l] else []) := by
  rw [F5, h, List.filter_append]; simp only [Option.toList_some, List.filter_cons, List.filter_nil]
def aSi (ls : List Run) (r : Run) : ∀ k, gH ls r k <= k
  | 0 => A0 _
  | k + 1 => by
    unfold gH; split
    . exact Nat.le_succ_of_le (aSi ls r k)
    exact A0 _
def aMq (ls : List Run) (r : Run) : (pG ls r).length = ls.length + 1 := by
  have := aSi ls r ls.length
  unfold pG; simp only [A2, B0, B1, List.length_singleton]; omega
def bMh (h : rs[i]? = some l) (h1 : (150 : Int) < (l.ents.length : Int)) : nT rs = false := by
  unfold nT
  have : rs.all (fun r => !decide (150 < (r.ents.length : Int))) = false := by
    rw [List.all_eq_false]
    exact ⟨l, E4 h, by simpa using h1⟩
  rw [this]; rfl
def bJh {q : Run -> Bool} (h : rs[i]? = some l) (h0 : (rs.take i).all q = true) (h1 : q l = true) : (rs.take (i + 1)).all q = true := by
  rw [F5, h, List.all_append, h0]
  simp [h1]
def bJa {ls : List Entry} {f s i : Nat} : rD ls (f + 1) s i = if tF ls s i = true then (ls.take i).drop s :: rD ls f i (i + 1) else rD ls f s (i + 1) := rfl
def slR : cL P 102 = some (105, some (2, 32)) := kr
def zcR : zC P 105 = some [.slice none 0 0, .int .i64 0] := kr
def bFp (ls : List Run) : ∀ x ∈ ls.map rA, aPw x := fun x hx => by
  obtain ⟨r, _, rfl⟩ := A9.1 hx
  refine bGz fun y hy => ?_
  simp only [A8, List.not_mem_nil, or_false] at hy
  rcases hy with rfl | rfl
  . exact bJb _ _
  exact bEi _
def aGp {ls : List Run} {r : Run} {p : Run -> Prop} (h : ∀ x ∈ ls, p x) (hr : p r) : ∀ x ∈ pG ls r, p x := fun x hx => by
  unfold pG at hx
  simp only [A7, B6] at hx
  rcases hx with (hx | rfl) | hx
  . exact h x (D1 hx)
  . exact hr
  exact h x (D2 hx)
def aIb (ls : List (List Entry)) (hb : ls.length <= 1048576) (hs : ∀ b ∈ ls, b.length <= 1048576) : aK P 207 [.sl 1 (ls.map esA)] [] 0 (.sl 5 ((sQ ls).map enA)) := by
 refine (pq 32 [.tmp 2] func207) ?_
 have hmx := mxl
 refine (aj) ?_
 refine sr rfl fun k2 => (ja) ((jr) (k2 (aA fun k3 => ?_)))
 refine aFz 0 rfl ?_
 refine (Ac) ((aj) (wb ?_))
 refine wl (α := Nat × List Entry) (fun x => x.1 <= ls.length /\ x.2.length <= 1048576 * x.1 /\ (ls.drop x.1).flatten.foldl bY x.2 = sQ ls) (fun x => ls.length - x.1) (fun x => ([(0, .sl 1 (ls.map esA)), (3, .sl 5 (x.2.map enA)), (4, Ni (x.1 : Int))], [])) 0 (0, []) ⟨A5 _, by simp, rfl⟩ [] ?_ ?_
 . simp only [go_sem, List.map_nil, Int.natCast_zero] <;> simp
 rintro ⟨i, st⟩ ⟨hi, hol, hfold⟩
 simp only at hi hol hfold ⊢
 refine aA fun k5 => (aj) ((cdB) ?_ ?_) <;> intro hc1
 . have hge := gec hc1
   refine we ((jt) (k3 ((aj) (wR ?_))))
   rw [E6 hge] at hfold
   have h9 : sQ ls = st := hfold.symm
   refine fO ?_ (enB _ _)
   exact Ab h9
 obtain ⟨hlt, l, hl, hdrop, hml⟩ := ixc hc1
 have hll := hs l hml
 refine wk (k5 (aA fun k7 => wb ((aj) (wb ?_))))
 refine wl (α := Nat × List Entry) (fun x => x.1 <= l.length /\ x.2.length <= 1048576 * i + x.1 /\ (l.drop x.1).foldl bY x.2 = l.foldl bY st) (fun x => l.length - x.1) (fun x => ([(0, .sl 1 (ls.map esA)), (3, .sl 5 (x.2.map enA)), (4, Ni (i : Int)), (5, Ni (x.1 : Int))], [])) 0 (0, st) ⟨A5 _, by simpa using hol, rfl⟩ [] ?_ ?_
 . exact jc
 rintro ⟨k, out⟩ ⟨hk, hol2, hfold2⟩
 simp only at hk hol2 hfold2 ⊢
 refine aA fun k9 => sr rfl fun k10 => (Bh hl) ((jr) (k10 ((cdB) ?_ ?_))) <;> intro hc2
 . have hgek : l.length <= k := by have h9 : ¬ k < l.length := (by simpa using hc2); omega
   rw [E6 hgek] at hfold2
   simp only [List.foldl_nil] at hfold2
   refine we ((jt) ((jt) (k7 ((jw (wiS i og)) ((jt) ?_)))))
   refine ⟨(i + 1, out), ⟨og, by simp only; omega, by rw [bBq hdrop, <- hfold2] at hfold; exact hfold⟩, og, [], ?_⟩
   exact jo
 have hltk : k < l.length := by simpa using hc2
 obtain ⟨e, he, hdrop2, hme⟩ := ix hltk
 refine wk (k9 (aA fun k11 => wb (wg rfl ((Cd hl he) ((jr) ?_)))))
 refine (vr rfl rfl rfl func125 (vM out e og) Ae Ae) ((jr) ((jt) (k11 ?_)))
 have hwk := wiS k og
 refine wg rfl ((Aa hwk) ((jt) ?_))
 refine ⟨(k + 1, bY out e), ⟨og, by have := nZ out e; simp only; omega, by rw [hdrop2] at hfold2; exact hfold2⟩, og, [], ?_⟩
 exact jo
def yC (rs : List Run) (hne : rs ≠ []) (hr : ∀ r ∈ rs, 1 <= r.ents.length /\ r.ents.length <= 1048576) (hl : rs.length <= 1000000) : aK P 205 [.sl 2 (rs.map rA)] [] 0 (.tup [.raw (.string (nR rs).1), .raw (.string (nR rs).2)]) := by
 refine (pq 47 [.tmp 2, .tmp 3] func205) ?_
 have hlen := F7.2 hne
 have h0 : rs[0]? = some (wC rs) := by unfold wC; rw [A1 hlen]; rfl
 have hq := hr (wC rs) (E4 h0)
 refine (aj) ?_
 refine sr rfl fun k2 => ?_
 simp only [go_sem, h0, rA, Int.toNat_zero]
 refine (jr) ?_
 refine (vr rfl rfl rfl func120 (eM (wC rs) hq.1) Ag Ag) ((jr) (k2 (sr rfl fun k3 => ?_)))
 simp only [go_sem, h0, rA, Int.toNat_zero]
 refine (jr) ?_
 refine (vr rfl rfl rfl func119 (lT (wC rs) hq.1 og) Ag Ag) ((jr) (k3 (aA fun k4 => (aj) (wb ?_))))
 refine wl (α := Nat) (fun x => 1 <= x /\ x <= rs.length) (fun x => rs.length - x) (fun x => ([(0, .sl 2 (rs.map rA)), (4, .raw (.string (((rs.take x).drop 1).foldl jY (aH (wC rs), aL (wC rs))).1)), (5, .raw (.string (((rs.take x).drop 1).foldl jY (aH (wC rs), aL (wC rs))).2)), (6, Ni (x : Int))], [])) 0 1 ⟨A0 _, hlen⟩ [] ?_ ?_
 . have e1 : (rs.take 1).drop 1 = [] := by cases rs <;> rfl
   simp only [go_sem, e1, List.foldl_nil] <;> simp
 rintro i ⟨hi1, hi⟩
 refine aA fun k6 => (aj) ((cdB) ?_ ?_) <;> intro hc1
 . have hge := gec hc1
   have hie : i = rs.length := by omega
   subst hie; rw [F4]
   refine we ((jt) (k4 ((aj) (wR ?_))))
   refine fO ?_ ⟨trivial, trivial, trivial⟩
   simp only [go_sem, nR]
 obtain ⟨hlt, l, hlx, hdrop, hml⟩ := ixc hc1
 have hst : ((rs.take (i + 1)).drop 1).foldl jY (aH (wC rs), aL (wC rs)) = jY (((rs.take i).drop 1).foldl jY (aH (wC rs), aL (wC rs))) l := by rw [bPv hlx hi1, List.foldl_append]; rfl
 obtain ⟨lo, hgh, hfo⟩ : ∃ lo hgh, ((rs.take i).drop 1).foldl jY (aH (wC rs), aL (wC rs)) = (lo, hgh) := ⟨_, _, rfl⟩
 have hst2 := hst
 rw [hfo] at hst2; rw [hfo]
 refine wk (k6 (aA fun k8 => wb ?_))
 refine uY (α := Unit) (fun x => True) (fun x => ([(0, .sl 2 (rs.map rA)), (4, Ns (if Op.bytesLess (aH l).toList lo.toList = true then aH l else lo)), (5, Ns hgh), (6, Ni (i : Int))], [])) 0 ?_ ?_
 . refine sr rfl fun k10 => (Ap hlx) ((jr) ?_)
   refine vs rfl rfl rfl func120 (eM l (hr l hml).1) Ag Ag ?_
   refine (Ap hlx) ((jr) (k10 ((cdB) ?_ ?_))) <;> intro hc2
   . have hx2 : Op.bytesLess (aH l).toList lo.toList = false := hc2
     refine wk ?_; try simp only [aCh]
     refine ⟨(), trivial, [], ?_⟩
     exact Ce hx2
   have hx2 : Op.bytesLess (aH l).toList lo.toList = true := hc2
   refine wg rfl ((Ap hlx) ((jr) ?_))
   refine vs rfl rfl rfl func120 (eM l (hr l hml).1) Ag Ag ?_
   refine (Ap hlx) ((jr) ?_)
   try simp only [aCh]
   refine ⟨(), trivial, [], ?_⟩
   exact Ce hx2
 rintro ⟨⟩ -
 refine sr rfl fun k11 => (Ap hlx) ((jr) ?_)
 refine vs rfl rfl rfl func119 (lT l (hr l hml).1 (by have := (hr l hml).2; omega)) Ag Ag ?_
 refine (Ap hlx) ((jr) (k11 ((cdB) ?_ ?_))) <;> intro hc3
 . have hx3 : (!(Op.bytesLess (aL l).toList hgh.toList || (aL l).toList == hgh.toList)) = false := hc3
   refine wk ((jt) (k8 ((jw (wiS i og)) ((jt) ?_))))
   refine ⟨i + 1, ⟨og, og⟩, og, [], ?_⟩
   simp only [go_sem, hst2, jY, hx3, if_true, C5, if_false] <;> simp
 have hx3 : (!(Op.bytesLess (aL l).toList hgh.toList || (aL l).toList == hgh.toList)) = true := hc3
 refine wg rfl ((Ap hlx) ((jr) ?_))
 refine vs rfl rfl rfl func119 (lT l (hr l hml).1 (by have := (hr l hml).2; omega)) Ag Ag ?_
 refine (Ap hlx) ((jr) ((jt) (k8 ((jw (wiS i og)) ((jt) ?_)))))
 refine ⟨i + 1, ⟨og, og⟩, og, [], ?_⟩
 simp only [go_sem, hst2, jY, hx3, if_true, C5, if_false] <;> simp
def aOg (r : Run) (low high : ByteArray) (h1 : 1 <= r.ents.length) (h2 : r.ents.length <= 1048576) : aK P 214 [rA r, Ns low, Ns high] [] 0 (Nb (iU low high r)) := by
 refine (pq 17 [.tmp 6] func214) ?_
 simp only [rA]
 refine (aj) ?_
 refine sr rfl fun k2 => (ja) ?_
 refine vs rfl rfl rfl func120 (eM r h1) Ag Ag ?_
 simp only [go_sem, rA]
 refine vpg rfl rfl rfl rfl rfl rfl ⟨func119, rfl, rfl⟩ (fun hg => lT r h1 og) oG (fun hg => Ag) Ag trivial ?_
 simp only [go_sem, rA]
 refine k2 (wR (fO ?_ trivial))
 simp only [go_sem, iU]
def aBe (rs : List Run) (low high : ByteArray) (hr : ∀ r ∈ rs, 1 <= r.ents.length /\ r.ents.length <= 1048576) (hl : rs.length <= 1000000) : aK P 206 [.sl 2 (rs.map rA), Ns low, Ns high] [] 0 (.tup [.sl 2 ((rs.filter (iU low high)).map rA), .sl 2 ((rs.filter (fun r => !iU low high r)).map rA)]) := by
 refine (pq 42 [.tmp 6, .tmp 7] func206) ?_
 have hmx := mxl
 refine (aj) ?_
 refine sr rfl fun k2 => (ja) ((jr) (k2 (sr rfl fun k3 => (ja) ((jr) (k3 (aA fun k4 => (aj) (wb ?_)))))))
 refine wn rs.length (fun x => ([(0, .sl 2 (rs.map rA)), (1, Ns low), (2, Ns high), (8, .ref 0), (9, .ref 1), (10, Ni (x : Int))], [(0, .row 105 2 (((rs.take x).filter (iU low high)).map rA)), (1, .row 105 2 (((rs.take x).filter (fun r => !iU low high r)).map rA))])) 2 [] ?_ ?_
 . simp only [go_sem, AObj.bel, List.take_zero, List.filter_nil, List.map_nil, Int.natCast_zero] <;> simp
 rintro i hi
 refine aA fun k6 => (aj) ((cdB) ?_ ?_) <;> intro hc1
 . have hge := gec hc1
   have hie : i = rs.length := by omega
   subst hie; rw [F4]
   refine we ((jt) (k4 ((aj) ?_)))
   refine aFz 0 rfl ?_
   refine (Ac) ?_
   refine aFz 1 rfl ?_
   refine (Ac) (wR ?_)
   refine fO ?_ ⟨pA _ _, pA _ _, trivial⟩
   exact At
 obtain ⟨hlt, l, hlx, hdrop, hml⟩ := ixc hc1
 have hf1 := aPp (iU low high) hlx
 have hf2 := aPp (fun r => !iU low high r) hlx
 have hfl1 : ((rs.take i).filter (iU low high)).length <= i := F6 (List.length_filter_le _ _) (by rw [B0]; omega)
 have hfl2 : ((rs.take i).filter (fun r => !iU low high r)).length <= i := F6 (List.length_filter_le _ _) (by rw [B0]; omega)
 refine wk (k6 (aA fun k8 => wb (sr rfl fun k9 => (Ap hlx) ((jr) ?_))))
 refine vs rfl rfl rfl func214 (aOg l low high (hr l hml).1 (hr l hml).2) Ag Ag ?_
 refine (Ap hlx) ((jr) (k9 ((cdA) ?_ ?_))) <;> intro hc2
 . rw [if_pos hc2] at hf1
   rw [if_neg (by rw [hc2]; simp), List.append_nil] at hf2
   refine wg rfl ((Cz hlx) ((jr) ((jt) (k8 ((jw (wiS i og)) ((jt) ?_))))))
   refine ⟨i + 1, og, og, [(0, 3), (1, 1)], ?_⟩
   rw [hf1, hf2]
   simp only [go_sem, AObj.bel, AObj.ren, AV.ren, aB, sg] <;> simp [rA]
 rw [if_neg (by rw [hc2]; simp), List.append_nil] at hf1
 rw [if_pos (by rw [hc2]; rfl)] at hf2
 refine wg rfl ((Cz hlx) ((jr) ((jt) (k8 ((jw (wiS i og)) ((jt) ?_))))))
 refine ⟨i + 1, og, og, [(0, 0), (1, 3)], ?_⟩
 rw [hf1, hf2]
 simp only [go_sem, AObj.bel, AObj.ren, AV.ren, aB, sg] <;> simp [rA]
def aJo (rs : List Run) (hl : rs.length <= 1000000) : aK P 208 [.sl 2 (rs.map rA)] [] 0 (.sl 1 ((rs.map Run.ents).map esA)) := by
 refine (pq 21 [.tmp 2] func208) ?_
 have hmx := mxl
 refine (aj) ?_
 refine sr rfl fun k2 => (ja) ((jr) (k2 (aA fun k3 => (aj) (wb ?_))))
 refine wn rs.length (fun x => ([(0, .sl 2 (rs.map rA)), (3, .ref 0), (4, Ni (x : Int))], [(0, .row 23 1 (((rs.take x).map Run.ents).map esA))])) 1 [] ?_ ?_
 . exact Ct
 rintro i hi
 refine aA fun k5 => (aj) ((cdB) ?_ ?_) <;> intro hc1
 . have hge := gec hc1
   have hie : i = rs.length := by omega
   subst hie; rw [F4]
   refine we ((jt) (k3 ((aj) ?_)))
   refine aFz 0 rfl ?_
   refine (Ac) (wR ?_)
   refine fO ?_ (vN _ _)
   exact At
 obtain ⟨hlt, l, hlx, hdrop, hml⟩ := ixc hc1
 refine wk (k5 (aA fun k7 => wb (wg rfl ((Cz hlx) ((jr) ((jt) (k7 ?_)))))))
 have hw := wiS i og
 have htk : (((rs.take i).map Run.ents).map esA) ++ [AV.sl 5 (l.ents.map enA)] = (((rs.take (i + 1)).map Run.ents).map esA) := by
   rw [F5, hlx]; simp [esA]
 refine wg rfl ((Aa hw) ((jt) ?_))
 refine ⟨i + 1, og, og, [(0, 2)], ?_⟩
 simp only [go_sem, AObj.bel, AObj.ren, AV.ren, aB, sg, Int.natCast_zero] <;> simp
 first | exact htk | simpa using htk
def aNz (rs : List Run) (hl : rs.length <= 1000000) : aK P 212 [.sl 2 (rs.map rA)] [] 0 (Nb (nT rs)) := by
 refine (pq 20 [.tmp 2] func212) ((aj) ?_)
 refine aA fun k2 => (aj) (wb ?_)
 refine wl (α := Nat) (fun x => x <= rs.length /\ (rs.take x).all (fun r => !decide (150 < (r.ents.length : Int))) = true) (fun x => rs.length - x) (fun x => ([(0, .sl 2 (rs.map rA)), (3, Ni (x : Int))], [])) 0 0 ⟨A5 _, rfl⟩ [] ?_ ?_
 . exact jc
 rintro i ⟨hi, hall⟩
 refine aA fun k4 => (aj) ((cdB) ?_ ?_) <;> intro hc1
 . have hge := gec hc1
   have hie : i = rs.length := by omega
   subst hie; rw [F4] at hall
   refine we ((jt) (k2 ((aj) (wR ?_))))
   have h9 : nT rs = decide ((rs.length : Int) <= 8) := by unfold nT; rw [hall]; rfl
   exact fq h9
 obtain ⟨hlt, l, hlx, hdrop, hml⟩ := ixc hc1
 refine wk (k4 (aA fun k6 => wb (sr rfl fun k7 => ?_)))
 simp only [go_sem, hlx, rA, A6]
 refine (jr) (k7 ((cdA) ?_ ?_)) <;> intro hc2
 . have hg : (150 : Int) < (l.ents.length : Int) := by simpa using hc2
   have h9 := bMh hlx hg
   exact (aj) (wR ((Ah) (fq h9)))
 refine wk ((jt) (k6 ((jw (wiS i og)) ((jt) ?_))))
 refine ⟨i + 1, ⟨og, bJh hlx hall (by rw [hc2]; rfl)⟩, og, [], ?_⟩
 exact jo
def aMw (a b : List Run) (ha : ∀ r ∈ a, 1 <= r.ents.length /\ r.ents.length <= 1048576) (hb : ∀ r ∈ b, 1 <= r.ents.length /\ r.ents.length <= 1048576) (hla : a.length <= 1000000) (hlb : b.length <= 1000000) : aK P 210 [.sl 2 (a.map rA), .sl 2 (b.map rA)] [] 0 (.sl 2 ((sL a b).map rA)) := by
 refine (pq 55 [.tmp 4] func210) ?_
 have hmx := mxl
 refine (aj) ?_
 refine sr rfl fun k2 => (ja) ((jr) (k2 (aA fun k3 => (aj) (wb ?_))))
 refine wl (α := Nat × List Run) (fun x => x.1 <= b.length /\ x.2.length = a.length + x.1 /\ (b.drop x.1).foldl pG x.2 = sL a b /\ ∀ r ∈ x.2, 1 <= r.ents.length /\ r.ents.length <= 1048576) (fun x => b.length - x.1) (fun x => ([(1, .sl 2 (b.map rA)), (5, .ref 0), (6, Ni (x.1 : Int))], [(0, .row 105 2 (x.2.map rA))])) 1 (0, a) ⟨A5 _, rfl, rfl, ha⟩ [(0, 1)] ?_ ?_
 . exact Cn
 rintro ⟨i, out⟩ ⟨hi, hol, hfold, hgo⟩
 simp only at hi hol hfold hgo ⊢
 refine aA fun k5 => (aj) ((cdB) ?_ ?_) <;> intro hc1
 . have hge := gec hc1
   have hie : i = b.length := by omega
   subst hie; rw [List.drop_length] at hfold
   have h9 : sL a b = out := hfold.symm
   refine we ((jt) (k3 ((aj) ?_)))
   refine aFz 0 rfl ?_
   refine (Ac) (wR ?_)
   refine fO ?_ (pA _ _)
   exact Ab h9
 obtain ⟨hlt, l, hlx, hdrop, hml⟩ := ixc hc1
 refine wk (k5 (aA fun k7 => wb ((aj) ?_)))
 refine uY (α := Unit) (fun x => True) (fun x => ([(1, .sl 2 (b.map rA)), (5, .ref 0), (6, Ni (i : Int)), (7, Ni ((gH out l out.length : Nat) : Int))], [(0, .row 105 2 (out.map rA))])) 1 ?_ ?_
 . refine wb ?_
   refine wl (α := Nat) (fun x => x <= out.length /\ gH out l x = gH out l out.length) (fun x => x) (fun x => ([(1, .sl 2 (b.map rA)), (5, .ref 0), (6, Ni (i : Int)), (7, Ni (x : Int))], [(0, .row 105 2 (out.map rA))])) 1 out.length ⟨A0 _, rfl⟩ [] ?_ ?_
   . exact jp
   rintro k ⟨hk, hpos⟩
   refine aA fun k10 => ?_
   have hw1 := wr ((k : Int) - 1) ((k : Int) - 1) og
   have hpn : ((k : Int) - 1).toNat = k - 1 := by omega
   by_cases hoe : out = []
   . have hk0 : k = 0 := by rw [hoe] at hk; exact Nat.le_zero.1 hk
     have hdf : decide (0 < (k : Int)) = false := by simp; omega
     have hnn : out[k - 1]? = none := by rw [hoe]; rfl
     refine sd mixed rfl fun k11 => ?_
     simp only [go_sem, hdf, hw1, hpn, hlx, rA, hnn]
     repeat (first | refine ⟨og, ?_⟩ | refine ⟨fun hg => by simp at hg, ?_⟩)
     refine aN (fun hN => dK (rt := []) (rd := []) (val := rA wW) hN rfl rfl rfl rfl trivial (fun hg => absurd hg oS) (by exact zR _ _)) (.inl rfl) ?_
     simp only [go_sem, rA, hdf, hw1, hpn, hlx, rA, hnn]
     refine (jr) ?_
     refine tpg rfl rfl rfl rfl rfl rfl ⟨func120, rfl, rfl⟩ (fun hg => eM wW (by simp at hg)) oG (fun hg => Ag) Ag trivial ?_
     refine (Az hdf hw1 hpn hlx) ((jr) ?_)
     refine tpg rfl rfl rfl rfl rfl rfl ⟨func120, rfl, rfl⟩ (fun hg => eM l (hb l hml).1) oG (fun hg => Ag) Ag trivial ?_
     refine (Az hdf hw1 hpn hlx) ((jr) ((jy) (k11 ((cdA) ?_ ?_)))) <;> intro hc2
     . exfalso; simp at hc2
     rw [hk0] at hpos
     have hke : (k : Int) = ((gH out l out.length : Nat) : Int) := by rw [<- hpos, hk0]; rfl
     rw [hke]
     refine we ((jt) ?_)
     try simp only [aCh]
     refine ⟨(), trivial, [], ?_⟩
     exact jp
   have hop := F7.2 hoe
   obtain ⟨q, hqx, _, hqm⟩ := ix (xs := out) (i := k - 1) og
   have hrp : gH out l k = if (decide (0 < (k : Int)) && !(Op.bytesLess (aH q).toList (aH l).toList || (aH q).toList == (aH l).toList)) = true then gH out l (k - 1) else k := by
     rcases Nat.eq_zero_or_pos k with h0 | h0
     . subst h0; rfl
     obtain ⟨j, rfl⟩ : ∃ j, k = j + 1 := ⟨k - 1, og⟩
     rw [Nat.add_sub_cancel] at hqx ⊢
     rw [decide_eq_true og, Bool.true_and]
     conv => lhs; unfold gH
     rw [hqx]; rfl
   refine sd mixed rfl fun k11 => (Az hw1 hpn hlx hqx) ((jr) ?_)
   refine tpg rfl rfl rfl rfl rfl rfl ⟨func120, rfl, rfl⟩ (fun hg => eM q (hgo q hqm).1) oG (fun hg => Ag) Ag trivial ?_
   refine (Az hw1 hpn hlx hqx) ((jr) ?_)
   refine tpg rfl rfl rfl rfl rfl rfl ⟨func120, rfl, rfl⟩ (fun hg => eM l (hb l hml).1) oG (fun hg => Ag) Ag trivial ?_
   refine (Az hw1 hpn hlx hqx) ((jr) ((jy) (k11 ((cdB) ?_ ?_)))) <;> intro hc3
   . have hke : k = gH out l out.length := by rw [hrp, if_neg (by rw [hc3]; simp)] at hpos; exact hpos
     rw [hke]
     refine we ((jt) ?_)
     try simp only [aCh]
     refine ⟨(), trivial, [], ?_⟩
     exact jp
   have hkp : 0 < k := by simp at hc3; omega
   have hstep : gH out l (k - 1) = gH out l out.length := by rw [hrp, if_pos (by exact hc3)] at hpos; exact hpos
   refine wk (k10 (wb ?_))
   have hw7 := wr ((k : Int) - 1) (((k - 1 : Nat) : Int)) og
   refine wg rfl ((Aa hw7) ((jt) ((jt) ?_)))
   refine ⟨k - 1, ⟨og, hstep⟩, og, [], ?_⟩
   exact jp
 rintro ⟨⟩ -
 have hpl := aSi out l out.length
 have h9 : ((out.take (gH out l out.length)).map rA ++ [AV.agg [AV.sl 5 (l.ents.map enA), .raw (.int .i64 l.mask)]]) ++ (out.drop (gH out l out.length)).map rA = (pG out l).map rA := by unfold pG; simp [rA]
 refine sr rfl fun k12 => (Bk) ((jr) ?_)
 refine bFg (j := 1) (zs := [.slice none 0 0, .int .i64 0]) (lo := ((gH out l out.length : Nat) : Int)) rfl rfl rfl rfl rfl rfl rfl rfl slR zcR rfl dg rfl rfl rfl rfl rfl dg og (by simpa using hpl) (aJh _) (bFp _) (by simp [maxLen]; omega) (by simp; omega) dg ?_
 simp only [go_sem, Int.toNat_natCast, List.nil_append, A6]
 refine (jr) (k12 ?_)
 refine cQ mixed rfl ?_
 simp only [go_sem, hlx, rA, B0, A2, List.length_singleton, A6, B1, Int.toNat_natCast, <- E9, <- G5]
 refine (jr) ?_
 refine aN (fun hN => aPi (h := ((gH out l out.length : Nat) : Int)) rfl rfl hN slR rfl rfl rfl og (by simpa using hpl)) (.inr dg) ?_
 simp only [go_sem, hlx, rA, Int.toNat_natCast, hlx, rA, B0, A2, List.length_singleton, A6, B1, Int.toNat_natCast, <- E9, <- G5]
 refine (jr) ((jy) ((jt) (k7 ((jw (wiS i og)) ((jt) ?_)))))
 refine ⟨(i + 1, pG out l), ⟨og, by have := aMq out l; simp only; omega, by rw [hdrop] at hfold; exact hfold, aGp hgo (hb l hml)⟩, og, [(0, 6)], ?_⟩
 simp only [go_sem, AObj.bel, AObj.ren, AV.ren, aB, sg, Int.natCast_zero] <;> simp
 first | exact h9 | simpa using h9
def aTj (ls : List Entry) (hz : cW ls) (hl : ls.length <= 1048576) : aK P 211 [.sl 5 (ls.map enA)] [] 0 (.sl 2 ((wE ls).map rA)) := by
 refine (pq 49 [.tmp 2] func211) ?_
 have hmx := mxl
 refine (aj) ?_
 refine sr rfl fun k2 => (ja) ((jr) (k2 ((aj) ?_)))
 refine aA fun k4 => (aj) (wb ?_)
 refine wl (α := Nat × Nat × List Run) (fun x => x.2.1 < x.1 /\ x.1 <= ls.length + 1 /\ x.2.2.length <= x.2.1 /\ x.2.2 ++ (rD ls (ls.length + 1 - x.1) x.2.1 x.1).map (fun p : List Entry => (⟨p, bS p⟩ : Run)) = wE ls) (fun x => ls.length + 1 - x.1) (fun x => ([(0, .sl 5 (ls.map enA)), (3, .ref 0), (4, Ni (x.2.1 : Int)), (5, Ni (x.1 : Int))], [(0, .row 105 2 (x.2.2.map rA))])) 1 (1, 0, []) ⟨by decide, by simp only; omega, by simp, by simp [wE]⟩ [] ?_ ?_
 . exact Bu
 rintro ⟨i, s, out⟩ ⟨his, hi, hol, hgo⟩
 simp only at his hi hol hgo ⊢
 refine aA fun k6 => (aj) ((cdB) ?_ ?_) <;> intro hc1
 . have hgt : ls.length + 1 - i = 0 := by simp at hc1; omega
   rw [hgt] at hgo
   have h9 : wE ls = out := by rw [<- hgo]; simp [rD]
   refine we ((jt) (k4 ((aj) ?_)))
   refine aFz 0 rfl ?_
   refine (Ac) (wR ?_)
   refine fO ?_ (pA _ _)
   exact Ab h9
 have hle1 : i <= ls.length := by simpa using hc1
 rw [show ls.length + 1 - i = (ls.length - i) + 1 by omega, bJa] at hgo
 have hzp : cW ((ls.take i).drop s) := ⟨by rw [B1, B0]; omega, fun e he => hz.2 e (D1 (D2 he))⟩
 have hpl : ((ls.take i).drop s).length = i - s := by rw [B1, B0]; omega
 refine wk (k6 (aA fun k8 => wb ?_))
 have hw1 := wr ((i : Int) - 1) ((i : Int) - 1) og
 have hw2 := wr ((i : Int) - (s : Int)) ((i : Int) - (s : Int)) og
 have hpn : ((i : Int) - 1).toNat = i - 1 := by omega
 have hpv : ls[i - 1]? = some (bX ls i) := by unfold bX; rw [A1 og]; rfl
 by_cases hle : i < ls.length
 . have hlx := uR hle
   refine sd mixed rfl fun k9 => ?_
   simp only [go_sem, hlx, hpv, hw1, hw2, hpn, enA]
   refine (jr) ((jy) (k9 ((cdB) ?_ ?_))) <;> intro hc2
   . have hap : ¬ tF ls s i = true := by unfold tF; simpa [aBv] using hc2
     rw [if_neg hap] at hgo
     refine wk ((jt) (k8 ((jw (wiS i og)) ((jt) ?_))))
     refine ⟨(i + 1, s, out), ⟨by simp only; omega, by simp only; omega, hol, by simp only [Nat.add_sub_add_right]; exact hgo⟩, by simp only; omega, [(0, 0)], ?_⟩
     exact Cn
   have hap : tF ls s i = true := by unfold tF; simpa [aBv] using hc2
   rw [if_pos hap] at hgo
   refine sr rfl fun k10 => (Dn) ((jr) ?_)
   refine bE 2 rfl ?_
   refine (Ac) ?_
   refine vs rfl rfl rfl func168 (uX ((ls.take i).drop s) hzp) oG oG ?_
   refine (Do) ((jr) (k10 (wg rfl ((ja) ((jt) (k8 ((jw (wiS i og)) ((jt) ?_))))))))
   refine ⟨(i + 1, i, out ++ [⟨((ls.take i).drop s), bS ((ls.take i).drop s)⟩]), ⟨by simp only; omega, by simp only; omega, by simp only [A2, List.length_singleton]; omega, by simp only [Nat.add_sub_add_right]; rw [F8]; exact hgo⟩, by simp only; omega, [(0, 4)], ?_⟩
   exact Cn
 have hee : i = ls.length := by omega
 have hdf : decide ((i : Int) = (ls.length : Int)) = true := by simp; omega
 have hnn : ls[i]? = none := E3 og
 refine sd mixed rfl fun k9 => ?_
 simp only [go_sem, hdf, hnn, hpv, hw1, hw2, hpn, enA]
 repeat (first | refine ⟨og, ?_⟩ | refine ⟨fun hg => absurd hg.1 oS, ?_⟩)
 refine aN (fun hN => dK (rt := []) (rd := []) (val := Ns ⟨#[]⟩) hN rfl rfl rfl rfl trivial (fun hg => absurd hg oS) (by trivial)) (.inl rfl) ?_
 simp only [go_sem, hdf, hnn, hpv, hw1, hw2, hpn, enA]
 refine (jr) ((jy) (k9 ((cdB) ?_ ?_))) <;> intro hc3
 . exfalso; simp at hc3
 have hap : tF ls s i = true := by unfold tF; rw [hdf]; rfl
 rw [if_pos hap] at hgo
 refine sr rfl fun k11 => (Dn) ((jr) ?_)
 refine bE 2 rfl ?_
 refine (Ac) ?_
 refine vs rfl rfl rfl func168 (uX ((ls.take i).drop s) hzp) oG oG ?_
 refine (Do) ((jr) (k11 (wg rfl ((ja) ((jt) (k8 ((jw (wiS i og)) ((jt) ?_))))))))
 refine ⟨(i + 1, i, out ++ [⟨((ls.take i).drop s), bS ((ls.take i).drop s)⟩]), ⟨by simp only; omega, by simp only; omega, by simp only [A2, List.length_singleton]; omega, by simp only [Nat.add_sub_add_right]; rw [F8]; exact hgo⟩, by simp only; omega, [(0, 4)], ?_⟩
 exact Cn
end
def zT (rs : List Run) : Prop := (∀ r ∈ rs, cE r = true) /\ rs.length <= 8
def zK {rs : List Run} (h : zT rs) : ∀ r ∈ rs, 1 <= r.ents.length /\ r.ents.length <= 1048576 := fun r hr => by have := gI (h.1 r hr); omega
def bIw {rs ss : List Run} (h : zT rs) (hs : ∀ r ∈ ss, r ∈ rs) (hl : ss.length <= 8) : zT ss := ⟨fun r hr => h.1 r (hs r hr), hl⟩
def aPj {rs : List Run} (h : ∀ r ∈ rs, cE r = true) (hl : rs.length <= 16) : (sQ (rs.map Run.ents)).length <= 2400 /\ cW (sQ (rs.map Run.ents)) /\ (∀ b ∈ rs.map Run.ents, b.length <= 1048576) /\ rB (sQ (rs.map Run.ents)) := by
  have hp : (sQ (rs.map Run.ents)).Perm (rs.map Run.ents).flatten := gU _
  have hlen : ∀ (ss : List Run), (∀ r ∈ ss, cE r = true) -> (ss.map Run.ents).flatten.length <= 150 * ss.length := fun ss => by
    induction ss with
    | nil => intro _; simp
    | cons x r ih =>
      intro h
      have h1 := ih fun y hy => h y (A4 _ hy)
      have h2 := gI (h x A3)
      simp only [List.map_cons, List.flatten_cons, A2, C4] at h1 ⊢
      omega
  have h1 := hlen rs h
  rw [<- hp.length_eq] at h1
  have hs : ∀ e ∈ sQ (rs.map Run.ents), e.key.size <= 1048576 /\ e.text.size <= 1048576 := fun e he => by
    obtain ⟨l, hl, he⟩ := List.mem_flatten.1 (hp.mem_iff.1 he)
    obtain ⟨r, hr, rfl⟩ := A9.1 hl
    have := h r hr
    simp only [cE, B7] at this
    exact cO (lY this.1.2 he)
  refine ⟨og, ⟨og, fun e he => ?_⟩, fun b hb => ?_, ⟨og, hs⟩⟩
  . have := hs e he; exact ⟨og, og⟩
  obtain ⟨r, hr, rfl⟩ := A9.1 hb
  have := gI (h r hr); omega
def bFv (ls : List Entry) (hl : ls.length <= 2400) : (∀ r ∈ wE ls, 1 <= r.ents.length /\ r.ents.length <= 1048576) /\ (wE ls).length <= 2400 := by
  obtain ⟨h1, h2⟩ := zN ls.length ls (A0 _)
  have hlen : ∀ (L : List (List Entry)), (∀ p ∈ L, p ≠ []) -> L.length <= L.flatten.length := fun L => by
    induction L with
    | nil => intro _; simp
    | cons x r ih =>
      intro h
      have g1 := ih fun y hy => h y (A4 _ hy)
      have g2 := F7.2 (h x A3)
      simp only [List.flatten_cons, A2, C4] at g1 ⊢
      omega
  have h3 : (aKs ls).length <= ls.length := by have := hlen (aKs ls) h2; rw [show (aKs ls).flatten = ls from h1] at this; exact this
  rw [aEk]
  refine ⟨fun r hr => ?_, by rw [A6]; omega⟩
  obtain ⟨p, hp, rfl⟩ := A9.1 hr
  have g1 := F7.2 (h2 p hp)
  have g2 : p.length <= ls.length := by
    have := List.Sublist.length_le (H8 hp)
    rw [show (aKs ls).flatten = ls from h1] at this; exact this
  exact ⟨g1, by show p.length <= 1048576; omega⟩
def aJs : ∀ (b a : List Run), (sL a b).length = a.length + b.length
  | [], a => rfl
  | r :: b, a => by
    have := aJs b (pG a r)
    unfold sL at this ⊢
    rw [List.foldl_cons, this, aMq, C4]; omega
def bOh {ls : List (List Run)} (i j : Nat) (x y : List Run) : fzL (((ls.map rsO).set i (AV.sl 2 (x.map rA))).set j (AV.sl 2 (y.map rA))) = ((ls.set i x).set j y).map rsA := by
  refine List.ext_getElem? fun k => ?_
  simp only [aIy, B4, F9, D0, A6]
  by_cases h1 : j = k
  . subst h1
    by_cases h2 : j < ls.length
    . simp [h2, AV.fz, rsA, qP]
    simp [h2]
  by_cases h3 : i = k
  . subst h3
    by_cases h2 : i < ls.length
    . simp [h1, h2, AV.fz, rsA, qP]
    simp [h1, h2]
  simp only [if_neg h1, if_neg h3]
  cases ls[k]? with
  | none => rfl
  | some r => simp [aZg]
def tR (t : Tree) (lv : Nat) (taken rest b c : List Run) : Tree × Bool :=
  if nT (lV taken b t.snaps (if (lv : Int) + 1 = 2 then true else iV c (cK taken b))) = false then (t, false)
  else (⟨t.seq, t.mem, (t.levels.set lv rest).set (lv + 1) (lV taken b t.snaps (if (lv : Int) + 1 = 2 then true else iV c (cK taken b))), t.snaps⟩, true)
def bKl (seq : Int) (mem : List Entry) (a b c : List Run) (snaps : List Int) : tR ⟨seq, mem, [a, b, c], snaps⟩ 0 a [] b c = if nT (lV a b snaps (iV c (cK a b))) = false then (⟨seq, mem, [a, b, c], snaps⟩, false) else (⟨seq, mem, [[], lV a b snaps (iV c (cK a b)), c], snaps⟩, true) := by
  unfold tR; rw [if_neg (show ¬ ((0 : Nat) : Int) + 1 = 2 by decide)]; rfl
def bHo (seq : Int) (mem : List Entry) (a b c k r : List Run) (snaps : List Int) : tR ⟨seq, mem, [a, b, c], snaps⟩ 1 k r c c = if nT (lV k c snaps true) = false then (⟨seq, mem, [a, b, c], snaps⟩, false) else (⟨seq, mem, [a, r, lV k c snaps true], snaps⟩, true) := by
  unfold tR; rw [if_pos (show ((1 : Nat) : Int) + 1 = 2 by decide)]; rfl
def bLt {b : List Run} {p : Nat} (h : p < b.length) : lW b p ≠ [] := by
  intro e
  have := congrArg List.length e
  unfold lW at this; rw [B1, B0, List.length_nil] at this; omega
def aVd {b : List Run} (h : zT b) (p : Nat) : zT (lW b p) :=
  bIw h (fun r hr => D1 (D2 hr)) (by have := h.2; unfold lW; rw [B1, B0]; omega)
def aOv (t : Tree) (c : List Run) (n : Int) (all : List Run) (h2 : t.levels[2]? = some c) (hne : all ≠ []) (hr : ∀ r ∈ all, 1 <= r.ents.length /\ r.ents.length <= 1048576) (hl : all.length <= 1000000) (hc : ∀ r ∈ c, 1 <= r.ents.length /\ r.ents.length <= 1048576) (hcl : c.length <= 1000000) : aK P 209 [trA t, Ni n, .sl 2 (all.map rA)] [] 0 (Nb (if n = 2 then true else iV c all)) := by
 refine (pq 31 [.tmp 6] func209) ?_
 simp only [trA]
 have hlt : 2 < t.levels.length := (B2.1 h2).1
 refine (aj) ?_
 refine aA fun k2 => (aj) ((cdA) ?_ ?_) <;> intro hc1
 . have h9 : (if n = 2 then true else iV c all) = true := if_pos (by simpa using hc1)
   exact (aj) (wR (fq h9))
 have h9 : (if n = 2 then true else iV c all) = iV c all := if_neg (by simpa using hc1)
 refine wk (k2 (sr rfl fun k5 => (ja) ((vq func205 (yC all hne hr hl)) (k5 (sr rfl fun k6 => ?_)))))
 simp only [go_sem, tn2, B4, h2, rsA, Option.map_some, A6]
 refine (jr) ((vq func206 (aBe c (nR all).1 (nR all).2 hc hcl)) ((jr) (k6 (sr rfl fun k7 => (Bk) (k7 (wR ?_))))))
 rw [h9]; refine fO ?_ trivial; simp only [go_sem, iV]
def yN (t : Tree) (lv : Nat) (taken rest b c : List Run) (hb : t.levels[lv + 1]? = some b) (hc : t.levels[2]? = some c) (ht : gW t) (hne : taken ≠ []) (hto : zT taken) (hbo : zT b) (hco : zT c) (hlv : lv <= 1) : aK P 200 [trA t, Ni (lv : Int), .sl 2 (taken.map rA), .sl 2 (rest.map rA)] [] 0 (.tup [trA (tR t lv taken rest b c).1, .raw (.bool (tR t lv taken rest b c).2)]) := by
 refine (pq 73 [.cell 8 27, .tmp 9] func200) ?_
 simp only [trA]
 have hmx := mxl
 have hlt := (B2.1 hb).1
 have hw1 := wr ((lv : Int) + 1) ((lv : Int) + 1) og
 have hpn : ((lv : Int) + 1).toNat = lv + 1 := by omega
 have hin : (b.filter (iU (nR taken).1 (nR taken).2)).length <= b.length := List.length_filter_le _ _
 have hoff : (b.filter fun r => !iU (nR taken).1 (nR taken).2 r).length <= b.length := List.length_filter_le _ _
 have htl := hto.2
 have hbl := hbo.2
 have hal : (cK taken b).length <= 16 := by unfold cK; rw [A2]; omega
 have hao : ∀ r ∈ cK taken b, cE r = true := fun r hr => by
   rcases A7.1 hr with h | h
   . exact hto.1 r h
   exact hbo.1 r (List.mem_filter.1 h).1
 have hag : ∀ r ∈ cK taken b, 1 <= r.ents.length /\ r.ents.length <= 1048576 := fun r hr => by have := gI (hao r hr); omega
 have han : cK taken b ≠ [] := by unfold cK; simp [hne]
 obtain ⟨hm1, hm2, hm3, _⟩ := aPj hao hal
 have hall : taken ++ b.filter (iU (nR taken).1 (nR taken).2) = cK taken b := rfl
 have hsl := yH (sQ ((cK taken b).map Run.ents)) t.snaps (if (lv : Int) + 1 = 2 then true else iV c (cK taken b))
 obtain ⟨hc1', hc2'⟩ := bFv (bO (sQ ((cK taken b).map Run.ents)) t.snaps (if (lv : Int) + 1 = 2 then true else iV c (cK taken b))) og
 have hol := aJs (wE (bO (sQ ((cK taken b).map Run.ents)) t.snaps (if (lv : Int) + 1 = 2 then true else iV c (cK taken b)))) (b.filter fun r => !iU (nR taken).1 (nR taken).2 r)
 have hnew : sL (b.filter fun r => !iU (nR taken).1 (nR taken).2 r) (wE (bO (sQ ((cK taken b).map Run.ents)) t.snaps (if (lv : Int) + 1 = 2 then true else iV c (cK taken b)))) = (lV taken b t.snaps (if (lv : Int) + 1 = 2 then true else iV c (cK taken b))) := rfl
 obtain ⟨a, ha, _, _⟩ := ix (xs := t.levels) (i := lv) og
 have hse : ((t.levels.map rsO).set lv (AV.sl 2 (rest.map rA)))[lv + 1]? = some (rsO b) := by rw [List.getElem?_set_ne og, B4, hb]; rfl
 have hnl : (lV taken b t.snaps (if (lv : Int) + 1 = 2 then true else iV c (cK taken b))).length <= 1000000 := by rw [<- hnew, hol]; omega
 refine (aj) ?_
 refine sr rfl fun k2 => (Aa hw1) (k2 (sr rfl fun k3 => (ja) ((vq func205 (yC taken hne (zK hto) og)) (k3 (sr rfl fun k4 => ?_)))))
 simp only [go_sem, hpn, B4, hb, rsA, Option.map_some, A6]
 refine (jr) ((vq func206 (aBe b (nR taken).1 (nR taken).2 (zK hbo) og)) ((jr) (k4 (sr rfl fun k5 => ?_))))
 simp only [go_sem, A6, List.nil_append, A2, <- D5]
 refine (jr) (k5 ?_)
 refine aFz 4 rfl ?_
 simp only [go_sem, fzL, AV.fz, hall]
 refine sd mixed rfl fun k6 => (ja) ?_
 refine tp rfl rfl rfl ⟨func208, rfl, rfl⟩ (aJo (cK taken b) og) oG oG ?_
 refine (ja) ?_
 refine tp rfl rfl rfl ⟨func207, rfl, rfl⟩ (aIb ((cK taken b).map Run.ents) (by rw [A6]; omega) hm3) oG oG ?_
 refine (ja) ?_
 refine tp rfl rfl rfl ⟨func209, rfl, rfl⟩ (aOv t c ((lv : Int) + 1) (cK taken b) hc han hag og (zK hco) (by have := hco.2; omega)) Af Af ?_
 refine (ja) ?_
 refine tp rfl rfl rfl ⟨func187, rfl, rfl⟩ (aAs (sQ ((cK taken b).map Run.ents)) t.snaps (if (lv : Int) + 1 = 2 then true else iV c (cK taken b)) hm2 og ht.2.2) oG oG ?_
 refine (ja) ((jy) (k6 (sr rfl fun k7 => (ja) ((vq func211 (aTj (bO (sQ ((cK taken b).map Run.ents)) t.snaps (if (lv : Int) + 1 = 2 then true else iV c (cK taken b))) (aMd hm2) og)) ?_))))
 refine vs rfl rfl rfl func210 (aMw (b.filter fun r => !iU (nR taken).1 (nR taken).2 r) (wE (bO (sQ ((cK taken b).map Run.ents)) t.snaps (if (lv : Int) + 1 = 2 then true else iV c (cK taken b)))) (fun r hr => zK hbo r (List.mem_filter.1 hr).1) hc1' og og) oG oG ?_
 refine (Aa hnew) (k7 (aA fun k8 => sr rfl fun k9 => (ja) ((vq func212 (aNz (lV taken b t.snaps (if (lv : Int) + 1 = 2 then true else iV c (cK taken b))) hnl)) (k9 ((cdA) ?_ ?_))))) <;> intro hc1
 . have hf : nT (lV taken b t.snaps (if (lv : Int) + 1 = 2 then true else iV c (cK taken b))) = false := by simpa using hc1
   have h9 : (tR t lv taken rest b c) = (t, false) := if_pos hf
   refine (aj) (wR ?_)
   rw [h9]
   refine fO ?_ ⟨⟨trivial, enB _ _, bC _ _, dN _ _, trivial⟩, trivial, trivial⟩
   exact Af
 have hf : ¬ nT (lV taken b t.snaps (if (lv : Int) + 1 = 2 then true else iV c (cK taken b))) = false := by simpa using hc1
 have h9 : (tR t lv taken rest b c) = (⟨t.seq, t.mem, (t.levels.set lv rest).set (lv + 1) (lV taken b t.snaps (if (lv : Int) + 1 = 2 then true else iV c (cK taken b))), t.snaps⟩, true) := if_neg hf
 refine wk (k8 (sr rfl fun k11 => (ja) ?_))
 refine vn 3 rfl rfl rfl ⟨func71, rfl, rfl⟩ (gJ t ht) Af Af oS dg ?_
 refine (jn) (k11 (sr rfl fun k12 => ?_))
 simp only [go_sem, Int.toNat_natCast, A6, B4, ha, Option.map_some]
 refine (jr) (k12 (sr rfl fun k13 => ?_))
 simp only [go_sem, hpn, A6, D0, hse]
 refine (jr) (k13 ((aj) ?_))
 refine aFz 5 rfl ?_
 refine (Ac) ?_
 refine aFz 6 rfl ?_
 simp only [go_sem, fzL, AV.fz, bOh]
 refine aFz 7 rfl ?_
 refine (Ac) (wR ?_)
 rw [h9]
 refine fO ?_ ⟨⟨trivial, enB _ _, bC _ _, dN _ _, trivial⟩, trivial, trivial⟩
 exact Af
def aFo (seq : Int) (mem : List Entry) (a b c : List Run) (snaps : List Int) (level pick : Int) (ht : gW ⟨seq, mem, [a, b, c], snaps⟩) (hao : zT a) (hbo : zT b) (hco : zT c) : aK P 188 [trA ⟨seq, mem, [a, b, c], snaps⟩, Ni level, Ni pick] [] 0 (.tup [trA (qE ⟨seq, mem, [a, b, c], snaps⟩ level pick).1, .raw (.bool (qE ⟨seq, mem, [a, b, c], snaps⟩ level pick).2)]) := by
 refine (pq 73 [.cell 6 27, .tmp 7] func188) ?_
 simp only [trA, List.map_cons, List.map_nil]
 have hmx := mxl
 have hn0 : ((0 : Nat) : Int) = 0 := rfl
 have hn1 : ((1 : Nat) : Int) = 1 := rfl
 have hbl := hbo.2
 refine (aj) ?_
 refine aA fun k2 => sr rfl fun k3 => (Da) ((jr) (k3 ((cdA) ?_ ?_))) <;> intro hc1
 . have hne : a ≠ [] := by intro e; rw [e] at hc1; simp at hc1
   have hm9 : tR ⟨seq, mem, [a, b, c], snaps⟩ 0 a [] b c = (qE ⟨seq, mem, [a, b, c], snaps⟩ level pick) := (bKl _ _ _ _ _ _).trans (if_pos hc1).symm
   refine sdT 5 mixed rfl fun k4 => ?_
   refine (Da) ((jr) ?_)
   refine aN (fun hN => rO (e := 105) (sz := 2) (xs := []) rfl hN oG trivial oS) (.inr dg) ?_
   simp only [go_sem, fzL, Int.toNat_zero, tn1, tn2, List.getElem?_cons_zero, List.getElem?_cons_succ, rsA, A6]
   refine (jr) ?_
   refine tp rfl rfl rfl ⟨func200, rfl, rfl⟩ (yN ⟨seq, mem, [a, b, c], snaps⟩ 0 a [] b c rfl rfl ht hne hao hbo hco dg) (by simp only [go_sem, trA, hn0, List.map_nil, List.map_cons, rsA]) (by simp only [go_sem, trA, hn0, List.map_nil, List.map_cons, rsA]) ?_
   simp only [go_sem, hm9, trA]
   refine (jr) ((jy) (k4 (wR ?_)))
   refine fO ?_ ⟨gD _ _, trivial, trivial⟩
   exact Af
 refine wk (k2 (aA fun k5 => sr rfl fun k6 => (Da) ((jr) (k6 ((cdB) ?_ ?_))))) <;> intro hc2
 . have h9 : (qE ⟨seq, mem, [a, b, c], snaps⟩ level pick) = (⟨seq, mem, [a, b, c], snaps⟩, false) := (if_neg (by rw [hc1]; simp)).trans (if_neg (by rw [hc2]; simp))
   refine wk (k5 ((aj) (wR ?_)))
   rw [h9]
   refine fO ?_ ⟨gD _ ⟨seq, mem, [a, b, c], snaps⟩, trivial, trivial⟩
   simp only [go_sem, trA, rsA, List.map_cons, List.map_nil]
 have hp0 : 0 <= pick /\ pick < (b.length : Int) := by simp at hc2; omega
 obtain ⟨p, rfl⟩ := Int.eq_ofNat_of_zero_le hp0.1
 have hpl : p < b.length := by omega
 have hwp := wiS p og
 have hm9 : tR ⟨seq, mem, [a, b, c], snaps⟩ 1 (lW b p) (uA b p) c c = (qE ⟨seq, mem, [a, b, c], snaps⟩ level (p : Int)) := (bHo _ _ _ _ _ _ _ _).trans ((if_neg (by rw [hc1]; simp)).trans (if_pos hc2)).symm
 refine sd mixed rfl fun k7 => ?_
 simp only [go_sem, Int.toNat_zero, tn1, tn2, List.getElem?_cons_zero, List.getElem?_cons_succ, rsA, A6, Int.toNat_natCast, hwp, List.nil_append, A2, B0, B1, F4, <- E9, <- G5, <- D5]
 refine (jr) ((jy) (k7 ?_))
 refine aFz 4 rfl ?_
 simp only [go_sem, fzL, AV.fz, <- E9, <- G5, <- D5, qP]
 refine sd mixed rfl fun k8 => ?_
 simp only [go_sem, Int.toNat_zero, tn1, tn2, List.getElem?_cons_zero, List.getElem?_cons_succ, rsA, A6, Int.toNat_natCast, hwp, <- E9, <- G5]
 refine (jr) ?_
 refine tp rfl rfl rfl ⟨func200, rfl, rfl⟩ (yN ⟨seq, mem, [a, b, c], snaps⟩ 1 (lW b p) (uA b p) c c rfl rfl ht (bLt hpl) (aVd hbo p) hco hco dg) (by simp only [go_sem, trA, hn1, lW, uA, List.map_nil, List.map_cons, rsA]) (by simp only [go_sem, trA, hn1, lW, uA, List.map_nil, List.map_cons, rsA]) ?_
 simp only [go_sem, hm9, trA]
 refine (jr) ((jy) (k8 (wR ?_)))
 refine fO ?_ ⟨gD _ _, trivial, trivial⟩
 exact Af
def aQp {t : Tree} (h : eC t = true) : ∃ a b c, t.levels = [a, b, c] /\ zT a /\ zT b /\ zT c /\ Lvl b /\ Lvl c := by
  unfold eC at h; split at h
  . cases h
  rename_i hb
  unfold sM at hb
  simp only [D6, decide_eq_true_eq, Bool.not_eq_true', decide_eq_false_iff_not, not_or] at hb
  split at h
  . cases h
  split at h
  . cases h
  rename_i hb3
  obtain ⟨a, b, c, hlv⟩ : ∃ a b c, t.levels = [a, b, c] := by
    have h3 : t.levels.length = 3 := by omega
    match hl : t.levels, h3 with
    | [a, b, c], _ => exact ⟨a, b, c, rfl⟩
  have hb3 : aBj t.levels = true := by simpa using hb3
  unfold aBj at hb3; rw [gY, hlv] at hb3
  have l0 := hb3 0 oS
  have l1 := hb3 1 oS
  have l2 := hb3 2 oS
  simp only [List.getElem?_cons_zero, List.getElem?_cons_succ, Option.getD_some] at l0 l1 l2
  obtain ⟨a0, b0, -⟩ := (lJ _ _).1 l0
  obtain ⟨a1, b1, c1⟩ := (lJ _ _).1 l1
  obtain ⟨a2, b2, c2⟩ := (lJ _ _).1 l2
  have r0 : aAx ((0 : Nat) : Int) = 4 := rfl
  have r1 : aAx ((1 : Nat) : Int) = 8 := rfl
  have r2 : aAx ((2 : Nat) : Int) = 8 := rfl
  rw [r0] at a0; rw [r1] at a1; rw [r2] at a2
  exact ⟨a, b, c, hlv, ⟨b0, og⟩, ⟨b1, og⟩, ⟨b2, og⟩, ⟨b1, aIo (c1 dg) b1⟩, ⟨b2, aIo (c2 dg) b2⟩⟩
def aNm {p : Run -> Prop} : ∀ (b a : List Run), (∀ r ∈ a, p r) -> (∀ r ∈ b, p r) -> ∀ r ∈ sL a b, p r
  | [], a, ha, _ => ha
  | x :: b, a, ha, hb => aNm b (pG a x) (aGp ha (hb x A3)) fun r hr => hb r (A4 _ hr)
def bQe {ls : List Entry} (h : rB ls) : ∀ r ∈ wE ls, rB r.ents := fun r hr => by
  rw [aEk] at hr
  obtain ⟨p, hp, rfl⟩ := A9.1 hr
  have h1 : (aKs ls).flatten = ls := (zN ls.length ls (A0 _)).1
  have hs : p.Sublist ls := by rw [<- h1]; exact H8 hp
  exact ⟨F6 hs.length_le h.1, fun e he => h.2 e (hs.subset he)⟩
def bHj {taken b : List Run} {ts : List Int} {bot : Bool} (hto : zT taken) (hbo : zT b) (hb : aGn b) (hf : nT (lV taken b ts bot) = true) : aGn (lV taken b ts bot) := by
  have hal : (cK taken b).length <= 16 := by
    have h1 := hto.2
    have h2 := hbo.2
    have : (b.filter (iU (nR taken).1 (nR taken).2)).length <= b.length := List.length_filter_le _ _
    unfold cK; rw [A2]; omega
  have hao : ∀ r ∈ cK taken b, cE r = true := fun r hr => by
    rcases A7.1 hr with h | h
    . exact hto.1 r h
    exact hbo.1 r (List.mem_filter.1 h).1
  have hsq : rB (bO (sQ ((cK taken b).map Run.ents)) ts bot) := aPm (aPj hao hal).2.2.2
  refine ⟨?_, aNm _ _ (fun r hr => hb.2 r (List.mem_filter.1 hr).1) (bQe hsq)⟩
  unfold nT at hf
  simp only [B7, decide_eq_true_eq] at hf
  have := hf.2
  omega
def bCf {t : Tree} (h : eC t = true) (ht : gW t) (level pick : Int) : gW (qE t level pick).1 := by
  obtain ⟨a, b, c, hlv, ha, hb, hc, _, _⟩ := aQp h
  have hl := ht.2.1
  rw [hlv] at hl
  have sa := hl.2 a oS
  have sb := hl.2 b oS
  have sc := hl.2 c oS
  have mk : ∀ x y z : List Run, aGn x -> aGn y -> aGn z -> gW ⟨t.seq, t.mem, [x, y, z], t.snaps⟩ := fun x y z hx hy hz => ⟨ht.1, ⟨by simp, fun r hr => by
    simp only [A8, List.not_mem_nil, or_false] at hr
    rcases hr with rfl | rfl | rfl
    . exact hx
    . exact hy
    exact hz⟩, ht.2.2⟩
  have hnil : aGn [] := ⟨A5 _, fun r hr => by cases hr⟩
  unfold qE; simp only [hlv]; split
  . split
    . exact ht
    rename_i hf
    exact mk _ _ _ hnil (bHj ha hb sb (by simpa using hf)) sc
  split
  . split
    . exact ht
    rename_i hf
    refine mk _ _ _ sa ?_ (bHj (aVd hb _) hc sc (by simpa using hf))
    unfold uA
    refine ⟨by have := sb.1; rw [A2, B0, B1]; omega, fun r hr => ?_⟩
    rcases A7.1 hr with hr | hr
    . exact sb.2 r (D1 hr)
    exact sb.2 r (D2 hr)
  exact ht
def bMs (t : Tree) (level pick : Int) (h : eC t = true) (ht : gW t) : aK P 188 [trA t, Ni level, Ni pick] [] 0 (.tup [trA (qE t level pick).1, .raw (.bool (qE t level pick).2)]) := by
  obtain ⟨a, b, c, hlv, ha, hb, hc, _, _⟩ := aQp h
  obtain ⟨seq, mem, lv, snaps⟩ := t
  obtain rfl : lv = [a, b, c] := hlv
  exact aFo seq mem a b c snaps level pick ht ha hb hc
def dH (t : Tree) (level pick : Int) : Tree × Bool := if cZ t = false then (lZ, false) else qE t level pick
def bB (s : Store) (level pick : Int) : Store × Bool := if aJ s = false then (zStore, false) else if s.up = false then (cD s, false) else
  if (dH s.tree level pick).2 = false then (cD s, false) else (⟨(cD s).up, (dH s.tree level pick).1, { (cD s).disk with levels := (dH s.tree level pick).1.levels }⟩, true)
def aXe {t : Tree} (ht : gW t) (level pick : Int) : gW (dH t level pick).1 := by
  unfold dH; split
  . exact ⟨⟨A5 _, by intro e he; cases he⟩, ⟨A5 _, by intro e he; cases he⟩, A5 _⟩
  rename_i h
  exact bCf (by rw [zP]; simpa using h) ht level pick
def aCk (t : Tree) (level pick : Int) (ht : gW t) : aK P 166 [trA t, Ni level, Ni pick] [] 0 (.tup [trA (dH t level pick).1, .raw (.bool (dH t level pick).2)]) := by
 refine (pq 25 [.cell 6 27, .tmp 7] func166) ?_
 simp only [trA]
 refine (aj) ?_
 refine aA fun k2 => sr rfl fun k3 => (ja) ?_
 refine (vr rfl rfl rfl func33 (tM t ht) Af Af) (k3 ((cdA) ?_ ?_)) <;> intro hc1
 . have hok : cZ t = false := by simpa using hc1
   have h9 : (dH t level pick) = (lZ, false) := if_pos hok
   refine (aj) ?_
   refine dI 1 (ds := [Ni 0, .sl 5 [], .sl 1 [], .sl 1 []]) rfl (by repeat (first | exact LeL.nil | refine LeL.cons (by first | exact Le.refl _ | exact Le.nil _) ?_)) oG ?_
   refine (ja) (wR ?_)
   rw [h9]
   refine fO ?_ ⟨gD _ lZ, trivial, trivial⟩
   simp only [go_sem, lZ, trA, List.map_nil]
 have hok : cZ t = true := by simpa using hc1
 have hoI : eC t = true := by rw [zP]; exact hok
 have h9 : (dH t level pick) = qE t level pick := if_neg (by rw [hok]; simp)
 refine wk (k2 (sr rfl fun k5 => (ja) ?_))
 refine vn 3 rfl rfl rfl ⟨func71, rfl, rfl⟩ (gJ t ht) Af Af oS dg ?_
 refine (jn) ?_
 refine bE 2 rfl ?_
 simp only [go_sem, eY, mI, qJ]
 refine bE 3 rfl ?_
 simp only [go_sem, eY, mI, qJ]
 refine bE 4 rfl ?_
 simp only [go_sem, eY, mI, qJ]
 refine vs rfl rfl rfl func188 (bMs t level pick hoI ht) Af Af ?_
 simp only [go_sem, trA]
 refine k5 (sr rfl fun k6 => (ja) ?_)
 refine vn 3 rfl rfl rfl ⟨func71, rfl, rfl⟩ (gJ (qE t level pick).1 (bCf hoI ht level pick)) Af Af oS dg ?_
 refine (jn) (k6 ?_)
 refine aFz 6 rfl ?_
 simp only [go_sem, fzL, AV.fz, eY, mI, qJ]
 refine aFz 7 rfl ?_
 simp only [go_sem, fzL, AV.fz, eY, mI, qJ]
 refine aFz 8 rfl ?_
 simp only [go_sem, fzL, AV.fz, eY, mI, qJ]; refine wR ?_; rw [h9]
 refine fO ?_ ⟨gD _ _, trivial, trivial⟩
 exact Af
def rC (s : Store) (level pick : Int) (hs : gA s) (hlg : s.disk.log.size <= 1048576) : aK P 146 [stA s, Ni level, Ni pick] [] 0 (.tup [stA (bB s level pick).1, .raw (.bool (bB s level pick).2)]) := by
 refine (pq 35 [.cell 6 31, .tmp 7] func146) ?_
 simp only [stA]
 refine (aj) ?_
 refine aA fun k2 => sr rfl fun k3 => (ja) ?_
 refine (vr rfl rfl rfl func11 (jX s hs hlg) Ad Ad) (k3 ((cdA) ?_ ?_)) <;> intro hc1
 . have hok : aJ s = false := by simpa using hc1
   have h9 : (bB s level pick) = (zStore, false) := by unfold bB; rw [if_pos hok]
   refine (aj) ?_
   refine dI 1 (ds := [Nb false, Ni 0, .sl 5 [], .sl 1 [], .sl 1 [], Ns ⟨#[]⟩, Ni 0, .sl 1 [], Ni 0]) rfl (by repeat (first | exact LeL.nil | refine LeL.cons (by first | exact Le.refl _ | exact Le.nil _) ?_)) oG ?_
   refine (ja) (wR ?_)
   rw [h9]
   refine fO ?_ ⟨bK _ zStore, trivial, trivial⟩
   simp only [go_sem, stA, zStore, lZ, bJw, List.map_nil]
 have hok : aJ s = true := by simpa using hc1
 refine wk (k2 (sr rfl fun k5 => (ja) ?_))
 refine vs rfl rfl rfl func31 (iL s hs) Ad Ad ?_
 refine (Ao) (k5 (aA fun k6 => (aj) ((cdA) ?_ ?_))) <;> intro hc2
 . have hup : s.up = false := by simpa using hc2
   have h9 : (bB s level pick) = (cD s, false) := by unfold bB; rw [if_neg (by rw [hok]; simp), if_pos hup]
   refine (aj) (wR ?_)
   rw [h9]
   refine fO ?_ ⟨bK _ _, trivial, trivial⟩
   exact Ad
 have hup : s.up = true := by simpa using hc2
 refine wk (k6 (sr rfl fun k9 => (ja) ?_))
 refine vs rfl rfl rfl func166 (aCk s.tree level pick hs.1) Af Af ?_
 simp only [go_sem, trA]
 refine k9 (aA fun k10 => (aj) ((cdA) ?_ ?_)) <;> intro hc3
 . have hf : (dH s.tree level pick).2 = false := by simpa using hc3
   have h9 : (bB s level pick) = (cD s, false) := by unfold bB; rw [if_neg (by rw [hok]; simp), if_neg (by rw [hup]; simp), if_pos hf]
   refine (aj) (wR ?_)
   rw [h9]
   refine fO ?_ ⟨bK _ _, trivial, trivial⟩
   exact Ad
 have hf : ¬ (dH s.tree level pick).2 = false := by simpa using hc3
 have h9 : (bB s level pick) = (⟨(cD s).up, (dH s.tree level pick).1, { (cD s).disk with levels := (dH s.tree level pick).1.levels }⟩, true) := by unfold bB; rw [if_neg (by rw [hok]; simp), if_neg (by rw [hup]; simp), if_neg hf]
 refine wk (k10 (sr rfl fun k13 => (ja) ?_))
 refine vs rfl rfl rfl func165 (wV (cD s) (dH s.tree level pick).1 (aXe hs.1 level pick).2.1) (by simp only [go_sem, stA, trA]) (by simp only [go_sem, stA, trA]) ?_
 refine (Ao) (k13 (wR ?_))
 rw [h9]
 refine fO ?_ ⟨bK _ _, trivial, trivial⟩
 exact Ad
section
variable {rs : List Run} {e : Entry} {L m : List Entry}
def iZ (X Y : List Entry) : Prop := ∀ e ∈ X, ∀ f ∈ Y, e.key = f.key -> f.seq < e.seq
def aIn (q : Int) (rs : List Run) : Prop := ∀ r ∈ rs, cE r = true /\ ∀ e ∈ r.ents, e.seq <= q
structure RT (q : Int) (m : List Entry) (a b c : List Run) (sn : List Int) : Prop where
  q0 : 0 <= q
  q1 : q <= 100000
  ml : m.length <= 60
  mo : bU m = true
  mw : ∀ e ∈ m, e.seq <= q
  hs : eP sn q = true
  la : a.length <= 4
  lb : b.length <= 8
  lc : c.length <= 8
  ra : aIn q a
  rb : aIn q b
  rc : aIn q c
  vb : Lvl b
  vc : Lvl c
  nm : iZ m (aG a ++ (aG b ++ aG c))
  na : a.Pairwise fun x y => iZ y.ents x.ents
  nab : iZ (aG a) (aG b ++ aG c)
  nbc : iZ (aG b) (aG c)
def bZ {X Y Z : List Entry} : iZ X (Y ++ Z) ↔ iZ X Y /\ iZ X Z :=
  ⟨fun h => ⟨fun e he f hf => h e he f (List.mem_append_left _ hf), fun e he f hf => h e he f (List.mem_append_right _ hf)⟩, fun h e he f hf => (A7.1 hf).elim (h.1 e he f) (h.2 e he f)⟩
def aR : e ∈ aG rs ↔ ∃ r ∈ rs, e ∈ r.ents := by unfold aG; exact List.mem_flatMap
def lG {X Y X' Y' : List Entry} (h : iZ X Y) (hx : ∀ e ∈ X', e ∈ X) (hy : ∀ e ∈ Y', e ∈ Y) : iZ X' Y' := fun e he f hf => h e (hx e he) f (hy f hf)
def aIq (h : ∀ r ∈ rs, cE r = true) : Lvl rs ↔ Adj rs :=
  ⟨fun hl i hi => G3.1 hl.2 i (i + 1) og hi og, fun ha => ⟨h, aIo ha h⟩⟩
def uU (rs : List Run) (most : Int) (ap : Bool) (q : Int) : eG rs most ap q = true ↔ (rs.length : Int) <= most /\ aIn q rs /\ (ap = true -> Lvl rs) := by
  rw [gV]
  constructor
  . rintro ⟨h1, h2, h3⟩
    exact ⟨h1, fun r hr => ⟨(h2 r hr).1, (iF _ _).1 (h2 r hr).2⟩, fun h => (aIq fun r hr => (h2 r hr).1).2 (h3 h)⟩
  rintro ⟨h1, h2, h3⟩
  exact ⟨h1, fun r hr => ⟨(h2 r hr).1, (iF _ _).2 (h2 r hr).2⟩, fun h => (aIq fun r hr => (h2 r hr).1).1 (h3 h)⟩
def bPb (m : List Entry) (a b c : List Run) : ((m :: (a.reverse.map Run.ents ++ [aG b, aG c])).Pairwise fun x y => lM x y = true) ↔
    iZ m (aG a ++ (aG b ++ aG c)) /\ (a.Pairwise fun x y => iZ y.ents x.ents) /\ iZ (aG a) (aG b ++ aG c) /\ iZ (aG b) (aG c) := by
  have e0 : (fun x y : List Entry => lM x y = true) = fun x y => iZ x y := by
    funext x y; exact propext (dE x y)
  rw [e0]
  have e1 : (a.reverse.map Run.ents).Pairwise (fun x y => iZ x y) ↔ a.Pairwise (fun x y => iZ y.ents x.ents) := by
    rw [List.pairwise_map, List.pairwise_reverse]
  rw [List.pairwise_cons, List.pairwise_append, e1, bZ, bZ, bZ]; simp only [A7, A9, List.mem_reverse, A8, List.not_mem_nil, or_false, List.pairwise_cons, List.Pairwise.nil, and_true, forall_eq, false_implies, implies_true]
  constructor
  . rintro ⟨k1, k2, k3, k4⟩
    refine ⟨⟨fun e he f hf => ?_, k1 _ (.inr (.inl rfl)), k1 _ (.inr (.inr rfl))⟩, k2, ⟨fun e he => ?_, fun e he => ?_⟩, k3⟩
    . obtain ⟨r, hr, hf⟩ := aR.1 hf
      exact k1 r.ents (.inl ⟨r, hr, rfl⟩) e he f hf
    . obtain ⟨r, hr, he⟩ := aR.1 he
      exact k4 r.ents ⟨r, hr, rfl⟩ _ (.inl rfl) e he
    obtain ⟨r, hr, he⟩ := aR.1 he
    exact k4 r.ents ⟨r, hr, rfl⟩ _ (.inr rfl) e he
  rintro ⟨⟨k1, k2, k3⟩, k4, ⟨k5, k6⟩, k7⟩
  refine ⟨fun x hx => ?_, k4, k7, fun x hx y hy => ?_⟩
  . rcases hx with ⟨r, hr, rfl⟩ | rfl | rfl
    . exact fun e he f hf => k1 e he f (aR.2 ⟨r, hr, hf⟩)
    . exact k2
    exact k3
  obtain ⟨r, hr, rfl⟩ := hx
  rcases hy with rfl | rfl
  . exact fun e he => k5 e (aR.2 ⟨r, hr, he⟩)
  exact fun e he => k6 e (aR.2 ⟨r, hr, he⟩)
def sO (t : Tree) : cZ t = true ↔ ∃ a b c, t.levels = [a, b, c] /\ RT t.seq t.mem a b c t.snaps := by
  constructor
  . intro h; unfold cZ at h; split at h
    . cases h
    rename_i hb
    unfold qI at hb
    simp only [D6, decide_eq_true_eq, Bool.not_eq_true', decide_eq_false_iff_not, not_or, Bool.not_eq_false] at hb
    obtain ⟨⟨⟨⟨⟨⟨b1, b2⟩, b3⟩, b4⟩, b5⟩, b6⟩, b7⟩ := hb
    obtain ⟨a, b, c, hL⟩ : ∃ a b c, t.levels = [a, b, c] := by
      have h3 : t.levels.length = 3 := by omega
      match hl : t.levels, h3 with
      | [a, b, c], _ => exact ⟨a, b, c, rfl⟩
    simp only [B7] at h
    obtain ⟨⟨⟨l0, l1⟩, l2⟩, hag⟩ := h
    have hp : dA t = t.mem :: (a.reverse.map Run.ents ++ [aG b, aG c]) := by unfold dA; rw [hL]; rfl
    rw [zM, hp, bPb] at hag
    have v0 : lv t 0 = a := by unfold lv; rw [hL]; rfl
    have v1 : lv t 1 = b := by unfold lv; rw [hL]; rfl
    have v2 : lv t 2 = c := by unfold lv; rw [hL]; rfl
    rw [v0, uU] at l0; rw [v1, uU] at l1; rw [v2, uU] at l2
    exact ⟨a, b, c, hL, ⟨og, og, og, b4, (iF _ _).1 b5, b7, og, og, og, l0.2.1, l1.2.1, l2.2.1, l1.2.2 rfl, l2.2.2 rfl, hag.1, hag.2.1, hag.2.2.1, hag.2.2.2⟩⟩
  rintro ⟨a, b, c, hL, h⟩
  have hp : dA t = t.mem :: (a.reverse.map Run.ents ++ [aG b, aG c]) := by unfold dA; rw [hL]; rfl
  have v0 : lv t 0 = a := by unfold lv; rw [hL]; rfl
  have v1 : lv t 1 = b := by unfold lv; rw [hL]; rfl
  have v2 : lv t 2 = c := by unfold lv; rw [hL]; rfl
  have h1 := h.q0
  have h2 := h.q1
  have h3 := h.ml
  have h4 := h.la
  have h5 := h.lb
  have h6 := h.lc
  unfold cZ; rw [if_neg, v0, v1, v2, hp]
  . simp only [B7]
    exact ⟨⟨⟨(uU _ _ _ _).2 ⟨og, h.ra, fun h => (by cases h)⟩, (uU _ _ _ _).2 ⟨og, h.rb, fun _ => h.vb⟩⟩, (uU _ _ _ _).2 ⟨og, h.rc, fun _ => h.vc⟩⟩, (zM _).2 ((bPb _ _ _ _).2 ⟨h.nm, h.na, h.nab, h.nbc⟩)⟩
  unfold qI; rw [h.mo, (iF _ _).2 h.mw, h.hs, hL]
  simp
  omega
def aWi (h1 : ∀ e ∈ L, bJ e = true) (h2 : L.Pairwise fun x y => x.key = y.key -> x.seq ≠ y.seq) : bU (bF L) = true := by
  have hp := gU L
  have hs : (bF L).Pairwise (Plain.leB entLt) := by rw [tY]; exact (Plain.put_sorted qG L).1
  have hd : (bF L).Pairwise fun x y => x.key = y.key -> x.seq ≠ y.seq := hp.symm.pairwise h2 (fun {x y} h e => fun e2 => h e.symm e2.symm)
  refine aNj (fun e he => h1 e (hp.mem_iff.1 he)) ?_
  refine List.Pairwise.imp₂ (fun x y (g1 : Plain.leB entLt x y) g2 => ?_) hs hd
  cases hx : entLt x y with
  | true => rfl
  | false => exact absurd (aVm hx g1) (g2 (bKa hx g1))
def aWg (h : bU m = true) (ls : List Entry) : ls.foldl bY m = bF (m ++ ls) := by
  unfold bF; rw [List.foldl_append]
  have := aQl h
  unfold bF at this; rw [this]
def aVl (h : bU m = true) : m.Pairwise fun x y => x.key = y.key -> x.seq ≠ y.seq := by
  refine (qT h).imp fun {x y} g hk hs => ?_
  unfold entLt at g; rw [hk, hs] at g
  simp [bP] at g
def aDj : e ∈ bF L ↔ e ∈ L := (gU L).mem_iff
end
def frL (bs : List (List Entry)) : List UInt8 := bs.flatMap fun b => bL (fTx b)
def mN : List (List Entry) -> Nat -> List (List Entry)
  | [], _ => []
  | b :: r, n => if (fTx b).size <= n then b :: mN r (n - (fTx b).size) else []
def xS (b : List Entry) (r : List (List Entry)) : frL (b :: r) = bL (fTx b) ++ frL r := rfl
def bDp (x y : List (List Entry)) : frL (x ++ y) = frL x ++ frL y := by unfold frL; rw [List.flatMap_append]
def aRu {s : ByteArray} (hs : s.size <= 1048576) {a : Nat} (ha : a <= s.size) (h : 0 <= (aW s a).2) : isB (aW s a).1 = true /\ Has s a (bL (fTx (aW s a).1)) := by
  have hg := rR s a h
  have hle := uK s a
  exact ⟨aEy s hs a h, Has.of_toList (aCb s a h) og og⟩
def aPu : ∀ (bs : List (List Entry)) (n : Nat), (frL bs).length <= n -> mN bs n = bs
  | [], n, _ => rfl
  | b :: r, n, h => by
    rw [xS, A2, aQ] at h; rw [mN, if_pos og, aPu r _ og]
def aFu : ∀ (bs : List (List Entry)) (n : Nat), ∃ r, bs = mN bs n ++ r
  | [], n => ⟨[], rfl⟩
  | b :: r, n => by
    rw [mN]; split
    . obtain ⟨x, hx⟩ := aFu r (n - (fTx b).size)
      exact ⟨x, by rw [List.cons_append, <- hx]⟩
    exact ⟨b :: r, rfl⟩
def bCb {s : ByteArray} (hs : s.size <= 1048576) : ∀ (bs : List (List Entry)) (f a n : Nat) (out : List (List Entry)), (∀ b ∈ bs, isB b = true) -> a <= s.size -> s.size - a <= f -> (bL s).drop a = (frL bs).take n ->
    cT s f a out = (out ++ mN bs n, ((a + (frL (mN bs n)).length : Nat) : Int))
  | [], f, a, n, out, _, ha, hf, hd => by
    have h1 := congrArg List.length hd
    rw [show frL [] = [] from rfl, List.take_nil, B1, aQ, List.length_nil] at h1
    have e : a = s.size := by omega
    subst e
    cases f with
    | zero => simp [cT, mN, frL]
    | succ f => rw [cT, if_neg og]; simp [mN, frL]
  | b :: r, f, a, n, out, hb, ha, hf, hd => by
    have hB := hb b A3
    have hpos := (yK hB).2
    have hl := congrArg List.length hd
    rw [B1, aQ, B0] at hl
    rw [xS] at hd hl
    rw [A2, aQ] at hl; rw [mN]
    by_cases h1 : (fTx b).size <= n
    . rw [if_pos h1]
      have hX : (bL (fTx b) ++ frL r).take n = bL (fTx b) ++ (frL r).take (n - (fTx b).size) := by
        rw [List.take_append, List.take_of_length_le (by rw [aQ]; omega), aQ]
      rw [hX] at hd
      have hh : Has s a (bL (fTx b)) := by unfold Has; rw [hd, List.take_left' rfl]
      have hfr := rQ hB ha hh
      have hin := hh.len ha
      rw [aQ] at hin
      cases f with
      | zero => omega
      | succ f =>
        rw [cT, if_pos og, hfr]
        simp only
        rw [if_neg og, Int.toNat_natCast]
        have hd2 : (bL s).drop (a + (fTx b).size) = (frL r).take (n - (fTx b).size) := by
          rw [<- List.drop_drop, hd, List.drop_left' (aQ _)]
        rw [bCb hs r f _ (n - (fTx b).size) _ (fun x hx => hb x (A4 _ hx)) hin og hd2, xS, A2, aQ]
        simp; omega
    rw [if_neg h1]
    have hX : (bL (fTx b) ++ frL r).take n = (bL (fTx b)).take n := List.take_append_of_le_length (by rw [aQ]; omega)
    rw [hX] at hd
    have hno : (aW s a).2 < 0 := by
      refine Int.not_le.1 fun h0 => ?_
      obtain ⟨g1, g2⟩ := aRu hs ha h0
      have g3 := g2.len ha
      rw [aQ] at g3
      have g5 : Has (fTx b) 0 (bL (fTx (aW s a).1)) := by
        unfold Has at g2 ⊢
        rw [hd, List.take_take, Nat.min_eq_left (by rw [aQ]; omega)] at g2
        rw [List.drop_zero]; exact g2
      have g6 := rQ g1 (A5 _) g5
      have g7 := rQ hB (A5 _) (Has.self (fTx b))
      rw [g6] at g7
      have g8 := congrArg Prod.snd g7
      simp only at g8
      omega
    cases f with
    | zero => simp [cT, frL]
    | succ f =>
      rw [cT]
      simp only [hno, if_true, ite_self, List.append_nil, Nat.add_zero, show (frL []).length = 0 from rfl]
def aKt {s : ByteArray} (hs : s.size <= 1048576) {bs : List (List Entry)} {n : Nat} (hb : ∀ b ∈ bs, isB b = true) (h : bL s = (frL bs).take n) : bN s = (mN bs n, ((frL (mN bs n)).length : Int)) := by
  have := bCb hs bs s.size 0 n [] hb (A5 _) og (by rw [List.drop_zero]; exact h)
  rw [List.nil_append, C3] at this; exact this
def aNw {s : ByteArray} (hs : s.size <= 1048576) {bs : List (List Entry)} (hb : ∀ b ∈ bs, isB b = true) (h : bL s = frL bs) : bN s = (bs, (s.size : Int)) := by
  have h1 := aKt hs hb (n := (frL bs).length) (by rw [F4]; exact h)
  rw [aPu bs _ (A0 _), <- h, aQ] at h1; exact h1
def aRr {s : ByteArray} (hs : s.size <= 1048576) : ∀ (f a : Nat) (out : List (List Entry)), a <= s.size -> (bL s).take a = frL out -> (bL s).take (cT s f a out).2.toNat = frL (cT s f a out).1 /\ 0 <= (cT s f a out).2 /\ (cT s f a out).2 <= s.size
  | 0, a, out, ha, h => ⟨h, Int.natCast_nonneg _, Int.ofNat_le.2 ha⟩
  | f + 1, a, out, ha, h => by
    have stay : (bL s).take ((out, (a : Int)) : List (List Entry) × Int).2.toNat = frL out /\ (0 : Int) <= (a : Int) /\ (a : Int) <= s.size := ⟨h, Int.natCast_nonneg _, Int.ofNat_le.2 ha⟩
    rw [cT]
    by_cases h1 : a < s.size
    . rw [if_pos h1]
      by_cases h2 : (aW s a).2 < 0
      . rw [if_pos h2]; exact stay
      rw [if_neg h2]
      obtain ⟨g1, g2⟩ := aRu hs ha og
      have g3 := rQ g1 ha g2
      have g4 := g2.len ha
      rw [aQ] at g4
      have e : (aW s a).2.toNat = a + (fTx (aW s a).1).size := by
        have := congrArg Prod.snd g3; simp only at this; omega
      refine aRr hs f _ _ og ?_
      have g6 : ((bL s).drop a).take (fTx (aW s a).1).size = bL (fTx (aW s a).1) := by
        unfold Has at g2
        rw [aQ] at g2; exact g2
      rw [e, bDp, <- h, List.take_add, g6]
      generalize aW s a = r
      simp only [frL, List.flatMap_cons, List.flatMap_nil, List.append_nil]
    rw [if_neg h1]; exact stay
def bNo {s : ByteArray} (hs : s.size <= 1048576) (h : (bN s).2 = (s.size : Int)) : bL s = frL (bN s).1 := by
  have h1 := (aRr hs s.size 0 [] (A5 _) rfl).1
  have h2 : (cT s s.size 0 []).2 = (s.size : Int) := h
  rw [h2, Int.toNat_natCast, List.take_of_length_le (by rw [aQ]; omega)] at h1
  exact h1
def dY (q : Int) (L : List Entry) : Int := L.foldl (fun m e => max m e.seq) q
def ovr (q : Int) (e : Entry) : Bool := decide (q < e.seq)
def iJ : ∀ (L : List Entry) (q : Int), q <= dY q L /\ ∀ e ∈ L, e.seq <= dY q L
  | [], q => ⟨Int.le_refl _, fun e he => by cases he⟩
  | x :: r, q => by
    obtain ⟨h1, h2⟩ := iJ r (max q x.seq)
    have e : dY q (x :: r) = dY (max q x.seq) r := rfl
    rw [e]
    refine ⟨og, fun y hy => ?_⟩
    rcases A8.1 hy with rfl | hy
    . omega
    exact h2 y hy
def xD : ∀ (L : List Entry) (q : Int), dY q L = q ∨ ∃ e ∈ L, dY q L = e.seq
  | [], q => .inl rfl
  | x :: r, q => by
    have e : dY q (x :: r) = dY (max q x.seq) r := rfl
    rw [e]
    rcases xD r (max q x.seq) with h | ⟨y, hy, h⟩
    . rw [h]
      by_cases h1 : q <= x.seq
      . exact .inr ⟨x, A3, og⟩
      exact .inl og
    exact .inr ⟨y, A4 _ hy, h⟩
def uJ (q : Int) (L : List Entry) : dY q (L.filter (ovr q)) = dY q L := by
  have h1 := iJ (L.filter (ovr q)) q
  have h2 := iJ L q
  have a1 := xD (L.filter (ovr q)) q
  have a2 := xD L q
  have le : dY q (L.filter (ovr q)) <= dY q L := by
    rcases a1 with h | ⟨e, he, h⟩
    . omega
    rw [h]; exact h2.2 e ((List.mem_filter.1 he).1)
  have ge : dY q L <= dY q (L.filter (ovr q)) := by
    rcases a2 with h | ⟨e, he, h⟩
    . omega
    by_cases ho : q < e.seq
    . rw [h]; exact h1.2 e (List.mem_filter.2 ⟨he, by simp [ovr, ho]⟩)
    omega
  omega
def wB (bs : List (List Entry)) (q : Int) : pJ bs q = (bF (bs.flatten.filter (ovr q)), dY q bs.flatten) := by
  have row : ∀ (b : List Entry) (st : List Entry × Int), q <= st.2 -> iY q st b = (st.1 ++ b.filter (ovr q), dY st.2 b) := by
    intro b
    induction b with
    | nil => intro st h; simp [iY, dY]
    | cons x r ih =>
      intro st h
      have e : iY q st (x :: r) = iY q (jT q st x) r := rfl
      have e2 : dY st.2 (x :: r) = dY (max st.2 x.seq) r := rfl
      rw [e, e2]; unfold jT
      by_cases hx : q < x.seq
      . rw [if_pos hx, ih _ (by simp only; omega)]
        simp [ovr, hx]
      rw [if_neg hx, ih _ h, show max st.2 x.seq = st.2 by omega]
      simp [ovr, hx]
  have all : ∀ (bs : List (List Entry)) (st : List Entry × Int), q <= st.2 -> bs.foldl (iY q) st = (st.1 ++ bs.flatten.filter (ovr q), dY st.2 bs.flatten) := by
    intro bs
    induction bs with
    | nil => intro st h; simp [dY]
    | cons b r ih =>
      intro st h; rw [List.foldl_cons, row b st h, ih _ (by have := (iJ b st.2).1; simp only; omega)]
      simp [dY, List.foldl_append]
  rw [bBr]; unfold hJ
  rw [all bs ([], q) (Int.le_refl _)]
  simp
def aZx {b : List Entry} (h : isB b = true) : ∀ i, (hi : i + 1 < b.length) -> b[i + 1].seq = b[i].seq + 1 := by
  have hok := (bQ h).1
  intro i hi; unfold isB at h
  simp only [B7] at h
  have := gY.1 h.1 (i + 1) hi
  unfold jE at this; rw [A1 hi] at this
  have hp : bX b (i + 1) = b[i] := by unfold bX; rw [show i + 1 - 1 = i by omega, A1 og]; rfl
  rw [hp] at this
  have hr := tZ (hok b[i] (C9 og))
  have hw : IntKind.i64.wrap (b[i].seq + 1) = b[i].seq + 1 := by
    have := hr.1.2.1
    have := hr.1.2.2.1
    rw [w64]; omega
  rw [hw] at this
  simp only [Bool.not_eq_true', Bool.or_eq_false_iff, Bool.and_eq_false_imp, decide_eq_true_eq, Bool.not_eq_false', decide_eq_true_eq] at this
  exact this.2 og
def bFx {b : List Entry} (h : isB b = true) : ∀ i, (hi : i < b.length) -> b[i].seq = (dR b).seq - ((b.length - 1 - i : Nat) : Int) := by
  have hl := (bQ h).2.1
  have aux : ∀ d i, (hi : i < b.length) -> i + d = b.length - 1 -> b[i].seq = (dR b).seq - (d : Int) := by
    intro d
    induction d with
    | zero =>
      intro i hi e
      have : dR b = b[i] := by unfold dR; rw [<- e, Nat.add_zero, A1 hi]; rfl
      rw [this]; simp
    | succ d ih =>
      intro i hi e
      have h1 := ih (i + 1) og og
      have h2 := aZx h i og
      omega
  exact fun i hi => aux _ i hi og
def bLq {b : List Entry} (h : isB b = true) : ∀ e ∈ b, e.seq <= (dR b).seq := fun e he => by
  obtain ⟨i, hi, hx⟩ := lF he
  rw [A1 hi] at hx; cases hx
  have := bFx h i hi
  omega
def liv (q : Int) (b : List Entry) : Bool := decide (q < (dR b).seq)
def bCq (q : Int) : ∀ (bs : List (List Entry)) (out : ByteArray), bL (bs.foldl (cB q) out) = bL out ++ frL (bs.filter (liv q))
  | [], out => by simp [frL]
  | b :: r, out => by
    rw [List.foldl_cons, bCq q r]; unfold cB
    by_cases h : q < (dR b).seq
    . rw [if_pos h, List.filter_cons_of_pos (by simp [liv, h]), xS, qU, F8]
    rw [if_neg h, List.filter_cons_of_neg (by simp [liv, h])]
def aXt (bs : List (List Entry)) (q : Int) : bL (mR bs q) = frL (bs.filter (liv q)) := by
  have := bCq q bs ⟨#[]⟩
  unfold mR; rw [this]; rfl
def aCv {q : Int} : ∀ {bs : List (List Entry)}, (∀ b ∈ bs, isB b = true) -> (bs.filter (liv q)).flatten.filter (ovr q) = bs.flatten.filter (ovr q)
  | [], _ => rfl
  | b :: r, h => by
    have ih := aCv (q := q) fun x hx => h x (A4 _ hx)
    by_cases hl : q < (dR b).seq
    . rw [List.filter_cons_of_pos (by simp [liv, hl]), List.flatten_cons, List.flatten_cons, List.filter_append, List.filter_append, ih]
    rw [List.filter_cons_of_neg (by simp [liv, hl]), List.flatten_cons, List.filter_append, ih]
    have : b.filter (ovr q) = [] := List.filter_eq_nil_iff.2 fun e he => by
      have := bLq (h b A3) e he
      simp [ovr]; omega
    rw [this]; rfl
def bHw {bs : List (List Entry)} (q : Int) (h : ∀ b ∈ bs, isB b = true) : pJ (bs.filter (liv q)) q = pJ bs q := by
  rw [wB, wB, aCv h, <- uJ, aCv h, uJ]
section
variable {s : Store} {q q' d : Int} {a b c rs : List Run}
structure UpOk (s : Store) (a b c : List Run) (bs : List (List Entry)) : Prop where
  lg : s.disk.log.size <= 12000
  f0 : 0 <= s.disk.safe
  f1 : s.disk.safe <= (s.disk.log.size : Int)
  tl : s.tree.levels = [a, b, c]
  dl : s.disk.levels = [a, b, c]
  rt : RT s.tree.seq s.tree.mem a b c s.tree.snaps
  rd : RT s.disk.seq [] a b c []
  le : s.disk.seq <= s.tree.seq
  ok : ∀ b ∈ bs, isB b = true
  tx : bL s.disk.log = frL bs
  mm : s.tree.mem = bF (bs.flatten.filter (ovr s.disk.seq))
  sq : s.tree.seq = dY s.disk.seq bs.flatten
structure DnOk (s : Store) (a b c : List Run) (bs : List (List Entry)) : Prop where
  lg : s.disk.log.size <= 12000
  f0 : 0 <= s.disk.safe
  f1 : s.disk.safe <= (s.disk.log.size : Int)
  tz : s.tree = lZ
  dl : s.disk.levels = [a, b, c]
  rd : RT s.disk.seq [] a b c []
  bq : bs = (bN s.disk.log).1
  rt : RT (dY s.disk.seq bs.flatten) (bF (bs.flatten.filter (ovr s.disk.seq))) a b c []
def bCe : aJ s = true ↔ (s.disk.log.size <= 12000 /\ 0 <= s.disk.safe /\ s.disk.safe <= (s.disk.log.size : Int)) /\ (∃ a b c, s.disk.levels = [a, b, c] /\ RT s.disk.seq [] a b c []) /\ (if s.up = true then upS s else hP s.tree lZ && upS (eF s)) = true := by
  unfold aJ nN
  constructor
  . intro h; split at h
    . cases h
    rename_i h1
    simp only [D6, decide_eq_true_eq, not_or] at h1
    split at h
    . cases h
    rename_i h2
    exact ⟨og, (sO _).1 (by simpa using h2), h⟩
  rintro ⟨h1, h2, h3⟩
  rw [if_neg (by simp only [D6, decide_eq_true_eq, not_or]; omega), if_neg (by rw [(sO _).2 h2]; decide)]
  exact h3
def bCg (s : Store) : upS s = true ↔ cZ s.tree = true /\ s.disk.levels = s.tree.levels /\ 0 <= s.disk.seq /\ s.disk.seq <= s.tree.seq /\ (bN s.disk.log).2 = (s.disk.log.size : Int) /\ (pJ (bN s.disk.log).1 s.disk.seq) = (s.tree.mem, s.tree.seq) := by
  unfold upS aQk
  constructor
  . intro h; split at h
    . cases h
    rename_i h1
    simp only [D6, decide_eq_true_eq, not_or, Bool.not_eq_true', decide_eq_false_iff_not, Bool.not_eq_false, Decidable.not_not] at h1
    simp only [B7, decide_eq_true_eq] at h
    exact ⟨h1.1.1.1, h1.1.1.2, og, og, h.1.1, Prod.ext h.1.2 h.2⟩
  rintro ⟨h1, h2, h3, h4, h5, h6⟩
  rw [if_neg (by rw [h1, h2]; simp; omega), h6, h5]
  simp
def mE (hu : s.up = true) : aJ s = true ↔ ∃ a b c bs, UpOk s a b c bs := by
  rw [bCe, if_pos hu, bCg, sO]
  constructor
  . rintro ⟨h1, ⟨a, b, c, h2, h3⟩, ⟨a', b', c', h4, h5⟩, h6, h7, h8, h9, h10⟩
    rw [h6, h4] at h2; cases h2
    have hb := (uO (s := s.disk.log) og).1
    rw [wB] at h10
    exact ⟨a, b, c, (bN s.disk.log).1, h1.1, h1.2.1, h1.2.2, h4, by rw [h6, h4], h5, h3, h8, hb, bNo og h9, (congrArg Prod.fst h10).symm, (congrArg Prod.snd h10).symm⟩
  rintro ⟨a, b, c, bs, h⟩
  have h1 := h.lg
  have hr := aNw (s := s.disk.log) og h.ok h.tx
  refine ⟨⟨h.lg, h.f0, h.f1⟩, ⟨a, b, c, h.dl, h.rd⟩, ⟨a, b, c, h.tl, h.rt⟩, h.dl.trans h.tl.symm, h.rd.q0, h.le, by rw [hr], ?_⟩
  rw [hr, wB, h.mm, h.sq]
def bGp {s : ByteArray} (hs : s.size <= 12000) {bs : List (List Entry)} (q : Int) (hb : ∀ b ∈ bs, isB b = true) (hl : (mR bs q).size <= 12000) : bN (mR bs q) = (bs.filter (liv q), ((mR bs q).size : Int)) :=
  aNw og (fun b h => hb b (List.mem_filter.1 h).1) (aXt bs q)
def aKh (hu : s.up = false) : aJ s = true ↔ ∃ a b c bs, DnOk s a b c bs := by
  rw [bCe, if_neg (by rw [hu]; decide), B7, bCg, sO]
  have hlv : (eF s).disk.levels = (eF s).tree.levels := rfl
  have hdq : (eF s).disk.seq = s.disk.seq := rfl
  have htl : (eF s).tree.levels = s.disk.levels := rfl
  have htq : (eF s).tree.seq = (pJ (bN s.disk.log).1 s.disk.seq).2 := rfl
  have htm : (eF s).tree.mem = (pJ (bN s.disk.log).1 s.disk.seq).1 := rfl
  have hts : (eF s).tree.snaps = [] := rfl
  rw [htl, htq, htm, hts, wB]
  constructor
  . rintro ⟨h1, ⟨a, b, c, h2, h3⟩, h4, ⟨a', b', c', h5, h6⟩, -⟩
    rw [h2] at h5; cases h5
    exact ⟨a, b, c, _, h1.1, h1.2.1, h1.2.2, aVo h4, h2, h3, rfl, h6⟩
  rintro ⟨a, b, c, bs, h⟩
  have hq := h.bq
  subst hq
  have h1 := h.lg
  have hb := (uO (s := s.disk.log) og).1
  have hll : (eF s).disk.log = mR (bN s.disk.log).1 s.disk.seq := rfl
  have hlr := bGp h.lg s.disk.seq hb (aDs s h.lg)
  refine ⟨⟨h.lg, h.f0, h.f1⟩, ⟨a, b, c, h.dl, h.rd⟩, by rw [h.tz]; rfl, ⟨a, b, c, h.dl, h.rt⟩, rfl, h.rd.q0, ?_, by rw [hll, hlr], ?_⟩
  . have := (iJ (bN s.disk.log).1.flatten s.disk.seq).1
    rw [hdq]; exact this
  rw [hll, hlr, hdq]
  simp only
  rw [bHw _ hb, wB]
def aRt (q : Int) : eP [] q = true := rfl
def bJj {sn : List Int} (h : eP sn q = true) (hq : q <= q') : eP sn q' = true := by
  unfold eP at h ⊢
  simp only [B7] at h ⊢
  refine ⟨gY.2 fun i hi => ?_, h.2⟩
  have := gY.1 h.1 i hi
  unfold pM at this ⊢
  cases hx : sn[i]? with
  | none => rfl
  | some x =>
    rw [hx] at this
    simp at this ⊢
    exact ⟨og, this.2⟩
def aSw (h : aIn q rs) (hq : q <= q') : aIn q' rs := fun r hr => ⟨(h r hr).1, fun e he => Int.le_trans ((h r hr).2 e he) hq⟩
def yX (h : aIn q rs) : ∀ e ∈ aG rs, e.seq <= q := fun e he => by
  obtain ⟨r, hr, he⟩ := aR.1 he
  exact (h r hr).2 e he
def RT.move {m m' : List Entry} {sn sn' : List Int} (h : RT q m a b c sn) (h0 : RT d [] a b c []) (hd : d <= q') (hq : q' <= 100000) (hm : bU m' = true) (hl : m'.length <= 60) (hw : ∀ e ∈ m', e.seq <= q')
    (hn : ∀ e ∈ m', e ∈ m ∨ d < e.seq) (hs : eP sn' q' = true) : RT q' m' a b c sn' :=
  ⟨by have := h0.q0; omega, hq, hl, hm, hw, hs, h.la, h.lb, h.lc, aSw h0.ra hd, aSw h0.rb hd, aSw h0.rc hd, h.vb, h.vc, fun e he f hf hk => by
    rcases hn e he with h1 | h1
    . exact h.nm e h1 f hf hk
    have : f.seq <= d := by
      rcases A7.1 hf with hf | hf
      . exact yX h0.ra f hf
      rcases A7.1 hf with hf | hf
      . exact yX h0.rb f hf
      exact yX h0.rc f hf
    omega, h.na, h.nab, h.nbc⟩
def bGc (q : Int) (x y : List Entry) : dY q (x ++ y) = dY (dY q x) y := List.foldl_append
def RT.few {sn : List Int} {bs : List (List Entry)} {ws : List (List Entry)} (h : RT (dY d bs.flatten) (bF (bs.flatten.filter (ovr d))) a b c sn) (h0 : RT d [] a b c []) (hb : ∀ b ∈ bs, isB b = true) (hw : ws.flatten.Sublist bs.flatten) :
    RT (dY d ws.flatten) (bF (ws.flatten.filter (ovr d))) a b c [] := by
  have hs : (ws.flatten.filter (ovr d)).Sublist (bs.flatten.filter (ovr d)) := hw.filter _
  have hd : (bs.flatten.filter (ovr d)).Pairwise fun x y => x.key = y.key -> x.seq ≠ y.seq := (gU _).pairwise (aVl h.mo) (fun {x y} g e => fun e2 => g e.symm e2.symm)
  have hok : ∀ e ∈ bs.flatten, bJ e = true := fun e he => by
    obtain ⟨b, hb1, he⟩ := List.mem_flatten.1 he
    exact (bQ (hb b hb1)).1 e he
  have ht : dY d ws.flatten <= dY d bs.flatten := by
    rcases xD ws.flatten d with h1 | ⟨e, he, h1⟩
    . rw [h1]; exact (iJ _ _).1
    rw [h1]; exact (iJ _ _).2 e (hw.subset he)
  refine h.move h0 (iJ _ _).1 (by have := h.q1; omega) (aWi (fun e he => hok e ((List.mem_filter.1 (hs.subset he)).1)) (hd.sublist hs)) ?_ (fun e he => (iJ _ _).2 e (List.mem_filter.1 (aDj.1 he)).1) (fun e he => .inr (by simpa [ovr] using (List.mem_filter.1 (aDj.1 he)).2)) rfl
  have h1 := h.ml
  rw [mL] at h1 ⊢
  have := hs.length_le
  omega
def bMk {bs : List (List Entry)} (h : UpOk s a b c bs) (k : Int) : aJ (qZ s k) = true /\ (bN (qZ s k).disk.log).1 = mN bs (eR s k).toNat := by
  have h1 := h.lg
  have h2 := h.f0
  have h3 := h.f1
  have hn : 0 <= eR s k /\ eR s k <= (s.disk.log.size : Int) := by unfold eR; omega
  have hlog : (qZ s k).disk.log = s.disk.log.extract 0 (eR s k).toNat := rfl
  have hsz : (qZ s k).disk.log.size = (eR s k).toNat := by rw [hlog, iH _ _ _ og]; omega
  have hrd : bN (qZ s k).disk.log = (mN bs (eR s k).toNat, _) := aKt og h.ok (by rw [hlog, aBn, List.drop_zero, h.tx]; rfl)
  refine ⟨(aKh rfl).2 ⟨a, b, c, mN bs (eR s k).toNat, ?_⟩, by rw [hrd]⟩
  obtain ⟨r, hr⟩ := aFu bs (eR s k).toNat
  refine ⟨og, hn.1, by rw [hsz]; show eR s k <= _; omega, rfl, h.dl, h.rd, by rw [hrd], ?_⟩
  have hrt := h.rt
  rw [h.mm, h.sq] at hrt
  refine RT.few hrt h.rd h.ok ?_
  have := congrArg List.flatten hr
  rw [List.flatten_append] at this; rw [this]
  exact List.sublist_append_left _ _
def bMg {bs : List (List Entry)} (h : DnOk s a b c bs) : UpOk (eF s) a b c (bs.filter (liv s.disk.seq)) := by
  have hq := h.bq
  have h1 := h.lg
  have hb := (uO (s := s.disk.log) og).1
  have hl := aDs s h.lg
  subst hq
  have hrt := h.rt
  have hlr := aCv (q := s.disk.seq) hb
  have h7 : (eF s).disk.safe = ((eF s).disk.log.size : Int) := rfl
  have h8 : (eF s).tree.mem = (pJ (bN s.disk.log).1 s.disk.seq).1 := rfl
  have h9 : (eF s).tree.seq = (pJ (bN s.disk.log).1 s.disk.seq).2 := rfl
  rw [wB] at h8 h9
  refine ⟨hl, by rw [h7]; omega, by rw [h7]; exact Int.le_refl _, h.dl, h.dl, by rw [h8, h9]; exact hrt, h.rd, by rw [h9]; exact (iJ _ _).1, fun b hb' => hb b (List.mem_filter.1 hb').1, aXt _ _, ?_, ?_⟩
  . rw [h8]; show _ = bF (List.filter (ovr s.disk.seq) _); rw [hlr]
  rw [h9]; show _ = dY s.disk.seq _; rw [<- uJ, <- hlr, uJ]
def bNc {bs : List (List Entry)} (h : UpOk s a b c bs) : UpOk { s with disk := { s.disk with safe := (s.disk.log.size : Int) } } a b c bs :=
  ⟨h.lg, Int.natCast_nonneg _, Int.le_refl _, h.tl, h.dl, h.rt, h.rd, h.le, h.ok, h.tx, h.mm, h.sq⟩
def aNo {b : List Entry} (h : (aP b q).2 = true) : (aP b q).1.length = b.length /\ 1 <= b.length /\ b.length <= 12 /\ (∀ e ∈ (aP b q).1, bJ e = true) /\ ∀ (k : Nat) (d : Entry), (aP b q).1[k]? = some d -> d.seq = q + 1 + k := by
  have hs : (aP b q).2 = ((uG q b 0 []).2 && (decide (1 <= (b.length : Int)) && decide ((b.length : Int) <= 12))) := rfl
  rw [hs] at h
  simp only [B7, decide_eq_true_eq] at h
  have hl : ∀ (r : List Entry) (i : Nat) (out : List Entry), (uG q r i out).2 = true -> (uG q r i out).1.length = out.length + r.length := by
    intro r
    induction r with
    | nil => intro i out _; simp [uG]
    | cons e r ih =>
      intro i out hg
      unfold uG at hg ⊢
      split at hg
      . split at hg
        . rename_i h1 h2
          rw [if_pos h1, if_pos h2, ih _ _ hg]; simp; omega
        cases hg
      cases hg
  have := hl b 0 [] h.1
  rw [List.length_nil, C3] at this
  exact ⟨this, og, og, aSm q b 0 [] (fun e he => by cases he), aWl q b 0 [] rfl (fun k d hk => by cases hk)⟩
def aVk {b : List Entry} (h : (aP b q).2 = true) : isB (aP b q).1 = true := by
  obtain ⟨h1, h2, h3, h4, h5⟩ := aNo h
  unfold isB; simp only [B7, decide_eq_true_eq]
  refine ⟨gY.2 fun i hi => ?_, og, og⟩
  unfold jE; rw [A1 hi]
  have g1 := h4 _ (C9 hi)
  have g2 := h5 i _ (A1 hi)
  simp only [g1, Bool.not_true, Bool.false_or, Bool.not_eq_true', Bool.and_eq_false_imp, decide_eq_true_eq, Bool.not_eq_false']; intro h0
  have hp : bX (aP b q).1 i = (aP b q).1[i - 1] := by unfold bX; rw [A1 og]; rfl
  have g3 := h5 (i - 1) _ (A1 (show i - 1 < (aP b q).1.length by omega))
  have g4 := (tZ (h4 _ (C9 (show i - 1 < (aP b q).1.length by omega)))).1
  rw [hp, g2, g3, IntKind.wrap_i64]; omega
def bFq {b : List Entry} (h : (aP b q).2 = true) : (∀ e ∈ (aP b q).1, q < e.seq /\ e.seq <= q + b.length) /\ ((aP b q).1.Pairwise fun x y => x.key = y.key -> x.seq ≠ y.seq) /\ dY q (aP b q).1 = q + b.length := by
  obtain ⟨h1, h2, h3, h4, h5⟩ := aNo h
  have g : ∀ e ∈ (aP b q).1, q < e.seq /\ e.seq <= q + b.length := fun e he => by
    obtain ⟨i, hi, hx⟩ := lF he
    have := h5 i e hx
    omega
  refine ⟨g, G3.2 fun i j hi hj hij _ e => ?_, ?_⟩
  . have a1 := h5 i _ (A1 hi)
    have a2 := h5 j _ (A1 hj)
    omega
  have hlast := h5 (b.length - 1) _ (A1 (show b.length - 1 < (aP b q).1.length by omega))
  have a1 := (iJ (aP b q).1 q).2 _ (C9 (show b.length - 1 < (aP b q).1.length by omega))
  rcases xD (aP b q).1 q with h | ⟨e, he, h⟩
  . omega
  have := g e he; omega
def bKr {bs : List (List Entry)} {x : List Entry} (h : UpOk s a b c bs) (hw : (eO s x).2 = true) : UpOk (eO s x).1 a b c (bs ++ [(aP x s.tree.seq).1]) /\ (eO s x).1.up = s.up /\ (aP x s.tree.seq).2 = true := by
  unfold eO at hw ⊢
  split at hw
  . cases hw
  rename_i hb
  rw [if_neg hb]
  simp only [uS, D6, Bool.not_eq_true', decide_eq_true_eq, not_or, Bool.not_eq_false] at hb
  obtain ⟨⟨-, h1⟩, h2⟩ := hb
  unfold iA at h1; split at h1
  . cases h1
  rename_i hb2
  have hwr : (iA s.tree x).1 = { s.tree with mem := (aP x s.tree.seq).1.foldl bY s.tree.mem, seq := s.tree.seq + ((aP x s.tree.seq).1.length : Int) } := by unfold iA; rw [if_neg hb2]
  simp only [aEd, D6, Bool.not_eq_true', decide_eq_true_eq, not_or, Bool.not_eq_false] at hb2
  obtain ⟨k1, k2⟩ := hb2
  have hbt := aVk k1
  obtain ⟨e1, e2, e3, e4, e5⟩ := aNo k1
  obtain ⟨m1, m2, m3⟩ := bFq k1
  rw [e1] at k2 hwr
  have hF : ((bs ++ [(aP x s.tree.seq).1]).flatten.filter (ovr s.disk.seq)) = bs.flatten.filter (ovr s.disk.seq) ++ (aP x s.tree.seq).1 := by
    rw [List.flatten_append, List.filter_append]
    congr 1
    rw [List.flatten_cons, List.flatten_nil, List.append_nil, List.filter_eq_self]; intro e he
    have := (m1 e he).1
    have := h.le
    simp [ovr]; omega
  have hmem : (iA s.tree x).1.mem = bF (s.tree.mem ++ (aP x s.tree.seq).1) := by rw [hwr]; exact aWg h.rt.mo _
  have hq : (iA s.tree x).1.seq = s.tree.seq + x.length := by rw [hwr]
  have hlast : s.tree.seq + x.length <= 100000 := by
    have a1 := e5 (x.length - 1) _ (A1 (show x.length - 1 < (aP x s.tree.seq).1.length by omega))
    have a2 := (tZ (e4 _ (C9 (show x.length - 1 < (aP x s.tree.seq).1.length by omega)))).1
    omega
  have hd : (s.tree.mem ++ (aP x s.tree.seq).1).Pairwise fun x y => x.key = y.key -> x.seq ≠ y.seq := by
    refine List.pairwise_append.2 ⟨aVl h.rt.mo, m2, fun y hy z hz _ e => ?_⟩
    have := h.rt.mw y hy
    have := (m1 z hz).1
    omega
  refine ⟨⟨by simp only; omega, h.f0, ?_, by rw [hwr]; exact h.tl, h.dl, ?_, h.rd, ?_, fun y hy => ?_, ?_, ?_, ?_⟩, rfl, k1⟩
  . have := h.f1
    show s.disk.safe <= ((s.disk.log ++ fTx (aP x s.tree.seq).1).size : Int)
    rw [B8]; omega
  . show RT (iA s.tree x).1.seq (iA s.tree x).1.mem a b c (iA s.tree x).1.snaps
    have hsn : (iA s.tree x).1.snaps = s.tree.snaps := by rw [hwr]
    rw [hq, hmem, hsn]
    refine h.rt.move (RT.move h.rt h.rd (d := s.disk.seq) (q' := s.tree.seq) (m' := []) h.le h.rt.q1 rfl oS oS oS (aRt _)) og hlast (aWi (fun e he => ?_) hd) ?_ (fun e he => ?_) (fun e he => ?_) (bJj h.rt.hs og)
    . rcases A7.1 he with he | he
      . exact lY h.rt.mo he
      exact e4 e he
    . rw [mL, A2, e1]; omega
    . rcases A7.1 (aDj.1 he) with he | he
      . have := h.rt.mw e he; omega
      exact (m1 e he).2
    rcases A7.1 (aDj.1 he) with he | he
    . exact .inl he
    exact .inr (m1 e he).1
  . show s.disk.seq <= (iA s.tree x).1.seq
    have := h.le
    rw [hq]; omega
  . rcases A7.1 hy with hy | hy
    . exact h.ok y hy
    rw [B6.1 hy]; exact hbt
  . show bL (s.disk.log ++ _) = _
    rw [qU, h.tx, bDp]
    simp [frL]
  . show (iA s.tree x).1.mem = bF (List.filter (ovr s.disk.seq) _)
    rw [hF, hmem, h.mm]
    have := aWg (show bU (bF (bs.flatten.filter (ovr s.disk.seq))) = true by rw [<- h.mm]; exact h.rt.mo) (aP x s.tree.seq).1
    rw [<- this]; unfold bF; rw [List.foldl_append]
  show (iA s.tree x).1.seq = dY s.disk.seq _
  rw [hq, List.flatten_append, bGc, <- h.sq]
  simp [m3]
end
section
variable {s : Store} {b a c : List Run} {q level pick : Int} {m X : List Entry} {bot : Bool}
def aHo (ls : List Entry) : ∀ f e, ls.length - e <= f -> aAr ls (dX ls f e) = false
  | 0, e, h => by
    unfold dX aAr
    rw [decide_eq_false og]; rfl
  | f + 1, e, h => by
    unfold dX
    cases hc : aAr ls e with
    | false => rw [if_neg dg]; exact hc
    | true => rw [if_pos rfl]; exact aHo ls f (e + 1) og
def bQf {x y : Entry} (h : entLt x y = true) (hk : x.key ≠ y.key) : Op.bytesLess x.key.toList y.key.toList = true := by
  unfold entLt at h; rw [aBv, decide_eq_false hk] at h
  simpa using h
def aXp : ∀ f (ls : List Entry), ls.length <= f -> bU ls = true -> (wL f ls).Pairwise fun p q => ∀ x ∈ p, ∀ y ∈ q, Op.bytesLess x.key.toList y.key.toList = true
  | 0, ls, h, _ => List.Pairwise.nil
  | f + 1, ls, h, ho => by
    unfold wL; split
    . exact List.Pairwise.nil
    rename_i hne
    have hb := aGc hne
    have hrest := zN f (ls.drop (eN ls)) (by rw [B1]; omega)
    refine List.pairwise_cons.2 ⟨fun p hp x hx y hy => ?_, aXp f _ (by rw [B1]; omega) (aPl ho (List.drop_sublist _ _))⟩
    have hy : y ∈ ls.drop (eN ls) := by rw [<- hrest.1]; exact List.mem_flatten.2 ⟨p, hp, hy⟩
    obtain ⟨i, hi, gi⟩ := List.mem_iff_getElem.1 hx
    obtain ⟨j, hj, gj⟩ := List.mem_iff_getElem.1 hy
    rw [B0] at hi; rw [B1] at hj; rw [List.getElem_take] at gi; rw [List.getElem_drop] at gj
    have hs := aHo ls ls.length 1 og
    have hs : aAr ls (eN ls) = false := hs
    have hlt : eN ls < ls.length := by omega
    unfold aAr at hs; rw [decide_eq_true og, Bool.true_and, Bool.or_eq_false_iff, decide_eq_false_iff_not, decide_eq_false_iff_not] at hs
    have e1 : qH ls (eN ls) = ls[eN ls] := by unfold qH; rw [A1 hlt]; rfl
    have e2 : bX ls (eN ls) = ls[eN ls - 1] := by unfold bX; rw [A1 og]; rfl
    rw [e1, e2] at hs
    have hpw := G3.1 (qT ho)
    have hm := bQf (hpw (eN ls - 1) (eN ls) og hlt og) (fun e => hs.2 e.symm)
    have hx2 : Op.bytesLess ls[eN ls - 1].key.toList x.key.toList = false := by
      rcases Nat.lt_or_ge i (eN ls - 1) with h3 | h3
      . rw [<- gi]; exact aJd (hpw i (eN ls - 1) og og h3)
      have : i = eN ls - 1 := by omega
      subst this
      rw [<- gi]; exact bP _
    have hy2 : Op.bytesLess y.key.toList ls[eN ls].key.toList = false := by
      rcases Nat.eq_zero_or_pos j with h3 | h3
      . subst h3; rw [<- gj]; exact bP _
      rw [<- gj]; exact aJd (hpw (eN ls) (eN ls + j) og og og)
    exact lU (rT hx2 hm) hy2
def sG {X X' Y Y' : List Entry} (h : iZ X Y) (hx : ∀ e ∈ X', ∃ g ∈ X, kp e = kp g) (hy : ∀ e ∈ Y', ∃ g ∈ Y, kp e = kp g) : iZ X' Y' := fun e he f hf hk => by
  obtain ⟨g, hg, eg⟩ := hx e he
  obtain ⟨k, hk2, ek⟩ := hy f hf
  have b1 : e.key = g.key := congrArg Prod.fst eg
  have b2 : f.key = k.key := congrArg Prod.fst ek
  have := h g hg k hk2 (by rw [<- b1, <- b2]; exact hk)
  have a1 : e.seq = g.seq := congrArg Prod.snd eg
  have a2 : f.seq = k.seq := congrArg Prod.snd ek
  omega
def aWn (x y : List Run) : aG (x ++ y) = aG x ++ aG y := by unfold aG; rw [List.flatMap_append]
def aJy {r : Run} (h : r.ents ≠ []) : ∃ e ∈ r.ents, aL r = e.key := by
  have := F7.2 h
  unfold aL; rw [A1 og]
  exact ⟨_, C9 og, rfl⟩
def aQj {taken beneath : List Run} {ts : List Int} (ht : taken ≠ []) (hr : aIn q taken) (hb : aIn q beneath) (hv : Lvl beneath) (ha : aAm ((taken ++ beneath).map Run.ents)) (hf : nT (lV taken beneath ts bot) = true) :
    (lV taken beneath ts bot).length <= 8 /\ aIn q (lV taken beneath ts bot) /\ Lvl (lV taken beneath ts bot) /\ ∀ e ∈ aG (lV taken beneath ts bot), ∃ g ∈ aG taken ++ aG beneath, kp e = kp g := by
  obtain ⟨f, t, ft, tl, -, -, hN, ho, hk, hsep⟩ := bIb (ts := ts) (bot := bot) ht (fun r h => (hr r h).1) hv ha
  generalize cI (aFm taken beneath) ts bot = L at hN ho hk hsep
  have hfit := hf
  rw [hN] at hf; unfold nT at hf
  simp only [B7, decide_eq_true_eq, C8, Bool.not_eq_true', decide_eq_false_iff_not] at hf
  obtain ⟨c1, c2⟩ := zN L.length L (A0 _)
  have hcut : ∀ r ∈ wE L, r.ents ≠ [] /\ (∀ e ∈ r.ents, e ∈ L) /\ bU r.ents = true /\ r.mask = bS r.ents := fun r h => by
    rw [aEk] at h
    obtain ⟨p, hp, rfl⟩ := A9.1 h
    have hsub : p.Sublist L := by rw [<- c1]; exact H8 hp
    exact ⟨c2 p hp, fun e he => hsub.subset he, aPl ho hsub, rfl⟩
  have hcr : ∀ r ∈ wE L, cE r = true := fun r h => by
    obtain ⟨h1, h2, h3, h4⟩ := hcut r h
    have h5 := F7.2 h1
    have h6 := hf.1 r (List.mem_append_left _ (List.mem_append_right _ h))
    unfold cE; simp only [B7, decide_eq_true_eq]
    exact ⟨⟨⟨og, og⟩, h3⟩, h4⟩
  have hkp : ∀ e ∈ aG (lV taken beneath ts bot), ∃ g ∈ aG taken ++ aG beneath, kp e = kp g := fun e he => by
    obtain ⟨r, hr2, he⟩ := aR.1 he
    rw [hN] at hr2
    rcases A7.1 hr2 with h | h
    . rcases A7.1 h with h | h
      . exact ⟨e, List.mem_append_right _ (aR.2 ⟨r, D1 h, he⟩), rfl⟩
      exact hk e ((hcut r h).2.1 e he)
    exact ⟨e, List.mem_append_right _ (aR.2 ⟨r, D2 h, he⟩), rfl⟩
  have hok : ∀ r ∈ lV taken beneath ts bot, cE r = true := fun r h => by
    rw [hN] at h
    rcases A7.1 h with h | h
    . rcases A7.1 h with h | h
      . exact (hb r (D1 h)).1
      exact hcr r h
    exact (hb r (D2 h)).1
  refine ⟨by rw [hN]; omega, fun r h => ⟨hok r h, fun e he => ?_⟩, ⟨hok, ?_⟩, hkp⟩
  . obtain ⟨g, hg, eg⟩ := hkp e (aR.2 ⟨r, h, he⟩)
    have a1 : e.seq = g.seq := congrArg Prod.snd eg
    rw [a1]
    rcases A7.1 hg with hg | hg
    . exact yX hr g hg
    exact yX hb g hg
  have hpw := G3.1 hv.2
  rw [hN]
  refine List.pairwise_append.2 ⟨List.pairwise_append.2 ⟨hv.2.sublist (List.take_sublist _ _), ?_, fun x hx y hy => ?_⟩, hv.2.sublist (List.drop_sublist _ _), fun x hx y hy => ?_⟩
  . rw [aEk, List.pairwise_map]
    refine List.Pairwise.imp_of_mem (fun {p r} hp hr g => ?_) (aXp L.length L (A0 _) ho)
    obtain ⟨e, he, ek⟩ := aJy (r := ⟨p, bS p⟩) (c2 p hp)
    obtain ⟨y, ys, rfl⟩ := G4 (c2 r hr)
    rw [ek]
    exact g e he y A3
  . obtain ⟨e, he, ek⟩ := (bCt ho).1 y hy
    rw [ek]
    exact (hsep e he).1 x hx
  rcases A7.1 hx with hx | hx
  . obtain ⟨i, hi, gi⟩ := List.mem_iff_getElem.1 hx
    obtain ⟨j, hj, gj⟩ := List.mem_iff_getElem.1 hy
    rw [B0] at hi; rw [B1] at hj; rw [List.getElem_take] at gi; rw [List.getElem_drop] at gj; rw [<- gi, <- gj]
    exact hpw i (t + j) og og og
  obtain ⟨e, he, ek⟩ := aJy (hcut x hx).1
  rw [ek]
  exact (hsep e ((hcut x hx).2.1 e he)).2 y hy
def RT.alone {sn : List Int} (h : RT q m a b c sn) : aAm (c.map Run.ents ++ (b.map Run.ents ++ a.map Run.ents)) := by
  have hb := zF ((aIq h.vb.1).1 h.vb) h.vb.1
  have hc := zF ((aIq h.vc.1).1 h.vc) h.vc.1
  have g : ∀ r : Run, cE r = true -> bU r.ents = true := fun r hr => by simp only [cE, B7] at hr; exact hr.1.2
  have nab := bZ.1 h.nab
  refine aXd (fun l hl => ?_) (List.pairwise_append.2 ⟨hc, List.pairwise_append.2 ⟨hb, List.pairwise_map.2 (h.na.imp fun {x y} k => (dE _ _).2 k), fun x hx y hy => ?_⟩, fun x hx y hy => ?_⟩)
  . simp only [A7, A9] at hl
    rcases hl with ⟨r, hr, rfl⟩ | ⟨r, hr, rfl⟩ | ⟨r, hr, rfl⟩
    . exact g r (h.rc r hr).1
    . exact g r (h.rb r hr).1
    exact g r (h.ra r hr).1
  . obtain ⟨r, hr, rfl⟩ := A9.1 hx
    obtain ⟨s, hs, rfl⟩ := A9.1 hy
    exact (dE _ _).2 (lG nab.1 (fun e he => aR.2 ⟨s, hs, he⟩) fun e he => aR.2 ⟨r, hr, he⟩)
  obtain ⟨r, hr, rfl⟩ := A9.1 hx
  rcases A7.1 hy with hy | hy
  . obtain ⟨s, hs, rfl⟩ := A9.1 hy
    exact (dE _ _).2 (lG h.nbc (fun e he => aR.2 ⟨s, hs, he⟩) fun e he => aR.2 ⟨r, hr, he⟩)
  obtain ⟨s, hs, rfl⟩ := A9.1 hy
  exact (dE _ _).2 (lG nab.2 (fun e he => aR.2 ⟨s, hs, he⟩) fun e he => aR.2 ⟨r, hr, he⟩)
def wA : ∀ e ∈ X, ∃ g ∈ X, kp e = kp g := fun e he => ⟨e, he, rfl⟩
def RT.comp0 {sn ts : List Int} (h : RT q m a b c sn) (ha : a ≠ []) (hf : nT (lV a b ts bot) = true) : RT q m [] (lV a b ts bot) c sn := by
  have hal : aAm ((a ++ b).map Run.ents) := aGj h.alone fun l hl => by
    rw [D5, A7] at hl; simp only [A7]
    exact hl.elim (fun h => .inr (.inr h)) fun h => .inr (.inl h)
  obtain ⟨n1, n2, n3, n4⟩ := aQj ha h.ra h.rb h.vb hal hf
  have nab := bZ.1 h.nab
  obtain ⟨m1, m23⟩ := bZ.1 h.nm
  obtain ⟨m2, m3⟩ := bZ.1 m23
  have hbc : iZ (aG a ++ aG b) (aG c) := fun e he f hf => (A7.1 he).elim (fun he => nab.2 e he f hf) fun he => h.nbc e he f hf
  exact ⟨h.q0, h.q1, h.ml, h.mo, h.mw, h.hs, by simp, n1, h.lc, fun r hr => (by cases hr), n2, h.rc, n3, h.vc, bZ.2 ⟨fun e _ f hf => (by cases hf), bZ.2 ⟨sG (bZ.2 ⟨m1, m2⟩) wA n4, m3⟩⟩, List.Pairwise.nil, fun e he => (by cases he), sG hbc n4 wA⟩
def bDi (b : List Run) (p : Nat) : (uA b p).Sublist b := by
  unfold uA
  have := List.take_append_drop p b
  have h2 : (b.take p ++ b.drop (p + 1)).Sublist (b.take p ++ b.drop p) := List.Sublist.append (List.Sublist.refl _) (by rw [<- List.drop_drop]; exact List.drop_sublist _ _)
  rw [this] at h2; exact h2
def bCu (b : List Run) (p : Nat) : ∀ r ∈ lW b p, r ∈ b := fun r hr => D1 (D2 hr)
def bMe (h : Lvl b) (p : Nat) : iZ (aG (uA b p)) (aG (lW b p)) := fun e he f hf hk => by
  exfalso
  obtain ⟨r, hr, he⟩ := aR.1 he
  obtain ⟨s, hs, hf⟩ := aR.1 hf
  have hpw := G3.1 h.2
  unfold lW at hs
  obtain ⟨j, hj, gj⟩ := List.mem_iff_getElem.1 hs
  rw [B1, B0] at hj; rw [List.getElem_drop, List.getElem_take] at gj
  have hj0 : j = 0 := by omega
  subst hj0
  have ks := uM (h.1 s (bCu b p s hs)) hf
  have kr := uM (h.1 r ((bDi b p).subset hr)) he
  unfold uA at hr
  rcases A7.1 hr with hr | hr
  . obtain ⟨i, hi, gi⟩ := List.mem_iff_getElem.1 hr
    rw [B0] at hi; rw [List.getElem_take] at gi
    have h1 := hpw i (p + 0) og og og
    rw [gi, gj] at h1
    have := lU (rT kr.2 h1) ks.1
    rw [hk, bP] at this; cases this
  obtain ⟨i, hi, gi⟩ := List.mem_iff_getElem.1 hr
  rw [B1] at hi; rw [List.getElem_drop] at gi
  have h1 := hpw (p + 0) (p + 1 + i) og og og
  rw [gi, gj] at h1
  have := lU (rT ks.2 h1) kr.1
  rw [hk, bP] at this; cases this
def RT.comp1 {sn ts : List Int} {p : Nat} (h : RT q m a b c sn) (hp : p < b.length) (hf : nT (lV (lW b p) c ts bot) = true) : RT q m a (uA b p) (lV (lW b p) c ts bot) sn := by
  have hsub := bDi b p
  have hone := bCu b p
  have hne : lW b p ≠ [] := by
    intro e
    have := congrArg List.length e
    unfold lW at this; rw [B1, B0, List.length_nil] at this; omega
  have hal : aAm ((lW b p ++ c).map Run.ents) := aGj h.alone fun l hl => by
    rw [D5, A7] at hl; simp only [A7]
    refine hl.elim (fun h => ?_) fun h => .inl h
    obtain ⟨r, hr, rfl⟩ := A9.1 h
    exact .inr (.inl (D3 (hone r hr)))
  obtain ⟨n1, n2, n3, n4⟩ := aQj hne (fun r hr => h.rb r (hone r hr)) h.rc h.vc hal hf
  have s1 : ∀ e ∈ aG (uA b p), e ∈ aG b := fun e he => by
    obtain ⟨r, hr, he⟩ := aR.1 he
    exact aR.2 ⟨r, hsub.subset hr, he⟩
  have s2 : ∀ e ∈ aG (lW b p), e ∈ aG b := fun e he => by
    obtain ⟨r, hr, he⟩ := aR.1 he
    exact aR.2 ⟨r, hone r hr, he⟩
  obtain ⟨m1, m23⟩ := bZ.1 h.nm
  obtain ⟨m2, m3⟩ := bZ.1 m23
  obtain ⟨a1, a2⟩ := bZ.1 h.nab
  have id' : ∀ {X : List Entry}, ∀ e ∈ X, e ∈ X := fun e he => he
  exact ⟨h.q0, h.q1, h.ml, h.mo, h.mw, h.hs, h.la, by have := hsub.length_le; have := h.lb; omega, n1, h.ra, fun r hr => h.rb r (hsub.subset hr), n2, ⟨fun r hr => h.vb.1 r (hsub.subset hr), h.vb.2.sublist hsub⟩, n3,
    bZ.2 ⟨m1, bZ.2 ⟨lG m2 id' s1, sG (bZ.2 ⟨lG m2 id' s2, m3⟩) wA n4⟩⟩, h.na, bZ.2 ⟨lG a1 id' s1, sG (bZ.2 ⟨lG a1 id' s2, a2⟩) wA n4⟩,
    sG (bZ.2 ⟨bMe h.vb p, lG h.nbc s1 id'⟩) wA n4⟩
def bMf {sn : List Int} (h1 : (qE ⟨q, m, [a, b, c], sn⟩ level pick).2 = true) : ∃ a' b' c', (qE ⟨q, m, [a, b, c], sn⟩ level pick).1 = ⟨q, m, [a', b', c'], sn⟩ /\ ∀ {q' m' sn'}, RT q' m' a b c sn' -> RT q' m' a' b' c' sn' := by
  unfold qE at h1 ⊢
  simp only at h1 ⊢
  split at h1
  . rename_i hc
    rw [if_pos hc]
    simp only [B7, decide_eq_true_eq] at hc
    have ha : a ≠ [] := fun e => by rw [e] at hc; simp at hc
    split at h1
    . cases h1
    rename_i hf
    rw [if_neg hf]
    exact ⟨_, _, _, rfl, fun h => h.comp0 ha (by simpa using hf)⟩
  rename_i hc
  rw [if_neg hc]; split at h1
  . rename_i hc2
    rw [if_pos hc2]
    simp only [B7, decide_eq_true_eq] at hc2
    split at h1
    . cases h1
    rename_i hf
    rw [if_neg hf]
    exact ⟨_, _, _, rfl, fun h => h.comp1 og (by simpa using hf)⟩
  cases h1
def bLv {sn : List Int} (h1 : (gG ⟨q, m, [a, b, c], sn⟩).2 = true) (h : RT q m a b c sn) : ∃ a', (gG ⟨q, m, [a, b, c], sn⟩).1 = ⟨q, [], [a', b, c], sn⟩ /\ ∀ {sn'}, eP sn' q = true -> RT q [] a' b c sn' := by
  unfold gG at h1 ⊢
  simp only at h1 ⊢
  split at h1
  . cases h1
  rename_i hc
  rw [if_neg hc]
  simp only [D6, decide_eq_true_eq, not_or] at hc
  refine ⟨_, rfl, fun hs => ?_⟩
  rw [aQf]
  obtain ⟨s1, s2⟩ := aRx m sn false
  have s3 := aYn m sn false
  have s4 := (aNc (ts := sn) (b := false) h.mo).2 (fun e => hc.1 (by rw [e]; rfl))
  have s5 := F7.2 s4
  have s6 := h.ml
  have hR : ∀ e ∈ aG [(⟨cI m sn false, bS (cI m sn false)⟩ : Run)], ∃ g ∈ m, kp e = kp g := fun e he => by
    obtain ⟨r, hr, he⟩ := aR.1 he
    rw [B6.1 hr] at he
    exact s2 e he
  have hro : cE ⟨cI m sn false, bS (cI m sn false)⟩ = true := by
    unfold cE; simp only [B7, decide_eq_true_eq]
    exact ⟨⟨⟨og, og⟩, s1⟩, trivial⟩
  obtain ⟨m1, m23⟩ := bZ.1 h.nm
  exact ⟨h.q0, h.q1, by simp, rfl, fun e he => (by cases he), hs, by rw [A2, List.length_singleton]; omega, h.lb, h.lc, fun r hr => by
      rcases A7.1 hr with hr | hr
      . exact h.ra r hr
      . rw [B6.1 hr]
        refine ⟨hro, fun e he => ?_⟩
        obtain ⟨g, hg, eg⟩ := s2 e he
        have : e.seq = g.seq := congrArg Prod.snd eg
        rw [this]; exact h.mw g hg, h.rb, h.rc, h.vb, h.vc, fun e he => (by cases he), List.pairwise_append.2 ⟨h.na, List.pairwise_singleton _ _, fun x hx y hy => by
      rw [B6.1 hy]
      exact sG (lG m1 (fun e he => he) fun e he => aR.2 ⟨x, hx, he⟩) s2 wA⟩, by
      rw [aWn]; intro e he f hf hk
      rcases A7.1 he with he | he
      . exact h.nab e he f hf hk
      exact sG m23 hR wA e he f hf hk, h.nbc⟩
def bJc {bs : List (List Entry)} (h : UpOk s a b c bs) (hu : s.up = true) (h1 : (flS s).2 = true) : ∃ a', UpOk (flS s).1 a' b c [] /\ (flS s).1.up = true /\ (flS s).1.disk.seq = s.tree.seq /\ (flS s).1.tree.mem = [] /\ (flS s).1.tree.seq = s.tree.seq := by
  have ht : s.tree = ⟨s.tree.seq, s.tree.mem, [a, b, c], s.tree.snaps⟩ := by rw [<- h.tl]
  unfold flS at h1 ⊢
  rw [if_neg (by rw [hu]; decide)] at h1 ⊢
  split at h1
  . cases h1
  rename_i hf
  rw [if_neg hf]
  have hf : (gG s.tree).2 = true := by simpa using hf
  rw [ht] at hf
  obtain ⟨a', e, hr⟩ := bLv hf h.rt
  rw [<- ht] at e
  refine ⟨a', ?_⟩
  rw [e]
  exact ⟨⟨by show (0 : Nat) <= _; omega, Int.le_refl _, Int.le_refl _, rfl, rfl, hr h.rt.hs, hr (aRt _), Int.le_refl _, fun b hb => (by cases hb), rfl, rfl, rfl⟩, hu, rfl, rfl, rfl⟩
def aLq (h : aJ s = true) : cD s = s := by
  by_cases hu : s.up = true
  . unfold cD; rw [if_pos hu]
  obtain ⟨a, b, c, bs, g⟩ := (aKh (by simpa using hu)).1 h
  unfold cD; rw [if_neg hu, <- g.tz]
def bHx (h : aJ s = true) : aJ (flS s).1 = true := by
  cases hu : s.up with
  | false => unfold flS; rw [if_pos hu]; exact h
  | true =>
    obtain ⟨a, b, c, bs, g⟩ := (mE hu).1 h
    cases h1 : (flS s).2 with
    | true =>
      obtain ⟨a', k1, k2, -⟩ := bJc g hu h1
      exact (mE k2).2 ⟨a', b, c, [], k1⟩
    | false =>
      unfold flS at h1 ⊢
      rw [if_neg (by rw [hu]; decide)] at h1 ⊢
      split at h1
      . rename_i hf; rw [if_pos hf]; exact h
      cases h1
def bNs {bs : List (List Entry)} (h : UpOk s a b c bs) (hu : s.up = true) (h1 : (bB s level pick).2 = true) : ∃ a' b' c', UpOk (bB s level pick).1 a' b' c' bs /\ (bB s level pick).1.up = true := by
  have hok : aJ s = true := (mE hu).2 ⟨a, b, c, bs, h⟩
  have hcp := aLq hok
  have ht : s.tree = ⟨s.tree.seq, s.tree.mem, [a, b, c], s.tree.snaps⟩ := by rw [<- h.tl]
  have htr : cZ s.tree = true := (sO _).2 ⟨a, b, c, h.tl, h.rt⟩
  have hc : dH s.tree level pick = qE s.tree level pick := by unfold dH; rw [if_neg (by rw [htr]; decide)]
  unfold bB at h1 ⊢
  rw [if_neg (by rw [hok]; decide), if_neg (by rw [hu]; decide), hc] at h1 ⊢
  split at h1
  . cases h1
  rename_i hf
  rw [if_neg hf, hcp]
  have hf : (qE s.tree level pick).2 = true := by simpa using hf
  rw [ht] at hf
  obtain ⟨a', b', c', e, hr⟩ := bMf hf
  rw [<- ht] at e
  refine ⟨a', b', c', ?_⟩
  rw [e]
  exact ⟨⟨h.lg, h.f0, h.f1, rfl, rfl, hr h.rt, hr h.rd, h.le, h.ok, h.tx, h.mm, h.sq⟩, hu⟩
def bDl (h : aJ s = true) (level pick : Int) : aJ (bB s level pick).1 = true := by
  cases hu : s.up with
  | false => unfold bB; rw [if_neg (by rw [h]; decide), if_pos hu, aLq h]; exact h
  | true =>
    obtain ⟨a, b, c, bs, g⟩ := (mE hu).1 h
    cases h1 : (bB s level pick).2 with
    | true =>
      obtain ⟨a', b', c', k1, k2⟩ := bNs g hu h1
      exact (mE k2).2 ⟨a', b', c', bs, k1⟩
    | false =>
      unfold bB at h1 ⊢
      rw [if_neg (by rw [h]; decide), if_neg (by rw [hu]; decide)] at h1 ⊢
      split at h1
      . rename_i hf; rw [if_pos hf, aLq h]; exact h
      cases h1
def bNv (h : aJ s = true) (hu : s.up = false) : aJ (eF s) = true := by
  obtain ⟨a, b, c, bs, g⟩ := (aKh hu).1 h
  exact (mE rfl).2 ⟨a, b, c, _, bMg g⟩
def bNy (h : aJ s = true) (hu : s.up = true) : aJ { s with disk := { s.disk with safe := (s.disk.log.size : Int) } } = true := by
  obtain ⟨a, b, c, bs, g⟩ := (mE hu).1 h
  exact (mE (s := { s with disk := { s.disk with safe := (s.disk.log.size : Int) } }) hu).2 ⟨a, b, c, bs, bNc g⟩
def bCr (h : aJ s = true) (hu : s.up = true) (k : Int) : aJ (qZ s k) = true := by
  obtain ⟨a, b, c, bs, g⟩ := (mE hu).1 h
  exact (bMk g k).1
def bKk (h : aJ s = true) (x : List Entry) : aJ (eO s x).1 = true := by
  cases h1 : (eO s x).2 with
  | false =>
    unfold eO at h1 ⊢
    split at h1
    . rename_i hb; rw [if_pos hb]; exact h
    cases h1
  | true =>
    have hu : s.up = true := by
      unfold eO at h1; split at h1
      . cases h1
      rename_i hb
      simp only [uS, D6, Bool.not_eq_true', not_or, Bool.not_eq_false] at hb
      exact hb.1.1
    obtain ⟨a, b, c, bs, g⟩ := (mE hu).1 h
    obtain ⟨k1, k2, -⟩ := bKr g h1
    exact (mE (k2.trans hu)).2 ⟨a, b, c, _, k1⟩
def bJk (h : aJ s = true) (k : Int) : aJ (dW s k) = true := by
  have hcp := aLq h
  unfold dW
  rw [if_neg (by rw [h]; decide), hcp]
  cases hu : s.up with
  | false => rw [if_pos rfl]; exact h
  | true =>
    rw [if_neg dg]; unfold brJ; split
    . rename_i hf
      obtain ⟨a, b, c, bs, g⟩ := (mE hu).1 h
      obtain ⟨a', k1, k2, k3, k4, k5⟩ := bJc g hu hf
      have h1 := g.lg
      have h2 := g.f0
      have h3 := g.f1
      generalize hx : ({ s with disk := { s.disk with levels := (flS s).1.disk.levels, seq := (flS s).1.disk.seq } } : Store) = x
      have xl : x.disk.log = s.disk.log := by rw [<- hx]
      have xs : x.disk.safe = s.disk.safe := by rw [<- hx]
      have xv : x.disk.levels = [a', b, c] := by rw [<- hx]; exact k1.dl
      have xq : x.disk.seq = s.tree.seq := by rw [<- hx]; exact k3
      have hn : 0 <= eR x k /\ eR x k <= (s.disk.log.size : Int) := by unfold eR; rw [xl, xs]; omega
      have hlog : (qZ x k).disk.log = s.disk.log.extract 0 (eR x k).toNat := by rw [<- xl]; rfl
      have hsz : (qZ x k).disk.log.size = (eR x k).toNat := by rw [hlog, iH _ _ _ og]; omega
      have hrd : bN (qZ x k).disk.log = (mN bs (eR x k).toNat, _) := aKt og g.ok (by rw [hlog, aBn, List.drop_zero, g.tx]; rfl)
      obtain ⟨r, hr⟩ := aFu bs (eR x k).toNat
      have hle : ∀ e ∈ (mN bs (eR x k).toNat).flatten, e.seq <= s.tree.seq := fun e he => by
        rw [g.sq]
        refine (iJ _ _).2 e ?_
        rw [hr, List.flatten_append]
        exact List.mem_append_left _ he
      have e1 : (mN bs (eR x k).toNat).flatten.filter (ovr s.tree.seq) = [] := List.filter_eq_nil_iff.2 fun e he => by
        have := hle e he
        simp [ovr]; omega
      have e2 : dY s.tree.seq (mN bs (eR x k).toNat).flatten = s.tree.seq := by rw [<- uJ, e1]; rfl
      have hrd0 : RT s.tree.seq [] a' b c [] := by have := k1.rd; rw [k3] at this; exact this
      have fq : (qZ x k).disk.seq = s.tree.seq := xq
      refine (aKh rfl).2 ⟨a', b, c, mN bs (eR x k).toNat, og, hn.1, by rw [hsz]; show eR x k <= _; omega, rfl, xv, by rw [fq]; exact hrd0, by rw [hrd], ?_⟩
      rw [fq, e1, e2]; exact hrd0
    exact bCr h hu k
end
attribute [go_sem] pD aRv
abbrev rdO (b : List UInt8) (p : Nat) : AObj := .cells 96 [.sl 1 (b.map byteAV), .raw (.int .i64 (p : Int))]
def aC (U : Nat -> Prop) (b : List UInt8) (p : Nat) : (rdO b p).bel U := ⟨pD U b, trivial, trivial⟩
def bIv (x y : Int) : Int := IntKind.i64.wrap (((BitVec.ofInt IntKind.i64.bits x ^^^ BitVec.ofInt IntKind.i64.bits y).toNat : Nat) : Int)
def byN (b : List UInt8) (i : Nat) : Int := (((b[i]?).getD 0).toNat : Int)
def aIc (b : List UInt8) (p : Nat) : Int := byN b (p % b.length) * 131 + byN b ((p * 7 + 3) % b.length) * 1117 + (p : Int) * 29 + ((p / b.length : Nat) : Int) * 53
def bOe (b : List UInt8) (p : Nat) : Int := bIv (aIc b p) ((aIc b p).tdiv 64)
def aD (b : List UInt8) (n : Int) (p : Nat) : Int := if n < 1 ∨ b.length = 0 then 0 else if p < b.length then (byN b p).tmod n else (bOe b p).tmod n
def bBl (b : List UInt8) (i : Nat) : 0 <= byN b i /\ byN b i <= 255 := by
  unfold byN
  have := ((b[i]?).getD 0).toNat_lt
  omega
def bBi {b : List UInt8} {i : Nat} (h : i < b.length) : b[i]? = some ((b[i]?).getD 0) := by rw [A1 h]; rfl
def bCl {b : List UInt8} {p : Nat} (hp : p <= 1000000000000) : 0 <= aIc b p /\ aIc b p <= 1000000000000000 := by
  unfold aIc
  have h1 := bBl b (p % b.length)
  have h2 := bBl b ((p * 7 + 3) % b.length)
  have h3 := Nat.div_le_self p b.length
  generalize p / b.length = q at h3 ⊢
  omega
def bPs {x y : Int} (hx : 0 <= x) (hx1 : x <= 1000000000000000) (hy : 0 <= y) (hy1 : y <= 1000000000000000) : 0 <= bIv x y := by
  obtain ⟨a, rfl⟩ := Int.eq_ofNat_of_zero_le hx
  obtain ⟨c, rfl⟩ := Int.eq_ofNat_of_zero_le hy
  unfold bIv
  have e : (BitVec.ofInt IntKind.i64.bits (a : Int) ^^^ BitVec.ofInt IntKind.i64.bits (c : Int)).toNat = a ^^^ c := by
    show (BitVec.ofInt 64 (a : Int) ^^^ BitVec.ofInt 64 (c : Int)).toNat = a ^^^ c
    rw [BitVec.toNat_xor, BitVec.ofInt_natCast, BitVec.ofInt_natCast, BitVec.toNat_ofNat, BitVec.toNat_ofNat, Nat.mod_eq_of_lt og, Nat.mod_eq_of_lt og]
  rw [e]
  have h : a ^^^ c < 2 ^ 50 := Nat.xor_lt_two_pow og og
  rw [w64]; omega
def iW {b : List UInt8} {n : Int} {p : Nat} (hp : p <= 1000000000000) : 0 <= aD b n p /\ (1 <= n -> aD b n p < n) /\ (n < 1 -> aD b n p = 0) := by
  unfold aD
  by_cases h : n < 1 ∨ b.length = 0
  . rw [if_pos h]; omega
  rw [if_neg h]
  have hn : 0 < n := by omega
  have key : ∀ x : Int, 0 <= x -> 0 <= x.tmod n /\ x.tmod n < n := fun x hx => by
    rw [Int.tmod_eq_emod_of_nonneg hx]
    exact ⟨Int.emod_nonneg _ og, Int.emod_lt_of_pos _ hn⟩
  have h1 := bCl (b := b) hp
  have h2 : 0 <= (aIc b p).tdiv 64 /\ (aIc b p).tdiv 64 <= 1000000000000000 := by
    rw [H5 h1.1]; omega
  have a1 := key _ (bBl b p).1
  have a2 := key _ (bPs h1.1 h1.2 h2.1 h2.2)
  split
  . exact ⟨a1.1, fun _ => a1.2, fun h => by omega⟩
  exact ⟨a2.1, fun _ => a2.2, fun h => by omega⟩
def aAj (b : List UInt8) (hb : b.length <= 9223372036854775807) : aO P 23 [.sl 1 (b.map byteAV)] [] 0 (.ptr 0 0) [(0, rdO (b.take 2000) 0)] 1 := by
 refine (gq 11 [.tmp 2] func23) ?_
 simp only [rdO]
 refine (aj) ?_
 refine aA fun k2 => (aj) ((cdA) ?_ ?_) <;> intro hc1
 . have hl : 2000 < b.length := by simp at hc1; omega
   refine wg rfl ((ja) ((jr) (k2 ((aj) (wR ?_)))))
   refine ⟨[], ?_⟩
   simp only [go_sem, AObj.bel, AObj.ren, AV.ren, aB, sg, rdO, <- E9] <;> simp
 have hl : ¬ 2000 < b.length := by simp at hc1; omega
 have h9 : b.take 2000 = b := List.take_of_length_le og
 refine wk (k2 ((aj) (wR ?_)))
 refine ⟨[], ?_⟩
 simp only [go_sem, AObj.bel, AObj.ren, AV.ren, aB, sg, rdO, h9, bOe, bIv, IntKind.bits] <;> simp
def aE (b : List UInt8) (p : Nat) (hb : b.length <= 2000) (hp : p <= 1000000000) (n : Int) : aO P 62 [.ptr 0 0, Ni n] [(0, rdO b p)] 1 (Ni (aD b n p)) [(0, rdO b (p + 1))] 1 := by
 refine (gq 99 [.tmp 4] func62) ?_
 simp only [rdO]
 refine (aj) ?_
 have hp1 := wiS p og
 refine sr rfl fun k2 => (Aa hp1) (k2 (aA fun k3 => (aj) ((cdA) ?_ ?_))) <;> intro hc1
 . have hz : n < 1 ∨ b.length = 0 := by simpa using hc1
   have h9 : aD b n p = 0 := by unfold aD; rw [if_pos hz]
   refine (aj) (wR ?_)
   refine ⟨[], ?_⟩
   simp only [go_sem, AObj.bel, AObj.ren, AV.ren, aB, sg, rdO, h9] <;> simp
 have hz : ¬ (n < 1 ∨ b.length = 0) := by simpa using hc1
 refine wk (k3 ?_)
 have hk := wr (((p + 1 : Nat) : Int) - 1) ((p : Int)) og
 refine sr rfl fun k6 => (Aa hk) (k6 (aA fun k7 => (aj) ((cdA) ?_ ?_))) <;> intro hc2
 . have hlt : p < b.length := by simpa using hc2
   obtain ⟨x, hx⟩ : ∃ x, b[p]? = some x := ⟨_, bBi hlt⟩
   have hn0 : ¬ n = 0 := by omega
   have hxl := x.toNat_lt
   have hwx := wr ((x.toNat : Nat) : Int) (((x.toNat : Nat) : Int)) og
   have h9 : aD b n p = ((x.toNat : Nat) : Int).tmod n := by unfold aD; rw [if_neg hz, if_pos hlt]; unfold byN; rw [hx]; rfl
   refine sr rfl fun k9 => ?_
   simp only [go_sem, byteAV, hx, hn0, hwx]
   refine (jr) (k9 (wR ?_))
   refine ⟨[], ?_⟩
   simp only [go_sem, AObj.bel, AObj.ren, AV.ren, aB, sg, rdO, h9, byN] <;> simp
 have hge : ¬ p < b.length := by simpa using hc2
 have hbl : b.length ≠ 0 := by omega
 have l1 : p % b.length < b.length := Nat.mod_lt _ og
 have l2 : (p * 7 + 3) % b.length < b.length := Nat.mod_lt _ og
 obtain ⟨x1, hx1⟩ : ∃ x, b[p % b.length]? = some x := ⟨_, bBi l1⟩
 obtain ⟨x2, hx2⟩ : ∃ x, b[(p * 7 + 3) % b.length]? = some x := ⟨_, bBi l2⟩
 have hn0 : ¬ n = 0 := by omega
 have hb0 : ¬ ((b.length : Nat) : Int) = 0 := by omega
 have hm1 : ((p : Nat) : Int).tmod ((b.length : Nat) : Int) = ((p % b.length : Nat) : Int) := rfl
 have hm2 : ((p * 7 + 3 : Nat) : Int).tmod ((b.length : Nat) : Int) = (((p * 7 + 3) % b.length : Nat) : Int) := rfl
 have hq : ((p : Nat) : Int).tdiv ((b.length : Nat) : Int) = ((p / b.length : Nat) : Int) := rfl
 have hql := Nat.div_le_self p b.length
 have hx1l := x1.toNat_lt
 have hx2l := x2.toNat_lt
 have hmx2 : aIc b p = ((x1.toNat : Nat) : Int) * 131 + ((x2.toNat : Nat) : Int) * 1117 + (p : Int) * 29 + ((p / b.length : Nat) : Int) * 53 := by unfold aIc byN; rw [hx1, hx2]; rfl
 have hml := bCl (b := b) (p := p) og
 have g1 := wr (((p : Nat) : Int) * 7) (((p * 7 : Nat) : Int)) og
 have g2 := wr (((p * 7 : Nat) : Int) + 3) (((p * 7 + 3 : Nat) : Int)) og
 have g3 := wr (((x1.toNat : Nat) : Int)) (((x1.toNat : Nat) : Int)) og
 have g4 := wr (((x2.toNat : Nat) : Int)) (((x2.toNat : Nat) : Int)) og
 have g5 := wr (((x1.toNat : Nat) : Int) * 131) (((x1.toNat : Nat) : Int) * 131) og
 have g6 := wr (((x2.toNat : Nat) : Int) * 1117) (((x2.toNat : Nat) : Int) * 1117) og
 have g7 := wr (((x1.toNat : Nat) : Int) * 131 + ((x2.toNat : Nat) : Int) * 1117) (((x1.toNat : Nat) : Int) * 131 + ((x2.toNat : Nat) : Int) * 1117) og
 have g8 := wr (((p : Nat) : Int) * 29) (((p : Nat) : Int) * 29) og
 have g9 := wr (((x1.toNat : Nat) : Int) * 131 + ((x2.toNat : Nat) : Int) * 1117 + ((p : Nat) : Int) * 29) (((x1.toNat : Nat) : Int) * 131 + ((x2.toNat : Nat) : Int) * 1117 + ((p : Nat) : Int) * 29) og
 have gq := wr (((p / b.length : Nat) : Int)) (((p / b.length : Nat) : Int)) og
 have ga := wr (((p / b.length : Nat) : Int) * 53) (((p / b.length : Nat) : Int) * 53) og
 have gb := wr (((x1.toNat : Nat) : Int) * 131 + ((x2.toNat : Nat) : Int) * 1117 + ((p : Nat) : Int) * 29 + ((p / b.length : Nat) : Int) * 53) (aIc b p) og
 have g64 : IntKind.i64.wrap ((aIc b p).tdiv 64) = (aIc b p).tdiv 64 := by rw [IntKind.wrap_i64, H5 hml.1]; omega
 have h9 : aD b n p = (bOe b p).tmod n := by unfold aD; rw [if_neg hz, if_neg hge]
 refine wk (k7 (sd mixed rfl fun k10 => ?_))
 simp only [go_sem, hx1, hx2, byteAV, hb0, hm1, hm2, hq, g1, g2, g3, g4, g5, g6, g7, g8, g9, gq, ga, gb]
 refine (jr) ((jy) (k10 (sr rfl fun k11 => ?_)))
 simp only [go_sem, Int.reduceEq, g64]
 refine (jr) (k11 (sr rfl fun k12 => (Aa hn0) ((jr) (k12 (wR ?_)))))
 refine ⟨[], ?_⟩
 simp only [go_sem, AObj.bel, AObj.ren, AV.ren, aB, sg, rdO, h9, bOe, bIv, IntKind.bits] <;> simp
abbrev strAV (s : ByteArray) : AV := .raw (.string s)
def aRh (U : Nat -> Prop) (ls : List ByteArray) : aI U (ls.map strAV) := pZ (f := strAV) (fun _ _ => trivial) U ls
def bEu (σ : Nat -> Nat) (ls : List ByteArray) : aB σ (ls.map strAV) = ls.map strAV := dJ σ (aRh _ ls)
attribute [go_sem] aRh bEu
def ofZ (ls : List ByteArray) (b : List UInt8) (p : Nat) : ByteArray := (ls[(aD b (ls.length : Int) p).toNat]?).getD ⟨#[]⟩
def eS (ls : List Int) (b : List UInt8) (p : Nat) : Int := (ls[(aD b (ls.length : Int) p).toNat]?).getD 0
def aTp {α : Type} {ls : List α} {b : List UInt8} {p : Nat} (hp : p <= 1000000000000) (h : 1 <= ls.length) : 0 <= aD b (ls.length : Int) p /\ aD b (ls.length : Int) p < (ls.length : Int) /\ ∃ x, ls[(aD b (ls.length : Int) p).toNat]? = some x := by
  have h1 := iW (b := b) (n := (ls.length : Int)) hp
  have h2 := h1.2.1 og
  have h3 : (aD b (ls.length : Int) p).toNat < ls.length := by omega
  exact ⟨h1.1, h2, _, A1 h3⟩
def bQc (ls : List ByteArray) (b : List UInt8) (p : Nat) : ofZ ls b p = ⟨#[]⟩ ∨ ofZ ls b p ∈ ls := by
  unfold ofZ
  cases h : ls[(aD b (ls.length : Int) p).toNat]? with
  | none => exact .inl rfl
  | some x => exact .inr (E4 h)
def aIw (ls : List Int) (b : List UInt8) (p : Nat) : eS ls b p = 0 ∨ eS ls b p ∈ ls := by
  unfold eS
  cases h : ls[(aD b (ls.length : Int) p).toNat]? with
  | none => exact .inl rfl
  | some x => exact .inr (E4 h)
def wX (s out : ByteArray) (n : Nat) : ByteArray := if n = 0 then out else wX (s ++ s) (if n % 2 = 1 then out ++ s else out) (n / 2)
termination_by n
decreasing_by omega
def aKi : List ByteArray := [⟨#[97]⟩, ⟨#[98]⟩, ⟨#[97, 98]⟩, ⟨#[98, 47, 97, 47, 49]⟩, ⟨#[98, 47, 97, 98, 47, 49]⟩, ⟨#[99]⟩]
def bEl : List ByteArray := [⟨#[]⟩, ⟨#[120]⟩, ⟨#[121, 121]⟩, ⟨#[122, 122, 122]⟩]
def xN : List Int := [1, 2, 3, 3, 3, 1]
def bBs : List Int := [0, 1, 5, -3, 100, -7]
def rH (b : List UInt8) (p : Nat) (seq : Int) : Entry :=
  let k := eS xN b (p + 1)
  if k = 2 then ⟨ofZ aKi b p, seq, 2, ⟨#[]⟩, 0⟩
  else if k = 1 then ⟨ofZ aKi b p, seq, 1, ofZ bEl b (p + 3), eS bBs b (p + 2)⟩
  else ⟨ofZ aKi b p, seq, k, ⟨#[]⟩, eS bBs b (p + 2)⟩
def lS (b : List UInt8) (p : Nat) : Nat := if eS xN b (p + 1) = 2 then p + 2 else if eS xN b (p + 1) = 1 then p + 4 else p + 3
def aRj : List ByteArray := [⟨#[]⟩, ⟨#[65]⟩, ⟨#[97, 32, 98]⟩, ⟨#[97, 98, 99, 100, 101, 102, 103, 104, 105]⟩, ⟨#[97, 98, 99, 100, 101, 102, 103, 104]⟩, ⟨#[48, 47, 57]⟩]
def bIy : List Int := [0, -1, 100000, 100001]
def aMu : List Int := [0, 4, -1, 1, 2, 3]
def aZj : List Int := [1000000, 1000001, -1000001, 9223372036854775807]
def aJx : List ByteArray := [⟨#[113]⟩, wX ⟨#[116]⟩ ⟨#[]⟩ 60, wX ⟨#[116]⟩ ⟨#[]⟩ 61]
def jD (b : List UInt8) (p : Nat) (e : Entry) : Entry :=
  if aD b 48 p = 0 then { e with key := ofZ aRj b (p + 1) }
  else if aD b 48 p = 1 then { e with seq := eS bIy b (p + 1) }
  else if aD b 48 p = 2 then { e with kind := eS aMu b (p + 1) }
  else if aD b 48 p = 3 then { e with n := eS aZj b (p + 1) }
  else if aD b 48 p = 4 then { e with text := ofZ aJx b (p + 1) }
  else e
def dV (b : List UInt8) (p : Nat) : Nat := if 5 <= aD b 48 p then p + 1 else p + 2
def aEg (s out : ByteArray) (n : Nat) (h : n ≠ 0) : wX s out n = wX (s ++ s) (if n % 2 = 1 then out ++ s else out) (n / 2) := by rw [wX, if_neg h]
def bDz (s out : ByteArray) : wX s out 0 = out := by rw [wX, if_pos rfl]
def vY : ∀ (n : Nat) (s out : ByteArray), (wX s out n).size = out.size + s.size * n := by
  intro n
  induction n using Nat.strongRecOn with
  | _ n ih =>
    intro s out
    by_cases h : n = 0
    . subst h; rw [bDz]; simp
    rw [aEg s out n h, ih (n / 2) og]
    have h1 : s.size * n = s.size * (2 * (n / 2) + n % 2) := by congr 1; omega
    rw [h1, Nat.mul_add, B8]
    have h2 : (s.size + s.size) * (n / 2) = s.size * (2 * (n / 2)) := by rw [<- Nat.mul_assoc, Nat.mul_two]
    rw [h2]; split
    . rename_i h3; rw [B8, h3]; omega
    have : n % 2 = 0 := by omega
    rw [this]; omega
def xJ {ls : List ByteArray} {b : List UInt8} {p : Nat} {n : Nat} (h : ∀ s ∈ ls, s.size <= n) : (ofZ ls b p).size <= n := by
  rcases bQc ls b p with h1 | h1
  . rw [h1]; exact A5 _
  exact h _ h1
def bOa : ∀ s ∈ aKi, s.size <= 64 := by decide
def bLx : ∀ s ∈ bEl, s.size <= 64 := by decide
def bIa : ∀ s ∈ aRj, s.size <= 64 := by decide
def bIp : ∀ s ∈ aJx, s.size <= 64 := by
  intro s hs
  simp only [aJx, A8, List.not_mem_nil, or_false] at hs
  rcases hs with rfl | rfl | rfl
  . decide
  . rw [vY]; decide
  rw [vY]; decide
def eZ (e : Entry) : Prop := e.key.size <= 64 /\ e.text.size <= 64
def aYk {e : Entry} (h : eZ e) : e.key.size <= 1048576 /\ e.text.size <= 1048576 := by unfold eZ at h; omega
def zL (b : List UInt8) (p : Nat) (seq : Int) : eZ (rH b p seq) := by
  unfold rH
  dsimp only
  have h1 := xJ (b := b) (p := p) bOa
  have h2 := xJ (b := b) (p := p + 3) bLx
  split
  . exact ⟨h1, A5 _⟩
  split
  . exact ⟨h1, h2⟩
  exact ⟨h1, A5 _⟩
def aBy {b : List UInt8} {p : Nat} {e : Entry} (h : eZ e) : eZ (jD b p e) := by
  unfold jD
  have h1 := xJ (b := b) (p := p + 1) bIa
  have h2 := xJ (b := b) (p := p + 1) bIp
  repeat' split
  . exact ⟨h1, h.2⟩
  . exact h
  . exact h
  . exact h
  . exact ⟨h.1, h2⟩
  exact h
def vA (b : List UInt8) (p : Nat) : p + 2 <= lS b p /\ lS b p <= p + 4 := by
  unfold lS; split
  . omega
  split <;> omega
def sF (b : List UInt8) (p : Nat) : p + 1 <= dV b p /\ dV b p <= p + 2 := by unfold dV; split <;> omega
def jM (b : List UInt8) (p : Nat) (hb : b.length <= 2000) (hp : p <= 1000000000) (ls : List ByteArray) (h1 : 1 <= ls.length) : aO P 113 [.ptr 0 0, .sl 1 (ls.map strAV)] [(0, rdO b p)] 1 (Ns (ofZ ls b p)) [(0, rdO b (p + 1))] 1 := by
 refine (gq 12 [.tmp 4] func113) ?_
 obtain ⟨hk0, hk1, x, hx⟩ := aTp (b := b) (p := p) (ls := ls) og h1
 have h9 : ofZ ls b p = x := by unfold ofZ; rw [hx]; rfl
 refine (aj) ?_
 refine sr rfl fun k2 => (ja) ((jr) ?_)
 refine vO 0 rfl rfl rfl ⟨func62, rfl, rfl⟩ (aE b p hb hp (ls.length : Int)) oG oG (aC _ _ _) (aC _ _ _) oG oG ?_
 simp only [go_sem, Nat.add_zero, hx, strAV]
 refine (jr) (k2 (wR ?_))
 refine ⟨[], ?_⟩
 exact Bj h9
def bD (b : List UInt8) (p : Nat) (hb : b.length <= 2000) (hp : p <= 1000000000) (ls : List Int) (h1 : 1 <= ls.length) : aO P 64 [.ptr 0 0, .sl 1 (ls.map inA)] [(0, rdO b p)] 1 (Ni (eS ls b p)) [(0, rdO b (p + 1))] 1 := by
 refine (gq 12 [.tmp 4] func64) ?_
 obtain ⟨hk0, hk1, x, hx⟩ := aTp (b := b) (p := p) (ls := ls) og h1
 have h9 : eS ls b p = x := by unfold eS; rw [hx]; rfl
 refine (aj) ?_
 refine sr rfl fun k2 => (ja) ((jr) ?_)
 refine vO 0 rfl rfl rfl ⟨func62, rfl, rfl⟩ (aE b p hb hp (ls.length : Int)) oG oG (aC _ _ _) (aC _ _ _) oG oG ?_
 simp only [go_sem, Nat.add_zero, hx, inA]
 refine (jr) (k2 (wR ?_))
 refine ⟨[], ?_⟩
 exact Bj h9
def aAg (s : ByteArray) (n : Nat) (hs : s.size * n <= 1000) (hn : n <= 1000) : aK P 138 [Ns s, Ni (n : Int)] [] 0 (Ns (wX s ⟨#[]⟩ n)) := by
 refine (pq 20 [.tmp 4] func138) ((aj) ((aj) ?_))
 refine aA fun k3 => wb ?_
 refine wl (α := ByteArray × ByteArray × Nat) (fun x => x.2.2 <= 1000 /\ x.2.1.size + x.1.size * x.2.2 <= 1000 /\ wX x.1 x.2.1 x.2.2 = wX s ⟨#[]⟩ n) (fun x => x.2.2) (fun x => ([(0, Ns x.1), (1, Ni (x.2.2 : Int)), (5, Ns x.2.1)], [])) 0 (s, ⟨#[]⟩, n) ⟨hn, by have h8 : (⟨#[]⟩ : ByteArray).size = 0 := rfl; simp only [h8]; omega, rfl⟩ [] ?_ ?_
 . exact jc
 rintro ⟨s1, o1, n1⟩ ⟨hn1, hz, hm⟩
 simp only at hn1 hz hm ⊢
 refine aA fun k4 => (aj) ((cdB) ?_ ?_) <;> intro hc1
 . have hz0 : n1 = 0 := by simp at hc1; omega
   subst hz0; rw [bDz] at hm
   refine we ((jt) (k3 ((aj) (wR ?_))))
   refine fO ?_ trivial; simp only [go_sem, <- hm]
 have hne : n1 ≠ 0 := by simp at hc1; omega
 have hz2 : (if n1 % 2 = 1 then o1 ++ s1 else o1).size + (s1 ++ s1).size * (n1 / 2) <= 1000 := by
   have h8 := vY n1 s1 o1
   rw [aEg s1 o1 n1 hne, vY] at h8; omega
 have hm2 : ((n1 : Nat) : Int).tmod 2 = ((n1 % 2 : Nat) : Int) := rfl
 have hq2 : ((n1 : Nat) : Int).tdiv 2 = ((n1 / 2 : Nat) : Int) := rfl
 have hq3 := wr (((n1 / 2 : Nat) : Int)) (((n1 / 2 : Nat) : Int)) og
 refine wk (k4 (wb (aA fun k6 => sr rfl fun k7 => ?_)))
 simp only [go_sem, Int.reduceEq, hm2]
 refine (jr) (k7 ((cdA) ?_ ?_)) <;> intro hc2
 . have hodd : n1 % 2 = 1 := by simp at hc2; omega
   refine wg rfl ((ja) ?_)
   refine ⟨by have h7 : s1.size <= s1.size * n1 := Nat.le_mul_of_pos_right _ og; omega, ?_⟩
   refine k6 (sr rfl fun k8 => (ja) ?_)
   refine ⟨by have h7 : s1.size <= s1.size * n1 := Nat.le_mul_of_pos_right _ og; omega, ?_⟩
   refine k8 (wg rfl ?_)
   simp only [go_sem, Int.reduceEq, hq2, hq3]
   refine (jr) ((jt) ((jt) ?_))
   refine ⟨(s1 ++ s1, if n1 % 2 = 1 then o1 ++ s1 else o1, n1 / 2), ⟨by show n1 / 2 <= 1000; omega, hz2, by rw [<- aEg s1 o1 n1 hne]; exact hm⟩, by show n1 / 2 < n1; omega, [], ?_⟩
   simp only [go_sem, hodd, if_true] <;> simp
 have hodd : ¬ n1 % 2 = 1 := by simp at hc2; omega
 refine wk (k6 (sr rfl fun k9 => (ja) ?_))
 refine ⟨by have h7 : s1.size <= s1.size * n1 := Nat.le_mul_of_pos_right _ og; omega, ?_⟩
 refine k9 (wg rfl ?_)
 simp only [go_sem, Int.reduceEq, hq2, hq3]
 refine (jr) ((jt) ((jt) ?_))
 refine ⟨(s1 ++ s1, if n1 % 2 = 1 then o1 ++ s1 else o1, n1 / 2), ⟨by show n1 / 2 <= 1000; omega, hz2, by rw [<- aEg s1 o1 n1 hne]; exact hm⟩, by show n1 / 2 < n1; omega, [], ?_⟩
 simp only [go_sem, hodd, if_false] <;> simp
def aTh (b : List UInt8) (p : Nat) (hb : b.length <= 2000) (hp : p <= 1000000000) : aO P 137 [.ptr 0 0] [(0, rdO b p)] 1 (Ns (ofZ aKi b p)) [(0, rdO b (p + 1))] 1 := by
 refine (gq 6 [.tmp 2] func137) ?_
 have hmx := mxl
 refine (aj) ?_
 refine sr rfl fun k2 => (ja) ((jr) ?_)
 refine bE 1 rfl ?_
 refine (Ac) ?_
 refine vO 0 rfl rfl rfl ⟨func113, rfl, rfl⟩ (jM b p hb hp aKi dg) (by simp only [go_sem, aKi]) (by simp only [go_sem, aKi]) (aC _ _ _) (aC _ _ _) oG oG ?_
 refine (Ai) ((jr) (k2 (wR ?_)))
 refine ⟨[], ?_⟩; exact jz
def nC (b : List UInt8) (p : Nat) (hb : b.length <= 2000) (hp : p + 10 <= 1000000000) (seq : Int) : aO P 100 [.ptr 0 0, Ni seq] [(0, rdO b p)] 1 (enA (rH b p seq)) [(0, rdO b (lS b p))] 1 := by
 refine (gq 28 [.cell 4 43] func100) ?_
 have hmx := mxl
 refine (aj) ?_
 refine sr rfl fun k2 => (ja) ((jr) ?_)
 refine vO 0 rfl rfl rfl ⟨func137, rfl, rfl⟩ (aTh b p hb og) oG oG (aC _ _ _) (aC _ _ _) oG oG ?_
 refine (Ai) ((jr) ?_)
 refine bE 2 rfl ?_
 refine (Ac) ?_
 refine vO 0 rfl rfl rfl ⟨func64, rfl, rfl⟩ (bD b (p + 1) hb og xN dg) (by simp only [go_sem, xN, List.map_cons, List.map_nil, inA]) (by simp only [go_sem, xN, List.map_cons, List.map_nil, inA]) (aC _ _ _) (aC _ _ _) oG oG ?_
 refine (Ai) ((jr) (k2 (aA fun k3 => (aj) ((cdB) ?_ ?_)))) <;> intro hc1
 . have hk1 : eS xN b (p + 1) = 2 := by simpa using hc1
   refine wk (k3 (aA fun k9 => (aj) ((cdA) ?_ ?_))) <;> intro hc3
   . exfalso
     rw [hk1] at hc3; simp at hc3
   have h9 : rH b p seq = ⟨ofZ aKi b p, seq, 2, ⟨#[]⟩, 0⟩ := by unfold rH; dsimp only; rw [if_pos hk1]
   have h8 : lS b p = p + 2 := by unfold lS; rw [if_pos hk1]
   refine wk (k9 ((aj) (wR ?_)))
   refine ⟨[], ?_⟩
   simp only [go_sem, h9, h8, hk1, enA, AObj.bel, AObj.ren, AV.ren, aB, sg] <;> simp
 have hk1 : ¬ eS xN b (p + 1) = 2 := by simpa using hc1
 refine wg rfl ((ja) ((jr) ?_))
 refine bE 4 rfl ?_
 refine (Ac) ?_
 refine vO 0 rfl rfl rfl ⟨func64, rfl, rfl⟩ (bD b (p + 2) hb og bBs dg) (by simp only [go_sem, bBs, List.map_cons, List.map_nil, inA]) (by simp only [go_sem, bBs, List.map_cons, List.map_nil, inA]) (aC _ _ _) (aC _ _ _) oG oG ?_
 refine (Ai) ((jr) (k3 (aA fun k5 => (aj) ((cdB) ?_ ?_)))) <;> intro hc2
 . have hk2 : ¬ eS xN b (p + 1) = 1 := by simpa using hc2
   have h9 : rH b p seq = ⟨ofZ aKi b p, seq, eS xN b (p + 1), ⟨#[]⟩, eS bBs b (p + 2)⟩ := by unfold rH; dsimp only; rw [if_neg hk1, if_neg hk2]
   have h8 : lS b p = p + 3 := by unfold lS; rw [if_neg hk1, if_neg hk2]
   refine wk (k5 ((aj) (wR ?_)))
   refine ⟨[], ?_⟩
   exact Bv h9 h8
 have hk2 : eS xN b (p + 1) = 1 := by simpa using hc2
 have h9 : rH b p seq = ⟨ofZ aKi b p, seq, 1, ofZ bEl b (p + 3), eS bBs b (p + 2)⟩ := by unfold rH; dsimp only; rw [if_neg hk1, if_pos hk2]
 have h8 : lS b p = p + 4 := by unfold lS; rw [if_neg hk1, if_pos hk2]
 refine wg rfl ((ja) ((jr) ?_))
 refine bE 5 rfl ?_
 refine (Ac) ?_
 refine vO 0 rfl rfl rfl ⟨func113, rfl, rfl⟩ (jM b (p + 3) hb og bEl dg) (by simp only [go_sem, bEl]) (by simp only [go_sem, bEl]) (aC _ _ _) (aC _ _ _) oG oG ?_
 refine (Ai) ((jr) (k5 ((aj) (wR ?_))))
 refine ⟨[], ?_⟩
 simp only [go_sem, h9, h8, hk2, enA, AObj.bel, AObj.ren, AV.ren, aB, sg] <;> simp
def iN (b : List UInt8) (p : Nat) (hb : b.length <= 2000) (hp : p + 10 <= 1000000000) (e : Entry) : aO P 101 [.ptr 0 0, enA e] [(0, rdO b p)] 1 (enA (jD b p e)) [(0, rdO b (dV b p))] 1 := by
 refine (gq 40 [.cell 4 43] func101) ?_
 simp only [enA]
 have hmx := mxl
 refine (aj) ?_
 refine aA fun k2 => sr rfl fun k3 => (ja) ?_
 refine vO 0 rfl rfl rfl ⟨func62, rfl, rfl⟩ (aE b p hb og 48) oG oG (aC _ _ _) (aC _ _ _) oG oG ?_
 refine (Ai) (k3 (wb ((aj) ((cdA) ?_ ?_)))) <;> intro hc1
 . have hk1 : aD b 48 p = 0 := by simpa using hc1
   have h9 : jD b p e = { e with key := ofZ aRj b (p + 1) } := by unfold jD; rw [if_pos hk1]
   have h8 : dV b p = p + 2 := by unfold dV; rw [if_neg og]
   refine wg rfl ((ja) ((jr) ?_))
   refine bE 3 rfl ?_
   refine (Ac) ?_
   refine vO 0 rfl rfl rfl ⟨func113, rfl, rfl⟩ (jM b (p + 1) hb og aRj dg) (by simp only [go_sem, aRj]) (by simp only [go_sem, aRj]) (aC _ _ _) (aC _ _ _) oG oG ?_
   refine (Ai) ((jr) ((jt) (k2 ((aj) (wR ?_)))))
   refine ⟨[], ?_⟩
   exact Bv h9 h8
 have hk1 : ¬ aD b 48 p = 0 := by simpa using hc1
 refine (aj) ((cdA) ?_ ?_) <;> intro hc2
 . have hk2 : aD b 48 p = 1 := by simpa using hc2
   have h9 : jD b p e = { e with seq := eS bIy b (p + 1) } := by unfold jD; rw [if_neg hk1]; rw [if_pos hk2]
   have h8 : dV b p = p + 2 := by unfold dV; rw [if_neg og]
   refine wg rfl ((ja) ((jr) ?_))
   refine bE 3 rfl ?_
   refine (Ac) ?_
   refine vO 0 rfl rfl rfl ⟨func64, rfl, rfl⟩ (bD b (p + 1) hb og bIy dg) (by simp only [go_sem, bIy, List.map_cons, List.map_nil, inA]) (by simp only [go_sem, bIy, List.map_cons, List.map_nil, inA]) (aC _ _ _) (aC _ _ _) oG oG ?_
   refine (Ai) ((jr) ((jt) (k2 ((aj) (wR ?_)))))
   refine ⟨[], ?_⟩
   exact Bv h9 h8
 have hk2 : ¬ aD b 48 p = 1 := by simpa using hc2
 refine (aj) ((cdA) ?_ ?_) <;> intro hc3
 . have hk3 : aD b 48 p = 2 := by simpa using hc3
   have h9 : jD b p e = { e with kind := eS aMu b (p + 1) } := by unfold jD; rw [if_neg hk1]; rw [if_neg hk2]; rw [if_pos hk3]
   have h8 : dV b p = p + 2 := by unfold dV; rw [if_neg og]
   refine wg rfl ((ja) ((jr) ?_))
   refine bE 3 rfl ?_
   refine (Ac) ?_
   refine vO 0 rfl rfl rfl ⟨func64, rfl, rfl⟩ (bD b (p + 1) hb og aMu dg) (by simp only [go_sem, aMu, List.map_cons, List.map_nil, inA]) (by simp only [go_sem, aMu, List.map_cons, List.map_nil, inA]) (aC _ _ _) (aC _ _ _) oG oG ?_
   refine (Ai) ((jr) ((jt) (k2 ((aj) (wR ?_)))))
   refine ⟨[], ?_⟩
   exact Bv h9 h8
 have hk3 : ¬ aD b 48 p = 2 := by simpa using hc3
 refine (aj) ((cdA) ?_ ?_) <;> intro hc4
 . have hk4 : aD b 48 p = 3 := by simpa using hc4
   have h9 : jD b p e = { e with n := eS aZj b (p + 1) } := by unfold jD; rw [if_neg hk1]; rw [if_neg hk2]; rw [if_neg hk3]; rw [if_pos hk4]
   have h8 : dV b p = p + 2 := by unfold dV; rw [if_neg og]
   refine wg rfl ((ja) ((jr) ?_))
   refine bE 3 rfl ?_
   refine (Ac) ?_
   refine vO 0 rfl rfl rfl ⟨func64, rfl, rfl⟩ (bD b (p + 1) hb og aZj dg) (by simp only [go_sem, aZj, List.map_cons, List.map_nil, inA]) (by simp only [go_sem, aZj, List.map_cons, List.map_nil, inA]) (aC _ _ _) (aC _ _ _) oG oG ?_
   refine (Ai) ((jr) ((jt) (k2 ((aj) (wR ?_)))))
   refine ⟨[], ?_⟩
   exact Bv h9 h8
 have hk4 : ¬ aD b 48 p = 3 := by simpa using hc4
 refine (aj) ((cdB) ?_ ?_) <;> intro hc5
 . have hk5 : ¬ aD b 48 p = 4 := by simpa using hc5
   have h9 : jD b p e = e := by unfold jD; rw [if_neg hk1]; rw [if_neg hk2]; rw [if_neg hk3]; rw [if_neg hk4]; rw [if_neg hk5]
   have h8 : dV b p = p + 1 := by unfold dV; rw [if_pos (by have := (iW (b := b) (n := 48) (p := p) og).1; omega)]
   refine wk ((jt) (k2 ((aj) (wR ?_))))
   refine ⟨[], ?_⟩
   exact Bv h9 h8
 have hk5 : aD b 48 p = 4 := by simpa using hc5
 have h9 : jD b p e = { e with text := ofZ aJx b (p + 1) } := by unfold jD; rw [if_neg hk1]; rw [if_neg hk2]; rw [if_neg hk3]; rw [if_neg hk4]; rw [if_pos hk5]
 have h8 : dV b p = p + 2 := by unfold dV; rw [if_neg og]
 refine wg rfl ((ja) ((jr) ?_))
 refine (vr rfl rfl rfl func138 (aAg ⟨#[116]⟩ 60 dg dg) (by simp only [go_sem]; rfl) oG) ((jr) ?_)
 refine (vr rfl rfl rfl func138 (aAg ⟨#[116]⟩ 61 dg dg) (by simp only [go_sem]; rfl) oG) ((jr) ?_)
 refine bE 3 rfl ?_
 refine (Ac) ?_
 refine vO 0 rfl rfl rfl ⟨func113, rfl, rfl⟩ (jM b (p + 1) hb og aJx dg) (by simp only [go_sem, aJx]) (by simp only [go_sem, aJx]) (aC _ _ _) (aC _ _ _) oG oG ?_
 refine (Ai) ((jr) ((jt) (k2 ((aj) (wR ?_)))))
 refine ⟨[], ?_⟩
 exact Bv h9 h8
section
variable {p k : Nat} {ls : List Entry} {e : Entry}
def tT (b : List UInt8) : Nat -> Nat -> Int -> List Entry -> List Entry × Nat
  | 0, p, _, out => (out, p)
  | i + 1, p, seq, out => tT b i (lS b (p + 1) + 1) (seq + 1 + aD b 2 p) (if aD b 2 (lS b (p + 1)) = 0 then out ++ [rH b (p + 1) (seq + 1 + aD b 2 p)] else rH b (p + 1) (seq + 1 + aD b 2 p) :: out)
def aZ (b : List UInt8) (p : Nat) : List Entry × Nat := tT b (aD b 13 p).toNat (p + 1) 0 []
def aDt (ls : List Entry) : List Entry := ls.foldl bY []
def oneEnt : Entry := ⟨⟨#[97]⟩, 1, 1, ⟨#[]⟩, 2⟩
def cV (b : List UInt8) (p : Nat) : List Entry := if (aZ b p).1 = [] then [oneEnt] else aDt (aZ b p).1
def aNh (b : List UInt8) (p : Nat) (e : Entry) : Entry := jD b (dV b (dV b p)) (jD b (dV b p) (jD b p e))
def vR (b : List UInt8) (p : Nat) : Nat := dV b (dV b (dV b p))
def xQ : List Int := [1, -1, 65536]
def eQ (b : List UInt8) (p : Nat) : Run × Nat :=
  let ls := cV b p
  let q := (aZ b p).2
  let k := (aD b (ls.length : Int) q).toNat
  let c := aD b 50 (q + 1)
  if c = 0 then (⟨ls, bS ls + eS xQ b (q + 2)⟩, q + 3)
  else if c = 1 then (⟨ls.set k (aNh b (q + 2) ((ls[k]?).getD oneEnt)), bS ls⟩, vR b (q + 2))
  else if c = 2 then (⟨ls ++ [(ls[k]?).getD oneEnt], bS ls⟩, q + 2)
  else if c = 3 then (⟨[], bS ls⟩, q + 2)
  else if c = 4 then (⟨ls, 65535⟩, q + 2)
  else (⟨ls, bS ls⟩, q + 2)
def aAd (b : List UInt8) : Nat -> Nat -> List Entry -> List Entry × Nat
  | 0, p, out => (out, p)
  | i + 1, p, out => aAd b i (lS b p) (out ++ [rH b p 0])
def aDc (b : List UInt8) (p : Nat) : List Entry × Nat := aAd b (1 + aD b 5 p).toNat (p + 1) []
def pK (b : List UInt8) : Nat -> Nat -> List Entry -> List Entry × Nat
  | 0, p, out => (out, p + 1)
  | i + 1, p, out => if (out.length : Int) < 12 + aD b 2 p then pK b i (lS b (p + 1)) (out ++ [rH b (p + 1) 0]) else (out, p + 1)
def aQi : List Int := [1, -1]
def nU (b : List UInt8) (p : Nat) : List Entry × Nat :=
  let x := aDc b p
  let c := aD b 40 x.2
  if c = 0 then ([], x.2 + 1)
  else if c = 1 then (x.1.set 0 { (x.1[0]?).getD oneEnt with seq := eS aQi b (x.2 + 1) }, x.2 + 2)
  else if c = 2 then (x.1.set 0 (aNh b (x.2 + 1) ((x.1[0]?).getD oneEnt)), vR b (x.2 + 1))
  else if c = 3 then pK b (13 - x.1.length) (x.2 + 1) x.1
  else (x.1, x.2 + 1)
def aPh (b : List UInt8) : ∀ (i p : Nat) (seq : Int) (out : List Entry), (∀ e ∈ out, eZ e) -> (∀ e ∈ (tT b i p seq out).1, eZ e) /\ (tT b i p seq out).1.length = out.length + i /\ p <= (tT b i p seq out).2 /\ (tT b i p seq out).2 <= p + 6 * i
  | 0, p, seq, out, h => ⟨h, rfl, A0 _, A0 _⟩
  | i + 1, p, seq, out, h => by
    unfold tT
    have h1 := vA b (p + 1)
    have h3 : ∀ e ∈ (if aD b 2 (lS b (p + 1)) = 0 then out ++ [rH b (p + 1) (seq + 1 + aD b 2 p)] else rH b (p + 1) (seq + 1 + aD b 2 p) :: out), eZ e := by
      have h4 := zL b (p + 1) (seq + 1 + aD b 2 p)
      intro e he; split at he
      . rcases A7.1 he with h5 | h5
        . exact h e h5
        rw [B6.1 h5]; exact h4
      rcases A8.1 he with rfl | h5
      . exact h4
      exact h e h5
    have h4 : (if aD b 2 (lS b (p + 1)) = 0 then out ++ [rH b (p + 1) (seq + 1 + aD b 2 p)] else rH b (p + 1) (seq + 1 + aD b 2 p) :: out).length = out.length + 1 := by split <;> simp
    obtain ⟨k1, k2, k3, k4⟩ := aPh b i (lS b (p + 1) + 1) (seq + 1 + aD b 2 p) _ h3
    exact ⟨k1, by rw [k2, h4]; omega, og, og⟩
def aDo {b : List UInt8} (hp : p <= 1000000000) : (∀ e ∈ (aZ b p).1, eZ e) /\ (aZ b p).1.length <= 12 /\ p <= (aZ b p).2 /\ (aZ b p).2 <= p + 73 := by
  have h1 := iW (b := b) (n := 13) (p := p) og
  have h2 := h1.2.1 og
  obtain ⟨k1, k2, k3, k4⟩ := aPh b (aD b 13 p).toNat (p + 1) 0 [] oS
  unfold aZ
  exact ⟨k1, by simp at k2; omega, og, og⟩
def aMt : ∀ (ls m : List Entry), (∀ e ∈ ls, eZ e) -> (∀ e ∈ m, eZ e) -> (∀ e ∈ ls.foldl bY m, eZ e) /\ (ls.foldl bY m).length = m.length + ls.length
  | [], m, _, h => ⟨h, rfl⟩
  | x :: r, m, hr, h => by
    have := aMt r (bY m x) (fun e he => hr e (A4 _ he)) fun e he => by
      rcases aNv he with h1 | h1
      . rw [h1]; exact hr x A3
      exact h e h1
    rw [nZ] at this; simp only [List.foldl_cons, C4]
    exact ⟨this.1, og⟩
def aHr : eZ oneEnt := by unfold eZ oneEnt; decide
def aPx {b : List UInt8} (hp : p <= 1000000000) : (∀ e ∈ cV b p, eZ e) /\ 1 <= (cV b p).length /\ (cV b p).length <= 12 := by
  obtain ⟨h1, h2, _⟩ := aDo (b := b) hp
  unfold cV; split
  . exact ⟨fun e he => by rw [B6.1 he]; exact aHr, by simp, by simp⟩
  rename_i h3
  obtain ⟨k1, k2⟩ := aMt (aZ b p).1 [] h1 oS
  unfold aDt
  have : 1 <= (aZ b p).1.length := by cases h4 : (aZ b p).1 with | nil => exact absurd h4 h3 | cons a l => simp
  simp at k2
  exact ⟨k1, og, og⟩
def bCs (h : ∀ e ∈ ls, eZ e) (hl : ls.length <= 1000) : cW ls := ⟨og, fun e he => by have := h e he; unfold eZ at this; unfold aNu; omega⟩
def aLs {b : List UInt8} (h : eZ e) : eZ (aNh b p e) := aBy (aBy (aBy h))
def aQx (b : List UInt8) (p : Nat) : p + 3 <= vR b p /\ vR b p <= p + 6 := by
  unfold vR
  have h1 := sF b p
  have h2 := sF b (dV b p)
  have h3 := sF b (dV b (dV b p))
  omega
def aKm (h : ∀ e ∈ ls, eZ e) (he : eZ e) : ∀ x ∈ ls.set k e, eZ x := fun x hx => by
  rcases List.mem_or_eq_of_mem_set hx with h1 | rfl
  . exact h x h1
  exact he
def zG (h : ∀ e ∈ ls, eZ e) : eZ ((ls[k]?).getD oneEnt) := by
  cases h1 : ls[k]? with
  | none => exact aHr
  | some x => exact h x (E4 h1)
def aWr {b : List UInt8} (hp : p <= 1000000000) : (∀ e ∈ (eQ b p).1.ents, eZ e) /\ (eQ b p).1.ents.length <= 13 /\ p <= (eQ b p).2 /\ (eQ b p).2 <= p + 100 := by
  obtain ⟨h1, h2, h3⟩ := aPx (b := b) hp
  obtain ⟨_, _, g3, g4⟩ := aDo (b := b) hp
  have g5 := aQx b ((aZ b p).2 + 2)
  unfold eQ
  dsimp only
  split
  . exact ⟨h1, by dsimp only; omega, by dsimp only; omega, by dsimp only; omega⟩
  split
  . exact ⟨aKm h1 (aLs (zG h1)), by simp only [D0]; omega, by dsimp only; omega, by dsimp only; omega⟩
  split
  . refine ⟨fun e he => ?_, by simp only [A2, C4, List.length_nil]; omega, by dsimp only; omega, by dsimp only; omega⟩
    rcases A7.1 he with h4 | h4
    . exact h1 e h4
    rw [B6.1 h4]; exact zG h1
  split
  . exact ⟨by simp, by simp, by dsimp only; omega, by dsimp only; omega⟩
  split
  . exact ⟨h1, by dsimp only; omega, by dsimp only; omega, by dsimp only; omega⟩
  exact ⟨h1, by dsimp only; omega, by dsimp only; omega, by dsimp only; omega⟩
def aWp (b : List UInt8) : ∀ (i p : Nat) (out : List Entry), (∀ e ∈ out, eZ e) -> (∀ e ∈ (aAd b i p out).1, eZ e) /\ (aAd b i p out).1.length = out.length + i /\ p <= (aAd b i p out).2 /\ (aAd b i p out).2 <= p + 4 * i
  | 0, p, out, h => ⟨h, rfl, A0 _, A0 _⟩
  | i + 1, p, out, h => by
    unfold aAd
    have h1 := vA b p
    obtain ⟨k1, k2, k3, k4⟩ := aWp b i (lS b p) (out ++ [rH b p 0]) fun e he => by
      rcases A7.1 he with h5 | h5
      . exact h e h5
      rw [B6.1 h5]; exact zL b p 0
    exact ⟨k1, by rw [k2]; simp; omega, og, og⟩
def bDc {b : List UInt8} (hp : p <= 1000000000) : (∀ e ∈ (aDc b p).1, eZ e) /\ 1 <= (aDc b p).1.length /\ (aDc b p).1.length <= 5 /\ p <= (aDc b p).2 /\ (aDc b p).2 <= p + 21 := by
  have h1 := iW (b := b) (n := 5) (p := p) og
  have h2 := h1.2.1 og
  obtain ⟨k1, k2, k3, k4⟩ := aWp b (1 + aD b 5 p).toNat (p + 1) [] oS
  unfold aDc; simp at k2
  exact ⟨k1, og, og, og, og⟩
def aPk (b : List UInt8) : ∀ (i p : Nat) (out : List Entry), (∀ e ∈ out, eZ e) -> (∀ e ∈ (pK b i p out).1, eZ e) /\ (pK b i p out).1.length <= out.length + i /\ p <= (pK b i p out).2 /\ (pK b i p out).2 <= p + 1 + 5 * i
  | 0, p, out, h => ⟨h, A0 _, Nat.le_succ _, A0 _⟩
  | i + 1, p, out, h => by
    unfold pK
    have h1 := vA b (p + 1)
    split
    . obtain ⟨k1, k2, k3, k4⟩ := aPk b i (lS b (p + 1)) (out ++ [rH b (p + 1) 0]) fun e he => by
        rcases A7.1 he with h5 | h5
        . exact h e h5
        rw [B6.1 h5]; exact zL b (p + 1) 0
      simp at k2
      exact ⟨k1, og, og, og⟩
    . exact ⟨h, by dsimp only; omega, by dsimp only; omega, by dsimp only; omega⟩
def bCy {b : List UInt8} (hp : p <= 1000000000) : (∀ e ∈ (nU b p).1, eZ e) /\ (nU b p).1.length <= 13 /\ p <= (nU b p).2 /\ (nU b p).2 <= p + 100 := by
  obtain ⟨h1, h2, h3, g3, g4⟩ := bDc (b := b) hp
  have g5 := aQx b ((aDc b p).2 + 1)
  have g6 := aPk b (13 - (aDc b p).1.length) ((aDc b p).2 + 1) (aDc b p).1 h1
  unfold nU
  dsimp only
  split
  . exact ⟨by simp, by simp, by dsimp only; omega, by dsimp only; omega⟩
  split
  . refine ⟨aKm h1 ?_, by simp only [D0]; omega, by dsimp only; omega, by dsimp only; omega⟩
    exact zG (k := 0) h1
  split
  . exact ⟨aKm h1 (aLs (zG h1)), by simp only [D0]; omega, by dsimp only; omega, by dsimp only; omega⟩
  split
  . exact ⟨g6.1, og, og, og⟩
  exact ⟨h1, by dsimp only; omega, by dsimp only; omega, by dsimp only; omega⟩
def aSt (ls : List Entry) : 0 <= bS ls /\ bS ls <= 65535 := by
  have key : ∀ (r : List Entry) (m : Int), 0 <= m /\ m <= 65535 -> 0 <= r.foldl jU m /\ r.foldl jU m <= 65535 := by
    intro r
    induction r with
    | nil => exact fun m h => h
    | cons x r ih => exact fun m _ => ih _ (by unfold jU; exact pQ _ _)
  exact key ls 0 og
def bDo (ls : List Entry) (l : Entry) : fzL (ls.map enA ++ [.agg [Ns l.key, Ni l.seq, Ni l.kind, Ns l.text, Ni l.n]]) = (ls ++ [l]).map enA := by
  have h : ls.map enA ++ [.agg [.raw (.string l.key), .raw (.int .i64 l.seq), .raw (.int .i64 l.kind), .raw (.string l.text), .raw (.int .i64 l.n)]] = (ls ++ [l]).map enA := by rw [D5]; rfl
  rw [h, eY]
def aZu (ls : List Entry) (k : Nat) (l : Entry) : fzL ((ls.map enA).set k (.agg [Ns l.key, Ni l.seq, Ni l.kind, Ns l.text, Ni l.n])) = (ls.set k l).map enA := by
  have h : (ls.map enA).set k (.agg [.raw (.string l.key), .raw (.int .i64 l.seq), .raw (.int .i64 l.kind), .raw (.string l.text), .raw (.int .i64 l.n)]) = (ls.set k l).map enA := by rw [List.map_set]; rfl
  rw [h, eY]
def aOk (b : List UInt8) (p : Nat) (hb : b.length <= 2000) (hp : p + 100 <= 1000000000) : aO P 190 [.ptr 0 0, Ni 12] [(0, rdO b p)] 1 (.sl 5 ((aZ b p).1.map enA)) [(0, rdO b ((aZ b p).2))] 1 := by
 refine (gq 38 [.tmp 4] func190) ?_
 have hmx := mxl
 have hpk := iW (b := b) (n := 13) (p := p) og
 have hpk2 := hpk.2.1 og
 obtain ⟨m, hm⟩ := Int.eq_ofNat_of_zero_le hpk.1
 have hm2 : (aD b 13 p).toNat = m := by omega
 refine (aj) ?_
 refine sr rfl fun k2 => (ja) ((jr) (k2 ((aj) ?_)))
 refine aA fun k4 => ?_
 have hw13 := wr (13) (13) og
 refine sr rfl fun k5 => ?_
 simp only [go_sem, Int.reduceAdd, hw13]
 refine vO 0 rfl rfl rfl ⟨func62, rfl, rfl⟩ (aE b (p) hb og 13) oG oG (aC _ _ _) (aC _ _ _) oG oG ?_
 refine (Be hm) (k5 (wb ?_))
 refine wl (α := Nat × Nat × Int × List Entry) (fun x => x.1 <= 12 /\ p + 1 <= x.2.1 /\ x.2.1 + 6 * x.1 <= p + 73 /\ 0 <= x.2.2.1 /\ x.2.2.1 + 2 * x.1 <= 24 /\ x.2.2.2.length + x.1 <= 12 /\ tT b x.1 x.2.1 x.2.2.1 x.2.2.2 = aZ b p) (fun x => x.1) (fun x => ([(0, .ptr 0 0), (5, .ref 1), (6, Ni x.2.2.1), (7, Ni (x.1 : Int))], [(0, rdO b x.2.1), (1, .row 43 5 ((x.2.2.2).map enA))])) 2 (m, p + 1, 0, []) ⟨by show m <= 12; omega, A0 _, by show p + 1 + 6 * m <= _; omega, Int.le_refl _, by show (0 : Int) + 2 * (m : Int) <= 24; omega, by show 0 + m <= 12; omega, by unfold aZ; rw [hm2]⟩ [] ?_ ?_
 . simp only [go_sem, AObj.bel, AObj.ren, AV.ren, aB, sg, hm, List.map_nil, Int.natCast_zero] <;> simp
 rintro ⟨i0, q, seq, out⟩ ⟨hi, hq0, hq1, hs0, hs1, hol, hgo⟩
 simp only at hi hq0 hq1 hs0 hs1 hol hgo ⊢
 refine aA fun k6 => (aj) ((cdB) ?_ ?_) <;> intro hc1
 . have hi0 : i0 = 0 := by simp at hc1; omega
   subst hi0; unfold tT at hgo
   have h1 : (aZ b p).1 = out := by rw [<- hgo]
   have h2 : (aZ b p).2 = q := by rw [<- hgo]
   refine we ((jt) (k4 ((aj) ?_)))
   refine aFz 1 rfl ?_
   refine (Ac) (wR ?_)
   refine ⟨[], ?_⟩
   simp only [go_sem, h1, h2, AObj.bel, AObj.ren, AV.ren, aB, sg] <;> simp
 obtain ⟨i, rfl⟩ : ∃ i, i0 = i + 1 := ⟨i0 - 1, by simp at hc1; omega⟩
 have hel := vA b (q + 1)
 unfold tT at hgo
 refine wk (k6 (aA fun k8 => wb ?_))
 have hws := wr (seq + 1) (seq + 1) og
 have hpq := iW (b := b) (n := 2) (p := q) og
 have hpq2 := hpq.2.1 og
 have hwq := wr (seq + 1 + aD b 2 q) (seq + 1 + aD b 2 q) og
 refine sr rfl fun k9 => (Aa hws) ?_
 refine vO 0 rfl rfl rfl ⟨func62, rfl, rfl⟩ (aE b (q) hb og 2) oG oG (aC _ _ _) (aC _ _ _) oG oG ?_
 refine (Be hwq) (k9 (sr rfl fun k10 => (ja) ?_))
 refine vO 0 rfl rfl rfl ⟨func100, rfl, rfl⟩ (nC b (q + 1) hb og (seq + 1 + aD b 2 q)) oG oG (aC _ _ _) (aC _ _ _) (dQ _ _) oG ?_
 simp only [go_sem, Nat.add_zero, enA]
 refine k10 (sr rfl fun k11 => (ja) ?_)
 refine vO 0 rfl rfl rfl ⟨func62, rfl, rfl⟩ (aE b (lS b (q + 1)) hb og 2) oG oG (aC _ _ _) (aC _ _ _) oG oG ?_
 refine (Ai) (k11 ((cdA) ?_ ?_)) <;> intro hc2
 . have hz : aD b 2 (lS b (q + 1)) = 0 := by simpa using hc2
   rw [if_pos hz] at hgo
   refine wg rfl ((Au) ((jr) ((jt) (k8 ?_))))
   have hwi := wr (((i + 1 : Nat) : Int) - 1) ((i : Int)) og
   refine wg rfl ((Aa hwi) ((jt) ?_))
   refine ⟨(i, lS b (q + 1) + 1, (seq + 1 + aD b 2 q), out ++ [rH b (q + 1) (seq + 1 + aD b 2 q)]), ⟨by show i <= 12; omega, by show p + 1 <= lS b (q + 1) + 1; omega, by show lS b (q + 1) + 1 + 6 * i <= _; omega, by show 0 <= (seq + 1 + aD b 2 q); omega, by show (seq + 1 + aD b 2 q) + 2 * (i : Int) <= 24; omega, by simp only [A2, List.length_singleton]; omega, hgo⟩, by show i < i + 1; omega, [(1, 4)], ?_⟩
   exact Co
 have hz : ¬ aD b 2 (lS b (q + 1)) = 0 := by simpa using hc2
 rw [if_neg hz] at hgo
 refine wg rfl ((Au) ((jr) ((jt) (k8 ?_))))
 have hwi := wr (((i + 1 : Nat) : Int) - 1) ((i : Int)) og
 refine wg rfl ((Aa hwi) ((jt) ?_))
 refine ⟨(i, lS b (q + 1) + 1, (seq + 1 + aD b 2 q), rH b (q + 1) (seq + 1 + aD b 2 q) :: out), ⟨by show i <= 12; omega, by show p + 1 <= lS b (q + 1) + 1; omega, by show lS b (q + 1) + 1 + 6 * i <= _; omega, by show 0 <= (seq + 1 + aD b 2 q); omega, by show (seq + 1 + aD b 2 q) + 2 * (i : Int) <= 24; omega, by simp only [C4]; omega, hgo⟩, by show i < i + 1; omega, [(1, 4)], ?_⟩
 exact Co
def aOs (ls : List Entry) (hz : ls.length <= 1000) : aO P 189 [.sl 5 (ls.map enA)] [] 0 (.ref 0) [(0, .row 43 5 ((aDt ls).map enA))] 1 := by
 refine (gq 19 [.tmp 2] func189) ?_
 have hmx := mxl
 refine (aj) ?_
 refine sr rfl fun k2 => (ja) ((jr) (k2 (aA fun k3 => (aj) (wb ?_))))
 refine wl (α := Nat × List Entry) (fun x => x.1 <= ls.length /\ x.2.length = x.1 /\ (ls.drop x.1).foldl bY x.2 = aDt ls) (fun x => ls.length - x.1) (fun x => ([(0, .sl 5 (ls.map enA)), (3, .ref 0), (4, Ni (x.1 : Int))], [(0, .row 43 5 ((x.2).map enA))])) 1 (0, []) ⟨A5 _, rfl, rfl⟩ [] ?_ ?_
 . exact Bu
 rintro ⟨i, out⟩ ⟨hi, hol, hgo⟩
 simp only at hi hol hgo ⊢
 refine aA fun k5 => (aj) ((cdB) ?_ ?_) <;> intro hc1
 . have hge := gec hc1
   have hie : i = ls.length := by omega
   rw [E6 hge] at hgo
   have h9 : aDt ls = out := hgo.symm
   refine we ((jt) (k3 ((aj) (wR ?_))))
   refine ⟨[], ?_⟩
   exact Bj h9
 obtain ⟨hlt, l, hl, hdrop, hml⟩ := ixc hc1
 refine wk (k5 (aA fun k7 => wb (wg rfl ((An hl) ((jr) ?_)))))
 refine vC (fun hN => bLn [0] (xs := [.ref 0, enA l]) rfl rfl rfl ⟨func125, rfl, rfl⟩ hN (xC out l og) oS dg Ae (by simp [aIm, xU, wY, Abs.get, fzL, AV.fz, eY, enA]) Ae rfl (fun p hp => by rw [B6.1 hp]; exact bGd _)) (.inr dg) ?_
 simp only [go_sem, AV.ren, AObj.ren, aB, shift, sg, id, A0, Nat.add_zero, Nat.sub_self]
 refine (jr) ((jt) (k7 ((jw (wiS i og)) ((jt) ?_))))
 refine ⟨(i + 1, bY out l), ⟨by show i + 1 <= _; omega, by simp only [nZ]; omega, by rw [hdrop] at hgo; exact hgo⟩, og, [(0, 1)], ?_⟩
 exact jz
def aOy (b : List UInt8) (p : Nat) (hb : b.length <= 2000) (hp : p + 100 <= 1000000000) : aO P 167 [.ptr 0 0, Ni 12] [(0, rdO b p)] 1 (.ref 1) [(0, rdO b (aZ b p).2), (1, .row 43 5 ((aDt (aZ b p).1).map enA))] 2 := by
 refine (gq 9 [.tmp 4] func167) ?_
 have hlz := aDo (b := b) (p := p) og
 refine (aj) ?_
 refine sr rfl fun k2 => (ja) ?_
 refine vO 0 rfl rfl rfl ⟨func190, rfl, rfl⟩ (aOk b p hb hp) oG oG (aC _ _ _) (aC _ _ _) oG oG ?_
 refine (Ai) ?_
 refine vn 1 rfl rfl rfl ⟨func189, rfl, rfl⟩ (aOs (aZ b p).1 og) oG oG oS dg ?_
 refine (jn) (k2 (wR ?_))
 refine ⟨[], ?_⟩; exact jz
def aMl (ls : List Entry) (hz : cW ls) : aO P 168 [.ref 0] [(0, .row 43 5 ((ls).map enA))] 1 (.agg [.ref 0, Ni (bS ls)]) [(0, .row 43 5 ((ls).map enA))] 1 := by
 refine (gq 7 [.cell 2 105] func168) ((aj) ?_)
 refine sr rfl fun k2 => (ja) ?_
 refine vl [0] (xs := [.ref 0]) rfl rfl rfl ⟨func152, rfl, rfl⟩ (tU ls hz) oG (by simp [aIm, xU, wY, Abs.get, fzL, AV.fz, eY]) oG rfl ?_
 refine (ja) (k2 (wR ?_))
 refine ⟨[], ?_⟩; exact jz
def aPb (b : List UInt8) (p : Nat) (hb : b.length <= 2000) (hp : p + 200 <= 1000000000) : aO P 148 [.ptr 0 0] [(0, rdO b p)] 1 (rA (eQ b p).1) [(0, rdO b ((eQ b p).2))] 1 := by
 refine (gq 67 [.cell 2 105] func148) ?_
 have hmx := mxl
 have hlz := aDo (b := b) (p := p) og
 have hdl := aPx (b := b) (p := p) og
 have hmz := bCs hdl.1 og
 have hkq := aTp (b := b) (p := (aZ b p).2) (ls := cV b p) og hdl.2.1
 obtain ⟨hk0, hk1, l, hlx⟩ := hkq
 refine (aj) ?_
 refine sr rfl fun k2 => (ja) ?_
 refine vg [(0, 0)] 1 rfl rfl rfl ⟨func167, rfl, rfl⟩ (aOy b p hb og) rfl (by simp only [go_sem, AV.ren, aB, sg]) oG (bOt (.inr ⟨0, rfl⟩) (by rw [AObj.ren_no (aC _ _ _)]; simp only [go_sem, sg]) (aC _ _ _) oS rfl dg) (.inr dg) ?_
 refine (jn) (k2 ?_)
 refine uY (α := Unit) (fun x => True) (fun x => ([(0, .ptr 0 0), (2, .ptr 1 0), (3, .ref 2)], [(0, rdO b (aZ b p).2), (1, .cells 105 [.raw (.slice none 0 0), Ni 0]), (2, .row 43 5 (((cV b p)).map enA))])) 3 ?_ ?_
 . refine (aj) ((cdB) ?_ ?_) <;> intro hc1
   . have he : ¬ (aZ b p).1 = [] := fun h => by rw [h] at hc1; simp [aDt] at hc1
     have h8 : cV b p = aDt (aZ b p).1 := by unfold cV; rw [if_neg he]
     refine wk ?_; try simp only [aCh]
     refine ⟨(), trivial, [], ?_⟩
     exact Bj h8
   have he : (aZ b p).1 = [] := by
     have h7 := aMt (aZ b p).1 [] hlz.1 oS
     unfold aDt at hc1; rw [h7.2] at hc1
     exact G8 (by simpa using hc1)
   have h8 : cV b p = [oneEnt] := by unfold cV; rw [if_pos he]
   refine wg rfl ((ja) ((jr) ?_))
   try simp only [aCh]
   refine ⟨(), trivial, [(2, 3)], ?_⟩
   simp only [go_sem, h8, AObj.bel, AObj.ren, AV.ren, aB, sg, oneEnt, enA, List.map_cons, List.map_nil] <;> simp
 rintro ⟨⟩ -
 refine sr rfl fun k5 => (ja) ?_
 refine vg [(0, 2)] 0 rfl rfl rfl ⟨func168, rfl, rfl⟩ (aMl (cV b p) hmz) rfl (by simp only [go_sem, AV.ren, aB, sg]) oG (mZ (H1 := []) (.inr ⟨2, rfl⟩) (by simp only [go_sem, sg, AObj.ren]) (by simp only [go_sem, AObj.bel])) (.inl rfl) ?_
 refine (jn) (k5 (sr rfl fun k6 => (ja) ?_))
 refine vO 0 rfl rfl rfl ⟨func62, rfl, rfl⟩ (aE b ((aZ b p).2) hb og ((cV b p).length : Int)) oG oG (aC _ _ _) (aC _ _ _) oG oG ?_
 refine (Ai) (k6 (aA fun k7 => sr rfl fun k8 => (ja) ?_))
 refine vO 0 rfl rfl rfl ⟨func62, rfl, rfl⟩ (aE b ((aZ b p).2 + 1) hb og 50) oG oG (aC _ _ _) (aC _ _ _) oG oG ?_
 refine (Ai) (k8 (wb ((aj) ((cdA) ?_ ?_)))) <;> intro hc2
 . have hk1 : aD b 50 ((aZ b p).2 + 1) = 0 := by simpa using hc2
   have h9 : eQ b p = (⟨(cV b p), bS (cV b p) + eS xQ b ((aZ b p).2 + 2)⟩, (aZ b p).2 + 3) := by unfold eQ; dsimp only; rw [if_pos hk1]
   have hmo := aSt (cV b p)
   have hnm := aIw xQ b ((aZ b p).2 + 2)
   have hnm2 : -1 <= eS xQ b ((aZ b p).2 + 2) /\ eS xQ b ((aZ b p).2 + 2) <= 65536 := by
     rcases hnm with h | h
     . omega
     exact (by decide : ∀ x ∈ xQ, (-1 : Int) <= x /\ x <= 65536) _ h
   have hwm := wr (bS (cV b p) + eS xQ b ((aZ b p).2 + 2)) (bS (cV b p) + eS xQ b ((aZ b p).2 + 2)) og
   refine ddT 3 mixed rfl ?_
   refine (Aa hwm) ((jr) ?_)
   refine aN (fun hN => rO (e := 3) (sz := 1) (xs := [Ni 1, Ni (-1), Ni 65536]) rfl hN oG trivial oS) (.inr dg) ?_
   simp only [go_sem, fzL, AV.fz, hwm]
   refine (jr) ?_
   refine tO 0 rfl rfl rfl ⟨func64, rfl, rfl⟩ (bD b ((aZ b p).2 + 2) hb og xQ dg) (by simp only [go_sem, xQ, List.map_cons, List.map_nil, inA]) (by simp only [go_sem, xQ, List.map_cons, List.map_nil, inA]) (aC _ _ _) (aC _ _ _) oG oG ?_
   refine (Be hwm) ((jr) ((jy) ((jt) (k7 ((aj) ?_)))))
   refine aFz 2 rfl ?_
   refine (Ac) (wR ?_)
   refine ⟨[], ?_⟩
   exact Cp h9
 have hk1 : ¬ aD b 50 ((aZ b p).2 + 1) = 0 := by simpa using hc2
 refine (aj) ((cdA) ?_ ?_) <;> intro hc3
 . have hk2 : aD b 50 ((aZ b p).2 + 1) = 1 := by simpa using hc3
   have h9 : eQ b p = (⟨(cV b p).set (aD b ((cV b p).length : Int) (aZ b p).2).toNat (aNh b ((aZ b p).2 + 2) (((cV b p)[(aD b ((cV b p).length : Int) (aZ b p).2).toNat]?).getD oneEnt)), bS (cV b p)⟩, vR b ((aZ b p).2 + 2)) := by unfold eQ; dsimp only; rw [if_neg hk1]; rw [if_pos hk2]
   rw [hlx, Option.getD_some] at h9
   have hb1 := sF b ((aZ b p).2 + 2)
   have hb2 := sF b (dV b ((aZ b p).2 + 2))
   refine cQ mixed rfl ?_
   simp only [go_sem, hlx, enA, Int.toNat_natCast]
   refine (jr) ?_
   refine tO 0 rfl rfl rfl ⟨func101, rfl, rfl⟩ (iN b ((aZ b p).2 + 2) hb og (l)) Ae Ae (aC _ _ _) (aC _ _ _) (dQ _ _) oG ?_
   simp only [go_sem, Nat.add_zero, enA, hlx]
   refine (jr) ?_
   refine tO 0 rfl rfl rfl ⟨func101, rfl, rfl⟩ (iN b (dV b ((aZ b p).2 + 2)) hb og (jD b ((aZ b p).2 + 2) l)) Ae Ae (aC _ _ _) (aC _ _ _) (dQ _ _) oG ?_
   simp only [go_sem, Nat.add_zero, enA, hlx]
   refine (jr) ?_
   refine tO 0 rfl rfl rfl ⟨func101, rfl, rfl⟩ (iN b (dV b (dV b ((aZ b p).2 + 2))) hb og (jD b (dV b ((aZ b p).2 + 2)) (jD b ((aZ b p).2 + 2) l))) Ae Ae (aC _ _ _) (aC _ _ _) (dQ _ _) oG ?_
   simp only [go_sem, Nat.add_zero, enA, hlx]
   refine (jr) ((jy) ((jt) (k7 ((aj) ?_))))
   refine aFz 2 rfl ?_
   simp only [go_sem, fzL, AV.fz, aZu]; refine wR ?_; refine ⟨[], ?_⟩
   simp only [go_sem, h9, rA, aNh, vR, AObj.bel, AObj.ren, AV.ren, aB, sg] <;> simp
 have hk2 : ¬ aD b 50 ((aZ b p).2 + 1) = 1 := by simpa using hc3
 refine (aj) ((cdA) ?_ ?_) <;> intro hc4
 . have hk3 : aD b 50 ((aZ b p).2 + 1) = 2 := by simpa using hc4
   have h9 : eQ b p = (⟨(cV b p) ++ [((cV b p)[(aD b ((cV b p).length : Int) (aZ b p).2).toNat]?).getD oneEnt], bS (cV b p)⟩, (aZ b p).2 + 2) := by unfold eQ; dsimp only; rw [if_neg hk1]; rw [if_neg hk2]; rw [if_pos hk3]
   rw [hlx, Option.getD_some] at h9
   refine cQ mixed rfl ?_
   simp only [go_sem, hlx, enA, B0, A2, List.nil_append, A6, B1]
   refine (jr) ((jy) ((jt) (k7 ((aj) ?_))))
   refine aFz 5 rfl ?_
   simp only [go_sem, fzL, AV.fz, bDo]; refine wR ?_; refine ⟨[], ?_⟩
   exact Cp h9
 have hk3 : ¬ aD b 50 ((aZ b p).2 + 1) = 2 := by simpa using hc4
 refine (aj) ((cdA) ?_ ?_) <;> intro hc5
 . have hk4 : aD b 50 ((aZ b p).2 + 1) = 3 := by simpa using hc5
   have h9 : eQ b p = (⟨[], bS (cV b p)⟩, (aZ b p).2 + 2) := by unfold eQ; dsimp only; rw [if_neg hk1]; rw [if_neg hk2]; rw [if_neg hk3]; rw [if_pos hk4]
   refine wg rfl ((ja) ((jr) ((jt) (k7 ((aj) ?_)))))
   refine aFz 4 rfl ?_
   refine (Ac) (wR ?_)
   refine ⟨[], ?_⟩
   simp only [go_sem, h9, rA, List.map_nil, AObj.bel, AObj.ren, AV.ren, aB, sg] <;> simp
 have hk4 : ¬ aD b 50 ((aZ b p).2 + 1) = 3 := by simpa using hc5
 refine (aj) ((cdA) ?_ ?_) <;> intro hc6
 . have hk5 : aD b 50 ((aZ b p).2 + 1) = 4 := by simpa using hc6
   have h9 : eQ b p = (⟨(cV b p), 65535⟩, (aZ b p).2 + 2) := by unfold eQ; dsimp only; rw [if_neg hk1]; rw [if_neg hk2]; rw [if_neg hk3]; rw [if_neg hk4]; rw [if_pos hk5]
   refine wg rfl ((ja) ((jt) (k7 ((aj) ?_))))
   refine aFz 2 rfl ?_
   refine (Ac) (wR ?_)
   refine ⟨[], ?_⟩
   exact Cp h9
 have hk5 : ¬ aD b 50 ((aZ b p).2 + 1) = 4 := by simpa using hc6
 have h9 : eQ b p = (⟨(cV b p), bS (cV b p)⟩, (aZ b p).2 + 2) := by unfold eQ; dsimp only; rw [if_neg hk1]; rw [if_neg hk2]; rw [if_neg hk3]; rw [if_neg hk4]; rw [if_neg hk5]
 refine wk ((jt) (k7 ((aj) ?_)))
 refine aFz 2 rfl ?_
 refine (Ac) (wR ?_)
 refine ⟨[], ?_⟩
 exact Cp h9
def aKb (b : List UInt8) (p : Nat) (hb : b.length <= 2000) (hp : p + 200 <= 1000000000) : aO P 49 [.ptr 0 0] [(0, rdO b p)] 1 (.sl 5 ((nU b p).1.map enA)) [(0, rdO b ((nU b p).2))] 1 := by
 refine (gq 58 [.tmp 2] func49) ?_
 have hmx := mxl
 have hpk := iW (b := b) (n := 5) (p := p) og
 have hpk2 := hpk.2.1 og
 obtain ⟨m, hm⟩ := Int.eq_ofNat_of_zero_le (show 0 <= 1 + aD b 5 p by omega)
 have hm2 : (1 + aD b 5 p).toNat = m := by omega
 refine (aj) ?_
 refine sr rfl fun k2 => (ja) ((jr) (k2 (aA fun k3 => ?_)))
 have hwm := wr ((m : Int)) ((m : Int)) og
 refine sr rfl fun k4 => (Aq hwm hm) ?_
 refine vO 0 rfl rfl rfl ⟨func62, rfl, rfl⟩ (aE b (p) hb og 5) oG oG (aC _ _ _) (aC _ _ _) oG oG ?_
 simp only [go_sem, Nat.add_zero, hwm, hm]
 refine k4 (wb ?_)
 refine wl (α := Nat × Nat × List Entry) (fun x => x.1 <= 5 /\ p + 1 <= x.2.1 /\ x.2.1 + 4 * x.1 <= p + 21 /\ x.2.2.length + x.1 <= 5 /\ aAd b x.1 x.2.1 x.2.2 = aDc b p) (fun x => x.1) (fun x => ([(0, .ptr 0 0), (3, .ref 1), (4, Ni (x.1 : Int))], [(0, rdO b x.2.1), (1, .row 43 5 ((x.2.2).map enA))])) 2 (m, p + 1, []) ⟨by show m <= 5; omega, A0 _, by show p + 1 + 4 * m <= _; omega, by show 0 + m <= 5; omega, by unfold aDc; rw [hm2]⟩ [] ?_ ?_
 . simp only [go_sem, AObj.bel, AObj.ren, AV.ren, aB, sg, List.map_nil] <;> simp
 rintro ⟨i0, q, out⟩ ⟨hi, hq0, hq1, hol, hgo⟩
 simp only at hi hq0 hq1 hol hgo ⊢
 refine aA fun k5 => (aj) ((cdA) ?_ ?_) <;> intro hc1
 . obtain ⟨i, rfl⟩ : ∃ i, i0 = i + 1 := ⟨i0 - 1, by simp at hc1; omega⟩
   have hel := vA b q
   unfold aAd at hgo
   refine wk (k5 (aA fun k7 => wb (wg rfl ((Au) ((jr) ?_)))))
   refine vO 0 rfl rfl rfl ⟨func100, rfl, rfl⟩ (nC b q hb og 0) oG oG (aC _ _ _) (aC _ _ _) (dQ _ _) oG ?_
   refine (Db) ((jr) ((jt) (k7 ?_)))
   have hwi := wr (((i + 1 : Nat) : Int) - 1) ((i : Int)) og
   refine wg rfl ((Aa hwi) ((jt) ?_))
   refine ⟨(i, lS b q, out ++ [rH b q 0]), ⟨by show i <= 5; omega, by show p + 1 <= lS b q; omega, by show lS b q + 4 * i <= _; omega, by simp only [A2, List.length_singleton]; omega, hgo⟩, by show i < i + 1; omega, [(1, 3)], ?_⟩
   exact Co
 have hi0 : i0 = 0 := by simp at hc1; omega
 subst hi0; unfold aAd at hgo
 have h0 : aDc b p = (out, q) := hgo.symm
 have hbo := bDc (b := b) (p := p) og
 rw [h0] at hbo
 simp only at hbo
 obtain ⟨l0, hl0⟩ : ∃ l, out[0]? = some l := ⟨_, A1 (show 0 < out.length by omega)⟩
 refine we ((jt) (k3 (aA fun k8 => sr rfl fun k9 => (ja) ?_)))
 refine vO 0 rfl rfl rfl ⟨func62, rfl, rfl⟩ (aE b (q) hb og 40) oG oG (aC _ _ _) (aC _ _ _) oG oG ?_
 refine (Ai) (k9 (wb ((aj) ((cdA) ?_ ?_)))) <;> intro hc2
 . have hk1 : aD b 40 q = 0 := by simpa using hc2
   have h9 : nU b p = ([], q + 1) := by unfold nU; dsimp only; rw [h0]; dsimp only; rw [if_pos hk1]
   refine sr rfl fun k11 => (ja) ((jr) (k11 ?_))
   refine aFz 2 rfl ?_
   refine (Ac) (wR ((Ah) ?_))
   refine ⟨[], ?_⟩
   simp only [go_sem, h9, List.map_nil, AObj.bel, AObj.ren, AV.ren, aB, sg] <;> simp
 have hk1 : ¬ aD b 40 q = 0 := by simpa using hc2
 refine (aj) ((cdA) ?_ ?_) <;> intro hc3
 . have hk2 : aD b 40 q = 1 := by simpa using hc3
   have h9 : nU b p = (out.set 0 { (out[0]?).getD oneEnt with seq := eS aQi b (q + 1) }, q + 2) := by unfold nU; dsimp only; rw [h0]; dsimp only; rw [if_neg hk1]; rw [if_pos hk2]
   rw [hl0, Option.getD_some] at h9
   have hfz := aZu out 0 { l0 with seq := eS aQi b (q + 1) }
   dsimp only at hfz
   refine wg rfl ((ja) ((jr) ?_))
   refine bE 2 rfl ?_
   refine (Ac) ?_
   refine vO 0 rfl rfl rfl ⟨func64, rfl, rfl⟩ (bD b (q + 1) hb og aQi dg) (by simp only [go_sem, aQi, List.map_cons, List.map_nil, inA]) (by simp only [go_sem, aQi, List.map_cons, List.map_nil, inA]) (aC _ _ _) (aC _ _ _) oG oG ?_
   refine (Cq hl0) ((jr) ((jt) (k8 ((aj) ?_))))
   refine aFz 1 rfl ?_
   simp only [go_sem, fzL, AV.fz, hfz]; refine wR ?_; refine ⟨[], ?_⟩
   exact Bj h9
 have hk2 : ¬ aD b 40 q = 1 := by simpa using hc3
 refine (aj) ((cdA) ?_ ?_) <;> intro hc4
 . have hk3 : aD b 40 q = 2 := by simpa using hc4
   have h9 : nU b p = (out.set 0 (aNh b (q + 1) ((out[0]?).getD oneEnt)), vR b (q + 1)) := by unfold nU; dsimp only; rw [h0]; dsimp only; rw [if_neg hk1]; rw [if_neg hk2]; rw [if_pos hk3]
   rw [hl0, Option.getD_some] at h9
   have hb1 := sF b (q + 1)
   have hb2 := sF b (dV b (q + 1))
   refine wg rfl ((Cf hl0) ((jr) ?_))
   refine vO 0 rfl rfl rfl ⟨func101, rfl, rfl⟩ (iN b (q + 1) hb og (l0)) Ae Ae (aC _ _ _) (aC _ _ _) (dQ _ _) oG ?_
   refine (Cq hl0) ((jr) ?_)
   refine vO 0 rfl rfl rfl ⟨func101, rfl, rfl⟩ (iN b (dV b (q + 1)) hb og (jD b (q + 1) l0)) Ae Ae (aC _ _ _) (aC _ _ _) (dQ _ _) oG ?_
   refine (Cq hl0) ((jr) ?_)
   refine vO 0 rfl rfl rfl ⟨func101, rfl, rfl⟩ (iN b (dV b (dV b (q + 1))) hb og (jD b (dV b (q + 1)) (jD b (q + 1) l0))) Ae Ae (aC _ _ _) (aC _ _ _) (dQ _ _) oG ?_
   refine (Cq hl0) ((jr) ((jt) (k8 ((aj) ?_))))
   refine aFz 1 rfl ?_
   simp only [go_sem, fzL, AV.fz, aZu]; refine wR ?_; refine ⟨[], ?_⟩
   simp only [go_sem, h9, aNh, vR, AObj.bel, AObj.ren, AV.ren, aB, sg] <;> simp
 have hk3 : ¬ aD b 40 q = 2 := by simpa using hc4
 refine (aj) ((cdB) ?_ ?_) <;> intro hc5
 . have hk4 : ¬ aD b 40 q = 3 := by simpa using hc5
   have h9 : nU b p = (out, q + 1) := by unfold nU; dsimp only; rw [h0]; dsimp only; rw [if_neg hk1]; rw [if_neg hk2]; rw [if_neg hk3]; rw [if_neg hk4]
   refine wk ((jt) (k8 ((aj) ?_)))
   refine aFz 1 rfl ?_
   refine (Ac) (wR ?_)
   refine ⟨[], ?_⟩
   exact Bj h9
 have hk4 : aD b 40 q = 3 := by simpa using hc5
 have h9 : nU b p = pK b (13 - out.length) (q + 1) out := by unfold nU; dsimp only; rw [h0]; dsimp only; rw [if_neg hk1]; rw [if_neg hk2]; rw [if_neg hk3]; rw [if_pos hk4]
 refine wb ?_
 refine wl (α := Nat × List Entry) (fun x => x.2.length <= 13 /\ x.1 + 5 * (13 - x.2.length) <= p + 90 /\ pK b (13 - x.2.length) x.1 x.2 = pK b (13 - out.length) (q + 1) out) (fun x => 13 - x.2.length) (fun x => ([(0, .ptr 0 0), (3, .ref 1)], [(0, rdO b x.1), (1, .row 43 5 ((x.2).map enA))])) 2 (q + 1, out) ⟨by show out.length <= 13; omega, by show q + 1 + 5 * (13 - out.length) <= _; omega, rfl⟩ [] ?_ ?_
 . exact jz
 rintro ⟨q1, out1⟩ ⟨hl1, hp1, hgf⟩
 simp only at hl1 hp1 hgf ⊢
 refine aA fun k17 => ?_
 have hpf := iW (b := b) (n := 2) (p := q1) og
 have hpf2 := hpf.2.1 og
 have hw12 := wr (12 + aD b 2 q1) (12 + aD b 2 q1) og
 refine sr rfl fun k18 => (ja) ?_
 refine vO 0 rfl rfl rfl ⟨func62, rfl, rfl⟩ (aE b (q1) hb og 2) oG oG (aC _ _ _) (aC _ _ _) oG oG ?_
 refine (Be hw12) (k18 ((cdA) ?_ ?_)) <;> intro hc6
 . have hlt : (out1.length : Int) < 12 + aD b 2 q1 := by simpa using hc6
   have hel := vA b (q1 + 1)
   obtain ⟨f, hf⟩ : ∃ f, 13 - out1.length = f + 1 := ⟨12 - out1.length, og⟩
   rw [hf, pK, if_pos hlt] at hgf
   refine wk (k17 (wb (wg rfl ((Au) ((jr) ?_)))))
   refine vO 0 rfl rfl rfl ⟨func100, rfl, rfl⟩ (nC b (q1 + 1) hb og 0) oG oG (aC _ _ _) (aC _ _ _) (dQ _ _) oG ?_
   refine (Db) ((jr) ((jt) ((jt) ?_)))
   refine ⟨(lS b (q1 + 1), out1 ++ [rH b (q1 + 1) 0]), ⟨by simp only [A2, List.length_singleton]; omega, by simp only [A2, List.length_singleton]; omega, by simp only [A2, List.length_singleton]; rw [show 13 - (out1.length + 1) = f by omega]; exact hgf⟩, by simp only [A2, List.length_singleton]; omega, [(1, 3)], ?_⟩
   exact Co
 have hge : ¬ (out1.length : Int) < 12 + aD b 2 q1 := by simpa using hc6
 have hgf2 : pK b (13 - out1.length) q1 out1 = (out1, q1 + 1) := by
   cases h7 : 13 - out1.length with
   | zero => rfl
   | succ f => rw [pK, if_neg hge]
 rw [hgf2] at hgf; rw [<- hgf] at h9
 refine we ((jt) ((jt) (k8 ((aj) ?_))))
 refine aFz 1 rfl ?_
 refine (Ac) (wR ?_)
 refine ⟨[], ?_⟩
 exact Bj h9
end
section
def bAz {q : Int} {rs : List Run} (h : aIn q rs) (hl : rs.length <= 1000) : aGn rs :=
  ⟨og, fun r hr => by
    obtain ⟨h1, _⟩ := h r hr
    have h2 := gI h1
    have h3 : bU r.ents = true := by
      unfold cE at h1
      simp only [B7] at h1
      exact h1.1.2
    exact ⟨og, fun e he => cO (lY h3 he)⟩⟩
def RT.s {q : Int} {m : List Entry} {a b c : List Run} {sn : List Int} (h : RT q m a b c sn) : rB m /\ aKz [a, b, c] /\ sn.length <= 4 := by
  refine ⟨⟨by have := h.ml; omega, fun e he => cO (lY h.mo he)⟩, ⟨by simp, fun r hr => ?_⟩, ?_⟩
  . simp only [A8, List.not_mem_nil, or_false] at hr
    have h1 := h.la
    have h2 := h.lb
    have h3 := h.lc
    rcases hr with rfl | rfl | rfl
    . exact bAz h.ra og
    . exact bAz h.rb og
    exact bAz h.rc og
  have := h.hs
  unfold eP at this
  simp only [B7, decide_eq_true_eq] at this
  omega
def bLw {s : Store} (h : aJ s = true) : gA s /\ s.disk.log.size <= 12000 /\ 0 <= s.disk.safe /\ s.disk.safe <= (s.disk.log.size : Int) /\ (s.up = true -> s.tree.levels.length = 3) /\ 0 <= s.tree.seq /\ s.tree.seq <= 100000 /\ 0 <= s.disk.seq /\ s.disk.seq <= 100000 := by
  cases hu : s.up with
  | true =>
    obtain ⟨a, b, c, bs, g⟩ := (mE hu).1 h
    obtain ⟨h1, h2, h3⟩ := g.rt.s
    exact ⟨⟨⟨h1, by rw [g.tl]; exact h2, og⟩, by rw [g.dl]; exact h2⟩, g.lg, g.f0, g.f1, fun _ => by rw [g.tl]; rfl, g.rt.q0, g.rt.q1, g.rd.q0, g.rd.q1⟩
  | false =>
    obtain ⟨a, b, c, bs, g⟩ := (aKh hu).1 h
    obtain ⟨h1, h2, h3⟩ := g.rd.s
    refine ⟨⟨?_, by rw [g.dl]; exact h2⟩, g.lg, g.f0, g.f1, (fun h => by cases h), by rw [g.tz]; decide, by rw [g.tz]; decide, g.rd.q0, g.rd.q1⟩
    rw [g.tz]
    exact ⟨⟨by decide, fun e he => by cases he⟩, ⟨by decide, fun e he => by cases he⟩, by decide⟩
def aOt : Store := ⟨true, ⟨0, [], [[], [], []], []⟩, ⟨⟨#[]⟩, 0, [[], [], []], 0⟩⟩
def bDn : aJ aOt = true := kr
def jI (b : List UInt8) (p : Nat) (s : Store) : Store × Nat :=
  if s.up = false then (eF s, p)
  else
    let c := aD b 12 p
    if c = 0 ∨ c = 1 then ((flS s).1, p + 1)
    else if c = 2 then ((bB s (aD b 2 (p + 1)) (aD b 3 (p + 2))).1, p + 3)
    else if c = 3 then ((bB s 0 0).1, p + 1)
    else if c = 4 ∨ c = 5 then ({ s with disk := { s.disk with safe := (s.disk.log.size : Int) } }, p + 1)
    else if c = 6 then (qZ s (aD b 600 (p + 1)), p + 2)
    else if c = 7 then (dW s (aD b 600 (p + 1)), p + 2)
    else if (eO s (nU b (p + 1)).1).2 = true then ((eO s (nU b (p + 1)).1).1, (nU b (p + 1)).2) else (s, (nU b (p + 1)).2)
def bDr {b : List UInt8} {p : Nat} {s : Store} (hp : p + 200 <= 1000000000) (h : aJ s = true) : aJ (jI b p s).1 = true /\ p <= (jI b p s).2 /\ (jI b p s).2 <= p + 101 := by
  unfold jI
  obtain ⟨_, _, k1, k2⟩ := bCy (b := b) (p := p + 1) og
  split
  . rename_i hu; exact ⟨bNv h hu, by dsimp only; omega, by dsimp only; omega⟩
  rename_i hu
  have hu : s.up = true := by simpa using hu
  dsimp only
  split
  . exact ⟨bHx h, by dsimp only; omega, by dsimp only; omega⟩
  split
  . exact ⟨bDl h _ _, by dsimp only; omega, by dsimp only; omega⟩
  split
  . exact ⟨bDl h _ _, by dsimp only; omega, by dsimp only; omega⟩
  split
  . exact ⟨bNy h hu, by dsimp only; omega, by dsimp only; omega⟩
  split
  . exact ⟨bCr h hu _, by dsimp only; omega, by dsimp only; omega⟩
  split
  . exact ⟨bJk h _, by dsimp only; omega, by dsimp only; omega⟩
  split
  . exact ⟨bKk h _, by dsimp only; omega, by dsimp only; omega⟩
  exact ⟨h, by dsimp only; omega, by dsimp only; omega⟩
def vD (b : List UInt8) : Nat -> Nat -> Store -> Store × Nat
  | 0, p, s => (s, p)
  | i + 1, p, s => vD b i (jI b p s).2 (jI b p s).1
def aAh : List Int := [5, 9, 14, 20, 3, 1, 26]
def aAw (b : List UInt8) (p : Nat) : Store × Nat := vD b (eS aAh b p).toNat (p + 1) aOt
def aQs (b : List UInt8) : ∀ (i p : Nat) (s : Store), p + 200 * i + 200 <= 1000000000 -> aJ s = true -> aJ (vD b i p s).1 = true /\ p <= (vD b i p s).2 /\ (vD b i p s).2 <= p + 101 * i
  | 0, p, s, _, h => ⟨h, A0 _, A0 _⟩
  | i + 1, p, s, hp, h => by
    obtain ⟨h1, h2, h3⟩ := bDr (b := b) (p := p) og h
    obtain ⟨k1, k2, k3⟩ := aQs b i (jI b p s).2 (jI b p s).1 og h1
    unfold vD
    exact ⟨k1, og, og⟩
def aVz (b : List UInt8) (p : Nat) : 0 <= eS aAh b p /\ eS aAh b p <= 26 := by
  rcases aIw aAh b p with h | h
  . omega
  exact (by decide : ∀ x ∈ aAh, (0 : Int) <= x /\ x <= 26) _ h
def bLa {b : List UInt8} {p : Nat} (hp : p + 10000 <= 1000000000) : aJ (aAw b p).1 = true /\ p <= (aAw b p).2 /\ (aAw b p).2 <= p + 3000 := by
  have h1 := aVz b p
  obtain ⟨k1, k2, k3⟩ := aQs b (eS aAh b p).toNat (p + 1) aOt og bDn
  unfold aAw
  exact ⟨k1, og, og⟩
def xR  : aK P 144 [] [] 0 (trA aOt.tree) := by
 refine (pq 6 [.cell 0 27] func144) ?_
 have hmx := mxl
 refine (aj) ?_
 refine sr rfl fun k2 => ?_
 simp only [go_sem, A8, List.not_mem_nil, or_false, or_self]
 refine (jr) (k2 ?_)
 refine aFz 4 rfl ?_
 refine (Ac) ?_
 refine dI 0 (ds := [Ni 0, .sl 5 [], .sl 1 [.sl 2 [], .sl 2 [], .sl 2 []], .sl 1 []]) rfl (by repeat (first | exact LeL.nil | refine LeL.cons (by first | exact Le.refl _ | exact Le.nil _) ?_)) oG ?_
 refine (ja) (wR ?_)
 refine fO ?_ ⟨trivial, trivial, ⟨trivial, trivial, trivial, trivial⟩, trivial, trivial⟩
 simp only [go_sem, trA, aOt, rsA, List.map_cons, List.map_nil]
def aHy  : aK P 111 [] [] 0 (stA aOt) := by
 refine (pq 6 [.cell 0 31] func111) ((aj) ?_)
 refine sr rfl fun k2 => (ja) ?_
 refine vs rfl rfl rfl func144 (xR) oG oG ?_
 simp only [go_sem, trA, aOt, rsA, List.map_cons, List.map_nil]
 refine vs rfl rfl rfl func144 (xR) oG oG ?_
 simp only [go_sem, trA, aOt, rsA, List.map_cons, List.map_nil]
 refine k2 (wR ?_)
 refine fO ?_ (bK _ _)
 simp only [go_sem, stA, aOt, rsA, List.map_cons, List.map_nil]
set_option maxHeartbeats 1000000 in
def aTm (b : List UInt8) (p : Nat) (hb : b.length <= 2000) (hp : p + 300 <= 1000000000) (s : Store) (hok : aJ s = true) : aO P 112 [.ptr 0 0, stA s] [(0, rdO b p)] 1 (stA (jI b p s).1) [(0, rdO b ((jI b p s).2))] 1 := by
 refine (gq 72 [.cell 4 31] func112) ?_
 simp only [stA]
 obtain ⟨hs, hlg, hf0, hf1, hlv, hq0, hq1, -, -⟩ := bLw hok
 have hcp := aLq hok
 have hlg2 : s.disk.log.size <= 1048576 := by omega
 have hbz := bCy (b := b) (p := p + 1) og
 have hbm := bCs hbz.1 og
 refine (aj) ?_
 refine aA fun k2 => (aj) ((cdA) ?_ ?_) <;> intro hc1
 . have hup : s.up = false := by simpa using hc1
   have h9 : jI b p s = (eF s, p) := by unfold jI; rw [if_pos hup]
   refine sr rfl fun k4 => (ja) ?_
   refine vs rfl rfl rfl func36 (aAt s hs hlg2) Ad Ad ?_
   refine (Ao) (k4 (wR ?_))
   refine ⟨[], ?_⟩
   exact Ax h9
 have hup : s.up = true := by simpa using hc1
 refine wk (k2 (aA fun k5 => sr rfl fun k6 => (ja) ?_))
 refine vO 0 rfl rfl rfl ⟨func62, rfl, rfl⟩ (aE b (p) hb og 12) oG oG (aC _ _ _) (aC _ _ _) oG oG ?_
 refine (Ai) (k6 (wb (aA fun k7 => (aj) ((cdA) ?_ ?_)))) <;> intro hc2
 . have he2 : aD b 12 p = 0 := by simpa using hc2
   have h9 : jI b p s = ((flS s).1, p + 1) := by unfold jI; rw [if_neg (by rw [hup]; simp)]; dsimp only; rw [if_pos (show aD b 12 p = 0 ∨ aD b 12 p = 1 by omega)]
   refine wk (k7 ((cdB) ?_ ?_)) <;> intro hc3
   . exfalso
     rw [he2] at hc3; simp at hc3
   refine wg rfl ((ja) ?_)
   refine vs rfl rfl rfl func145 (sE s hs hlv) Ad Ad ?_
   refine (Ao) ((jt) (k5 ((aj) (wR ?_))))
   refine ⟨[], ?_⟩
   exact Ax h9
 have he2 : ¬ aD b 12 p = 0 := by simpa using hc2
 refine wg rfl ((ja) (k7 ((cdA) ?_ ?_))) <;> intro hc4
 . have he4 : aD b 12 p = 1 := by simpa using hc4
   have h9 : jI b p s = ((flS s).1, p + 1) := by unfold jI; rw [if_neg (by rw [hup]; simp)]; dsimp only; rw [if_pos (show aD b 12 p = 0 ∨ aD b 12 p = 1 by omega)]
   refine wg rfl ((ja) ?_)
   refine vs rfl rfl rfl func145 (sE s hs hlv) Ad Ad ?_
   refine (Ao) ((jt) (k5 ((aj) (wR ?_))))
   refine ⟨[], ?_⟩
   exact Ax h9
 have he4 : ¬ aD b 12 p = 1 := by simpa using hc4
 refine (aj) ((cdA) ?_ ?_) <;> intro hc5
 . have he5 : aD b 12 p = 2 := by simpa using hc5
   have h9 : jI b p s = ((bB s (aD b 2 (p + 1)) (aD b 3 (p + 2))).1, p + 3) := by unfold jI; rw [if_neg (by rw [hup]; simp)]; dsimp only; rw [if_neg (show ¬ (aD b 12 p = 0 ∨ aD b 12 p = 1) by omega)]; rw [if_pos (show aD b 12 p = 2 by omega)]
   refine cQ mixed rfl ?_
   refine (ja) ?_
   refine tO 0 rfl rfl rfl ⟨func62, rfl, rfl⟩ (aE b (p + 1) hb og 2) oG oG (aC _ _ _) (aC _ _ _) oG oG ?_
   refine (Ai) ?_
   refine tO 0 rfl rfl rfl ⟨func62, rfl, rfl⟩ (aE b (p + 2) hb og 3) oG oG (aC _ _ _) (aC _ _ _) oG oG ?_
   refine (Ai) ?_
   refine tp rfl rfl rfl ⟨func146, rfl, rfl⟩ (rC s (aD b 2 (p + 1)) (aD b 3 (p + 2)) hs hlg2) Ad Ad ?_
   refine (Ao) ((jy) ((jt) (k5 ((aj) (wR ?_)))))
   refine ⟨[], ?_⟩
   exact Ax h9
 have he5 : ¬ aD b 12 p = 2 := by simpa using hc5
 refine (aj) ((cdA) ?_ ?_) <;> intro hc6
 . have he6 : aD b 12 p = 3 := by simpa using hc6
   have h9 : jI b p s = ((bB s 0 0).1, p + 1) := by unfold jI; rw [if_neg (by rw [hup]; simp)]; dsimp only; rw [if_neg (show ¬ (aD b 12 p = 0 ∨ aD b 12 p = 1) by omega)]; rw [if_neg (show ¬ aD b 12 p = 2 by omega)]; rw [if_pos (show aD b 12 p = 3 by omega)]
   refine wg rfl ((ja) ?_)
   refine vs rfl rfl rfl func146 (rC s 0 0 hs hlg2) Ad Ad ?_
   refine (Ao) ((jt) (k5 ((aj) (wR ?_))))
   refine ⟨[], ?_⟩
   exact Ax h9
 have he6 : ¬ aD b 12 p = 3 := by simpa using hc6
 refine aA fun k15 => (aj) ((cdA) ?_ ?_) <;> intro hc7
 . have he7 : aD b 12 p = 4 := by simpa using hc7
   have h9 : jI b p s = ({ s with disk := { s.disk with safe := (s.disk.log.size : Int) } }, p + 1) := by unfold jI; rw [if_neg (by rw [hup]; simp)]; dsimp only; rw [if_neg (show ¬ (aD b 12 p = 0 ∨ aD b 12 p = 1) by omega)]; rw [if_neg (show ¬ aD b 12 p = 2 by omega)]; rw [if_neg (show ¬ aD b 12 p = 3 by omega)]; rw [if_pos (show aD b 12 p = 4 ∨ aD b 12 p = 5 by omega)]
   refine wk (k15 ((cdB) ?_ ?_)) <;> intro hc8
   . exfalso
     rw [he7] at hc8; simp at hc8
   refine wg rfl ((ja) ((jt) (k5 ((aj) (wR ?_)))))
   refine ⟨[], ?_⟩
   exact Ax h9
 have he7 : ¬ aD b 12 p = 4 := by simpa using hc7
 refine wg rfl ((ja) (k15 ((cdA) ?_ ?_))) <;> intro hc9
 . have he9 : aD b 12 p = 5 := by simpa using hc9
   have h9 : jI b p s = ({ s with disk := { s.disk with safe := (s.disk.log.size : Int) } }, p + 1) := by unfold jI; rw [if_neg (by rw [hup]; simp)]; dsimp only; rw [if_neg (show ¬ (aD b 12 p = 0 ∨ aD b 12 p = 1) by omega)]; rw [if_neg (show ¬ aD b 12 p = 2 by omega)]; rw [if_neg (show ¬ aD b 12 p = 3 by omega)]; rw [if_pos (show aD b 12 p = 4 ∨ aD b 12 p = 5 by omega)]
   refine wg rfl ((ja) ((jt) (k5 ((aj) (wR ?_)))))
   refine ⟨[], ?_⟩
   exact Ax h9
 have he9 : ¬ aD b 12 p = 5 := by simpa using hc9
 refine (aj) ((cdA) ?_ ?_) <;> intro hc10
 . have he10 : aD b 12 p = 6 := by simpa using hc10
   have h9 : jI b p s = (qZ s (aD b 600 (p + 1)), p + 2) := by unfold jI; rw [if_neg (by rw [hup]; simp)]; dsimp only; rw [if_neg (show ¬ (aD b 12 p = 0 ∨ aD b 12 p = 1) by omega)]; rw [if_neg (show ¬ aD b 12 p = 2 by omega)]; rw [if_neg (show ¬ aD b 12 p = 3 by omega)]; rw [if_neg (show ¬ (aD b 12 p = 4 ∨ aD b 12 p = 5) by omega)]; rw [if_pos (show aD b 12 p = 6 by omega)]
   refine cQ mixed rfl ?_
   refine (ja) ?_
   refine tO 0 rfl rfl rfl ⟨func62, rfl, rfl⟩ (aE b (p + 1) hb og 600) oG oG (aC _ _ _) (aC _ _ _) oG oG ?_
   refine (Ai) ?_
   refine tp rfl rfl rfl ⟨func32, rfl, rfl⟩ (tQ s (aD b 600 (p + 1)) hf0 hf1) Ad Ad ?_
   refine (Ao) ((jy) ((jt) (k5 ((aj) (wR ?_)))))
   refine ⟨[], ?_⟩
   exact Ax h9
 have he10 : ¬ aD b 12 p = 6 := by simpa using hc10
 refine (aj) ((cdA) ?_ ?_) <;> intro hc11
 . have he11 : aD b 12 p = 7 := by simpa using hc11
   have h9 : jI b p s = (dW s (aD b 600 (p + 1)), p + 2) := by unfold jI; rw [if_neg (by rw [hup]; simp)]; dsimp only; rw [if_neg (show ¬ (aD b 12 p = 0 ∨ aD b 12 p = 1) by omega)]; rw [if_neg (show ¬ aD b 12 p = 2 by omega)]; rw [if_neg (show ¬ aD b 12 p = 3 by omega)]; rw [if_neg (show ¬ (aD b 12 p = 4 ∨ aD b 12 p = 5) by omega)]; rw [if_neg (show ¬ aD b 12 p = 6 by omega)]; rw [if_pos (show aD b 12 p = 7 by omega)]
   refine cQ mixed rfl ?_
   refine (ja) ?_
   refine tO 0 rfl rfl rfl ⟨func62, rfl, rfl⟩ (aE b (p + 1) hb og 600) oG oG (aC _ _ _) (aC _ _ _) oG oG ?_
   refine (Ai) ?_
   refine tp rfl rfl rfl ⟨func147, rfl, rfl⟩ (aEj s (aD b 600 (p + 1)) hs hlg2) Ad Ad ?_
   refine (Ao) ((jy) ((jt) (k5 ((aj) (wR ?_)))))
   refine ⟨[], ?_⟩
   exact Ax h9
 have he11 : ¬ aD b 12 p = 7 := by simpa using hc11
 refine sr rfl fun k23 => (ja) ?_
 refine vs rfl rfl rfl func31 (iL s hs) Ad Ad ?_
 simp only [go_sem, stA, hcp]
 refine vO 0 rfl rfl rfl ⟨func49, rfl, rfl⟩ (aKb b (p + 1) hb og) oG oG (aC _ _ _) (aC _ _ _) oG oG ?_
 refine (Ai) ?_
 refine vs rfl rfl rfl func52 (aNr s (nU b (p + 1)).1 hs hbm og hq0 hq1 hlg) Ad Ad ?_
 refine (Ao) (k23 ((aj) ((cdA) ?_ ?_))) <;> intro hc12
 . have hwr : (eO s (nU b (p + 1)).1).2 = true := by simpa using hc12
   have h9 : jI b p s = ((eO s (nU b (p + 1)).1).1, (nU b (p + 1)).2) := by unfold jI; rw [if_neg (by rw [hup]; simp)]; dsimp only; rw [if_neg (show ¬ (aD b 12 p = 0 ∨ aD b 12 p = 1) by omega)]; rw [if_neg (show ¬ aD b 12 p = 2 by omega)]; rw [if_neg (show ¬ aD b 12 p = 3 by omega)]; rw [if_neg (show ¬ (aD b 12 p = 4 ∨ aD b 12 p = 5) by omega)]; rw [if_neg (show ¬ aD b 12 p = 6 by omega)]; rw [if_neg (show ¬ aD b 12 p = 7 by omega)]; rw [if_pos hwr]
   refine wg rfl ((ja) ((jt) (k5 ((aj) (wR ?_)))))
   refine ⟨[], ?_⟩
   exact Ax h9
 have hwr : ¬ (eO s (nU b (p + 1)).1).2 = true := by simpa using hc12
 have h9 : jI b p s = (s, (nU b (p + 1)).2) := by unfold jI; rw [if_neg (by rw [hup]; simp)]; dsimp only; rw [if_neg (show ¬ (aD b 12 p = 0 ∨ aD b 12 p = 1) by omega)]; rw [if_neg (show ¬ aD b 12 p = 2 by omega)]; rw [if_neg (show ¬ aD b 12 p = 3 by omega)]; rw [if_neg (show ¬ (aD b 12 p = 4 ∨ aD b 12 p = 5) by omega)]; rw [if_neg (show ¬ aD b 12 p = 6 by omega)]; rw [if_neg (show ¬ aD b 12 p = 7 by omega)]; rw [if_neg hwr]
 refine wk ((jt) (k5 ((aj) (wR ?_))))
 refine ⟨[], ?_⟩
 exact Ax h9
def aOu (b : List UInt8) (p : Nat) (hb : b.length <= 2000) (hp : p + 10000 <= 1000000000) : aO P 61 [.ptr 0 0] [(0, rdO b p)] 1 (stA (aAw b p).1) [(0, rdO b ((aAw b p).2))] 1 := by
 refine (gq 18 [.cell 2 31] func61) ?_
 have hmx := mxl
 have hst := aVz b p
 obtain ⟨m, hm⟩ := Int.eq_ofNat_of_zero_le hst.1
 have hm2 : (eS aAh b p).toNat = m := by omega
 refine (aj) ?_
 refine sr rfl fun k2 => (ja) ?_
 refine vs rfl rfl rfl func111 (aHy) oG oG ?_
 refine (Ao) (k2 (aA fun k3 => sr rfl fun k4 => (ja) ((jr) ?_)))
 refine bE 3 rfl ?_
 refine (Ac) ?_
 refine vO 0 rfl rfl rfl ⟨func64, rfl, rfl⟩ (bD b (p) hb og aAh dg) (by simp only [go_sem, aAh, List.map_cons, List.map_nil, inA]) (by simp only [go_sem, aAh, List.map_cons, List.map_nil, inA]) (aC _ _ _) (aC _ _ _) oG oG ?_
 refine (Be hm) ((jr) (k4 (wb ?_)))
 refine wl (α := Nat × Nat × Store) (fun x => x.1 <= 26 /\ p + 1 <= x.2.1 /\ x.2.1 + 101 * x.1 <= p + 2700 /\ aJ x.2.2 = true /\ vD b x.1 x.2.1 x.2.2 = aAw b p) (fun x => x.1) (fun x => ([(0, .ptr 0 0), (2, .ptr 1 0), (3, .ptr 2 0), (4, Ni (x.1 : Int))], [(0, rdO b x.2.1), (1, .cells 31 [Nb false, Ni 0, .raw (.slice none 0 0), .raw (.slice none 0 0), .raw (.slice none 0 0), Ns ⟨#[]⟩, Ni 0, .raw (.slice none 0 0), Ni 0]), (2, .cells 31 [Nb x.2.2.up, Ni x.2.2.tree.seq, .sl 5 (x.2.2.tree.mem.map enA), .sl 1 (x.2.2.tree.levels.map rsA), .sl 1 (x.2.2.tree.snaps.map inA), Ns x.2.2.disk.log, Ni x.2.2.disk.safe, .sl 1 (x.2.2.disk.levels.map rsA), Ni x.2.2.disk.seq])])) 3 (m, p + 1, aOt) ⟨by show m <= 26; omega, A0 _, by show p + 1 + 101 * m <= _; omega, bDn, by unfold aAw; rw [hm2]⟩ [] ?_ ?_
 . exact jz
 rintro ⟨i0, q, s⟩ ⟨hi, hq0, hq1, hok, hgo⟩
 simp only at hi hq0 hq1 hok hgo ⊢
 refine aA fun k5 => (aj) ((cdB) ?_ ?_) <;> intro hc1
 . have hi0 : i0 = 0 := by simp at hc1; omega
   subst hi0; unfold vD at hgo
   have hcp := aLq hok
   have h9 : aAw b p = (s, q) := hgo.symm
   refine we ((jt) (k3 (sr rfl fun k8 => (ja) ?_)))
   refine vs rfl rfl rfl func31 (iL s (bLw hok).1) Ad Ad ?_
   simp only [go_sem, stA, hcp]
   refine k8 (wR ?_)
   refine ⟨[], ?_⟩
   exact Ax h9
 obtain ⟨i, rfl⟩ : ∃ i, i0 = i + 1 := ⟨i0 - 1, by simp at hc1; omega⟩
 have hao := bDr (b := b) (p := q) og hok
 unfold vD at hgo
 refine wk (k5 (aA fun k7 => wb (wg rfl ((ja) ?_))))
 refine vO 0 rfl rfl rfl ⟨func112, rfl, rfl⟩ (aTm b q hb og s hok) Ad Ad (aC _ _ _) (aC _ _ _) (bK _ _) oG ?_
 refine (Cr) ((jt) (k7 ?_))
 have hwi := wr (((i + 1 : Nat) : Int) - 1) ((i : Int)) og
 refine wg rfl ((Aa hwi) ((jt) ?_))
 refine ⟨(i, (jI b q s).2, (jI b q s).1), ⟨by show i <= 26; omega, by show p + 1 <= (jI b q s).2; omega, by show (jI b q s).2 + 101 * i <= _; omega, hao.1, hgo⟩, by show i < i + 1; omega, [], ?_⟩
 exact jz
end
end Go.Proofs.S
end
