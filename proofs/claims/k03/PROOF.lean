import PyProof.Rows.All
import Wide.All
import OpenK.AllK
import Wide.FinOn
import HandS.ForMost
import HandS.TupAny
import HandS.Conv
import KE.DataEq
import HandS.Flow
import HandS.Style
import HandS.Walk
import HandS.Zip
import HandS.Rev
import HandS.RevRange
import KE.GoesEnum
import HandS.IsInst
import PyProof.ReprRoads
import PyProof.CallFns
import PyProof.WalksMore
import PyProof.SumWalkG
import HandS.TupMul
import HandS.RevTup
import HandS.DictTup
import KE.KDictDisplayH
import KE.KDictCopyH
import HandS.Ends
import PySem.Challenge.RW_pipewalls_k03_whole_words_and_exchanges
set_option Elab.async false
set_option linter.all false
set_option maxRecDepth 100000
/-! TL, the tree layer: data as trees, slots that own their lists, readings that evaluate. Part 1: what stands for what. -/
namespace TL
open PySem L2

abbrev D := PyData
/-- a dict's key as data -/
def keyD : Key → D
  | .inl i => .int i
  | .inr x => .str x

mutual
/-- the value v stands for the data, the objects being frozen in F -/
def Rp (F : Hp) : D → V → Prop
  | .none, v => v = .non
  | .bool b, v => v = .bl b
  | .int i, v => v = .int i
  | .str x, v => v = .str x
  | .list xs, v => ∃ a vs, v = V.ref a ∧ F a = some (.lst vs) ∧ Rps F xs vs
  | .tuple xs, v => ∃ a vs, v = V.ref a ∧ F a = some (.tup vs) ∧ Rps F xs vs
  | .dict kvs, v => ∃ a ws, v = V.ref a ∧ F a = some (.dK ws) ∧ Rpd F kvs ws
def Rps (F : Hp) : List D → List V → Prop
  | [], vs => vs = []
  | d :: ds, vs => ∃ v r, vs = v :: r ∧ Rp F d v ∧ Rps F ds r
def Rpd (F : Hp) : List (D × D) → List (Key × V) → Prop
  | [], ws => ws = []
  | (k, d) :: r, ws => ∃ kk v q, ws = (kk, v) :: q ∧ keyD kk = k ∧ Rp F d v ∧ Rpd F r q
end
mutual
theorem Rp.mono {F F' : Hp} (s : Same F F') : ∀ (d : D) (v : V), Rp F d v → Rp F' d v
  | .none, _, h => h
  | .bool _, _, h => h
  | .int _, _, h => h
  | .str _, _, h => h
  | .list xs, _, ⟨a, vs, e, h1, h2⟩ => ⟨a, vs, e, s _ _ h1, Rps.mono s xs vs h2⟩
  | .tuple xs, _, ⟨a, vs, e, h1, h2⟩ => ⟨a, vs, e, s _ _ h1, Rps.mono s xs vs h2⟩
  | .dict kvs, _, ⟨a, ws, e, h1, h2⟩ => ⟨a, ws, e, s _ _ h1, Rpd.mono s kvs ws h2⟩
theorem Rps.mono {F F' : Hp} (s : Same F F') : ∀ (ds : List D) (vs : List V), Rps F ds vs → Rps F' ds vs
  | [], _, h => h
  | d :: ds, _, ⟨v, r, e, h1, h2⟩ => ⟨v, r, e, Rp.mono s d v h1, Rps.mono s ds r h2⟩
theorem Rpd.mono {F F' : Hp} (s : Same F F') : ∀ (ds : List (D × D)) (ws : List (Key × V)), Rpd F ds ws → Rpd F' ds ws
  | [], _, h => h
  | (_, d) :: r, _, ⟨kk, v, q, e, e2, h1, h2⟩ => ⟨kk, v, q, e, e2, Rp.mono s d v h1, Rpd.mono s r q h2⟩
end
section
variable {F : Hp}
theorem Rps.length : ∀ {ds : List D} {vs : List V}, Rps F ds vs → vs.length = ds.length
  | [], _, h => by rw [show _ = [] from h]; rfl
  | d :: ds, _, ⟨v, r, e, _, h2⟩ => by rw [e, List.length_cons, List.length_cons, Rps.length h2]
theorem Rps.get : ∀ {ds : List D} {vs : List V} {i : Nat} {d : D}, Rps F ds vs → ds[i]? = some d → ∃ v, vs[i]? = some v ∧ Rp F d v
  | [], _, _, _, _, e => by simp at e
  | d :: ds, _, 0, _, ⟨v, r, e, h1, _⟩, q => by
    simp at q
    subst q e
    exact ⟨v, rfl, h1⟩
  | d :: ds, _, i + 1, _, ⟨v, r, e, _, h2⟩, q => by
    subst e
    obtain ⟨u, e1, e2⟩ := Rps.get (i := i) h2 (by simpa using q)
    exact ⟨u, by simpa using e1, e2⟩
theorem Rps.append : ∀ {ds es : List D} {vs us : List V}, Rps F ds vs → Rps F es us → Rps F (ds ++ es) (vs ++ us)
  | [], _, _, _, h, q => by rw [show _ = [] from h]; exact q
  | d :: ds, _, _, _, ⟨v, r, e, h1, h2⟩, q => by
    subst e
    exact ⟨v, _, rfl, h1, Rps.append h2 q⟩
theorem Rps.one {d : D} {v : V} (h : Rp F d v) : Rps F [d] [v] := ⟨v, [], rfl, h, rfl⟩
theorem Rps.take : ∀ {ds : List D} {vs : List V} (n : Nat), Rps F ds vs → Rps F (ds.take n) (vs.take n)
  | _, _, 0, _ => by simp [Rps]
  | [], _, n + 1, h => by rw [show _ = [] from h]; rfl
  | d :: ds, _, n + 1, ⟨v, r, e, h1, h2⟩ => by
    subst e
    exact ⟨v, _, rfl, h1, Rps.take n h2⟩
theorem Rps.drop : ∀ {ds : List D} {vs : List V} (n : Nat), Rps F ds vs → Rps F (ds.drop n) (vs.drop n)
  | _, _, 0, h => h
  | [], _, n + 1, h => by rw [show _ = [] from h]; rfl
  | d :: ds, _, n + 1, ⟨v, r, e, h1, h2⟩ => by
    subst e
    exact Rps.drop n h2
theorem Rps.set : ∀ {ds : List D} {vs : List V} {d : D} {v : V} (n : Nat), Rps F ds vs → Rp F d v → Rps F (ds.set n d) (vs.set n v)
  | [], _, _, _, _, h, _ => by rw [show _ = [] from h]; rfl
  | d :: ds, _, _, _, 0, ⟨v, r, e, h1, h2⟩, q => by
    subst e
    exact ⟨_, _, rfl, q, h2⟩
  | d :: ds, _, _, _, n + 1, ⟨v, r, e, h1, h2⟩, q => by
    subst e
    exact ⟨_, _, rfl, h1, Rps.set n h2 q⟩
theorem Rps.eraseIdx : ∀ {ds : List D} {vs : List V} (n : Nat), Rps F ds vs → Rps F (ds.eraseIdx n) (vs.eraseIdx n)
  | [], _, _, h => by rw [show _ = [] from h]; rfl
  | d :: ds, _, 0, ⟨v, r, e, h1, h2⟩ => by
    subst e
    exact h2
  | d :: ds, _, n + 1, ⟨v, r, e, h1, h2⟩ => by
    subst e
    exact ⟨_, _, rfl, h1, Rps.eraseIdx n h2⟩
theorem Rps.reverse {ds : List D} {vs : List V} (h : Rps F ds vs) : Rps F ds.reverse vs.reverse := by
  induction ds generalizing vs with
  | nil => rw [show _ = [] from h]; rfl
  | cons d ds ih =>
    obtain ⟨v, r, rfl, h1, h2⟩ := h
    rw [List.reverse_cons, List.reverse_cons]
    exact (ih h2).append (.one h1)
theorem Rps.dropLast {ds : List D} {vs : List V} (h : Rps F ds vs) : Rps F ds.dropLast vs.dropLast := by
  rw [List.dropLast_eq_take, List.dropLast_eq_take, h.length]
  exact h.take _
theorem Rps.ints : ∀ {ns : List Int} {vs : List V}, Rps F (ns.map PyData.int) vs → vs = ns.map V.int
  | [], _, h => h
  | n :: ns, _, ⟨v, r, e, h1, h2⟩ => by
    subst e
    rw [show v = V.int n from h1, Rps.ints h2]
    rfl
theorem Rps.of_ints : ∀ (ns : List Int), Rps F (ns.map PyData.int) (ns.map V.int)
  | [] => rfl
  | n :: ns => ⟨_, _, rfl, rfl, Rps.of_ints ns⟩
theorem Rps.bls : ∀ {bs : List Bool} {vs : List V}, Rps F (bs.map PyData.bool) vs → vs = bs.map V.bl
  | [], _, h => h
  | n :: ns, _, ⟨v, r, e, h1, h2⟩ => by
    subst e
    rw [show v = V.bl n from h1, Rps.bls h2]
    rfl
end

/-! ### the bag: a list of a list of cells, of what is left of the present one, of a mixed number -/
abbrev Bg := List Int × Int × Int
def isB (bg : Option (Addr × Addr)) (a : Addr) : Prop := match bg with
  | none => False
  | some p => a = p.1 ∨ a = p.2
def BagAt (bg : Option (Addr × Addr)) (H : Hp) (b : Bg) : Prop := match bg with
  | none => True
  | some p => p.1 ≠ p.2 ∧ H p.1 = some (.lst [V.ref p.2, V.int b.2.1, V.int b.2.2]) ∧ H p.2 = some (.lst (b.1.map V.int))
theorem BagAt.at {bg : Option (Addr × Addr)} {H : Hp} {b : Bg} (h : BagAt bg H b) {a : Addr} (i : isB bg a) : ∃ vs, H a = some (.lst vs) := by
  cases bg with
  | none => exact i.elim
  | some p =>
    rcases i with e | e
    · subst e; exact ⟨_, h.2.1⟩
    · subst e; exact ⟨_, h.2.2⟩
theorem BagAt.same {bg : Option (Addr × Addr)} {H H' : Hp} {b : Bg} (h : BagAt bg H b) (s : ∀ a, isB bg a → H' a = H a) : BagAt bg H' b := by
  cases bg with
  | none => trivial
  | some p => exact ⟨h.1, (s p.1 (.inl rfl)).trans h.2.1, (s p.2 (.inr rfl)).trans h.2.2⟩

/-! ### slots, states, contexts -/
/-- what a slot holds: nothing that is known, data, a list or dict of its own, the bag -/
inductive S where
  | un | val (d : D) | own (ts : List D) | dk (kvs : List (Key × D)) | dt (kvs : List (List Key × D)) | bag
def S.mine : S → Bool
  | .own _ => true
  | .dk _ => true
  | .dt _ => true
  | _ => false
structure W where
  r : List S
  b : Bg
/-- the frozen objects and the heap at a def's entry, the bag's two objects -/
structure Cn where
  F0 : Hp
  H0 : Hp
  bg : Option (Addr × Addr)
def Priv (C : Cn) (F : Hp) (a : Addr) : Prop := F a = none ∧ ¬ isB C.bg a ∧ C.H0 a = none
/-- a dict's values -/
def Rpk {κ : Type} (F : Hp) : List (κ × D) → List (κ × V) → Prop
  | [], ws => ws = []
  | (k, d) :: r, ws => ∃ v q, ws = (k, v) :: q ∧ Rp F d v ∧ Rpk F r q
theorem Rpk.mono {κ : Type} {F F' : Hp} (s : Same F F') : ∀ (ds : List (κ × D)) (ws : List (κ × V)), Rpk F ds ws → Rpk F' ds ws
  | [], _, h => h
  | (_, d) :: r, _, ⟨v, q, e, h1, h2⟩ => ⟨v, q, e, Rp.mono s d v h1, Rpk.mono s r q h2⟩
theorem Rpk.d {F : Hp} : ∀ {ds : List (Key × D)} {ws : List (Key × V)}, Rpk F ds ws → Rpd F (ds.map fun p => (keyD p.1, p.2)) ws
  | [], _, h => h
  | (k, d) :: r, _, ⟨v, q, e, h1, h2⟩ => ⟨k, v, q, e, rfl, h1, Rpk.d h2⟩
def SRel (C : Cn) (F H : Hp) : S → Option (Option V) → Prop
  | .un, _ => True
  | .val d, o => ∃ v, o = some (some v) ∧ Rp F d v
  | .own ts, o => ∃ a vs, o = some (some (V.ref a)) ∧ H a = some (.lst vs) ∧ Rps F ts vs ∧ Priv C F a
  | .dk kvs, o => ∃ a ws, o = some (some (V.ref a)) ∧ H a = some (.dK ws) ∧ Rpk F kvs ws ∧ Priv C F a
  | .dt kvs, o => ∃ a ws, o = some (some (V.ref a)) ∧ H a = some (.dT ws) ∧ Rpk F kvs ws ∧ Priv C F a
  | .bag, o => ∃ p, C.bg = some p ∧ o = some (some (V.ref p.1))
/-- an owned object's content -/
def CRel (F : Hp) : S → HO → Prop
  | .own ts, o => ∃ vs, o = .lst vs ∧ Rps F ts vs
  | .dk kvs, o => ∃ ws, o = .dK ws ∧ Rpk F kvs ws
  | .dt kvs, o => ∃ ws, o = .dT ws ∧ Rpk F kvs ws
  | _, _ => False
theorem CRel.mono {F F' : Hp} (s : Same F F') {t : S} {o : HO} (h : CRel F t o) : CRel F' t o := by
  cases t with
  | own ts => obtain ⟨vs, e, h⟩ := h; exact ⟨vs, e, h.mono s⟩
  | dk ts => obtain ⟨vs, e, h⟩ := h; exact ⟨vs, e, h.mono s⟩
  | dt ts => obtain ⟨vs, e, h⟩ := h; exact ⟨vs, e, h.mono s⟩
  | _ => exact h.elim
theorem CRel.mine {F : Hp} {t : S} {o : HO} (h : CRel F t o) : t.mine = true := by
  cases t <;> first | rfl | exact h.elim
section
variable {C : Cn} {F F' H H' : Hp} {t : S} {o : Option (Option V)}
theorem SRel.mineAt (h : SRel C F H t o) (m : t.mine = true) : ∃ a u, o = some (some (V.ref a)) ∧ H a = some u ∧ CRel F t u ∧ Priv C F a := by
  cases t with
  | own ts => obtain ⟨a, vs, e, h1, h2, h3⟩ := h; exact ⟨a, _, e, h1, ⟨vs, rfl, h2⟩, h3⟩
  | dk ts => obtain ⟨a, vs, e, h1, h2, h3⟩ := h; exact ⟨a, _, e, h1, ⟨vs, rfl, h2⟩, h3⟩
  | dt ts => obtain ⟨a, vs, e, h1, h2, h3⟩ := h; exact ⟨a, _, e, h1, ⟨vs, rfl, h2⟩, h3⟩
  | _ => cases m
theorem SRel.of {a : Addr} {u : HO} (c : CRel F t u) (h : H a = some u) (p : Priv C F a) : SRel C F H t (some (some (V.ref a))) := by
  cases t with
  | own ts => obtain ⟨vs, rfl, h2⟩ := c; exact ⟨a, vs, rfl, h, h2, p⟩
  | dk ts => obtain ⟨vs, rfl, h2⟩ := c; exact ⟨a, vs, rfl, h, h2, p⟩
  | dt ts => obtain ⟨vs, rfl, h2⟩ := c; exact ⟨a, vs, rfl, h, h2, p⟩
  | _ => exact c.elim
/-- a slot whose own object, if it has one, is left as it is -/
theorem SRel.step (h : SRel C F H t o) (s : Same F F') (k : t.mine = true → ∀ a, o = some (some (V.ref a)) → Priv C F a → H' a = H a ∧ F' a = none) : SRel C F' H' t o := by
  cases t with
  | un => trivial
  | val d => obtain ⟨v, e, h⟩ := h; exact ⟨v, e, h.mono s⟩
  | bag => exact h
  | own ts =>
    obtain ⟨a, vs, e, h1, h2, h3⟩ := h
    obtain ⟨k1, k2⟩ := k rfl a e h3
    exact ⟨a, vs, e, k1.trans h1, h2.mono s, k2, h3.2⟩
  | dk ts =>
    obtain ⟨a, vs, e, h1, h2, h3⟩ := h
    obtain ⟨k1, k2⟩ := k rfl a e h3
    exact ⟨a, vs, e, k1.trans h1, h2.mono s, k2, h3.2⟩
  | dt ts =>
    obtain ⟨a, vs, e, h1, h2, h3⟩ := h
    obtain ⟨k1, k2⟩ := k rfl a e h3
    exact ⟨a, vs, e, k1.trans h1, h2.mono s, k2, h3.2⟩
end
/-- the slots of a state own the object at a -/
def OwnedAt (r : List S) (σ : L2.St) (a : Addr) : Prop := ∃ (i : Nat) (s : S), r[i]? = some s ∧ s.mine = true ∧ σ[i]? = some (some (V.ref a))
structure Rel (C : Cn) (F : Hp) (σ : L2.St) (H : Hp) (w : W) : Prop where
  base : ∀ c o, C.H0 c = some o → ¬ isB C.bg c → H c = some o
  le0 : Same C.F0 F
  le : Same F H
  fz : ∀ c o, F c = some o → C.F0 c = some o ∨ C.H0 c = none ∨ ∃ vs, o = .tup vs
  nb : ∀ c, isB C.bg c → F c = none
  bag : BagAt C.bg H w.b
  len : w.r.length = σ.length
  slot : ∀ (i : Nat) (s : S), w.r[i]? = some s → SRel C F H s σ[i]?
  apart : ∀ (i j : Nat) (s t : S) (a : Addr), i ≠ j → w.r[i]? = some s → w.r[j]? = some t → s.mine = true → t.mine = true → σ[i]? = some (some (V.ref a)) → σ[j]? ≠ some (some (V.ref a))
section
variable {C : Cn} {F H : Hp} {σ : L2.St} {w : W}
theorem Rel.owned (R : Rel C F σ H w) {a : Addr} (h : OwnedAt w.r σ a) : Priv C F a ∧ ∃ u, H a = some u := by
  obtain ⟨i, s, e, m, e2⟩ := h
  obtain ⟨b, u, e3, h1, _, h2⟩ := (R.slot i s e).mineAt m
  rw [e2] at e3
  cases e3
  exact ⟨h2, u, h1⟩
/-- a new address is nobody's -/
theorem Rel.fresh (R : Rel C F σ H w) {p : Addr} (h : H p = none) : Priv C F p ∧ ¬ OwnedAt w.r σ p := by
  refine ⟨⟨R.le.free h, fun z => ?_, ?_⟩, fun z => ?_⟩
  · obtain ⟨vs, e⟩ := R.bag.at z
    rw [h] at e
    cases e
  · cases e : C.H0 p with
    | none => rfl
    | some o =>
      by_cases z : isB C.bg p
      · obtain ⟨vs, e⟩ := R.bag.at z
        rw [h] at e
        cases e
      · rw [R.base p o e z] at h
        cases h
  · obtain ⟨_, u, e⟩ := R.owned z
    rw [h] at e
    cases e
/-- one object that nobody's slot owns, frozen by none, is changed or laid -/
theorem Rel.put (R : Rel C F σ H w) {p : Addr} {o : HO} (h : Priv C F p) (n : ¬ OwnedAt w.r σ p) : Rel C F σ (upd H p o) w where
  base := fun c u e z => by
    rw [upd_ne (ne_of_none e h.2.2)]
    exact R.base c u e z
  le0 := R.le0
  le := fun c u e => by
    rw [upd_ne (ne_of_none e h.1)]
    exact R.le c u e
  fz := R.fz
  nb := R.nb
  bag := R.bag.same fun a z => upd_ne fun (e : a = p) => h.2.1 (e ▸ z)
  len := R.len
  slot := fun i s e => (R.slot i s e).step (Same.refl F) fun m a e2 q => ⟨upd_ne fun (e3 : a = p) => n ⟨i, s, e, m, e3 ▸ e2⟩, q.1⟩
  apart := R.apart
/-- a private object is frozen -/
theorem Rel.freeze (R : Rel C F σ H w) {p : Addr} {o : HO} (h : Priv C F p) (n : ¬ OwnedAt w.r σ p) (e : H p = some o) : Rel C (upd F p o) σ H w ∧ Same F (upd F p o) := by
  have s : Same F (upd F p o) := fun c u q => by
    rw [upd_ne (ne_of_none q h.1)]
    exact q
  refine ⟨⟨R.base, R.le0.trans s, fun c u q => ?_, fun c u q => ?_, fun c z => ?_, R.bag, R.len, fun i t q => (R.slot i t q).step s fun m a e2 q2 => ⟨rfl, ?_⟩, R.apart⟩, s⟩
  · by_cases hc : c = p
    · subst hc
      rw [upd_same] at q
      cases q
      exact e
    · rw [upd_ne hc] at q
      exact R.le c u q
  · by_cases hc : c = p
    · subst hc
      exact .inr (.inl h.2.2)
    · rw [upd_ne hc] at q
      exact R.fz c u q
  · rw [upd_ne fun (e : c = p) => h.2.1 (e ▸ z)]
    exact R.nb c z
  · rw [upd_ne fun (e3 : a = p) => n ⟨i, t, q, m, e3 ▸ e2⟩]
    exact q2.1
theorem CRel.noTup {F : Hp} {t : S} {vs : List V} (c : CRel F t (.tup vs)) : False := by
  cases t with
  | own ts => obtain ⟨_, e, _⟩ := c; cases e
  | dk ts => obtain ⟨_, e, _⟩ := c; cases e
  | dt ts => obtain ⟨_, e, _⟩ := c; cases e
  | _ => exact c
/-- a tuple that stands there, from wherever -/
theorem Rel.tup (R : Rel C F σ H w) {p : Addr} {vs : List V} (e : H p = some (.tup vs)) : ∃ F', F' p = some (.tup vs) ∧ Same F F' ∧ Rel C F' σ H w := by
  cases q : F p with
  | some o =>
    have z := R.le p o q
    rw [e] at z
    cases z
    exact ⟨F, q, Same.refl F, R⟩
  | none =>
    have nb : ¬ isB C.bg p := fun z => by
      obtain ⟨us, z⟩ := R.bag.at z
      rw [e] at z
      cases z
    have s : Same F (upd F p (.tup vs)) := fun c u z => by
      rw [upd_ne (ne_of_none z q)]
      exact z
    refine ⟨upd F p (.tup vs), upd_same, s, R.base, R.le0.trans s, fun c u z => ?_, fun c u z => ?_, fun c z => ?_, R.bag, R.len, fun i t z => (R.slot i t z).step s fun m a e2 q2 => ⟨rfl, ?_⟩, R.apart⟩
    · by_cases hc : c = p
      · subst hc
        rw [upd_same] at z
        cases z
        exact e
      · rw [upd_ne hc] at z
        exact R.le c u z
    · by_cases hc : c = p
      · subst hc
        rw [upd_same] at z
        cases z
        exact .inr (.inr ⟨vs, rfl⟩)
      · rw [upd_ne hc] at z
        exact R.fz c u z
    · rw [upd_ne fun (e : c = p) => nb (e ▸ z)]
      exact R.nb c z
    · rw [upd_ne fun (e3 : a = p) => ?_]
      · exact q2.1
      · subst e3
        obtain ⟨b, u, e4, h1, c, _⟩ := (R.slot i t z).mineAt m
        rw [e2] at e4
        cases e4
        rw [e] at h1
        cases h1
        exact c.noTup
/-- a new frozen object -/
theorem Rel.lay (R : Rel C F σ H w) {p : Addr} {o : HO} (h : H p = none) : Rel C (upd F p o) σ (upd H p o) w ∧ Same F (upd F p o) := by
  obtain ⟨h1, h2⟩ := R.fresh h
  exact (R.put h1 h2).freeze h1 h2 upd_same
/-- a slot's own object has another content -/
theorem Rel.mut (R : Rel C F σ H w) {i : Nat} {s t : S} {a : Addr} {u : HO} (e : w.r[i]? = some s) (m : s.mine = true) (e2 : σ[i]? = some (some (V.ref a))) (c : CRel F t u) : Rel C F σ (upd H a u) { w with r := w.r.set i t } := by
  have hp := (R.owned ⟨i, s, e, m, e2⟩).1
  have hi : i < w.r.length := (List.getElem?_eq_some_iff.mp e).1
  refine ⟨fun c u q z => ?_, R.le0, fun c u q => ?_, R.fz, R.nb, R.bag.same fun b z => upd_ne fun (e : b = a) => hp.2.1 (e ▸ z), by rw [List.length_set]; exact R.len, fun j q hj => ?_, fun j k q q' b hne h1 h2 m1 m2 h3 => ?_⟩
  · rw [upd_ne (ne_of_none q hp.2.2)]
    exact R.base c u q z
  · rw [upd_ne (ne_of_none q hp.1)]
    exact R.le c u q
  · by_cases hij : i = j
    · subst hij
      rw [List.getElem?_set_self hi] at hj
      cases hj
      rw [e2]
      exact SRel.of c upd_same hp
    · rw [List.getElem?_set_ne hij] at hj
      exact (R.slot j q hj).step (Same.refl F) fun m' b e3 q3 => ⟨upd_ne fun e4 => R.apart i j s q a hij e hj m m' e2 (e4 ▸ e3), q3.1⟩
  · have back : ∀ (j : Nat) (q : S), (w.r.set i t)[j]? = some q → q.mine = true → ∃ q0, w.r[j]? = some q0 ∧ q0.mine = true := fun j q h mq => by
      by_cases hij : i = j
      · subst hij
        exact ⟨s, e, m⟩
      · rw [List.getElem?_set_ne hij] at h
        exact ⟨q, h, mq⟩
    obtain ⟨q0, g1, g2⟩ := back j q h1 m1
    obtain ⟨q1, g3, g4⟩ := back k q' h2 m2
    exact R.apart j k q0 q1 b hne g1 g3 g2 g4 h3
/-- a slot forgets what it knew -/
theorem Rel.weak (R : Rel C F σ H w) {i : Nat} {t : S} (m : t.mine = false) (h : i < w.r.length → SRel C F H t σ[i]?) : Rel C F σ H { w with r := w.r.set i t } := by
  refine ⟨R.base, R.le0, R.le, R.fz, R.nb, R.bag, by rw [List.length_set]; exact R.len, fun j q hj => ?_, fun j k q q' b hne h1 h2 m1 m2 h3 => ?_⟩
  · by_cases hij : i = j
    · subst hij
      have hi : i < w.r.length := by
        have := (List.getElem?_eq_some_iff.mp hj).1
        rwa [List.length_set] at this
      rw [List.getElem?_set_self hi] at hj
      cases hj
      exact h hi
    · rw [List.getElem?_set_ne hij] at hj
      exact R.slot j q hj
  · have back : ∀ (j : Nat) (q : S), (w.r.set i t)[j]? = some q → q.mine = true → w.r[j]? = some q := fun j q h mq => by
      by_cases hij : i = j
      · subst hij
        have hi : i < w.r.length := by
          have := (List.getElem?_eq_some_iff.mp h).1
          rwa [List.length_set] at this
        rw [List.getElem?_set_self hi] at h
        cases h
        rw [m] at mq
        cases mq
      · rw [List.getElem?_set_ne hij] at h
        exact h
    exact R.apart j k q q' b hne (back j q h1 m1) (back k q' h2 m2) m1 m2 h3
/-- a name is stored -/
theorem Rel.store (R : Rel C F σ H w) {i : Nat} {t : S} {v : V} (h : SRel C F H t (some (some v))) (n : t.mine = true → ∀ a, v = V.ref a → ¬ OwnedAt w.r σ a) : Rel C F (σ.set i (some v)) H { w with r := w.r.set i t } := by
  have len2 : (w.r.set i t).length = (σ.set i (some v)).length := by rw [List.length_set, List.length_set]; exact R.len
  have at_i : ∀ (q : S), (w.r.set i t)[i]? = some q → q = t ∧ (σ.set i (some v))[i]? = some (some v) := fun q hq => by
    have hi : i < w.r.length := by
      have := (List.getElem?_eq_some_iff.mp hq).1
      rwa [List.length_set] at this
    rw [List.getElem?_set_self hi] at hq
    exact ⟨(Option.some.inj hq).symm, List.getElem?_set_self (by rw [← R.len]; exact hi)⟩
  refine ⟨R.base, R.le0, R.le, R.fz, R.nb, R.bag, len2, fun j q hj => ?_, fun j k q q' b hne h1 h2 m1 m2 h3 h4 => ?_⟩
  · by_cases hij : i = j
    · subst hij
      obtain ⟨rfl, e⟩ := at_i q hj
      rw [e]
      exact h
    · rw [List.getElem?_set_ne hij] at hj
      rw [List.getElem?_set_ne hij]
      exact R.slot j q hj
  · by_cases hij : i = j
    · subst hij
      obtain ⟨rfl, e⟩ := at_i q h1
      rw [e] at h3
      cases h3
      rw [List.getElem?_set_ne hne] at h2 h4
      exact n m1 b rfl ⟨k, q', h2, m2, h4⟩
    · rw [List.getElem?_set_ne hij] at h1 h3
      by_cases hik : i = k
      · subst hik
        obtain ⟨rfl, e⟩ := at_i q' h2
        rw [e] at h4
        cases h4
        exact n m2 b rfl ⟨j, q, h1, m1, h3⟩
      · rw [List.getElem?_set_ne hik] at h2 h4
        exact R.apart j k q q' b hne h1 h2 m1 m2 h3 h4
end
end TL
set_option Elab.async false
set_option linter.all false
set_option maxRecDepth 100000
/-! TL, part 2: what is computed, readings that evaluate to it, calls. -/
namespace TL
open PySem L2

/-! ### computations -/
abbrev M (α : Type) := W → Option (α × W)
def ret {α : Type} (a : α) : M α := fun w => some (a, w)
def bnd {α β : Type} (m : M α) (f : α → M β) : M β := fun w => match m w with
  | none => none
  | some p => f p.1 p.2
theorem bnd_inv {α β : Type} {m : M α} {f : α → M β} {w : W} {y : β} {w' : W} (h : bnd m f w = some (y, w')) : ∃ x w1, m w = some (x, w1) ∧ f x w1 = some (y, w') := by
  unfold bnd at h
  cases e : m w with
  | none =>
    rw [e] at h
    cases h
  | some p =>
    rw [e] at h
    exact ⟨p.1, p.2, rfl, h⟩
theorem bnd_of {α β : Type} {m : M α} {f : α → M β} {w w1 : W} {x : α} (h : m w = some (x, w1)) : bnd m f w = f x w1 := by
  unfold bnd
  rw [h]
/-- a pure partial step -/
def lft {α : Type} (o : Option α) : M α := fun w => match o with
  | none => none
  | some a => some (a, w)
theorem lft_inv {α : Type} {o : Option α} {w w' : W} {y : α} (h : lft o w = some (y, w')) : o = some y ∧ w' = w := by
  unfold lft at h
  cases o with
  | none => cases h
  | some a =>
    cases h
    exact ⟨rfl, rfl⟩
theorem lft_some {α : Type} {a : α} {w : W} : lft (some a) w = some (a, w) := rfl

/-- an expression's end: data, or a new object of its own -/
inductive O where
  | v (d : D) | s (t : S) | nb (b : Bg)
/-- an operand: data, or the object that slot i owns -/
inductive R where
  | dv (x : D) | sl (i : Nat)
def S.fz : S → Option D
  | .own ts => some (.list ts)
  | .dk kvs => some (.dict (kvs.map fun p => (keyD p.1, p.2)))
  | _ => none
def O.fz : O → Option D
  | .v d => some d
  | .s t => t.fz
  | .nb _ => none
/-- a slot's data, by looking -/
def S.look : S → Option D
  | .val d => some d
  | t => t.fz
def R.look (r : R) (w : W) : Option D := match r with
  | .dv x => some x
  | .sl i => match w.r[i]? with
    | some t => t.look
    | none => none
/-- the operand is frozen -/
def R.frz (r : R) : M D := fun w => match r with
  | .dv x => some (x, w)
  | .sl i => match w.r[i]? with
    | some (.val d) => some (d, w)
    | some t => match t.fz with
      | some d => some (d, { w with r := w.r.set i (.val d) })
      | none => none
    | none => none

/-! ### what stands for them -/
def RV (_C : Cn) (F _H : Hp) (_σ : L2.St) (_w : W) (d : D) (v : V) : Prop := Rp F d v
def RR (_C : Cn) (F _H : Hp) (σ : L2.St) (_w : W) (r : R) (v : V) : Prop := match r with
  | .dv x => Rp F x v
  | .sl i => σ[i]? = some (some v)
def RO (C : Cn) (F H : Hp) (σ : L2.St) (w : W) (o : O) (v : V) : Prop := match o with
  | .v d => Rp F d v
  | .s t => ∃ a u, v = V.ref a ∧ H a = some u ∧ CRel F t u ∧ Priv C F a ∧ ¬ OwnedAt w.r σ a
  | .nb b => ∃ p q, v = V.ref p ∧ BagAt (some (p, q)) H b ∧ Priv C F p ∧ Priv C F q ∧ ¬ OwnedAt w.r σ p ∧ ¬ OwnedAt w.r σ q
/-- data as it can be looked at, the outermost object maybe not frozen -/
def Vw (F H : Hp) : D → V → Prop
  | .list xs, v => ∃ a vs, v = V.ref a ∧ H a = some (.lst vs) ∧ Rps F xs vs
  | .dict kvs, v => ∃ a ws, v = V.ref a ∧ H a = some (.dK ws) ∧ Rpd F kvs ws
  | d, v => Rp F d v
theorem Vw.of {F H : Hp} (s : Same F H) {d : D} {v : V} (h : Rp F d v) : Vw F H d v := by
  cases d with
  | list xs => obtain ⟨a, vs, e, h1, h2⟩ := h; exact ⟨a, vs, e, s _ _ h1, h2⟩
  | dict xs => obtain ⟨a, vs, e, h1, h2⟩ := h; exact ⟨a, vs, e, s _ _ h1, h2⟩
  | _ => exact h
theorem CRel.fz {F : Hp} {t : S} {u : HO} {d : D} {a : Addr} (c : CRel F t u) (e : t.fz = some d) {F' : Hp} (s : Same F F') (h : F' a = some u) : Rp F' d (V.ref a) := by
  cases t with
  | own ts =>
    obtain ⟨vs, rfl, c⟩ := c
    cases e
    exact ⟨a, vs, rfl, h, c.mono s⟩
  | dk ts =>
    obtain ⟨vs, rfl, c⟩ := c
    cases e
    exact ⟨a, vs, rfl, h, c.d.mono s⟩
  | _ => cases e
theorem CRel.vw {F H : Hp} {t : S} {u : HO} {d : D} {a : Addr} (c : CRel F t u) (e : t.fz = some d) (h : H a = some u) : Vw F H d (V.ref a) := by
  cases t with
  | own ts =>
    obtain ⟨vs, rfl, c⟩ := c
    cases e
    exact ⟨a, vs, rfl, h, c⟩
  | dk ts =>
    obtain ⟨vs, rfl, c⟩ := c
    cases e
    exact ⟨a, vs, rfl, h, c.d⟩
  | _ => cases e
theorem S.fz_mine {t : S} {d : D} (h : t.fz = some d) : t.mine = true := by
  cases t <;> first | rfl | cases h
section
variable {C : Cn} {F F' H H' : Hp} {σ : L2.St} {w w' : W}
theorem RR.step {r : R} {v : V} (h : RR C F H σ w r v) (s : Same F F') : RR C F' H' σ w' r v := by
  cases r with
  | dv d => exact Rp.mono s d v h
  | sl i => exact h
theorem Rel.look (Re : Rel C F σ H w) {r : R} {v : V} (h : RR C F H σ w r v) {d : D} (e : r.look w = some d) : Vw F H d v := by
  cases r with
  | dv x =>
    cases e
    exact Vw.of Re.le h
  | sl i =>
    have h : σ[i]? = some (some v) := h
    have e : (match w.r[i]? with | some t => t.look | none => none) = some d := e
    cases q : w.r[i]? with
    | none =>
      rw [q] at e
      cases e
    | some t =>
      rw [q] at e
      have e : t.look = some d := e
      have own : t.fz = some d → Vw F H d v := fun z => by
        obtain ⟨a, u, e1, h1, c, _⟩ := (Re.slot i t q).mineAt (S.fz_mine z)
        rw [h] at e1
        cases e1
        exact c.vw z h1
      cases t with
      | val x =>
        cases e
        obtain ⟨u, e1, h1⟩ := Re.slot i _ q
        rw [h] at e1
        cases e1
        exact Vw.of Re.le h1
      | own ts => exact own e
      | dk ts => exact own e
      | _ => cases e
/-- freezing an operand -/
theorem Rel.frz (Re : Rel C F σ H w) {r : R} {v : V} (h : RR C F H σ w r v) {d : D} (e : r.frz w = some (d, w')) : ∃ F', Same F F' ∧ Rel C F' σ H w' ∧ Rp F' d v := by
  cases r with
  | dv x =>
    cases e
    exact ⟨F, Same.refl F, Re, h⟩
  | sl i =>
    have h : σ[i]? = some (some v) := h
    cases q : w.r[i]? with
    | none =>
      unfold R.frz at e
      simp only [q] at e
      cases e
    | some t =>
      have own : t.fz = some d → w' = { w with r := w.r.set i (.val d) } → ∃ F', Same F F' ∧ Rel C F' σ H w' ∧ Rp F' d v := fun z ew => by
        have m := S.fz_mine z
        obtain ⟨a, u, e1, h1, c, p⟩ := (Re.slot i t q).mineAt m
        rw [h] at e1
        cases e1
        have hi : i < w.r.length := (List.getElem?_eq_some_iff.mp q).1
        -- first the slot forgets, then the object is frozen
        have R1 : Rel C F σ H { w with r := w.r.set i .un } := Re.weak rfl fun _ => trivial
        have no : ¬ OwnedAt (w.r.set i .un) σ a := fun ⟨j, s, e2, m2, e3⟩ => by
          by_cases hij : i = j
          · subst hij
            rw [List.getElem?_set_self hi] at e2
            cases e2
            cases m2
          · rw [List.getElem?_set_ne hij] at e2
            exact Re.apart i j t s a hij q e2 m m2 h e3
        obtain ⟨R2, s2⟩ := R1.freeze p no h1
        have r1 : Rp (upd F a u) d (V.ref a) := c.fz z s2 upd_same
        have R3 := R2.weak (i := i) (t := .val d) rfl fun _ => ⟨_, h, r1⟩
        have ew2 : ({ w with r := (w.r.set i .un).set i (.val d) } : W) = w' := by
          rw [ew, List.set_set]
        rw [← ew2]
        exact ⟨_, s2, R3, r1⟩
      unfold R.frz at e
      cases t with
      | val x =>
        simp only [q] at e
        cases e
        obtain ⟨u, e1, h1⟩ := Re.slot i _ q
        rw [h] at e1
        cases e1
        exact ⟨F, Same.refl F, Re, h1⟩
      | own ts =>
        simp only [q, S.fz] at e
        cases e
        exact own rfl rfl
      | dk ts =>
        simp only [q, S.fz] at e
        cases e
        exact own rfl rfl
      | _ =>
        simp only [q, S.fz] at e
        cases e
/-- freezing an expression's end -/
theorem Rel.frzO (Re : Rel C F σ H w) {o : O} {v : V} (h : RO C F H σ w o v) {d : D} (e : o.fz = some d) : ∃ F', Same F F' ∧ Rel C F' σ H w ∧ Rp F' d v := by
  cases o with
  | v x =>
    cases e
    exact ⟨F, Same.refl F, Re, h⟩
  | s t =>
    obtain ⟨a, u, rfl, h1, c, p, n⟩ := h
    obtain ⟨R2, s2⟩ := Re.freeze p n h1
    exact ⟨_, s2, R2, c.fz e s2 upd_same⟩
  | nb b => cases e
end

/-! ### judgements -/
def Sys (base : Heap) : Prop := ∃ o es n, base.get? sysModules = some o ∧ o.data = .dict es n
structure XOk (k : Nat) (X : Cx) : Prop where
  calm : X.calm = true
  grd : X.A.guards = some []
  room : Room k X.A
  sys : Sys X.base
  pas : PassesOwn (model X.prog X.w) X.A X.env X.xe
theorem _root_.L2.PE.imp {X : Cx} {e : Expr} {t t' : TE} (h : PE X e t) (i : ∀ σ H Q, t' σ H Q → t σ H Q) : PE X e t' := ⟨fun pins s σ H Q I q => h.run pins s σ H Q I (i σ H Q q)⟩
theorem _root_.L2.PT.imp {X : Cx} {e : Expr} {t t' : TT} (h : PT X e t) (i : ∀ σ H Q, t' σ H Q → t σ H Q) : PT X e t' := ⟨fun pins s σ H Q I q => h.run pins s σ H Q I (i σ H Q q)⟩
theorem _root_.L2.PS.imp {X : Cx} {e : Stmt} {t t' : TS} (h : PS X e t) (i : ∀ D σ H, t' D σ H → t D σ H) : PS X e t' := ⟨fun pins s σ H D I q => h.run pins s σ H D I (i D σ H q)⟩
theorem _root_.L2.PSs.imp {X : Cx} {e : List Stmt} {t t' : TS} (h : PSs X e t) (i : ∀ D σ H, t' D σ H → t D σ H) : PSs X e t' := ⟨fun pins s σ H D I q => h.run pins s σ H D I (i D σ H q)⟩
theorem _root_.L2.PA.imp {X : Cx} {e : List Expr} {t t' : TA} (h : PA X e t) (i : ∀ σ H Q, t' σ H Q → t σ H Q) : PA X e t' := ⟨fun pos pins s σ H Q I q => h.run pos pins s σ H Q I (i σ H Q q)⟩
theorem _root_.L2.PG.imp {X : Cx} {e : Expr} {t t' : TG} (h : PG X e t) (i : ∀ v σ H Q, t' v σ H Q → t v σ H Q) : PG X e t' := ⟨fun pins s σ H v u Q I r q => h.run pins s σ H v u Q I r (i v σ H Q q)⟩

/-- a reading that evaluates as m, the end standing as Rt says -/
def tM {α : Type} (C : Cn) (m : M α) (Rt : Hp → Hp → L2.St → W → α → V → Prop) : TE := fun σ H Q => ∃ F w x w', Rel C F σ H w ∧ m w = some (x, w') ∧
  ∀ F' H' v, Same F F' → Rel C F' σ H' w' → Rt F' H' σ w' x v → Q v H'
def tT (C : Cn) (m : M Bool) : TT := fun σ H Q => ∃ F w b w', Rel C F σ H w ∧ m w = some (b, w') ∧ ∀ F' H', Same F F' → Rel C F' σ H' w' → Q b H'
/-- expressions: any end, operands, frozen data; tests -/
def DO (k : Nat) (X : Cx) (e : Expr) (m : M O) : Prop := XOk k X → ∀ C, PE X e (tM C m (RO C))
def DR (k : Nat) (X : Cx) (e : Expr) (m : M R) : Prop := XOk k X → ∀ C, PE X e (tM C m (RR C))
def DV (k : Nat) (X : Cx) (e : Expr) (m : M D) : Prop := XOk k X → ∀ C, PE X e (tM C m (RV C))
def DT (k : Nat) (X : Cx) (e : Expr) (m : M Bool) : Prop := XOk k X → ∀ C, PT X e (tT C m)
/-- what an end is as an operand -/
def fzO (m : M O) : M D := bnd m fun o => lft o.fz
def opd (m : M D) : M R := bnd m fun d => ret (.dv d)
def fzR (m : M R) : M D := bnd m R.frz
def end_ (m : M D) : M O := bnd m fun d => ret (.v d)
section
variable {k : Nat} {X : Cx} {e a b : Expr}
theorem DV.ofO {m : M O} (h : DO k X e m) : DV k X e (fzO m) := fun hx C => (h hx C).imp fun σ H Q ⟨F, w, d, w', Re, em, q⟩ => by
  obtain ⟨o, w1, e1, e2⟩ := bnd_inv em
  obtain ⟨e3, rfl⟩ := lft_inv e2
  refine ⟨F, w, o, w', Re, e1, fun F1 H1 v s1 R1 r => ?_⟩
  obtain ⟨F2, s2, R2, r2⟩ := R1.frzO r e3
  exact q F2 H1 v (s1.trans s2) R2 r2
theorem DV.ofR {m : M R} (h : DR k X e m) : DV k X e (fzR m) := fun hx C => (h hx C).imp fun σ H Q ⟨F, w, d, w', Re, em, q⟩ => by
  obtain ⟨o, w1, e1, e2⟩ := bnd_inv em
  refine ⟨F, w, o, w1, Re, e1, fun F1 H1 v s1 R1 r => ?_⟩
  obtain ⟨F2, s2, R2, r2⟩ := R1.frz r e2
  exact q F2 H1 v (s1.trans s2) R2 r2
theorem DR.ofV {m : M D} (h : DV k X e m) : DR k X e (opd m) := fun hx C => (h hx C).imp fun σ H Q ⟨F, w, d, w', Re, em, q⟩ => by
  obtain ⟨o, w1, e1, e2⟩ := bnd_inv em
  cases e2
  exact ⟨F, w, o, w', Re, e1, fun F1 H1 v s1 R1 r => q F1 H1 v s1 R1 r⟩
theorem DO.ofV {m : M D} (h : DV k X e m) : DO k X e (end_ m) := fun hx C => (h hx C).imp fun σ H Q ⟨F, w, d, w', Re, em, q⟩ => by
  obtain ⟨o, w1, e1, e2⟩ := bnd_inv em
  cases e2
  exact ⟨F, w, o, w', Re, e1, fun F1 H1 v s1 R1 r => q F1 H1 v s1 R1 r⟩
theorem DR.ofO {m : M O} (h : DO k X e m) : DR k X e (opd (fzO m)) := .ofV (.ofO h)
theorem DO.ofR {m : M R} (h : DR k X e m) : DO k X e (end_ (fzR m)) := .ofV (.ofR h)

/-! ### names, constants -/
def dvar (i : Nat) : M R := fun w => match w.r[i]? with
  | some (.val d) => some (.dv d, w)
  | some t => if t.mine = true then some (.sl i, w) else none
  | none => none
theorem dr_var (i : Nat) (h : PE X e (tVar i)) : DR k X e (dvar i) := fun _ C => h.imp fun σ H Q ⟨F, w, d, w', Re, em, q⟩ => by
  unfold dvar at em
  cases hr : w.r[i]? with
  | none =>
    simp only [hr] at em
    cases em
  | some t =>
    have own : t.mine = true → d = .sl i → w' = w → tVar i σ H Q := fun m e1 e2 => by
      subst e1 e2
      obtain ⟨p, u, e1, _⟩ := (Re.slot i t hr).mineAt m
      exact ⟨_, e1, q F H _ (Same.refl F) Re e1⟩
    cases t with
    | val x =>
      simp only [hr] at em
      cases em
      obtain ⟨v, e1, h1⟩ := Re.slot i _ hr
      exact ⟨v, e1, q F H v (Same.refl F) Re h1⟩
    | own ts =>
      simp only [hr, S.mine] at em
      cases em
      exact own rfl rfl rfl
    | dk ts =>
      simp only [hr, S.mine] at em
      cases em
      exact own rfl rfl rfl
    | dt ts =>
      simp only [hr, S.mine] at em
      cases em
      exact own rfl rfl rfl
    | _ =>
      simp [hr, S.mine] at em
def cst (d : D) : M R := ret (.dv d)
theorem dr_cst {d : D} {v : V} (h : PE X e (tC v)) (r : ∀ F, Rp F d v) : DR k X e (cst d) := fun _ C => h.imp fun σ H Q ⟨F, w, x, w', Re, em, q⟩ => by
  cases em
  exact q F H v (Same.refl F) Re (r F)
theorem dr_int {i j pos} : DR k X (.Constant (.int i) j pos) (cst (.int i)) := dr_cst pe_int fun _ => rfl
theorem dr_bl {b j pos} : DR k X (.Constant (.bool b) j pos) (cst (.bool b)) := dr_cst pe_bl fun _ => rfl
theorem dr_non {j pos} : DR k X (.Constant .none j pos) (cst .none) := dr_cst pe_non fun _ => rfl
theorem dr_str {x j pos} : DR k X (.Constant (.str x) j pos) (cst (.str x)) := dr_cst pe_str fun _ => rfl
end

/-! ### operations on values -/
/-- f of what the two values are -/
def rOp (C : Cn) (f : D → D → Option O) : R2 := fun x y H Q => ∃ F σ w d e o, Rel C F σ H w ∧ Vw F H d x ∧ Vw F H e y ∧ f d e = some o ∧ ∀ F' H' v, Same F F' → Rel C F' σ H' w → RO C F' H' σ w o v → Q v H'
def rUn (C : Cn) (f : D → Option O) : V → Hp → VK → Prop := fun x H Q => ∃ F σ w d o, Rel C F σ H w ∧ Vw F H d x ∧ f d = some o ∧ ∀ F' H' v, Same F F' → Rel C F' σ H' w → RO C F' H' σ w o v → Q v H'
def op2 (f : D → D → Option O) (a b : M R) : M O := bnd a fun x => bnd b fun y => fun w => match x.look w with
  | none => none
  | some d => match y.look w with
    | none => none
    | some e => lft (f d e) w
def op1 (f : D → Option O) (a : M R) : M O := bnd a fun x => fun w => match x.look w with
  | none => none
  | some d => lft (f d) w
theorem op2_inv {f : D → D → Option O} {a b : M R} {w w' : W} {o : O} (h : op2 f a b w = some (o, w')) : ∃ x w1 y d e, a w = some (x, w1) ∧ b w1 = some (y, w') ∧ x.look w' = some d ∧ y.look w' = some e ∧ f d e = some o := by
  obtain ⟨x, w1, e1, h⟩ := bnd_inv h
  obtain ⟨y, w2, e2, h⟩ := bnd_inv h
  cases hx : x.look w2 with
  | none =>
    simp only [hx] at h
    cases h
  | some d =>
    cases hy : y.look w2 with
    | none =>
      simp only [hx, hy] at h
      cases h
    | some e =>
      simp only [hx, hy] at h
      obtain ⟨z, rfl⟩ := lft_inv h
      exact ⟨x, w1, y, d, e, e1, e2, hx, hy, z⟩
theorem op1_inv {f : D → Option O} {a : M R} {w w' : W} {o : O} (h : op1 f a w = some (o, w')) : ∃ x d, a w = some (x, w') ∧ x.look w' = some d ∧ f d = some o := by
  obtain ⟨x, w1, e1, h⟩ := bnd_inv h
  cases hx : x.look w1 with
  | none =>
    simp only [hx] at h
    cases h
  | some d =>
    simp only [hx] at h
    obtain ⟨z, rfl⟩ := lft_inv h
    exact ⟨x, d, e1, hx, z⟩
section
variable {k : Nat} {X : Cx} {e a b : Expr} {pos : Pos}
/-- two operands, then an operation -/
theorem two_of {C : Cn} {ta tb : TE} {m1 m2 : M R} {f : D → D → Option O} {r : R2} (h1 : ∀ σ H Q, tM C m1 (RR C) σ H Q → ta σ H Q) (h2 : ∀ σ H Q, tM C m2 (RR C) σ H Q → tb σ H Q) (h3 : ∀ x y H Q, rOp C f x y H Q → r x y H Q) {σ : L2.St} {H : Hp} {Q : VK}
    (h : tM C (op2 f m1 m2) (RO C) σ H Q) : tOp r ta tb σ H Q := by
  obtain ⟨F, w, o, w', Re, em, q⟩ := h
  obtain ⟨x, w1, y, d, e, e1, e2, l1, l2, ef⟩ := op2_inv em
  refine h1 _ _ _ ⟨F, w, x, w1, Re, e1, fun F1 H1 v s1 R1 r1 => h2 _ _ _ ⟨F1, w1, y, w', R1, e2, fun F2 H2 u s2 R2 r2 => h3 _ _ _ _ ?_⟩⟩
  exact ⟨F2, σ, w', d, e, o, R2, R2.look (r1.step s2) l1, R2.look r2 l2, ef, fun F3 H3 z s3 R3 r3 => q F3 H3 z ((s1.trans s2).trans s3) R3 r3⟩
theorem do_op {op : Operator} {f : D → D → Option O} {m1 m2 : M R} (ho : ∀ C, XOk k X → OpR X (binaryOp op) (rOp C f)) (ha : DR k X a m1) (hb : DR k X b m2) : DO k X (.BinOp a op b pos) (op2 f m1 m2) := fun hx C =>
  (pe_op (ho C hx) (ha hx C) (hb hx C)).imp fun σ H Q h => two_of (fun _ _ _ z => z) (fun _ _ _ z => z) (fun _ _ _ _ z => z) h
theorem do_un {op : UnaryOp} {f : D → Option O} {m : M R} (ho : ∀ C, XOk k X → UnR X (unaryOp op) (rUn C f)) (ha : DR k X a m) : DO k X (.UnaryOp op a pos) (op1 f m) := fun hx C =>
  (pe_un (ho C hx) (ha hx C)).imp fun σ H Q ⟨F, w, o, w', Re, em, q⟩ => by
    obtain ⟨x, d, e1, l1, ef⟩ := op1_inv em
    exact ⟨F, w, x, w', Re, e1, fun F1 H1 v s1 R1 r1 => ⟨F1, σ, w', d, o, R1, R1.look r1 l1, ef, fun F3 H3 z s3 R3 r3 => q F3 H3 z (s1.trans s3) R3 r3⟩⟩
theorem do_cmp {op : CmpOp} {f : D → D → Option O} {m1 m2 : M R} (ho : ∀ C, XOk k X → OpR X (compareOp op) (rOp C f)) (ha : DR k X a m1) (hb : DR k X b m2) (hm : behindInMarks op b = false) : DO k X (.Compare a [op] [b] pos) (op2 f m1 m2) := fun hx C =>
  (pe_cmpR (ho C hx) (ha hx C) (hb hx C) hm).imp fun σ H Q h => two_of (fun _ _ _ z => z) (fun _ _ _ z => z) (fun _ _ _ _ z => z) h
/-- a truth value as a test -/
def tst (m : M O) : M Bool := bnd m fun o => match o with
  | .v (.bool b) => ret b
  | _ => fun _ => none
theorem tst_inv {m : M O} {w w' : W} {b : Bool} (h : tst m w = some (b, w')) : m w = some (.v (.bool b), w') := by
  obtain ⟨o, w1, e, h⟩ := bnd_inv h
  cases o with
  | s t => cases h
  | nb b => cases h
  | v d =>
    cases d <;> first | cases h | (rw [e]; rfl)
    rw [e]
theorem dt_cmp {op : CmpOp} {f : D → D → Option O} {m1 m2 : M R} (ho : ∀ C, XOk k X → OpR X (compareOp op) (rOp C f)) (ha : DR k X a m1) (hb : DR k X b m2) (hm : behindInMarks op b = false) : DT k X (.Compare a [op] [b] pos) (tst (op2 f m1 m2)) := fun hx C =>
  (pt_cmpR (ho C hx) (ha hx C) (hb hx C) hm).imp fun σ H Q ⟨F, w, c, w', Re, em, q⟩ => by
    refine two_of (C := C) (f := f) (m1 := m1) (m2 := m2) (fun _ _ _ z => z) (fun _ _ _ z => z) (fun _ _ _ _ z => z) ⟨F, w, _, w', Re, tst_inv em, fun F1 H1 v s1 R1 r1 => ?_⟩
    exact ⟨c, r1, q F1 H1 s1 R1⟩
end
end TL
set_option Elab.async false
set_option linter.all false
set_option maxRecDepth 100000
/-! TL, part 3: arguments, calls of defs, statements, a def by its body. -/
namespace TL
open PySem L2

/-! ### arguments -/
inductive Ar where
  | p (d : D) | bag
def RA (bg : Option (Addr × Addr)) (F : Hp) : Ar → V → Prop
  | .p d, v => Rp F d v
  | .bag, v => ∃ q, bg = some q ∧ v = V.ref q.1
def RAs (bg : Option (Addr × Addr)) (F : Hp) : List Ar → List V → Prop
  | [], vs => vs = []
  | a :: as, vs => ∃ v r, vs = v :: r ∧ RA bg F a v ∧ RAs bg F as r
theorem RA.mono {bg : Option (Addr × Addr)} {F F' : Hp} (s : Same F F') : ∀ {a : Ar} {v : V}, RA bg F a v → RA bg F' a v
  | .p d, v, h => Rp.mono s d v h
  | .bag, _, h => h
theorem RAs.mono {bg : Option (Addr × Addr)} {F F' : Hp} (s : Same F F') : ∀ {a : List Ar} {v : List V}, RAs bg F a v → RAs bg F' a v
  | [], _, h => h
  | _ :: _, _, ⟨v, r, e, h1, h2⟩ => ⟨v, r, e, h1.mono s, h2.mono s⟩
theorem RAs.length {bg : Option (Addr × Addr)} {F : Hp} : ∀ {a : List Ar} {v : List V}, RAs bg F a v → v.length = a.length
  | [], _, h => by rw [show _ = [] from h]; rfl
  | _ :: _, _, ⟨v, r, e, _, h2⟩ => by rw [e, List.length_cons, List.length_cons, RAs.length h2]
theorem RAs.get {bg : Option (Addr × Addr)} {F : Hp} : ∀ {a : List Ar} {v : List V} {i : Nat}, RAs bg F a v → ∀ x, a[i]? = some x → ∃ u, v[i]? = some u ∧ RA bg F x u
  | [], _, _, _, _, e => by simp at e
  | _ :: _, _, 0, ⟨v, r, e, h1, _⟩, _, q => by
    simp at q
    subst q e
    exact ⟨v, rfl, h1⟩
  | _ :: _, _, i + 1, ⟨v, r, e, _, h2⟩, x, q => by
    subst e
    obtain ⟨u, e1, e2⟩ := RAs.get (i := i) h2 x (by simpa using q)
    exact ⟨u, by simpa using e1, e2⟩
theorem RAs.append {bg : Option (Addr × Addr)} {F : Hp} : ∀ {a a' : List Ar} {v v' : List V}, RAs bg F a v → RAs bg F a' v' → RAs bg F (a ++ a') (v ++ v')
  | [], _, _, _, h, q => by rw [show _ = [] from h]; exact q
  | _ :: _, _, _, _, ⟨v, r, e, h1, h2⟩, q => by
    subst e
    exact ⟨v, _, rfl, h1, RAs.append h2 q⟩
/-- the arguments in the parameters' order -/
def perm {α : Type} (π : List Nat) (xs : List α) : List α := π.filterMap fun i => xs[i]?
theorem perm_vals {xs : List V} {us : List Value} (h : Vals xs us) : ∀ π : List Nat, Vals (perm π xs) (perm π us)
  | [] => .nil
  | i :: π => by
    have ih := perm_vals h π
    unfold perm at ih ⊢
    rw [List.filterMap_cons, List.filterMap_cons]
    cases e : xs[i]? with
    | none =>
      rw [h.none_of e]
      exact ih
    | some x =>
      obtain ⟨u, e2, r⟩ := h.get e
      rw [e2]
      exact .cons r ih
theorem perm_RAs {bg : Option (Addr × Addr)} {F : Hp} {a : List Ar} {v : List V} (h : RAs bg F a v) : ∀ π : List Nat, RAs bg F (perm π a) (perm π v)
  | [] => rfl
  | i :: π => by
    have ih := perm_RAs h π
    unfold perm at ih ⊢
    rw [List.filterMap_cons, List.filterMap_cons]
    cases e : a[i]? with
    | none =>
      have : v[i]? = none := by
        rw [List.getElem?_eq_none_iff, h.length]
        exact List.getElem?_eq_none_iff.mp e
      rw [this]
      exact ih
    | some x =>
      obtain ⟨u, e2, r⟩ := h.get x e
      rw [e2]
      exact ⟨u, _, rfl, r, ih⟩
def RAr (C : Cn) (F _H : Hp) (_σ : L2.St) (_w : W) (a : Ar) (v : V) : Prop := RA C.bg F a v
def tA (C : Cn) (m : M (List Ar)) : TA := fun σ H Q => ∃ F w x w', Rel C F σ H w ∧ m w = some (x, w') ∧
  ∀ F' H' vs, Same F F' → Rel C F' σ H' w' → RAs C.bg F' x vs → Q vs H'
def DG (k : Nat) (X : Cx) (e : Expr) (m : M Ar) : Prop := XOk k X → ∀ C, PE X e (tM C m (RAr C))
def DA (k : Nat) (X : Cx) (es : List Expr) (m : M (List Ar)) : Prop := XOk k X → ∀ C, PA X es (tA C m)
def DK (k : Nat) (X : Cx) (kws : List Keyword) (m : M (List Ar)) : Prop := XOk k X → ∀ C, PK X kws (tA C m)
def arg (m : M D) : M Ar := bnd m fun d => ret (.p d)
def argB (i : Nat) : M Ar := fun w => match w.r[i]? with
  | some .bag => some (.bag, w)
  | _ => none
def anil : M (List Ar) := ret []
def acons (m : M Ar) (r : M (List Ar)) : M (List Ar) := bnd m fun a => bnd r fun as => ret (a :: as)
section
variable {k : Nat} {X : Cx} {e : Expr} {es : List Expr}
theorem dg_v {m : M D} (h : DV k X e m) : DG k X e (arg m) := fun hx C => (h hx C).imp fun σ H Q ⟨F, w, d, w', Re, em, q⟩ => by
  obtain ⟨o, w1, e1, e2⟩ := bnd_inv em
  cases e2
  exact ⟨F, w, o, w', Re, e1, fun F1 H1 v s1 R1 r => q F1 H1 v s1 R1 r⟩
theorem dg_r {m : M R} (h : DR k X e m) : DG k X e (arg (fzR m)) := dg_v (.ofR h)
theorem dg_o {m : M O} (h : DO k X e m) : DG k X e (arg (fzO m)) := dg_v (.ofO h)
theorem dg_bag (i : Nat) (h : PE X e (tVar i)) : DG k X e (argB i) := fun _ C => h.imp fun σ H Q ⟨F, w, a, w', Re, em, q⟩ => by
  unfold argB at em
  split at em
  · rename_i hr
    cases em
    obtain ⟨p, e1, e2⟩ := Re.slot i _ hr
    exact ⟨_, e2, q F H _ (Same.refl F) Re ⟨p, e1, rfl⟩⟩
  · cases em
theorem da_nil : DA k X [] anil := fun _ C => pa_nil.imp fun σ H Q ⟨F, w, x, w', Re, em, q⟩ => by
  cases em
  exact q F H [] (Same.refl F) Re rfl
theorem step_acons {C : Cn} {m : M Ar} {r : M (List Ar)} {σ : L2.St} {H : Hp} {Q : List V → Hp → Prop} (h : tA C (acons m r) σ H Q) : tCons (tM C m (RAr C)) (tA C r) σ H Q := by
  obtain ⟨F, w, x, w', Re, em, q⟩ := h
  obtain ⟨a, w1, e1, em⟩ := bnd_inv em
  obtain ⟨as, w2, e2, em⟩ := bnd_inv em
  cases em
  refine ⟨F, w, a, w1, Re, e1, fun F1 H1 v s1 R1 r1 => ⟨F1, w1, as, w', R1, e2, fun F2 H2 vs s2 R2 r2 => ?_⟩⟩
  exact q F2 H2 _ (s1.trans s2) R2 ⟨v, vs, rfl, RA.mono s2 r1, r2⟩
theorem da_cons {m : M Ar} {r : M (List Ar)} (h : DG k X e m) (hr : DA k X es r) (hs : starEach (e :: es) X.env = (false, eval e X.env) :: starEach es X.env := by rfl) : DA k X (e :: es) (acons m r) := fun hx C =>
  (pa_cons (h hx C) (hr hx C) hs).imp fun σ H Q z => step_acons z
theorem _root_.L2.PK.imp {kws : List Keyword} {t t' : TA} (h : PK X kws t) (i : ∀ σ H Q, t' σ H Q → t σ H Q) : PK X kws t' := ⟨fun pos pins s σ H Q I q => h.run pos pins s σ H Q I (i σ H Q q)⟩
theorem dk_nil : DK k X [] anil := fun _ C => pk_nil.imp fun σ H Q ⟨F, w, x, w', Re, em, q⟩ => by
  cases em
  exact q F H [] (Same.refl F) Re rfl
theorem dk_cons {m : M Ar} {r : M (List Ar)} {nm : Option Str} {kws : List Keyword} {kpos : Pos} (h : DG k X e m) (hr : DK k X kws r) : DK k X (⟨nm, e, kpos⟩ :: kws) (acons m r) := fun hx C =>
  (pk_cons (h hx C) (hr hx C)).imp fun σ H Q z => step_acons z
end

/-! ### what stands behind a call -/
structure Fin (C : Cn) (F H : Hp) (b : Bg) : Prop where
  base : ∀ c o, C.H0 c = some o → ¬ isB C.bg c → H c = some o
  le0 : Same C.F0 F
  le : Same F H
  fz : ∀ c o, F c = some o → C.F0 c = some o ∨ C.H0 c = none ∨ ∃ vs, o = .tup vs
  nb : ∀ c, isB C.bg c → F c = none
  bag : BagAt C.bg H b
theorem Rel.fin {C : Cn} {F H : Hp} {σ : L2.St} {w : W} (R : Rel C F σ H w) : Fin C F H w.b := ⟨R.base, R.le0, R.le, R.fz, R.nb, R.bag⟩
def RF (C : Cn) (F H : Hp) : O → V → Prop
  | .v d, v => Rp F d v
  | .s t, v => ∃ a u, v = V.ref a ∧ H a = some u ∧ CRel F t u ∧ Priv C F a
  | .nb b, v => ∃ p q, v = V.ref p ∧ BagAt (some (p, q)) H b ∧ Priv C F p ∧ Priv C F q
/-- what a def computes -/
abbrev Sm := List Ar → Bg → Option (O × Bg)
/-- its promise -/
def spG (f : Sm) : List V → Hp → VK → Prop := fun vs H Q => ∃ bg F as b o b', Same F H ∧ (∀ c, isB bg c → F c = none) ∧ BagAt bg H b ∧ RAs bg F as vs ∧ f as b = some (o, b') ∧
  ∀ F' H' v, Fin ⟨F, H, bg⟩ F' H' b' → RF ⟨F, H, bg⟩ F' H' o v → Q v H'
/-- a def keeps a promise wherever nothing is being shown and there is room -/
structure FnG (P : Program) (w : World) (K : PySem.W.Frag) (mg : Str → Option Value) (base : Heap) (k : Nat) (f : Addr) (fd : FuncData) (ps : List Str) (sp : List V → Hp → VK → Prop) : Prop where
  len : ∀ vs H Q, sp vs H Q → vs.length = ps.length
  run : ∀ (A : Around) (outer : List Env) (s : Shared) (H : Hp) (args : Args) (us : List Value) (vs : List V) (Q : VK), Room k A → A.guards = some [] → Sys base → Env0 P w K mg base A outer s H → BindsTo s fd args (ps.zip us) → Vals vs us →
    sp vs H Q → codeAny (model P w) A (.call (.ref f) args) (CR CX0 outer P w H s Q E0) s
theorem FnG.mono {P : Program} {w : World} {K : PySem.W.Frag} {mg : Str → Option Value} {base : Heap} {j k : Nat} {f : Addr} {fd : FuncData} {ps : List Str} {sp : List V → Hp → VK → Prop} (F : FnG P w K mg base j f fd ps sp) (h : j ≤ k) : FnG P w K mg base k f fd ps sp :=
  ⟨F.len, fun A outer s H args us vs Q hr => F.run A outer s H args us vs Q (hr.mono h)⟩
/-- a def of the text, ready to be called -/
structure Cal (P : Program) (w : World) (K : PySem.W.Frag) (mg : Str → Option Value) (base : Heap) (k : Nat) (x : Str) (st : Stmt) (ps : List Str) (sem : Sm) : Prop where
  ex : ∃ f fd, mg x = some (.ref f) ∧ Fun K x x st f fd ∧ FnG P w K mg base k f fd ps (spG sem)
section
variable {k : Nat} {X : Cx} {e : Expr} {es : List Expr} {x : Str} {st : Stmt} {ps ks : List Str} {sem : Sm} {p pos : Pos} {kws : List Keyword}
theorem Cal.mono {P : Program} {w : World} {K : PySem.W.Frag} {mg : Str → Option Value} {base : Heap} {j : Nat} (F : Cal P w K mg base j x st ps sem) (h : j ≤ k) : Cal P w K mg base k x st ps sem :=
  let ⟨f, fd, a, b, c⟩ := F.ex
  ⟨f, fd, a, b, c.mono h⟩
/-- behind a call the caller's state stands again -/
theorem Rel.after {C : Cn} {F H : Hp} {σ : L2.St} {w : W} (R : Rel C F σ H w) {F' H' : Hp} {b' : Bg} (f : Fin ⟨F, H, C.bg⟩ F' H' b') : Rel C F' σ H' { w with b := b' } where
  base := fun c o e z => f.base c o (R.base c o e z) z
  le0 := R.le0.trans f.le0
  le := f.le
  fz := fun c o e => by
    rcases f.fz c o e with q | q | q
    · exact R.fz c o q
    · exact .inr (.inl (R.fresh q).1.2.2)
    · exact .inr (.inr q)
  nb := f.nb
  bag := f.bag
  len := R.len
  slot := fun i s e => (R.slot i s e).step f.le0 fun m a e2 p => by
    obtain ⟨b, u, e3, h1, cr, _⟩ := (R.slot i s e).mineAt m
    rw [e2] at e3
    cases e3
    refine ⟨(f.base a u h1 p.2.1).trans h1.symm, ?_⟩
    cases q : F' a with
    | none => rfl
    | some o =>
      rcases f.fz a o q with z | z | ⟨vs, z⟩
      · have z : F a = some o := z
        rw [p.1] at z
        cases z
      · have z : H a = none := z
        rw [h1] at z
        cases z
      · subst z
        have z := f.le a _ q
        rw [f.base a u h1 p.2.1] at z
        cases z
        exact cr.noTup.elim
  apart := R.apart
def dcall (sem : Sm) (m : M (List Ar)) : M O := bnd m fun as => fun w => match sem as w.b with
  | none => none
  | some r => some (r.1, { w with b := r.2 })
theorem call_step {C : Cn} {m : M (List Ar)} {σ : L2.St} {H : Hp} {Q : VK} (h : tM C (dcall sem m) (RO C) σ H Q) : tA C m σ H fun vs H1 => spG sem vs H1 Q := by
  obtain ⟨F, w, o, w', Re, em, q⟩ := h
  obtain ⟨as, w1, e1, em⟩ := bnd_inv em
  refine ⟨F, w, as, w1, Re, e1, fun F1 H1 vs s1 R1 r1 => ?_⟩
  cases es : sem as w1.b with
  | none =>
    simp only [es] at em
    cases em
  | some r =>
    simp only [es] at em
    cases em
    refine ⟨C.bg, F1, as, w1.b, r.1, r.2, R1.le, R1.nb, R1.bag, r1, es, fun F' H' v f rf => q F' H' v (s1.trans f.le0) (R1.after f) ?_⟩
    revert rf
    cases r.1 with
    | v d => exact id
    | s t =>
      rintro ⟨a, u, e1, h1, c, p1, p2, p3⟩
      have fr := R1.fresh p3
      exact ⟨a, u, e1, h1, c, ⟨p1, p2, fr.1.2.2⟩, fr.2⟩
    | nb b =>
      rintro ⟨p, z, e1, h1, ⟨p1, p2, p3⟩, ⟨z1, z2, z3⟩⟩
      have fp := R1.fresh p3
      have fz := R1.fresh z3
      exact ⟨p, z, e1, h1, ⟨p1, p2, fp.1.2.2⟩, ⟨z1, z2, fz.1.2.2⟩, fp.2, fz.2⟩
/-- the callee runs -/
theorem run_G {f : Addr} {fd : FuncData} {sp : List V → Hp → VK → Prop} {us : List Value} {kw : List (Str × Value)} {zs : List Value} {vs : List V} {pins : List (Addr × Obj)} {σ : L2.St} {H : Hp} {s : Shared} {Q : VK}
    (F : FnG X.prog X.w X.K X.mg X.base k f fd ps sp) (hx : XOk k X) (I : Inv X pins σ H s) (hb : BindsTo s fd ⟨us, kw⟩ (ps.zip zs)) (r : Vals vs zs) (h : sp vs H Q) : wpAny (model X.prog X.w) X.A (call (.ref f) us kw) (EP X pins σ Q) X.xe s :=
  wpAny_call (codeAny_mono (F.run X.A X.stack s H ⟨us, kw⟩ zs vs Q hx.room hx.grd hx.sys I.env0 hb r h) fun res s' hq => by
    cases res with
    | error z => exact hq.elim
    | ok fl =>
      cases fl with
      | ret u => exact I.after hq
      | next => exact hq.elim
      | brk => exact hq.elim
      | cont => exact hq.elim)
/-- how plain arguments bind -/
def BindsP (x : Str) (st : Stmt) (ps : List Str) : Prop := ∀ (kV doc pm : Value) (an : Option Addr) (cdv ct : Value) (us : List Value), us.length = ps.length →
    bindArgs (PySem.W.fnOf x x (defArgs st) (defBody st) (defScope st) .none kV doc pm an cdv ct) ⟨us, []⟩ = pure (ps.zip us)
/-- how n plain arguments and the keywords ks bind: π tells each parameter's argument -/
def BindsN (x : Str) (st : Stmt) (ps ks : List Str) (n : Nat) (π : List Nat) : Prop := ∀ (kV doc pm : Value) (an : Option Addr) (cdv ct : Value) (us ws : List Value), us.length = n → ws.length = ks.length →
    bindArgs (PySem.W.fnOf x x (defArgs st) (defBody st) (defScope st) .none kV doc pm an cdv ct) ⟨us, ks.zip ws⟩ = pure (ps.zip (perm π (us ++ ws)))
theorem BindsP.at (h : BindsP x st ps) {f : Addr} {fd : FuncData} (F : Fun X.K x x st f fd) (s : Shared) {us : List Value} (h1 : us.length = ps.length) : BindsTo s fd ⟨us, []⟩ (ps.zip us) := by
  obtain ⟨oc, od, kV, doc, pm, an, cdv, ct, osl, rfl, _, _⟩ := F.ex
  exact .of_eq (h kV doc pm an cdv ct us h1)
theorem BindsN.at {n : Nat} {π : List Nat} (h : BindsN x st ps ks n π) {f : Addr} {fd : FuncData} (F : Fun X.K x x st f fd) (s : Shared) {us ws : List Value} (h1 : us.length = n) (h2 : ws.length = ks.length) :
    BindsTo s fd ⟨us, ks.zip ws⟩ (ps.zip (perm π (us ++ ws))) := by
  obtain ⟨oc, od, kV, doc, pm, an, cdv, ct, osl, rfl, _, _⟩ := F.ex
  exact .of_eq (h kV doc pm an cdv ct us ws h1 h2)
/-- the number of arguments that a computation makes -/
def ALen (m : M (List Ar)) (n : Nat) : Prop := ∀ w as w', m w = some (as, w') → as.length = n
theorem alen_nil : ALen anil 0 := fun w as w' h => by cases h; rfl
theorem alen_cons {m : M Ar} {r : M (List Ar)} {n : Nat} (h : ALen r n) : ALen (acons m r) (n + 1) := fun w as w' e => by
  obtain ⟨a, w1, _, e⟩ := bnd_inv e
  obtain ⟨as, w2, e2, e⟩ := bnd_inv e
  cases e
  rw [List.length_cons, h _ _ _ e2]
/-- f(e, ..) -/
theorem do_call {m : M (List Ar)} (c : Cal X.prog X.w X.K X.mg X.base k x st ps sem) (hg : Gl X x) (hb : BindsP x st ps) (ha : DA k X (e :: es) m) (hdb : (x == ("__debug__" : Str)) = false := by decide)
    (he : starEach (e :: es) X.env = (false, eval e X.env) :: starEach es X.env := by rfl) (hpl : (backTo pos (starEach es X.env)).any (·.1) = false := by rfl) : DO k X (.Call (.Name x p) (e :: es) [] pos) (dcall sem m) := fun hx C => by
  obtain ⟨f, fd, hm, F, G⟩ := c.ex
  refine ⟨fun pins s σ H Q I h => wpAny_Call_Name_kw (ld_glob I hg hm (PySem.W.callWith_K (h₀ := X.base) I.ok.mod.kin F.kp (thn ((ha hx C).run pos pins s σ H (fun vs H1 => spG sem vs H1 Q) I (call_step h)) fun us s1 ⟨vs, H1, I1, r, q⟩ => ⟨I1.kIn, ?_⟩) he hpl) hdb)⟩
  have hl : us.length = ps.length := by rw [← r.length]; exact G.len _ _ _ q
  exact run_G G hx I1 (hb.at F s1 hl) r q
/-- the arguments' order -/
def kwm (π : List Nat) (m m' : M (List Ar)) : M (List Ar) := bnd m fun as => bnd m' fun bs => ret (perm π (as ++ bs))
theorem kw_step {C : Cn} {n j : Nat} {π : List Nat} {m m' : M (List Ar)} (hn : ALen m n) (hj : ALen m' j) {σ : L2.St} {H : Hp} {Q : List V → Hp → Prop} (h : tA C (kwm π m m') σ H Q) :
    tA C m σ H fun vs H1 => vs.length = n ∧ tA C m' σ H1 fun ws H2 => ws.length = j ∧ Q (perm π (vs ++ ws)) H2 := by
  obtain ⟨F, w, x, w', Re, em, q⟩ := h
  obtain ⟨as, w1, e1, em⟩ := bnd_inv em
  obtain ⟨bs, w2, e2, em⟩ := bnd_inv em
  cases em
  refine ⟨F, w, as, w1, Re, e1, fun F1 H1 vs s1 R1 r1 => ⟨r1.length.trans (hn _ _ _ e1), F1, w1, bs, w', R1, e2, fun F2 H2 ws s2 R2 r2 => ⟨r2.length.trans (hj _ _ _ e2), ?_⟩⟩⟩
  exact q F2 H2 _ (s1.trans s2) R2 (perm_RAs ((RAs.mono s2 r1).append r2) π)
/-- f(e, .., k = v, ..) -/
theorem do_callK {n : Nat} {π : List Nat} {m m' : M (List Ar)} (c : Cal X.prog X.w X.K X.mg X.base k x st ps sem) (hg : Gl X x) (hb : BindsN x st ps ks n π) (hn : ALen m n) (hj : ALen m' ks.length) (ha : DA k X (e :: es) m) (hkw : DK k X kws m')
    (hall : (backToKw pos (keywordEach kws X.env)).all (·.1.isSome) = true := by rfl) (hks : (backToKw pos (keywordEach kws X.env)).filterMap (·.1) = ks := by rfl) (hdb : (x == ("__debug__" : Str)) = false := by decide)
    (he : starEach (e :: es) X.env = (false, eval e X.env) :: starEach es X.env := by rfl) (hpl : ((backTo pos (starEach (e :: es) X.env)).any (·.1) || (backToKw pos (keywordEach kws X.env)).any (·.1.isNone)) = false := by rfl) :
    DO k X (.Call (.Name x p) (e :: es) kws pos) (dcall sem (kwm π m m')) := fun hx C => by
  obtain ⟨f, fd, hm, F, G⟩ := c.ex
  refine ⟨fun pins s σ H Q I h => wpAny_Call_Name_kw (ld_glob I hg hm (PySem.W.callWith_KW (h₀ := X.base) I.ok.mod.kin F.kp hall (thn ((ha hx C).run pos pins s σ H _ I (kw_step hn hj (call_step h))) fun us s1 ⟨vs, H1, I1, r, hl, q⟩ => ?_) hpl he) hdb)⟩
  refine thn ((hkw hx C).run pos pins s1 σ H1 _ I1 q) fun ws s2 ⟨zs, H2, I2, rz, hl2, q2⟩ => ⟨I2.kIn, ?_⟩
  rw [hks]
  exact run_G G hx I2 (hb.at F s2 (us := us) (r.length.symm.trans hl) (rz.length.symm.trans hl2)) (perm_vals (r.append rz) π) q2
/-- f(k = v, ..) -/
theorem do_callK0 {π : List Nat} {m' : M (List Ar)} (c : Cal X.prog X.w X.K X.mg X.base k x st ps sem) (hg : Gl X x) (hb : BindsN x st ps ks 0 π) (hj : ALen m' ks.length) (hkw : DK k X kws m')
    (hall : (backToKw pos (keywordEach kws X.env)).all (·.1.isSome) = true := by rfl) (hks : (backToKw pos (keywordEach kws X.env)).filterMap (·.1) = ks := by rfl) (hdb : (x == ("__debug__" : Str)) = false := by decide)
    (hpl : ((backTo pos (starEach [] X.env)).any (·.1) || (backToKw pos (keywordEach kws X.env)).any (·.1.isNone)) = false := by rfl) :
    DO k X (.Call (.Name x p) [] kws pos) (dcall sem (kwm π anil m')) := fun hx C => by
  obtain ⟨f, fd, hm, F, G⟩ := c.ex
  refine ⟨fun pins s σ H Q I h => wpAny_Call_Name_kw (ld_glob I hg hm (PySem.W.callWith_KW0 (h₀ := X.base) I.ok.mod.kin F.kp hall ?_ hpl) hdb)⟩
  obtain ⟨F0, w, x0, w', Re, em, q⟩ := kw_step alen_nil hj (call_step h)
  cases em
  obtain ⟨_, q⟩ := q F0 H [] (Same.refl F0) Re rfl
  refine thn ((hkw hx C).run pos pins s σ H _ I q) fun ws s2 ⟨zs, H2, I2, rz, hl2, q2⟩ => ⟨I2.kIn, ?_⟩
  rw [hks]
  exact run_G G hx I2 (hb.at F s2 (us := []) rfl (rz.length.symm.trans hl2)) (perm_vals (Vals.append .nil rz) π) q2
end

/-! ### statements -/
inductive Out where
  | nx | re (o : O) | bk | ct
def tS (C : Cn) (m : M Out) : TS := fun Dn σ H => ∃ F w o w', Rel C F σ H w ∧ m w = some (o, w') ∧ match o with
  | .nx => ∀ F' H' σ', Same F F' → Rel C F' σ' H' w' → Dn.nx σ' H'
  | .bk => ∀ F' H' σ', Same F F' → Rel C F' σ' H' w' → Dn.bk σ' H'
  | .ct => ∀ F' H' σ', Same F F' → Rel C F' σ' H' w' → Dn.ct σ' H'
  | .re o => ∀ F' H' v, Same F F' → Fin C F' H' w'.b → RF C F' H' o v → Dn.rt v H'
def DS (k : Nat) (X : Cx) (st : Stmt) (m : M Out) : Prop := XOk k X → ∀ C, PS X st (tS C m)
def DSs (k : Nat) (X : Cx) (st : List Stmt) (m : M Out) : Prop := XOk k X → ∀ C, PSs X st (tS C m)
def snx : M Out := ret .nx
def sseq (a b : M Out) : M Out := bnd a fun o => match o with
  | .nx => b
  | o => ret o
section
variable {k : Nat} {X : Cx} {st : Stmt} {sts : List Stmt} {e : Expr} {pos : Pos}
theorem dss_nil : DSs k X [] snx := fun _ C => pss_nil.imp fun Dn σ H ⟨F, w, o, w', Re, em, q⟩ => by
  cases em
  exact q F H σ (Same.refl F) Re
theorem dss_cons {a b : M Out} (h : DS k X st a) (hr : DSs k X sts b) : DSs k X (st :: sts) (sseq a b) := fun hx C => (pss_cons (h hx C) (hr hx C)).imp fun Dn σ H ⟨F, w, o, w', Re, em, q⟩ => by
  obtain ⟨x, w1, e1, em⟩ := bnd_inv em
  refine ⟨F, w, x, w1, Re, e1, ?_⟩
  cases x with
  | nx =>
    show ∀ F' H' σ', Same F F' → Rel C F' σ' H' w1 → tS C b Dn σ' H'
    intro F1 H1 σ1 s1 R1
    refine ⟨F1, w1, o, w', R1, em, ?_⟩
    cases o with
    | nx => exact fun F2 H2 σ2 s2 R2 => q F2 H2 σ2 (s1.trans s2) R2
    | bk => exact fun F2 H2 σ2 s2 R2 => q F2 H2 σ2 (s1.trans s2) R2
    | ct => exact fun F2 H2 σ2 s2 R2 => q F2 H2 σ2 (s1.trans s2) R2
    | re z => exact fun F2 H2 σ2 s2 R2 => q F2 H2 σ2 (s1.trans s2) R2
  | bk =>
    cases em
    exact q
  | ct =>
    cases em
    exact q
  | re z =>
    cases em
    exact q
theorem dss_one {a : M Out} (h : DS k X st a) : DSs k X [st] a := fun hx C => pss_one (h hx C)
theorem ds_pass : DS k X (.Pass pos) snx := fun _ C => ps_pass.imp fun Dn σ H ⟨F, w, o, w', Re, em, q⟩ => by
  cases em
  exact q F H σ (Same.refl F) Re
theorem ds_break : DS k X (.Break pos) (ret .bk) := fun _ C => ps_break.imp fun Dn σ H ⟨F, w, o, w', Re, em, q⟩ => by
  cases em
  exact q F H σ (Same.refl F) Re
theorem ds_cont : DS k X (.Continue pos) (ret .ct) := fun _ C => ps_continue.imp fun Dn σ H ⟨F, w, o, w', Re, em, q⟩ => by
  cases em
  exact q F H σ (Same.refl F) Re
/-- e; its end is thrown away -/
def sdrop {α : Type} (m : M α) : M Out := bnd m fun _ => snx
theorem ds_expr {α : Type} {m : M α} {Rt : Cn → Hp → Hp → L2.St → W → α → V → Prop} (h : XOk k X → ∀ C, PE X e (tM C m (Rt C))) (hs : swapsWith e none pos.line X.env = pure false := by rfl) : DS k X (.Expr e pos) (sdrop m) := fun hx C =>
  (ps_expr (h hx C) hs).imp fun Dn σ H ⟨F, w, o, w', Re, em, q⟩ => by
    obtain ⟨x, w1, e1, em⟩ := bnd_inv em
    cases em
    exact ⟨F, w, x, w', Re, e1, fun F1 H1 v s1 R1 _ => q F1 H1 σ s1 R1⟩
/-- return e -/
def sret (m : M O) : M Out := bnd m fun o => ret (.re o)
theorem ds_ret {m : M O} (h : DO k X e m) : DS k X (.Return (some e) pos) (sret m) := fun hx C => (ps_ret (h hx C)).imp fun Dn σ H ⟨F, w, o, w', Re, em, q⟩ => by
  obtain ⟨x, w1, e1, em⟩ := bnd_inv em
  cases em
  refine ⟨F, w, x, w', Re, e1, fun F1 H1 v s1 R1 r => q F1 H1 v s1 R1.fin ?_⟩
  cases x with
  | v d => exact r
  | s t =>
    obtain ⟨a, u, e1, h1, c, p, _⟩ := r
    exact ⟨a, u, e1, h1, c, p⟩
  | nb b =>
    obtain ⟨p, z, e1, h1, h2, h3, _⟩ := r
    exact ⟨p, z, e1, h1, h2, h3⟩
/-- return x, x a name: what it owns goes with it -/
def sretV (i : Nat) : M Out := fun w => match w.r[i]? with
  | some (.val d) => some (.re (.v d), w)
  | some t => if t.mine = true then some (.re (.s t), w) else none
  | none => none
theorem ds_retV (i : Nat) (h : PE X e (tVar i)) : DS k X (.Return (some e) pos) (sretV i) := fun _ C => (ps_ret h).imp fun Dn σ H ⟨F, w, o, w', Re, em, q⟩ => by
  unfold sretV at em
  cases hr : w.r[i]? with
  | none =>
    simp only [hr] at em
    cases em
  | some t =>
    have own : t.mine = true → o = .re (.s t) → w' = w → tRet (tVar i) Dn σ H := fun m e1 e2 => by
      subst e1 e2
      obtain ⟨p, u, e1, h1, c, pr⟩ := (Re.slot i t hr).mineAt m
      exact ⟨_, e1, q F H _ (Same.refl F) Re.fin ⟨p, u, rfl, h1, c, pr⟩⟩
    cases t with
    | val x =>
      simp only [hr] at em
      cases em
      obtain ⟨v, e1, h1⟩ := Re.slot i _ hr
      exact ⟨v, e1, q F H v (Same.refl F) Re.fin h1⟩
    | own ts =>
      simp only [hr, S.mine] at em
      cases em
      exact own rfl rfl rfl
    | dk ts =>
      simp only [hr, S.mine] at em
      cases em
      exact own rfl rfl rfl
    | dt ts =>
      simp only [hr, S.mine] at em
      cases em
      exact own rfl rfl rfl
    | _ => simp [hr, S.mine] at em
theorem ds_retN : DS k X (.Return none pos) (ret (.re (.v .none))) := fun _ C => ps_retN.imp fun Dn σ H ⟨F, w, o, w', Re, em, q⟩ => by
  cases em
  exact q F H .non (Same.refl F) Re.fin rfl
/-- if -/
def sif (c : M Bool) (a b : M Out) : M Out := bnd c fun x => if x = true then a else b
theorem ds_if {c : Expr} {p q : List Stmt} {mc : M Bool} {ma mb : M Out} (hc : DT k X c mc) (ha : DSs k X p ma) (hb : DSs k X q mb) : DS k X (.If c p q pos) (sif mc ma mb) := fun hx C =>
  (ps_if (hc hx C) (ha hx C) (hb hx C)).imp fun Dn σ H ⟨F, w, o, w', Re, em, z⟩ => by
    obtain ⟨x, w1, e1, em⟩ := bnd_inv em
    refine ⟨F, w, x, w1, Re, e1, fun F1 H1 s1 R1 => ?_⟩
    have z1 : ∀ m : M Out, m w1 = some (o, w') → tS C m Dn σ H1 := fun m em => ⟨F1, w1, o, w', R1, em, by
      cases o with
      | nx => exact fun F2 H2 σ2 s2 R2 => z F2 H2 σ2 (s1.trans s2) R2
      | bk => exact fun F2 H2 σ2 s2 R2 => z F2 H2 σ2 (s1.trans s2) R2
      | ct => exact fun F2 H2 σ2 s2 R2 => z F2 H2 σ2 (s1.trans s2) R2
      | re y => exact fun F2 H2 σ2 s2 R2 => z F2 H2 σ2 (s1.trans s2) R2⟩
    cases x with
    | true => exact iteT (z1 ma (by simpa using em))
    | false => exact iteF (z1 mb (by simpa using em))
/-- x = e -/
def sset (i : Nat) (m : M O) : M Out := bnd m fun o => fun w => match o with
  | .v d => some (.nx, { w with r := w.r.set i (.val d) })
  | .s t => some (.nx, { w with r := w.r.set i t })
  | .nb _ => none
theorem set_step {C : Cn} {i : Nat} {m : M O} {Dn : Ends} {σ : L2.St} {H : Hp} (h : tS C (sset i m) Dn σ H) : tM C m (RO C) σ H fun x H1 => gName i x σ H1 Dn.nx := by
  obtain ⟨F, w, o, w', Re, em, q⟩ := h
  obtain ⟨x, w1, e1, em⟩ := bnd_inv em
  refine ⟨F, w, x, w1, Re, e1, fun F1 H1 v s1 R1 r => ?_⟩
  cases x with
  | v d =>
    cases em
    exact q F1 H1 _ s1 (R1.store ⟨v, rfl, r⟩ fun m => nomatch m)
  | s t =>
    cases em
    obtain ⟨a, u, rfl, h1, c, p, n⟩ := r
    exact q F1 H1 _ s1 (R1.store (.of c h1 p) fun _ b e => by cases e; exact n)
  | nb b => cases em
theorem ds_set {i : Nat} {x : Str} {pos' : Pos} {m : M O} (hN : X.N.Nodup) (hi : X.N[i]? = some x) (hl : Loc X.env.scope x) (h : DO k X e m) (hs : swapsWith e (some (.Name x pos')) pos.line X.env = pure false := by rfl)
    (hf : X.fn x = true ∨ X.env.scope.names.lookup x = some .local := by first | exact .inl rfl | exact .inr rfl | assumption) : DS k X (.Assign [.Name x pos'] e pos) (sset i m) := fun hx C =>
  (ps_set hN hi hl (h hx C) hs hf).imp fun Dn σ H z => set_step z
end

/-! ### a def by its body -/
def slotOf : Ar → S
  | .p d => .val d
  | .bag => .bag
/-- what a body of n names computes -/
def semF (n : Nat) (m : M Out) : Sm := fun as b => match m ⟨as.map slotOf ++ List.replicate (n - as.length) .un, b⟩ with
  | some (.re o, w') => some (o, w'.b)
  | some (.nx, w') => some (.v .none, w'.b)
  | _ => none
theorem rel_start {bg : Option (Addr × Addr)} {F H : Hp} {as : List Ar} {vs : List V} {b : Bg} {N : List Str} (hF : Same F H) (nb : ∀ c, isB bg c → F c = none) (hb : BagAt bg H b) (r : RAs bg F as vs) :
    Rel ⟨F, H, bg⟩ F (L2.start N vs) H ⟨as.map slotOf ++ List.replicate (N.length - as.length) .un, b⟩ := by
  have nomine : ∀ (i : Nat) (s : S), (as.map slotOf ++ List.replicate (N.length - as.length) S.un)[i]? = some s → s.mine = false := fun i s e => by
    rcases List.mem_append.mp (List.mem_of_getElem? e) with h | h
    · obtain ⟨a, _, rfl⟩ := List.mem_map.mp h
      cases a <;> rfl
    · rw [(List.mem_replicate.mp h).2]
      rfl
  refine ⟨fun c o e _ => e, Same.refl F, hF, fun c o e => .inl e, nb, hb, ?_, fun i s e => ?_, fun i j s t a hne e1 _ m1 _ _ => ?_⟩
  · unfold L2.start
    simp only [List.length_append, List.length_map, List.length_replicate, r.length]
  · by_cases hi : i < as.length
    · rw [List.getElem?_append_left (by simpa using hi), List.getElem?_map] at e
      cases ea : as[i]? with
      | none =>
        rw [ea] at e
        cases e
      | some a =>
        rw [ea] at e
        obtain ⟨u, e1, e2⟩ := r.get a ea
        have es : (L2.start N vs)[i]? = some (some u) := by
          unfold L2.start
          have hi2 : i < vs.length := by rw [r.length]; exact hi
          rw [List.getElem?_append_left (by simpa using hi2), List.getElem?_map, e1]
          rfl
        rw [es]
        cases e
        cases a with
        | p d => exact ⟨u, rfl, e2⟩
        | bag =>
          obtain ⟨q, h1, h2⟩ := e2
          subst h2
          exact ⟨q, h1, rfl⟩
    · rw [List.getElem?_append_right (by simpa using hi), List.getElem?_replicate] at e
      split at e
      · cases e
        trivial
      · cases e
  · have := nomine i s e1
    rw [m1] at this
    cases this
theorem semF_fin {C : Cn} {n : Nat} {m : M Out} {F H : Hp} {as : List Ar} {b b' : Bg} {o : O} {σ : L2.St} {Q : VK} (Re : Rel C F σ H ⟨as.map slotOf ++ List.replicate (n - as.length) .un, b⟩) (e : semF n m as b = some (o, b'))
    (q : ∀ F' H' v, Fin C F' H' b' → RF C F' H' o v → Q v H') : tS C m { nx := fun _ H' => Q .non H', rt := Q } σ H := by
  unfold semF at e
  split at e
  · rename_i o' w' em
    cases e
    exact ⟨F, _, _, w', Re, em, fun F' H' v _ f r => q F' H' v f r⟩
  · rename_i w' em
    cases e
    exact ⟨F, _, _, w', Re, em, fun F' H' σ' _ R' => q F' H' .non R'.fin rfl⟩
  · cases e
section
variable {P : Program} {w : World} {K : PySem.W.Frag} {mg : Str → Option Value} {base : Heap}
/-- the context of a def's body -/
abbrev CxD (P : Program) (w : World) (K : PySem.W.Frag) (mg : Str → Option Value) (base : Heap) (N : List Str) (x : Str) (st : Stmt) (f : Addr) (cdv : Value) (A : Around) (outer : List Env) (s : Shared) (H : Hp) : Cx := (cxOf CX0 P w K mg base N x (defScope st) f cdv A outer s H E0).nox
/-- a def by what its body promises -/
theorem fn_sp {x : Str} {st : Stmt} {f : Addr} {fd : FuncData} {N ps : List Str} {k : Nat} {sp : List V → Hp → VK → Prop} (F : Fun K x x st f fd) (hS : FnScope N ps (defScope st)) (len : ∀ vs H Q, sp vs H Q → vs.length = ps.length)
    (hbody : ∀ (cdv : Value) (A : Around) (outer : List Env) (s : Shared) (H : Hp), XOk k (CxD P w K mg base N x st f cdv A outer s H) →
      ∃ t : TS, PSs (CxD P w K mg base N x st f cdv A outer s H) (defBody st) t ∧ ∀ vs H Q, sp vs H Q → t { nx := fun _ H' => Q .non H', rt := Q } (L2.start N vs) H) : FnG P w K mg base (k + 1) f fd ps sp := by
  refine ⟨len, fun A outer s H args us vs Q hr hg hsys e0 hb r hsp => ?_⟩
  have hlen := len _ _ _ hsp
  obtain ⟨oc, od, kV, doc, pm, an, cdv, ct, osl, rfl, lk, hcd⟩ := F.ex
  have inK : K.In s.heap := e0.mod.kin.keeps fun c o e => (e0.bs c o e).1
  have nolim : s.heap.NoLimit := e0.mod.nolimit.keeps fun c o e => (e0.bs c o e).1
  have hk : ∀ y ∈ ps.zip us, (defScope st).names.lookup y.1 = some .local ∨ ((defScope st).names.lookup y.1 = some .cell ∧ ((cellsFrom (s.heap.objs.size + 1) (defScope st).names []).lookup y.1).isSome = true) := fun y hy => by
    have hy1 : y.1 ∈ ps := (List.of_mem_zip (a := y.1) (b := y.2) hy).1
    rcases hS.par y.1 hy1 with z | z
    · exact .inl z
    · exact .inr ⟨z, PySem.W.cellsFrom_some _ _ _ (.inl z)⟩
  refine codeAny_call_function hr.depth (inK _ _ lk) rfl hS.co hS.gen rfl (PySem.W.codeRec_of inK hcd) (hb _ _ _ _ (wpAny_newFunctionEnv_cells hS.kind hk fun env he s1 y => ?_))
  subst he
  refine ⟨nolim.keeps y.toInCall.keep, codeAny_func ?_⟩
  have I0 := inv_start (CX := CX0) (P := P) (w := w) (K := K) (mg := mg) (base := base) (qual := x) (f := f) (cd := cdv) (E := E0) hS hr.hd e0 hlen r y
  have I := I0.wish fun _ _ => False
  obtain ⟨t, body, ht⟩ := hbody cdv A outer s H ⟨rfl, hg, hr.deeper _, hsys, PassesOwn.never⟩
  have rd := ht vs H Q hsp
  refine wpAny_mono (body.run [] s1 (L2.start N vs) H _ I rd) (fun fl s' hs => ?_) fun _ _ z => z.elim
  have fin : ∀ {σ' : L2.St} {H' : Hp} {v : V} {u : Value}, Inv (cxOf CX0 P w K mg base N x (defScope st) f cdv A outer s H E0).nox [] σ' H' s' → RelV v u → Q v H' → CE outer P w H s Q u s' := fun J rv q => ⟨_, _, J.os, J.bare, J.base, J.hok, rv, q⟩
  cases fl with
  | ret u =>
    obtain ⟨v, σ', H', J, rv, q⟩ := hs
    exact fin J rv q
  | next =>
    obtain ⟨σ', H', J, q⟩ := hs
    exact fin (v := V.non) J rfl q
  | brk =>
    obtain ⟨_, _, _, q⟩ := hs
    exact q.elim
  | cont =>
    obtain ⟨_, _, _, q⟩ := hs
    exact q.elim
/-- THE RULE for a def -/
theorem fn_G {x : Str} {st : Stmt} {f : Addr} {fd : FuncData} {N ps : List Str} {k : Nat} {sem : Sm} {m : M Out} (F : Fun K x x st f fd) (hS : FnScope N ps (defScope st)) (hl : ∀ as b, (sem as b).isSome = true → as.length = ps.length)
    (hm : ∀ as b, as.length = ps.length → sem as b = semF N.length m as b)
    (hbody : ∀ (cdv : Value) (A : Around) (outer : List Env) (s : Shared) (H : Hp), DSs k (CxD P w K mg base N x st f cdv A outer s H) (defBody st) m) : FnG P w K mg base (k + 1) f fd ps (spG sem) := by
  have len : ∀ vs H Q, spG sem vs H Q → vs.length = ps.length := fun vs H Q ⟨bg, Fz, as, b, o, b', _, _, _, r, e, _⟩ => by
    rw [r.length]
    exact hl as b (by rw [e]; rfl)
  refine fn_sp F hS len fun cdv A outer s0 H0 hx => ⟨fun Dn σ H => ∃ C, tS C m Dn σ H, ⟨fun pins s σ H Dn I ⟨C, z⟩ => (hbody cdv A outer s0 H0 hx C).run pins s σ H Dn I z⟩, fun vs H Q ⟨bg, Fz, as, b, o, b', g1, g2, g3, g4, g5, g6⟩ => ?_⟩
  rw [hm as b (hl as b (by rw [g5]; rfl))] at g5
  exact ⟨⟨Fz, H, bg⟩, semF_fin (Q := Q) (rel_start (N := N) g1 g2 g3 g4) g5 g6⟩
end
end TL
set_option Elab.async false
set_option linter.all false
set_option maxRecDepth 100000
/-! TL, part 4: tests, operators, comparisons, and, or, not. -/
namespace TL
open PySem L2

/-! ### data as the library reads it -/
mutual
theorem Rp.dp {K : PySem.W.Frag} {F H : Hp} (s : Same F H) : ∀ (d : D) (v : V), d.plain = true → Rp F d v → Dp K H v d
  | .none, _, _, h => by cases (show _ = V.non from h); exact .non
  | .bool b, _, _, h => by cases (show _ = V.bl b from h); exact .bl b
  | .int i, _, _, h => by cases (show _ = V.int i from h); exact .int i
  | .str x, _, _, h => by cases (show _ = V.str x from h); exact .str x
  | .list xs, _, p, h => by
    obtain ⟨a, vs, rfl, h1, h2⟩ := h
    exact .lst (.of (s _ _ h1)) (Rps.dp s xs vs (by simpa [PyData.plain] using p) h2)
  | .tuple xs, _, p, h => by
    obtain ⟨a, vs, rfl, h1, h2⟩ := h
    exact .tup (.of (s _ _ h1)) (Rps.dp s xs vs (by simpa [PyData.plain] using p) h2)
  | .dict _, _, p, _ => by simp [PyData.plain] at p
theorem Rps.dp {K : PySem.W.Frag} {F H : Hp} (s : Same F H) : ∀ (ds : List D) (vs : List V), PyData.plainAll ds = true → Rps F ds vs → DpAll K H vs ds
  | [], _, _, h => by cases (show _ = [] from h); exact .nil
  | d :: ds, _, p, h => by
    obtain ⟨v, r, rfl, h1, h2⟩ := h
    have p : d.plain = true ∧ PyData.plainAll ds = true := by simpa [PyData.plainAll] using p
    exact .cons (Rp.dp s d v p.1 h1) (Rps.dp s ds r p.2 h2)
end
theorem Vw.dp {K : PySem.W.Frag} {F H : Hp} (s : Same F H) {d : D} {v : V} (p : d.plain = true) (h : Vw F H d v) : Dp K H v d := by
  cases d with
  | list xs =>
    obtain ⟨a, vs, rfl, h1, h2⟩ := h
    exact .lst (.of h1) (Rps.dp s xs vs (by simpa [PyData.plain] using p) h2)
  | dict _ => simp [PyData.plain] at p
  | _ => exact Rp.dp s _ v p h
theorem XOk.u {k : Nat} {X : Cx} (h : XOk k X) : X.A.units + 200 < cLine := by have := h.room.un; omega
section
variable {k : Nat} {X : Cx} {C : Cn}
theorem rOp_reads {f : D → D → Option O} {pins : List (Addr × Obj)} {s : Shared} {σ : L2.St} {H : Hp} {x y : V} {v u : Value} {Q : VK} (I : Inv X pins σ H s) (rx : RelV x v) (ry : RelV y u) (hp : ∀ d e o, f d e = some o → d.plain = true ∧ e.plain = true)
    (h : rOp C f x y H Q) : ∃ d e o as bs F σ' w, Reads s.heap v d as ∧ Reads s.heap u e bs ∧ f d e = some o ∧ Rel C F σ' H w ∧ ∀ F' H' z, Same F F' → Rel C F' σ' H' w → RO C F' H' σ' w o z → Q z H' := by
  obtain ⟨F, σ', w, d, e, o, Re, vx, vy, ef, q⟩ := h
  obtain ⟨p1, p2⟩ := hp d e o ef
  obtain ⟨as, r1⟩ := Dp.reads I d x v (vx.dp Re.le p1) rx
  obtain ⟨bs, r2⟩ := Dp.reads I e y u (vy.dp Re.le p2) ry
  exact ⟨d, e, o, as, bs, F, σ', w, r1, r2, ef, Re, q⟩
def pEq (d e : D) : Option O := if d.plain = true ∧ e.plain = true ∧ min d.depth e.depth ≤ 100 then some (.v (.bool (PyData.eqv d e))) else none
def pNe (d e : D) : Option O := if d.plain = true ∧ e.plain = true ∧ min d.depth e.depth ≤ 100 then some (.v (.bool (!PyData.eqv d e))) else none
theorem or_eq (hx : XOk k X) : OpR X (compareOp .Eq) (rOp C pEq) := by
  intro pins s σ H x y v u Q I rx ry h
  obtain ⟨d, e, o, as, bs, F, σ', w, r1, r2, ef, Re, q⟩ := rOp_reads I rx ry (fun d e o z => by unfold pEq at z; split at z <;> first | (rename_i c; exact ⟨c.1, c.2.1⟩) | cases z) h
  unfold pEq at ef
  split at ef
  · rename_i c
    cases ef
    have := hx.u
    exact PySem.SeqAt.eq_plain r1 r2 c.1 c.2.1 (by omega) ⟨.bl _, H, I, rfl, q F H _ (Same.refl F) Re rfl⟩
  · cases ef
theorem or_ne (hx : XOk k X) : OpR X (compareOp .NotEq) (rOp C pNe) := by
  intro pins s σ H x y v u Q I rx ry h
  obtain ⟨d, e, o, as, bs, F, σ', w, r1, r2, ef, Re, q⟩ := rOp_reads I rx ry (fun d e o z => by unfold pNe at z; split at z <;> first | (rename_i c; exact ⟨c.1, c.2.1⟩) | cases z) h
  unfold pNe at ef
  split at ef
  · rename_i c
    cases ef
    have := hx.u
    exact PySem.SeqAt.ne_plain r1 r2 c.1 c.2.1 (by omega) ⟨.bl _, H, I, rfl, q F H _ (Same.refl F) Re rfl⟩
  · cases ef
/-- d in e: a list or a tuple of data -/
def pIn (d e : D) : Option O := match e with
  | .list xs => if PyData.plainAll xs = true ∧ d.plain = true ∧ min (PyData.depthAll xs) d.depth ≤ 100 then some (.v (.bool (xs.any fun y => PyData.eqv y d))) else none
  | .tuple xs => if PyData.plainAll xs = true ∧ d.plain = true ∧ min (PyData.depthAll xs) d.depth ≤ 100 then some (.v (.bool (xs.any fun y => PyData.eqv y d))) else none
  | _ => none
def pNotIn (d e : D) : Option O := match e with
  | .list xs => if PyData.plainAll xs = true ∧ d.plain = true ∧ min (PyData.depthAll xs) d.depth ≤ 100 then some (.v (.bool (!xs.any fun y => PyData.eqv y d))) else none
  | .tuple xs => if PyData.plainAll xs = true ∧ d.plain = true ∧ min (PyData.depthAll xs) d.depth ≤ 100 then some (.v (.bool (!xs.any fun y => PyData.eqv y d))) else none
  | _ => none
theorem or_in (hx : XOk k X) : OpR X (compareOp .In) (rOp C pIn) := by
  intro pins s σ H x y v u Q I rx ry h
  have hu := hx.u
  obtain ⟨d, e, o, as, bs, F, σ', w, r1, r2, ef, Re, q⟩ := rOp_reads I rx ry (fun d e o z => by
    unfold pIn at z
    split at z <;> first | cases z | (split at z <;> first | (rename_i c; exact ⟨c.2.1, by simpa [PyData.plain] using c.1⟩) | cases z)) h
  unfold pIn at ef
  split at ef
  · split at ef
    · rename_i c
      cases ef
      exact PySem.SeqAt.in_list_data r2 r1 c.1 c.2.1 (by omega) ⟨.bl _, H, I, rfl, q F H _ (Same.refl F) Re rfl⟩
    · cases ef
  · split at ef
    · rename_i c
      cases ef
      exact PySem.SeqAt.in_tuple_data r2 r1 c.1 c.2.1 (by omega) ⟨.bl _, H, I, rfl, q F H _ (Same.refl F) Re rfl⟩
    · cases ef
  · cases ef
theorem or_notIn (hx : XOk k X) : OpR X (compareOp .NotIn) (rOp C pNotIn) := by
  intro pins s σ H x y v u Q I rx ry h
  have hu := hx.u
  obtain ⟨d, e, o, as, bs, F, σ', w, r1, r2, ef, Re, q⟩ := rOp_reads I rx ry (fun d e o z => by
    unfold pNotIn at z
    split at z <;> first | cases z | (split at z <;> first | (rename_i c; exact ⟨c.2.1, by simpa [PyData.plain] using c.1⟩) | cases z)) h
  unfold pNotIn at ef
  split at ef
  · split at ef
    · rename_i c
      cases ef
      exact PySem.SeqAt.notIn_list_data r2 r1 c.1 c.2.1 (by omega) ⟨.bl _, H, I, rfl, q F H _ (Same.refl F) Re rfl⟩
    · cases ef
  · split at ef
    · rename_i c
      cases ef
      exact PySem.SeqAt.notIn_tuple_data r2 r1 c.1 c.2.1 (by omega) ⟨.bl _, H, I, rfl, q F H _ (Same.refl F) Re rfl⟩
    · cases ef
  · cases ef
/-- two ints -/
def pII (g : Int → Int → Option O) (d e : D) : Option O := match d, e with
  | .int i, .int j => g i j
  | _, _ => none
theorem rOp_ii {g : Int → Int → Option O} {x y : V} {H : Hp} {Q : VK} (h : rOp C (pII g) x y H Q) : ∃ i j o F σ w, x = .int i ∧ y = .int j ∧ g i j = some o ∧ Rel C F σ H w ∧ ∀ F' H' v, Same F F' → Rel C F' σ H' w → RO C F' H' σ w o v → Q v H' := by
  obtain ⟨F, σ', w, d, e, o, Re, vx, vy, ef, q⟩ := h
  cases d <;> first | cases ef | skip
  cases e <;> first | cases ef | skip
  exact ⟨_, _, o, F, σ', w, vx, vy, ef, Re, q⟩
theorem or_ii {f : Value → Value → PySem.Sem Value} {g : Int → Int → Option O} {r : R2} (hr : OpR X f r) (hg : ∀ i j o H Q, g i j = some o → (∀ v, (∀ F σ w, RO C F H σ w o v) → Q v H) → r (.int i) (.int j) H Q) : OpR X f (rOp C (pII g)) := by
  intro pins s σ H x y v u Q I rx ry h
  obtain ⟨i, j, o, F, σ', w, rfl, rfl, eg, Re, q⟩ := rOp_ii h
  exact hr pins s σ H _ _ v u Q I rx ry (hg i j o H Q eg fun z hz => q F H z (Same.refl F) Re (hz F σ' w))
def gI (c : Int → Int → Bool) (g : Int → Int → Int) (i j : Int) : Option O := if c i j = true then some (.v (.int (g i j))) else none
def gB (g : Int → Int → Bool) (i j : Int) : Option O := some (.v (.bool (g i j)))
theorem or_I {f : Value → Value → PySem.Sem Value} {c : Int → Int → Bool} {P : Int → Int → Prop} {g : Int → Int → Int} (hr : OpR X f (rI P fun i j => .int (g i j))) (hc : ∀ i j, c i j = true → P i j) : OpR X f (rOp C (pII (gI c g))) :=
  or_ii hr fun i j o H Q e q => by
    unfold gI at e
    split at e
    · rename_i h
      cases e
      exact ⟨i, j, rfl, rfl, hc i j h, q _ fun F σ w => rfl⟩
    · cases e
theorem or_I0 {f : Value → Value → PySem.Sem Value} {g : Int → Int → Int} (hr : OpR X f (rI0 fun i j => .int (g i j))) : OpR X f (rOp C (pII (gI (fun _ _ => true) g))) :=
  or_ii hr fun i j o H Q e q => by
    cases e
    exact ⟨i, j, rfl, rfl, q _ fun F σ w => rfl⟩
theorem or_B {f : Value → Value → PySem.Sem Value} {g : Int → Int → Bool} (hr : OpR X f (rI0 fun i j => .bl (g i j))) : OpR X f (rOp C (pII (gB g))) :=
  or_ii hr fun i j o H Q e q => by
    cases e
    exact ⟨i, j, rfl, rfl, q _ fun F σ w => rfl⟩
/-- either of two -/
def orF (f g : D → D → Option O) (d e : D) : Option O := match f d e with
  | some o => some o
  | none => g d e
theorem or_or {f : Value → Value → PySem.Sem Value} {g g' : D → D → Option O} (h : OpR X f (rOp C g)) (h' : OpR X f (rOp C g')) : OpR X f (rOp C (orF g g')) := by
  intro pins s σ H x y v u Q I rx ry ⟨F, σ', w, d, e, o, Re, vx, vy, ef, q⟩
  unfold orF at ef
  cases eg : g d e with
  | some o' =>
    rw [eg] at ef
    cases ef
    exact h pins s σ H x y v u Q I rx ry ⟨F, σ', w, d, e, o, Re, vx, vy, eg, q⟩
  | none =>
    rw [eg] at ef
    exact h' pins s σ H x y v u Q I rx ry ⟨F, σ', w, d, e, o, Re, vx, vy, ef, q⟩

/-! ### the operators -/
def pAddI := pII (gI (fun _ _ => true) fun i j => i + j)
def pSub := pII (gI (fun _ _ => true) fun i j => i - j)
def cMul (i j : Int) : Bool := decide ((-(2 ^ 64) < i ∧ i < 2 ^ 64) ∨ (-(2 ^ 64) < j ∧ j < 2 ^ 64))
def pMulI := pII (gI cMul fun i j => i * j)
def cDiv (_ j : Int) : Bool := decide (0 < j ∧ j < 1073741824)
def pFdiv := pII (gI cDiv fun i j => i / j)
def cMod (_ j : Int) : Bool := decide (0 < j)
def pMod := pII (gI cMod fun i j => i % j)
def CPowB (i j : Int) : Prop := 0 ≤ j ∧ (Builtin.Int.intBits i : Int) * j ≤ 2 ^ 27
theorem op_powB : OpR X (binaryOp .Pow) (rI CPowB fun i j => .int (i ^ j.toNat)) := opI fun _ _ _ _ _ _ _ hc q => PyProof.Rows.pow_int hc.1 hc.2 q
def cPow (i j : Int) : Bool := decide (0 ≤ j ∧ (Builtin.Int.intBits i : Int) * j ≤ 2 ^ 27)
def pPow := pII (gI cPow fun i j => i ^ j.toNat)
theorem cMul_ok (i j : Int) (h : cMul i j = true) : CMul i j := by
  unfold cMul at h
  have h2 := of_decide_eq_true h
  exact h2
theorem cDiv_ok (i j : Int) (h : cDiv i j = true) : CDiv i j := by
  unfold cDiv at h
  have h2 := of_decide_eq_true h
  exact h2
theorem cPow_ok (i j : Int) (h : cPow i j = true) : CPowB i j := by
  unfold cPow at h
  have h2 := of_decide_eq_true h
  exact h2
theorem or_addI : OpR X (binaryOp .Add) (rOp C pAddI) := or_I0 op_add
theorem or_sub : OpR X (binaryOp .Sub) (rOp C pSub) := or_I0 op_sub
theorem or_mulI : OpR X (binaryOp .Mult) (rOp C pMulI) := or_I op_mul cMul_ok
theorem or_fdiv : OpR X (binaryOp .FloorDiv) (rOp C pFdiv) := or_I op_fdiv cDiv_ok
theorem or_mod : OpR X (binaryOp .Mod) (rOp C pMod) := or_I op_mod fun i j h => of_decide_eq_true h
theorem or_pow : OpR X (binaryOp .Pow) (rOp C pPow) := or_I op_powB cPow_ok
def pLtI := pII (gB fun i j => decide (i < j))
def pLeI := pII (gB fun i j => decide (i ≤ j))
def pGtI := pII (gB fun i j => decide (j < i))
def pGeI := pII (gB fun i j => decide (j ≤ i))
theorem or_ltI : OpR X (compareOp .Lt) (rOp C pLtI) := or_B op_lt
theorem or_leI : OpR X (compareOp .LtE) (rOp C pLeI) := or_B op_le
theorem or_gtI : OpR X (compareOp .Gt) (rOp C pGtI) := or_B op_gt
theorem or_geI : OpR X (compareOp .GtE) (rOp C pGeI) := or_B op_ge
/-- two tuples, two lists, two texts joined -/
def pAddT (d e : D) : Option O := match d, e with
  | .tuple xs, .tuple ys => if xs.length + ys.length ≤ sizeLine then some (.v (.tuple (xs ++ ys))) else none
  | _, _ => none
def pAddL (d e : D) : Option O := match d, e with
  | .list xs, .list ys => if xs.length + ys.length ≤ sizeLine then some (.s (.own (xs ++ ys))) else none
  | _, _ => none
def pAddS (d e : D) : Option O := match d, e with
  | .str x, .str y => if x.length + y.length ≤ sizeLine then some (.v (.str (x ++ y))) else none
  | _, _ => none
theorem new_tup {F H : Hp} {σ : L2.St} {w : W} {ts : List D} {vs : List V} {Q : VK} (Re : Rel C F σ H w) (r : Rps F ts vs) (q : ∀ F' H' v, Same F F' → Rel C F' σ H' w → RO C F' H' σ w (.v (.tuple ts)) v → Q v H') :
    ∀ p, H p = none → Q (V.ref p) (upd H p (.tup vs)) := fun p hp => by
  obtain ⟨R2, s2⟩ := Re.lay (o := .tup vs) hp
  exact q _ _ _ s2 R2 ⟨p, vs, rfl, upd_same, r.mono s2⟩
theorem new_own {F H : Hp} {σ : L2.St} {w : W} {ts : List D} {vs : List V} {Q : VK} (Re : Rel C F σ H w) (r : Rps F ts vs) (q : ∀ F' H' v, Same F F' → Rel C F' σ H' w → RO C F' H' σ w (.s (.own ts)) v → Q v H') :
    ∀ p, H p = none → Q (V.ref p) (upd H p (.lst vs)) := fun p hp => by
  obtain ⟨h1, h2⟩ := Re.fresh hp
  exact q _ _ _ (Same.refl F) (Re.put h1 h2) ⟨p, _, rfl, upd_same, ⟨vs, rfl, r⟩, h1, h2⟩
theorem or_addT : OpR X (binaryOp .Add) (rOp C pAddT) := by
  intro pins s σ H x y v u Q I rx ry ⟨F, σ', w, d, e, o, Re, vx, vy, ef, q⟩
  cases d <;> first | cases ef | skip
  cases e <;> first | cases ef | skip
  rename_i xs ys
  unfold pAddT at ef
  dsimp only at ef
  split at ef
  · rename_i hz
    cases ef
    obtain ⟨a, vs, rfl, h1, h2⟩ := vx
    obtain ⟨b, us, rfl, h3, h4⟩ := vy
    refine op_catA pins s σ H _ _ v u Q I rx ry ⟨a, b, vs, us, rfl, rfl, .of (Re.le _ _ h1), .of (Re.le _ _ h3), by rw [h2.length, h4.length]; exact hz, fun e => ?_, fun _ e => ?_, fun _ _ => new_tup Re (h2.append h4) q⟩
    · have e2 : xs = [] := List.length_eq_zero_iff.mp (by rw [← h2.length, e]; rfl)
      subst e2
      exact q F H _ (Same.refl F) Re ⟨b, us, rfl, h3, h4⟩
    · have e2 : ys = [] := List.length_eq_zero_iff.mp (by rw [← h4.length, e]; rfl)
      subst e2
      exact q F H _ (Same.refl F) Re (by rw [List.append_nil]; exact ⟨a, vs, rfl, h1, h2⟩)
  · cases ef
theorem or_addL : OpR X (binaryOp .Add) (rOp C pAddL) := by
  intro pins s σ H x y v u Q I rx ry ⟨F, σ', w, d, e, o, Re, vx, vy, ef, q⟩
  cases d <;> first | cases ef | skip
  cases e <;> first | cases ef | skip
  rename_i xs ys
  unfold pAddL at ef
  dsimp only at ef
  split at ef
  · rename_i hz
    cases ef
    obtain ⟨a, vs, rfl, h1, h2⟩ := vx
    obtain ⟨b, us, rfl, h3, h4⟩ := vy
    exact op_cat pins s σ H _ _ v u Q I rx ry ⟨a, b, vs, us, rfl, rfl, h1, h3, by rw [h2.length, h4.length]; exact hz, new_own Re (h2.append h4) q⟩
  · cases ef
theorem or_addS : OpR X (binaryOp .Add) (rOp C pAddS) := by
  intro pins s σ H x y v u Q I rx ry ⟨F, σ', w, d, e, o, Re, vx, vy, ef, q⟩
  cases d <;> first | cases ef | skip
  cases e <;> first | cases ef | skip
  unfold pAddS at ef
  dsimp only at ef
  split at ef
  · rename_i hz
    cases ef
    exact op_add_str pins s σ H _ _ v u Q I rx ry ⟨_, _, vx, vy, hz, q F H _ (Same.refl F) Re rfl⟩
  · cases ef
def pAdd := orF pAddI (orF pAddT (orF pAddL pAddS))
theorem or_add : OpR X (binaryOp .Add) (rOp C pAdd) := or_or or_addI (or_or or_addT (or_or or_addL or_addS))
/-- a list taken k times -/
def pRepL (d e : D) : Option O := match d, e with
  | .list xs, .int k => if -(2 ^ 63) ≤ k ∧ k < 2 ^ 63 ∧ xs.length * k.toNat ≤ sizeLine then some (.s (.own (List.replicate k.toNat xs).flatten)) else none
  | _, _ => none
theorem Rps.rep {F : Hp} {ds : List D} {vs : List V} (h : Rps F ds vs) : ∀ n : Nat, Rps F (List.replicate n ds).flatten (List.replicate n vs).flatten
  | 0 => rfl
  | n + 1 => by
    rw [List.replicate_succ, List.replicate_succ, List.flatten_cons, List.flatten_cons]
    exact h.append (Rps.rep h n)
theorem or_repL : OpR X (binaryOp .Mult) (rOp C pRepL) := by
  intro pins s σ H x y v u Q I rx ry ⟨F, σ', w, d, e, o, Re, vx, vy, ef, q⟩
  cases d <;> first | cases ef | skip
  cases e <;> first | cases ef | skip
  unfold pRepL at ef
  dsimp only at ef
  split at ef
  · rename_i hz
    cases ef
    obtain ⟨a, vs, rfl, h1, h2⟩ := vx
    exact op_rep pins s σ H _ _ v u Q I rx ry ⟨a, _, vs, rfl, vy, h1, hz.1, hz.2.1, by rw [h2.length]; exact hz.2.2, new_own Re (h2.rep _) q⟩
  · cases ef
/-- order of tuples of ints -/
def intsOf : List D → Option (List Int)
  | [] => some []
  | .int i :: r => (intsOf r).map (i :: ·)
  | _ => none
theorem intsOf_map : ∀ ns : List Int, intsOf (ns.map PyData.int) = some ns
  | [] => rfl
  | n :: ns => by
    show (intsOf (ns.map PyData.int)).map (n :: ·) = _
    rw [intsOf_map ns]
    rfl
theorem intsOf_inv : ∀ {ds : List D} {ns : List Int}, intsOf ds = some ns → ds = ns.map PyData.int
  | [], _, h => by cases h; rfl
  | d :: r, ns, h => by
    cases d with
    | int i =>
      have h : (intsOf r).map (i :: ·) = some ns := h
      cases e : intsOf r with
      | none =>
        rw [e] at h
        cases h
      | some ms =>
        rw [e] at h
        cases h
        rw [intsOf_inv e]
        rfl
    | _ => cases h
def pLtT (d e : D) : Option O := match d, e with
  | .tuple xs, .tuple ys => match intsOf xs, intsOf ys with
    | some ns, some ms => some (.v (.bool (HT.lexLt ns ms)))
    | _, _ => none
  | _, _ => none
theorem or_ltT (hx : XOk k X) : OpR X (compareOp .Lt) (rOp C pLtT) := by
  intro pins s σ H x y v u Q I rx ry ⟨F, σ', w, d, e, o, Re, vx, vy, ef, q⟩
  cases d <;> first | cases ef | skip
  cases e <;> first | cases ef | skip
  rename_i xs ys
  unfold pLtT at ef
  dsimp only at ef
  split at ef
  · rename_i ns ms e1 e2
    cases ef
    have e1 := intsOf_inv e1
    have e2 := intsOf_inv e2
    subst e1 e2
    obtain ⟨a, vs, rfl, h1, h2⟩ := vx
    obtain ⟨b, us, rfl, h3, h4⟩ := vy
    rw [h2.ints] at h1
    rw [h4.ints] at h3
    exact op_ltT (by have := hx.u; omega) pins s σ H _ _ v u Q I rx ry ⟨a, b, ns, ms, rfl, rfl, .of (Re.le _ _ h1), .of (Re.le _ _ h3), q F H _ (Same.refl F) Re rfl⟩
  · cases ef
def pLt := orF pLtI pLtT
theorem or_lt (hx : XOk k X) : OpR X (compareOp .Lt) (rOp C pLt) := or_or or_ltI (or_ltT hx)
/-- is None, is not None -/
def pIsN (d e : D) : Option O := match d, e with
  | .none, .none => some (.v (.bool true))
  | _, .none => some (.v (.bool false))
  | _, _ => none
def pNotN (d e : D) : Option O := match d, e with
  | .none, .none => some (.v (.bool false))
  | _, .none => some (.v (.bool true))
  | _, _ => none
def isNo : D → Bool
  | .none => true
  | _ => false
theorem Vw.non {F H : Hp} {d : D} {v : V} (h : Vw F H d v) : decide (v = .non) = isNo d := by
  cases d with
  | none => rw [show v = .non from h]; rfl
  | bool b => rw [show v = .bl b from h]; rfl
  | int b => rw [show v = .int b from h]; rfl
  | str b => rw [show v = .str b from h]; rfl
  | list b => obtain ⟨a, _, e, _⟩ := h; rw [e]; rfl
  | tuple b => obtain ⟨a, _, e, _⟩ := h; rw [e]; rfl
  | dict b => obtain ⟨a, _, e, _⟩ := h; rw [e]; rfl
theorem or_isN : OpR X (compareOp .Is) (rOp C pIsN) := by
  intro pins s σ H x y v u Q I rx ry ⟨F, σ', w, d, e, o, Re, vx, vy, ef, q⟩
  have hn := vx.non
  cases e with
  | none =>
    refine op_isN pins s σ H _ _ v u Q I rx ry ⟨vy, ?_⟩
    rw [hn]
    cases d <;> (cases ef; exact q F H _ (Same.refl F) Re rfl)
  | _ => cases d <;> cases ef
theorem or_notN : OpR X (compareOp .IsNot) (rOp C pNotN) := by
  intro pins s σ H x y v u Q I rx ry ⟨F, σ', w, d, e, o, Re, vx, vy, ef, q⟩
  have hn := vx.non
  cases e with
  | none =>
    refine op_notN pins s σ H _ _ v u Q I rx ry ⟨vy, ?_⟩
    rw [hn]
    cases d <;> (cases ef; exact q F H _ (Same.refl F) Re rfl)
  | _ => cases d <;> cases ef
/-- -i -/
def pNeg (d : D) : Option O := match d with
  | .int i => some (.v (.int (-i)))
  | _ => none
theorem ur_neg : UnR X (unaryOp .USub) (rUn C pNeg) := by
  intro pins s σ H x v Q I rx ⟨F, σ', w, d, o, Re, vx, ef, q⟩
  cases d <;> first | cases ef | skip
  exact un_neg pins s σ H _ v Q I rx ⟨_, vx, q F H _ (Same.refl F) Re rfl⟩
end

/-! ### truth, and, or, not, the conditional -/
def truD : D → Option Bool
  | .none => some false
  | .bool b => some b
  | .int i => some (i != 0)
  | .str y => if y.length ≤ sizeLine then some ((y.length : Int) != 0) else none
  | .list xs => some (!xs.isEmpty)
  | .tuple xs => some (!xs.isEmpty)
  | .dict kvs => some (!kvs.isEmpty)
theorem Rps.empty {F : Hp} {ds : List D} {vs : List V} (h : Rps F ds vs) : vs.isEmpty = ds.isEmpty := by
  have := h.length
  cases ds <;> cases vs <;> simp_all
theorem Rpd.empty {F : Hp} : ∀ {ds : List (D × D)} {vs : List (Key × V)}, Rpd F ds vs → vs.isEmpty = ds.isEmpty
  | [], _, h => by rw [show _ = [] from h]; rfl
  | (_, _) :: _, _, ⟨_, _, _, e, _⟩ => by rw [e]; rfl
theorem Vw.tru {K : PySem.W.Frag} {F H : Hp} (s : Same F H) {d : D} {v : V} {b : Bool} (h : Vw F H d v) (e : truD d = some b) : TruV K v H b := by
  cases d with
  | none => cases e; rw [show v = .non from h]; rfl
  | bool c => cases e; rw [show v = .bl b from h]; rfl
  | int i => cases e; rw [show v = .int i from h]; rfl
  | str y =>
    rw [show v = .str y from h]
    simp only [truD] at e
    split at e
    · rename_i hz
      cases e
      exact ⟨hz, rfl⟩
    · cases e
  | list xs =>
    obtain ⟨a, vs, rfl, h1, h2⟩ := h
    cases e
    exact .inl ⟨vs, .of h1, by rw [h2.empty]⟩
  | tuple xs =>
    obtain ⟨a, vs, rfl, h1, h2⟩ := h
    cases e
    exact .inr (.inl ⟨vs, .of (s _ _ h1), by rw [h2.empty]⟩)
  | dict xs =>
    obtain ⟨a, vs, rfl, h1, h2⟩ := h
    cases e
    exact .inr (.inr ⟨vs, h1, by rw [h2.empty]⟩)
def dtr (m : M R) : M Bool := bnd m fun r => fun w => match r.look w with
  | none => none
  | some d => lft (truD d) w
theorem dtr_inv {m : M R} {w w' : W} {b : Bool} (h : dtr m w = some (b, w')) : ∃ r d, m w = some (r, w') ∧ r.look w' = some d ∧ truD d = some b := by
  obtain ⟨r, w1, e1, h⟩ := bnd_inv h
  cases e2 : r.look w1 with
  | none =>
    simp only [e2] at h
    cases h
  | some d =>
    simp only [e2] at h
    obtain ⟨e3, rfl⟩ := lft_inv h
    exact ⟨r, d, e1, e2, e3⟩
def dand (a b : M Bool) : M Bool := bnd a fun c => if c = true then b else ret false
def dor (a b : M Bool) : M Bool := bnd a fun c => if c = true then ret true else b
def dnot (a : M Bool) : M Bool := bnd a fun c => ret (!c)
def DW (k : Nat) (X : Cx) (e : Expr) (m : M Bool) : Prop := XOk k X → ∀ C, PW X e (tT C m)
theorem _root_.L2.PW.imp {X : Cx} {e : Expr} {t t' : TT} (h : PW X e t) (i : ∀ σ H Q, t' σ H Q → t σ H Q) : PW X e t' := ⟨fun whole pins s σ H Q I q => h.run whole pins s σ H Q I (i σ H Q q)⟩
section
variable {k : Nat} {X : Cx} {a b e : Expr} {rest : List Expr} {pos : Pos}
theorem dt_tru {m : M R} (h : DR k X e m) (he : ∀ whole, isTrue e X.env whole = (do let v ← whole; standAt e.pos; holding [v] (truthy v)) := by intro _; rfl) : DT k X e (dtr m) := fun hx C =>
  (pt_truth (h hx C) he).imp fun σ H Q ⟨F, w, c, w', Re, em, q⟩ => by
    obtain ⟨r, d, e1, e2, e3⟩ := dtr_inv em
    exact ⟨F, w, r, w', Re, e1, fun F1 H1 v s1 R1 rr => ⟨c, (R1.look rr e2).tru R1.le e3, q F1 H1 s1 R1⟩⟩
theorem dw_and1 {m : M Bool} (h : DT k X a m) : DW k X (.BoolOp .And [a] pos) m := fun hx C => pw_and1 (h hx C)
theorem dw_or1 {m : M Bool} (h : DT k X a m) : DW k X (.BoolOp .Or [a] pos) m := fun hx C => pw_or1 (h hx C)
theorem dw_and {m m' : M Bool} (h : DT k X a m) (h' : DW k X (.BoolOp .And (b :: rest) pos) m') : DW k X (.BoolOp .And (a :: b :: rest) pos) (dand m m') := fun hx C =>
  (pw_and (h hx C) (h' hx C)).imp fun σ H Q ⟨F, w, c, w', Re, em, q⟩ => by
    obtain ⟨x, w1, e1, em⟩ := bnd_inv em
    refine ⟨F, w, x, w1, Re, e1, fun F1 H1 s1 R1 => ?_⟩
    cases x with
    | true => exact iteT ⟨F1, w1, c, w', R1, by simpa using em, fun F2 H2 s2 R2 => q F2 H2 (s1.trans s2) R2⟩
    | false =>
      refine iteF ?_
      have em : ret false w1 = some (c, w') := by simpa using em
      cases em
      exact q F1 H1 s1 R1
theorem dw_or {m m' : M Bool} (h : DT k X a m) (h' : DW k X (.BoolOp .Or (b :: rest) pos) m') : DW k X (.BoolOp .Or (a :: b :: rest) pos) (dor m m') := fun hx C =>
  (pw_or (h hx C) (h' hx C)).imp fun σ H Q ⟨F, w, c, w', Re, em, q⟩ => by
    obtain ⟨x, w1, e1, em⟩ := bnd_inv em
    refine ⟨F, w, x, w1, Re, e1, fun F1 H1 s1 R1 => ?_⟩
    cases x with
    | true =>
      refine iteT ?_
      have em : ret true w1 = some (c, w') := by simpa using em
      cases em
      exact q F1 H1 s1 R1
    | false => exact iteF ⟨F1, w1, c, w', R1, by simpa using em, fun F2 H2 s2 R2 => q F2 H2 (s1.trans s2) R2⟩
theorem dt_w {m : M Bool} (h : DW k X e m) : DT k X e m := fun hx C => (h hx C).pt
theorem dt_not {m : M Bool} (h : DT k X a m) : DT k X (.UnaryOp .Not a pos) (dnot m) := fun hx C => (pt_not (h hx C)).imp fun σ H Q ⟨F, w, c, w', Re, em, q⟩ => by
  obtain ⟨x, w1, e1, em⟩ := bnd_inv em
  cases em
  exact ⟨F, w, x, w', Re, e1, fun F1 H1 s1 R1 => q F1 H1 s1 R1⟩
/-- not, and, or as values -/
def dnotV (m : M R) : M O := bnd (dtr m) fun c => ret (.v (.bool (!c)))
theorem do_not {m : M R} (h : DR k X a m) : DO k X (.UnaryOp .Not a pos) (dnotV m) := fun hx C => (pe_notT (h hx C)).imp fun σ H Q ⟨F, w, o, w', Re, em, q⟩ => by
  obtain ⟨c, w1, e1, em⟩ := bnd_inv em
  cases em
  obtain ⟨r, d, e1, e2, e3⟩ := dtr_inv e1
  exact ⟨F, w, r, w', Re, e1, fun F1 H1 v s1 R1 rr => ⟨c, (R1.look rr e2).tru R1.le e3, q F1 H1 _ s1 R1 rfl⟩⟩
def dandV (a b : M D) : M D := bnd a fun x => fun w => match truD x with
  | none => none
  | some true => b w
  | some false => some (x, w)
def dorV (a b : M D) : M D := bnd a fun x => fun w => match truD x with
  | none => none
  | some false => b w
  | some true => some (x, w)
theorem dv_one {op} {m : M D} (h : DV k X a m) : DV k X (.BoolOp op [a] pos) m := fun hx C => pe_one (h hx C)
theorem dv_and {m m' : M D} (h : DV k X a m) (h' : DV k X (.BoolOp .And (b :: rest) pos) m') : DV k X (.BoolOp .And (a :: b :: rest) pos) (dandV m m') := fun hx C =>
  (pe_andT (h hx C) (h' hx C)).imp fun σ H Q ⟨F, w, o, w', Re, em, q⟩ => by
    obtain ⟨x, w1, e1, em⟩ := bnd_inv em
    refine ⟨F, w, x, w1, Re, e1, fun F1 H1 v s1 R1 rr => ?_⟩
    cases ht : truD x with
    | none =>
      simp only [ht] at em
      cases em
    | some c =>
      refine ⟨c, (Vw.of R1.le rr).tru R1.le ht, ?_⟩
      cases c with
      | true =>
        simp only [ht] at em
        exact iteT ⟨F1, w1, o, w', R1, em, fun F2 H2 u s2 R2 r2 => q F2 H2 u (s1.trans s2) R2 r2⟩
      | false =>
        simp only [ht] at em
        cases em
        exact iteF (q F1 H1 v s1 R1 rr)
theorem dv_or {m m' : M D} (h : DV k X a m) (h' : DV k X (.BoolOp .Or (b :: rest) pos) m') : DV k X (.BoolOp .Or (a :: b :: rest) pos) (dorV m m') := fun hx C =>
  (pe_orT (h hx C) (h' hx C)).imp fun σ H Q ⟨F, w, o, w', Re, em, q⟩ => by
    obtain ⟨x, w1, e1, em⟩ := bnd_inv em
    refine ⟨F, w, x, w1, Re, e1, fun F1 H1 v s1 R1 rr => ?_⟩
    cases ht : truD x with
    | none =>
      simp only [ht] at em
      cases em
    | some c =>
      refine ⟨c, (Vw.of R1.le rr).tru R1.le ht, ?_⟩
      cases c with
      | true =>
        simp only [ht] at em
        cases em
        exact iteT (q F1 H1 v s1 R1 rr)
      | false =>
        simp only [ht] at em
        exact iteF ⟨F1, w1, o, w', R1, em, fun F2 H2 u s2 R2 r2 => q F2 H2 u (s1.trans s2) R2 r2⟩
/-- a if c else b -/
def dif {α : Type} (c : M Bool) (a b : M α) : M α := bnd c fun x => if x = true then a else b
theorem do_if {c : Expr} {mc : M Bool} {ma mb : M O} (hc : DT k X c mc) (ha : DO k X a ma) (hb : DO k X b mb) : DO k X (.IfExp c a b pos) (dif mc ma mb) := fun hx C =>
  (pe_ifExp (hc hx C) (ha hx C) (hb hx C)).imp fun σ H Q ⟨F, w, o, w', Re, em, q⟩ => by
    obtain ⟨x, w1, e1, em⟩ := bnd_inv em
    refine ⟨F, w, x, w1, Re, e1, fun F1 H1 s1 R1 => ?_⟩
    cases x with
    | true => exact iteT ⟨F1, w1, o, w', R1, by simpa using em, fun F2 H2 v s2 R2 r => q F2 H2 v (s1.trans s2) R2 r⟩
    | false => exact iteF ⟨F1, w1, o, w', R1, by simpa using em, fun F2 H2 v s2 R2 r => q F2 H2 v (s1.trans s2) R2 r⟩
/-- a op b op' c -/
def dch (f f' : D → D → Option O) (a b c : M R) : M O := bnd a fun x => bnd b fun y => fun w => match x.look w, y.look w with
  | some d, some e => match f d e with
    | some (.v (.bool true)) => (bnd c fun z => fun w2 => match y.look w2, z.look w2 with
      | some e, some g => lft (f' e g) w2
      | _, _ => none) w
    | some (.v (.bool false)) => some (.v (.bool false), w)
    | _ => none
  | _, _ => none
theorem ch_step {C : Cn} {c : Expr} {f f' : D → D → Option O} {m1 m2 m3 : M R} {σ : L2.St} {H : Hp} {Q : VK} (h : tM C (dch f f' m1 m2 m3) (RO C) σ H Q) : tChain (rOp C f) (rOp C f') (tM C m1 (RR C)) (tM C m2 (RR C)) (tM C m3 (RR C)) σ H Q := by
  obtain ⟨F, w, o, w', Re, em, q⟩ := h
  obtain ⟨x, w1, e1, em⟩ := bnd_inv em
  obtain ⟨y, w2, e2, em⟩ := bnd_inv em
  refine ⟨F, w, x, w1, Re, e1, fun F1 H1 v s1 R1 r1 => ⟨F1, w1, y, w2, R1, e2, fun F2 H2 u s2 R2 r2 => ?_⟩⟩
  cases lx : x.look w2 with
  | none =>
    simp only [lx] at em
    cases em
  | some d =>
    cases ly : y.look w2 with
    | none =>
      simp only [lx, ly] at em
      cases em
    | some e =>
      simp only [lx, ly] at em
      cases ef : f d e with
      | none =>
        simp only [ef] at em
        cases em
      | some o1 =>
        refine ⟨F2, σ, w2, d, e, o1, R2, R2.look (r1.step s2) lx, R2.look r2 ly, ef, fun F3 H3 z s3 R3 r3 => ?_⟩
        cases o1 with
        | s t =>
          simp only [ef] at em
          cases em
        | nb b =>
          simp only [ef] at em
          cases em
        | v dd =>
          cases dd with
          | bool bb =>
            have r3 : z = .bl bb := r3
            refine ⟨bb, r3, ?_⟩
            cases bb with
            | true =>
              simp only [ef] at em
              obtain ⟨t, w3, e3, em⟩ := bnd_inv em
              refine iteT ⟨F3, w2, t, w3, R3, e3, fun F4 H4 v4 s4 R4 r4 => ?_⟩
              cases ly2 : y.look w3 with
              | none =>
                simp only [ly2] at em
                cases em
              | some e' =>
                cases lz : t.look w3 with
                | none =>
                  simp only [ly2, lz] at em
                  cases em
                | some g =>
                  simp only [ly2, lz] at em
                  obtain ⟨eg, rfl⟩ := lft_inv em
                  exact ⟨F4, σ, w', e', g, o, R4, R4.look (r2.step (s3.trans s4)) ly2, R4.look r4 lz, eg, fun F5 H5 v5 s5 R5 r5 => q F5 H5 v5 ((((s1.trans s2).trans s3).trans s4).trans s5) R5 r5⟩
            | false =>
              simp only [ef] at em
              cases em
              exact iteF (q F3 H3 _ ((s1.trans s2).trans s3) R3 rfl)
          | _ =>
            simp only [ef] at em
            cases em
theorem do_chain {c : Expr} {op op' : CmpOp} {f f' : D → D → Option O} {m1 m2 m3 : M R} (ho : ∀ C, XOk k X → OpR X (compareOp op) (rOp C f)) (ho' : ∀ C, XOk k X → OpR X (compareOp op') (rOp C f')) (ha : DR k X a m1) (hb : DR k X b m2) (hc : DR k X c m3)
    (hm : lastMarks [op, op'] [b, c] = false := by with_unfolding_all rfl) : DO k X (.Compare a [op, op'] [b, c] pos) (dch f f' m1 m2 m3) := fun hx C =>
  (pe_chain (ho C hx) (ho' C hx) (ha hx C) (hb hx C) (hc hx C) hm).imp fun σ H Q h => ch_step (c := c) h
theorem dt_chain {c : Expr} {op op' : CmpOp} {f f' : D → D → Option O} {m1 m2 m3 : M R} (ho : ∀ C, XOk k X → OpR X (compareOp op) (rOp C f)) (ho' : ∀ C, XOk k X → OpR X (compareOp op') (rOp C f')) (ha : DR k X a m1) (hb : DR k X b m2) (hc : DR k X c m3)
    (hm : lastMarks [op, op'] [b, c] = false := by with_unfolding_all rfl) : DT k X (.Compare a [op, op'] [b, c] pos) (tst (dch f f' m1 m2 m3)) := fun hx C =>
  (pt_chain (ho C hx) (ho' C hx) (ha hx C) (hb hx C) (hc hx C) hm).imp fun σ H Q ⟨F, w, x, w', Re, em, q⟩ => by
    refine ch_step (c := c) ⟨F, w, _, w', Re, tst_inv em, fun F1 H1 v s1 R1 r1 => ?_⟩
    exact ⟨x, r1, q F1 H1 s1 R1⟩
end
end TL
set_option Elab.async false
set_option linter.all false
set_option maxRecDepth 100000
/-! TL, part 5: subscripts, slices, displays, methods, targets, while, for. -/
namespace TL
open PySem L2

/-! ### items -/
theorem Rps.ixN {F : Hp} {ds : List D} {vs : List V} {i : Int} {d : D} (h : Rps F ds vs) (e : atI ds i = some d) : ∃ v, atI vs i = some v ∧ Rp F d v := by
  unfold atI at e ⊢
  rw [h.length]
  cases hj : L2.ixN ds.length i with
  | none =>
    rw [hj] at e
    cases e
  | some j =>
    rw [hj] at e
    exact h.get e
def pIx (d e : D) : Option O := match d, e with
  | .list xs, .int i => (atI xs i).map .v
  | .tuple xs, .int i => (atI xs i).map .v
  | .str z, .int i => if z.length ≤ sizeLine then (atI z.cps.toList i).map fun c => .v (.str ⟨#[c]⟩) else none
  | _, _ => none
section
variable {k : Nat} {X : Cx} {C : Cn} {a b e : Expr} {pos : Pos}
theorem ir_ix : IxR X (rOp C pIx) := by
  intro va sl pins s σ H x y v u Q I rx ry ⟨F, σ', w, d, e, o, Re, vx, vy, ef, q⟩ hs
  have one : ∀ {z : Option D}, z.map O.v = some o → ∃ d, z = some d ∧ o = .v d := fun {z} h => by
    cases z with
    | none => cases h
    | some d =>
      cases h
      exact ⟨d, rfl, rfl⟩
  cases e <;> first | (cases d <;> cases ef; done) | skip
  rename_i i
  have vy : y = .int i := vy
  subst vy
  cases d <;> first | cases ef | skip
  · rename_i z
    have vx : x = .str z := vx
    subst vx
    have ef : (if z.length ≤ sizeLine then (atI z.cps.toList i).map fun c => O.v (.str ⟨#[c]⟩) else none) = some o := ef
    split at ef
    · rename_i hz
      cases e2 : atI z.cps.toList i with
      | none =>
        rw [e2] at ef
        cases ef
      | some c =>
        rw [e2] at ef
        cases ef
        exact ix_str va sl pins s σ H _ _ v u Q I rx ry ⟨z, i, c, rfl, rfl, hz, e2, q F H _ (Same.refl F) Re rfl⟩ hs
    · cases ef
  · rename_i xs
    obtain ⟨p, vs, rfl, h1, h2⟩ := vx
    obtain ⟨d, e1, rfl⟩ := one ef
    obtain ⟨t, e2, r⟩ := h2.ixN e1
    exact ix_list va sl pins s σ H _ _ v u Q I rx ry ⟨p, vs, i, t, rfl, rfl, .of h1, e2, q F H _ (Same.refl F) Re r⟩ hs
  · rename_i xs
    obtain ⟨p, vs, rfl, h1, h2⟩ := vx
    obtain ⟨d, e1, rfl⟩ := one ef
    obtain ⟨t, e2, r⟩ := h2.ixN e1
    exact ix_tup va sl pins s σ H _ _ v u Q I rx ry ⟨p, vs, i, t, rfl, rfl, .of (Re.le _ _ h1), e2, q F H _ (Same.refl F) Re r⟩ hs
theorem do_ix {m1 m2 : M R} (ha : DR k X a m1) (hb : DR k X b m2) (hs : PlainIx b) : DO k X (.Subscript a b pos) (op2 pIx m1 m2) := fun hx C =>
  (pe_ix ir_ix (ha hx C) (hb hx C) hs).imp fun σ H Q h => two_of (fun _ _ _ z => z) (fun _ _ _ z => z) (fun _ _ _ _ z => z) h

/-! ### slices -/
def cutL {α : Type} (xs : List α) (lo hi : Option Int) : List α := (xs.drop (HT.sIx xs.length 0 lo)).take (HT.sIx xs.length xs.length hi - HT.sIx xs.length 0 lo)
theorem Rps.cut {F : Hp} {ds : List D} {vs : List V} (h : Rps F ds vs) (lo hi : Option Int) : Rps F (cutL ds lo hi) (cutV vs lo hi) := by
  unfold cutL cutV
  rw [h.length]
  exact (h.drop _).take _
def pSl (d : D) (lo hi : Option Int) : Option O := match d with
  | .list xs => some (.s (.own (cutL xs lo hi)))
  | .tuple xs => some (.v (.tuple (cutL xs lo hi)))
  | .str z => if z.length ≤ sizeLine then some (.v (.str (cutS z lo hi))) else none
  | _ => none
def rSlD (C : Cn) (f : D → Option Int → Option Int → Option O) : V → Option Int → Option Int → Hp → VK → Prop := fun x lo hi H Q =>
  ∃ F σ w d o, Rel C F σ H w ∧ Vw F H d x ∧ f d lo hi = some o ∧ ∀ F' H' v, Same F F' → Rel C F' σ H' w → RO C F' H' σ w o v → Q v H'
theorem sr_sl : SlR X (rSlD C pSl) := by
  intro pins s σ H x v vl vu lo hi sl Q I rx hs pl pu ⟨F, σ', w, d, o, Re, vx, ef, q⟩
  cases d <;> first | cases ef | skip
  · rename_i z
    have vx : x = .str z := vx
    subst vx
    have ef : (if z.length ≤ sizeLine then some (O.v (.str (cutS z lo hi))) else none) = some o := ef
    split at ef
    · rename_i hz
      cases ef
      exact sl_str pins s σ H _ v vl vu lo hi sl Q I rx hs pl pu ⟨z, rfl, hz, q F H _ (Same.refl F) Re rfl⟩
    · cases ef
  · obtain ⟨p, vs, rfl, h1, h2⟩ := vx
    exact sl_list pins s σ H _ v vl vu lo hi sl Q I rx hs pl pu ⟨p, vs, rfl, .of h1, new_own Re (h2.cut lo hi) q⟩
  · rename_i xs
    obtain ⟨p, vs, rfl, h1, h2⟩ := vx
    refine sl_tupA pins s σ H _ v vl vu lo hi sl Q I rx hs pl pu ⟨p, vs, rfl, .of (Re.le _ _ h1), fun ⟨e1, e2⟩ => ?_, fun _ => new_tup Re (h2.cut lo hi) q⟩
    refine q F H _ (Same.refl F) Re ⟨p, vs, rfl, h1, ?_⟩
    have e3 : cutL xs lo hi = xs := by
      unfold cutL
      rw [← h2.length, e1, e2, List.drop_zero, Nat.sub_zero, h2.length]
      exact List.take_length
    rw [e3]
    exact h2
def tP (C : Cn) (m : M (Option Int)) : TO := fun σ H Q => ∃ F w o w', Rel C F σ H w ∧ m w = some (o, w') ∧ ∀ F' H', Same F F' → Rel C F' σ H' w' → Q o H'
def DP (k : Nat) (X : Cx) (e : Option Expr) (m : M (Option Int)) : Prop := XOk k X → ∀ C, PO X e (tP C m)
theorem _root_.L2.PO.imp {X : Cx} {e : Option Expr} {t t' : TO} (h : PO X e t) (i : ∀ σ H Q, t' σ H Q → t σ H Q) : PO X e t' := ⟨fun pins s σ H Q I q => h.run pins s σ H Q I (i σ H Q q)⟩
def pno : M (Option Int) := ret none
def pso (m : M R) : M (Option Int) := bnd m fun r => fun w => match r.look w with
  | some (.int i) => some (some i, w)
  | _ => none
theorem dp_no : DP k X none pno := fun _ C => po_none.imp fun σ H Q ⟨F, w, o, w', Re, em, q⟩ => by
  cases em
  exact q F H (Same.refl F) Re
theorem dp_so {m : M R} (h : DR k X e m) : DP k X (some e) (pso m) := fun hx C => (po_some (h hx C)).imp fun σ H Q ⟨F, w, o, w', Re, em, q⟩ => by
  obtain ⟨r, w1, e1, em⟩ := bnd_inv em
  cases hl : r.look w1 with
  | none =>
    simp only [hl] at em
    cases em
  | some d =>
    cases d with
    | int i =>
      simp only [hl] at em
      cases em
      exact ⟨F, w, r, w', Re, e1, fun F1 H1 v s1 R1 rr => ⟨i, R1.look rr hl, q F1 H1 s1 R1⟩⟩
    | _ =>
      simp only [hl] at em
      cases em
def dsl (m : M R) (lo hi : M (Option Int)) : M O := bnd m fun r => bnd lo fun l => bnd hi fun h => fun w => match r.look w with
  | some d => lft (pSl d l h) w
  | none => none
theorem do_sl {lo hi : Option Expr} {m : M R} {ml mh : M (Option Int)} {p2 : Pos} (h : DR k X e m) (hl : DP k X lo ml) (hh : DP k X hi mh) : DO k X (.Subscript e (.Slice lo hi none p2) pos) (dsl m ml mh) := fun hx C =>
  (pe_slice sr_sl (h hx C) (hl hx C) (hh hx C)).imp fun σ H Q ⟨F, w, o, w', Re, em, q⟩ => by
    obtain ⟨r, w1, e1, em⟩ := bnd_inv em
    obtain ⟨l, w2, e2, em⟩ := bnd_inv em
    obtain ⟨u, w3, e3, em⟩ := bnd_inv em
    cases hk : r.look w3 with
    | none =>
      simp only [hk] at em
      cases em
    | some d =>
      simp only [hk] at em
      obtain ⟨ef, rfl⟩ := lft_inv em
      refine ⟨F, w, r, w1, Re, e1, fun F1 H1 v s1 R1 rr => ⟨F1, w1, l, w2, R1, e2, fun F2 H2 s2 R2 => ⟨F2, w2, u, w', R2, e3, fun F3 H3 s3 R3 => ?_⟩⟩⟩
      exact ⟨F3, σ, w', d, o, R3, R3.look (rr.step (s2.trans s3)) hk, ef, fun F4 H4 z s4 R4 r4 => q F4 H4 z (((s1.trans s2).trans s3).trans s4) R4 r4⟩

/-! ### displays -/
def dats : List Ar → Option (List D)
  | [] => some []
  | .p d :: r => (dats r).map (d :: ·)
  | .bag :: _ => none
theorem dats_rps {bg : Option (Addr × Addr)} {F : Hp} : ∀ {as : List Ar} {ds : List D} {vs : List V}, dats as = some ds → RAs bg F as vs → Rps F ds vs
  | [], _, _, e, h => by
    cases e
    exact h
  | .p d :: r, ds, _, e, ⟨v, q, e2, h1, h2⟩ => by
    have e : (dats r).map (d :: ·) = some ds := e
    cases hr : dats r with
    | none =>
      rw [hr] at e
      cases e
    | some es =>
      rw [hr] at e
      cases e
      exact ⟨v, q, e2, h1, dats_rps hr h2⟩
  | .bag :: _, _, _, e, _ => nomatch e
def dtup (m : M (List Ar)) : M O := bnd m fun as => lft ((dats as).bind fun ds => if ds.length ≤ sizeLine then some (.v (.tuple ds)) else none)
def dlst (m : M (List Ar)) : M O := bnd m fun as => lft ((dats as).bind fun ds => if ds.length ≤ sizeLine then some (.s (.own ds)) else none)
theorem dats_bind {as : List Ar} {f : List D → O} {o : O} (h : ((dats as).bind fun ds => if ds.length ≤ sizeLine then some (f ds) else none) = some o) : ∃ ds, dats as = some ds ∧ ds.length ≤ sizeLine ∧ o = f ds := by
  cases e : dats as with
  | none =>
    rw [e] at h
    cases h
  | some ds =>
    rw [e] at h
    have h : (if ds.length ≤ sizeLine then some (f ds) else none) = some o := h
    split at h
    · rename_i hz
      cases h
      exact ⟨ds, rfl, hz, rfl⟩
    · cases h
theorem do_tup {es : List Expr} {m : M (List Ar)} {x1} (h : DA k X es m) : DO k X (.Tuple es x1 pos) (dtup m) := fun hx C => (pe_tup (h hx C)).imp fun σ H Q ⟨F, w, o, w', Re, em, q⟩ => by
  obtain ⟨as, w1, e1, em⟩ := bnd_inv em
  obtain ⟨ef, rfl⟩ := lft_inv em
  obtain ⟨ds, e2, hz, rfl⟩ := dats_bind ef
  refine ⟨F, w, as, w', Re, e1, fun F1 H1 vs s1 R1 r1 => ?_⟩
  have r2 := dats_rps e2 r1
  exact ⟨by rw [r2.length]; exact hz, new_tup R1 r2 fun F' H' v s2 R2 r => q F' H' v (s1.trans s2) R2 r⟩
theorem do_lst {es : List Expr} {m : M (List Ar)} (h : DA k X es m) : DO k X (.List es pos) (dlst m) := fun hx C => (pe_lst (h hx C)).imp fun σ H Q ⟨F, w, o, w', Re, em, q⟩ => by
  obtain ⟨as, w1, e1, em⟩ := bnd_inv em
  obtain ⟨ef, rfl⟩ := lft_inv em
  obtain ⟨ds, e2, hz, rfl⟩ := dats_bind ef
  refine ⟨F, w, as, w', Re, e1, fun F1 H1 vs s1 R1 r1 => ?_⟩
  have r2 := dats_rps e2 r1
  exact ⟨by rw [r2.length]; exact hz, new_own R1 r2 fun F' H' v s2 R2 r => q F' H' v (s1.trans s2) R2 r⟩

/-! ### methods that change what a slot owns -/
/-- what a method does to an owned object: its end, the object behind it -/
abbrev Mth := S → List D → Option (D × S)
def kL : S → Bool
  | .own _ => true
  | _ => false
def kK : S → Bool
  | .dk _ => true
  | _ => false
def kT : S → Bool
  | .dt _ => true
  | _ => false
def dmt (kd : S → Bool) (i : Nat) (f : Mth) (m : M (List Ar)) : M D := fun w => match w.r[i]? with
  | some s0 => if kd s0 = true then bnd m (fun as => fun w => match w.r[i]?, dats as with
    | some s, some ds => match f s ds with
      | some (d, s') => some (d, { w with r := w.r.set i s' })
      | none => none
    | _, _ => none) w else none
  | none => none
theorem dmt_inv {kd : S → Bool} {i : Nat} {f : Mth} {m : M (List Ar)} {w w' : W} {d : D} (h : dmt kd i f m w = some (d, w')) :
    ∃ s0 as w1 s ds s', w.r[i]? = some s0 ∧ kd s0 = true ∧ m w = some (as, w1) ∧ w1.r[i]? = some s ∧ dats as = some ds ∧ f s ds = some (d, s') ∧ w' = { w1 with r := w1.r.set i s' } := by
  unfold dmt at h
  cases e0 : w.r[i]? with
  | none =>
    simp only [e0] at h
    cases h
  | some s0 =>
    simp only [e0] at h
    split at h
    · rename_i hk
      obtain ⟨as, w1, e1, h⟩ := bnd_inv h
      cases e2 : w1.r[i]? with
      | none =>
        simp only [e2] at h
        cases h
      | some s =>
        cases e3 : dats as with
        | none =>
          simp only [e2, e3] at h
          cases h
        | some ds =>
          simp only [e2, e3] at h
          cases e4 : f s ds with
          | none =>
            simp only [e4] at h
            cases h
          | some p =>
            simp only [e4] at h
            cases h
            exact ⟨s0, as, w1, s, ds, p.2, rfl, hk, e1, e2, e3, e4, rfl⟩
    · cases h
/-- the method's rule, by values, does what f says -/
def MtOk (f : Mth) (r : V → List V → Hp → VK → Prop) : Prop := ∀ (F H : Hp) (a : Addr) (u : HO) (s s' : S) (ds : List D) (vs : List V) (d : D) (Q : VK), Same F H → H a = some u → CRel F s u → Rps F ds vs → f s ds = some (d, s') →
  (∀ u' v, CRel F s' u' → Rp F d v → Q v (upd H a u')) → r (V.ref a) vs H Q
structure KdOk (K : PySem.W.Frag) (kd : S → Bool) (T : String) : Prop where
  mine : ∀ s, kd s = true → s.mine = true
  ty : ∀ F H s a u, kd s = true → CRel F s u → H a = some u → tyV K T (V.ref a) H
theorem kdL {K : PySem.W.Frag} : KdOk K kL "list" := by
  refine ⟨fun s h => (by cases s <;> first | rfl | (cases h)), fun F H s a u h c e => ?_⟩
  cases s <;> first | cases h | skip
  obtain ⟨vs, rfl, _⟩ := c
  exact .inl ⟨rfl, vs, .of e⟩
theorem kdK {K : PySem.W.Frag} : KdOk K kK "dict" := by
  refine ⟨fun s h => (by cases s <;> first | rfl | (cases h)), fun F H s a u h c e => ?_⟩
  cases s <;> first | cases h | skip
  obtain ⟨vs, rfl, _⟩ := c
  exact .inr (.inr (.inl ⟨rfl, .inl ⟨_, e⟩⟩))
theorem kdT {K : PySem.W.Frag} : KdOk K kT "dict" := by
  refine ⟨fun s h => (by cases s <;> first | rfl | (cases h)), fun F H s a u h c e => ?_⟩
  cases s <;> first | cases h | skip
  obtain ⟨vs, rfl, _⟩ := c
  exact .inr (.inr (.inl ⟨rfl, .inr ⟨_, e⟩⟩))
theorem mt_step {C : Cn} {i : Nat} {f : Mth} {r : V → List V → Hp → VK → Prop} (hf : MtOk f r) (hmine : ∀ s ds x, f s ds = some x → s.mine = true) {F H : Hp} {σ : L2.St} {w1 : W} {as : List Ar} {s s' : S} {ds : List D} {vs : List V} {d : D} {v : V} {Q : VK} (Re : Rel C F σ H w1) (e2 : w1.r[i]? = some s)
    (e3 : dats as = some ds) (e4 : f s ds = some (d, s')) (ra : RAs C.bg F as vs) (hv : σ[i]? = some (some v)) (q : ∀ F' H' v, Same F F' → Rel C F' σ H' { w1 with r := w1.r.set i s' } → Rp F' d v → Q v H') : r v vs H Q := by
  have m := hmine _ _ _ e4
  obtain ⟨a, u, e5, h1, c, p⟩ := (Re.slot i s e2).mineAt m
  rw [hv] at e5
  cases e5
  exact hf F H a u s s' ds vs d Q Re.le h1 c (dats_rps e3 ra) e4 fun u' z c' rz => q F _ z (Same.refl F) (Re.mut e2 m hv c') rz
section
variable {T id : String} {name : Str} {apos cpos : Pos} {o : Expr} {es : List Expr} {i : Nat} {f : Mth} {kd : S → Bool} {r : V → List V → Hp → VK → Prop} {m : M (List Ar)}
theorem dv_mt0 (hk : KdOk X.K kd T) (hmine : ∀ s ds x, f s ds = some x → s.mine = true) (hf : MtOk f r) (pa : PlainAttrs T) (slot : Slot T name id) (hty : typeOf (.builtin id) = pure (.type "method_descriptor")) (hm : XOk k X → MtR X id r) (ho : PE X o (tVar i))
    (hbase : attributeBase o name X.env (eval o X.env) = eval o X.env := by rfl) (hline : (apos.endLine == cpos.line) = true := by rfl) : DV k X (.Call (.Attribute o name apos) [] [] cpos) (dmt kd i f anil) := fun hx C =>
  (pe_bm0 pa slot hty (hm hx) ho hbase hline).imp fun σ H Q ⟨F, w, d, w', Re, em, q⟩ => by
    obtain ⟨s0, as, w1, s, ds, s', e0, k0, e1, e2, e3, e4, rfl⟩ := dmt_inv em
    cases e1
    obtain ⟨a, u, e5, h1, c, p⟩ := (Re.slot i s0 e0).mineAt (hk.mine s0 k0)
    exact ⟨_, e5, hk.ty F H s0 a u k0 c h1, mt_step (as := []) hf hmine Re e2 e3 e4 rfl e5 q⟩
theorem dv_mt (hk : KdOk X.K kd T) (hmine : ∀ s ds x, f s ds = some x → s.mine = true) (hf : MtOk f r) (pa : PlainAttrs T) (slot : Slot T name id) (hty : typeOf (.builtin id) = pure (.type "method_descriptor")) (hm : XOk k X → MtR X id r) (ho : PE X o (tVar i)) (ha : DA k X (e :: es) m)
    (hbase : attributeBase o name X.env (eval o X.env) = eval o X.env := by rfl)
    (hfew : ((backTo cpos (starEach (e :: es) X.env)).all (fun x => !x.1) && (backToKw cpos (keywordEach [] X.env)).all (fun x => x.1.isSome)
      && decide ((e :: es).length + ([] : List Keyword).length + (if ([] : List Keyword).isEmpty then 0 else 1) < 30)) = true := by rfl)
    (hline : (apos.endLine == cpos.line) = true := by rfl) (hs : starEach (e :: es) X.env = (false, eval e X.env) :: starEach es X.env := by rfl) (hplain : (backTo cpos (starEach es X.env)).any (·.1) = false := by rfl) :
    DV k X (.Call (.Attribute o name apos) (e :: es) [] cpos) (dmt kd i f m) := fun hx C =>
  (pe_bm pa slot hty (hm hx) ho (ha hx C) hbase hfew hline hs hplain).imp fun σ H Q ⟨F, w, d, w', Re, em, q⟩ => by
    obtain ⟨s0, as, w1, s, ds, s', e0, k0, e1, e2, e3, e4, rfl⟩ := dmt_inv em
    obtain ⟨a, u, e5, h1, c, p⟩ := (Re.slot i s0 e0).mineAt (hk.mine s0 k0)
    refine ⟨_, e5, hk.ty F H s0 a u k0 c h1, F, w, as, w1, Re, e1, fun F1 H1 vs s1 R1 ra => mt_step hf hmine R1 e2 e3 e4 ra e5 fun F' H' v s2 => q F' H' v (s1.trans s2)⟩
end
end
/-! the methods of lists -/
def fAppend : Mth := fun s ds => match s, ds with
  | .own ts, [d] => if ts.length < sizeLine then some (.none, .own (ts ++ [d])) else none
  | _, _ => none
def fExtend : Mth := fun s ds => match s, ds with
  | .own ts, [.list us] => if ts.length + us.length ≤ sizeLine then some (.none, .own (ts ++ us)) else none
  | _, _ => none
def fPop : Mth := fun s ds => match s, ds with
  | .own ts, [] => (ts[ts.length - 1]?).map fun d => (d, .own ts.dropLast)
  | _, _ => none
def fPopAt : Mth := fun s ds => match s, ds with
  | .own ts, [.int i] => if -(2 ^ 63) ≤ i ∧ i < 2 ^ 63 then (match seqIndex? i ts.length with
    | some j => (ts[j]?).map fun d => (d, .own (ts.eraseIdx j))
    | none => none) else none
  | _, _ => none
def fReverse : Mth := fun s ds => match s, ds with
  | .own ts, [] => some (.none, .own ts.reverse)
  | _, _ => none
theorem mo_append : MtOk fAppend rAppend := by
  intro F H a u s s' ds vs d Q le h c r ef q
  unfold fAppend at ef
  split at ef <;> first | cases ef | skip
  rename_i ts x
  split at ef <;> first | cases ef | skip
  rename_i hz
  obtain ⟨us, rfl, c⟩ := c
  obtain ⟨v, t, rfl, r1, r2⟩ := r
  cases (show t = [] from r2)
  exact ⟨a, us, v, rfl, rfl, h, by rw [c.length]; exact hz, q _ _ ⟨_, rfl, c.append (.one r1)⟩ rfl⟩
theorem mo_extend : MtOk fExtend rExtend := by
  intro F H a u s s' ds vs d Q le h c r ef q
  unfold fExtend at ef
  split at ef <;> first | cases ef | skip
  rename_i ts x
  split at ef <;> first | cases ef | skip
  rename_i hz
  obtain ⟨us, rfl, c⟩ := c
  obtain ⟨v, t, rfl, ⟨b, zs, rfl, h2, r1⟩, r2⟩ := r
  cases (show t = [] from r2)
  exact ⟨a, b, us, zs, rfl, rfl, h, le _ _ h2, by rw [c.length, r1.length]; exact hz, q _ _ ⟨_, rfl, c.append r1⟩ rfl⟩
theorem mo_pop : MtOk fPop rPop := by
  intro F H a u s s' ds vs d Q le h c r ef q
  unfold fPop at ef
  split at ef <;> first | cases ef | skip
  rename_i ts
  obtain ⟨us, rfl, c⟩ := c
  cases (show vs = [] from r)
  cases e : ts[ts.length - 1]? with
  | none =>
    rw [e] at ef
    cases ef
  | some y =>
    rw [e] at ef
    cases ef
    obtain ⟨v, e1, r1⟩ := c.get e
    exact ⟨a, us, v, rfl, rfl, h, by rw [c.length]; exact e1, q _ _ ⟨_, rfl, c.dropLast⟩ r1⟩
theorem mo_popAt : MtOk fPopAt rPopAt := by
  intro F H a u s s' ds vs d Q le h c r ef q
  unfold fPopAt at ef
  split at ef <;> first | cases ef | skip
  rename_i ts i
  split at ef <;> first | cases ef | skip
  rename_i hi
  obtain ⟨us, rfl, c⟩ := c
  obtain ⟨v, t, rfl, r1, r2⟩ := r
  cases (show t = [] from r2)
  cases (show v = .int i from r1)
  split at ef <;> first | cases ef | skip
  rename_i j hj
  cases e : ts[j]? with
  | none =>
    rw [e] at ef
    cases ef
  | some y =>
    rw [e] at ef
    cases ef
    obtain ⟨v, e1, r1⟩ := c.get e
    exact ⟨a, us, i, j, v, rfl, rfl, h, hi.1, hi.2, by rw [c.length]; exact hj, e1, q _ _ ⟨_, rfl, c.eraseIdx j⟩ r1⟩
theorem mo_reverse : MtOk fReverse rReverse := by
  intro F H a u s s' ds vs d Q le h c r ef q
  unfold fReverse at ef
  split at ef <;> first | cases ef | skip
  obtain ⟨us, rfl, c⟩ := c
  cases (show vs = [] from r)
  exact ⟨a, us, rfl, rfl, h, q _ _ ⟨_, rfl, c.reverse⟩ rfl⟩
theorem mine_append : ∀ s ds x, fAppend s ds = some x → s.mine = true := fun s ds x h => by cases s <;> first | rfl | (unfold fAppend at h; cases h)
theorem mine_extend : ∀ s ds x, fExtend s ds = some x → s.mine = true := fun s ds x h => by cases s <;> first | rfl | (unfold fExtend at h; cases h)
theorem mine_pop : ∀ s ds x, fPop s ds = some x → s.mine = true := fun s ds x h => by cases s <;> first | rfl | (unfold fPop at h; cases h)
theorem mine_popAt : ∀ s ds x, fPopAt s ds = some x → s.mine = true := fun s ds x h => by cases s <;> first | rfl | (unfold fPopAt at h; cases h)
theorem mine_reverse : ∀ s ds x, fReverse s ds = some x → s.mine = true := fun s ds x h => by cases s <;> first | rfl | (unfold fReverse at h; cases h)
end TL
set_option Elab.async false
set_option linter.all false
set_option maxRecDepth 100000
/-! TL, part 6: targets, several values at once, while, for. -/
namespace TL
open PySem L2

/-! ### targets: ws are the slots that they store -/
def Kp (ws : List Nat) (σ σ' : L2.St) : Prop := σ'.length = σ.length ∧ ∀ j, j ∉ ws → σ'[j]? = σ[j]?
theorem Kp.refl {ws : List Nat} {σ : L2.St} : Kp ws σ σ := ⟨rfl, fun _ _ => rfl⟩
def tG (C : Cn) (ws : List Nat) (g : D → M Unit) : TG := fun v σ H Q => ∃ F w d w', Rel C F σ H w ∧ Rp F d v ∧ g d w = some ((), w') ∧
  ∀ F' σ' H', Same F F' → Rel C F' σ' H' w' → Kp ws σ σ' → Q σ' H'
def tGs (C : Cn) (ws : List Nat) (g : List D → M Unit) : TGs := fun vs σ H Q => ∃ F w ds w', Rel C F σ H w ∧ Rps F ds vs ∧ g ds w = some ((), w') ∧
  ∀ F' σ' H', Same F F' → Rel C F' σ' H' w' → Kp ws σ σ' → Q σ' H'
def DTg (k : Nat) (X : Cx) (e : Expr) (ws : List Nat) (g : D → M Unit) : Prop := XOk k X → ∀ C, PG X e (tG C ws g)
def DTgs (k : Nat) (X : Cx) (es : List Expr) (ws : List Nat) (g : List D → M Unit) : Prop := XOk k X → ∀ C, PGs X es (tGs C ws g)
theorem _root_.L2.PGs.imp {X : Cx} {es : List Expr} {t t' : TGs} (h : PGs X es t) (i : ∀ v σ H Q, t' v σ H Q → t v σ H Q) : PGs X es t' := ⟨fun pins s σ H v u Q I r q => h.run pins s σ H v u Q I r (i v σ H Q q)⟩
def gnm (i : Nat) : D → M Unit := fun d w => some ((), { w with r := w.r.set i (.val d) })
def gsnil : List D → M Unit := fun ds => match ds with
  | [] => ret ()
  | _ => fun _ => none
def gscons (g : D → M Unit) (gs : List D → M Unit) : List D → M Unit := fun ds => match ds with
  | d :: r => bnd (g d) fun _ => gs r
  | [] => fun _ => none
def gtp (n : Nat) (gs : List D → M Unit) : D → M Unit := fun d w => match d with
  | .tuple ds => if ds.length = n then gs ds w else none
  | _ => none
section
variable {k : Nat} {X : Cx} {e : Expr} {es : List Expr} {pos : Pos}
theorem dtg_name {i : Nat} {x : Str} (hN : X.N.Nodup) (hi : X.N[i]? = some x) (hl : Loc X.env.scope x) (hf : X.fn x = true ∨ X.env.scope.names.lookup x = some .local := by first | exact .inl rfl | exact .inr rfl | assumption) : DTg k X (.Name x pos) [i] (gnm i) := fun _ C =>
  (pg_name hN hi hl hf).imp fun v σ H Q ⟨F, w, d, w', Re, r, em, q⟩ => by
    cases em
    refine q F _ H (Same.refl F) (Re.store ⟨v, rfl, r⟩ fun m => nomatch m) ⟨List.length_set, fun j hj => ?_⟩
    rw [List.getElem?_set_ne fun z => hj (by simp [z])]
theorem dtgs_nil : DTgs k X [] [] gsnil := fun _ C => pgs_nil.imp fun v σ H Q ⟨F, w, d, w', Re, r, em, q⟩ => by
  cases d with
  | nil =>
    cases em
    exact ⟨r, q F σ H (Same.refl F) Re .refl⟩
  | cons a b => cases em
theorem dtgs_cons {ws ws' : List Nat} {g : D → M Unit} {gs : List D → M Unit} (h : DTg k X e ws g) (hr : DTgs k X es ws' gs) (hs : (assignEach (e :: es) X.env).map (·.2) = assign e X.env :: (assignEach es X.env).map (·.2) := by rfl) :
    DTgs k X (e :: es) (ws ++ ws') (gscons g gs) := fun hx C => (pgs_cons (h hx C) (hr hx C) hs).imp fun vs σ H Q ⟨F, w, d, w', Re, r, em, q⟩ => by
  cases d with
  | nil => cases em
  | cons a b =>
    obtain ⟨v, t, rfl, r1, r2⟩ := r
    have em : bnd (g a) (fun _ => gs b) w = some ((), w') := em
    obtain ⟨u, w1, e1, em⟩ := bnd_inv em
    refine ⟨v, t, rfl, F, w, a, w1, Re, r1, e1, fun F1 σ1 H1 s1 R1 k1 => ⟨F1, w1, b, w', R1, r2.mono s1, em, fun F2 σ2 H2 s2 R2 k2 => q F2 σ2 H2 (s1.trans s2) R2 ⟨k2.1.trans k1.1, fun j hj => ?_⟩⟩⟩
    rw [k2.2 j fun z => hj (List.mem_append_right _ z), k1.2 j fun z => hj (List.mem_append_left _ z)]
theorem dtg_tup {ws : List Nat} {gs : List D → M Unit} {n kk : Nat} (h : DTgs k X es ws gs) (hn : (assignEach es X.env).length = n := by rfl) (hst : (assignEach es X.env).findIdx? (·.1) = none := by rfl) : DTg k X (.Tuple es kk pos) ws (gtp n gs) := fun hx C =>
  (pg_tup hx.calm (h hx C) hn hst).imp fun v σ H Q ⟨F, w, d, w', Re, r, em, q⟩ => by
    cases d with
    | tuple ds =>
      have em : (if ds.length = n then gs ds w else none) = some ((), w') := em
      by_cases hl : ds.length = n
      · rw [if_pos hl] at em
        obtain ⟨a, vs, rfl, h1, h2⟩ := r
        exact ⟨a, vs, rfl, .of (Re.le _ _ h1), h2.length.trans hl, F, w, ds, w', Re, h2, em, q⟩
      · rw [if_neg hl] at em
        cases em
    | _ => cases em
/-- xs[i] = d, xs in slot i -/
def gst (i : Nat) (m : M R) : D → M Unit := fun d w => match w.r[i]? with
  | some (.own _) => bnd m (fun r => fun w => match r.look w, w.r[i]? with
    | some (.int n), some (.own ts) => match ixN ts.length n with
      | some j => some ((), { w with r := w.r.set i (.own (ts.set j d)) })
      | none => none
    | _, _ => none) w
  | _ => none
theorem own_at {C : Cn} {F H : Hp} {σ : L2.St} {w : W} {i : Nat} {ts : List D} (Re : Rel C F σ H w) (h : w.r[i]? = some (.own ts)) : ∃ a vs, σ[i]? = some (some (V.ref a)) ∧ H a = some (.lst vs) ∧ Rps F ts vs ∧ Priv C F a := Re.slot i _ h
theorem gst_inv {i : Nat} {m : M R} {d : D} {w w' : W} {u : Unit} (em : gst i m d w = some (u, w')) : ∃ t0 x w1 n ts j, w.r[i]? = some (.own t0) ∧ m w = some (x, w1) ∧ x.look w1 = some (.int n) ∧ w1.r[i]? = some (.own ts) ∧ ixN ts.length n = some j ∧ w' = { w1 with r := w1.r.set i (.own (ts.set j d)) } := by
  unfold gst at em
  split at em
  · rename_i t0 e0
    obtain ⟨x, w1, e1, em⟩ := bnd_inv em
    split at em
    · rename_i n ts h1 h2
      split at em
      · rename_i j hj
        cases em
        exact ⟨t0, x, w1, n, ts, j, e0, e1, h1, h2, hj, rfl⟩
      · cases em
    · cases em
  · cases em
theorem dtg_set {o ix : Expr} {i : Nat} {m : M R} (ho : PE X o (tVar i)) (hi : DR k X ix m) (ha : ∀ v, assign (.Subscript o ix pos) X.env v = (do
      let ov ← holding [v] (eval o X.env)
      let iv ← holding [v, ov] (eval ix X.env)
      standAt pos
      holding [v, ov, iv] (setItem ov iv v)
      release [v, ov, iv] []) := by intro _; rfl) : DTg k X (.Subscript o ix pos) [] (gst i m) := fun hx C =>
  (pg_sub ho (hi hx C) set_list ha).imp fun v σ H Q ⟨F, w, d, w', Re, r, em, q⟩ => by
    obtain ⟨t0, x, w1, n, ts, j, e0, e1, hl, hs, hj, rfl⟩ := gst_inv em
    obtain ⟨a, vs0, ea, _⟩ := own_at Re e0
    refine ⟨_, ea, F, w, x, w1, Re, e1, fun F1 H1 y s1 R1 rr => ?_⟩
    obtain ⟨b, vs, eb, h1, c, _⟩ := own_at R1 hs
    rw [ea] at eb
    cases eb
    refine ⟨a, vs, n, j, rfl, R1.look rr hl, h1, by rw [c.length]; exact hj, ?_⟩
    exact q F1 σ _ s1 (R1.mut hs rfl ea ⟨_, rfl, c.set j (r.mono s1)⟩) .refl
/-- xs[lo:hi] = a list, xs in slot i, 0 <= lo <= hi <= its length -/
def gsl (i : Nat) (lo hi : M (Option Int)) : D → M Unit := fun d w => match w.r[i]? with
  | some (.own _) => bnd lo (fun l => bnd hi fun h => fun w => match l, h with
    | some a, some c => match d, w.r[i]? with
      | .list us, some (.own ts) => if 0 ≤ a ∧ a ≤ c ∧ c ≤ ts.length ∧ ts.length + us.length ≤ sizeLine then some ((), { w with r := w.r.set i (.own (ts.take a.toNat ++ us ++ ts.drop c.toNat)) }) else none
      | _, _ => none
    | _, _ => none) w
  | _ => none
theorem gsl_inv {i : Nat} {lo hi : M (Option Int)} {d : D} {w w' : W} {u : Unit} (em : gsl i lo hi d w = some (u, w')) : ∃ t0 a w1 c w2 us ts, w.r[i]? = some (.own t0) ∧ lo w = some (some a, w1) ∧ hi w1 = some (some c, w2) ∧ d = .list us ∧ w2.r[i]? = some (.own ts) ∧
    (0 ≤ a ∧ a ≤ c ∧ c ≤ ts.length ∧ ts.length + us.length ≤ sizeLine) ∧ w' = { w2 with r := w2.r.set i (.own (ts.take a.toNat ++ us ++ ts.drop c.toNat)) } := by
  unfold gsl at em
  split at em
  · rename_i t0 e0
    obtain ⟨l, w1, e1, em1⟩ := bnd_inv em
    obtain ⟨h, w2, e2, em2⟩ := bnd_inv em1
    clear em em1
    cases l with
    | none => cases em2
    | some a =>
      cases h with
      | none => cases em2
      | some c =>
        cases d with
        | list us =>
          cases h2 : w2.r[i]? with
          | none =>
            simp only [h2] at em2
            cases em2
          | some t =>
            cases t with
            | own ts =>
              simp only [h2] at em2
              split at em2
              · rename_i hz
                cases em2
                exact ⟨t0, a, w1, c, w2, us, ts, e0, e1, e2, rfl, h2, hz, rfl⟩
              · cases em2
            | _ =>
              simp only [h2] at em2
              cases em2
        | _ => cases em2
  · cases em
theorem dtg_sl {o : Expr} {lo hi : Option Expr} {i : Nat} {ml mh : M (Option Int)} {p2 : Pos} (ho : PE X o (tVar i)) (hl : DP k X lo ml) (hh : DP k X hi mh) (ha : ∀ v, assign (.Subscript o (.Slice lo hi none p2) pos) X.env v = (do
      let ov ← holding [v] (eval o X.env)
      let iv ← holding [v, ov] (eval (.Slice lo hi none p2) X.env)
      standAt pos
      holding [v, ov, iv] (setItem ov iv v)
      release [iv, v, ov] []) := by intro _; rfl) : DTg k X (.Subscript o (.Slice lo hi none p2) pos) [] (gsl i ml mh) := fun hx C => by
  refine ⟨fun pins s σ H v u Q I r ⟨F, w, d, w', Re, rd, em, q⟩ => ?_⟩
  obtain ⟨t0, a, w1, c, w2, us, ts, e0, e1, e2, rfl, hs, hz, rfl⟩ := gsl_inv em
  obtain ⟨p, vs0, ep, _⟩ := own_at Re e0
  rw [ha]
  refine wpAny_bind (wpAny_holding (thn (ho.run pins s σ H (fun y H1 => y = V.ref p ∧ H1 = H) I ⟨_, ep, rfl, rfl⟩) fun ov s1 ⟨y, H1, I1, r1, ey, eH⟩ => ?_))
  subst ey eH
  refine wpAny_bind (wpAny_holding (wpAny_Slice (thn ((hl hx C).run pins s1 σ _ (fun l H2 => l = some a ∧ ∃ F2, Same F F2 ∧ Rel C F2 σ H2 w1) I1 ⟨F, w, _, w1, Re, e1, fun F2 H2 s2 R2 => ⟨rfl, F2, s2, R2⟩⟩) fun vl s2 ⟨l, H2, I2, pl, el, F2, z2, R2⟩ =>
    thn ((hh hx C).run pins s2 σ _ (fun l H3 => l = some c ∧ ∃ F3, Same F2 F3 ∧ Rel C F3 σ H3 w2) I2 ⟨F2, w1, _, w2, R2, e2, fun F3 H3 s3 R3 => ⟨rfl, F3, s3, R3⟩⟩) fun vu s3 ⟨l', H3, I3, pu, el', F3, z3, R3⟩ => ?_)))
  subst el el'
  rw [evalPart_none]
  refine wpAny_pure (wpAny_bind (wpAny_standAt (wpAny_bind (wpAny_holding ?_))))
  have I4 : Inv X pins σ H3 { s3 with heap := s3.heap.push { cls := .type "slice", data := .fields #[vl, vu, .none] } } := I3.kept (t' := s3.toks) fun b ob z => Heap.get?_push_of_some _ z
  obtain ⟨p2', vs, eb, h1, cc, pr⟩ := own_at R3 hs
  rw [ep] at eb
  cases eb
  obtain ⟨b, bs, rfl, hb, cb⟩ := (Rp.mono (z2.trans z3) _ _ rd : Rp F3 (.list us) v)
  have rl : RelV (.int a) vl := by
    cases pl with
    | int _ t => exact ⟨t, rfl⟩
  have ru : RelV (.int c) vu := by
    cases pu with
    | int _ t => exact ⟨t, rfl⟩
  obtain rfl : ov = .ref p := r1
  obtain rfl : u = .ref b := r
  have hne : p ≠ b := fun z => by
    subst z
    rw [pr.1] at hb
    cases hb
  refine set_slice I4 h1 (R3.le _ _ hb) hne (Heap.IsSliceOf.new ..) rl ru hz.1 hz.2.1 (by rw [cc.length]; exact hz.2.2.1) (by rw [cc.length, cb.length]; exact hz.2.2.2) fun s5 I5 => ?_
  refine wpAny_release ⟨σ, _, I5, ?_⟩
  exact q F3 σ _ (z2.trans z3) (R3.mut hs rfl ep ⟨_, rfl, ((cc.take _).append cb).append (cc.drop _)⟩) .refl
/-- target = e -/
def sasg (m : M D) (g : D → M Unit) : M Out := bnd m fun d => bnd (g d) fun _ => snx
theorem ds_asg {tg : Expr} {m : M D} {ws : List Nat} {g : D → M Unit} (h : DV k X e m) (hg : DTg k X tg ws g) (hs : swapsWithSole [tg] e pos.line X.env = pure false := by rfl) (hw : swappedStores [tg] e X.env = pure none := by rfl)
    (h1 : (assignEach [tg] X.env).map (·.2) = [assign tg X.env] := by rfl) : DS k X (.Assign [tg] e pos) (sasg m g) := fun hx C =>
  (ps_asg (h hx C) (hg hx C) hs hw h1).imp fun Dn σ H ⟨F, w, o, w', Re, em, q⟩ => by
    obtain ⟨d, w1, e1, em⟩ := bnd_inv em
    obtain ⟨u, w2, e2, em⟩ := bnd_inv em
    cases em
    exact ⟨F, w, d, w1, Re, e1, fun F1 H1 v s1 R1 r => ⟨F1, w1, d, w', R1, r, e2, fun F2 σ2 H2 s2 R2 _ => q F2 H2 σ2 (s1.trans s2) R2⟩⟩
end
end TL
set_option Elab.async false
set_option linter.all false
set_option maxRecDepth 100000
/-! TL, part 7: several values at once, while, for, list comprehensions. -/
namespace TL
open PySem L2

/-! ### an object that is held while something else is evaluated -/
def Cn.pin (C : Cn) (a : Addr) (u : HO) : Cn := { C with H0 := upd C.H0 a u }
section
variable {C : Cn} {F F' H H' : Hp} {σ : L2.St} {w w' : W} {a : Addr} {u : HO}
theorem Rel.pin (R : Rel C F σ H w) (h : H a = some u) (p : Priv C F a) (n : ¬ OwnedAt w.r σ a) : Rel (C.pin a u) F σ H w where
  base := fun c o e z => by
    by_cases hc : c = a
    · subst hc
      have e : some u = some o := (show (C.pin c u).H0 c = some u from upd_same).symm.trans e
      cases e
      exact h
    · rw [show (C.pin a u).H0 c = C.H0 c from upd_ne hc] at e
      exact R.base c o e z
  le0 := R.le0
  le := R.le
  fz := fun c o e => by
    rcases R.fz c o e with q | q | q
    · exact .inl q
    · refine .inr (.inl ((show (C.pin a u).H0 c = C.H0 c from upd_ne fun z => ?_).trans q))
      subst z
      rw [p.1] at e
      cases e
    · exact .inr (.inr q)
  nb := R.nb
  bag := R.bag
  len := R.len
  slot := fun i s e => by
    have h1 := R.slot i s e
    cases hm : s.mine with
    | false =>
      cases s with
      | un => trivial
      | val d => exact h1
      | bag => exact h1
      | _ => cases hm
    | true =>
      obtain ⟨b, o, e2, h2, c, q⟩ := h1.mineAt hm
      rw [e2]
      refine .of c h2 ⟨q.1, q.2.1, (show (C.pin a u).H0 b = C.H0 b from upd_ne fun z => ?_).trans q.2.2⟩
      subst z
      exact n ⟨i, s, e, hm, e2⟩
  apart := R.apart
theorem Rel.unpin (R : Rel (C.pin a u) F' σ H' w') (p : Priv C F a) (h0 : C.F0 a = none) (hu : ∀ vs, u ≠ .tup vs) : Rel C F' σ H' w' ∧ H' a = some u ∧ Priv C F' a ∧ ¬ OwnedAt w'.r σ a := by
  have ha : (C.pin a u).H0 a = some u := upd_same
  have hF : F' a = none := by
    cases q : F' a with
    | none => rfl
    | some o =>
      rcases R.fz a o q with z | z | ⟨vs, z⟩
      · have z : C.F0 a = some o := z
        rw [h0] at z
        cases z
      · rw [ha] at z
        cases z
      · subst z
        have z := R.le a _ q
        rw [R.base a u ha p.2.1] at z
        cases z
        exact absurd rfl (hu vs)
  refine ⟨⟨fun c o e z => ?_, R.le0, R.le, fun c o e => ?_, R.nb, R.bag, R.len, fun i t e => ?_, R.apart⟩, R.base a u ha p.2.1, ⟨hF, p.2.1, p.2.2⟩, fun z => ?_⟩
  · refine R.base c o ((show (C.pin a u).H0 c = C.H0 c from upd_ne fun q => ?_).trans e) z
    subst q
    rw [p.2.2] at e
    cases e
  · rcases R.fz c o e with q | q | q
    · exact .inl q
    · by_cases hc : c = a
      · subst hc
        rw [ha] at q
        cases q
      · exact .inr (.inl ((show (C.pin a u).H0 c = C.H0 c from upd_ne hc).symm.trans q))
    · exact .inr (.inr q)
  · have h1 := R.slot i t e
    cases hm : t.mine with
    | false =>
      cases t with
      | un => trivial
      | val d => exact h1
      | bag => exact h1
      | _ => cases hm
    | true =>
      obtain ⟨b, o, e2, h2, c, q⟩ := h1.mineAt hm
      rw [e2]
      refine .of c h2 ⟨q.1, q.2.1, ?_⟩
      have q3 := q.2.2
      by_cases hb : b = a
      · subst hb
        rw [ha] at q3
        cases q3
      · exact (show (C.pin a u).H0 b = C.H0 b from upd_ne hb).symm.trans q3
  · have q := (R.owned z).1.2.2
    rw [ha] at q
    cases q

/-- values of several expressions, each new object apart from the others -/
def adr : O → V → Addr → Prop
  | .s _, v, a => v = V.ref a
  | .nb _, _, _ => True
  | .v _, _, _ => False
def ROs (C : Cn) (F H : Hp) (σ : L2.St) (w : W) : List O → List V → Prop
  | [], vs => vs = []
  | o :: os, vs => ∃ v r, vs = v :: r ∧ RO C F H σ w o v ∧ ROs C F H σ w os r ∧ ∀ t a, o = .s t → v = V.ref a → ∀ (j : Nat) t', os[j]? = some (.s t') → r[j]? ≠ some (V.ref a)
def tOs (C : Cn) (m : M (List O)) : TA := fun σ H Q => ∃ F w os w', Rel C F σ H w ∧ m w = some (os, w') ∧ ∀ F' H' vs, Same F F' → Rel C F' σ H' w' → ROs C F' H' σ w' os vs → Q vs H'
def DOs (k : Nat) (X : Cx) (es : List Expr) (m : M (List O)) : Prop := XOk k X → ∀ C, PA X es (tOs C m)
def onil : M (List O) := ret []
def ocons (m : M O) (r : M (List O)) : M (List O) := bnd m fun o => match o with
  | .nb _ => fun _ => none
  | o => bnd r fun os => ret (o :: os)
theorem ROs.unpin {o : HO} (p : Priv C F a) (h0 : C.F0 a = none) : ∀ {os : List O} {vs : List V}, ROs (C.pin a o) F' H' σ w' os vs → ROs C F' H' σ w' os vs ∧ ∀ (j : Nat) t, os[j]? = some (.s t) → vs[j]? ≠ some (V.ref a)
  | [], vs, h => ⟨h, fun j t e => by simp at e⟩
  | x :: os, vs, ⟨v, r, e, h1, h2, h3⟩ => by
    obtain ⟨g1, g2⟩ := ROs.unpin p h0 h2
    subst e
    have pr : ∀ b, Priv (C.pin a o) F' b → Priv C F' b ∧ b ≠ a := fun b q => by
      have q3 := q.2.2
      by_cases hb : b = a
      · subst hb
        rw [show (C.pin b o).H0 b = some o from upd_same] at q3
        cases q3
      · exact ⟨⟨q.1, q.2.1, (show (C.pin a o).H0 b = C.H0 b from upd_ne hb).symm.trans q3⟩, hb⟩
    cases x with
    | v d => exact ⟨⟨v, r, rfl, h1, g1, h3⟩, fun j t e => by
        cases j with
        | zero => simp at e
        | succ j => simpa using g2 j t (by simpa using e)⟩
    | s t0 =>
      obtain ⟨b, y, rfl, z1, z2, z3, z4⟩ := h1
      obtain ⟨z5, z6⟩ := pr b z3
      refine ⟨⟨_, r, rfl, ⟨b, y, rfl, z1, z2, z5, z4⟩, g1, h3⟩, fun j t e => ?_⟩
      cases j with
      | zero =>
        intro q
        simp at q
        exact z6 q
      | succ j => simpa using g2 j t (by simpa using e)
    | nb b =>
      obtain ⟨b1, b2, rfl, z1, z2, z3, z4⟩ := h1
      exact ⟨⟨_, r, rfl, ⟨b1, b2, rfl, z1, (pr b1 z2).1, (pr b2 z3).1, z4⟩, g1, h3⟩, fun j t e => by
        cases j with
        | zero => simp at e
        | succ j => simpa using g2 j t (by simpa using e)⟩
end
section
variable {k : Nat} {X : Cx} {e : Expr} {es : List Expr} {pos : Pos}
theorem dos_nil : DOs k X [] onil := fun _ C => pa_nil.imp fun σ H Q ⟨F, w, x, w', Re, em, q⟩ => by
  cases em
  exact q F H [] (Same.refl F) Re rfl
theorem dos_cons {m : M O} {r : M (List O)} (h : DO k X e m) (hr : DOs k X es r) (hs : starEach (e :: es) X.env = (false, eval e X.env) :: starEach es X.env := by rfl) : DOs k X (e :: es) (ocons m r) := fun hx C => by
  refine ⟨fun ps pins s σ H Q I ⟨F, w, x, w', Re, em, q⟩ => ?_⟩
  obtain ⟨o, w1, e1, em1⟩ := bnd_inv em
  rw [hs]
  show wpAny _ _ (spliced ((false, eval e X.env) :: backTo ps (starEach es X.env))) _ _ s
  refine Calls.spliced_cons (thn ((h hx C).run pins s σ H (fun v H1 => ∃ F1, Same F F1 ∧ Rel C F1 σ H1 w1 ∧ RO C F1 H1 σ w1 o v) I ⟨F, w, o, w1, Re, e1, fun F1 H1 v s1 R1 r1 => ⟨F1, s1, R1, r1⟩⟩) fun u s1 ⟨v, H1, I1, rv, F1, z1, R1, r1⟩ => ?_)
  cases o with
  | nb b => cases em1
  | v d =>
    obtain ⟨os, w2, e2, em2⟩ := bnd_inv em1
    cases em2
    refine thn ((hr hx C).run ps pins s1 σ H1 (fun vs H2 => Q (v :: vs) H2) I1 ⟨F1, w1, os, w', R1, e2, fun F2 H2 vs s2 R2 r2 => ?_⟩) fun us s2 ⟨vs, H2, I2, rvs, q2⟩ => ⟨v :: vs, H2, I2, .cons rv rvs, q2⟩
    exact q F2 H2 _ (z1.trans s2) R2 ⟨v, vs, rfl, Rp.mono s2 d v r1, r2, fun t a e => nomatch e⟩
  | s t =>
    obtain ⟨os, w2, e2, em2⟩ := bnd_inv em1
    cases em2
    obtain ⟨a, o, rfl, h1, c, p, n⟩ := r1
    have h0 : C.F0 a = none := R1.le0.free p.1
    refine thn ((hr hx (C.pin a o)).run ps pins s1 σ H1 (fun vs H2 => Q (V.ref a :: vs) H2) I1 ⟨F1, w1, os, w', R1.pin h1 p n, e2, fun F2 H2 vs s2 R2 r2 => ?_⟩) fun us s2 ⟨vs, H2, I2, rvs, q2⟩ => ⟨_, H2, I2, .cons rv rvs, q2⟩
    obtain ⟨R3, g1, g2, g3⟩ := R2.unpin p h0 fun vs z => (z ▸ c).noTup
    obtain ⟨r3, g4⟩ := ROs.unpin p h0 r2
    refine q F2 H2 _ (z1.trans s2) R3 ⟨_, vs, rfl, ⟨a, o, rfl, g1, c.mono s2, g2, g3⟩, r3, fun t' b e eb j t2 e3 => ?_⟩
    cases eb
    exact g4 j t2 e3
/-- the ends are stored, one after another -/
def sto (i : Nat) (o : O) (w : W) : Option W := match o with
  | .v d => some { w with r := w.r.set i (.val d) }
  | .s t => some { w with r := w.r.set i t }
  | .nb _ => none
theorem Rel.sto {C : Cn} {F H : Hp} {σ : L2.St} {w w' : W} {i : Nat} {o : O} {v : V} (R : Rel C F σ H w) (r : RO C F H σ w o v) (e : TL.sto i o w = some w') : Rel C F (σ.set i (some v)) H w' := by
  cases o with
  | v d =>
    cases e
    exact R.store ⟨v, rfl, r⟩ fun m => nomatch m
  | s t =>
    cases e
    obtain ⟨a, u, rfl, h1, c, p, n⟩ := r
    exact R.store (.of c h1 p) fun _ b e => by cases e; exact n
  | nb b => cases e
/-- what stands for an end still does behind a store of another one -/
theorem RO.sto {C : Cn} {F H : Hp} {σ : L2.St} {w w' : W} {i : Nat} {o o' : O} {v v' : V} (r : RO C F H σ w o v) (e : TL.sto i o' w = some w') (hne : ∀ t t' a, o = .s t → o' = .s t' → v = V.ref a → v' ≠ V.ref a) (hw : w.r.length = σ.length) (hnb : ∀ b, o ≠ .nb b) : RO C F H (σ.set i (some v')) w' o v := by
  cases o with
  | v d => exact r
  | nb b => exact absurd rfl (hnb b)
  | s t =>
    obtain ⟨a, u, rfl, h1, c, p, n⟩ := r
    refine ⟨a, u, rfl, h1, c, p, fun ⟨j, s, e2, m, e3⟩ => ?_⟩
    have key : ∀ t', w' = { w with r := w.r.set i t' } → (t'.mine = true → v' ≠ V.ref a) → False := fun t' ew hm => by
      subst ew
      by_cases hij : i = j
      · subst hij
        have hi : i < w.r.length := by
          have := (List.getElem?_eq_some_iff.mp e2).1
          simpa using this
        rw [List.getElem?_set_self hi] at e2
        rw [List.getElem?_set_self (by rw [← hw]; exact hi)] at e3
        cases e2
        cases e3
        exact hm m rfl
      · rw [List.getElem?_set_ne hij] at e2 e3
        exact n ⟨j, s, e2, m, e3⟩
    cases o' with
    | v d =>
      cases e
      exact key _ rfl fun m => nomatch m
    | s t' =>
      cases e
      exact key _ rfl fun _ => hne t t' a rfl rfl rfl
    | nb b => cases e
def spar2 (i j : Nat) (m : M (List O)) : M Out := bnd m fun os => fun w => match os with
  | [a, b] => (sto i a w).bind fun w1 => (sto j b w1).map fun w2 => (.nx, w2)
  | _ => none
def spar3 (i j l : Nat) (m : M (List O)) : M Out := bnd m fun os => fun w => match os with
  | [a, b, c] => (sto i a w).bind fun w1 => (sto j b w1).bind fun w2 => (sto l c w2).map fun w3 => (.nx, w3)
  | _ => none
theorem sto_nb {i : Nat} {o : O} {w w' : W} (h : sto i o w = some w') : ∀ b, o ≠ .nb b := fun b e => by
  subst e
  cases h
theorem sto_len {i : Nat} {o : O} {w w' : W} (h : sto i o w = some w') : w'.r.length = w.r.length := by
  cases o <;> cases h <;> simp
theorem par2_step {C : Cn} {i j : Nat} {F H : Hp} {σ : L2.St} {w w' : W} {a b : O} {v u : V} (Re : Rel C F σ H w) (r : ROs C F H σ w [a, b] [v, u]) (h : ((sto i a w).bind fun w1 => (sto j b w1).map fun w2 => (Out.nx, w2)) = some (.nx, w')) : Rel C F ((σ.set i (some v)).set j (some u)) H w' := by
  obtain ⟨_, _, e, r1, ⟨_, _, e', r2, _, _⟩, ap⟩ := r
  cases e
  cases e'
  cases h1 : sto i a w with
  | none =>
    rw [h1] at h
    cases h
  | some w1 =>
    rw [h1] at h
    have h : (sto j b w1).map (fun w2 => (Out.nx, w2)) = some (.nx, w') := h
    cases h2 : sto j b w1 with
    | none =>
      rw [h2] at h
      cases h
    | some w2 =>
      rw [h2] at h
      cases h
      have R1 := Re.sto r1 h1
      exact R1.sto (RO.sto r2 h1 (fun t t' z e1 e2 e3 e4 => by
        subst e1 e2 e3 e4
        exact ap t' z rfl rfl 0 t rfl rfl) Re.len (sto_nb h2)) h2
theorem map_nx {x : Option W} {p : Out × W} (h : x.map (fun w2 => (Out.nx, w2)) = some p) : p.1 = .nx := by
  cases x <;> cases h
  rfl
theorem bind_nx {x : Option W} {f : W → Option (Out × W)} {p : Out × W} (hf : ∀ w p, f w = some p → p.1 = .nx) (h : x.bind f = some p) : p.1 = .nx := by
  cases x with
  | none => cases h
  | some w => exact hf w p h
/-- a, b = e1, e2 with plain local names -/
theorem ds_par2 {i j : Nat} {x y : Str} {a b : Expr} {m : M (List O)} {px py pt : Pos} {kt k2 pt2} (hN : X.N.Nodup) (hi : X.N[i]? = some x) (hj : X.N[j]? = some y) (hij : i ≠ j)
    (hx1 : X.env.scope.names.lookup x = some .local) (hy : X.env.scope.names.lookup y = some .local) (ha : DOs k X [a, b] m)
    (hw : swappedStores [.Tuple [.Name x px, .Name y py] kt pt] (.Tuple [a, b] k2 pt2) X.env = pure (some [x, y]))
    (hs : swapsWithSole [.Tuple [.Name x px, .Name y py] kt pt] (.Tuple [a, b] k2 pt2) pos.line X.env = pure false := by rfl) :
    DS k X (.Assign [.Tuple [.Name x px, .Name y py] kt pt] (.Tuple [a, b] k2 pt2) pos) (spar2 i j m) := fun hx C =>
  (ps_par hx.calm hN hi hj hij hx1 hy (ha hx C) hw hs).imp fun Dn σ H ⟨F, w, o, w', Re, em, q⟩ => by
    obtain ⟨os, w1, e1, em⟩ := bnd_inv em
    refine ⟨F, w, os, w1, Re, e1, fun F1 H1 vs s1 R1 r1 => ?_⟩
    match os, em, r1 with
    | [oa, ob], em, r1 =>
      obtain ⟨v, _, rfl, h1, ⟨u, _, rfl, h2, h3, h4⟩, h5⟩ := r1
      cases (show _ = [] from h3)
      have hn := bind_nx (fun w p h => map_nx h) em
      cases (show o = .nx from hn)
      exact ⟨v, u, rfl, q F1 H1 _ s1 (par2_step R1 ⟨v, _, rfl, h1, ⟨u, _, rfl, h2, rfl, h4⟩, h5⟩ em)⟩
end

/-! ### while -/
def whl (c : M Bool) (b : M Out) : Nat → M Out
  | 0 => fun _ => none
  | n + 1 => bnd c fun x => if x = true then bnd b fun o => match o with
      | .nx => whl c b n
      | .ct => whl c b n
      | .bk => snx
      | .re o => ret (.re o)
    else snx
section
variable {k : Nat} {X : Cx} {pos : Pos}
theorem ds_while {c : Expr} {body : List Stmt} {mc : M Bool} {mb : M Out} (n : Nat) (hc : DT k X c mc) (hb : DSs k X body mb) : DS k X (.While c body [] pos) (whl mc mb n) := fun hx C =>
  (ps_while hx.pas (hc hx C) (hb hx C)).imp fun Dn σ H ⟨F, w, o, w', Re, em, q⟩ => by
    refine ⟨fun n σ1 H1 => ∃ F1 w1, Same F F1 ∧ Rel C F1 σ1 H1 w1 ∧ whl mc mb n w1 = some (o, w'), ⟨n, F, w, Same.refl F, Re, em⟩, fun n σ1 H1 ⟨F1, w1, s1, R1, e1⟩ => ?_⟩
    cases n with
    | zero => cases e1
    | succ n =>
      obtain ⟨x, w2, e2, e3⟩ := bnd_inv (show bnd mc _ w1 = _ from e1)
      refine ⟨F1, w1, x, w2, R1, e2, fun F2 H2 s2 R2 => ?_⟩
      cases x with
      | false =>
        refine iteF ?_
        have e3 : snx w2 = some (o, w') := by simpa using e3
        cases e3
        exact q F2 H2 σ1 (s1.trans s2) R2
      | true =>
        refine iteT ⟨fun σ3 H3 => ∃ F3 w3, Same F F3 ∧ Rel C F3 σ3 H3 w3 ∧ whl mc mb n w3 = some (o, w'), fun σ3 H3 h => ⟨n, Nat.lt_succ_self n, h⟩, ?_⟩
        have e3 : bnd mb (fun o => match o with
          | .nx => whl mc mb n
          | .ct => whl mc mb n
          | .bk => snx
          | .re o => ret (.re o)) w2 = some (o, w') := by simpa using e3
        obtain ⟨y, w3, e4, e5⟩ := bnd_inv e3
        refine ⟨F2, w2, y, w3, R2, e4, ?_⟩
        cases y with
        | nx => exact fun F3 H3 σ3 s3 R3 => ⟨F3, w3, (s1.trans s2).trans s3, R3, e5⟩
        | ct => exact fun F3 H3 σ3 s3 R3 => ⟨F3, w3, (s1.trans s2).trans s3, R3, e5⟩
        | bk =>
          cases e5
          exact fun F3 H3 σ3 s3 R3 => q F3 H3 σ3 ((s1.trans s2).trans s3) R3
        | re z =>
          cases e5
          exact fun F3 H3 v s3 => q F3 H3 v ((s1.trans s2).trans s3)
end

/-! ### what is walked -/
/-- the iterator J gives the data its, as long as what was frozen in F0 is -/
structure Gen (C : Cn) (F0 : Hp) (J : It) (its : List D) : Prop where
  go : ∀ (i : Nat) F σ H w, i < its.length → Same F0 F → Rel C F σ H w → J.go i H
  stop : ∀ F σ H w, Same F0 F → Rel C F σ H w → J.stop its.length H
  yld : ∀ (i : Nat) F σ H w x H', i < its.length → Same F0 F → Rel C F σ H w → J.yld i H x H' → ∃ F' d, Same F F' ∧ Rel C F' σ H' w ∧ its[i]? = some d ∧ Rp F' d x ∧ ∀ c o, H c = some o → H' c = some o
def tI (C : Cn) (m : M (List D)) : TI := fun σ H R => ∃ F w its w', Rel C F σ H w ∧ m w = some (its, w') ∧ ∀ F' H' J, Same F F' → Rel C F' σ H' w' → (∀ C', C'.bg = C.bg → Gen C' F' J its) → R J H'
def DI (k : Nat) (X : Cx) (tg it : Expr) (m : M (List D)) : Prop := XOk k X → ∀ C, PI X tg it (tI C m)
def fors (g : D → M Unit) (b : M Out) : List D → M Out
  | [] => snx
  | d :: ds => bnd (g d) fun _ => bnd b fun o => match o with
    | .nx => fors g b ds
    | .ct => fors g b ds
    | .bk => snx
    | .re o => ret (.re o)
def sfor (m : M (List D)) (g : D → M Unit) (b : M Out) : M Out := bnd m fun its => fors g b its
section
variable {k : Nat} {X : Cx} {pos : Pos}
theorem _root_.L2.PI.imp {X : Cx} {tg it : Expr} {t t' : TI} (h : PI X tg it t) (i : ∀ σ H Q, t' σ H Q → t σ H Q) : PI X tg it t' := ⟨fun pins s σ H R I q => h.run pins s σ H R I (i σ H R q)⟩
theorem ds_for {tg it : Expr} {body : List Stmt} {m : M (List D)} {ws : List Nat} {g : D → M Unit} {mb : M Out} (hi : DI k X tg it m) (hg : DTg k X tg ws g) (hb : DSs k X body mb) (hs : ∀ x, foldedSetIterable it X.env x = pure x := by intro _; rfl) : DS k X (.For tg it body [] pos) (sfor m g mb) := fun hx C =>
  (ps_for hx.pas hx.calm (hi hx C) (hg hx C) (hb hx C) (hs := hs)).imp fun Dn σ H ⟨F, w, o, w', Re, em, q⟩ => by
    obtain ⟨its, w1, e1, em⟩ := bnd_inv em
    refine ⟨F, w, its, w1, Re, e1, fun F1 H1 J s1 R1 G => ?_⟩
    have G := G C rfl
    refine ⟨fun i n σ2 H2 => ∃ F2 w2, Same F1 F2 ∧ Rel C F2 σ2 H2 w2 ∧ fors g mb (its.drop i) w2 = some (o, w') ∧ i + n = its.length, ⟨its.length, F1, w1, Same.refl F1, R1, em, by omega⟩, fun i n σ2 H2 ⟨F2, w2, s2, R2, e2, en⟩ => ?_⟩
    by_cases hil : i < its.length
    · refine .inr ⟨G.go i F2 σ2 H2 w2 hil s2 R2, fun σ3 H3 => ∃ F3 w3, Same F1 F3 ∧ Rel C F3 σ3 H3 w3 ∧ fors g mb (its.drop (i + 1)) w3 = some (o, w'), fun σ3 H3 ⟨F3, w3, z1, z2, z3⟩ => ⟨n - 1, by omega, F3, w3, z1, z2, z3, by omega⟩, fun x H' y => ?_⟩
      obtain ⟨F3, d, s3, R3, ed, rd, _⟩ := G.yld i F2 σ2 H2 w2 x H' hil s2 R2 y
      have hd : its.drop i = d :: its.drop (i + 1) := by
        rw [List.drop_eq_getElem_cons hil]
        congr 1
        rw [List.getElem?_eq_getElem hil] at ed
        exact Option.some.inj ed
      rw [hd] at e2
      obtain ⟨u, w3, e3, e4⟩ := bnd_inv (show bnd (g d) _ w2 = _ from e2)
      refine ⟨F3, w2, d, w3, R3, rd, e3, fun F4 σ4 H4 s4 R4 _ => ?_⟩
      obtain ⟨y2, w4, e5, e6⟩ := bnd_inv e4
      refine ⟨F4, w3, y2, w4, R4, e5, ?_⟩
      cases y2 with
      | nx => exact fun F5 H5 σ5 s5 R5 => ⟨F5, w4, ((s2.trans s3).trans s4).trans s5, R5, e6⟩
      | ct => exact fun F5 H5 σ5 s5 R5 => ⟨F5, w4, ((s2.trans s3).trans s4).trans s5, R5, e6⟩
      | bk =>
        cases e6
        exact fun F5 H5 σ5 s5 R5 => q F5 H5 σ5 ((((s1.trans s2).trans s3).trans s4).trans s5) R5
      | re z =>
        cases e6
        exact fun F5 H5 v s5 => q F5 H5 v ((((s1.trans s2).trans s3).trans s4).trans s5)
    · have ei : i = its.length := by omega
      subst ei
      rw [List.drop_length] at e2
      cases e2
      exact .inl ⟨G.stop F2 σ2 H2 w' s2 R2, q F2 H2 σ2 (s1.trans s2) R2⟩
end
end TL
set_option Elab.async false
set_option linter.all false
set_option maxRecDepth 100000
/-! TL, part 8: list comprehensions. -/
namespace TL
open PySem L2

/-- the slots vs are forgotten -/
def wipA (vs : List Nat) : Nat → List S → List S
  | _, [] => []
  | i, s :: r => (if vs.contains i = true then .un else s) :: wipA vs (i + 1) r
/-- the slots vs are as they were in r0 -/
def resA (vs : List Nat) : Nat → List S → List S → List S
  | i, s0 :: r0, s :: r => (if vs.contains i = true then s0 else s) :: resA vs (i + 1) r0 r
  | _, _, r => r
/-- none of the slots vs owns anything -/
def okA (vs : List Nat) : Nat → List S → Bool
  | _, [] => true
  | i, s :: r => (if vs.contains i = true then !s.mine else true) && okA vs (i + 1) r
theorem wipA_get (vs : List Nat) : ∀ (n : Nat) (r : List S) (i : Nat), (wipA vs n r)[i]? = (r[i]?).map fun s => if vs.contains (n + i) = true then .un else s
  | n, [], i => by simp [wipA]
  | n, s :: r, 0 => by simp [wipA]
  | n, s :: r, i + 1 => by
    simp only [wipA, List.getElem?_cons_succ]
    rw [wipA_get vs (n + 1) r i, Nat.add_right_comm, Nat.add_assoc]
theorem resA_get (vs : List Nat) : ∀ (n : Nat) (r0 r : List S) (i : Nat), r0.length = r.length → (resA vs n r0 r)[i]? = if vs.contains (n + i) = true then r0[i]? else r[i]?
  | n, [], [], i, _ => by simp [resA]
  | n, [], _ :: _, i, h => by simp at h
  | n, _ :: _, [], i, h => by simp at h
  | n, s0 :: r0, s :: r, 0, _ => by
    simp only [resA, List.getElem?_cons_zero, Nat.add_zero]
    cases vs.contains n <;> rfl
  | n, s0 :: r0, s :: r, i + 1, h => by
    simp only [resA, List.getElem?_cons_succ]
    rw [resA_get vs (n + 1) r0 r i (by simpa using h), Nat.add_right_comm, Nat.add_assoc]
theorem okA_get (vs : List Nat) : ∀ (n : Nat) (r : List S) (i : Nat) (s : S), okA vs n r = true → r[i]? = some s → vs.contains (n + i) = true → s.mine = false
  | n, [], i, _, _, e, _ => by simp at e
  | n, s :: r, 0, t, h, e, c => by
    simp at e
    subst e
    simp only [okA, Bool.and_eq_true, Nat.add_zero] at h c
    rw [if_pos c] at h
    simpa using h.1
  | n, s :: r, i + 1, t, h, e, c => by
    simp only [okA, Bool.and_eq_true] at h
    exact okA_get vs (n + 1) r i t h.2 (by simpa using e) (by rw [Nat.add_right_comm, Nat.add_assoc]; exact c)
theorem wipA_len (vs : List Nat) : ∀ (n : Nat) (r : List S), (wipA vs n r).length = r.length
  | n, [] => rfl
  | n, s :: r => by simp only [wipA, List.length_cons]; rw [wipA_len vs (n + 1) r]
theorem resA_len (vs : List Nat) : ∀ (n : Nat) (r0 r : List S), (resA vs n r0 r).length = r.length
  | n, [], r => by simp [resA]
  | n, s0 :: r0, [] => by simp [resA]
  | n, s0 :: r0, s :: r => by simp only [resA, List.length_cons]; rw [resA_len vs (n + 1) r0 r]
theorem wipe_get (σ : L2.St) : ∀ (vs : List Nat) (i : Nat), (wipe σ vs)[i]? = if vs.contains i = true then (σ[i]?).map fun _ => none else σ[i]?
  | [], i => by simp [wipe]
  | v :: vs, i => by
    unfold wipe
    by_cases h : v = i
    · subst h
      rw [List.getElem?_set, if_pos rfl, wipe_length]
      by_cases hl : v < σ.length
      · simp [hl]
      · simp [hl, List.getElem?_eq_none (Nat.le_of_not_lt hl)]
    · rw [List.getElem?_set_ne h, wipe_get σ vs i]
      have : (v :: vs).contains i = vs.contains i := by simp [Ne.symm h]
      rw [this]
theorem wipe_same {σ σ' : L2.St} {vs : List Nat} (hl : σ'.length = σ.length) (h : ∀ j, vs.contains j = false → σ'[j]? = σ[j]?) : wipe σ' vs = wipe σ vs := by
  apply List.ext_getElem?
  intro i
  rw [wipe_get, wipe_get]
  cases hc : vs.contains i with
  | false => simpa using h i hc
  | true =>
    simp only [if_true]
    by_cases hi : i < σ.length
    · rw [List.getElem?_eq_getElem hi, List.getElem?_eq_getElem (by rw [hl]; exact hi)]
      rfl
    · rw [List.getElem?_eq_none (Nat.le_of_not_lt hi), List.getElem?_eq_none (by rw [hl]; exact Nat.le_of_not_lt hi)]
theorem wipe_wipe {σ : L2.St} {vs : List Nat} : wipe (wipe σ vs) vs = wipe σ vs := wipe_same (wipe_length _ _) fun j hj => by
  rw [wipe_get, hj]
  simp
section
variable {C : Cn} {F F' H H' : Hp} {σ : L2.St} {w w' : W}
theorem Rel.swap (R : Rel C F σ H w) {σ' : L2.St} {r' : List S} (hl : r'.length = σ'.length) (h : ∀ (i : Nat) s, r'[i]? = some s → (s.mine = false ∧ SRel C F H s σ'[i]?) ∨ (w.r[i]? = some s ∧ σ'[i]? = σ[i]?)) : Rel C F σ' H { w with r := r' } := by
  refine ⟨R.base, R.le0, R.le, R.fz, R.nb, R.bag, hl, fun i s e => ?_, fun i j s t a hne e1 e2 m1 m2 e3 => ?_⟩
  · rcases h i s e with ⟨_, q⟩ | ⟨q1, q2⟩
    · exact q
    · rw [q2]
      exact R.slot i s q1
  · rcases h i s e1 with ⟨q, _⟩ | ⟨q1, q2⟩
    · rw [q] at m1
      cases m1
    · rcases h j t e2 with ⟨q, _⟩ | ⟨q3, q4⟩
      · rw [q] at m2
        cases m2
      · rw [q2] at e3
        rw [q4]
        exact R.apart i j s t a hne q1 q3 m1 m2 e3
theorem Rel.wip (R : Rel C F σ H w) (vs : List Nat) : Rel C F (wipe σ vs) H { w with r := wipA vs 0 w.r } := R.swap (by rw [wipA_len, wipe_length]; exact R.len) fun i s e => by
  rw [wipA_get, Nat.zero_add] at e
  cases hr : w.r[i]? with
  | none =>
    rw [hr] at e
    cases e
  | some t =>
    rw [hr] at e
    cases hc : vs.contains i with
    | true =>
      rw [hc] at e
      cases e
      exact .inl ⟨rfl, trivial⟩
    | false =>
      rw [hc] at e
      cases e
      refine .inr ⟨rfl, ?_⟩
      rw [wipe_get, hc]
      rfl
theorem Rel.res (R0 : Rel C F σ H w) {vs : List Nat} (ok : okA vs 0 w.r = true) {F2 H2 : Hp} {w2 : W} (s : Same F F2) (R : Rel C F2 (wipe σ vs) H2 { w2 with r := wipA vs 0 w2.r }) : Rel C F2 σ H2 { w2 with r := resA vs 0 w.r w2.r } := by
  have hl : w2.r.length = σ.length := by
    have := R.len
    rw [wipe_length] at this
    simpa [wipA_len] using this
  have hl2 : w.r.length = w2.r.length := R0.len.trans hl.symm
  refine R.swap (by rw [resA_len]; exact hl) fun i t e => ?_
  rw [resA_get vs 0 _ _ i hl2, Nat.zero_add] at e
  cases hc : vs.contains i with
  | true =>
    rw [hc] at e
    have e : w.r[i]? = some t := e
    have hm := okA_get vs 0 w.r i t ok e (by rw [Nat.zero_add]; exact hc)
    exact .inl ⟨hm, (R0.slot i t e).step s fun m => by rw [hm] at m; cases m⟩
  | false =>
    rw [hc] at e
    have e : w2.r[i]? = some t := e
    refine .inr ⟨?_, ?_⟩
    · show (wipA vs 0 w2.r)[i]? = some t
      rw [wipA_get, Nat.zero_add, e, hc]
      rfl
    · rw [wipe_get, hc]
      rfl
theorem OwnedAt.wip {r : List S} {vs : List Nat} {a : Addr} (h : OwnedAt (wipA vs 0 r) (wipe σ vs) a) : OwnedAt r σ a := by
  obtain ⟨i, s, e, m, e2⟩ := h
  rw [wipA_get, Nat.zero_add] at e
  rw [wipe_get] at e2
  cases hr : r[i]? with
  | none =>
    rw [hr] at e
    cases e
  | some t =>
    rw [hr] at e
    cases hc : vs.contains i with
    | true =>
      rw [hc] at e
      cases e
      cases m
    | false =>
      rw [hc] at e e2
      cases e
      exact ⟨i, _, hr, m, e2⟩
end

/-! ### the comprehension -/
def stk {α : Type} : M α := fun _ => none
def lcm (vs : List Nat) (g : D → M Unit) (t : M Bool) (e : M D) : List D → List D → M (List D)
  | [], acc => ret acc
  | d :: ds, acc => fun w => bnd (g d) (fun _ => bnd t fun c => if c = true then bnd e fun x => if acc.length < sizeLine then lcm vs g t e ds (acc ++ [x]) else stk else lcm vs g t e ds acc) { w with r := wipA vs 0 w.r }
def dlc (vs : List Nat) (mi : M (List D)) (g : D → M Unit) (t : M Bool) (e : M D) : M O := bnd mi fun its => fun w => if okA vs 0 w.r = true then (match lcm vs g t e its [] w with
  | some (acc, w2) => some (.s (.own acc), { w2 with r := resA vs 0 w.r w2.r })
  | none => none) else none
def DTs (k : Nat) (X : Cx) (ifs : List Expr) (m : M Bool) : Prop := XOk k X → ∀ C, PTs X ifs (tT C m)
theorem _root_.L2.PTs.imp {X : Cx} {ifs : List Expr} {t t' : TT} (h : PTs X ifs t) (i : ∀ σ H Q, t' σ H Q → t σ H Q) : PTs X ifs t' := ⟨fun pins s σ H Q I q => h.run pins s σ H Q I (i σ H Q q)⟩
section
variable {k : Nat} {X : Cx} {pos : Pos}
theorem dts_nil : DTs k X [] (ret true) := fun _ C => pts_nil.imp fun σ H Q ⟨F, w, b, w', Re, em, q⟩ => by
  cases em
  exact q F H (Same.refl F) Re
theorem dts_one {c : Expr} {m : M Bool} (h : DT k X c m) : DTs k X [c] m := fun hx C => pts_one (h hx C)
theorem XOk.blk (h : XOk k X) (s : Shared) (H : Hp) (scope : Scope) (ce : Env) (fp : List Addr) : XOk k (X.blk s H scope ce fp) := ⟨h.calm, h.grd, h.room, h.sys, PassesOwn.never⟩
theorem lc_step {C : Cn} {vs ws : List Nat} {mi : M (List D)} {g : D → M Unit} {t : M Bool} {e : M D} (hws : ∀ j, vs.contains j = false → j ∉ ws) {σ : L2.St} {H : Hp} {Q : VK} (h : tM C (dlc vs mi g t e) (RO C) σ H Q) :
    ∃ F w its w1 acc w2, Rel C F σ H w ∧ mi w = some (its, w1) ∧ okA vs 0 w1.r = true ∧ lcm vs g t e its [] w1 = some (acc, w2) ∧ ∀ F' H' v, Same F F' → Rel C F' σ H' { w2 with r := resA vs 0 w1.r w2.r } → RO C F' H' σ { w2 with r := resA vs 0 w1.r w2.r } (.s (.own acc)) v → Q v H' := by
  obtain ⟨F, w, o, w', Re, em, q⟩ := h
  obtain ⟨its, w1, e1, em1⟩ := bnd_inv em
  clear em
  have em : (if okA vs 0 w1.r = true then (match lcm vs g t e its [] w1 with
  | some (acc, w2) => some (O.s (.own acc), { w2 with r := resA vs 0 w1.r w2.r })
  | none => none) else none) = some (o, w') := em1
  clear em1
  by_cases hok : okA vs 0 w1.r = true
  · rw [if_pos hok] at em
    cases e2 : lcm vs g t e its [] w1 with
    | none =>
      rw [e2] at em
      cases em
    | some p =>
      rw [e2] at em
      cases em
      exact ⟨F, w, its, w1, p.1, p.2, Re, e1, hok, e2, q⟩
  · rw [if_neg hok] at em
    cases em
/-- the comprehension over what J gives, from its first turn -/
theorem lc_rest {C : Cn} {vs ws : List Nat} {g : D → M Unit} {t : M Bool} {e : M D} (hw : ∀ j, vs.contains j = false → j ∉ ws) {σ : L2.St} {F1 H1 : Hp} {Q : VK} {J : It} {its accF : List D} {w1 wF : W} (R1 : Rel C F1 σ H1 w1) (G : ∀ C', C'.bg = C.bg → Gen C' F1 J its) (hok : okA vs 0 w1.r = true)
    (e2 : lcm vs g t e its [] w1 = some (accF, wF)) (q : ∀ F' H' v, Same F1 F' → Rel C F' σ H' { wF with r := resA vs 0 w1.r wF.r } → RO C F' H' σ { wF with r := resA vs 0 w1.r wF.r } (.s (.own accF)) v → Q v H') :
    ∀ Dl, H1 Dl = none → ∃ W : Nat → Nat → Hp → Prop, (∃ m, W 0 m (upd H1 Dl (.lst []))) ∧ ∀ i m H, W i m H →
      (J.stop i H ∧ Q (.ref Dl) H) ∨ (J.go i H ∧ ∃ Nx : Hp → Prop, (∀ H', Nx H' → ∃ m', m' < m ∧ W (i + 1) m' H') ∧ ∀ x H', J.yld i H x H' → (∃ Cp, tG Cp ws g x (wipe σ vs) H' fun σ2 H2 => wipe σ2 vs = wipe σ vs ∧ ∃ Cp, tT Cp t σ2 H2 fun b H3 =>
        if b = true then ∃ Cp, tM Cp e (RV Cp) σ2 H3 fun y H4 => ∃ acc, H4 Dl = some (.lst acc) ∧ acc.length < sizeLine ∧ Nx (upd H4 Dl (.lst (acc ++ [y]))) else Nx H3)) := by
  intro Dl hD
  have fr := R1.fresh hD
  refine ⟨fun i n H2 => ∃ F2 w2 acc accV, Same F1 F2 ∧ Rel C F2 (wipe σ vs) H2 { w2 with r := wipA vs 0 w2.r } ∧ H2 Dl = some (.lst accV) ∧ Rps F2 acc accV ∧ Priv C F2 Dl ∧ ¬ OwnedAt (wipA vs 0 w2.r) (wipe σ vs) Dl ∧ lcm vs g t e (its.drop i) acc w2 = some (accF, wF) ∧ i + n = its.length,
    ⟨its.length, F1, w1, [], [], Same.refl F1, (R1.put fr.1 fr.2).wip vs, upd_same, rfl, fr.1, fun z => fr.2 z.wip, e2, by omega⟩, ?_⟩
  rintro i n H2 ⟨F2, w2, acc, accV, s2, R2, hDl, racc, pr, no, el, en⟩
  by_cases hil : i < its.length
  · refine .inr ⟨(G C rfl).go i F2 _ H2 _ hil s2 R2, fun H3 => ∃ F2 w2 acc accV, Same F1 F2 ∧ Rel C F2 (wipe σ vs) H3 { w2 with r := wipA vs 0 w2.r } ∧ H3 Dl = some (.lst accV) ∧ Rps F2 acc accV ∧ Priv C F2 Dl ∧ ¬ OwnedAt (wipA vs 0 w2.r) (wipe σ vs) Dl ∧ lcm vs g t e (its.drop (i + 1)) acc w2 = some (accF, wF),
      fun H3 ⟨F3, w3, acc3, av3, z1, z2, z3, z4, z5, z6, z7⟩ => ⟨n - 1, by omega, F3, w3, acc3, av3, z1, z2, z3, z4, z5, z6, z7, by omega⟩, fun x H' y => ?_⟩
    have h0 : C.F0 Dl = none := R2.le0.free pr.1
    have Rp2 := R2.pin hDl pr no
    obtain ⟨F3, d, s3, R3, ed, rd, _⟩ := (G (C.pin Dl (.lst accV)) rfl).yld i F2 _ H2 _ x H' hil s2 Rp2 y
    have hd : its.drop i = d :: its.drop (i + 1) := by
      rw [List.drop_eq_getElem_cons hil]
      congr 1
      rw [List.getElem?_eq_getElem hil] at ed
      exact Option.some.inj ed
    rw [hd] at el
    obtain ⟨u, w3, e3, e4⟩ := bnd_inv (show bnd (g d) (fun _ => bnd t fun c => if c = true then bnd e fun x => if acc.length < sizeLine then lcm vs g t e (its.drop (i + 1)) (acc ++ [x]) else stk else lcm vs g t e (its.drop (i + 1)) acc) { w2 with r := wipA vs 0 w2.r } = some (accF, wF) from el)
    obtain ⟨c, w4, e5, e6⟩ := bnd_inv e4
    refine ⟨C.pin Dl (.lst accV), F3, _, d, w3, R3, rd, e3, fun F4 σ4 H4 s4 R4 k4 => ?_⟩
    have hσ : wipe σ4 vs = wipe σ vs := by
      rw [← wipe_wipe (σ := σ)]
      exact wipe_same k4.1 fun j hj => k4.2 j (hw j hj)
    refine ⟨hσ, C.pin Dl (.lst accV), F4, w3, c, w4, R4, e5, fun F5 H5 s5 R5 => ?_⟩
    cases c with
    | true =>
      refine iteT ?_
      have e6 : bnd e (fun x => if acc.length < sizeLine then lcm vs g t e (its.drop (i + 1)) (acc ++ [x]) else stk) w4 = some (accF, wF) := by simpa using e6
      obtain ⟨dx, w5, e7, e8⟩ := bnd_inv e6
      refine ⟨C.pin Dl (.lst accV), F5, w4, dx, w5, R5, e7, fun F6 H6 v6 s6 R6 r6 => ?_⟩
      have h0' : C.F0 Dl = none := h0
      obtain ⟨R7, g1, g2, g3⟩ := R6.unpin pr h0 fun _ z => nomatch z
      by_cases hz : acc.length < sizeLine
      · rw [if_pos hz] at e8
        have s26 : Same F2 F6 := ((s3.trans s4).trans s5).trans s6
        have R8 := R7.wip vs
        rw [hσ] at R8
        have no2 : ¬ OwnedAt (wipA vs 0 w5.r) (wipe σ vs) Dl := fun z => g3 (by rw [← hσ] at z; exact z.wip)
        exact ⟨accV, g1, by rw [racc.length]; exact hz, F6, w5, acc ++ [dx], _, s2.trans s26, R8.put g2 no2, upd_same, (racc.mono s26).append (.one r6), g2, no2, e8⟩
      · rw [if_neg hz] at e8
        cases e8
    | false =>
      refine iteF ?_
      have e6 : lcm vs g t e (its.drop (i + 1)) acc w4 = some (accF, wF) := by simpa using e6
      obtain ⟨R7, g1, g2, g3⟩ := R5.unpin pr h0 fun _ z => nomatch z
      have s25 : Same F2 F5 := (s3.trans s4).trans s5
      have R8 := R7.wip vs
      rw [hσ] at R8
      exact ⟨F5, w4, acc, accV, s2.trans s25, R8, g1, racc.mono s25, g2, fun z => g3 (by rw [← hσ] at z; exact z.wip), e6⟩
  · have ei : i = its.length := by omega
    subst ei
    rw [List.drop_length] at el
    cases el
    refine .inl ⟨(G C rfl).stop F2 _ H2 _ s2 R2, q F2 H2 _ s2 (R1.res hok s2 R2) ⟨Dl, _, rfl, hDl, ⟨accV, rfl, racc⟩, pr, fun ⟨j, s, e3, m, e4⟩ => ?_⟩⟩
    have hl : w1.r.length = wF.r.length := by
      have l1 := R1.len
      have l2 := R2.len
      rw [wipe_length] at l2
      have l3 : (wipA vs 0 wF.r).length = σ.length := l2
      rw [wipA_len] at l3
      omega
    have e3 : (resA vs 0 w1.r wF.r)[j]? = some s := e3
    rw [resA_get vs 0 _ _ j hl, Nat.zero_add] at e3
    cases hc : vs.contains j with
    | true =>
      rw [hc] at e3
      have := okA_get vs 0 w1.r j s hok e3 (by rw [Nat.zero_add]; exact hc)
      rw [m] at this
      cases this
    | false =>
      rw [hc] at e3
      have e3 : wF.r[j]? = some s := e3
      refine no ⟨j, s, ?_, m, ?_⟩
      · rw [wipA_get, Nat.zero_add, e3, hc]
        rfl
      · rw [wipe_get, hc]
        exact e4
theorem tLc_of {C : Cn} {vs ws : List Nat} {mi : M (List D)} {g : D → M Unit} {t : M Bool} {e : M D} (hw : ∀ j, vs.contains j = false → j ∉ ws) {σ : L2.St} {H : Hp} {Q : VK} (h : tM C (dlc vs mi g t e) (RO C) σ H Q) :
    tLc (tI C mi) (fun v σ H Q => ∃ Cp, tG Cp ws g v σ H Q) (fun σ H Q => ∃ Cp, tT Cp t σ H Q) (fun σ H Q => ∃ Cp, tM Cp e (RV Cp) σ H Q) vs σ H Q := by
  obtain ⟨F, w, its, w1, accF, wF, Re, e1, hok, e2, q⟩ := lc_step hw h
  exact ⟨F, w, its, w1, Re, e1, fun F1 H1 J s1 R1 G => lc_rest hw R1 G hok e2 fun F' H' v s R r => q F' H' v (s1.trans s) R r⟩
theorem ws_ok {own : List (Str × Nat)} {ws : List Nat} (h : ws.all (fun j => (own.map (·.2)).contains j) = true) : ∀ j, (own.map (·.2)).contains j = false → j ∉ ws := fun j hj hm => by
  have := List.all_eq_true.mp h j hm
  rw [hj] at this
  cases this
theorem do_lc {elt tg iter : Expr} {ifs : List Expr} {scope : Scope} {own : List (Str × Nat)} {ws : List Nat} {mi : M (List D)} {g : D → M Unit} {t : M Bool} {e : M D} (hN : X.N.Nodup) (hi : DI k X tg iter mi) (ok : BlkOk X.N X.env.scope scope own)
    (hg : ∀ (s : Shared) (H : Hp) (a : Addr) (cl : List (Str × Addr)) (fp : List Addr), DTg k (X.blk s H scope (compEnvC scope cl a X.env) fp) tg ws g) (ht : ∀ (s : Shared) (H : Hp) (a : Addr) (cl : List (Str × Addr)) (fp : List Addr), DTs k (X.blk s H scope (compEnvC scope cl a X.env) fp) ifs t)
    (he : ∀ (s : Shared) (H : Hp) (a : Addr) (cl : List (Str × Addr)) (fp : List Addr), DV k (X.blk s H scope (compEnvC scope cl a X.env) fp) elt e) (hws : ws.all (fun j => (own.map (·.2)).contains j) = true := by rfl)
    (hs : ∀ x, foldedSetIterable iter X.env x = pure x := by intro _; rfl) : DO k X (.ListComp elt [⟨tg, iter, ifs, 0⟩] scope pos) (dlc (own.map (·.2)) mi g t e) := fun hx C =>
  (pe_lc (wi := tI C mi) (g := fun v σ H Q => ∃ Cp, tG Cp ws g v σ H Q) (tt := fun σ H Q => ∃ Cp, tT Cp t σ H Q) (te := fun σ H Q => ∃ Cp, tM Cp e (RV Cp) σ H Q) hx.calm hN (hi hx C) ok
    (fun s H a cl fp => ⟨fun pins s' σ H' v u Q I r ⟨Cp, z⟩ => (hg s H a cl fp (hx.blk ..) Cp).run pins s' σ H' v u Q I r z⟩) (fun s H a cl fp => ⟨fun pins s' σ H' Q I ⟨Cp, z⟩ => (ht s H a cl fp (hx.blk ..) Cp).run pins s' σ H' Q I z⟩)
    (fun s H a cl fp => ⟨fun pins s' σ H' Q I ⟨Cp, z⟩ => (he s H a cl fp (hx.blk ..) Cp).run pins s' σ H' Q I z⟩) hs).imp fun σ H Q h => tLc_of (ws_ok hws) h
/-- y = [..], y a local name, on one line -/
theorem ds_setLc {i : Nat} {y : Str} {py spos : Pos} {elt tg iter : Expr} {ifs : List Expr} {scope : Scope} {own : List (Str × Nat)} {ws : List Nat} {mi : M (List D)} {g : D → M Unit} {t : M Bool} {e : M D} (hN : X.N.Nodup) (hy : X.N[i]? = some y) (hyl : X.env.scope.names.lookup y = some .local)
    (hsw : swapsWith (.ListComp elt [⟨tg, iter, ifs, 0⟩] scope pos) (some (.Name y py)) spos.line X.env = pure true) (hi : DI k X tg iter mi) (ok : BlkOk X.N X.env.scope scope own)
    (hg : ∀ (s : Shared) (H : Hp) (a : Addr) (cl : List (Str × Addr)) (fp : List Addr), DTg k (X.blk s H scope (compEnvC scope cl a X.env) fp) tg ws g) (ht : ∀ (s : Shared) (H : Hp) (a : Addr) (cl : List (Str × Addr)) (fp : List Addr), DTs k (X.blk s H scope (compEnvC scope cl a X.env) fp) ifs t)
    (he : ∀ (s : Shared) (H : Hp) (a : Addr) (cl : List (Str × Addr)) (fp : List Addr), DV k (X.blk s H scope (compEnvC scope cl a X.env) fp) elt e) (hws : ws.all (fun j => (own.map (·.2)).contains j) = true := by rfl)
    (hs : ∀ x, foldedSetIterable iter X.env x = pure x := by intro _; rfl) : DS k X (.Assign [.Name y py] (.ListComp elt [⟨tg, iter, ifs, 0⟩] scope pos) spos) (sset i (dlc (own.map (·.2)) mi g t e)) := fun hx C =>
  (ps_setLc (wi := tI C mi) (g := fun v σ H Q => ∃ Cp, tG Cp ws g v σ H Q) (tt := fun σ H Q => ∃ Cp, tT Cp t σ H Q) (te := fun σ H Q => ∃ Cp, tM Cp e (RV Cp) σ H Q) hx.calm hN hy hyl hsw (hi hx C) ok
    (fun s H a cl fp => ⟨fun pins s' σ H' v u Q I r ⟨Cp, z⟩ => (hg s H a cl fp (hx.blk ..) Cp).run pins s' σ H' v u Q I r z⟩) (fun s H a cl fp => ⟨fun pins s' σ H' Q I ⟨Cp, z⟩ => (ht s H a cl fp (hx.blk ..) Cp).run pins s' σ H' Q I z⟩)
    (fun s H a cl fp => ⟨fun pins s' σ H' Q I ⟨Cp, z⟩ => (he s H a cl fp (hx.blk ..) Cp).run pins s' σ H' Q I z⟩) hs).imp fun Dn σ H h => tLc_of (ws_ok hws) (set_step h)
end
end TL
set_option Elab.async false
set_option linter.all false
set_option maxRecDepth 100000
/-! TL, part 9: what is walked. -/
namespace TL
open PySem L2

def itemsD : D → Option (List D)
  | .list xs => some xs
  | .tuple xs => some xs
  | .str z => some (z.cps.toList.map fun c => .str ⟨#[c]⟩)
  | _ => none
def rngD (lo : Int) (n : Nat) : List D := (List.range n).map fun (i : Nat) => .int (lo + (i : Int))
def rngC (lo c : Int) (n : Nat) : List D := (List.range n).map fun (i : Nat) => .int (lo + (i : Int) * c)
def enumD : Nat → List D → List D
  | _, [] => []
  | i, d :: ds => .tuple [.int i, d] :: enumD (i + 1) ds
def zipD : List D → List D → List D
  | a :: as, b :: bs => .tuple [a, b] :: zipD as bs
  | _, _ => []
theorem enumD_len : ∀ (n : Nat) (ds : List D), (enumD n ds).length = ds.length
  | _, [] => rfl
  | n, d :: ds => by rw [enumD, List.length_cons, enumD_len, List.length_cons]
theorem enumD_get : ∀ (n : Nat) (ds : List D) (i : Nat) (d : D), ds[i]? = some d → (enumD n ds)[i]? = some (.tuple [.int ((n + i : Nat) : Int), d])
  | _, [], _, _, h => by simp at h
  | n, x :: ds, 0, d, h => by
    simp at h
    subst h
    rfl
  | n, x :: ds, i + 1, d, h => by
    have := enumD_get (n + 1) ds i d (by simpa using h)
    rw [enumD, List.getElem?_cons_succ, this]
    congr 5
    omega
theorem zipD_len : ∀ (as bs : List D), (zipD as bs).length = min as.length bs.length
  | [], _ => by simp [zipD]
  | _ :: _, [] => by simp [zipD]
  | a :: as, b :: bs => by
    rw [zipD, List.length_cons, zipD_len, List.length_cons, List.length_cons]
    omega
theorem zipD_get : ∀ (as bs : List D) (i : Nat) (a b : D), as[i]? = some a → bs[i]? = some b → (zipD as bs)[i]? = some (.tuple [a, b])
  | [], _, _, _, _, h, _ => by simp at h
  | _ :: _, [], _, _, _, _, h => by simp at h
  | x :: as, y :: bs, 0, a, b, h, h' => by
    simp at h h'
    subst h h'
    rfl
  | x :: as, y :: bs, i + 1, a, b, h, h' => by
    rw [zipD, List.getElem?_cons_succ]
    exact zipD_get as bs i a b (by simpa using h) (by simpa using h')
section
variable {C : Cn} {F0 : Hp} {K : PySem.W.Frag} {a b : Addr} {vs us : List V} {ds es : List D}
theorem gen_l (h : F0 a = some (.lst vs)) (r : Rps F0 ds vs) : Gen C F0 (Itl K a) ds where
  go := fun i F σ H w hi s R => ⟨vs, vs[i]'(by rw [r.length]; exact hi), .of (R.le _ _ (s _ _ h)), by simp⟩
  stop := fun F σ H w s R => ⟨vs, .of (R.le _ _ (s _ _ h)), by rw [r.length]; exact Nat.le_refl _⟩
  yld := fun i F σ H w x H' hi s R ⟨e, q⟩ => by
    subst e
    have q := q vs (.of (R.le _ _ (s _ _ h)))
    obtain ⟨v, e1, e2⟩ := r.get (List.getElem?_eq_getElem hi)
    rw [q] at e1
    cases e1
    exact ⟨F, _, Same.refl F, R, List.getElem?_eq_getElem hi, e2.mono s, fun _ _ z => z⟩
theorem gen_t (h : F0 a = some (.tup vs)) (r : Rps F0 ds vs) : Gen C F0 (Itt K a) ds where
  go := fun i F σ H w hi s R => ⟨vs, vs[i]'(by rw [r.length]; exact hi), .of (R.le _ _ (s _ _ h)), by simp⟩
  stop := fun F σ H w s R => ⟨vs, .of (R.le _ _ (s _ _ h)), by rw [r.length]; exact Nat.le_refl _⟩
  yld := fun i F σ H w x H' hi s R ⟨e, q⟩ => by
    subst e
    have q := q vs (.of (R.le _ _ (s _ _ h)))
    obtain ⟨v, e1, e2⟩ := r.get (List.getElem?_eq_getElem hi)
    rw [q] at e1
    cases e1
    exact ⟨F, _, Same.refl F, R, List.getElem?_eq_getElem hi, e2.mono s, fun _ _ z => z⟩
theorem rev_get {α : Type} {xs : List α} {i : Nat} (hi : i < xs.length) : xs.reverse[i]? = xs[xs.length - 1 - i]? := List.getElem?_reverse hi
theorem gen_rl (h : F0 a = some (.lst vs)) (r : Rps F0 ds vs) : Gen C F0 (Itv K a vs.length) ds.reverse where
  go := fun i F σ H w hi s R => by
    rw [List.length_reverse] at hi
    have hl := r.length
    exact ⟨by omega, vs, vs[vs.length - 1 - i]'(by omega), .of (R.le _ _ (s _ _ h)), by simp⟩
  stop := fun F σ H w s R => by rw [List.length_reverse]; exact Nat.le_of_eq r.length
  yld := fun i F σ H w x H' hi s R ⟨e, q⟩ => by
    subst e
    rw [List.length_reverse] at hi
    have hl := r.length
    have q := q vs (.of (R.le _ _ (s _ _ h)))
    have hj : ds.length - 1 - i < ds.length := by omega
    obtain ⟨v, e1, e2⟩ := r.get (List.getElem?_eq_getElem hj)
    rw [hl] at q
    rw [q] at e1
    cases e1
    exact ⟨F, _, Same.refl F, R, by rw [rev_get hi]; exact List.getElem?_eq_getElem hj, e2.mono s, fun _ _ z => z⟩
theorem gen_rt (h : F0 a = some (.tup vs)) (r : Rps F0 ds vs) : Gen C F0 (RT.ItvT K a vs.length) ds.reverse where
  go := fun i F σ H w hi s R => by
    rw [List.length_reverse] at hi
    have hl := r.length
    exact ⟨by omega, vs, vs[vs.length - 1 - i]'(by omega), .of (R.le _ _ (s _ _ h)), by simp⟩
  stop := fun F σ H w s R => by rw [List.length_reverse]; exact Nat.le_of_eq r.length
  yld := fun i F σ H w x H' hi s R ⟨e, q⟩ => by
    subst e
    rw [List.length_reverse] at hi
    have hl := r.length
    have q := q vs (.of (R.le _ _ (s _ _ h)))
    have hj : ds.length - 1 - i < ds.length := by omega
    obtain ⟨v, e1, e2⟩ := r.get (List.getElem?_eq_getElem hj)
    rw [hl] at q
    rw [q] at e1
    cases e1
    exact ⟨F, _, Same.refl F, R, by rw [rev_get hi]; exact List.getElem?_eq_getElem hj, e2.mono s, fun _ _ z => z⟩
theorem gen_rng {lo : Int} {n : Nat} : Gen C F0 (Itr lo n) (rngD lo n) where
  go := fun i F σ H w hi s R => by show i < n; simpa [rngD] using hi
  stop := fun F σ H w s R => by show n ≤ (rngD lo n).length; simp [rngD]
  yld := fun i F σ H w x H' hi s R ⟨e, q⟩ => by
    subst e
    subst q
    have hi : i < n := by simpa [rngD] using hi
    exact ⟨F, .int (lo + (i : Int)), Same.refl F, R, by simp [rngD, hi], rfl, fun _ _ z => z⟩
theorem gen_rngC {lo c : Int} {n : Nat} : Gen C F0 (Itc lo c n) (rngC lo c n) where
  go := fun i F σ H w hi s R => by show i < n; simpa [rngC] using hi
  stop := fun F σ H w s R => by show n ≤ (rngC lo c n).length; simp [rngC]
  yld := fun i F σ H w x H' hi s R ⟨e, q⟩ => by
    subst e
    subst q
    have hi : i < n := by simpa [rngC] using hi
    exact ⟨F, .int (lo + (i : Int) * c), Same.refl F, R, by simp [rngC, hi], rfl, fun _ _ z => z⟩
theorem gen_str {z : Str} : Gen C F0 (Its z) (z.cps.toList.map fun c => .str ⟨#[c]⟩) where
  go := fun i F σ H w hi s R => by show i < z.cps.size; simpa using hi
  stop := fun F σ H w s R => by show z.cps.size ≤ _; simp
  yld := fun i F σ H w x H' hi s R ⟨e, c, q1, q2⟩ => by
    subst e
    subst q2
    exact ⟨F, .str ⟨#[c]⟩, Same.refl F, R, by simp [q1], rfl, fun _ _ z => z⟩
theorem pair_lay {F H : Hp} {σ : L2.St} {w : W} {T : Addr} {x y : V} {d e : D} (R : Rel C F σ H w) (h : H T = none) (r1 : Rp F d x) (r2 : Rp F e y) :
    ∃ F', Same F F' ∧ Rel C F' σ (upd H T (.tup [x, y])) w ∧ Rp F' (.tuple [d, e]) (V.ref T) ∧ ∀ c o, H c = some o → upd H T (.tup [x, y]) c = some o := by
  obtain ⟨R2, s2⟩ := R.lay (o := .tup [x, y]) h
  refine ⟨_, s2, R2, ⟨T, [x, y], rfl, upd_same, x, [y], rfl, r1.mono s2, y, [], rfl, r2.mono s2, rfl⟩, fun c o e => ?_⟩
  rw [upd_ne (ne_of_none e h)]
  exact e
theorem gen_el (h : F0 a = some (.lst vs)) (r : Rps F0 ds vs) : Gen C F0 (Ite K a) (enumD 0 ds) where
  go := fun i F σ H w hi s R => by
    rw [enumD_len] at hi
    exact ⟨vs, vs[i]'(by rw [r.length]; exact hi), .of (R.le _ _ (s _ _ h)), by simp⟩
  stop := fun F σ H w s R => ⟨vs, .of (R.le _ _ (s _ _ h)), by rw [r.length, enumD_len]; exact Nat.le_refl _⟩
  yld := fun i F σ H w x H' hi s R ⟨T, y, e1, e2, e3, q⟩ => by
    subst e1 e3
    rw [enumD_len] at hi
    have q := q vs (.of (R.le _ _ (s _ _ h)))
    obtain ⟨v, e4, e5⟩ := r.get (List.getElem?_eq_getElem hi)
    rw [q] at e4
    cases e4
    obtain ⟨F', s2, R2, r2, k2⟩ := pair_lay R e2 (x := .int (i : Nat)) (d := .int (i : Int)) rfl (e5.mono s)
    refine ⟨F', _, s2, R2, ?_, r2, k2⟩
    rw [enumD_get 0 ds i _ (List.getElem?_eq_getElem hi), Nat.zero_add]
theorem gen_zl (h : F0 a = some (.lst vs)) (r : Rps F0 ds vs) (h' : F0 b = some (.lst us)) (r' : Rps F0 es us) : Gen C F0 (Itz K a b) (zipD ds es) where
  go := fun i F σ H w hi s R => by
    rw [zipD_len] at hi
    exact ⟨vs, us, vs[i]'(by rw [r.length]; omega), us[i]'(by rw [r'.length]; omega), .of (R.le _ _ (s _ _ h)), .of (R.le _ _ (s _ _ h')), by simp, by simp⟩
  stop := fun F σ H w s R => ⟨vs, us, .of (R.le _ _ (s _ _ h)), .of (R.le _ _ (s _ _ h')), by rw [r.length, r'.length, zipD_len]; omega⟩
  yld := fun i F σ H w x H' hi s R ⟨T, y, z, e1, e2, e3, q, q'⟩ => by
    subst e1 e3
    rw [zipD_len] at hi
    have q := q vs (.of (R.le _ _ (s _ _ h)))
    have q' := q' us (.of (R.le _ _ (s _ _ h')))
    have h1 : i < ds.length := by omega
    have h2 : i < es.length := by omega
    obtain ⟨v, e4, e5⟩ := r.get (List.getElem?_eq_getElem h1)
    obtain ⟨u, e6, e7⟩ := r'.get (List.getElem?_eq_getElem h2)
    rw [q] at e4
    rw [q'] at e6
    cases e4
    cases e6
    obtain ⟨F', s2, R2, r2, k2⟩ := pair_lay R e2 (e5.mono s) (e7.mono s)
    exact ⟨F', _, s2, R2, zipD_get ds es i _ _ (List.getElem?_eq_getElem h1) (List.getElem?_eq_getElem h2), r2, k2⟩
theorem gen_zt (h : F0 a = some (.tup vs)) (r : Rps F0 ds vs) (h' : F0 b = some (.tup us)) (r' : Rps F0 es us) : Gen C F0 (RZ.ItzT K a b) (zipD ds es) where
  go := fun i F σ H w hi s R => by
    rw [zipD_len] at hi
    exact ⟨vs, us, vs[i]'(by rw [r.length]; omega), us[i]'(by rw [r'.length]; omega), .of (R.le _ _ (s _ _ h)), .of (R.le _ _ (s _ _ h')), by simp, by simp⟩
  stop := fun F σ H w s R => ⟨vs, us, .of (R.le _ _ (s _ _ h)), .of (R.le _ _ (s _ _ h')), by rw [r.length, r'.length, zipD_len]; omega⟩
  yld := fun i F σ H w x H' hi s R ⟨T, y, z, e1, e2, e3, q, q'⟩ => by
    subst e1 e3
    rw [zipD_len] at hi
    have q := q vs (.of (R.le _ _ (s _ _ h)))
    have q' := q' us (.of (R.le _ _ (s _ _ h')))
    have h1 : i < ds.length := by omega
    have h2 : i < es.length := by omega
    obtain ⟨v, e4, e5⟩ := r.get (List.getElem?_eq_getElem h1)
    obtain ⟨u, e6, e7⟩ := r'.get (List.getElem?_eq_getElem h2)
    rw [q] at e4
    rw [q'] at e6
    cases e4
    cases e6
    obtain ⟨F', s2, R2, r2, k2⟩ := pair_lay R e2 (e5.mono s) (e7.mono s)
    exact ⟨F', _, s2, R2, zipD_get ds es i _ _ (List.getElem?_eq_getElem h1) (List.getElem?_eq_getElem h2), r2, k2⟩
end
end TL
set_option Elab.async false
set_option linter.all false
set_option maxRecDepth 100000
set_option maxHeartbeats 1000000
/-! TL, part 10: enumerate(a tuple); what a for or a comprehension walks, by expressions. -/
namespace PySem
theorem tl_enum_new {v : Value} {o : Obj} {H : Heap → Prop} (B : Begins v o H) :
    Meets (Builtin.«enumerate.__new__» ⟨[.type "enumerate", v], []⟩) (fun _ R s => H s.heap ∧
      R (.ok (.ret (.ref (s.heap.push o).objs.size))) { s with heap := (s.heap.push o).push { cls := .type "enumerate", data := .fields #[.none, .bool false, .ref s.heap.objs.size, rawInt 0, .none, .none] } }) :=
  .of_wp fun prog w A R s z => by
    obtain ⟨hp, gs, dr, tk, os⟩ := s
    obtain ⟨z1, z2⟩ := z
    have hsub := sub_enumerate
    have it : ∀ {A' : Around} {E : Value → Shared → Prop} {Q : Value → Shared → Prop}, Q (.ref hp.objs.size) ⟨hp.push o, gs, dr, tk, os⟩ → wpAny (model prog w) A' (pyIter v) Q E ⟨hp, gs, dr, tk, os⟩ := fun q => B.iter prog w _ _ _ _ z1 q
    wp_walk using it
    refine wpAny_stack_any fun st => wpAny_pure ?_
    split
    · rename_i c _ _ _ _ _
      cases (c == Value.type "enumerate") <;> (wp_walk using it; exact ⟨_, rfl, z2⟩)
    · wp_walk using it
      exact ⟨_, rfl, z2⟩
section
variable {prog : Program} {w : World} {A : Around} {E : Value → Shared → Prop} {s : Shared}
theorem tl_enum {v : Value} {o : Obj} {H : Heap → Prop} {Q : Value → Shared → Prop} (B : Begins v o H) (h1 : H s.heap)
    (h : ∀ h', IsEnum h' (s.heap.objs.size + 1) s.heap.objs.size 0 .none → h'.get? s.heap.objs.size = some o → (∀ b u, s.heap.get? b = some u → h'.get? b = some u) → Q (.ref (s.heap.objs.size + 1)) { s with heap := h' }) :
    wpAny (model prog w) A (call (.type "enumerate") [v]) Q E s := by
  refine callType_new F.called_enumerate (by decide) (F.typeCall_enumerate_1 _) (F.newCall_enumerate_1 _) (fun obj => F.args_object_init_2 obj _) F.entry_enumerate_new (tl_enum_new B) ⟨h1, ?_⟩
  have e1 : (s.heap.push o).objs.size = s.heap.objs.size + 1 := Heap.size_push ..
  have e2 : IsEnum ((s.heap.push o).push { cls := .type "enumerate", data := .fields #[.none, .bool false, .ref s.heap.objs.size, rawInt 0, .none, .none] }) (s.heap.objs.size + 1) s.heap.objs.size 0 .none := by
    have z := Heap.get?_push_size (s.heap.push o) (o := { cls := .type "enumerate", data := .fields #[.none, .bool false, .ref s.heap.objs.size, rawInt 0, .none, .none] }) rfl
    rw [e1] at z
    exact z
  show _ ∧ _
  rw [e1]
  exact ⟨⟨_, e2, rfl⟩, h _ e2 (Heap.get?_push_of_some _ (Heap.get?_push_size _ B.free)) fun b u x => Heap.get?_push_of_some _ (Heap.get?_push_of_some _ x)⟩
end
end PySem
namespace TL
open PySem L2
/-- enumerate of the tuple at a -/
def IteT (K : PySem.W.Frag) (a : Addr) : It :=
  ⟨fun i H => ∃ (xs : List V) (x : V), SqT K H a xs ∧ xs[i]? = some x, fun i H v H' => ∃ T x, v = V.ref T ∧ H T = none ∧ H' = upd H T (.tup [.int (i : Nat), x]) ∧ ∀ xs, SqT K H a xs → xs[i]? = some x, fun i H => ∃ xs : List V, SqT K H a xs ∧ xs.length ≤ i⟩
theorem turn_enumT {P : Program} {w : World} {K : PySem.W.Frag} {elts : List Expr} {kk : Nat} {tpos : Pos} (a e it : Addr) (hne : e ≠ it) (hae : a ≠ it) (hae2 : a ≠ e) :
    Turn P w K (.Tuple elts kk tpos) (IteT K a) [e, it] e (fun i h => (∃ old, IsEnum h e it ((i : Nat) : Int) old) ∧ h.IsTupleIter it a i) where
  mem := by simp
  obj := fun i h st b hb => by
    obtain ⟨⟨old, he⟩, ⟨o, ho, hc, hd⟩⟩ := st
    rcases List.mem_cons.mp hb with z | hb
    · rw [z]
      exact ⟨_, he, fun v q => nomatch q⟩
    · rw [List.mem_singleton.mp hb]
      exact ⟨o, ho, fun v q => by rw [hd] at q; cases q⟩
  keep := fun i h h' st k => let ⟨⟨old, he⟩, hi⟩ := st; ⟨⟨old, k e (by simp) _ he⟩, hi.at fun o q => k it (by simp) o q⟩
  item := by
    intro X hP hw hK hc i pins s σ H E I hf st hg
    subst hP hw hK
    obtain ⟨⟨old, he⟩, hit⟩ := st
    obtain ⟨xs, x, hq, hx⟩ := hg
    obtain ⟨its, rv, p, hz⟩ := I.tuple hq
    obtain ⟨u, hu, ru⟩ := rv.get hx
    have hel : e < s.heap.objs.size := Heap.lt_size he
    have hil : it < s.heap.objs.size := let ⟨_, q, _⟩ := hit; Heap.lt_size q
    have hi : i < its.toArray.size := by
      rw [List.size_toArray]
      exact (List.getElem?_eq_some_iff.mp hu).1
    refine wpAny_pyNext_enum_itemD (Draws.tuple (A := X.A.in1) (I.ok.hd hc) it a hae its.toArray) he ⟨hit, p⟩ hi hne (by simp [hne, Ne.symm hae2]) fun y h' tk hy ho hst hT hsz hk => ?_
    have ey : y = u := by
      have : its.toArray[i]? = some u := by simpa using hu
      rw [this] at hy
      exact (Option.some.inj hy).symm
    subst ey
    refine ⟨_, rfl, wpAny_letOwnedTupleGo_enum (s := { s with heap := h', toks := tk + 1 }) ho fun h'' he' sb => ?_⟩
    have hT2 : h''.get? s.heap.objs.size = some { cls := .type "tuple", data := .seq #[.int i tk, y] } := (sb.2 _ (Nat.ne_of_gt hel)).trans hT
    have new : ObjOk X.prog X.w (upd H s.heap.objs.size (.tup [.int (i : Nat), x])) h'' s.heap.objs.size (.tup [.int (i : Nat), x]) :=
      ⟨by show 2 ≤ sizeLine; decide, [.int i tk, y], .cons ⟨_, rfl⟩ (.cons ru .nil), ⟨_, hT2, rfl, _, rfl⟩⟩
    have I1 : Inv X pins σ (upd H s.heap.objs.size (.tup [.int (i : Nat), x])) { s with heap := h'', toks := tk + 1 } :=
      I.turnedNew (ch := [e, it]) (fun b ob hb q => (sb.2 b (fun z => hb (by simp [z]))).trans (hk b ob (fun z => hb (by simp [z])) (fun z => hb (by simp [z])) q)) hf (Nat.le_refl _) new
    have e1 : ((i + 1 : Nat) : Int) = (i : Int) + 1 := by omega
    refine ⟨.ref s.heap.objs.size, _, I1, rfl, ⟨_, x, rfl, I.hok.fresh (Nat.le_refl _), rfl, fun ys hy => by rw [I.tuple_inj hy hq]; exact hx⟩, ⟨⟨y, by rw [e1]; exact he'⟩, hst.1.at fun o q => (sb.2 it (Ne.symm hne)).trans q⟩, fun b hb => ?_⟩
    have hb' : b < s.heap.objs.size := by
      rcases List.mem_cons.mp hb with z | z
      · rw [z]
        exact hel
      · rw [List.mem_singleton.mp z]
        exact hil
    rw [upd_ne (Nat.ne_of_lt hb')]
    exact (hf b hb).1
  done := by
    intro X hP hw hK hc i pins s σ H E I hf st hg
    subst hP hw hK
    obtain ⟨⟨old, he⟩, hit⟩ := st
    obtain ⟨xs, hq, hx⟩ := hg
    obtain ⟨its, rv, p, hz⟩ := I.tuple hq
    obtain ⟨f0, f1, f2, f3, f4, f5⟩ := hf it (by simp)
    have hl := rv.length
    refine wpAny_pyNext_enum_endD (n := i) (P := fun _ _ => False) (St := fun j h => j = i ∧ h.IsTupleIter it a i ∧ h.IsTuple a its.toArray) (fp := [it, a]) ⟨fun j h st => let ⟨o, ho, _⟩ := st.2.1; ⟨o, ho⟩, fun j h h' st k => ⟨st.1, st.2.1.at fun o q => k it (by simp) o q, st.2.2.at fun o q => k a (by simp) o q⟩,
      fun j s Q E hj st => absurd st.1 (by omega), fun s' Q E st k => wpAny_nextOf_tuple_end (A := X.A.in1) (I.ok.hd hc) st.2.1 st.2.2 (by simp; omega) k⟩ he ⟨rfl, hit, p⟩ fun h' eb => ?_
    exact ⟨rfl, I.turned (t' := s.toks) (fun b o hb q => eb b o hb q) f0 f1 f3 f4 f5⟩
  self := fun A i s Q E st h => let ⟨⟨_, he⟩, _⟩ := st; wpAny_pyIter_enum he h
end TL
set_option Elab.async false
set_option linter.all false
set_option maxRecDepth 100000
/-! TL, part 11: what is walked, by expressions; built-in functions; repr. -/
namespace TL
open PySem L2

section
variable {k : Nat} {X : Cx} {tg e : Expr} {p pos : Pos}
theorem tI_of {C : Cn} {m : M D} {f : D → Option (List D)} {σ : L2.St} {H : Hp} {R : It → Hp → Prop} (h : tI C (bnd m fun d => lft (f d)) σ H R) :
    ∃ d its, f d = some its ∧ tM C m (RV C) σ H fun v H1 => ∃ F, Rp F d v ∧ (∃ σ' w', Rel C F σ' H1 w') ∧ ∀ J, (∀ C', C'.bg = C.bg → Gen C' F J its) → R J H1 := by
  obtain ⟨F, w, its, w', Re, em, q⟩ := h
  obtain ⟨d, w1, e1, e2⟩ := bnd_inv em
  obtain ⟨e3, rfl⟩ := lft_inv e2
  exact ⟨d, its, e3, F, w, d, w', Re, e1, fun F1 H1 v s1 R1 r => ⟨F1, r, ⟨σ, w', R1⟩, fun J g => q F1 H1 J s1 R1 g⟩⟩
theorem di_val {m : M D} (h : DV k X e m) : DI k X tg e (bnd m fun d => lft (itemsD d)) := fun hx C => by
  refine ⟨fun pins s σ H R I z => ?_⟩
  obtain ⟨d, its, ed, t⟩ := tI_of z
  have pe := h hx C
  cases d <;> first | cases ed | skip
  · rename_i y
    exact (pi_str pe).run pins s σ H R I (by
      obtain ⟨F, w, d, w', Re, em, q⟩ := t
      exact ⟨F, w, d, w', Re, em, fun F1 H1 v s1 R1 r => let ⟨F2, r2, _, g⟩ := q F1 H1 v s1 R1 r; ⟨y, r2, g _ fun _ _ => gen_str⟩⟩)
  · exact (pi_list pe).run pins s σ H R I (by
      obtain ⟨F, w, d, w', Re, em, q⟩ := t
      exact ⟨F, w, d, w', Re, em, fun F1 H1 v s1 R1 r => let ⟨F2, ⟨a, vs, e1, h1, h2⟩, ⟨σ', w2, R2⟩, g⟩ := q F1 H1 v s1 R1 r; ⟨a, e1, ⟨vs, .of (R2.le _ _ h1)⟩, g _ fun _ _ => gen_l h1 h2⟩⟩)
  · exact (pi_tup pe).run pins s σ H R I (by
      obtain ⟨F, w, d, w', Re, em, q⟩ := t
      exact ⟨F, w, d, w', Re, em, fun F1 H1 v s1 R1 r => let ⟨F2, ⟨a, vs, e1, h1, h2⟩, ⟨σ', w2, R2⟩, g⟩ := q F1 H1 v s1 R1 r; ⟨a, e1, ⟨vs, .of (R2.le _ _ h1)⟩, g _ fun _ _ => gen_t h1 h2⟩⟩)
theorem di_rev {m : M D} (hg : Gl X "reversed") (hm : X.mg "reversed" = none) (h : DV k X e m) (hs : starEach [e] X.env = (false, eval e X.env) :: starEach [] X.env := by rfl) : DI k X tg (.Call (.Name "reversed" p) [e] [] pos) (bnd m fun d => lft (match d with
    | .list xs => some xs.reverse
    | .tuple xs => some xs.reverse
    | _ => none)) := fun hx C => by
  refine ⟨fun pins s σ H R I z => (RT.pi_revA hg hm (h hx C) hs).run pins s σ H R I ?_⟩
  obtain ⟨d, its, ed, F, w, d', w', Re, em, q⟩ := tI_of z
  refine ⟨F, w, d', w', Re, em, fun F1 H1 v s1 R1 r => ?_⟩
  obtain ⟨F2, r2, ⟨σ', w2, R2⟩, g⟩ := q F1 H1 v s1 R1 r
  cases d <;> first | cases ed | skip
  · obtain ⟨a, vs, e1, h1, h2⟩ := r2
    exact ⟨a, vs, e1, .inl ⟨.of (R2.le _ _ h1), g _ fun _ _ => gen_rl h1 h2⟩⟩
  · obtain ⟨a, vs, e1, h1, h2⟩ := r2
    exact ⟨a, vs, e1, .inr ⟨.of (R2.le _ _ h1), g _ fun _ _ => gen_rt h1 h2⟩⟩
/-- enumerate of a tuple, by an expression -/
theorem pi_enumT {te : TE} {elts : List Expr} {kk : Nat} {tpos : Pos} (hg : Gl X "enumerate") (hm : X.mg "enumerate" = none) (he : PE X e te) (hs : starEach [e] X.env = (false, eval e X.env) :: starEach [] X.env := by rfl) :
    PI X (.Tuple elts kk tpos) (.Call (.Name "enumerate" p) [e] [] pos) (fun σ H R => te σ H fun v H1 => ∃ a xs, v = V.ref a ∧ SqT X.K H1 a xs ∧ R (IteT X.K a) H1) := by
  refine ⟨fun pins s σ H R I h => ?_⟩
  refine PyProof.Rows.Call_ (ld_blt I hg hm PyProof.Rows.boot_enumerate (PyProof.Rows.callWith_type1 (PyProof.Rows.args_cons (thn (he.run pins s σ H _ I h) fun u s1 ⟨v, H1, I1, r1, a, xs, ev, hq, q⟩ => PyProof.Rows.args_nil ?_) hs) hs rfl))
  subst ev
  obtain rfl : u = Value.ref a := r1
  obtain ⟨its, rv, p', hz⟩ := I1.tuple hq
  have ht : s1.heap.IsTuple a its.toArray := p'
  refine tl_enum (begins_tuple a its.toArray) ht fun h' e1 e2 hk => wpAny_pyIter_enum e1 ?_
  have I2 : Inv X pins σ H1 { s1 with heap := h' } := I1.kept (t' := s1.toks) hk
  obtain ⟨oa, hoa, _⟩ := id p'
  have la := Heap.lt_size hoa
  refine ⟨s1.heap.objs.size + 1, [s1.heap.objs.size + 1, s1.heap.objs.size], _, _, H1, rfl, I2, turn_enumT a (s1.heap.objs.size + 1) s1.heap.objs.size (Nat.succ_ne_self _) (Nat.ne_of_lt la) (Nat.ne_of_lt (Nat.lt_succ_of_lt la)), ⟨⟨.none, e1⟩, ⟨_, e2, rfl, rfl⟩⟩, fun b hb => ?_, q⟩
  have hle : s1.heap.objs.size ≤ b := by
    rcases List.mem_cons.mp hb with z | z
    · rw [z]
      exact Nat.le_succ _
    · rw [List.mem_singleton.mp z]
      exact Nat.le_refl _
  exact I1.fpOk hle (I1.hok.fresh hle)
theorem di_enum {m : M D} {elts : List Expr} {kk : Nat} {tpos : Pos} (hg : Gl X "enumerate") (hm : X.mg "enumerate" = none) (h : DV k X e m) (hs : starEach [e] X.env = (false, eval e X.env) :: starEach [] X.env := by rfl) :
    DI k X (.Tuple elts kk tpos) (.Call (.Name "enumerate" p) [e] [] pos) (bnd m fun d => lft (match d with
    | .list xs => some (enumD 0 xs)
    | .tuple xs => some (enumD 0 xs)
    | _ => none)) := fun hx C => by
  refine ⟨fun pins s σ H R I z => ?_⟩
  obtain ⟨d, its, ed, F, w, d', w', Re, em, q⟩ := tI_of z
  have pe := h hx C
  cases d <;> first | cases ed | skip
  · refine (pi_enum (ta := tCons (tM C m (RV C)) tNil) hg hm (pa_cons pe pa_nil hs) (by rw [hs]; rfl)).run pins s σ H R I ⟨F, w, d', w', Re, em, fun F1 H1 v s1 R1 r => ?_⟩
    obtain ⟨F2, ⟨a, vs, e1, h1, h2⟩, ⟨σ', w2, R2⟩, g⟩ := q F1 H1 v s1 R1 r
    exact ⟨a, vs, by rw [e1], .of (R2.le _ _ h1), g _ fun _ _ => gen_el h1 h2⟩
  · refine (pi_enumT hg hm pe hs).run pins s σ H R I ⟨F, w, d', w', Re, em, fun F1 H1 v s1 R1 r => ?_⟩
    obtain ⟨F2, ⟨a, vs, e1, h1, h2⟩, ⟨σ', w2, R2⟩, g⟩ := q F1 H1 v s1 R1 r
    refine ⟨a, vs, e1, .of (R2.le _ _ h1), g _ fun _ _ => ⟨fun i F σ H w hi s R => ?_, fun F σ H w s R => ⟨vs, .of (R.le _ _ (s _ _ h1)), by rw [h2.length, enumD_len]; exact Nat.le_refl _⟩, fun i F σ H w x H' hi s R ⟨T, y, e3, e4, e5, qq⟩ => ?_⟩⟩
    · rw [enumD_len] at hi
      exact ⟨vs, vs[i]'(by rw [h2.length]; exact hi), .of (R.le _ _ (s _ _ h1)), by simp⟩
    · subst e3 e5
      rw [enumD_len] at hi
      have qq := qq vs (.of (R.le _ _ (s _ _ h1)))
      obtain ⟨v2, e6, e7⟩ := h2.get (List.getElem?_eq_getElem hi)
      rw [qq] at e6
      cases e6
      obtain ⟨F', s2, R2, r2, k2⟩ := pair_lay R e4 (x := .int (i : Nat)) (d := .int (i : Int)) rfl (e7.mono s)
      refine ⟨F', _, s2, R2, ?_, r2, k2⟩
      rw [enumD_get 0 _ i _ (List.getElem?_eq_getElem hi), Nat.zero_add]
def dzip (a b : M D) : M (List D) := bnd a fun d => bnd b fun e => lft (match d, e with
  | .list xs, .list ys => some (zipD xs ys)
  | .tuple xs, .tuple ys => some (zipD xs ys)
  | _, _ => none)
theorem di_zip {e2 : Expr} {m m2 : M D} {elts : List Expr} {kk : Nat} {tpos : Pos} (hg : Gl X "zip") (hm : X.mg "zip" = none) (h : DV k X e m) (h2 : DV k X e2 m2) (hs : starEach [e, e2] X.env = (false, eval e X.env) :: starEach [e2] X.env := by rfl)
    (hs2 : starEach [e2] X.env = (false, eval e2 X.env) :: starEach [] X.env := by rfl) (hpl : (backTo pos (starEach [e2] X.env)).any (·.1) = false := by rfl) : DI k X (.Tuple elts kk tpos) (.Call (.Name "zip" p) [e, e2] [] pos) (dzip m m2) := fun hx C => by
  refine ⟨fun pins s σ H R I ⟨F, w, its, w', Re, em, q⟩ => (RZ.pi_zipA hg hm (pa_cons (h hx C) (pa_cons (h2 hx C) pa_nil hs2) hs) hs hpl).run pins s σ H R I ?_⟩
  obtain ⟨d, w1, e1, em1⟩ := bnd_inv em
  obtain ⟨e, w2, e2, em2⟩ := bnd_inv em1
  obtain ⟨ef, rfl⟩ := lft_inv em2
  refine ⟨F, w, d, w1, Re, e1, fun F1 H1 v s1 R1 r1 => ⟨F1, w1, e, w', R1, e2, fun F2 H2 u s2 R2 r2 => ?_⟩⟩
  have r1 := Rp.mono s2 d v r1
  cases d <;> cases e <;> first | cases ef | skip
  · obtain ⟨a, vs, rfl, h1, g1⟩ := r1
    obtain ⟨b, us, rfl, h3, g3⟩ := r2
    exact ⟨a, b, vs, us, rfl, .inl ⟨.of (R2.le _ _ h1), .of (R2.le _ _ h3), q F2 H2 _ (s1.trans s2) R2 fun _ _ => gen_zl h1 g1 h3 g3⟩⟩
  · obtain ⟨a, vs, rfl, h1, g1⟩ := r1
    obtain ⟨b, us, rfl, h3, g3⟩ := r2
    exact ⟨a, b, vs, us, rfl, .inr ⟨.of (R2.le _ _ h1), .of (R2.le _ _ h3), q F2 H2 _ (s1.trans s2) R2 fun _ _ => gen_zt h1 g1 h3 g3⟩⟩
/-- ranges -/
def rng1 : List Ar → Option (List D)
  | [.p (.int j)] => if -(2 ^ 62) ≤ j ∧ j < 2 ^ 62 then some (rngD 0 j.toNat) else none
  | _ => none
def rng2 : List Ar → Option (List D)
  | [.p (.int i), .p (.int j)] => if -(2 ^ 62) ≤ i ∧ i < 2 ^ 62 ∧ -(2 ^ 62) ≤ j ∧ j < 2 ^ 62 then some (rngD i (j - i).toNat) else none
  | _ => none
def rng3 : List Ar → Option (List D)
  | [.p (.int i), .p (.int j), .p (.int c)] => if c = -1 ∧ -(2 ^ 62) ≤ i ∧ i < 2 ^ 62 ∧ -(2 ^ 62) ≤ j ∧ j < 2 ^ 62 then some (rngC i (-1) (i - j).toNat) else none
  | _ => none
def dits (f : List Ar → Option (List D)) (m : M (List Ar)) : M (List D) := bnd m fun as => lft (f as)
theorem di_rng1 {a : Expr} {m : M (List Ar)} (hg : Gl X "range") (hm : X.mg "range" = none) (ha : DA k X [a] m) (hs : starEach [a] X.env = [(false, eval a X.env)] := by rfl) : DI k X tg (.Call (.Name "range" p) [a] [] pos) (dits rng1 m) := fun hx C =>
  (pi_range1 hg hm (ha hx C) hs).imp fun σ H R ⟨F, w, its, w', Re, em, q⟩ => by
    obtain ⟨as, w1, e1, em1⟩ := bnd_inv em
    obtain ⟨ef, rfl⟩ := lft_inv em1
    refine ⟨F, w, as, w', Re, e1, fun F1 H1 vs s1 R1 r => ?_⟩
    unfold rng1 at ef
    split at ef
    · rename_i j
      split at ef
      · rename_i hj
        cases ef
        obtain ⟨v, t, rfl, r1, r2⟩ := r
        cases (show t = [] from r2)
        cases (show v = .int j from r1)
        exact ⟨j, rfl, hj.1, hj.2, q F1 H1 _ s1 R1 fun _ _ => gen_rng⟩
      · cases ef
    · cases ef
theorem di_rng2 {a b : Expr} {m : M (List Ar)} (hg : Gl X "range") (hm : X.mg "range" = none) (ha : DA k X [a, b] m) (hs : starEach [a, b] X.env = [(false, eval a X.env), (false, eval b X.env)] := by rfl) (hs2 : starEach [b] X.env = [(false, eval b X.env)] := by rfl) : DI k X tg (.Call (.Name "range" p) [a, b] [] pos) (dits rng2 m) := fun hx C =>
  (pi_range2 hg hm (ha hx C) hs hs2).imp fun σ H R ⟨F, w, its, w', Re, em, q⟩ => by
    obtain ⟨as, w1, e1, em1⟩ := bnd_inv em
    obtain ⟨ef, rfl⟩ := lft_inv em1
    refine ⟨F, w, as, w', Re, e1, fun F1 H1 vs s1 R1 r => ?_⟩
    unfold rng2 at ef
    split at ef
    · rename_i i j
      split at ef
      · rename_i hj
        cases ef
        obtain ⟨v, t, rfl, r1, u, t2, rfl, r2, r3⟩ := r
        cases (show t2 = [] from r3)
        cases (show v = .int i from r1)
        cases (show u = .int j from r2)
        exact ⟨i, j, rfl, hj, q F1 H1 _ s1 R1 fun _ _ => gen_rng⟩
      · cases ef
    · cases ef
theorem di_rng3 {a b c : Expr} {m : M (List Ar)} (hg : Gl X "range") (hm : X.mg "range" = none) (ha : DA k X [a, b, c] m) (hs : starEach [a, b, c] X.env = (false, eval a X.env) :: starEach [b, c] X.env := by rfl) (hpl : (backTo pos (starEach [b, c] X.env)).any (·.1) = false := by rfl) :
    DI k X tg (.Call (.Name "range" p) [a, b, c] [] pos) (dits rng3 m) := fun hx C =>
  (pi_range3 hg hm (ha hx C) hs hpl).imp fun σ H R ⟨F, w, its, w', Re, em, q⟩ => by
    obtain ⟨as, w1, e1, em1⟩ := bnd_inv em
    obtain ⟨ef, rfl⟩ := lft_inv em1
    refine ⟨F, w, as, w', Re, e1, fun F1 H1 vs s1 R1 r => ?_⟩
    unfold rng3 at ef
    split at ef
    · rename_i i j c
      split at ef
      · rename_i hj
        obtain ⟨rfl, hj⟩ := hj
        cases ef
        obtain ⟨v, t, rfl, r1, u, t2, rfl, r2, z, t3, rfl, r3, r4⟩ := r
        cases (show t3 = [] from r4)
        cases (show v = .int i from r1)
        cases (show u = .int j from r2)
        cases (show z = .int (-1) from r3)
        exact ⟨i, j, -1, _, rfl, RgC.neg hj.1 hj.2.1 hj.2.2.1 hj.2.2.2, q F1 H1 _ s1 R1 fun _ _ => gen_rngC⟩
      · cases ef
    · cases ef
end

/-! ### built-in functions -/
def RRs (C : Cn) (F : Hp) (σ : L2.St) : List R → List V → Prop
  | [], vs => vs = []
  | r :: rs, vs => ∃ v t, vs = v :: t ∧ (∀ H w, RR C F H σ w r v) ∧ RRs C F σ rs t
def tRs (C : Cn) (m : M (List R)) : TA := fun σ H Q => ∃ F w rs w', Rel C F σ H w ∧ m w = some (rs, w') ∧ ∀ F' H' vs, Same F F' → Rel C F' σ H' w' → RRs C F' σ rs vs → Q vs H'
def DRs (k : Nat) (X : Cx) (es : List Expr) (m : M (List R)) : Prop := XOk k X → ∀ C, PA X es (tRs C m)
def rnil : M (List R) := ret []
def rcons (m : M R) (r : M (List R)) : M (List R) := bnd m fun x => bnd r fun xs => ret (x :: xs)
def looks (w : W) : List R → Option (List D)
  | [] => some []
  | r :: rs => match r.look w, looks w rs with
    | some d, some ds => some (d :: ds)
    | _, _ => none
def Vws (F H : Hp) : List D → List V → Prop
  | [], vs => vs = []
  | d :: ds, vs => ∃ v t, vs = v :: t ∧ Vw F H d v ∧ Vws F H ds t
theorem RRs.look {C : Cn} {F H : Hp} {σ : L2.St} {w : W} (Re : Rel C F σ H w) : ∀ {rs : List R} {vs : List V} {ds : List D}, RRs C F σ rs vs → looks w rs = some ds → Vws F H ds vs
  | [], _, _, h, e => by
    cases e
    exact h
  | r :: rs, _, ds, ⟨v, t, e, h1, h2⟩, el => by
    unfold looks at el
    cases e1 : r.look w with
    | none =>
      simp only [e1] at el
      cases el
    | some d =>
      cases e2 : looks w rs with
      | none =>
        simp only [e1, e2] at el
        cases el
      | some es =>
        simp only [e1, e2] at el
        cases el
        exact ⟨v, t, e, Re.look (h1 H w) e1, RRs.look Re h2 e2⟩
def rCl (C : Cn) (f : List D → Option O) : List V → Hp → VK → Prop := fun vs H Q => ∃ F σ w ds o, Rel C F σ H w ∧ Vws F H ds vs ∧ f ds = some o ∧ ∀ F' H' v, Same F F' → Rel C F' σ H' w → RO C F' H' σ w o v → Q v H'
def dcl (f : List D → Option O) (m : M (List R)) : M O := bnd m fun rs => fun w => match looks w rs with
  | some ds => lft (f ds) w
  | none => none
theorem cl_step {C : Cn} {f : List D → Option O} {m : M (List R)} {σ : L2.St} {H : Hp} {Q : VK} (h : tM C (dcl f m) (RO C) σ H Q) : tRs C m σ H fun vs H1 => rCl C f vs H1 Q := by
  obtain ⟨F, w, o, w', Re, em, q⟩ := h
  obtain ⟨rs, w1, e1, em1⟩ := bnd_inv em
  cases el : looks w1 rs with
  | none =>
    simp only [el] at em1
    cases em1
  | some ds =>
    simp only [el] at em1
    obtain ⟨ef, rfl⟩ := lft_inv em1
    exact ⟨F, w, rs, w', Re, e1, fun F1 H1 vs s1 R1 r => ⟨F1, σ, w', ds, o, R1, r.look R1 el, ef, fun F' H' v s' R' ro => q F' H' v (s1.trans s') R' ro⟩⟩
section
variable {k : Nat} {X : Cx} {e : Expr} {es : List Expr} {x : Str} {p pos : Pos} {C : Cn}
theorem drs_nil : DRs k X [] rnil := fun _ C => pa_nil.imp fun σ H Q ⟨F, w, x, w', Re, em, q⟩ => by
  cases em
  exact q F H [] (Same.refl F) Re rfl
theorem drs_cons {m : M R} {r : M (List R)} (h : DR k X e m) (hr : DRs k X es r) (hs : starEach (e :: es) X.env = (false, eval e X.env) :: starEach es X.env := by rfl) : DRs k X (e :: es) (rcons m r) := fun hx C =>
  (pa_cons (h hx C) (hr hx C) hs).imp fun σ H Q ⟨F, w, x, w', Re, em, q⟩ => by
    obtain ⟨a, w1, e1, em1⟩ := bnd_inv em
    obtain ⟨as, w2, e2, em2⟩ := bnd_inv em1
    cases em2
    refine ⟨F, w, a, w1, Re, e1, fun F1 H1 v s1 R1 r1 => ⟨F1, w1, as, w', R1, e2, fun F2 H2 vs s2 R2 r2 => ?_⟩⟩
    exact q F2 H2 _ (s1.trans s2) R2 ⟨v, vs, rfl, fun H w => r1.step s2, r2⟩
theorem do_B {id : String} {f : List D → Option O} {m : M (List R)} (hc : ∀ C, XOk k X → CallR X (.builtin id) (rCl C f)) (hg : Gl X x) (hm : X.mg x = none) (hv : bootBuiltins x = some (.builtin id)) (ha : DRs k X (e :: es) m) (hn : x ≠ "__name__" := by decide) (hdb : (x == ("__debug__" : Str)) = false := by decide)
    (he : starEach (e :: es) X.env = (false, eval e X.env) :: starEach es X.env := by rfl) (hpl : (backTo pos (starEach es X.env)).any (·.1) = false := by rfl) : DO k X (.Call (.Name x p) (e :: es) [] pos) (dcl f m) := fun hx C =>
  (pe_callB (hc C hx) hg hm hv (ha hx C) hn hdb he hpl).imp fun σ H Q h => cl_step h
theorem do_Ty {T : String} {f : List D → Option O} {m : M (List R)} (hc : ∀ C, XOk k X → CallR X (.type T) (rCl C f)) (hg : Gl X x) (hm : X.mg x = none) (hv : bootBuiltins x = some (.type T)) (ha : DRs k X (e :: es) m) (hn : x ≠ "__name__" := by decide) (hdb : (x == ("__debug__" : Str)) = false := by decide)
    (he : starEach (e :: es) X.env = (false, eval e X.env) :: starEach es X.env := by rfl) (hpl : (backTo pos (starEach es X.env)).any (·.1) = false := by rfl) : DO k X (.Call (.Name x p) (e :: es) [] pos) (dcl f m) := fun hx C =>
  (pe_callTy (hc C hx) hg hm hv (ha hx C) hn hdb he hpl).imp fun σ H Q h => cl_step h
/-- one value -/
theorem cl1 {f : D → Option O} {vs : List V} {H : Hp} {Q : VK} (h : rCl C (fun ds => match ds with | [d] => f d | _ => none) vs H Q) :
    ∃ F σ w d o v, vs = [v] ∧ Rel C F σ H w ∧ Vw F H d v ∧ f d = some o ∧ ∀ F' H' v, Same F F' → Rel C F' σ H' w → RO C F' H' σ w o v → Q v H' := by
  obtain ⟨F, σ, w, ds, o, Re, vw, ef, q⟩ := h
  match ds, vw, ef with
  | [d], ⟨v, t, e1, h1, h2⟩, ef =>
    cases (show t = [] from h2)
    exact ⟨F, σ, w, d, o, v, e1, Re, h1, ef, q⟩
def p1 (f : D → Option O) : List D → Option O := fun ds => match ds with
  | [d] => f d
  | _ => none
def p2 (f : D → D → Option O) : List D → Option O := fun ds => match ds with
  | [d, e] => f d e
  | _ => none
theorem cl2 {f : D → D → Option O} {vs : List V} {H : Hp} {Q : VK} (h : rCl C (p2 f) vs H Q) :
    ∃ F σ w d e o v u, vs = [v, u] ∧ Rel C F σ H w ∧ Vw F H d v ∧ Vw F H e u ∧ f d e = some o ∧ ∀ F' H' v, Same F F' → Rel C F' σ H' w → RO C F' H' σ w o v → Q v H' := by
  obtain ⟨F, σ, w, ds, o, Re, vw, ef, q⟩ := h
  cases ds with
  | nil => cases ef
  | cons d r =>
    cases r with
    | nil => cases ef
    | cons e r2 =>
      cases r2 with
      | cons _ _ => cases ef
      | nil =>
        obtain ⟨v, t, e1, h1, u, t2, e2, h2, h3⟩ := vw
        subst e2
        cases (show t2 = [] from h3)
        exact ⟨F, σ, w, d, e, o, v, u, e1, Re, h1, h2, ef, q⟩
def pLen (d : D) : Option O := match d with
  | .list xs => some (.v (.int xs.length))
  | .tuple xs => some (.v (.int xs.length))
  | .str z => if z.length ≤ sizeLine then some (.v (.int z.length)) else none
  | _ => none
theorem cb_len : CallR X (.builtin "len") (rCl C (p1 pLen)) := by
  intro pins s σ H xs us Q I r h
  obtain ⟨F, σ', w, d, o, v, rfl, Re, vw, ef, q⟩ := cl1 h
  refine call_len pins s σ H [v] us Q I r ?_
  cases d <;> first | cases ef | skip
  · rename_i z
    unfold pLen at ef
    dsimp only at ef
    split at ef
    · rename_i hz
      cases ef
      exact ⟨v, z.length, rfl, by rw [show v = .str z from vw]; exact ⟨hz, rfl⟩, q F H _ (Same.refl F) Re rfl⟩
    · cases ef
  · obtain ⟨a, vs, rfl, h1, h2⟩ := vw
    exact ⟨_, _, rfl, .inl ⟨vs, .of h1, h2.length.symm⟩, q F H _ (Same.refl F) Re rfl⟩
  · obtain ⟨a, vs, rfl, h1, h2⟩ := vw
    exact ⟨_, _, rfl, .inr ⟨vs, .of (Re.le _ _ h1), h2.length.symm⟩, q F H _ (Same.refl F) Re rfl⟩
def pAbs (d : D) : Option O := match d with
  | .int i => some (.v (.int (if i < 0 then -i else i)))
  | _ => none
theorem cb_abs : CallR X (.builtin "abs") (rCl C (p1 pAbs)) := by
  intro pins s σ H xs us Q I r h
  obtain ⟨F, σ', w, d, o, v, rfl, Re, vw, ef, q⟩ := cl1 h
  cases d <;> first | cases ef | skip
  exact call_abs pins s σ H [v] us Q I r ⟨_, by rw [show v = _ from vw], q F H _ (Same.refl F) Re rfl⟩
def pInt (d : D) : Option O := match d with
  | .int i => some (.v (.int i))
  | .bool b => some (.v (.int (if b then 1 else 0)))
  | _ => none
theorem ct_int : CallR X (.type "int") (rCl C (p1 pInt)) := by
  intro pins s σ H xs us Q I r h
  obtain ⟨F, σ', w, d, o, v, rfl, Re, vw, ef, q⟩ := cl1 h
  cases d <;> first | cases ef | skip
  · exact call_int1 pins s σ H [v] us Q I r (.inr ⟨_, by rw [show v = _ from vw], q F H _ (Same.refl F) Re rfl⟩)
  · exact call_int1 pins s σ H [v] us Q I r (.inl ⟨_, by rw [show v = _ from vw], q F H _ (Same.refl F) Re rfl⟩)
def pStrI (d : D) : Option O := match d with
  | .int i => if i.natAbs.log2 < 1920 then some (.v (.str (toString i))) else none
  | _ => none
theorem ct_str : CallR X (.type "str") (rCl C (p1 pStrI)) := by
  intro pins s σ H xs us Q I r h
  obtain ⟨F, σ', w, d, o, v, rfl, Re, vw, ef, q⟩ := cl1 h
  cases d <;> first | cases ef | skip
  unfold pStrI at ef
  dsimp only at ef
  split at ef
  · rename_i hz
    cases ef
    exact call_str_int pins s σ H [v] us Q I r ⟨_, by rw [show v = _ from vw], hz, q F H _ (Same.refl F) Re rfl⟩
  · cases ef
def pMax2 (d e : D) : Option O := match d, e with
  | .int i, .int j => some (.v (.int (if j > i then j else i)))
  | _, _ => none
def pMin2 (d e : D) : Option O := match d, e with
  | .int i, .int j => some (.v (.int (if j < i then j else i)))
  | _, _ => none
theorem cb_max2 (hx : XOk k X) : CallR X (.builtin "max") (rCl C (p2 pMax2)) := by
  intro pins s σ H xs us Q I r h
  obtain ⟨F, σ', w, d, e, o, v, u, rfl, Re, vw, vw2, ef, q⟩ := cl2 h
  cases d <;> cases e <;> first | cases ef | skip
  exact call_max2 hx.calm pins s σ H [v, u] us Q I r ⟨_, _, by rw [show v = _ from vw, show u = _ from vw2], q F H _ (Same.refl F) Re rfl⟩
theorem cb_min2 (hx : XOk k X) : CallR X (.builtin "min") (rCl C (p2 pMin2)) := by
  intro pins s σ H xs us Q I r h
  obtain ⟨F, σ', w, d, e, o, v, u, rfl, Re, vw, vw2, ef, q⟩ := cl2 h
  cases d <;> cases e <;> first | cases ef | skip
  exact call_min2 hx.calm pins s σ H [v, u] us Q I r ⟨_, _, by rw [show v = _ from vw, show u = _ from vw2], q F H _ (Same.refl F) Re rfl⟩
def maxI : List Int → Int
  | [] => 0
  | x :: xs => xs.foldl (fun a b => if b > a then b else a) x
theorem maxI_fold : ∀ (xs : List Int) (x : Int), (xs.foldl (fun a b => if b > a then b else a) x = x ∨ xs.foldl (fun a b => if b > a then b else a) x ∈ xs) ∧ x ≤ xs.foldl (fun a b => if b > a then b else a) x ∧ ∀ y ∈ xs, y ≤ xs.foldl (fun a b => if b > a then b else a) x
  | [], x => ⟨.inl rfl, Int.le_refl _, fun _ h => nomatch h⟩
  | y :: ys, x => by
    obtain ⟨h1, h2, h3⟩ := maxI_fold ys (if y > x then y else x)
    rw [List.foldl_cons]
    refine ⟨?_, ?_, fun z hz => ?_⟩
    · rcases h1 with h | h
      · rw [h]
        split
        · exact .inr List.mem_cons_self
        · exact .inl rfl
      · exact .inr (List.mem_cons_of_mem _ h)
    · refine Int.le_trans ?_ h2
      split <;> omega
    · rcases List.mem_cons.mp hz with e | e
      · subst e
        refine Int.le_trans ?_ h2
        split <;> omega
      · exact h3 z e
theorem maxI_eq {ns : List Int} {m : Int} (h : m ∈ ns) (hm : ∀ y ∈ ns, y ≤ m) : m = maxI ns := by
  cases ns with
  | nil => cases h
  | cons x xs =>
    obtain ⟨h1, h2, h3⟩ := maxI_fold xs x
    have a : maxI (x :: xs) ≤ m := by
      rcases h1 with z | z
      · show xs.foldl _ x ≤ m
        rw [z]
        exact hm x List.mem_cons_self
      · exact hm _ (List.mem_cons_of_mem _ z)
    have b : m ≤ maxI (x :: xs) := by
      rcases List.mem_cons.mp h with z | z
      · rw [z]
        exact h2
      · exact h3 m z
    omega
def pMax1 (d : D) : Option O := match d with
  | .list xs => match intsOf xs with
    | some ns => if 0 < ns.length then some (.v (.int (maxI ns))) else none
    | none => none
  | _ => none
theorem cb_max1 (hx : XOk k X) : CallR X (.builtin "max") (rCl C (p1 pMax1)) := by
  intro pins s σ H xs us Q I r h
  obtain ⟨F, σ', w, d, o, v, rfl, Re, vw, ef, q⟩ := cl1 h
  cases d <;> first | cases ef | skip
  unfold pMax1 at ef
  dsimp only at ef
  split at ef
  · rename_i ns e1
    split at ef
    · rename_i hz
      cases ef
      cases intsOf_inv e1
      obtain ⟨a, vs, rfl, h1, h2⟩ := vw
      rw [h2.ints] at h1
      exact cr_max hx.calm pins s σ H _ us Q I r ⟨a, ns, rfl, .of h1, hz, fun m hm hle => by rw [maxI_eq hm hle]; exact q F H _ (Same.refl F) Re rfl⟩
    · cases ef
  · cases ef
def pSum (d : D) : Option O := match d with
  | .list xs => (intsOf xs).map fun ns => .v (.int ns.sum)
  | .tuple xs => (intsOf xs).map fun ns => .v (.int ns.sum)
  | _ => none
theorem sum_tup {a : Addr} {its : List Value} {ns : List Int} {A : Around} {E : Value → Shared → Prop} {prog : Program} {w : World} {s : Shared} {Q : Value → Shared → Prop} (hh : A.handled = none) (hl : s.heap.IsTuple a its.toArray) (hi : PyProof.Rows.IntsAre its ns)
    (h : ∀ h' tk t', (∀ b o, s.heap.get? b = some o → h'.get? b = some o) → Q (.int ns.sum t') { s with heap := h', toks := tk }) : wpAny (model prog w) A (call (.builtin "sum") [.ref a]) Q E s := by
  refine call_sum_walkG (wpAny_pyIter_tuple hl ?_)
  obtain ⟨oa, hoa, _⟩ := id hl
  have la := Heap.lt_size hoa
  have hz : (s.heap.push { cls := .type "tuple_iterator", data := .fields #[.ref a, .int 0 0] }).objs.size = s.heap.objs.size + 1 := Heap.size_push ..
  obtain ⟨xs, e⟩ := hi.allInts.items
  have hn : numsOf (intItems xs).toList = ns := by rw [← e]; exact hi.numsOf
  rw [nums_intItems] at hn
  refine ⟨s.heap.objs.size, _, _, _, _, _, numAt xs, rfl, Walks.tuple (A := A.in1) hh s.heap.objs.size a (Nat.ne_of_lt la) its.toArray, ⟨⟨_, Heap.get?_push_size _ rfl, rfl, rfl⟩, hl.at fun o q => Heap.get?_push_of_some _ q⟩, fun b hb => ?_, fun i v hv => ?_, fun h' tk t' hk => ?_⟩
  · rw [hz]
    rcases List.mem_cons.mp hb with q | q
    · rw [q]
      exact Nat.lt_succ_self _
    · rw [List.mem_singleton.mp q]
      exact Nat.lt_succ_of_lt la
  · rw [e] at hv
    exact intItems_at hv
  · have k2 := h h' tk t' fun b o q => hk b o (fun z => by rw [List.mem_singleton.mp z] at q; exact absurd (Heap.lt_size q) (Nat.lt_irrefl _)) (Heap.get?_push_of_some _ q)
    have e3 : its.toArray.size = xs.size := by
      rw [e]
      simp [intItems]
    rw [e3, preSum_eq, List.take_of_length_le (by simp), hn]
    exact k2
theorem cb_sum (hx : XOk k X) : CallR X (.builtin "sum") (rCl C (p1 pSum)) := by
  intro pins s σ H xs us Q I r h
  obtain ⟨F, σ', w, d, o, v, rfl, Re, vw, ef, q⟩ := cl1 h
  cases d <;> first | cases ef | skip
  · rename_i xs
    cases e1 : intsOf xs with
    | none =>
      unfold pSum at ef
      simp only [e1] at ef
      cases ef
    | some ns =>
      unfold pSum at ef
      simp only [e1] at ef
      cases ef
      cases intsOf_inv e1
      obtain ⟨a, vs, rfl, h1, h2⟩ := vw
      rw [h2.ints] at h1
      exact cr_sum hx.calm pins s σ H _ us Q I r ⟨a, ns, rfl, .of h1, q F H _ (Same.refl F) Re rfl⟩
  · rename_i xs
    cases e1 : intsOf xs with
    | none =>
      unfold pSum at ef
      simp only [e1] at ef
      cases ef
    | some ns =>
      unfold pSum at ef
      simp only [e1] at ef
      cases ef
      cases intsOf_inv e1
      obtain ⟨a, vs, rfl, h1, h2⟩ := vw
      rw [h2.ints] at h1
      obtain ⟨its, rv, p', _⟩ := I.tuple (.of (Re.le _ _ h1))
      obtain ⟨u, rfl, r1⟩ := vals1 r
      obtain rfl : u = .ref a := r1
      exact sum_tup (I.ok.hd hx.calm) p' rv.ints fun h' tk t' hk => ⟨.int ns.sum, H, I.kept hk, ⟨_, rfl⟩, q F H _ (Same.refl F) Re rfl⟩
def boolsOf : List D → Option (List Bool)
  | [] => some []
  | .bool b :: r => (boolsOf r).map (b :: ·)
  | _ => none
theorem boolsOf_map : ∀ bs : List Bool, boolsOf (bs.map PyData.bool) = some bs
  | [] => rfl
  | b :: bs => by
    show (boolsOf (bs.map PyData.bool)).map (b :: ·) = _
    rw [boolsOf_map bs]
    rfl
theorem boolsOf_inv : ∀ {ds : List D} {bs : List Bool}, boolsOf ds = some bs → ds = bs.map PyData.bool
  | [], _, h => by cases h; rfl
  | d :: r, bs, h => by
    cases d with
    | bool b =>
      have h : (boolsOf r).map (b :: ·) = some bs := h
      cases e : boolsOf r with
      | none =>
        rw [e] at h
        cases h
      | some cs =>
        rw [e] at h
        cases h
        rw [boolsOf_inv e]
        rfl
    | _ => cases h
def pAll (d : D) : Option O := match d with
  | .list xs => (boolsOf xs).map fun bs => .v (.bool (bs.all id))
  | _ => none
def pAny (d : D) : Option O := match d with
  | .list xs => (boolsOf xs).map fun bs => .v (.bool (bs.any id))
  | _ => none
theorem cb_all (hx : XOk k X) : CallR X (.builtin "all") (rCl C (p1 pAll)) := by
  intro pins s σ H xs us Q I r h
  obtain ⟨F, σ', w, d, o, v, rfl, Re, vw, ef, q⟩ := cl1 h
  cases d <;> first | cases ef | skip
  rename_i xs
  cases e1 : boolsOf xs with
  | none =>
    unfold pAll at ef
    simp only [e1] at ef
    cases ef
  | some bs =>
    unfold pAll at ef
    simp only [e1] at ef
    cases ef
    cases boolsOf_inv e1
    obtain ⟨a, vs, rfl, h1, h2⟩ := vw
    rw [h2.bls] at h1
    exact cr_all hx.calm pins s σ H _ us Q I r ⟨a, bs, rfl, .of h1, q F H _ (Same.refl F) Re rfl⟩
theorem cb_any (hx : XOk k X) : CallR X (.builtin "any") (rCl C (p1 pAny)) := by
  intro pins s σ H xs us Q I r h
  obtain ⟨F, σ', w, d, o, v, rfl, Re, vw, ef, q⟩ := cl1 h
  cases d <;> first | cases ef | skip
  rename_i xs
  cases e1 : boolsOf xs with
  | none =>
    unfold pAny at ef
    simp only [e1] at ef
    cases ef
  | some bs =>
    unfold pAny at ef
    simp only [e1] at ef
    cases ef
    cases boolsOf_inv e1
    obtain ⟨a, vs, rfl, h1, h2⟩ := vw
    rw [h2.bls] at h1
    exact cr_any hx.calm pins s σ H _ us Q I r ⟨a, bs, rfl, .of h1, q F H _ (Same.refl F) Re rfl⟩
def pList (d : D) : Option O := match d with
  | .list xs => some (.s (.own xs))
  | .tuple xs => some (.s (.own xs))
  | _ => none
theorem ct_list : CallR X (.type "list") (rCl C (p1 pList)) := by
  intro pins s σ H xs us Q I r h
  obtain ⟨F, σ', w, d, o, v, rfl, Re, vw, ef, q⟩ := cl1 h
  cases d <;> first | cases ef | skip
  · obtain ⟨a, vs, rfl, h1, h2⟩ := vw
    exact call_list_of pins s σ H _ us Q I r ⟨a, vs, rfl, .inl (.of h1), new_own Re h2 q⟩
  · obtain ⟨a, vs, rfl, h1, h2⟩ := vw
    exact call_list_of pins s σ H _ us Q I r ⟨a, vs, rfl, .inr (.of (Re.le _ _ h1)), new_own Re h2 q⟩
def pTuple (d : D) : Option O := match d with
  | .list xs => some (.v (.tuple xs))
  | .tuple xs => some (.v (.tuple xs))
  | _ => none
theorem ct_tuple : CallR X (.type "tuple") (rCl C (p1 pTuple)) := by
  intro pins s σ H xs us Q I r h
  obtain ⟨F, σ', w, d, o, v, rfl, Re, vw, ef, q⟩ := cl1 h
  cases d <;> first | cases ef | skip
  · obtain ⟨a, vs, rfl, h1, h2⟩ := vw
    exact call_tuple_of pins s σ H _ us Q I r ⟨a, vs, rfl, .inl ⟨.of h1, new_tup Re h2 q⟩⟩
  · obtain ⟨a, vs, rfl, h1, h2⟩ := vw
    exact call_tuple_of pins s σ H _ us Q I r ⟨a, vs, rfl, .inr ⟨.of (Re.le _ _ h1), q F H _ (Same.refl F) Re ⟨a, vs, rfl, h1, h2⟩⟩⟩
end
end TL
set_option Elab.async false
set_option linter.all false
set_option maxRecDepth 100000
set_option maxHeartbeats 4000000
/-! TL, part 12: a tuple taken k times; repr; isinstance; range, reversed within list and tuple. -/
namespace TL
open PySem L2
theorem tup_mul0 (l : Addr) (items : Array Value) (n : Nat) (dd : Option Addr) (sl : Array (Option Value)) (x : Int) (u : Tok) (c0 : (decide (x < -(2 ^ 63)) || decide (x ≥ 2 ^ 63)) = false) (c1 : (items.isEmpty || x == 1) = false) (c2 : (decide (x ≤ 0) || items.isEmpty) = true) :
    Meets (Builtin.«tuple.__mul__» ⟨[.ref l, .int x u], []⟩) (fun _ R s => s.heap.get? l = some { cls := .type "tuple", dict := dd, data := .seq items n, slots := sl } ∧
      R (.ok (.ret (Value.ref s.heap.objs.size))) { s with heap := s.heap.push { cls := Value.type "tuple", data := Data.seq #[] } }) :=
  .of_wp fun prog w A R s h => by
    obtain ⟨hp, g, d, tk, os⟩ := s
    obtain ⟨hl, h⟩ := h
    have f1 := AutoSeq1.idx_int
    wp_walk using PyProof.Rows.wpAny_loadPart' hl
    rw [if_neg (by rw [c0]; exact Bool.false_ne_true)]
    wp_walk using PyProof.Rows.wpAny_loadPart' hl
    exact ⟨_, rfl, h⟩
theorem tup_mul1 (l : Addr) (items : Array Value) (n : Nat) (dd : Option Addr) (sl : Array (Option Value)) (x : Int) (u : Tok) (c0 : (decide (x < -(2 ^ 63)) || decide (x ≥ 2 ^ 63)) = false) (c1 : (items.isEmpty || x == 1) = true) :
    Meets (Builtin.«tuple.__mul__» ⟨[.ref l, .int x u], []⟩) (fun _ R s => s.heap.get? l = some { cls := .type "tuple", dict := dd, data := .seq items n, slots := sl } ∧ R (.ok (.ret (Value.ref l))) s) :=
  .of_wp fun prog w A R s h => by
    obtain ⟨hp, g, d, tk, os⟩ := s
    obtain ⟨hl, h⟩ := h
    have f1 := AutoSeq1.idx_int
    wp_walk using PyProof.Rows.wpAny_loadPart' hl
    rw [if_neg (by rw [c0]; exact Bool.false_ne_true)]
    wp_walk using PyProof.Rows.wpAny_loadPart' hl
    exact ⟨_, rfl, h⟩
theorem vals_rep {vs : List V} {us : List Value} (r : Vals vs us) : ∀ n, Vals (List.replicate n vs).flatten (List.replicate n us).flatten
  | 0 => .nil
  | m + 1 => by
    rw [List.replicate_succ, List.replicate_succ, List.flatten_cons, List.flatten_cons]
    exact r.append (vals_rep r m)
theorem kv_keys : ∀ {ws : List (Key × V)} {vs : List (Key × Value)}, KV ws vs → (vs.map fun p => keyD p.1) = ws.map fun p => keyD p.1
  | _, _, .nil => rfl
  | _, _, .cons h t => by rw [List.map_cons, List.map_cons, kv_keys t, h.1]
def pRepT (d e : D) : Option O := match d, e with
  | .tuple xs, .int k => if -(2 ^ 63) ≤ k ∧ k < 2 ^ 63 ∧ xs.length * k.toNat ≤ 1000000 then some (.v (.tuple (List.replicate k.toNat xs).flatten)) else none
  | _, _ => none
section
variable {k : Nat} {X : Cx} {C : Cn}
theorem or_repT : OpR X (binaryOp .Mult) (rOp C pRepT) := by
  intro pins s σ H x y v u Q I rx ry ⟨F, σ', w, d, e, o, Re, vx, vy, ef, q⟩
  cases d <;> first | cases ef | skip
  cases e <;> first | cases ef | skip
  rename_i xs j
  unfold pRepT at ef
  dsimp only at ef
  split at ef
  · rename_i hz
    cases ef
    obtain ⟨l, vs, rfl, h1, h2⟩ := vx
    have vy : y = .int j := vy
    subst vy
    obtain rfl : v = .ref l := rx
    obtain ⟨t, rfl⟩ := ry
    obtain ⟨its, r, ⟨⟨cls, dd, data, sl⟩, ho, hc, n, hd⟩, hs⟩ := I.tuple (.of (Re.le _ _ h1))
    simp only at hc hd
    subst hc hd
    have hle : its.length = xs.length := r.length.symm.trans h2.length
    have c0 : (decide (j < -(2 ^ 63)) || decide (j ≥ 2 ^ 63)) = false := by
      rw [decide_eq_false (by omega), decide_eq_false (by omega)] <;> rfl
    have road : ∀ {B : Builtin → Prop}, True := trivial
    have go : (∀ E' Q', wpAny (model X.prog X.w) X.A (call (.builtin "tuple.__mul__") [.ref l, .int j t]) Q' E' s → wpAny (model X.prog X.w) X.A (binaryOp .Mult (.ref l) (.int j t)) Q' E' s) := fun E' Q' z =>
      wpAny_binaryOp_repeat_ref (T := "tuple") (U := "int") (by decide) ⟨_, ho, rfl⟩ (fun s' => typeIs_int s' j t) noFill_tuple_mul PySem.F.fills_int_mul PySem.F.slot_int_rmul repeat_tuple PySem.F.slot_int_index.lookup
        (call_meets PySem.F.slot_int_rmul (typeIs_int s j t) PySem.F.entry_int_rmul (PySem.F.args_int_rmul_2 _ _) (int_rmul_tuple j t l its.toArray n dd sl) ⟨ho, rfl, ⟨_, ho, rfl⟩, z⟩)
    refine go _ _ ?_
    cases c1 : (its.toArray.isEmpty || j == 1) with
    | true =>
      refine call_meets PySem.F.slot_tuple_mul ⟨_, ho, rfl⟩ PySem.F.entry_tuple_mul (PySem.F.args_tuple_mul_2 _ _) (tup_mul1 l its.toArray n dd sl j t c0 c1) ⟨ho, ?_⟩
      refine ⟨.ref l, H, I, rfl, q F H _ (Same.refl F) Re ⟨l, vs, rfl, h1, ?_⟩⟩
      have e2 : (List.replicate j.toNat xs).flatten = xs := by
        rcases Bool.or_eq_true_iff.mp c1 with z | z
        · have : xs = [] := List.length_eq_zero_iff.mp (by
            rw [← hle]
            cases its with
            | nil => rfl
            | cons a b => cases z)
          subst this
          simp
        · have : j = 1 := by simpa using z
          subst this
          simp
      rw [e2]
      exact h2
    | false =>
      cases c2 : (decide (j ≤ 0) || its.toArray.isEmpty) with
      | true =>
        refine call_meets PySem.F.slot_tuple_mul ⟨_, ho, rfl⟩ PySem.F.entry_tuple_mul (PySem.F.args_tuple_mul_2 _ _) (tup_mul0 l its.toArray n dd sl j t c0 c1 c2) ⟨ho, ?_⟩
        have hj : j.toNat = 0 := by
          rcases Bool.or_eq_true_iff.mp c2 with z | z
          · have := of_decide_eq_true z
            omega
          · rw [z] at c1
            cases c1
        have hf : H s.heap.objs.size = none := I.hok.fresh (Nat.le_refl _)
        have q2 := new_tup (ts := []) (vs := []) Re rfl (fun F' H' v s' R' ro => q F' H' v s' R' (by
          rw [hj]
          exact ro)) s.heap.objs.size hf
        exact ⟨.ref s.heap.objs.size, _, I.laid (t' := s.toks) (fun b u e => Heap.get?_push_of_some _ e) (Nat.le_refl _) (show ObjOk X.prog X.w _ _ _ (.tup []) from ⟨Nat.zero_le _, [], .nil, ⟨_, Heap.get?_push_size _ rfl, rfl, _, rfl⟩⟩), rfl, q2⟩
      | false =>
        have hj : 2 ≤ j := by
          have a := Bool.or_eq_false_iff.mp c1
          have b := Bool.or_eq_false_iff.mp c2
          have b1 := of_decide_eq_false b.1
          have a1 : j ≠ 1 := by simpa using a.2
          omega
        have hsz0 : its.toArray.size = xs.length := by rw [List.size_toArray, hle]
        have flen : (List.replicate j.toNat its).flatten.length ≤ 1000000 := by
          rw [PyProof.Rows.lm_len_rep_flat, hle]
          have := hz.2.2
          rw [Nat.mul_comm]
          exact this
        have big : ((its.toArray.size : Nat) : Int) * j ≤ 1000000 := by
          rw [hsz0]
          have : ((xs.length * j.toNat : Nat) : Int) ≤ 1000000 := Int.ofNat_le.mpr hz.2.2
          rw [Int.natCast_mul, Int.toNat_of_nonneg (by omega)] at this
          exact this
        have c4 : Builtin.Tuple.tupleTooMany (((its.toArray.size : Nat) : Int) * j) = false := by
          unfold Builtin.Tuple.tupleTooMany
          rw [sizeLine_eq]
          exact decide_eq_false (by omega)
        refine call_meets PySem.F.slot_tuple_mul ⟨_, ho, rfl⟩ PySem.F.entry_tuple_mul (PySem.F.args_tuple_mul_2 _ _) (tuple_mulW l its.toArray n dd sl j t c0 c1 c2 (by omega) c4 (by rw [size_rep, List.size_toArray, sizeLine_eq]; omega)) ⟨ho, ?_⟩
        have hf : H s.heap.objs.size = none := I.hok.fresh (Nat.le_refl _)
        have rv : Vals (List.replicate j.toNat vs).flatten (List.replicate j.toNat its).flatten := vals_rep r _
        have q2 := new_tup Re (h2.rep j.toNat) q s.heap.objs.size hf
        refine ⟨.ref s.heap.objs.size, _, I.laid (t' := s.toks) (fun b u e => Heap.get?_push_of_some _ e) (Nat.le_refl _) (show ObjOk X.prog X.w _ _ _ (.tup (List.replicate j.toNat vs).flatten) from ⟨?_, (List.replicate j.toNat its).flatten, rv, ⟨_, Heap.get?_push_size _ rfl, rfl, 0, ?_⟩⟩), rfl, q2⟩
        · rw [rv.length, sizeLine_eq]
          omega
        · exact congrArg (fun z => Data.seq z 0) (size_rep _ _)
  · cases ef
def pMul := orF pMulI (orF pRepT pRepL)
theorem or_mul : OpR X (binaryOp .Mult) (rOp C pMul) := or_or or_mulI (or_or or_repT or_repL)

/-! ### repr -/
theorem keys_read {P : Program} {w : World} {h : Heap} : ∀ {es : List DictEntry} {vs : List (Key × Value)}, Pairs (mixKind P w) es vs → ∃ as, ReadsAll h (es.map (·.key)) (vs.map fun p => keyD p.1) as ∧ as = []
  | _, _, .nil => ⟨[], .nil, rfl⟩
  | e :: es, (k, v) :: vs, .cons h1 h2 t => by
    obtain ⟨as, r, rfl⟩ := keys_read (h := h) t
    refine ⟨[] ++ [], .cons ?_ r, rfl⟩
    rcases keyIs_shape (show keyIs k e.key = true from h1) with ⟨i, tk, rfl, e2⟩ | ⟨x, tk, rfl, e2⟩
    · show Reads h e.key (keyD _) []
      rw [e2]
      exact .int i tk
    · show Reads h e.key (keyD _) []
      rw [e2]
      exact .str x tk
theorem keyD_map {F : Hp} : ∀ {kvs : List (D × D)} {ws : List (Key × V)}, Rpd F kvs ws → kvs.map (·.1) = ws.map fun p => keyD p.1
  | [], _, h => by rw [show _ = [] from h]; rfl
  | (k, d) :: r, _, ⟨kk, v, q, e, e2, h1, h2⟩ => by
    rw [e, List.map_cons, List.map_cons, keyD_map h2, e2]
def NoSys (as : List Addr) : Prop := sysModules ∉ as
theorem NoSys.app {as bs : List Addr} (h : NoSys as) (h' : NoSys bs) : NoSys (as ++ bs) := fun z => (List.mem_append.mp z).elim h h'
section
variable {pins : List (Addr × Obj)} {σ : L2.St} {H : Hp} {s : Shared} {F : Hp}
theorem sys_seq (I : Inv X pins σ H s) (hs : Sys X.base) {a : Addr} {o : Obj} {vs : Array Value} {n : Nat} (h : s.heap.get? a = some o) (hd : o.data = .seq vs n) : a ≠ sysModules := fun e => by
  obtain ⟨o', es, n', h', hd'⟩ := hs
  have h2 := I.bk _ _ h'
  subst e
  rw [h] at h2
  cases h2
  rw [hd] at hd'
  cases hd'
mutual
theorem Rp.reads (I : Inv X pins σ H s) (hs : Sys X.base) (le : Same F H) : ∀ (d : D) (v : V) (u : Value), Rp F d v → RelV v u → ∃ as, Reads s.heap u d as ∧ NoSys as
  | .none, _, _, h, r => by
    cases (show _ = V.non from h)
    cases r
    exact ⟨_, .none, fun z => nomatch z⟩
  | .bool b, _, _, h, r => by
    cases (show _ = V.bl b from h)
    cases r
    exact ⟨_, .bool b, fun z => nomatch z⟩
  | .int i, _, _, h, r => by
    cases (show _ = V.int i from h)
    obtain ⟨t, rfl⟩ := r
    exact ⟨_, .int i t, fun z => nomatch z⟩
  | .str x, _, _, h, r => by
    cases (show _ = V.str x from h)
    obtain ⟨t, rfl⟩ := r
    exact ⟨_, .str x t, fun z => nomatch z⟩
  | .list xs, _, _, h, r => by
    obtain ⟨a, vs, rfl, h1, h2⟩ := h
    obtain rfl : _ = Value.ref a := r
    obtain ⟨its, rv, ⟨o, n, ho, hc, _, hd⟩, _⟩ := I.list (.of (le _ _ h1))
    obtain ⟨as, q, z⟩ := Rps.reads I hs le xs vs its h2 rv
    exact ⟨_, .list ho hc hd q, fun m => (List.mem_cons.mp m).elim (fun e => sys_seq I hs ho hd e.symm) z⟩
  | .tuple xs, _, _, h, r => by
    obtain ⟨a, vs, rfl, h1, h2⟩ := h
    obtain rfl : _ = Value.ref a := r
    obtain ⟨its, rv, ⟨o, ho, hc, n, hd⟩, _⟩ := I.tuple (.of (le _ _ h1))
    obtain ⟨as, q, z⟩ := Rps.reads I hs le xs vs its h2 rv
    exact ⟨_, .tuple ho hc hd q, z⟩
  | .dict kvs, _, _, h, r => by
    obtain ⟨a, ws, rfl, h1, h2⟩ := h
    obtain rfl : _ = Value.ref a := r
    obtain ⟨_, hsys, vs, rkv, o, es, ep, ho, hex, hd, _, hp, _⟩ : ObjOk X.prog X.w H s.heap a (.dK ws) := I.hok a _ (le _ _ h1)
    obtain ⟨as, q1, rfl⟩ := keys_read (h := s.heap) hp
    obtain ⟨bs, q2, z2⟩ := Rpd.reads I hs le kvs ws vs es.toList h2 rkv hp
    have e1 : (vs.map fun p => keyD p.1) = kvs.map (·.1) := by
      rw [keyD_map h2, kv_keys rkv]
    rw [e1] at q1
    refine ⟨_, .dict ho hex.1 hd q1 q2, fun m => ?_⟩
    have m : sysModules ∈ a :: bs := m
    rcases List.mem_cons.mp m with e | e
    · rw [← e] at hsys
      simp at hsys
    · exact z2 e
theorem Rps.reads (I : Inv X pins σ H s) (hs : Sys X.base) (le : Same F H) : ∀ (ds : List D) (vs : List V) (us : List Value), Rps F ds vs → Vals vs us → ∃ as, ReadsAll s.heap us ds as ∧ NoSys as
  | [], _, _, h, r => by
    cases (show _ = [] from h)
    cases r
    exact ⟨_, .nil, fun z => nomatch z⟩
  | d :: ds, _, _, h, r => by
    obtain ⟨v, t, rfl, h1, h2⟩ := h
    cases r with
    | cons r1 r2 =>
      obtain ⟨as, q1, z1⟩ := Rp.reads I hs le d _ _ h1 r1
      obtain ⟨bs, q2, z2⟩ := Rps.reads I hs le ds _ _ h2 r2
      exact ⟨_, .cons q1 q2, z1.app z2⟩
theorem Rpd.reads (I : Inv X pins σ H s) (hs : Sys X.base) (le : Same F H) : ∀ (kvs : List (D × D)) (ws : List (Key × V)) (vs : List (Key × Value)) (es : List DictEntry), Rpd F kvs ws → KV ws vs → Pairs (mixKind X.prog X.w) es vs → ∃ as, ReadsAll s.heap (es.map (·.val)) (kvs.map (·.2)) as ∧ NoSys as
  | [], _, _, _, h, r, p => by
    cases (show _ = [] from h)
    cases r
    cases p
    exact ⟨_, .nil, fun z => nomatch z⟩
  | (k, d) :: kvs, _, _, _, h, r, p => by
    obtain ⟨kk, v, q, rfl, e2, h1, h2⟩ := h
    cases r with
    | cons r1 r2 =>
      cases p with
      | cons p1 p2 p3 =>
        obtain ⟨as, q1, z1⟩ := Rp.reads I hs le d _ _ h1 r1.2
        obtain ⟨bs, q2, z2⟩ := Rpd.reads I hs le kvs _ _ _ h2 r2 p3
        refine ⟨_, .cons (show Reads s.heap _ d _ from ?_) q2, z1.app z2⟩
        show Reads s.heap (DictEntry.val _) d _
        rw [p2]
        exact q1
end
theorem Vw.reads (I : Inv X pins σ H s) (hs : Sys X.base) (le : Same F H) {d : D} {v : V} {u : Value} (h : Vw F H d v) (r : RelV v u) : ∃ as, Reads s.heap u d as ∧ NoSys as := by
  cases d with
  | list xs =>
    obtain ⟨a, vs, rfl, h1, h2⟩ := h
    obtain rfl : _ = Value.ref a := r
    obtain ⟨its, rv, ⟨o, n, ho, hc, _, hd⟩, _⟩ := I.list (.of h1)
    obtain ⟨as, q, z⟩ := Rps.reads I hs le xs vs its h2 rv
    exact ⟨_, .list ho hc hd q, fun m => (List.mem_cons.mp m).elim (fun e => sys_seq I hs ho hd e.symm) z⟩
  | dict kvs =>
    obtain ⟨a, ws, rfl, h1, h2⟩ := h
    obtain rfl : _ = Value.ref a := r
    obtain ⟨_, hsys, vs, rkv, o, es, ep, ho, hex, hd, _, hp, _⟩ : ObjOk X.prog X.w H s.heap a (.dK ws) := I.hok a _ h1
    obtain ⟨as, q1, rfl⟩ := keys_read (h := s.heap) hp
    obtain ⟨bs, q2, z2⟩ := Rpd.reads I hs le kvs ws vs es.toList h2 rkv hp
    have e1 : (vs.map fun p => keyD p.1) = kvs.map (·.1) := by
      rw [keyD_map h2, kv_keys rkv]
    rw [e1] at q1
    refine ⟨_, .dict ho hex.1 hd q1 q2, fun m => ?_⟩
    have m : sysModules ∈ a :: bs := m
    rcases List.mem_cons.mp m with e | e
    · rw [← e] at hsys
      simp at hsys
    · exact z2 e
  | _ => exact Rp.reads I hs le _ v u h r
end
def pRepr (d : D) : Option O := if d.showable = true ∧ d.depth ≤ 100 ∧ d.shown.length ≤ sizeLine then some (.v (.str d.shown)) else none
theorem cb_repr (hx : XOk k X) : CallR X (.builtin "repr") (rCl C (p1 pRepr)) := by
  intro pins s σ H xs us Q I r h
  obtain ⟨F, σ', w, d, o, v, rfl, Re, vw, ef, q⟩ := cl1 h
  obtain ⟨u, rfl, r1⟩ := vals1 r
  have hu := hx.u
  unfold pRepr at ef
  split at ef
  · rename_i hz
    cases ef
    obtain ⟨z1, z2, z3⟩ := hz
    have fin : ∀ (h' : Heap) (u : Tok) (tk : Nat), (∀ b o, s.heap.get? b = some o → h'.get? b = some o) → EP X pins σ Q (.str d.shown u) { s with heap := h', toks := tk } := fun h' u tk hk => ⟨.str d.shown, H, I.kept hk, ⟨_, rfl⟩, q F H _ (Same.refl F) Re rfl⟩
    have fin' : ∀ (t : Str) (u : Tok) (n : Nat), t = d.shown → EP X pins σ Q (.str t u) { s with toks := n } := fun t u n e => by
      subst e
      exact ⟨.str d.shown, H, I.tok _, ⟨_, rfl⟩, q F H _ (Same.refl F) Re rfl⟩
    have ref : ∀ a, u = .ref a → wpAny (model X.prog X.w) X.A (call (.builtin "repr") [u]) (EP X pins σ Q) X.xe s := fun a e => by
      subst e
      obtain ⟨as, rd, ns⟩ := Vw.reads I hx.sys Re.le vw r1
      exact repr_of_reads' rd z1 (fun _ => ns) hx.grd (by omega) (fun _ _ z => z) fin z3
    cases d with
    | none =>
      cases (show v = .non from vw)
      cases r1
      exact P.repr_of_none (fin' _ _ _ rfl)
    | bool b =>
      cases (show v = .bl b from vw)
      cases r1
      exact P.repr_of_bool (fin' _ _ _ rfl)
    | int i =>
      cases (show v = .int i from vw)
      obtain ⟨t, rfl⟩ := r1
      exact P.repr_of_int (by simpa [PyData.showable] using z1) (fin' _ _ _ rfl)
    | str x =>
      cases (show v = .str x from vw)
      obtain ⟨t, rfl⟩ := r1
      exact P.repr_of_str (fin' _ _ _ rfl) (by simpa only [PyData.shown] using z3)
    | list xs =>
      obtain ⟨a, vs, rfl, _⟩ := vw
      exact ref a r1
    | tuple xs =>
      obtain ⟨a, vs, rfl, _⟩ := vw
      exact ref a r1
    | dict xs =>
      obtain ⟨a, vs, rfl, _⟩ := vw
      exact ref a r1
  · cases ef
end
end TL
set_option Elab.async false
set_option linter.all false
set_option maxRecDepth 100000
set_option maxHeartbeats 4000000
/-! TL, part 13: list(reversed(list)), isinstance, list and tuple of range, constants of the module, list.index. -/
namespace TL
open PySem L2
/-! ### list(reversed(a list)) -/
section
variable {prog : Program} {w : World} {A : Around} {E : Value → Shared → Prop} {s : Shared}
/-- the new list S takes in what the iterator gives -/
theorem grow_rev {S it l : Addr} {its : Array Value} {c0 : Nat} {res : Value} {R : Result → Shared → Prop} (hh : A.handled = none) (hS : s.heap.get? S = some { cls := .type "list", dict := none, data := .seq #[] c0, slots := #[] })
    (hit : s.heap.IsRevIter it l ((its.size : Int) - 1)) (hl : s.heap.IsList l its) (d1 : l ≠ it) (d2 : S ≠ it) (d3 : S ≠ l) (hz : its.size ≤ sizeLine)
    (go : ∀ (h' : Heap) (tk : Nat) (acc : Array Value) (c : Nat), (∀ b o, b ≠ S → b ≠ it → s.heap.get? b = some o → h'.get? b = some o) → h'.get? S = some { cls := .type "list", dict := none, data := .seq acc c, slots := #[] } →
      ItemsOf (fun i v => its[its.size - 1 - i]? = some v) acc its.size → R (.ok (.ret res)) { s with heap := h', toks := tk }) :
    wpAny (model prog w) A.in1 (Builtin.List.listExtendWith (.ref S) (.ref it) res)
      (fun fin s' => match fin with | .done f => R (.ok f) s' | .again c' => c'.quiet = true ∧ codeAny (model prog w) A c' R s') (fun e s' => R (.error e) s') s := by
  have steps := Walks.toS (Walks.listRev (prog := prog) (w := w) (A := A.in1) hh it l d1 its)
  have far : S ∉ [it, l] := fun m => by
    rcases List.mem_cons.mp m with e | m
    · exact d2 e
    · exact d3 (List.mem_singleton.mp m)
  have ty : s.TypeIs (.ref it) "list_reverseiterator" := hit.typeIs
  have ns : Builtin.List.listSameRef (.ref S) (.ref it) = false := by
    unfold Builtin.List.listSameRef
    simp [d2]
  unfold Builtin.List.listExtendWith
  refine wpAny_bind (wpAny_typeOf ty ?_)
  rw [if_neg (show ¬ _ from by rw [ns]; decide)]
  refine wpAny_bind (wpAny_pyIter_revIter hit ?_)
  refine wpAny_bind (wpAny_holding ?_)
  unfold Builtin.List.listLengthHint
  refine wpAny_bind (wpAny_specialOf ty RT.nolen_lri ?_)
  show wpAny _ A.in1 (specialOf (Value.ref it) (Str.ofString "__length_hint__") >>= _) _ _ s
  refine wpAny_bind (wpAny_specialOf ty RT.hint_lri ?_)
  generalize nm : ("list_reverseiterator.__length_hint__" : String) = id9
  wp_delta
  rw [show splitId id9 = some ("list_reverseiterator", "__length_hint__") from by rw [← nm]; decide +kernel]
  cases nm
  refine wpAny_bind (wpAny_isInstance (b := true) ty (show _ = _ from by rw [isSubtype_type]; kernel_rfl) ?_)
  refine wpAny_pure ?_
  rw [if_neg (show ¬ _ from by decide)]
  have z0 : (its.size : Int) - 1 - ((0 : Nat) : Int) = (its.size : Int) - 1 := Int.sub_zero _
  refine wpAny_pure ⟨plainId_quiet PySem.F.plain_extend_loop _, ?_⟩
  refine codeAny_extend_loopS steps hz S far _ its.size 0 s #[] c0 rfl (Nat.zero_le _) ⟨Nat.zero_le _, by rw [z0]; exact hit, hl⟩ hS (ItemsOf.nil _) fun s2 acc c2 mv e2 ia => ?_
  rw [Moved.eq_with mv]
  refine go s2.heap s2.toks acc c2 (fun b o n1 n2 e => mv.heap b o (fun m => ?_) e) e2 ia
  rcases List.mem_cons.mp m with e' | m
  · exact n1 e'
  · exact n2 (List.mem_singleton.mp m)
theorem init_rev {S it l : Addr} {its : Array Value} {R : Result → Shared → Prop} (hh : A.handled = none) (hS : s.heap.get? S = some { cls := .type "list", data := .seq #[] })
    (hit : s.heap.IsRevIter it l ((its.size : Int) - 1)) (hl : s.heap.IsList l its) (d1 : l ≠ it) (d2 : S ≠ it) (d3 : S ≠ l) (hz : its.size ≤ sizeLine)
    (go : ∀ (h' : Heap) (tk : Nat) (acc : Array Value) (c : Nat), (∀ b o, b ≠ S → b ≠ it → s.heap.get? b = some o → h'.get? b = some o) → h'.get? S = some { cls := .type "list", dict := none, data := .seq acc c, slots := #[] } →
      ItemsOf (fun i v => its[its.size - 1 - i]? = some v) acc its.size → R (.ok (.ret .none)) { s with heap := h', toks := tk }) :
    wpAny (model prog w) A.in1 (Builtin.«list.__init__» ⟨[.ref S, .ref it], []⟩)
      (fun fin s' => match fin with | .done f => R (.ok f) s' | .again c' => c'.quiet = true ∧ codeAny (model prog w) A c' R s') (fun e s' => R (.error e) s') s := by
  show wpAny _ _ (Builtin.List.listItems (.ref S) >>= fun o => Builtin.List.listUpdate (.ref S) (fun _ => #[]) >>= fun _ => letGo o.toList.reverse >>= fun _ => Builtin.List.listExtendWith (.ref S) (.ref it) .none) _ _ s
  refine wpAny_bind ?_
  unfold Builtin.List.listItems
  refine wpAny_bind (wpAny_seqItems hS rfl (wpAny_pure ?_))
  refine wpAny_bind (show wpAny _ _ (updateSeq S fun _ => #[]) _ _ _ from wpAny_updateSeq hS rfl ?_)
  have e2 := Heap.get?_update_self (Obj.mapSeq (fun _ => (#[] : Array Value))) hS rfl
  have other : ∀ b o, b ≠ S → s.heap.get? b = some o → (s.heap.update S (Obj.mapSeq (fun _ => (#[] : Array Value)))).get? b = some o := fun b o nb e => by
    rw [Heap.get?_update_other _ _ (Ne.symm nb)]
    exact e
  refine wpAny_bind (wpAny_letGo ?_)
  exact grow_rev (s := { s with heap := s.heap.update S _ }) hh e2 (hit.at fun o e => other it o (Ne.symm d2) e) (hl.at fun o e => other l o (Ne.symm d3) e) d1 d2 d3 hz fun h' tk acc c k r i => go h' tk acc c (fun b o n1 n2 e => k b o n1 n2 (other b o n1 e)) r i
theorem call_list_rev {it l : Addr} {its : Array Value} {Q : Value → Shared → Prop} (hh : A.handled = none) (hit : s.heap.IsRevIter it l ((its.size : Int) - 1)) (hl : s.heap.IsList l its) (d1 : l ≠ it) (hz : its.size ≤ sizeLine)
    (go : ∀ (h' : Heap) (tk : Nat) (acc : Array Value) (c : Nat), (∀ b o, b ≠ it → s.heap.get? b = some o → h'.get? b = some o) → h'.get? s.heap.objs.size = some { cls := .type "list", dict := none, data := .seq acc c, slots := #[] } →
      ItemsOf (fun i v => its[its.size - 1 - i]? = some v) acc its.size → Q (.ref s.heap.objs.size) { s with heap := h', toks := tk }) : wpAny (model prog w) A (call (.type "list") [.ref it]) Q E s := by
  obtain ⟨oi, hoi, _⟩ := id hit
  obtain ⟨ol, hol, _⟩ := id hl
  refine callType_codes (Q₁ := fun v t => v = Value.ref s.heap.objs.size ∧ t = { s with heap := s.heap.push { cls := .type "list", data := .seq #[] } }) PySem.F.called_list (PySem.F.typeCall_list_1 _) PySem.F.entry_list_init (code_list_new _ ⟨rfl, rfl⟩) fun v t ⟨e1, e2⟩ => ?_
  subst e1 e2
  have new : (s.heap.push { cls := .type "list", data := .seq #[] }).get? s.heap.objs.size = some { cls := .type "list", data := .seq #[] } := Heap.get?_push_size _ rfl
  refine ⟨⟨_, new, rfl⟩, PySem.F.args_list_init_2 _ _, ?_⟩
  exact init_rev (s := { s with heap := s.heap.push _ }) (A := A.in1) hh new (hit.at fun o e => Heap.get?_push_of_some _ e) (hl.push _) d1 (Nat.ne_of_gt (Heap.lt_size hoi)) (Nat.ne_of_gt (Heap.lt_size hol)) hz fun h' tk acc c k r i =>
    ⟨rfl, go h' tk acc c (fun b o n e => k b o (Nat.ne_of_lt (Heap.lt_size e)) n (Heap.get?_push_of_some _ e)) r i⟩
end
def tLstRev (K : PySem.W.Frag) (te : TE) : TE := fun σ H Q => te σ H fun v H1 => ∃ (a : Addr) (xs : List V), v = V.ref a ∧ SqL K H1 a xs ∧ ∀ q, H1 q = none → Q (V.ref q) (upd H1 q (.lst xs.reverse))
theorem pe_lstRev {X : Cx} {e : Expr} {te : TE} {p p2 pos pos2 : Pos} (hc : X.calm = true) (hg : Gl X "list") (hm : X.mg "list" = none) (hg2 : Gl X "reversed") (hm2 : X.mg "reversed" = none) (he : PE X e te)
    (hs : starEach [e] X.env = (false, eval e X.env) :: starEach [] X.env := by rfl) (hs2 : starEach [.Call (.Name "reversed" p2) [e] [] pos2] X.env = (false, eval (.Call (.Name "reversed" p2) [e] [] pos2) X.env) :: starEach [] X.env := by rfl) :
    PE X (.Call (.Name "list" p) [.Call (.Name "reversed" p2) [e] [] pos2] [] pos) (tLstRev X.K te) := ⟨fun pins s σ H Q I h => by
  refine PyProof.Rows.Call_ (ld_blt I hg hm PyProof.Rows.boot_list (PyProof.Rows.callWith_type1 (PyProof.Rows.args_cons (PyProof.Rows.Call_ (ld_blt I hg2 hm2 PyProof.Rows.boot_reversed (PyProof.Rows.callWith_type1 (PyProof.Rows.args_cons (thn (he.run pins s σ H _ I h) fun u t z => PyProof.Rows.args_nil ?_) hs) hs rfl))) hs2) hs2 rfl))
  obtain ⟨v, H1, I1, r1, a, xs, rfl, hq, q⟩ := z
  obtain rfl : u = .ref a := r1
  obtain ⟨its, rv, pl, hz⟩ := I1.list hq
  refine call_reversed_list pl.isList (PyProof.Rows.args_nil ?_)
  have I2 : L2.Inv X pins σ H1 { t with heap := t.heap.push (revObj a ((its.toArray.size : Int) - 1)) } := I1.kept (t' := t.toks) fun b o e => Heap.get?_push_of_some _ e
  have fp := I1.fpOk (H' := H1) (b := t.heap.objs.size) (Nat.le_refl _) (I1.hok.fresh (Nat.le_refl _))
  have il := pl.isList
  obtain ⟨ol, hol, _⟩ := id il
  have size1 : its.toArray.size ≤ sizeLine := by
    rw [List.size_toArray, ← rv.length]
    exact hz
  refine call_list_rev (s := { t with heap := t.heap.push (revObj a ((its.toArray.size : Int) - 1)) }) (I1.ok.hd hc) ⟨_, Heap.get?_push_size _ rfl, rfl, rfl⟩ (il.push _) (Nat.ne_of_lt (Heap.lt_size hol)) size1 fun h' tk acc c hk hs' hi => ?_
  have hfr : H1 ({ t with heap := t.heap.push (revObj a ((its.toArray.size : Int) - 1)) } : Shared).heap.objs.size = none := I2.hok.fresh (Nat.le_refl _)
  refine ⟨.ref _, upd H1 _ (.lst xs.reverse), ?_, rfl, q _ hfr⟩
  refine I2.turnedNew (t' := tk) (ch := [t.heap.objs.size]) (fun b o hb e => hk b o (fun z => hb (z ▸ List.mem_singleton.mpr rfl)) e) (fun b hb => ?_) (Nat.le_refl _) ?_
  · rw [List.mem_singleton.mp hb]
    exact fp
  · exact show ObjOk X.prog X.w _ _ _ (.lst xs.reverse) from ⟨by rw [List.length_reverse]; exact hz, acc.toList, c, RT.vals_rev rv hi, by rw [Array.toArray_toList]; exact hs'⟩⟩
end TL
set_option Elab.async false
set_option linter.all false
set_option maxRecDepth 100000
set_option maxHeartbeats 4000000
/-! TL, part 14: isinstance, lists and tuples of a range, reversed, constants of the module, list.index. -/
namespace TL
open PySem L2
/-- bounds of a range that is laid out -/
def rgOkB (a b : Int) : Bool := decide (-(2 ^ 62) ≤ a ∧ a < 2 ^ 62 ∧ -(2 ^ 62) ≤ b ∧ b < 2 ^ 62 ∧ (b - a).toNat ≤ 2 ^ 24)
theorem rgOkB_ok {a b : Int} (h : rgOkB a b = true) : RgOk a b := by
  unfold rgOkB at h
  have z := of_decide_eq_true h
  exact z
def rgl (f : List D → O) (a b : Int) : Option O := if rgOkB a b = true then some (f (rngD a (b - a).toNat)) else none
theorem rgV_rps {F : Hp} (a b : Int) : Rps F (rngD a (b - a).toNat) (rgV a b) := by
  unfold rngD rgV
  generalize List.range (b - a).toNat = l
  induction l with
  | nil => rfl
  | cons x xs ih => exact ⟨_, _, rfl, rfl, ih⟩
def drg1 (f : List D → O) (m : M D) : M O := bnd m fun d => lft (match d with
  | .int n => rgl f 0 n
  | _ => none)
def drg2 (f : List D → O) (m1 m2 : M D) : M O := bnd m1 fun d => bnd m2 fun e => lft (match d, e with
  | .int a, .int b => rgl f a b
  | _, _ => none)
def ownO (ts : List D) : O := .s (.own ts)
def tupO (ts : List D) : O := .v (.tuple ts)
section
variable {k : Nat} {X : Cx} {a b e : Expr} {p p2 pos pos2 : Pos} {m m1 m2 : M D}
theorem rg1_step {C : Cn} {f : List D → O} {σ : L2.St} {H : Hp} {Q : VK} {K : Int → Int → Hp → Prop} (h : tM C (drg1 f m) (RO C) σ H Q)
    (go : ∀ a b H1 F w, RgOk a b → Rel C F σ H1 w → (∀ F' H' v, Same F F' → Rel C F' σ H' w → RO C F' H' σ w (f (rngD a (b - a).toNat)) v → Q v H') → K a b H1) : tRg1 (tM C m (RV C)) σ H K := by
  obtain ⟨F, w, o, w', Re, em, q⟩ := h
  obtain ⟨d, w1, e1, em1⟩ := bnd_inv em
  obtain ⟨ef, rfl⟩ := lft_inv em1
  refine ⟨F, w, d, w', Re, e1, fun F1 H1 v s1 R1 r => ?_⟩
  cases d <;> first | cases ef | skip
  rename_i n
  have ef : rgl f 0 n = some o := ef
  unfold rgl at ef
  split at ef
  · rename_i hz
    cases ef
    exact ⟨n, r, go _ _ _ F1 w' (rgOkB_ok hz) R1 fun F' H' v s' R' ro => q F' H' v (s1.trans s') R' ro⟩
  · cases ef
theorem rg2_step {C : Cn} {f : List D → O} {σ : L2.St} {H : Hp} {Q : VK} {K : Int → Int → Hp → Prop} (h : tM C (drg2 f m1 m2) (RO C) σ H Q)
    (go : ∀ a b H1 F w, RgOk a b → Rel C F σ H1 w → (∀ F' H' v, Same F F' → Rel C F' σ H' w → RO C F' H' σ w (f (rngD a (b - a).toNat)) v → Q v H') → K a b H1) : tRg2 (tM C m1 (RV C)) (tM C m2 (RV C)) σ H K := by
  obtain ⟨F, w, o, w', Re, em, q⟩ := h
  obtain ⟨d, w1, e1, em1⟩ := bnd_inv em
  obtain ⟨e, w2, e2, em2⟩ := bnd_inv em1
  obtain ⟨ef, rfl⟩ := lft_inv em2
  refine ⟨F, w, d, w1, Re, e1, fun F1 H1 v s1 R1 r => ⟨F1, w1, e, w', R1, e2, fun F2 H2 u s2 R2 r2 => ?_⟩⟩
  cases d <;> first | cases ef | skip
  cases e <;> first | cases ef | skip
  rename_i i j
  have ef : rgl f i j = some o := ef
  unfold rgl at ef
  split at ef
  · rename_i hz
    cases ef
    exact ⟨i, j, r, r2, go _ _ _ F2 w' (rgOkB_ok hz) R2 fun F' H' v s' R' ro => q F' H' v ((s1.trans s2).trans s') R' ro⟩
  · cases ef
theorem do_lrg1 (hg : Gl X "list") (hm : X.mg "list" = none) (hg2 : Gl X "range") (hm2 : X.mg "range" = none) (ha : DV k X a m) (na : starEach [a] X.env = (false, eval a X.env) :: starEach [] X.env := by rfl)
    (nb : starEach [.Call (.Name "range" p2) [a] [] pos2] X.env = (false, eval (.Call (.Name "range" p2) [a] [] pos2) X.env) :: starEach [] X.env := by rfl) : DO k X (.Call (.Name "list" p) [.Call (.Name "range" p2) [a] [] pos2] [] pos) (drg1 ownO m) := fun hx C =>
  (pe_listRg hx.calm hg hm (prg_1 hg2 hm2 (ha hx C) na) nb).imp fun σ H Q h => rg1_step h fun a b H1 F w ok R1 q => ⟨ok, new_own R1 (rgV_rps a b) q⟩
theorem do_trg1 (hg : Gl X "tuple") (hm : X.mg "tuple" = none) (hg2 : Gl X "range") (hm2 : X.mg "range" = none) (ha : DV k X a m) (na : starEach [a] X.env = (false, eval a X.env) :: starEach [] X.env := by rfl)
    (nb : starEach [.Call (.Name "range" p2) [a] [] pos2] X.env = (false, eval (.Call (.Name "range" p2) [a] [] pos2) X.env) :: starEach [] X.env := by rfl) : DO k X (.Call (.Name "tuple" p) [.Call (.Name "range" p2) [a] [] pos2] [] pos) (drg1 tupO m) := fun hx C =>
  (pe_tupRg hx.calm hg hm (prg_1 hg2 hm2 (ha hx C) na) nb).imp fun σ H Q h => rg1_step h fun a b H1 F w ok R1 q => ⟨ok, new_tup R1 (rgV_rps a b) q⟩
theorem do_lrg2 (hg : Gl X "list") (hm : X.mg "list" = none) (hg2 : Gl X "range") (hm2 : X.mg "range" = none) (ha : DV k X a m1) (hb : DV k X b m2) (na : starEach [a, b] X.env = (false, eval a X.env) :: starEach [b] X.env := by rfl) (nb : starEach [b] X.env = (false, eval b X.env) :: starEach [] X.env := by rfl)
    (hp : (backTo pos2 (starEach [b] X.env)).any (·.1) = false := by rfl) (nc : starEach [.Call (.Name "range" p2) [a, b] [] pos2] X.env = (false, eval (.Call (.Name "range" p2) [a, b] [] pos2) X.env) :: starEach [] X.env := by rfl) :
    DO k X (.Call (.Name "list" p) [.Call (.Name "range" p2) [a, b] [] pos2] [] pos) (drg2 ownO m1 m2) := fun hx C =>
  (pe_listRg hx.calm hg hm (prg_2 hg2 hm2 (ha hx C) (hb hx C) na nb hp) nc).imp fun σ H Q h => rg2_step h fun a b H1 F w ok R1 q => ⟨ok, new_own R1 (rgV_rps a b) q⟩
theorem do_trg2 (hg : Gl X "tuple") (hm : X.mg "tuple" = none) (hg2 : Gl X "range") (hm2 : X.mg "range" = none) (ha : DV k X a m1) (hb : DV k X b m2) (na : starEach [a, b] X.env = (false, eval a X.env) :: starEach [b] X.env := by rfl) (nb : starEach [b] X.env = (false, eval b X.env) :: starEach [] X.env := by rfl)
    (hp : (backTo pos2 (starEach [b] X.env)).any (·.1) = false := by rfl) (nc : starEach [.Call (.Name "range" p2) [a, b] [] pos2] X.env = (false, eval (.Call (.Name "range" p2) [a, b] [] pos2) X.env) :: starEach [] X.env := by rfl) :
    DO k X (.Call (.Name "tuple" p) [.Call (.Name "range" p2) [a, b] [] pos2] [] pos) (drg2 tupO m1 m2) := fun hx C =>
  (pe_tupRg hx.calm hg hm (prg_2 hg2 hm2 (ha hx C) (hb hx C) na nb hp) nc).imp fun σ H Q h => rg2_step h fun a b H1 F w ok R1 q => ⟨ok, new_tup R1 (rgV_rps a b) q⟩
/-! ### reversed -/
def drevO (f : List D → O) (m : M R) : M O := bnd m fun x => fun w => match x.look w with
  | some (.list xs) => some (f xs.reverse, w)
  | _ => none
theorem rps_rev {F : Hp} : ∀ {ds : List D} {vs : List V}, Rps F ds vs → Rps F ds.reverse vs.reverse
  | [], _, h => by
    cases (show _ = [] from h)
    exact rfl
  | d :: ds, _, ⟨v, t, rfl, h1, h2⟩ => by
    rw [List.reverse_cons, List.reverse_cons]
    exact (rps_rev h2).append (.one h1)
theorem rev_step {C : Cn} {f : List D → O} {mr : M R} {σ : L2.St} {H : Hp} {Q : VK} {Kf : PySem.W.Frag} {u : List V → HO}
    (mk : ∀ F H' w ts vs, Rel C F σ H' w → Rps F ts vs → (∀ F2 H2 v, Same F F2 → Rel C F2 σ H2 w → RO C F2 H2 σ w (f ts) v → Q v H2) → ∀ p, H' p = none → Q (V.ref p) (upd H' p (u vs))) (h : tM C (drevO f mr) (RO C) σ H Q) :
    tM C mr (RR C) σ H fun v H1 => ∃ (a : Addr) (xs : List V), v = V.ref a ∧ SqL Kf H1 a xs ∧ ∀ q, H1 q = none → Q (V.ref q) (upd H1 q (u xs.reverse)) := by
  obtain ⟨F, w, o, w', Re, em, q⟩ := h
  obtain ⟨x, w1, e1, em1⟩ := bnd_inv em
  refine ⟨F, w, x, w1, Re, e1, fun F1 H1 v s1 R1 r => ?_⟩
  split at em1
  · rename_i xs el
    cases em1
    obtain ⟨a, vs, rfl, h1, h2⟩ := R1.look r el
    exact ⟨a, vs, rfl, .of h1, mk F1 H1 w' _ _ R1 (rps_rev h2) fun F' H' v s' R' ro => q F' H' v (s1.trans s') R' ro⟩
  · cases em1
theorem do_lrev {mr : M R} (hg : Gl X "list") (hm : X.mg "list" = none) (hg2 : Gl X "reversed") (hm2 : X.mg "reversed" = none) (he : DR k X e mr) (hs : starEach [e] X.env = (false, eval e X.env) :: starEach [] X.env := by rfl)
    (hs2 : starEach [.Call (.Name "reversed" p2) [e] [] pos2] X.env = (false, eval (.Call (.Name "reversed" p2) [e] [] pos2) X.env) :: starEach [] X.env := by rfl) : DO k X (.Call (.Name "list" p) [.Call (.Name "reversed" p2) [e] [] pos2] [] pos) (drevO ownO mr) := fun hx C =>
  (pe_lstRev hx.calm hg hm hg2 hm2 (he hx C) hs hs2).imp fun σ H Q h => rev_step (fun F H' w ts vs R r q => new_own R r q) h
theorem do_trev {mr : M R} (hg : Gl X "tuple") (hm : X.mg "tuple" = none) (hg2 : Gl X "reversed") (hm2 : X.mg "reversed" = none) (he : DR k X e mr) (hs : starEach [e] X.env = (false, eval e X.env) :: starEach [] X.env := by rfl)
    (hs2 : starEach [.Call (.Name "reversed" p2) [e] [] pos2] X.env = (false, eval (.Call (.Name "reversed" p2) [e] [] pos2) X.env) :: starEach [] X.env := by rfl) : DO k X (.Call (.Name "tuple" p) [.Call (.Name "reversed" p2) [e] [] pos2] [] pos) (drevO tupO mr) := fun hx C =>
  (RT.pe_tupRev hx.calm hg hm hg2 hm2 (he hx C) hs hs2).imp fun σ H Q h => rev_step (fun F H' w ts vs R r q => new_tup R r q) h
/-! ### isinstance -/
def tyN : D → String
  | .none => "NoneType"
  | .bool _ => "bool"
  | .int _ => "int"
  | .str _ => "str"
  | .list _ => "list"
  | .tuple _ => "tuple"
  | .dict _ => "dict"
def isInt : D → Bool
  | .int _ => true
  | .bool _ => true
  | _ => false
def isBool : D → Bool
  | .bool _ => true
  | _ => false
def isStr : D → Bool
  | .str _ => true
  | _ => false
def isTup : D → Bool
  | .tuple _ => true
  | _ => false
def isLst : D → Bool
  | .list _ => true
  | _ => false
def isDct : D → Bool
  | .dict _ => true
  | _ => false
theorem ki_int (d : D) : kitB (tyN d) "int" = some (isInt d) := by cases d <;> kernel_rfl
theorem ki_bool (d : D) : kitB (tyN d) "bool" = some (isBool d) := by cases d <;> kernel_rfl
theorem ki_str (d : D) : kitB (tyN d) "str" = some (isStr d) := by cases d <;> kernel_rfl
theorem ki_tup (d : D) : kitB (tyN d) "tuple" = some (isTup d) := by cases d <;> kernel_rfl
theorem ki_lst (d : D) : kitB (tyN d) "list" = some (isLst d) := by cases d <;> kernel_rfl
theorem ki_dct (d : D) : kitB (tyN d) "dict" = some (isDct d) := by cases d <;> kernel_rfl
theorem Vw.ty {K : PySem.W.Frag} {F H : Hp} (le : Same F H) {d : D} {v : V} (h : Vw F H d v) : TyX K H v (.type (tyN d)) := by
  cases d with
  | none =>
    rw [show v = V.non from h]
    exact .base .non
  | bool b =>
    rw [show v = V.bl b from h]
    exact .base (.bl b)
  | int i =>
    rw [show v = V.int i from h]
    exact .base (.int i)
  | str x =>
    rw [show v = V.str x from h]
    exact .base (.str x)
  | list xs =>
    obtain ⟨a, vs, rfl, h1, _⟩ := h
    exact .base (.lst h1)
  | tuple xs =>
    obtain ⟨a, vs, rfl, h1, _⟩ := h
    exact .base (.tup (le _ _ h1))
  | dict xs =>
    obtain ⟨a, vs, rfl, h1, _⟩ := h
    exact .base (.dK h1)
def disi (f : D → Bool) (m : M R) : M D := bnd m fun x => fun w => match x.look w with
  | some d => some (.bool (f d), w)
  | none => none
theorem dv_isi {T : String} {x : Str} {f : D → Bool} {mr : M R} (hk : ∀ d, kitB (tyN d) T = some (f d)) (hg : Gl X "isinstance") (hm : X.mg "isinstance" = none) (hg2 : Gl X x) (hm2 : X.mg x = none) (hv : bootBuiltins x = some (.type T)) (he : DR k X e mr)
    (hn : x ≠ "__name__" := by decide) (hd : (x == ("__debug__" : Str)) = false := by decide)
    (hs : starEach [e, .Name x p2] X.env = (false, eval e X.env) :: starEach [.Name x p2] X.env := by rfl) (hs2 : starEach [.Name x p2] X.env = (false, eval (.Name x p2) X.env) :: starEach [] X.env := by rfl)
    (hpl : (backTo pos (starEach [.Name x p2] X.env)).any (·.1) = false := by rfl) : DV k X (.Call (.Name "isinstance" p) [e, .Name x p2] [] pos) (disi f mr) := fun hx C =>
  (pe_callB (id := "isinstance") call_isi hg hm (by decide +kernel) (pa_cons (he hx C) (pa_cons (pe_bltn (v := .ty T) hg2 hm2 hv rfl hn hd) pa_nil hs2) hs) (by decide) (by decide) hs hpl).imp fun σ H Q ⟨F, w, o, w', Re, em, q⟩ => by
    obtain ⟨y, w1, e1, em1⟩ := bnd_inv em
    refine ⟨F, w, y, w1, Re, e1, fun F1 H1 v s1 R1 r => ?_⟩
    split at em1
    · rename_i d el
      cases em1
      exact ⟨v, .ty T, _, _, _, rfl, .ty T, (R1.look r el).ty R1.le, kit_ty (hk d), q F1 H1 _ s1 R1 rfl⟩
    · cases em1
/-! ### constants of the module -/
theorem dv_globI {x : Str} {i : Int} {t : Tok} (hg : Gl X x) (hm : X.mg x = some (.int i t)) (hd : (x == ("__debug__" : Str)) = false := by decide) : DV k X (.Name x pos) (ret (.int i)) := fun _ C =>
  (pe_glob (v := .int i) hg hm ⟨t, rfl⟩ hd).imp fun σ H Q ⟨F, w, o, w', Re, em, q⟩ => by
    cases em
    exact q F H _ (Same.refl F) Re rfl
theorem dv_globS {x : Str} {z : Str} {t : Tok} (hg : Gl X x) (hm : X.mg x = some (.str z t)) (hd : (x == ("__debug__" : Str)) = false := by decide) : DV k X (.Name x pos) (ret (.str z)) := fun _ C =>
  (pe_glob (v := .str z) hg hm ⟨t, rfl⟩ hd).imp fun σ H Q ⟨F, w, o, w', Re, em, q⟩ => by
    cases em
    exact q F H _ (Same.refl F) Re rfl
/-! ### list.index, tuple.index -/
end
def idxI (ns : List Int) (i : Int) : Option Nat := ns.findIdx? (· == i)
def fIndex : Mth := fun s ds => match s, ds with
  | .own ts, [.int i] => match intsOf ts with
    | some ns => (idxI ns i).map fun j => (.int j, .own ts)
    | none => none
  | _, _ => none
theorem idxI_at {ns : List Int} {i : Int} {j : Nat} (h : idxI ns i = some j) : ns[j]? = some i ∧ ∀ m z, m < j → ns[m]? = some z → (z == i) = false := by
  obtain ⟨h1, h2, h3⟩ := List.findIdx?_eq_some_iff_getElem.mp h
  refine ⟨?_, fun m z hm hz => ?_⟩
  · rw [List.getElem?_eq_getElem h1, eq_of_beq h2]
  · have := h3 m hm
    obtain ⟨hl, e⟩ := List.getElem?_eq_some_iff.mp hz
    rw [e] at this
    simpa using this
theorem mo_index {K : PySem.W.Frag} : MtOk fIndex (rIndex K) := by
  intro F H a u s s' ds vs d Q le h c r ef q
  unfold fIndex at ef
  split at ef <;> first | cases ef | skip
  rename_i ts i
  split at ef <;> first | cases ef | skip
  rename_i ns e1
  cases e2 : idxI ns i with
  | none =>
    rw [e2] at ef
    cases ef
  | some j =>
    rw [e2] at ef
    cases ef
    cases intsOf_inv e1
    obtain ⟨us, rfl, c⟩ := c
    obtain ⟨v, t, rfl, r1, r2⟩ := r
    cases (show t = [] from r2)
    cases (show v = .int i from r1)
    obtain ⟨z1, z2⟩ := idxI_at e2
    have c2 : CRel F (.own (ns.map PyData.int)) (.lst us) := ⟨us, rfl, c⟩
    have e4 : upd H a (.lst us) = H := by
      funext b
      unfold upd
      split
      · rename_i e
        rw [e, h]
      · rfl
    have q2 := q _ _ c2 rfl
    rw [e4] at q2
    rw [c.ints] at h
    refine ⟨a, _, _, j, .int i, rfl, rfl, .of h, rfl, ?_, ?_, ?_, fun m z' hm hz => ?_, ?_⟩
    · rw [List.all_map]
      exact List.all_eq_true.mpr fun _ _ => rfl
    · rw [List.getElem?_map, z1]
      rfl
    · exact beq_self_eq_true i
    · rw [List.getElem?_map] at hz
      cases e3 : ns[m]? with
      | none =>
        rw [e3] at hz
        cases hz
      | some y =>
        rw [e3] at hz
        cases hz
        exact z2 m y hm e3
    · exact q2
theorem mine_index : ∀ s ds x, fIndex s ds = some x → s.mine = true := fun s ds x h => by cases s <;> first | rfl | (unfold fIndex at h; cases h)
end TL
set_option Elab.async false
set_option linter.all false
set_option maxRecDepth 100000
set_option maxHeartbeats 4000000
/-! TL, part 15: a, b = e1, e2 by way of the tuple; dicts. -/
namespace TL
open PySem L2
theorem RO.put {C : Cn} {F H : Hp} {σ : L2.St} {w : W} {p : Addr} {u : HO} (hp : H p = none) : ∀ {o : O} {v : V}, (∀ b, o ≠ .nb b) → RO C F H σ w o v → RO C F (upd H p u) σ w o v
  | .v d, _, _, h => h
  | .s t, _, _, ⟨a, x, e, h1, h2⟩ => ⟨a, x, e, by
      rw [upd_ne fun z => by
        rw [z, hp] at h1
        cases h1]
      exact h1, h2⟩
  | .nb b, _, n, _ => absurd rfl (n b)
section
variable {k : Nat} {X : Cx} {pos : Pos}
theorem ds_par2T {i j : Nat} {x y : Str} {a b : Expr} {m : M (List O)} {px py pt : Pos} {kt k2 pt2} (hN : X.N.Nodup) (hi : X.N[i]? = some x) (hj : X.N[j]? = some y) (hx1 : Loc X.env.scope x) (hy : Loc X.env.scope y) (ha : DOs k X [a, b] m)
    (hfx : X.fn x = true ∨ X.env.scope.names.lookup x = some .local := by first | exact .inl rfl | exact .inr rfl | assumption) (hfy : X.fn y = true ∨ X.env.scope.names.lookup y = some .local := by first | exact .inl rfl | exact .inr rfl | assumption)
    (hs : swapsWithSole [.Tuple [.Name x px, .Name y py] kt pt] (.Tuple [a, b] k2 pt2) pos.line X.env = pure false := by rfl) (hw : swappedStores [.Tuple [.Name x px, .Name y py] kt pt] (.Tuple [a, b] k2 pt2) X.env = pure none := by rfl)
    (h1 : (assignEach [.Tuple [.Name x px, .Name y py] kt pt] X.env).map (·.2) = [assign (.Tuple [.Name x px, .Name y py] kt pt) X.env] := by rfl)
    (hs2 : (assignEach [.Name x px, .Name y py] X.env).map (·.2) = assign (.Name x px) X.env :: (assignEach [.Name y py] X.env).map (·.2) := by rfl) (hs3 : (assignEach [.Name y py] X.env).map (·.2) = assign (.Name y py) X.env :: (assignEach [] X.env).map (·.2) := by rfl)
    (hn : (assignEach [.Name x px, .Name y py] X.env).length = 2 := by rfl) (hst : (assignEach [.Name x px, .Name y py] X.env).findIdx? (·.1) = none := by rfl) :
    DS k X (.Assign [.Tuple [.Name x px, .Name y py] kt pt] (.Tuple [a, b] k2 pt2) pos) (spar2 i j m) := fun hx C =>
  (ps_asg (pe_tup (ha hx C)) (pg_tup hx.calm (pgs_cons (pg_name hN hi hx1 hfx) (pgs_cons (pg_name hN hj hy hfy) pgs_nil hs3) hs2) hn hst) hs hw h1).imp fun Dn σ H ⟨F, w, o, w', Re, em, q⟩ => by
    obtain ⟨os, w1, e1, em⟩ := bnd_inv em
    refine ⟨F, w, os, w1, Re, e1, fun F1 H1 vs s1 R1 r1 => ?_⟩
    match os, em, r1 with
    | [oa, ob], em, r1 =>
      have em : ((sto i oa w1).bind fun w1 => (sto j ob w1).map fun w2 => (Out.nx, w2)) = some (o, w') := em
      obtain ⟨v, _, rfl, h1, ⟨u, _, rfl, h2, h3, h4⟩, h5⟩ := r1
      cases (show _ = [] from h3)
      have hn := bind_nx (fun w p h => map_nx h) em
      cases (show o = .nx from hn)
      have na : ∀ b, oa ≠ .nb b := fun b e => by
        subst e
        cases em
      have nb : ∀ b, ob ≠ .nb b := fun b e => by
        subst e
        cases e0 : sto i oa w1 with
        | none =>
          rw [e0] at em
          cases em
        | some w2 =>
          rw [e0] at em
          cases em
      refine ⟨by rw [sizeLine_eq]; show 2 ≤ _; omega, fun p hp => ?_⟩
      obtain ⟨f1, f2⟩ := R1.fresh hp
      have R2 := par2_step (R1.put (o := .tup [v, u]) f1 f2) ⟨v, _, rfl, h1.put hp na, ⟨u, _, rfl, h2.put hp nb, rfl, h4⟩, h5⟩ em
      exact ⟨p, [v, u], rfl, .of upd_same, rfl, v, [u], rfl, u, [], rfl, rfl, q F1 _ _ s1 R2⟩
end
end TL
set_option Elab.async false
set_option linter.all false
set_option maxRecDepth 100000
set_option maxHeartbeats 4000000
/-! TL, part 16: the bag. -/
namespace TL
open PySem L2
theorem Rel.bagPut {C : Cn} {F H H' : Hp} {σ : L2.St} {w : W} (R : Rel C F σ H w) {b : Bg} (hb : BagAt C.bg H' b) (k : ∀ c, ¬ isB C.bg c → H' c = H c) : Rel C F σ H' { w with b := b } where
  base := fun c o e z => (k c z).trans (R.base c o e z)
  le0 := R.le0
  le := fun c o e => (k c fun z => by
    rw [R.nb c z] at e
    cases e).trans (R.le c o e)
  fz := R.fz
  nb := R.nb
  bag := hb
  len := R.len
  slot := fun i s e => (R.slot i s e).step (Same.refl F) fun m a e2 q => ⟨k a q.2.1, q.1⟩
  apart := R.apart
theorem ints_plain : ∀ ns : List Int, PyData.plainAll (ns.map PyData.int) = true
  | [] => rfl
  | n :: ns => by
    rw [List.map_cons, PyData.plainAll, ints_plain ns]
    rfl
theorem pNe_ints (ns : List Int) : pNe (.list (ns.map .int)) (.list []) = some (.v (.bool (!ns.isEmpty))) := by
  unfold pNe
  rw [if_pos ⟨by rw [PyData.plain]; exact ints_plain ns, by rw [PyData.plain]; rfl, Nat.le_trans (Nat.min_le_right _ _) (by decide)⟩]
  cases ns <;> rfl
def dbag (i j : Nat) : M D := fun w => match w.r[i]? with
  | some .bag => if j = 1 then some (.int w.b.2.1, w) else if j = 2 then some (.int w.b.2.2, w) else none
  | _ => none
theorem dbag_inv {i j : Nat} {w w' : W} {d : D} (h : dbag i j w = some (d, w')) : w.r[i]? = some .bag ∧ w' = w ∧ ((j = 1 ∧ d = .int w.b.2.1) ∨ (j = 2 ∧ d = .int w.b.2.2)) := by
  unfold dbag at h
  split at h
  · rename_i e
    split at h
    · rename_i h1
      cases h
      exact ⟨e, rfl, .inl ⟨h1, rfl⟩⟩
    · split at h
      · rename_i h1
        cases h
        exact ⟨e, rfl, .inr ⟨h1, rfl⟩⟩
      · cases h
  · cases h
def dbne (i : Nat) : M Bool := fun w => match w.r[i]? with
  | some .bag => some (!w.b.1.isEmpty, w)
  | _ => none
def dbpop (i : Nat) : M D := fun w => match w.r[i]? with
  | some .bag => match w.b.1[w.b.1.length - 1]? with
    | some c => some (.int c, { w with b := (w.b.1.dropLast, w.b.2) })
    | none => none
  | _ => none
def sbag (i j : Nat) (m : M D) : M Out := bnd m fun d => fun w => match w.r[i]?, d with
  | some .bag, .int n => if j = 1 then some (.nx, { w with b := (w.b.1, n, w.b.2.2) }) else if j = 2 then some (.nx, { w with b := (w.b.1, w.b.2.1, n) }) else none
  | _, _ => none
section
variable {k : Nat} {X : Cx} {C : Cn} {o : Expr} {pos p1 p2 p3 : Pos} {i : Nat} {kk : Nat}
theorem bag_at {F H : Hp} {σ : L2.St} {w : W} (R : Rel C F σ H w) (h : w.r[i]? = some .bag) : ∃ p q, C.bg = some (p, q) ∧ σ[i]? = some (some (V.ref p)) ∧ p ≠ q ∧ H p = some (.lst [V.ref q, V.int w.b.2.1, V.int w.b.2.2]) ∧ H q = some (.lst (w.b.1.map V.int)) := by
  obtain ⟨⟨p, q⟩, e1, e2⟩ := R.slot i _ h
  have hb := R.bag
  rw [e1] at hb
  exact ⟨p, q, e1, e2, hb⟩
theorem dv_bag1 (ho : PE X o (tVar i)) (hs : PlainIx (.Constant (.int 1) kk p1)) : DV k X (.Subscript o (.Constant (.int 1) kk p1) pos) (dbag i 1) := fun hx C =>
  (pe_ix ix_list ho pe_int hs).imp fun σ H Q ⟨F, w, d, w', Re, em, q⟩ => by
    obtain ⟨e, rfl, z⟩ := dbag_inv em
    obtain ⟨p, r, e1, e2, e3, e4, e5⟩ := bag_at Re e
    rcases z with ⟨_, rfl⟩ | ⟨z, _⟩
    · exact ⟨_, e2, p, _, 1, _, rfl, rfl, .of e4, rfl, q F H _ (Same.refl F) Re rfl⟩
    · cases z
theorem dv_bag2 (ho : PE X o (tVar i)) (hs : PlainIx (.Constant (.int 2) kk p1)) : DV k X (.Subscript o (.Constant (.int 2) kk p1) pos) (dbag i 2) := fun hx C =>
  (pe_ix ix_list ho pe_int hs).imp fun σ H Q ⟨F, w, d, w', Re, em, q⟩ => by
    obtain ⟨e, rfl, z⟩ := dbag_inv em
    obtain ⟨p, r, e1, e2, e3, e4, e5⟩ := bag_at Re e
    rcases z with ⟨z, _⟩ | ⟨_, rfl⟩
    · cases z
    · exact ⟨_, e2, p, _, 2, _, rfl, rfl, .of e4, rfl, q F H _ (Same.refl F) Re rfl⟩
theorem dt_bagNe (ho : PE X o (tVar i)) (hs : PlainIx (.Constant (.int 0) kk p1)) (hm : behindInMarks .NotEq (.List [] p2) = false) : DT k X (.Compare (.Subscript o (.Constant (.int 0) kk p1) p3) [.NotEq] [.List [] p2] pos) (dbne i) := fun hx C =>
  (pt_cmpR (or_ne (C := C) hx) (pe_ix ix_list ho pe_int hs) (pe_lst pa_nil) hm).imp fun σ H Q ⟨F, w, c, w', Re, em, q⟩ => by
    unfold dbne at em
    split at em
    · rename_i e
      cases em
      obtain ⟨p, r, e1, e2, e3, e4, e5⟩ := bag_at Re e
      refine ⟨_, e2, p, _, 0, _, rfl, rfl, .of e4, rfl, Nat.zero_le _, fun a ha => ?_⟩
      obtain ⟨f1, f2⟩ := Re.fresh ha
      have hra : r ≠ a := fun z => by
        rw [← z, e5] at ha
        cases ha
      refine ⟨F, σ, w, .list (w.b.1.map .int), .list [], _, Re.put f1 f2, ⟨r, _, rfl, ?_, Rps.of_ints _⟩, ⟨a, [], rfl, upd_same, rfl⟩, pNe_ints _, fun F1 H1 v s1 R1 r1 => ⟨_, r1, q F1 H1 s1 R1⟩⟩
      rw [upd_ne hra]
      exact e5
    · cases em
theorem dv_bagPop {apos cpos : Pos} (ho : PE X o (tVar i)) (hs : PlainIx (.Constant (.int 0) kk p1)) (hbase : attributeBase (.Subscript o (.Constant (.int 0) kk p1) p3) "pop" X.env (eval (.Subscript o (.Constant (.int 0) kk p1) p3) X.env) = eval (.Subscript o (.Constant (.int 0) kk p1) p3) X.env := by rfl)
    (hline : (apos.endLine == cpos.line) = true := by rfl) : DV k X (.Call (.Attribute (.Subscript o (.Constant (.int 0) kk p1) p3) "pop" apos) [] [] cpos) (dbpop i) := fun hx C =>
  (pe_bm0 PySem.F.plainAttrs_list PySem.F.slot_list_pop PySem.F.type_list_pop mt_pop (pe_ix ix_list ho pe_int hs) hbase hline).imp fun σ H Q ⟨F, w, d, w', Re, em, q⟩ => by
    unfold dbpop at em
    split at em
    · rename_i e
      split at em
      · rename_i c ec
        cases em
        obtain ⟨p, r, e1, e2, e3, e4, e5⟩ := bag_at Re e
        refine ⟨_, e2, p, _, 0, _, rfl, rfl, .of e4, rfl, kdL.ty F H (.own (w.b.1.map .int)) r _ rfl ⟨_, rfl, Rps.of_ints _⟩ e5, r, _, V.int c, rfl, rfl, e5, ?_, ?_⟩
        · rw [List.length_map, List.getElem?_map, ec]
          rfl
        · refine q F _ _ (Same.refl F) (Re.bagPut ?_ fun a na => upd_ne fun z => na ?_) rfl
          · rw [e1]
            refine ⟨e3, (upd_ne e3).trans e4, ?_⟩
            show upd H r _ r = _
            rw [upd_same, List.map_dropLast]
          · rw [e1, z]
            exact .inr rfl
      · cases em
    · cases em
theorem ds_bag1 {m : M D} {e : Expr} (h : DV k X e m) (ho : PE X o (tVar i)) (ha : ∀ v, assign (.Subscript o (.Constant (.int 1) kk p1) p2) X.env v = (do
      let ov ← holding [v] (eval o X.env)
      let iv ← holding [v, ov] (eval (.Constant (.int 1) kk p1) X.env)
      standAt p2
      holding [v, ov, iv] (setItem ov iv v)
      release [v, ov, iv] []) := by intro _; rfl) (hs : swapsWithSole [.Subscript o (.Constant (.int 1) kk p1) p2] e pos.line X.env = pure false := by rfl) (hw : swappedStores [.Subscript o (.Constant (.int 1) kk p1) p2] e X.env = pure none := by rfl)
    (h1 : (assignEach [.Subscript o (.Constant (.int 1) kk p1) p2] X.env).map (·.2) = [assign (.Subscript o (.Constant (.int 1) kk p1) p2) X.env] := by rfl) : DS k X (.Assign [.Subscript o (.Constant (.int 1) kk p1) p2] e pos) (sbag i 1 m) := fun hx C =>
  (ps_asg (h hx C) (pg_sub ho pe_int set_list ha) hs hw h1).imp fun Dn σ H ⟨F, w, o', w', Re, em, q⟩ => by
    obtain ⟨d, w1, e1, em⟩ := bnd_inv em
    refine ⟨F, w, d, w1, Re, e1, fun F1 H1 v s1 R1 r1 => ?_⟩
    split at em
    · rename_i n e
      cases em
      obtain ⟨p, r, g1, g2, g3, g4, g5⟩ := bag_at R1 e
      obtain rfl : v = .int n := r1
      refine ⟨_, g2, p, _, 1, 1, rfl, rfl, g4, rfl, q F1 _ σ s1 (R1.bagPut ?_ fun a na => upd_ne fun z => na ?_)⟩
      · rw [g1]
        exact ⟨g3, upd_same, (upd_ne (Ne.symm g3)).trans g5⟩
      · rw [g1, z]
        exact .inl rfl
    · cases em
theorem ds_bag2 {m : M D} {e : Expr} (h : DV k X e m) (ho : PE X o (tVar i)) (ha : ∀ v, assign (.Subscript o (.Constant (.int 2) kk p1) p2) X.env v = (do
      let ov ← holding [v] (eval o X.env)
      let iv ← holding [v, ov] (eval (.Constant (.int 2) kk p1) X.env)
      standAt p2
      holding [v, ov, iv] (setItem ov iv v)
      release [v, ov, iv] []) := by intro _; rfl) (hs : swapsWithSole [.Subscript o (.Constant (.int 2) kk p1) p2] e pos.line X.env = pure false := by rfl) (hw : swappedStores [.Subscript o (.Constant (.int 2) kk p1) p2] e X.env = pure none := by rfl)
    (h1 : (assignEach [.Subscript o (.Constant (.int 2) kk p1) p2] X.env).map (·.2) = [assign (.Subscript o (.Constant (.int 2) kk p1) p2) X.env] := by rfl) : DS k X (.Assign [.Subscript o (.Constant (.int 2) kk p1) p2] e pos) (sbag i 2 m) := fun hx C =>
  (ps_asg (h hx C) (pg_sub ho pe_int set_list ha) hs hw h1).imp fun Dn σ H ⟨F, w, o', w', Re, em, q⟩ => by
    obtain ⟨d, w1, e1, em⟩ := bnd_inv em
    refine ⟨F, w, d, w1, Re, e1, fun F1 H1 v s1 R1 r1 => ?_⟩
    split at em
    · rename_i n e
      cases em
      obtain ⟨p, r, g1, g2, g3, g4, g5⟩ := bag_at R1 e
      obtain rfl : v = .int n := r1
      refine ⟨_, g2, p, _, 2, 2, rfl, rfl, g4, rfl, q F1 _ σ s1 (R1.bagPut ?_ fun a na => upd_ne fun z => na ?_)⟩
      · rw [g1]
        exact ⟨g3, upd_same, (upd_ne (Ne.symm g3)).trans g5⟩
      · rw [g1, z]
        exact .inl rfl
    · cases em
end
end TL
set_option Elab.async false
set_option linter.all false
set_option maxRecDepth 100000
set_option maxHeartbeats 4000000
/-! TL, part 17: dicts whose keys are tuples: their pairs, a copy, a display. -/
namespace TL
open PySem L2
theorem frzP {X : Cx} {pins : List (Addr × Obj)} {σ : L2.St} {H : Hp} {s : Shared} {d : Addr} {o : Obj} {kvs : List (List L2.Key × V)} (I : L2.Inv X pins σ H s) (h : H d = some (.frz o (.dT kvs))) :
    (d == sysModules) = false ∧ ∃ es ep, DT.Raw s.heap d es ep ∧ o.data = .dict es ep ∧ es.size = kvs.length ∧ ∀ (i : Nat) k v, kvs[i]? = some (k, v) → ∃ (hi : i < es.size) (q : Addr), es[i].key = Value.ref q ∧ RelV v es[i].val ∧ H q = some (.tup (k.map kV)) := by
  obtain ⟨hd, z, hs, xs, pr, o', es, ep, ho, hx, hdt, he, _⟩ := I.hok d _ h
  rw [hd] at ho
  cases ho
  refine ⟨hs, es, ep, ⟨o, hd, hx, hdt⟩, hdt, ?_, fun i k v e => ?_⟩
  · have l1 : es.size = xs.length := size_of_entries he
    have l2 : kvs.length = xs.length := Paired.length pr
    omega
  · obtain ⟨b, hb, e1, e2, e3⟩ := L2.paired_get pr e
    have q := entry_at he i
    rw [hb] at q
    obtain ⟨hi, q⟩ := Array.getElem?_eq_some_iff.mp q
    refine ⟨hi, b.2.1, ?_, ?_, e2⟩
    · rw [q]
      rfl
    · rw [q]
      exact e3
def ItP (d : Addr) (o : Obj) (kvs : List (List L2.Key × V)) : It :=
  ⟨fun i H => H d = some (.frz o (.dT kvs)) ∧ i < kvs.length, fun i H x H' => ∃ T k v q, kvs[i]? = some (k, v) ∧ H q = some (.tup (k.map kV)) ∧ x = V.ref T ∧ H T = none ∧ H' = upd H T (.tup [V.ref q, v]), fun i H => H d = some (.frz o (.dT kvs)) ∧ kvs.length ≤ i⟩
theorem turn_P {P : Program} {w : World} {K : PySem.W.Frag} {d : Addr} {o : Obj} {es : Array DictEntry} {ep : Nat} {kvs : List (List L2.Key × V)} {elts : List Expr} {kk : Nat} {tpos : Pos} (it : Addr) (hod : o.data = .dict es ep) :
    Turn P w K (.Tuple elts kk tpos) (ItP d o kvs) [it] it (fun i h => ∃ u v, IsItemIter h it d i kvs.length ep u v) where
  mem := List.mem_singleton.mpr rfl
  obj := fun i h ⟨u, v, e⟩ b hb => by
    cases List.mem_singleton.mp hb
    exact ⟨_, e, fun v z => nomatch z⟩
  keep := fun i h h' ⟨u, v, e⟩ k => ⟨u, v, k it (List.mem_singleton.mpr rfl) _ e⟩
  item := by
    intro X hP hw hK hc i pins s σ H E I hf ⟨u, v, he⟩ ⟨hd, hi⟩
    cases hP
    cases hw
    cases hK
    obtain ⟨hs, es', ep', raw, hdt, hsz, ent⟩ := frzP I hd
    obtain ⟨rfl, rfl⟩ := dict_ep hod hdt
    obtain ⟨⟨k, x⟩, hkv⟩ : ∃ p, kvs[i]? = some p := ⟨kvs[i], List.getElem?_eq_getElem hi⟩
    obtain ⟨hie, q, hkey, rx, hq⟩ := ent i k x hkv
    have small : it < s.heap.objs.size := Heap.lt_size he
    rw [← hsz] at he
    refine DT.nextI he raw hie fun h' out new sz keep => ?_
    refine ⟨_, rfl, wpAny_letOwnedTupleGo_items (s := { s with heap := h' }) out fun h2 he2 same => ?_⟩
    have new2 : h2.get? s.heap.objs.size = some { cls := .type "tuple", data := .seq #[es'[i].key, es'[i].val] } := (same.2 _ (Nat.ne_of_gt small)).trans new
    have ok : ObjOk X.prog X.w (upd H s.heap.objs.size (.tup [V.ref q, x])) h2 s.heap.objs.size (.tup [V.ref q, x]) :=
      ⟨by show 2 ≤ sizeLine; decide, [es'[i].key, es'[i].val], .cons hkey (.cons rx .nil), ⟨_, new2, rfl, _, rfl⟩⟩
    have I2 := I.turnedNew (t' := s.toks) (ch := [it]) (fun b ob hb e => (same.2 b fun z => hb (List.mem_singleton.mpr z)).trans (keep b ob (fun z => hb (List.mem_singleton.mpr z)) e)) hf (Nat.le_refl _) ok
    refine ⟨.ref s.heap.objs.size, _, I2, rfl, ⟨_, k, x, q, hkv, hq, rfl, I.hok.fresh (Nat.le_refl _), rfl⟩, ⟨_, _, by rw [← hsz]; exact he2⟩, fun b hb => ?_⟩
    cases List.mem_singleton.mp hb
    rw [upd_ne (Nat.ne_of_lt small)]
    exact (hf it (List.mem_singleton.mpr rfl)).1
  done := by
    intro X hP hw hK hc i pins s σ H E I hf ⟨u, v, he⟩ ⟨hd, hi⟩
    cases hP
    cases hw
    cases hK
    obtain ⟨f0, f1, f2, f3, f4, f5⟩ := hf it (List.mem_singleton.mpr rfl)
    obtain ⟨hs, es', ep', raw, hdt, hsz, ent⟩ := frzP I hd
    obtain ⟨rfl, rfl⟩ := dict_ep hod hdt
    rw [← hsz] at he
    exact DT.endI (I.ok.hd hc) he raw (by rw [hsz]; exact hi) fun h' eb => ⟨rfl, I.turned (t' := s.toks) (fun b ob hb e => eb b ob hb e) f0 f1 f3 f4 f5⟩
  self := fun A i s Q E ⟨_, _, e⟩ h => PySem.W.kcp_self e h
/-- for .. in e.items(): the dict is locked -/
def iP (td : TE) : TI := fun σ H R => td σ H fun x H1 => ∃ d kvs, x = V.ref d ∧ H1 d = some (.dT kvs) ∧ ∀ o, R (ItP d o kvs) (upd H1 d (.frz o (.dT kvs)))
section
variable {X : Cx} {e : Expr} {td : TE} {apos cpos : Pos}
theorem pi_P {elts : List Expr} {kk : Nat} {tpos : Pos} (he : PE X e td) (hbase : attributeBase e "items" X.env (eval e X.env) = eval e X.env := by rfl) (hline : (apos.endLine == cpos.line) = true := by rfl) :
    PI X (.Tuple elts kk tpos) (.Call (.Attribute e "items" apos) [] [] cpos) (iP td) := ⟨fun pins s σ H R I h => by
  refine wpAny_Call_method (T := "dict") (id := "dict.items") hbase rfl hline PySem.F.plainAttrs_dict PySem.F.slot_dict_items PySem.F.type_dict_items (thn (he.run pins s σ H _ I h) fun u s1 z => ?_)
  obtain ⟨x, H1, I1, rx, d, kvs, rfl, hd, q⟩ := z
  obtain rfl : u = Value.ref d := rx
  obtain ⟨od, IL⟩ := I1.lock hd True.intro
  obtain ⟨hs, es, ep, raw, hdt, hsz, _⟩ := frzP IL upd_same
  have raw2 := raw
  obtain ⟨ob, hob, hex, _⟩ := raw2
  refine ⟨raw.typeIs, fun b z => ?_, ?_⟩
  · cases z
    exact ⟨ob, hob, hex.2.1⟩
  have I2 : L2.Inv X pins σ (upd H1 d (.frz od (.dT kvs))) { s1 with heap := s1.heap.push { cls := .type "dict_items", data := .fields #[.ref d] } } := IL.kept (t' := s1.toks) fun b ob e => Heap.get?_push_of_some _ e
  have walk : wpAny (model X.prog X.w) X.A (pyIter (.ref s1.heap.objs.size)) (PIE X pins σ (.Tuple elts kk tpos) R) X.xe { s1 with heap := s1.heap.push { cls := .type "dict_items", data := .fields #[.ref d] } } :=
    DT.iterI (s := { s1 with heap := s1.heap.push _ }) ⟨_, Heap.get?_push_size _ rfl, rfl, rfl⟩ (raw.push _) (pi_one (tk := s1.toks) I2 _ (turn_P _ hdt) ⟨.none, .none, by rw [← hsz]; exact Heap.get?_push_size _ rfl⟩ (q od))
  show wpAny _ _ (callWith cpos (.builtin "dict.items") [.ref d] [] []) _ X.xe s1
  exact method_meetsIn PySem.F.slot_dict_items PySem.F.entry_dict_items rfl (PySem.evalArgs_none ⟨rfl, raw.typeIs, PySem.F.args_dict_items_1 _, _, DT.meetsItems hs, raw, walk⟩)⟩
end
/-! ### keys as data -/
def keysOf : List D → Option (List L2.Key)
  | [] => some []
  | .int i :: r => (keysOf r).map (.inl i :: ·)
  | .str z :: r => (keysOf r).map (.inr z :: ·)
  | _ => none
theorem keysOf_inv : ∀ {ds : List D} {ks : List L2.Key}, keysOf ds = some ks → ds = ks.map keyD
  | [], _, h => by
    cases h
    rfl
  | d :: r, ks, h => by
    cases d with
    | int i =>
      have h : (keysOf r).map (.inl i :: ·) = some ks := h
      cases e : keysOf r with
      | none =>
        rw [e] at h
        cases h
      | some q =>
        rw [e] at h
        cases h
        rw [keysOf_inv e]
        rfl
    | str z =>
      have h : (keysOf r).map (.inr z :: ·) = some ks := h
      cases e : keysOf r with
      | none =>
        rw [e] at h
        cases h
      | some q =>
        rw [e] at h
        cases h
        rw [keysOf_inv e]
        rfl
    | _ => cases h
theorem rps_keys {F : Hp} : ∀ ks : List L2.Key, Rps F (ks.map keyD) (ks.map kV)
  | [] => rfl
  | .inl i :: r => ⟨_, _, rfl, rfl, rps_keys r⟩
  | .inr z :: r => ⟨_, _, rfl, rfl, rps_keys r⟩
theorem rps_keys_eq {F : Hp} : ∀ {ks : List L2.Key} {vs : List V}, Rps F (ks.map keyD) vs → vs = ks.map kV
  | [], _, h => h
  | .inl i :: r, _, ⟨v, t, e, h1, h2⟩ => by
    rw [e, show v = V.int i from h1, rps_keys_eq h2]
    rfl
  | .inr z :: r, _, ⟨v, t, e, h1, h2⟩ => by
    rw [e, show v = V.str z from h1, rps_keys_eq h2]
    rfl
/-- what a dict holds at k; with k put in -/
def valD (kvs : List (List L2.Key × D)) (k : List L2.Key) : Option D := (kvs.find? fun kv => decide (kv.1 = k)).map (·.2)
def putD (kvs : List (List L2.Key × D)) (k : List L2.Key) (v : D) : List (List L2.Key × D) := if (kvs.any fun kv => decide (kv.1 = k)) = true then kvs.map (fun kv => if kv.1 = k then (kv.1, v) else kv) else kvs ++ [(k, v)]
section
variable {F : Hp}
theorem Rpk.len {κ : Type} : ∀ {kvs : List (κ × D)} {ws : List (κ × V)}, Rpk F kvs ws → ws.length = kvs.length
  | [], _, h => by
    cases (show _ = [] from h)
    rfl
  | (_, _) :: r, _, ⟨v, q, e, h1, h2⟩ => by
    rw [e, List.length_cons, List.length_cons, Rpk.len h2]
theorem Rpk.at' {κ : Type} : ∀ {kvs : List (κ × D)} {ws : List (κ × V)}, Rpk F kvs ws → ∀ {i : Nat} {k : κ} {v : V}, ws[i]? = some (k, v) → ∃ d, kvs[i]? = some (k, d) ∧ Rp F d v
  | [], _, h, i, k, v, e => by
    cases (show _ = [] from h)
    cases e
  | (k0, d) :: r, _, ⟨v0, q, e, h1, h2⟩, i, k, v, e2 => by
    subst e
    cases i with
    | zero =>
      cases e2
      exact ⟨d, rfl, h1⟩
    | succ j =>
      exact Rpk.at' h2 (by simpa using e2)
theorem Rpk.val : ∀ {kvs : List (List L2.Key × D)} {ws : List (List L2.Key × V)} (k : List L2.Key), Rpk F kvs ws → (valV ws k = none ∧ valD kvs k = none) ∨ ∃ v d, valV ws k = some v ∧ valD kvs k = some d ∧ Rp F d v
  | [], _, k, h => by
    cases (show _ = [] from h)
    exact .inl ⟨rfl, rfl⟩
  | (k0, d) :: r, _, k, ⟨v0, q, e, h1, h2⟩ => by
    subst e
    by_cases hk : k0 = k
    · refine .inr ⟨v0, d, valV_pos hk, ?_, h1⟩
      unfold valD
      rw [List.find?_cons_of_pos (by simpa using hk)]
      rfl
    · rw [valV_neg (p := (k0, v0)) hk]
      have e2 : valD ((k0, d) :: r) k = valD r k := by
        unfold valD
        rw [List.find?_cons_of_neg (by simpa using hk)]
      rw [e2]
      exact Rpk.val k h2
theorem Rpk.any : ∀ {kvs : List (List L2.Key × D)} {ws : List (List L2.Key × V)} (k : List L2.Key), Rpk F kvs ws → (ws.any fun kv => decide (kv.1 = k)) = kvs.any fun kv => decide (kv.1 = k)
  | [], _, k, h => by
    cases (show _ = [] from h)
    rfl
  | (k0, d) :: r, _, k, ⟨v0, q, e, h1, h2⟩ => by
    rw [e, List.any_cons, List.any_cons, Rpk.any k h2]
theorem Rpk.repl : ∀ {kvs : List (List L2.Key × D)} {ws : List (List L2.Key × V)} (k : List L2.Key) {d : D} {v : V}, Rp F d v → Rpk F kvs ws → Rpk F (kvs.map fun kv => if kv.1 = k then (kv.1, d) else kv) (ws.map fun kv => if kv.1 = k then (kv.1, v) else kv)
  | [], _, k, d, v, r, h => by
    cases (show _ = [] from h)
    exact rfl
  | (k0, d0) :: r, _, k, d, v, hr, ⟨v0, q, e, h1, h2⟩ => by
    rw [e, List.map_cons, List.map_cons]
    by_cases hk : k0 = k
    · rw [if_pos hk, if_pos hk]
      exact ⟨v, _, rfl, hr, Rpk.repl k hr h2⟩
    · rw [if_neg hk, if_neg hk]
      exact ⟨v0, _, rfl, h1, Rpk.repl k hr h2⟩
theorem Rpk.snoc {κ : Type} : ∀ {kvs : List (κ × D)} {ws : List (κ × V)} {k : κ} {d : D} {v : V}, Rpk F kvs ws → Rp F d v → Rpk F (kvs ++ [(k, d)]) (ws ++ [(k, v)])
  | [], _, k, d, v, h, hr => by
    cases (show _ = [] from h)
    exact ⟨v, [], rfl, hr, rfl⟩
  | (k0, d0) :: r, _, k, d, v, ⟨v0, q, e, h1, h2⟩, hr => by
    subst e
    exact ⟨v0, _, rfl, h1, Rpk.snoc h2 hr⟩
theorem Rpk.put {kvs : List (List L2.Key × D)} {ws : List (List L2.Key × V)} (k : List L2.Key) {d : D} {v : V} (h : Rpk F kvs ws) (hr : Rp F d v) : Rpk F (putD kvs k d) (putK ws k v) := by
  unfold putD putK
  rw [h.any k]
  split
  · exact h.repl k hr
  · exact h.snoc hr
end
/-! ### the layer -/
def dtO (kvs : List (List L2.Key × D)) : O := .s (.dt kvs)
/-- d[key], d in slot i -/
def dgT (i : Nat) (m : M D) : M D := fun w => match w.r[i]? with
  | some (.dt _) => bnd m (fun d w => match d, w.r[i]? with
    | .tuple ds, some (.dt kvs) => match keysOf ds with
      | some ks => (valD kvs ks).map fun x => (x, w)
      | none => none
    | _, _ => none) w
  | _ => none
theorem dgT_inv {i : Nat} {m : M D} {w w' : W} {x : D} (h : dgT i m w = some (x, w')) : ∃ kv0 ds ks kvs, w.r[i]? = some (.dt kv0) ∧ m w = some (.tuple ds, w') ∧ w'.r[i]? = some (.dt kvs) ∧ keysOf ds = some ks ∧ valD kvs ks = some x := by
  unfold dgT at h
  split at h
  · rename_i kv0 e0
    obtain ⟨d, w1, e1, h1⟩ := bnd_inv h
    clear h
    cases d <;> first | cases h1 | skip
    rename_i ds
    cases e2 : w1.r[i]? with
    | none =>
      simp only [e2] at h1
      cases h1
    | some t =>
      cases t with
      | dt kvs =>
        simp only [e2] at h1
        cases e3 : keysOf ds with
        | none =>
          simp only [e3] at h1
          cases h1
        | some ks =>
          simp only [e3] at h1
          cases e4 : valD kvs ks with
          | none =>
            rw [e4] at h1
            cases h1
          | some y =>
            rw [e4] at h1
            cases h1
            exact ⟨kv0, ds, ks, kvs, e0, e1, e2, e3, e4⟩
      | _ =>
        simp only [e2] at h1
        cases h1
  · cases h
theorem dt_at {C : Cn} {F H : Hp} {σ : L2.St} {w : W} {i : Nat} {kvs : List (List L2.Key × D)} (Re : Rel C F σ H w) (h : w.r[i]? = some (.dt kvs)) : ∃ a ws, σ[i]? = some (some (V.ref a)) ∧ H a = some (.dT ws) ∧ Rpk F kvs ws ∧ Priv C F a := Re.slot i _ h
theorem key_at {F H : Hp} (le : Same F H) {ds : List D} {ks : List L2.Key} {v : V} (h : Rp F (.tuple ds) v) (e : keysOf ds = some ks) : ∃ b, v = V.ref b ∧ H b = some (.tup (ks.map kV)) ∧ F b = some (.tup (ks.map kV)) := by
  obtain ⟨b, vs, rfl, h1, h2⟩ := h
  rw [keysOf_inv e] at h2
  rw [rps_keys_eq h2] at h1
  exact ⟨b, rfl, le _ _ h1, h1⟩
section
variable {k : Nat} {X : Cx} {o e a b : Expr} {pos : Pos} {i : Nat} {m m1 m2 : M D}
theorem XOk.one (h : XOk k X) : X.A.units + 1 < cLine := by
  have := h.u
  omega
theorem dv_gT (ho : PE X o (tVar i)) (he : DV k X e m) (hs : NoSl e) : DV k X (.Subscript o e pos) (dgT i m) := fun hx C =>
  (pe_dget hx.one ho (he hx C) hs).imp fun σ H Q ⟨F, w, x, w', Re, em, q⟩ => by
    obtain ⟨kv0, ds, ks, kvs, e0, e1, e2, e3, e4⟩ := dgT_inv em
    obtain ⟨a0, _, ea, _⟩ := dt_at Re e0
    refine ⟨_, ea, F, w, _, w', Re, e1, fun F1 H1 v s1 R1 r1 => ?_⟩
    obtain ⟨a, ws, eb, h1, c, _⟩ := dt_at R1 e2
    rw [ea] at eb
    cases eb
    obtain ⟨b, rfl, h2, _⟩ := key_at R1.le r1 e3
    rcases c.val ks with ⟨_, z⟩ | ⟨v, d, z1, z2, z3⟩
    · rw [e4] at z
      cases z
    · rw [e4] at z2
      cases z2
      exact ⟨a0, v, rfl, by rw [← z1]; exact DGet.t h1 h2, q F1 H1 v s1 R1 z3⟩
/-- key not in d -/
def dniT (m : M D) (i : Nat) : M Bool := bnd m fun d w => match d, w.r[i]? with
  | .tuple ds, some (.dt kvs) => match keysOf ds with
    | some ks => some (!(valD kvs ks).isSome, w)
    | none => none
  | _, _ => none
def dinT (m : M D) (i : Nat) : M Bool := bnd m fun d w => match d, w.r[i]? with
  | .tuple ds, some (.dt kvs) => match keysOf ds with
    | some ks => some ((valD kvs ks).isSome, w)
    | none => none
  | _, _ => none
theorem pick2 {α : Type} {i : Nat} {d : D} {w : W} {f : List (List L2.Key × D) → List L2.Key → Option α} {y : α} (h : (match d, w.r[i]? with
  | .tuple ds, some (.dt kvs) => match keysOf ds with
    | some ks => f kvs ks
    | none => none
  | _, _ => none) = some y) : ∃ ds ks kvs, d = .tuple ds ∧ w.r[i]? = some (.dt kvs) ∧ keysOf ds = some ks ∧ f kvs ks = some y := by
  cases d <;> first | cases h | skip
  rename_i ds
  cases e2 : w.r[i]? with
  | none =>
    simp only [e2] at h
    cases h
  | some t =>
    cases t with
    | dt kvs =>
      simp only [e2] at h
      cases e3 : keysOf ds with
      | none =>
        simp only [e3] at h
        cases h
      | some ks =>
        simp only [e3] at h
        exact ⟨ds, ks, kvs, rfl, rfl, e3, h⟩
    | _ =>
      simp only [e2] at h
      cases h
theorem dt_niT (he : DV k X e m) (ho : PE X o (tVar i)) (hm : behindInMarks .NotIn o = false) : DT k X (.Compare e [.NotIn] [o] pos) (dniT m i) := fun hx C =>
  (pt_cmp (pc_dnotin hx.one (he hx C) ho) hm).imp fun σ H Q ⟨F, w, x, w', Re, em, q⟩ => by
    obtain ⟨d, w1, e1, em⟩ := bnd_inv em
    obtain ⟨ds, ks, kvs, rfl, e2, e3, e4⟩ := pick2 em
    cases e4
    refine ⟨F, w, _, w', Re, e1, fun F1 H1 v s1 R1 r1 => ?_⟩
    obtain ⟨a, ws, ea, h1, c, _⟩ := dt_at R1 e2
    obtain ⟨b, rfl, h2, _⟩ := key_at R1.le r1 e3
    refine ⟨_, ea, a, _, rfl, DGet.t h1 h2, _, rfl, ?_⟩
    rcases c.val ks with ⟨z1, z2⟩ | ⟨v, d, z1, z2, _⟩
    · rw [z1]
      rw [z2] at q
      exact q F1 H1 s1 R1
    · rw [z1]
      rw [z2] at q
      exact q F1 H1 s1 R1
theorem dt_inT (he : DV k X e m) (ho : PE X o (tVar i)) (hm : behindInMarks .In o = false) : DT k X (.Compare e [.In] [o] pos) (dinT m i) := fun hx C =>
  (pt_cmp (pc_din hx.one (he hx C) ho) hm).imp fun σ H Q ⟨F, w, x, w', Re, em, q⟩ => by
    obtain ⟨d, w1, e1, em⟩ := bnd_inv em
    obtain ⟨ds, ks, kvs, rfl, e2, e3, e4⟩ := pick2 em
    cases e4
    refine ⟨F, w, _, w', Re, e1, fun F1 H1 v s1 R1 r1 => ?_⟩
    obtain ⟨a, ws, ea, h1, c, _⟩ := dt_at R1 e2
    obtain ⟨b, rfl, h2, _⟩ := key_at R1.le r1 e3
    refine ⟨_, ea, a, _, rfl, DGet.t h1 h2, _, rfl, ?_⟩
    rcases c.val ks with ⟨z1, z2⟩ | ⟨v, d, z1, z2, _⟩
    · rw [z1]
      rw [z2] at q
      exact q F1 H1 s1 R1
    · rw [z1]
      rw [z2] at q
      exact q F1 H1 s1 R1
/-- d[key] = value -/
def sputT (i : Nat) (mk mv : M D) : M Out := bnd mv fun x w => match w.r[i]? with
  | some (.dt _) => bnd mk (fun d w => match d, w.r[i]? with
    | .tuple ds, some (.dt kvs) => match keysOf ds with
      | some ks => if kvs.length < sizeLine then some (.nx, { w with r := w.r.set i (.dt (putD kvs ks x)) }) else none
      | none => none
    | _, _ => none) w
  | _ => none
theorem ds_putT {mk mv : M D} {p1 : Pos} (ho : PE X o (tVar i)) (hk : DV k X e mk) (hv : DV k X a mv) (hs : swapsWith a (some (.Subscript o e p1)) pos.line X.env = pure false := by rfl) : DS k X (.Assign [.Subscript o e p1] a pos) (sputT i mk mv) := fun hx C =>
  (ps_dput hx.one ho (hk hx C) (hv hx C) hs).imp fun Dn σ H ⟨F, w, out, w', Re, em, q⟩ => by
    obtain ⟨x, w1, e1, em1⟩ := bnd_inv em
    clear em
    split at em1
    · rename_i kv0 e0
      obtain ⟨d, w2, e2, em2⟩ := bnd_inv em1
      obtain ⟨ds, ks, kvs, rfl, e3, e4, e5⟩ := pick2 em2
      split at e5
      · rename_i hz
        cases e5
        refine ⟨F, w, x, w1, Re, e1, fun F1 H1 v s1 R1 r1 => ?_⟩
        obtain ⟨a0, _, ea, _⟩ := dt_at R1 e0
        refine ⟨_, ea, F1, w1, _, w2, R1, e2, fun F2 H2 y s2 R2 r2 => ?_⟩
        obtain ⟨a, ws, eb, h1, c, pr⟩ := dt_at R2 e3
        rw [ea] at eb
        cases eb
        obtain ⟨b, rfl, h2, _⟩ := key_at R2.le r2 e4
        refine ⟨a0, _, rfl, DPut.t h1 h2 (by rw [c.len]; exact hz), ?_⟩
        exact q F2 _ σ (s1.trans s2) (R2.mut e3 rfl ea ⟨_, rfl, c.put ks (Rp.mono s2 _ _ r1)⟩)
      · cases e5
    · cases em1
/-- {} -/
theorem do_newT : DO k X (.Dict [] [] pos) (ret (dtO [])) := fun _ C => pe_dnewT.imp fun σ H Q ⟨F, w, o, w', Re, em, q⟩ => by
  cases em
  intro p hp
  obtain ⟨f1, f2⟩ := Re.fresh hp
  exact q F _ _ (Same.refl F) (Re.put f1 f2) ⟨p, _, rfl, upd_same, ⟨[], rfl, rfl⟩, f1, f2⟩
theorem do_new0 : DO k X (.Dict [] [] pos) (ret (.v (.dict []))) := fun _ C => pe_dnewK.imp fun σ H Q ⟨F, w, o, w', Re, em, q⟩ => by
  cases em
  intro p hp
  obtain ⟨R2, s2⟩ := Re.lay (o := .dK []) hp
  exact q _ _ _ s2 R2 ⟨p, [], rfl, upd_same, rfl⟩
/-- for .. in d.items(), d in slot i -/
def ditT (i : Nat) : M (List D) := fun w => match w.r[i]? with
  | some (.dt kvs) => some (kvs.map fun p => .tuple [.tuple (p.1.map keyD), p.2], { w with r := w.r.set i .un })
  | _ => none
theorem gen_P {C : Cn} {F0 : Hp} {d : Addr} {ob : Obj} {kvs : List (List L2.Key × D)} {ws : List (List L2.Key × V)} (h : F0 d = some (.frz ob (.dT ws))) (r : Rpk F0 kvs ws) : Gen C F0 (ItP d ob ws) (kvs.map fun p => .tuple [.tuple (p.1.map keyD), p.2]) where
  go := fun i F σ H w hi s R => ⟨R.le _ _ (s _ _ h), by rw [r.len]; simpa using hi⟩
  stop := fun F σ H w s R => ⟨R.le _ _ (s _ _ h), by rw [r.len]; simp⟩
  yld := fun i F σ H w x H' hi s R ⟨T, ks, v, q, e1, e2, e3, e4, e5⟩ => by
    subst e3 e5
    obtain ⟨dd, e6, e7⟩ := r.at' e1
    obtain ⟨F1, f1, s1, R1⟩ := R.tup e2
    obtain ⟨F2, s2, R2, r2, k2⟩ := pair_lay R1 e4 (x := V.ref q) (d := .tuple (ks.map keyD)) ⟨q, _, rfl, f1, rps_keys ks⟩ (Rp.mono (s.trans s1) _ _ e7)
    refine ⟨F2, _, s1.trans s2, R2, ?_, r2, k2⟩
    rw [List.getElem?_map, e6]
    rfl
theorem di_P {apos cpos : Pos} {elts : List Expr} {kk : Nat} {tpos : Pos} (ho : PE X o (tVar i)) (hbase : attributeBase o "items" X.env (eval o X.env) = eval o X.env := by rfl) (hline : (apos.endLine == cpos.line) = true := by rfl) :
    DI k X (.Tuple elts kk tpos) (.Call (.Attribute o "items" apos) [] [] cpos) (ditT i) := fun hx C =>
  (pi_P ho hbase hline).imp fun σ H R ⟨F, w, its, w', Re, em, q⟩ => by
    unfold ditT at em
    split at em
    · rename_i kvs e
      cases em
      obtain ⟨a, ws, ea, h1, c, pr⟩ := dt_at Re e
      have no : ¬ OwnedAt (w.r.set i .un) σ a := fun ⟨j, s, e1, m, e2⟩ => by
        by_cases hij : i = j
        · subst hij
          rw [List.getElem?_set_self (by exact (List.getElem?_eq_some_iff.mp e).1)] at e1
          cases e1
          cases m
        · rw [List.getElem?_set_ne hij] at e1
          exact Re.apart i j _ s a hij e e1 rfl m ea e2
      have R1 : Rel C F σ H { w with r := w.r.set i .un } := Re.weak rfl fun _ => trivial
      refine ⟨_, ea, a, ws, rfl, h1, fun ob => ?_⟩
      obtain ⟨R3, s3⟩ := (R1.put (o := .frz ob (.dT ws)) pr no).freeze pr no upd_same
      exact q _ _ _ s3 R3 fun _ _ => gen_P upd_same (c.mono s3)
    · cases em
end
end TL
set_option Elab.async false
set_option linter.all false
set_option maxRecDepth 100000
set_option maxHeartbeats 4000000
/-! TL, part 18: {key: value}, dict(d) with tuple keys; {k: v} frozen; a text taken k times. -/
namespace TL
open PySem L2
/-! ### {key: value} -/
def tDispT (tk tv : TE) : TE := fun σ H Q => ∀ p, H p = none → tk σ (upd H p (.dT [])) fun x H1 => tv σ H1 fun y H2 => H2 p = some (.dT []) ∧ ∃ b ks, x = V.ref b ∧ b ≠ p ∧ H2 b = some (.tup (List.map kV ks)) ∧ Q (V.ref p) (upd H2 p (.dT [(ks, y)]))
theorem pe_dispT {X : Cx} {e1 e2 : Expr} {tk tv : TE} {pos : Pos} (hu : X.A.units + 1 < cLine) (h1 : PE X e1 tk) (h2 : PE X e2 tv) : PE X (.Dict [some e1] [e2] pos) (tDispT tk tv) := ⟨fun pins s σ H Q I h => by
  have fr : H s.heap.objs.size = none := I.hok.fresh (Nat.le_refl _)
  have I1 := I.laid (a := s.heap.objs.size) (o := .dT []) (h' := s.heap.push { cls := .type "dict", data := .dict #[] }) (t' := s.toks) (fun _ _ z => Heap.get?_push_of_some _ z) (Nat.le_refl _) (dt_empty s.heap I.big)
  have shape := zip_pairTrees [some e1] [e2] X.env pos rfl rfl
  rw [arm_eval_Dict, shape, dictDisplay_pairs (pairTrees [some e1] [e2] X.env pos) (fun z => by cases z) (show 1 < 17 by decide)]
  refine wpAny_bind (wpAny_standAt (wpAny_bind (wpAny_subDictH (knd := tupleKind (mixKind X.prog X.w)) (show X.A.units < cLine by omega) (show 1 ≤ 15 by decide) ?_)))
  refine pairTrees_cons_walk (thn (h1.run pins _ σ _ _ I1 (h _ fr)) fun u s1 ⟨x, H1, J1, rx, q1⟩ => thn (h2.run pins s1 σ H1 _ J1 q1) fun v s2 ⟨y, H2, J2, ry, ep, b, ks, ex, nb, eb, q2⟩ => pairTrees_nil_walk ?_)
  subst ex
  obtain rfl : u = Value.ref b := rx
  obtain ⟨z, hd, xs0, r0, dd⟩ := dt_of J2.hok ep
  cases r0
  refine ⟨[(ks, b, v)], ⟨rfl, rfl, key_of J2.hok eb, trivial⟩, dd, fun h' tk dd2 same => wpAny_pure ⟨.ref s.heap.objs.size, _, ?_, rfl, q2⟩⟩
  obtain ⟨o, es, ep2, g1, g2, g3, g4, g5, g6⟩ := dd2
  refine d_write J2 (by rw [ep]; exact True.intro) same ⟨o, g1⟩ ?_
  have nb2 : b ≠ s.heap.objs.size := nb
  exact show ObjOk X.prog X.w _ h' s.heap.objs.size (.dT [(ks, y)]) from ⟨by rw [sizeLine_eq]; show 1 ≤ _; omega, hd, [(ks, b, v)], .cons ⟨rfl, by rw [upd_ne nb2]; exact eb, ry⟩ .nil, o, es, ep2, g1, g2, g3, g4, g6⟩⟩
/-! ### dict(d) -/
def hshK (ks : List L2.Key) : Int := reduceHash (Builtin.Tuple.tupleHashOf (ks.map fun k => match k with
  | .inl i => PySem.hashInt i
  | .inr _ => 0))
def intsK (ks : List L2.Key) : Bool := ks.all fun k => match k with
  | .inl _ => true
  | .inr _ => false
theorem hshK_eq {P : Program} {w : World} {ks : List L2.Key} (h : intsK ks = true) : (tupleKind (mixKind P w)).hash ks = hshK ks := by
  show reduceHash (Builtin.Tuple.tupleHashOf (ks.map (keyH w))) = _
  unfold hshK
  congr 2
  apply List.map_congr_left
  intro k hk
  have := List.all_eq_true.mp h k hk
  cases k with
  | inl i => rfl
  | inr z => cases this
def apartB {α : Type} (kvs : List (List L2.Key × α)) : Bool := (kvs.all fun p => intsK p.1) && decide ((kvs.map fun p => hshK p.1).Nodup)
theorem hash_ps {P : Program} {w : World} {G : (List L2.Key × V) → (List L2.Key × Addr × Value) → Prop} (hG : ∀ p q, G p q → p.1 = q.1) : ∀ {kvs : List (List L2.Key × V)} {xs : List (List L2.Key × Addr × Value)}, Paired G kvs xs → (kvs.all fun p => intsK p.1) = true → (xs.map fun x => (tupleKind (mixKind P w)).hash x.1) = kvs.map fun p => hshK p.1
  | [], [], .nil, _ => rfl
  | p :: ps, q :: qs, .cons h t, hi => by
    rw [List.all_cons, Bool.and_eq_true] at hi
    rw [List.map_cons, List.map_cons, hash_ps hG t hi.2, ← hG p q h, hshK_eq hi.1]
theorem call_dictT {X : Cx} (hu : X.A.units + 9 < cLine) : CallR X (.type "dict") (fun xs H Q => ∃ a kvs, xs = [V.ref a] ∧ H a = some (.dT kvs) ∧ apartB kvs = true ∧ ∀ p, H p = none → Q (V.ref p) (upd H p (.dT kvs))) := by
  intro pins s σ H xs us Q I r h
  obtain ⟨a, kvs, rfl, ha, hap, q⟩ := h
  obtain ⟨u, rfl, r1⟩ := vals1 r
  obtain rfl : u = Value.ref a := r1
  obtain ⟨z, hd, ps, rel, dd⟩ := dt_of I.hok ha
  have dd0 := dd
  obtain ⟨o, es, ep, ho, hex, hdt, hes, his, hnd⟩ := dd
  have hx : Paired (fun (p : List L2.Key × V) (q : List L2.Key × Addr × Value) => p.1 = q.1 ∧ H q.2.1 = some (.tup (p.1.map kV)) ∧ RelV p.2 q.2.2) kvs ps := rel
  have hl : kvs.length = ps.length := Paired.length hx
  have lt : a < s.heap.objs.size := Heap.lt_size ho
  unfold apartB at hap
  rw [Bool.and_eq_true] at hap
  have nod : (ps.map fun x => (tupleKind (mixKind X.prog X.w)).hash x.1).Nodup := by
    rw [hash_ps (fun _ _ h => h.1) hx hap.1]
    exact of_decide_eq_true hap.2
  refine callType_codes (Q₁ := fun v t => v = Value.ref s.heap.objs.size ∧ t = { s with heap := s.heap.push { cls := .type "dict", data := .dict #[] } }) PySem.F.kt_called_dict (PySem.F.kt_typeCall_dict_1 _) PySem.F.entry_dict_init (kt_code_dict_new _ ⟨rfl, rfl⟩) fun v t ⟨e1, e2⟩ => ?_
  subst e1 e2
  have new : (s.heap.push { cls := .type "dict", data := .dict #[] }).DictOfH (tupleKind (mixKind X.prog X.w)) s.heap.objs.size [] := Heap.DictOfH.new s.heap
  have keep : ∀ b ob, s.heap.get? b = some ob → (s.heap.push { cls := .type "dict", data := .dict #[] }).get? b = some ob := fun b ob e => Heap.get?_push_of_some _ e
  have I0 : L2.Inv X pins σ H { s with heap := s.heap.push { cls := .type "dict", data := .dict #[] } } := I.kept (t' := s.toks) keep
  obtain ⟨_, _, ps2, rel2, dd2⟩ := dt_of I0.hok ha
  refine ⟨new.typeIs, PySem.F.args_dict_init_2 _ _, ?_⟩
  unfold Builtin.«dict.__init__»
  refine wpAny_bind ?_
  unfold Builtin.Dict.selfAndRest
  refine wpAny_bind (wpAny_notOrdered_dict new.typeIs ?_)
  show wpAny _ _ (pure (s.heap.objs.size, [Value.ref a])) _ _ _
  refine wpAny_pure ?_
  have hx2 : Paired (fun (p : List L2.Key × V) (q : List L2.Key × Addr × Value) => p.1 = q.1 ∧ H q.2.1 = some (.tup (p.1.map kV)) ∧ RelV p.2 q.2.2) kvs ps2 := rel2
  have hl2 : kvs.length = ps2.length := Paired.length hx2
  have nod2 : (ps2.map fun x => (tupleKind (mixKind X.prog X.w)).hash x.1).Nodup := by
    rw [hash_ps (fun _ _ h => h.1) hx2 hap.1]
    exact of_decide_eq_true hap.2
  have nk2 : (ps2.map (·.1)).Nodup := let ⟨_, _, _, _, _, _, _, _, hn⟩ := dd2; hn
  have tys : ∀ x ∈ ps2, Shared.TypeIs { s with heap := s.heap.push { cls := .type "dict", data := .dict #[] } } (.ref x.2.1) "tuple" := fun x hxm => by
    obtain ⟨_, _, _, _, _, _, _, hk, _⟩ := dd2
    obtain ⟨ob, _, _, g1, g2, _⟩ := hk x hxm
    exact ⟨ob, g1, g2⟩
  refine updateFrom_dictH (A := X.A.in1) (knd := tupleKind (mixKind X.prog X.w)) (nm := "dict.__init__") .none (show X.A.units + 1 + 1 < cLine by omega) (Nat.ne_of_gt lt) hd new dd2 (.inr ⟨tys, nod2⟩) (by rw [List.length_nil, ← hl2]; omega) fun h' d1 d2 same => ?_
  rw [storedAllH_nil_of_nodup ps2 nk2] at d1
  have fr : H s.heap.objs.size = none := I.hok.fresh (Nat.le_refl _)
  refine ⟨rfl, .ref s.heap.objs.size, upd H s.heap.objs.size (.dT kvs), ?_, rfl, q _ fr⟩
  obtain ⟨o3, es3, ep3, g1, g2, g3, g4, g5, g6⟩ := d1
  refine I.laid (t' := s.toks) (fun b ob e => (same.2 b (Nat.ne_of_lt (Heap.lt_size e))).trans (keep b ob e)) (Nat.le_refl _) ?_
  refine show ObjOk X.prog X.w _ h' s.heap.objs.size (.dT kvs) from ⟨z, beq_eq_false_iff_ne.mpr (Ne.symm (Nat.ne_of_lt I.big)), ps2, ?_, o3, es3, ep3, g1, g2, g3, g4, g6⟩
  exact Paired.mapP hx2 fun p y hy => ⟨hy.1, by
    rw [upd_ne fun e => by
      have h3 := hy.2.1
      rw [e, fr] at h3
      cases h3]
    exact hy.2.1, hy.2.2⟩
/-! ### the layer -/
def dcpT (i : Nat) : M O := fun w => match w.r[i]? with
  | some (.dt kvs) => if apartB kvs = true then some (dtO kvs, w) else none
  | _ => none
theorem apart_eq {F : Hp} : ∀ {kvs : List (List L2.Key × D)} {ws : List (List L2.Key × V)}, Rpk F kvs ws → ws.map (·.1) = kvs.map (·.1)
  | [], _, h => by
    cases (show _ = [] from h)
    rfl
  | (k0, d) :: r, _, ⟨v0, q, e, h1, h2⟩ => by
    rw [e, List.map_cons, List.map_cons, apart_eq h2]
theorem apartB_map {α β : Type} {kvs : List (List L2.Key × α)} {ws : List (List L2.Key × β)} (h : ws.map (·.1) = kvs.map (·.1)) : apartB ws = apartB kvs := by
  unfold apartB
  have e1 : (ws.all fun p => intsK p.1) = (ws.map (·.1)).all intsK := by rw [List.all_map]; rfl
  have e2 : (kvs.all fun p => intsK p.1) = (kvs.map (·.1)).all intsK := by rw [List.all_map]; rfl
  have e3 : (ws.map fun p => hshK p.1) = (ws.map (·.1)).map hshK := by rw [List.map_map]; rfl
  have e4 : (kvs.map fun p => hshK p.1) = (kvs.map (·.1)).map hshK := by rw [List.map_map]; rfl
  rw [e1, e2, e3, e4, h]
section
variable {k : Nat} {X : Cx} {o a b : Expr} {p pos : Pos} {i : Nat} {m m1 m2 : M D}
theorem do_cpT (ho : PE X o (tVar i)) (hg : Gl X "dict") (hm : X.mg "dict" = none) (hs : starEach [o] X.env = (false, eval o X.env) :: starEach [] X.env := by rfl) (hpl : (backTo pos (starEach [] X.env)).any (·.1) = false := by rfl) : DO k X (.Call (.Name "dict" p) [o] [] pos) (dcpT i) := fun hx C =>
  (pe_callTy (call_dictT (by have := hx.u; omega)) hg hm (by decide +kernel) (pa_cons ho pa_nil hs) (by decide) (by decide) hs hpl).imp fun σ H Q ⟨F, w, out, w', Re, em, q⟩ => by
    unfold dcpT at em
    split at em
    · rename_i kvs e
      split at em
      · rename_i hap
        cases em
        obtain ⟨x, ws, ex, h1, c, pr⟩ := dt_at Re e
        refine ⟨_, ex, x, ws, rfl, h1, by rw [apartB_map (apart_eq c)]; exact hap, fun p hp => ?_⟩
        obtain ⟨f1, f2⟩ := Re.fresh hp
        exact q F _ _ (Same.refl F) (Re.put f1 f2) ⟨p, _, rfl, upd_same, ⟨ws, rfl, c⟩, f1, f2⟩
      · cases em
    · cases em
def ddsT (m1 m2 : M D) : M O := bnd m1 fun d => bnd m2 fun x => lft (match d with
  | .tuple ds => (keysOf ds).map fun ks => dtO [(ks, x)]
  | _ => none)
theorem do_dsT (h1 : DV k X a m1) (h2 : DV k X b m2) : DO k X (.Dict [some a] [b] pos) (ddsT m1 m2) := fun hx C =>
  (pe_dispT (tk := fun σ H Q => ∃ Cp, tM Cp m1 (RV Cp) σ H Q) (tv := fun σ H Q => ∃ Cp, tM Cp m2 (RV Cp) σ H Q) hx.one ⟨fun pins s σ H Q I ⟨Cp, z⟩ => (h1 hx Cp).run pins s σ H Q I z⟩ ⟨fun pins s σ H Q I ⟨Cp, z⟩ => (h2 hx Cp).run pins s σ H Q I z⟩).imp fun σ H Q ⟨F, w, out, w', Re, em, q⟩ => by
    obtain ⟨d, w1, e1, em1⟩ := bnd_inv em
    obtain ⟨x, w2, e2, em2⟩ := bnd_inv em1
    obtain ⟨ef, rfl⟩ := lft_inv em2
    cases d <;> first | cases ef | skip
    rename_i ds
    have ef : (keysOf ds).map (fun ks => dtO [(ks, x)]) = some out := ef
    cases ek : keysOf ds with
    | none =>
      rw [ek] at ef
      cases ef
    | some ks =>
      rw [ek] at ef
      cases ef
      intro p hp
      obtain ⟨f1, f2⟩ := Re.fresh hp
      have R1 := (Re.put (o := .dT []) f1 f2).pin upd_same f1 f2
      refine ⟨_, F, w, _, w1, R1, e1, fun F1 H1 v s1 R2 r1 => ⟨_, F1, w1, x, w', R2, e2, fun F2 H2 y s2 R3 r2 => ?_⟩⟩
      obtain ⟨R4, g1, g2, g3⟩ := R3.unpin f1 (Re.le0.free f1.1) fun _ z => nomatch z
      obtain ⟨c, rfl, h3, h4⟩ := key_at R3.le (Rp.mono s2 _ _ r1) ek
      have nc : c ≠ p := fun z => by
        rw [z, g2.1] at h4
        cases h4
      refine ⟨g1, c, ks, rfl, nc, h3, q F2 _ _ (s1.trans s2) (R4.put g2 g3) ⟨p, _, rfl, upd_same, ⟨_, rfl, ⟨y, [], rfl, r2, rfl⟩⟩, g2, g3⟩⟩
/-- {k: v}, frozen -/
def ddsK (key : L2.Key) (m : M D) : M O := bnd m fun x => ret (.v (.dict [(keyD key, x)]))
theorem do_dsK {key : L2.Key} (h1 : PE X a (tC (kV key))) (h2 : DV k X b m) : DO k X (.Dict [some a] [b] pos) (ddsK key m) := fun hx C =>
  (pe_disp (trs := [(tC (kV key), fun σ H Q => ∃ Cp, tM Cp m (RV Cp) σ H Q)]) (pps_cons h1 ⟨fun pins s σ H Q I ⟨Cp, z⟩ => (h2 hx Cp).run pins s σ H Q I z⟩ pps_nil) rfl rfl (fun z => nomatch z) (show 1 ≤ 15 by decide)).imp fun σ H Q ⟨F, w, out, w', Re, em, q⟩ => by
    obtain ⟨x, w1, e1, em1⟩ := bnd_inv em
    cases em1
    intro p hp
    obtain ⟨f1, f2⟩ := Re.fresh hp
    have R1 := (Re.put (o := .dK []) f1 f2).pin upd_same f1 f2
    refine ⟨_, F, w, x, w', R1, e1, fun F1 H1 v s1 R2 r1 => ?_⟩
    obtain ⟨R4, g1, g2, g3⟩ := R2.unpin f1 (Re.le0.free f1.1) fun _ z => nomatch z
    refine ⟨g1, [(key, v)], rfl, show 1 ≤ 15 by decide, ?_⟩
    have R5 := R4.put (o := .dK [(key, v)]) g2 g3
    obtain ⟨R6, s6⟩ := R5.freeze g2 g3 upd_same
    exact q _ _ _ (s1.trans s6) R6 ⟨p, [(key, v)], rfl, upd_same, key, v, [], rfl, rfl, Rp.mono s6 _ _ r1, rfl⟩
end
end TL
set_option Elab.async false
set_option linter.all false
set_option maxRecDepth 100000
set_option maxHeartbeats 4000000
/-! TL, part 19: the def that makes the bag, the law's def. -/
namespace TL
open PySem L2
def dbagO (m : M (List O)) : M O := bnd m fun os => lft (match os with
  | [.s (.own ts), .v (.int i), .v (.int j)] => (intsOf ts).map fun ns => .nb (ns, i, j)
  | _ => none)
theorem dbagO_inv {os : List O} {o : O} (h : (match os with
  | [.s (.own ts), .v (.int i), .v (.int j)] => (intsOf ts).map fun ns => O.nb (ns, i, j)
  | _ => none) = some o) : ∃ ns i j, os = [.s (.own (ns.map PyData.int)), .v (.int i), .v (.int j)] ∧ o = .nb (ns, i, j) := by
  split at h
  · rename_i ts i j
    cases e : intsOf ts with
    | none =>
      rw [e] at h
      cases h
    | some ns =>
      rw [e] at h
      cases h
      cases intsOf_inv e
      exact ⟨ns, i, j, rfl, rfl⟩
  · cases h
section
variable {k : Nat} {X : Cx} {pos : Pos}
theorem do_bagL {es : List Expr} {m : M (List O)} (h : DOs k X es m) : DO k X (.List es pos) (dbagO m) := fun hx C => (pe_lst (h hx C)).imp fun σ H Q ⟨F, w, o, w', Re, em, q⟩ => by
  obtain ⟨os, w1, e1, em⟩ := bnd_inv em
  obtain ⟨ef, rfl⟩ := lft_inv em
  obtain ⟨ns, i, j, rfl, rfl⟩ := dbagO_inv ef
  refine ⟨F, w, _, w', Re, e1, fun F1 H1 vs s1 R1 r1 => ?_⟩
  obtain ⟨v1, _, rfl, ⟨a, u, rfl, h1, ⟨us, rfl, c⟩, pa, na⟩, ⟨v2, _, rfl, r2, ⟨v3, _, rfl, r3, r4, _⟩, _⟩, _⟩ := r1
  cases (show _ = [] from r4)
  cases (show v2 = .int i from r2)
  cases (show v3 = .int j from r3)
  rw [c.ints] at h1
  refine ⟨by rw [sizeLine_eq]; show 3 ≤ _; omega, fun p hp => ?_⟩
  obtain ⟨f1, f2⟩ := R1.fresh hp
  have ne : p ≠ a := fun z => by
    rw [z, h1] at hp
    cases hp
  refine q F1 _ _ s1 (R1.put f1 f2) ⟨p, a, rfl, ⟨ne, upd_same, ?_⟩, f1, pa, f2, na⟩
  rw [upd_ne (Ne.symm ne)]
  exact h1
/-- a call of a def with a promise of its own -/
theorem pe_callG {e : Expr} {es : List Expr} {x : Str} {st : Stmt} {ps : List Str} {sp : List V → Hp → VK → Prop} {t : TA} {p pos : Pos} (c : ∃ f fd, X.mg x = some (.ref f) ∧ Fun X.K x x st f fd ∧ FnG X.prog X.w X.K X.mg X.base k f fd ps sp) (hx : XOk k X) (hg : Gl X x) (hb : BindsP x st ps) (ha : PA X (e :: es) t)
    (hdb : (x == ("__debug__" : Str)) = false := by decide) (he : starEach (e :: es) X.env = (false, eval e X.env) :: starEach es X.env := by rfl) (hpl : (backTo pos (starEach es X.env)).any (·.1) = false := by rfl) :
    PE X (.Call (.Name x p) (e :: es) [] pos) (fun σ H Q => t σ H fun vs H1 => sp vs H1 Q) := by
  obtain ⟨f, fd, hm, F, G⟩ := c
  refine ⟨fun pins s σ H Q I h => wpAny_Call_Name_kw (ld_glob I hg hm (PySem.W.callWith_K (h₀ := X.base) I.ok.mod.kin F.kp (thn (ha.run pos pins s σ H _ I h) fun us s1 ⟨vs, H1, I1, r, q⟩ => ⟨I1.kIn, ?_⟩) he hpl) hdb)⟩
  have hl : us.length = ps.length := by rw [← r.length]; exact G.len _ _ _ q
  exact run_G G hx I1 (hb.at F s1 hl) r q
end
/-- its promise: the two objects of the bag are new -/
def spBag (K : PySem.W.Frag) (f : List Int → Bg) : List V → Hp → VK → Prop := fun vs H Q => ∃ a ns, vs = [V.ref a] ∧ SqL K H a (List.map V.int ns) ∧ ∀ H' p q, (∀ c o, H c = some o → H' c = some o) → BagAt (some (p, q)) H' (f ns) → Q (V.ref p) H'
/-- what its body computes, from the script's first 63 numbers on -/
def bagM (vs : List Nat) (g : D → M Unit) (t : M Bool) (e : M D) (i n : Nat) (m : M Out) (ns : List Int) : Option Bg :=
  match lcm vs g t e (cutL (ns.map PyData.int) none (some 63)) [] ⟨List.replicate n .un, ([], 0, 0)⟩ with
  | some (acc, wF) => match m { wF with r := (resA vs 0 (List.replicate n .un) wF.r).set i (.own acc) } with
    | some (.re (.nb b), _) => some b
    | _ => none
  | none => none
theorem okA_un : ∀ (vs : List Nat) (k n : Nat), okA vs k (List.replicate n S.un) = true
  | vs, k, 0 => rfl
  | vs, k, n + 1 => by
    rw [List.replicate_succ]
    unfold okA
    rw [okA_un vs (k + 1) n]
    cases vs.contains k <;> rfl
section
variable {k : Nat} {X : Cx} {pos spos py p1 p2 p3 p4 : Pos} {kk : Nat}
theorem rel_un {H : Hp} {vs : List V} {N : List Str} {b : Bg} (h : vs.length ≤ N.length) : Rel ⟨fun _ => none, H, none⟩ (fun _ => none) (L2.start N vs) H ⟨List.replicate N.length .un, b⟩ := by
  refine ⟨fun _ _ e _ => e, Same.refl _, fun _ _ e => (nomatch e), fun _ _ e => (nomatch e), fun _ (z : False) => z.elim, trivial, ?_, fun i s e => ?_, fun i j s t a hne e1 _ m1 _ _ => ?_⟩
  · unfold L2.start
    rw [List.length_replicate, List.length_append, List.length_map, List.length_replicate]
    omega
  · rw [(List.mem_replicate.mp (List.mem_of_getElem? e)).2]
    trivial
  · rw [(List.mem_replicate.mp (List.mem_of_getElem? e1)).2] at m1
    cases m1
theorem pss_bag {o elt tg : Expr} {rest : List Stmt} {scope : Scope} {own : List (Str × Nat)} {ws : List Nat} {y : Str} {i : Nat} {g : D → M Unit} {t : M Bool} {e : M D} {m : M Out} (hx : XOk k X) (hN : X.N.Nodup) (ho : PE X o (tVar 0)) (hy : X.N[i]? = some y) (hyl : X.env.scope.names.lookup y = some .local)
    (hsw : swapsWith (.ListComp elt [⟨tg, .Subscript o (.Slice none (some (.Constant (.int 63) kk p1)) none p2) p3, [], 0⟩] scope pos) (some (.Name y py)) spos.line X.env = pure true) (ok : BlkOk X.N X.env.scope scope own)
    (hg : ∀ (s : Shared) (H : Hp) (a : Addr) (cl : List (Str × Addr)) (fp : List Addr), DTg k (X.blk s H scope (compEnvC scope cl a X.env) fp) tg ws g) (ht : ∀ (s : Shared) (H : Hp) (a : Addr) (cl : List (Str × Addr)) (fp : List Addr), DTs k (X.blk s H scope (compEnvC scope cl a X.env) fp) [] t)
    (he : ∀ (s : Shared) (H : Hp) (a : Addr) (cl : List (Str × Addr)) (fp : List Addr), DV k (X.blk s H scope (compEnvC scope cl a X.env) fp) elt e) (hr : DSs k X rest m) (hws : ws.all (fun j => (own.map (·.2)).contains j) = true := by rfl)
    (hs : ∀ x, foldedSetIterable (.Subscript o (.Slice none (some (.Constant (.int 63) kk p1)) none p2) p3) X.env x = pure x := by intro _; rfl) :
    PSs X (.Assign [.Name y py] (.ListComp elt [⟨tg, .Subscript o (.Slice none (some (.Constant (.int 63) kk p1)) none p2) p3, [], 0⟩] scope pos) spos :: rest)
      (fun Dn σ H => ∃ a ns b, σ = L2.start X.N [V.ref a] ∧ 0 < X.N.length ∧ SqL X.K H a (List.map V.int ns) ∧ bagM (own.map (·.2)) g t e i X.N.length m ns = some b ∧ ∀ H' p q, (∀ c o, H c = some o → H' c = some o) → BagAt (some (p, q)) H' b → Dn.rt (V.ref p) H') := by
  have first := ps_setLc (wi := iList X.K (tSl (rSlL X.K) (tVar 0) tNoPart (tPart (tC (.int 63))))) (g := fun v σ H Q => ∃ Cp, tG Cp ws g v σ H Q) (tt := fun σ H Q => ∃ Cp, tT Cp t σ H Q) (te := fun σ H Q => ∃ Cp, tM Cp e (RV Cp) σ H Q) hx.calm hN hy hyl hsw
    (pi_list (pe_slice sl_list ho po_none (po_some pe_int))) ok
    (fun s H a cl fp => ⟨fun pins s' σ H' v u Q I r ⟨Cp, z⟩ => (hg s H a cl fp (hx.blk ..) Cp).run pins s' σ H' v u Q I r z⟩) (fun s H a cl fp => ⟨fun pins s' σ H' Q I ⟨Cp, z⟩ => (ht s H a cl fp (hx.blk ..) Cp).run pins s' σ H' Q I z⟩)
    (fun s H a cl fp => ⟨fun pins s' σ H' Q I ⟨Cp, z⟩ => (he s H a cl fp (hx.blk ..) Cp).run pins s' σ H' Q I z⟩) hs
  have second : PSs X rest (fun Dn σ H => ∃ C, tS C m Dn σ H) := ⟨fun pins s σ H Dn I ⟨C, z⟩ => (hr hx C).run pins s σ H Dn I z⟩
  refine (pss_cons first second).imp fun Dn σ H ⟨a, ns, b, eσ, hl, hs, hb, q⟩ => ?_
  subst eσ
  have s0 : (L2.start X.N [V.ref a])[0]? = some (some (V.ref a)) := rfl
  refine ⟨_, s0, 63, rfl, a, _, rfl, hs, fun L hL => ⟨L, rfl, ⟨_, .of upd_same⟩, ?_⟩⟩
  unfold bagM at hb
  split at hb
  · rename_i acc wF e1
    split at hb
    · rename_i b' w' e2
      cases hb
      obtain ⟨R1, s1⟩ := (rel_un (N := X.N) (vs := [V.ref a]) (H := H) (b := ([], 0, 0)) (by exact hl)).lay (o := .lst (cutV (List.map V.int ns) none (some 63))) hL
      have rc : Rps (upd (fun _ => none) L (.lst (cutV (List.map V.int ns) none (some 63)))) (cutL (ns.map PyData.int) none (some 63)) (cutV (List.map V.int ns) none (some 63)) := (Rps.of_ints ns).cut none (some 63)
      refine lc_rest (J := Itl X.K L) (Q := fun x H1 => gName i x (L2.start X.N [V.ref a]) H1 fun σ' H' => ∃ C, tS C m Dn σ' H') (ws_ok hws) R1 (fun _ _ => gen_l upd_same rc) (okA_un _ _ _) e1 fun F' H' v s2 R2 r2 => ?_
      obtain ⟨c, u, rfl, h1, cr, pr, no⟩ := r2
      have R3 := R2.store (i := i) (v := V.ref c) (.of cr h1 pr) fun _ d e => by
        cases e
        exact no
      refine ⟨_, F', _, _, w', R3, e2, fun F2 H2 x s3 fin rf => ?_⟩
      obtain ⟨p, r, rfl, bag, p1, p2⟩ := rf
      exact q H2 p r (fun c o e => fin.base c o e fun z => z) bag
    · cases hb
  · cases hb
/-- the def that makes the bag -/
theorem fn_bag {P : Program} {w : World} {K : PySem.W.Frag} {mg : Str → Option Value} {base : Heap} {x : Str} {st : Stmt} {f : Addr} {fd : FuncData} {N : List Str} {p : Str} {f0 : List Int → Bg} (F : Fun K x x st f fd) (hS : FnScope N [p] (defScope st)) {m : List Int → Option Bg}
    (hm : ∀ ns, m ns = some (f0 ns)) (hbody : ∀ (cdv : Value) (A : Around) (outer : List Env) (s : Shared) (H : Hp), XOk k (CxD P w K mg base N x st f cdv A outer s H) →
      PSs (CxD P w K mg base N x st f cdv A outer s H) (defBody st) (fun Dn σ H => ∃ a ns b, σ = L2.start N [V.ref a] ∧ 0 < N.length ∧ SqL K H a (List.map V.int ns) ∧ m ns = some b ∧ ∀ H' p q, (∀ c o, H c = some o → H' c = some o) → BagAt (some (p, q)) H' b → Dn.rt (V.ref p) H')) (hN : 0 < N.length) :
    FnG P w K mg base (k + 1) f fd [p] (spBag K f0) := by
  refine fn_sp F hS (fun vs H Q ⟨a, ns, e, _⟩ => by rw [e]; rfl) fun cdv A outer s0 H0 hx => ⟨_, hbody cdv A outer s0 H0 hx, fun vs H Q ⟨a, ns, e, hs, q⟩ => ?_⟩
  subst e
  exact ⟨a, ns, f0 ns, rfl, hN, hs, hm ns, q⟩
/-! ### the law's def -/
def spLaw (K : PySem.W.Frag) (n : Nat) : List V → Hp → VK → Prop := fun vs H Q => ∃ a ns, vs = [V.ref a] ∧ SqL K H a (List.map V.int ns) ∧ ns.length ≤ n ∧ ∀ H', Q (V.bl true) H'
theorem rel_bag {N : List Str} {a p q : Addr} {H : Hp} {b : Bg} (hN : 2 ≤ N.length) (hb : BagAt (some (p, q)) H b) : Rel ⟨fun _ => none, H, some (p, q)⟩ (fun _ => none) ((L2.start N [V.ref a]).set 1 (some (V.ref p))) H ⟨.un :: .bag :: List.replicate (N.length - 2) .un, b⟩ := by
  have nomine : ∀ (i : Nat) (s : S), (S.un :: S.bag :: List.replicate (N.length - 2) S.un)[i]? = some s → s.mine = false := fun i s e => by
    have := List.mem_of_getElem? e
    rcases List.mem_cons.mp this with z | z
    · rw [z]
      rfl
    · rcases List.mem_cons.mp z with z | z
      · rw [z]
        rfl
      · rw [(List.mem_replicate.mp z).2]
        rfl
  have ln : (L2.start N [V.ref a]).length = N.length := by
    unfold L2.start
    rw [List.length_append, List.length_map, List.length_replicate]
    show 1 + (N.length - 1) = _
    omega
  refine ⟨fun _ _ e _ => e, Same.refl _, fun _ _ e => (nomatch e), fun _ _ e => (nomatch e), fun _ _ => rfl, hb, ?_, fun i s e => ?_, fun i j s t c hne e1 _ m1 _ _ => ?_⟩
  · rw [List.length_set, ln, List.length_cons, List.length_cons, List.length_replicate]
    omega
  · match i, e with
    | 0, e =>
      cases e
      trivial
    | 1, e =>
      cases e
      refine ⟨(p, q), rfl, ?_⟩
      rw [List.getElem?_set_self (by rw [ln]; omega)]
    | j + 2, e =>
      have e : (List.replicate (N.length - 2) S.un)[j]? = some s := by simpa using e
      rw [(List.mem_replicate.mp (List.mem_of_getElem? e)).2]
      trivial
  · have := nomine i s e1
    rw [m1] at this
    cases this
/-- law: the first statement makes the bag, the rest answers True -/
theorem pss_law {x : Str} {st : Stmt} {ps : List Str} {o : Expr} {y : Str} {rest : List Stmt} {m : M Out} {f0 : List Int → Bg} {pf pc : Pos} {kb : Nat} (hx : XOk k X) (hkb : kb ≤ k) (hN : X.N.Nodup) (hN2 : 2 ≤ X.N.length) (c : ∃ f fd, X.mg x = some (.ref f) ∧ Fun X.K x x st f fd ∧ FnG X.prog X.w X.K X.mg X.base kb f fd ps (spBag X.K f0)) (hg : Gl X x) (hb : BindsP x st ps)
    (ho : PE X o (tVar 0)) (hy : X.N[1]? = some y) (hyl : Loc X.env.scope y) (hr : DSs k X rest m) (hf : X.fn y = true ∨ X.env.scope.names.lookup y = some .local) (hdb : (x == ("__debug__" : Str)) = false := by decide) (hst : starEach [o] X.env = (false, eval o X.env) :: starEach [] X.env := by rfl) (hpl : (backTo pc (starEach [] X.env)).any (·.1) = false := by rfl)
    (hsw : swapsWith (.Call (.Name x pf) [o] [] pc) (some (.Name y py)) spos.line X.env = pure false := by rfl) :
    PSs X (.Assign [.Name y py] (.Call (.Name x pf) [o] [] pc) spos :: rest)
      (fun Dn σ H => ∃ a ns w', σ = L2.start X.N [V.ref a] ∧ SqL X.K H a (List.map V.int ns) ∧ m ⟨.un :: .bag :: List.replicate (X.N.length - 2) .un, f0 ns⟩ = some (.re (.v (.bool true)), w') ∧ ∀ H', Dn.rt (V.bl true) H') := by
  obtain ⟨f, fd, c1, c2, c3⟩ := c
  have first := ps_set (pos := spos) (pos' := py) hN hy hyl (pe_callG (p := pf) (pos := pc) ⟨f, fd, c1, c2, c3.mono hkb⟩ hx hg hb (pa_cons ho pa_nil hst) hdb hst hpl) hsw hf
  have second : PSs X rest (fun Dn σ H => ∃ C, tS C m Dn σ H) := ⟨fun pins s σ H Dn I ⟨C, z⟩ => (hr hx C).run pins s σ H Dn I z⟩
  refine (pss_cons first second).imp fun Dn σ H ⟨a, ns, w', eσ, hs, hm, q⟩ => ?_
  subst eσ
  have s0 : (L2.start X.N [V.ref a])[0]? = some (some (V.ref a)) := rfl
  refine ⟨_, s0, a, ns, rfl, hs, fun H' p r keep bag => ⟨_, _, _, _, w', rel_bag hN2 bag, hm, fun F2 H2 v s2 fin rf => ?_⟩⟩
  rw [show v = V.bl true from rf]
  exact q H2
end
end TL
set_option Elab.async false
set_option linter.all false
set_option maxRecDepth 100000
set_option maxHeartbeats 4000000
/-! TL, part 20: from the law's def to the walk that the head asks for. -/
namespace TL
open PySem L2 PySem.Spec
abbrev LawEnd (s₁ : Shared) : Result → Shared → Prop := fun r s' => r = .ok (.ret (.bool true)) ∧ OldK s₁.heap s'.heap ∧ s'.os = s₁.os ∧ PyProof.Rows.AllBare s'.gens
section
variable {P : Program} {w : World} {K : PySem.W.Frag} {mg mb : Str → Option Value} {k n : Nat} {fa a : Addr} {fd : FuncData} {x : Str} {s₁ : Shared} {vs : List Value} {ns : List Int}
/-- with the tracked heap H: the script or nothing -/
theorem end_at (kin : K.In s₁.heap) (ng : s₁.heap.Ns mainGlobals mg) (nb : s₁.heap.Ns builtinsNs mb) (std : ∀ x : Str, x ≠ "__name__" → mb x = bootBuiltins x) (lim : s₁.heap.NoLimit) (seer : s₁.heap.NoSeer) (gens : s₁.gens = #[])
    (obj : s₁.heap.get? a = some { cls := .type "list", data := .seq vs.toArray }) (room : Room k callerA) (len : ns.length ≤ n)
    (F : ∀ base : Heap, K.In base → base.Ns mainGlobals mg → FnG P w K mg base k fa fd [x] (spLaw K n)) (binds : ∀ (s : Shared) (u : Value), BindsTo s fd ⟨[u], []⟩ [(x, u)])
    {H : Hp} (only : ∀ b, H b = none ∨ (b = a ∧ K.lookup a = none ∧ ∃ o xs, H b = some (.frz o (.lst xs)))) (sq : SqL K H a (ns.map V.int)) (ok : HOk P w H s₁.heap) :
    codeAny (model P w) callerA (.call (.ref fa) ⟨[.ref a], []⟩) (LawEnd s₁) s₁ := by
  have notD : ∀ {b : Addr} {o : Obj} {es : Array DictEntry} {ep : Nat}, s₁.heap.get? b = some o → o.data = .dict es ep → H b = none := fun {b o es ep} e d => by
    rcases only b with z | ⟨z, _⟩
    · exact z
    · subst z
      rw [obj] at e
      cases e
      cases d
  have spaces : ∀ {b : Addr} {m : Str → Option Value}, s₁.heap.Ns b m → (hidT s₁.heap H).Ns b m := fun {b m} z => by
    obtain ⟨o, es, ep, e, d, r⟩ := z
    exact ⟨o, es, ep, hidT_get e (notD e d), d, r⟩
  have kb : K.In (hidT s₁.heap H) := fun b o e => hidT_get (kin b o e) (by
    rcases only b with z | ⟨z, z2, _⟩
    · exact z
    · subst z
      rw [z2] at e
      cases e)
  have md : Mod K mg (hidT s₁.heap H) := by
    obtain ⟨mc, h1, h2⟩ := lim
    exact ⟨kb, spaces ng, ⟨mb, spaces nb, std⟩, mc, spaces h1, h2⟩
  have sys : Sys (hidT s₁.heap H) := by
    obtain ⟨mm, ⟨o, es, ep, e, d, _⟩, _⟩ := seer.mods
    exact ⟨o, es, ep, hidT_get e (notD e d), d⟩
  have nof : ∀ b, b ∉ ([] : List Addr) := fun b z => nomatch z
  have env0 : Env0 P w K mg (hidT s₁.heap H) callerA [] s₁ H := ⟨rfl, md, fun b o e => of_hidT e, Nat.le_of_eq (hidT_size _ _), trivial, fun b z => (nof b z).elim, ok, .of_eq gens⟩
  have run := (F _ kb (spaces ng)).run callerA [] s₁ H ⟨[.ref a], []⟩ [.ref a] [.ref a] (fun v _ => v = V.bl true) room rfl sys env0 (binds s₁ (.ref a)) (.cons rfl .nil) ⟨a, ns, rfl, sq, len, fun _ => rfl⟩
  refine codeAny_mono run fun r s' h => ?_
  cases r with
  | error e => exact h.elim
  | ok fl =>
    cases fl with
    | ret u =>
      obtain ⟨v, H', os, bare, un, ok', rv, q⟩ := h
      subst q
      obtain rfl : u = Value.bool true := rv
      refine ⟨rfl, OldK.of_keep fun b o e => ?_, os, bare⟩
      rcases only b with z | ⟨_, _, ob, xs, z⟩
      · exact un.keep b o e z (nof b) (nof b)
      · have e1 := (ok b _ z).1
        have e2 := (ok' b _ (un.frzs b ob _ z)).1
        rw [e] at e1
        cases e1
        exact e2
    | _ => exact h.elim
theorem end_any (kin : K.In s₁.heap) (ng : s₁.heap.Ns mainGlobals mg) (nb : s₁.heap.Ns builtinsNs mb) (std : ∀ x : Str, x ≠ "__name__" → mb x = bootBuiltins x) (lim : s₁.heap.NoLimit) (seer : s₁.heap.NoSeer) (gens : s₁.gens = #[])
    (obj : s₁.heap.get? a = some { cls := .type "list", data := .seq vs.toArray }) (hints : PyProof.Rows.IntsAre vs ns) (room : Room k callerA) (len : ns.length ≤ n) (hn : n ≤ sizeLine)
    (F : ∀ base : Heap, K.In base → base.Ns mainGlobals mg → FnG P w K mg base k fa fd [x] (spLaw K n)) (binds : ∀ (s : Shared) (u : Value), BindsTo s fd ⟨[u], []⟩ [(x, u)]) :
    codeAny (model P w) callerA (.call (.ref fa) ⟨[.ref a], []⟩) (LawEnd s₁) s₁ := by
  have rv := vals_ints hints
  have big : ns.length ≤ sizeLine := Nat.le_trans len hn
  cases inK : K.lookup a with
  | some o =>
    have e := kin a o inK
    rw [obj] at e
    cases e
    refine end_at kin ng nb std lim seer gens obj room len F binds (H := fun _ => none) (fun _ => .inl rfl) (.inr ⟨_, vs.toArray, _, inK, rfl, rfl, rfl, ?_, ?_⟩) fun b u z => by cases z
    · rw [List.size_toArray, hints.length]
      exact big
    · simpa using rv
  | none =>
    have at_ : (fun b => if b = a then some (HO.frz { cls := .type "list", data := .seq vs.toArray } (.lst (ns.map V.int))) else none) a = some (HO.frz { cls := .type "list", data := .seq vs.toArray } (.lst (ns.map V.int))) := if_pos rfl
    refine end_at kin ng nb std lim seer gens obj room len F binds (H := fun b => if b = a then some (HO.frz { cls := .type "list", data := .seq vs.toArray } (.lst (ns.map V.int))) else none) (fun b => ?_) (.inl (.inr ⟨_, at_⟩)) fun b u z => ?_
    · by_cases hb : b = a
      · exact .inr ⟨hb, inK, _, _, if_pos hb⟩
      · exact .inl (if_neg hb)
    · by_cases hb : b = a
      · subst hb
        have z2 := at_.symm.trans z
        cases z2
        exact ⟨obj, by rw [List.length_map]; exact big, vs, _, rv, obj⟩
      · have z2 := (if_neg hb).symm.trans z
        cases z2
end
theorem walk_G {l : PySem.W.OpenLaw} {n k : Nat} {q : Program} {loose : List Str} {XP : (Str → Option Value) → Heap → Prop} {YP : World → Heap → Prop} {d : DefRec} {K : Params → PySem.W.Frag} {x : Str}
    (hn : l.most = some n) (hn2 : n ≤ sizeLine) (hdf : d.params.defaults = []) (hr : Room k callerA) (himp : PyProof.Rows.importsNone q = true) (hY : ∀ (w : World) (h : Heap), YP w h → (K w.params).In h)
    (F : ∀ (w : World) (mg : Str → Option Value) (fa : Addr) (h : Heap), (K w.params).In h → h.Ns mainGlobals mg → mg d.name = some (.ref fa) →
      ∃ fd : FuncData, (∀ (s : Shared) (u : Value), BindsTo s fd ⟨[u], []⟩ [(x, u)]) ∧ ∀ base : Heap, (K w.params).In base → base.Ns mainGlobals mg → FnG l.prog w (K w.params) mg base k fa fd [x] (spLaw (K w.params) n)) :
    PySem.W.WalkO q loose XP YP l.row.toRowW d [] (fun f vs => PySem.call f vs) :=
  Att.attach_call hn hdf fun w s₀ s₁ mg mb fa o pm cd doc a vs ns G Y ho hd hcd hmg hobj hints hlen hg => by
    obtain ⟨fd, hb, hF⟩ := F w mg fa _ (hY w _ Y) G.T.g hmg
    exact end_any (hY w _ Y) G.T.g G.T.b G.T.builtins G.T.nolimit (G.T.seer himp) hg hobj hints hr hlen hn2 hF hb
end TL
set_option Elab.async false
set_option linter.all false
set_option maxRecDepth 100000
set_option maxHeartbeats 4000000
/-! TL, part 21: short forms for printed terms. -/
namespace TL
open PySem L2
def defF (n N : Nat) (m : M Out) : Sm := fun as b => if as.length = n then semF N m as b else none
theorem cal_mk {P : Program} {w : World} {K : PySem.W.Frag} {mg : Str → Option Value} {base : Heap} {x : Str} {st : Stmt} {N ps : List Str} {k : Nat} {m : M Out} (D : ∃ f fd, mg x = some (.ref f) ∧ Fun K x x st f fd) (hS : FnScope N ps (defScope st))
    (hbody : ∀ (f : Addr) (cdv : Value) (A : Around) (outer : List Env) (s : Shared) (H : Hp), DSs k (CxD P w K mg base N x st f cdv A outer s H) (defBody st) m) : Cal P w K mg base (k + 1) x st ps (defF ps.length N.length m) := by
  obtain ⟨f, fd, h1, F⟩ := D
  refine ⟨f, fd, h1, F, fn_G F hS (fun as b h => ?_) (fun as b h => if_pos h) fun cdv A outer s H => hbody f cdv A outer s H⟩
  unfold defF at h
  split at h
  · assumption
  · cases h
def denum (m : M D) : M (List D) := bnd m fun d => lft (match d with
    | .list xs => some (enumD 0 xs)
    | .tuple xs => some (enumD 0 xs)
    | _ => none)
def dval (m : M D) : M (List D) := bnd m fun d => lft (itemsD d)
section
variable {k : Nat} {X : Cx} {e tg : Expr} {p pos : Pos} {m : M D}
theorem di_valE (h : DV k X e m) : DI k X tg e (dval m) := di_val h
theorem di_enumE {elts : List Expr} {kk : Nat} {tpos : Pos} (hg : Gl X "enumerate") (hm : X.mg "enumerate" = none) (h : DV k X e m) (hs : starEach [e] X.env = (false, eval e X.env) :: starEach [] X.env := by rfl) : DI k X (.Tuple elts kk tpos) (.Call (.Name "enumerate" p) [e] [] pos) (denum m) := di_enum hg hm h hs
theorem dv_glE {x : Str} {i : Int} (hg : Gl X x) (hm : ∃ t, X.mg x = some (.int i t)) (hd : (x == ("__debug__" : Str)) = false := by decide) : DV k X (.Name x pos) (ret (.int i)) := by
  obtain ⟨t, h⟩ := hm
  exact dv_globI hg h hd
end
theorem bt_len : bootBuiltins "len" = some (.builtin "len") := by decide +kernel
theorem bt_abs : bootBuiltins "abs" = some (.builtin "abs") := by decide +kernel
theorem bt_sum : bootBuiltins "sum" = some (.builtin "sum") := by decide +kernel
theorem bt_max : bootBuiltins "max" = some (.builtin "max") := by decide +kernel
theorem bt_min : bootBuiltins "min" = some (.builtin "min") := by decide +kernel
theorem bt_all : bootBuiltins "all" = some (.builtin "all") := by decide +kernel
theorem bt_any : bootBuiltins "any" = some (.builtin "any") := by decide +kernel
theorem bt_repr : bootBuiltins "repr" = some (.builtin "repr") := by decide +kernel
theorem bt_int : bootBuiltins "int" = some (.type "int") := by decide +kernel
theorem bt_bool : bootBuiltins "bool" = some (.type "bool") := by decide +kernel
theorem bt_str : bootBuiltins "str" = some (.type "str") := by decide +kernel
theorem bt_list : bootBuiltins "list" = some (.type "list") := by decide +kernel
theorem bt_tuple : bootBuiltins "tuple" = some (.type "tuple") := by decide +kernel
theorem bt_dict : bootBuiltins "dict" = some (.type "dict") := by decide +kernel
/-- what a comprehension's block is asked, as one check -/
def blkB (N : List Str) (sc scope : Scope) (own : List (Str × Nat)) : Bool :=
  decide (scope.kind = .function) && (scope.names.all fun y => decide (scope.names.lookup y.1 = some y.2)) && (own.all fun p => decide (N[p.2]? = some p.1)) &&
  (scope.names.all fun y => !decide (y.2 = .free) || (decide (sc.names.lookup y.1 = some .cell) || decide (sc.names.lookup y.1 = some .free))) &&
  (scope.names.all fun y => !(decide (y.2 = .local) || decide (y.2 = .cell)) || (decide (y.1 ∈ own.map (·.1)) || decide (y.1 ∉ N)))
theorem blk_of {N : List Str} {sc scope : Scope} {own : List (Str × Nat)} (h : blkB N sc scope own = true) : BlkOk N sc scope own := by
  unfold blkB at h
  simp only [Bool.and_eq_true, List.all_eq_true, Bool.or_eq_true, Bool.not_eq_true', decide_eq_true_eq, decide_eq_false_iff_not] at h
  obtain ⟨⟨⟨⟨h1, h2⟩, h3⟩, h4⟩, h5⟩ := h
  refine ⟨h1, h2, h3, fun y hy e => ?_, fun y hy e => ?_⟩
  · rcases h4 y hy with z | z
    · exact absurd e z
    · exact z
  · rcases h5 y hy with z | z
    · have z : (decide (y.2 = NameKind.local) || decide (y.2 = NameKind.cell)) = false := z
      rw [Bool.or_eq_false_iff, decide_eq_false_iff_not, decide_eq_false_iff_not] at z
      exact e.elim (fun e => absurd e z.1) fun e => absurd e z.2
    · exact z
end TL
set_option Elab.async false
set_option linter.all false
set_option maxRecDepth 100000
set_option maxHeartbeats 4000000
namespace K03
open PySem L2 TL
/-! ### the text -/
def top (i : Nat) : Stmt := PySem.Challenge.pw_pipewalls_k03_whole_words_and_exchanges.main.body.getD i (.Pass ⟨0, 0, 0, 0⟩)
abbrev s_is_integer : Stmt := top 3
theorem sc_is_integer : FnScope ["value"] ["value"] (defScope s_is_integer) := ⟨rfl, rfl, rfl, by decide +kernel, rfl, by decide +kernel, by decide +kernel⟩
theorem bp_is_integer : BindsP "is_integer" s_is_integer ["value"] := fun _ _ _ _ _ _ us hl => match us, hl with | [_], _ => rfl
abbrev s_are_integers : Stmt := top 4
theorem sc_are_integers : FnScope ["value", "item"] ["value"] (defScope s_are_integers) := ⟨rfl, rfl, rfl, by decide +kernel, rfl, by decide +kernel, by decide +kernel⟩
theorem bp_are_integers : BindsP "are_integers" s_are_integers ["value"] := fun _ _ _ _ _ _ us hl => match us, hl with | [_], _ => rfl
abbrev s_short_order : Stmt := top 6
theorem sc_short_order : FnScope ["w", "many"] ["w"] (defScope s_short_order) := ⟨rfl, rfl, rfl, by decide +kernel, rfl, by decide +kernel, by decide +kernel⟩
theorem bp_short_order : BindsP "short_order" s_short_order ["w"] := fun _ _ _ _ _ _ us hl => match us, hl with | [_], _ => rfl
abbrev s_long_order : Stmt := top 7
theorem sc_long_order : FnScope ["w", "n"] ["w", "n"] (defScope s_long_order) := ⟨rfl, rfl, rfl, by decide +kernel, rfl, by decide +kernel, by decide +kernel⟩
theorem bp_long_order : BindsP "long_order" s_long_order ["w", "n"] := fun _ _ _ _ _ _ us hl => match us, hl with | [_, _], _ => rfl
abbrev s_order_turns : Stmt := top 8
theorem sc_order_turns : FnScope ["w", "found", "i", "item", "j"] ["w"] (defScope s_order_turns) := ⟨rfl, rfl, rfl, by decide +kernel, rfl, by decide +kernel, by decide +kernel⟩
theorem bp_order_turns : BindsP "order_turns" s_order_turns ["w"] := fun _ _ _ _ _ _ us hl => match us, hl with | [_], _ => rfl
abbrev s_order_length : Stmt := top 9
theorem sc_order_length : FnScope ["w"] ["w"] (defScope s_order_length) := ⟨rfl, rfl, rfl, by decide +kernel, rfl, by decide +kernel, by decide +kernel⟩
theorem bp_order_length : BindsP "order_length" s_order_length ["w"] := fun _ _ _ _ _ _ us hl => match us, hl with | [_], _ => rfl
abbrev s_inverse_order : Stmt := top 10
theorem sc_inverse_order : FnScope ["w", "found", "i", "item"] ["w"] (defScope s_inverse_order) := ⟨rfl, rfl, rfl, by decide +kernel, rfl, by decide +kernel, by decide +kernel⟩
theorem bp_inverse_order : BindsP "inverse_order" s_inverse_order ["w"] := fun _ _ _ _ _ _ us hl => match us, hl with | [_], _ => rfl
abbrev s_swapped_order : Stmt := top 12
theorem sc_swapped_order : FnScope ["w", "i", "j", "found"] ["w", "i", "j"] (defScope s_swapped_order) := ⟨rfl, rfl, rfl, by decide +kernel, rfl, by decide +kernel, by decide +kernel⟩
theorem bp_swapped_order : BindsP "swapped_order" s_swapped_order ["w", "i", "j"] := fun _ _ _ _ _ _ us hl => match us, hl with | [_, _, _], _ => rfl
abbrev s_swapword_error : Stmt := top 14
theorem sc_swapword_error : FnScope ["value", "odd", "i", "letter"] ["value"] (defScope s_swapword_error) := ⟨rfl, rfl, rfl, by decide +kernel, rfl, by decide +kernel, by decide +kernel⟩
theorem bp_swapword_error : BindsP "swapword_error" s_swapword_error ["value"] := fun _ _ _ _ _ _ us hl => match us, hl with | [_], _ => rfl
abbrev s_word_order : Stmt := top 15
theorem sc_word_order : FnScope ["word", "found", "a"] ["word"] (defScope s_word_order) := ⟨rfl, rfl, rfl, by decide +kernel, rfl, by decide +kernel, by decide +kernel⟩
theorem bp_word_order : BindsP "word_order" s_word_order ["word"] := fun _ _ _ _ _ _ us hl => match us, hl with | [_], _ => rfl
abbrev s_is_shortest : Stmt := top 16
theorem sc_is_shortest : FnScope ["word"] ["word"] (defScope s_is_shortest) := ⟨rfl, rfl, rfl, by decide +kernel, rfl, by decide +kernel, by decide +kernel⟩
theorem bp_is_shortest : BindsP "is_shortest" s_is_shortest ["word"] := fun _ _ _ _ _ _ us hl => match us, hl with | [_], _ => rfl
abbrev s_least_word : Stmt := top 17
theorem sc_least_word : FnScope ["w", "inverse", "found", "a", "i"] ["w"] (defScope s_least_word) := ⟨rfl, rfl, rfl, by decide +kernel, rfl, by decide +kernel, by decide +kernel⟩
theorem bp_least_word : BindsP "least_word" s_least_word ["w"] := fun _ _ _ _ _ _ us hl => match us, hl with | [_], _ => rfl
abbrev s_exchange_place : Stmt := top 18
theorem sc_exchange_place : FnScope ["word", "a", "goal", "p"] ["word", "a"] (defScope s_exchange_place) := ⟨rfl, rfl, rfl, by decide +kernel, rfl, by decide +kernel, by decide +kernel⟩
theorem bp_exchange_place : BindsP "exchange_place" s_exchange_place ["word", "a"] := fun _ _ _ _ _ _ us hl => match us, hl with | [_, _], _ => rfl
abbrev s__law_bag : Stmt := top 20
theorem sc__law_bag : FnScope ["script", "cells", "mixed", "cell"] ["script"] (defScope s__law_bag) := ⟨rfl, rfl, rfl, by decide +kernel, rfl, by decide +kernel, by decide +kernel⟩
theorem bp__law_bag : BindsP "_law_bag" s__law_bag ["script"] := fun _ _ _ _ _ _ us hl => match us, hl with | [_], _ => rfl
abbrev s__law_draw : Stmt := top 21
theorem sc__law_draw : FnScope ["bag", "below", "cell", "found"] ["bag", "below"] (defScope s__law_draw) := ⟨rfl, rfl, rfl, by decide +kernel, rfl, by decide +kernel, by decide +kernel⟩
theorem bp__law_draw : BindsP "_law_draw" s__law_draw ["bag", "below"] := fun _ _ _ _ _ _ us hl => match us, hl with | [_, _], _ => rfl
abbrev s__law_pick : Stmt := top 22
theorem sc__law_pick : FnScope ["bag", "some"] ["bag", "some"] (defScope s__law_pick) := ⟨rfl, rfl, rfl, by decide +kernel, rfl, by decide +kernel, by decide +kernel⟩
theorem bp__law_pick : BindsP "_law_pick" s__law_pick ["bag", "some"] := fun _ _ _ _ _ _ us hl => match us, hl with | [_, _], _ => rfl
abbrev s__law_same : Stmt := top 23
theorem sc__law_same : FnScope ["told", "due"] ["told", "due"] (defScope s__law_same) := ⟨rfl, rfl, rfl, by decide +kernel, rfl, by decide +kernel, by decide +kernel⟩
theorem bp__law_same : BindsP "_law_same" s__law_same ["told", "due"] := fun _ _ _ _ _ _ us hl => match us, hl with | [_, _], _ => rfl
abbrev s__law_bare : Stmt := top 24
theorem sc__law_bare : FnScope ["row", "many"] ["row"] (defScope s__law_bare) := ⟨rfl, rfl, rfl, by decide +kernel, rfl, by decide +kernel, by decide +kernel⟩
theorem bp__law_bare : BindsP "_law_bare" s__law_bare ["row"] := fun _ _ _ _ _ _ us hl => match us, hl with | [_], _ => rfl
abbrev s__law_made : Stmt := top 25
theorem sc__law_made : FnScope ["word", "row", "a"] ["word"] (defScope s__law_made) := ⟨rfl, rfl, rfl, by decide +kernel, rfl, by decide +kernel, by decide +kernel⟩
theorem bp__law_made : BindsP "_law_made" s__law_made ["word"] := fun _ _ _ _ _ _ us hl => match us, hl with | [_], _ => rfl
abbrev s__law_turns : Stmt := top 26
theorem sc__law_turns : FnScope ["order", "k", "high", "item"] ["order"] (defScope s__law_turns) := ⟨rfl, rfl, rfl, by decide +kernel, rfl, by decide +kernel, by decide +kernel⟩
theorem bp__law_turns : BindsP "_law_turns" s__law_turns ["order"] := fun _ _ _ _ _ _ us hl => match us, hl with | [_], _ => rfl
abbrev s__law_word : Stmt := top 27
theorem sc__law_word : FnScope ["bag", "way", "top", "many", "turn"] ["bag"] (defScope s__law_word) := ⟨rfl, rfl, rfl, by decide +kernel, rfl, by decide +kernel, by decide +kernel⟩
theorem bp__law_word : BindsP "_law_word" s__law_word ["bag"] := fun _ _ _ _ _ _ us hl => match us, hl with | [_], _ => rfl
abbrev s__law_up : Stmt := top 28
theorem sc__law_up : FnScope ["bag", "places", "most", "row", "word", "turn", "free", "a"] ["bag", "places", "most"] (defScope s__law_up) := ⟨rfl, rfl, rfl, by decide +kernel, rfl, by decide +kernel, by decide +kernel⟩
theorem bp__law_up : BindsP "_law_up" s__law_up ["bag", "places", "most"] := fun _ _ _ _ _ _ us hl => match us, hl with | [_, _, _], _ => rfl
abbrev s__law_moved : Stmt := top 29
theorem sc__law_moved : FnScope ["bag", "word", "found", "far", "p", "near"] ["bag", "word"] (defScope s__law_moved) := ⟨rfl, rfl, rfl, by decide +kernel, rfl, by decide +kernel, by decide +kernel⟩
theorem bp__law_moved : BindsP "_law_moved" s__law_moved ["bag", "word"] := fun _ _ _ _ _ _ us hl => match us, hl with | [_, _], _ => rfl
abbrev s__law_near : Stmt := top 30
theorem sc__law_near : FnScope ["bag", "word", "p", "a", "found", "q"] ["bag", "word"] (defScope s__law_near) := ⟨rfl, rfl, rfl, by decide +kernel, rfl, by decide +kernel, by decide +kernel⟩
theorem bp__law_near : BindsP "_law_near" s__law_near ["bag", "word"] := fun _ _ _ _ _ _ us hl => match us, hl with | [_, _], _ => rfl
abbrev s__law_are_words_right : Stmt := top 31
theorem sc__law_are_words_right : FnScope ["words", "word", "due", "shortest"] ["words"] (defScope s__law_are_words_right) := ⟨rfl, rfl, rfl, by decide +kernel, rfl, by decide +kernel, by decide +kernel⟩
theorem bp__law_are_words_right : BindsP "_law_are_words_right" s__law_are_words_right ["words"] := fun _ _ _ _ _ _ us hl => match us, hl with | [_], _ => rfl
abbrev s__law_order : Stmt := top 32
theorem sc__law_order : FnScope ["bag", "places", "way", "rest", "found", "turn"] ["bag"] (defScope s__law_order) := ⟨rfl, rfl, rfl, by decide +kernel, rfl, by decide +kernel, by decide +kernel⟩
theorem bp__law_order : BindsP "_law_order" s__law_order ["bag"] := fun _ _ _ _ _ _ us hl => match us, hl with | [_], _ => rfl
abbrev s__law_longer : Stmt := top 33
theorem sc__law_longer : FnScope ["bag", "order", "most", "k"] ["bag", "order"] (defScope s__law_longer) := ⟨rfl, rfl, rfl, by decide +kernel, rfl, by decide +kernel, by decide +kernel⟩
theorem bp__law_longer : BindsP "_law_longer" s__law_longer ["bag", "order"] := fun _ _ _ _ _ _ us hl => match us, hl with | [_, _], _ => rfl
abbrev s__law_searched : Stmt := top 34
theorem sc__law_searched : FnScope ["order", "found", "turn", "later", "row", "word", "a", "made", "longer"] ["order"] (defScope s__law_searched) := ⟨rfl, rfl, rfl, by decide +kernel, rfl, by decide +kernel, by decide +kernel⟩
theorem bp__law_searched : BindsP "_law_searched" s__law_searched ["order"] := fun _ _ _ _ _ _ us hl => match us, hl with | [_], _ => rfl
abbrev s__law_stepped : Stmt := top 35
theorem sc__law_stepped : FnScope ["order", "row", "word", "turn", "free", "one", "other", "a"] ["order"] (defScope s__law_stepped) := ⟨rfl, rfl, rfl, by decide +kernel, rfl, by decide +kernel, by decide +kernel⟩
theorem bp__law_stepped : BindsP "_law_stepped" s__law_stepped ["order"] := fun _ _ _ _ _ _ us hl => match us, hl with | [_], _ => rfl
abbrev s__law_are_least_right : Stmt := top 36
theorem sc__law_are_least_right : FnScope ["orders", "order", "short", "due", "told"] ["orders"] (defScope s__law_are_least_right) := ⟨rfl, rfl, rfl, by decide +kernel, rfl, by decide +kernel, by decide +kernel⟩
theorem bp__law_are_least_right : BindsP "_law_are_least_right" s__law_are_least_right ["orders"] := fun _ _ _ _ _ _ us hl => match us, hl with | [_], _ => rfl
abbrev s__law_are_exchanges_right : Stmt := top 37
theorem sc__law_are_exchanges_right : FnScope ["word", "whole", "many", "without", "a", "order", "places", "due", "p"] ["word"] (defScope s__law_are_exchanges_right) := ⟨rfl, rfl, rfl, by decide +kernel, rfl, by decide +kernel, by decide +kernel⟩
theorem bp__law_are_exchanges_right : BindsP "_law_are_exchanges_right" s__law_are_exchanges_right ["word"] := fun _ _ _ _ _ _ us hl => match us, hl with | [_], _ => rfl
abbrev s__law_is_whole : Stmt := top 38
theorem sc__law_is_whole : FnScope ["item"] ["item"] (defScope s__law_is_whole) := ⟨rfl, rfl, rfl, by decide +kernel, rfl, by decide +kernel, by decide +kernel⟩
theorem bp__law_is_whole : BindsP "_law_is_whole" s__law_is_whole ["item"] := fun _ _ _ _ _ _ us hl => match us, hl with | [_], _ => rfl
abbrev s__law_fault : Stmt := top 39
theorem sc__law_fault : FnScope ["value", "bad", "item", "i"] ["value"] (defScope s__law_fault) := ⟨rfl, rfl, rfl, by decide +kernel, rfl, by decide +kernel, by decide +kernel⟩
theorem bp__law_fault : BindsP "_law_fault" s__law_fault ["value"] := fun _ _ _ _ _ _ us hl => match us, hl with | [_], _ => rfl
abbrev s__law_values : Stmt := top 40
theorem sc__law_values : FnScope ["bag", "word", "other", "many", "great", "p", "q", "far", "odd", "full", "found"] ["bag", "word", "other"] (defScope s__law_values) := ⟨rfl, rfl, rfl, by decide +kernel, rfl, by decide +kernel, by decide +kernel⟩
theorem bp__law_values : BindsP "_law_values" s__law_values ["bag", "word", "other"] := fun _ _ _ _ _ _ us hl => match us, hl with | [_, _, _], _ => rfl
abbrev s__law_are_faults_right : Stmt := top 41
theorem sc__law_are_faults_right : FnScope ["values", "value", "due"] ["values"] (defScope s__law_are_faults_right) := ⟨rfl, rfl, rfl, by decide +kernel, rfl, by decide +kernel, by decide +kernel⟩
theorem bp__law_are_faults_right : BindsP "_law_are_faults_right" s__law_are_faults_right ["values"] := fun _ _ _ _ _ _ us hl => match us, hl with | [_], _ => rfl
abbrev s_law : Stmt := top 42
theorem sc_law : FnScope ["script", "bag", "one", "other", "places", "up", "few", "turned", "words", "order", "small", "orders", "values", "kept"] ["script"] (defScope s_law) := ⟨rfl, rfl, rfl, by decide +kernel, rfl, by decide +kernel, by decide +kernel⟩
theorem bk_is_shortest_0 : BindsN "is_shortest" s_is_shortest ["word"] ["word"] 0 [0] := fun _ _ _ _ _ _ us ws h1 h2 => match us, ws, h1, h2 with | [], [_], _, _ => rfl
theorem bk_word_order_1 : BindsN "word_order" s_word_order ["word"] ["word"] 0 [0] := fun _ _ _ _ _ _ us ws h1 h2 => match us, ws, h1, h2 with | [], [_], _, _ => rfl
theorem bk_least_word_2 : BindsN "least_word" s_least_word ["w"] ["w"] 0 [0] := fun _ _ _ _ _ _ us ws h1 h2 => match us, ws, h1, h2 with | [], [_], _, _ => rfl
theorem bk_exchange_place_3 : BindsN "exchange_place" s_exchange_place ["word", "a"] ["a", "word"] 0 [1, 0] := fun _ _ _ _ _ _ us ws h1 h2 => match us, ws, h1, h2 with | [], [_, _], _, _ => rfl
theorem bk_swapword_error_4 : BindsN "swapword_error" s_swapword_error ["value"] ["value"] 0 [0] := fun _ _ _ _ _ _ us ws h1 h2 => match us, ws, h1, h2 with | [], [_], _, _ => rfl
/-- what the module's names are -/
structure Tf (mg : Str → Option Value) : Prop where
  b_abs : mg "abs" = none
  b_all : mg "all" = none
  b_bool : mg "bool" = none
  b_dict : mg "dict" = none
  b_enumerate : mg "enumerate" = none
  b_int : mg "int" = none
  b_isinstance : mg "isinstance" = none
  b_len : mg "len" = none
  b_list : mg "list" = none
  b_max : mg "max" = none
  b_range : mg "range" = none
  b_repr : mg "repr" = none
  b_reversed : mg "reversed" = none
  b_sum : mg "sum" = none
  b_tuple : mg "tuple" = none
  c_MAX_PLACES : ∃ t, mg "MAX_PLACES" = some (.int 12 t)
  c_MAX_SWAPS : ∃ t, mg "MAX_SWAPS" = some (.int 100 t)
abbrev Has (K : PySem.W.Frag) (mg : Str → Option Value) (x : Str) (st : Stmt) : Prop := ∃ f fd, mg x = some (.ref f) ∧ Fun K x x st f fd
/-! ### what each def computes -/
def m_is_integer : M Out := (sret (end_ (dandV (disi isInt (dvar 0)) (fzO (dnotV (opd (disi isBool (dvar 0))))))))
def f_is_integer : Sm := defF 1 1 m_is_integer
def m_are_integers : M Out := (sret (end_ (dandV (disi isTup (dvar 0)) (fzO (dcl (p1 pAll) (rcons (opd (fzO (dlc [1] (dval (fzR (dvar 0))) (gnm 1) (ret true) (fzO (dcall f_is_integer (acons (arg (fzR (dvar 1))) anil)))))) rnil))))))
def f_are_integers : Sm := defF 1 2 m_are_integers
def m_short_order : M Out := (sseq (sset 1 (dcl (p1 pLen) (rcons (dvar 0) rnil)))
    (sseq (whl (dand (tst (op2 pGtI (dvar 1) (cst (.int 1)))) (tst (op2 pEq (opd (fzO (op2 pIx (dvar 0) (opd (fzO (op2 pSub (dvar 1) (cst (.int 1)))))))) (opd (fzO (op2 pSub (dvar 1) (cst (.int 1)))))))) (sset 1 (op2 pSub (dvar 1) (cst (.int 1)))) 200)
    (sret (dcl (p1 pTuple) (rcons (opd (fzO (dsl (dvar 0) pno (pso (dvar 1))))) rnil)))))
def f_short_order : Sm := defF 1 2 m_short_order
def m_long_order : M Out := (sret (op2 pAdd (opd (fzO (dcl (p1 pTuple) (rcons (dvar 0) rnil)))) (opd (fzO (drg2 tupO (fzO (dcl (p1 pLen) (rcons (dvar 0) rnil))) (fzR (dvar 1)))))))
def f_long_order : Sm := defF 2 2 m_long_order
def m_order_turns : M Out := (sseq (sset 1 (dlst anil))
    (sseq (sfor (denum (fzR (dvar 0))) (gtp 2 (gscons (gnm 2) (gscons (gnm 3) gsnil))) (sdrop (dmt kL 1 fExtend (acons (arg (fzO (dlc [4] (dits rng2 (acons (arg (fzO (op2 pAdd (dvar 2) (cst (.int 1))))) (acons (arg (fzO (dcl (p1 pLen) (rcons (dvar 0) rnil)))) anil))) (gnm 4) (tst (op2 pLt (opd (fzO (op2 pIx (dvar 0) (dvar 4)))) (dvar 3))) (fzO (dtup (acons (arg (fzR (dvar 2))) (acons (arg (fzR (dvar 4))) anil))))))) anil))))
    (sret (dcl (p1 pTuple) (rcons (dvar 1) rnil)))))
def f_order_turns : Sm := defF 1 5 m_order_turns
def m_order_length : M Out := (sret (dcl (p1 pLen) (rcons (opd (fzO (dcall f_order_turns (acons (arg (fzR (dvar 0))) anil)))) rnil)))
def f_order_length : Sm := defF 1 1 m_order_length
def m_inverse_order : M Out := (sseq (sset 1 (op2 pMul (opd (fzO (dlst (acons (arg (fzR (cst (.int 0)))) anil)))) (opd (fzO (dcl (p1 pLen) (rcons (dvar 0) rnil))))))
    (sseq (sfor (denum (fzR (dvar 0))) (gtp 2 (gscons (gnm 2) (gscons (gnm 3) gsnil))) (sasg (fzR (dvar 2)) (gst 1 (dvar 3))))
    (sret (dcall f_short_order (acons (arg (fzR (dvar 1))) anil)))))
def f_inverse_order : Sm := defF 1 4 m_inverse_order
def m_swapped_order : M Out := (sseq (sset 3 (dcl (p1 pList) (rcons (opd (fzO (dcall f_long_order (acons (arg (fzR (dvar 0))) (acons (arg (fzO (op2 pAdd (opd (fzO (dcl (p2 pMax2) (rcons (dvar 1) (rcons (dvar 2) rnil))))) (cst (.int 1))))) anil))))) rnil)))
    (sseq (sasg (fzO (dtup (acons (arg (fzO (op2 pIx (dvar 3) (dvar 2)))) (acons (arg (fzO (op2 pIx (dvar 3) (dvar 1)))) anil)))) (gtp 2 (gscons (gst 3 (dvar 1)) (gscons (gst 3 (dvar 2)) gsnil))))
    (sret (dcall f_short_order (acons (arg (fzR (dvar 3))) anil)))))
def f_swapped_order : Sm := defF 3 4 m_swapped_order
def m_swapword_error : M Out := (sseq (sif (dnot (dtr (opd (fzO (dcall f_are_integers (acons (arg (fzR (dvar 0))) anil)))))) (sret (end_ (fzR (cst (.str (Str.ofString "form")))))) snx)
    (sseq (sif (tst (op2 pGtI (opd (fzO (dcl (p1 pLen) (rcons (dvar 0) rnil)))) (opd (ret (.int 100))))) (sret (end_ (fzR (cst (.str (Str.ofString "many")))))) snx)
    (sseq (sset 1 (dlc [2, 3] (denum (fzR (dvar 0))) (gtp 2 (gscons (gnm 2) (gscons (gnm 3) gsnil))) (dnot (tst (dch pLeI pLeI (cst (.int 0)) (dvar 3) (opd (fzO (op2 pSub (opd (ret (.int 12))) (cst (.int 2)))))))) (fzR (dvar 2))))
    (sret (dif (tst (op2 pNe (dvar 1) (opd (fzO (dlst anil))))) (dtup (acons (arg (fzR (cst (.str (Str.ofString "letter"))))) (acons (arg (fzO (op2 pIx (dvar 1) (cst (.int 0))))) anil))) (end_ (fzR (cst .none))))))))
def f_swapword_error : Sm := defF 1 4 m_swapword_error
def m_word_order : M Out := (sseq (sset 1 (drg1 ownO (ret (.int 12))))
    (sseq (sfor (dval (fzR (dvar 0))) (gnm 2) (sasg (fzO (dtup (acons (arg (fzO (op2 pIx (dvar 1) (opd (fzO (op2 pAdd (dvar 2) (cst (.int 1)))))))) (acons (arg (fzO (op2 pIx (dvar 1) (dvar 2)))) anil)))) (gtp 2 (gscons (gst 1 (dvar 2)) (gscons (gst 1 (opd (fzO (op2 pAdd (dvar 2) (cst (.int 1)))))) gsnil)))))
    (sret (dcall f_short_order (acons (arg (fzR (dvar 1))) anil)))))
def f_word_order : Sm := defF 1 3 m_word_order
def m_is_shortest : M Out := (sret (op2 pEq (opd (fzO (dcall f_order_length (acons (arg (fzO (dcall f_word_order (acons (arg (fzR (dvar 0))) anil)))) anil)))) (opd (fzO (dcl (p1 pLen) (rcons (dvar 0) rnil))))))
def f_is_shortest : Sm := defF 1 1 m_is_shortest
def m_least_word_1 : M Out := (spar2 1 2 (ocons (dcall f_inverse_order (acons (arg (fzO (dcall f_short_order (acons (arg (fzR (dvar 0))) anil)))) anil)) (ocons (dlst anil) onil)))
def m_least_word_2_b : M Out := (sseq (sset 3 (op2 pIx (opd (fzO (dlc [4] (dits rng1 (acons (arg (fzO (op2 pSub (opd (fzO (dcl (p1 pLen) (rcons (dvar 1) rnil)))) (cst (.int 1))))) anil)) (gnm 4) (tst (op2 pGtI (opd (fzO (op2 pIx (dvar 1) (dvar 4)))) (opd (fzO (op2 pIx (dvar 1) (opd (fzO (op2 pAdd (dvar 4) (cst (.int 1)))))))))) (fzR (dvar 4))))) (cst (.int 0))))
    (sseq (sdrop (dmt kL 2 fAppend (acons (arg (fzR (dvar 3))) anil)))
    (sset 1 (dcall f_swapped_order (acons (arg (fzR (dvar 1))) (acons (arg (fzR (dvar 3))) (acons (arg (fzO (op2 pAdd (dvar 3) (cst (.int 1))))) anil)))))))
def m_least_word_2 : M Out := whl (tst (op2 pNe (dvar 1) (opd (fzO (dtup (acons (arg (fzR (cst (.int 0)))) anil)))))) m_least_word_2_b 200
def m_least_word_3 : M Out := (sret (dcl (p1 pTuple) (rcons (dvar 2) rnil)))
def m_least_word : M Out := (sseq m_least_word_1 (sseq m_least_word_2 m_least_word_3))
def f_least_word : Sm := defF 1 5 m_least_word
def m_exchange_place_1 : M Out := (sif (dtr (opd (fzO (dcall f_is_shortest (acons (arg (fzO (op2 pAdd (dvar 0) (opd (fzO (dtup (acons (arg (fzR (dvar 1))) anil))))))) anil))))) (sret (end_ (fzR (cst .none)))) snx)
def m_exchange_place_2 : M Out := (sset 2 (dcall f_word_order (acons (arg (fzO (op2 pAdd (dvar 0) (opd (fzO (dtup (acons (arg (fzR (dvar 1))) anil))))))) anil)))
def m_exchange_place_3 : M Out := (sret (op2 pIx (opd (fzO (dlc [3] (dits rng1 (acons (arg (fzO (dcl (p1 pLen) (rcons (dvar 0) rnil)))) anil)) (gnm 3) (tst (op2 pEq (opd (fzO (dcall f_word_order (acons (arg (fzO (op2 pAdd (opd (fzO (dsl (dvar 0) pno (pso (dvar 3))))) (opd (fzO (dsl (dvar 0) (pso (opd (fzO (op2 pAdd (dvar 3) (cst (.int 1)))))) pno)))))) anil)))) (dvar 2))) (fzR (dvar 3))))) (cst (.int 0))))
def m_exchange_place : M Out := (sseq m_exchange_place_1 (sseq m_exchange_place_2 m_exchange_place_3))
def f_exchange_place : Sm := defF 2 4 m_exchange_place
def m__law_draw : M Out := (sseq (whl (dand (tst (op2 pEq (opd (dbag 0 1)) (cst (.int 0)))) (dbne 0)) (sseq (sset 2 (end_ (dbpop 0)))
      (sbag 0 1 (fzO (dif (tst (op2 pGtI (dvar 2) (opd (fzO (op2 pPow (cst (.int 10)) (cst (.int 9))))))) (end_ (fzR (dvar 2))) (end_ (fzR (cst (.int 0)))))))) 200)
    (sseq (sif (tst (op2 pGtI (opd (dbag 0 1)) (cst (.int 0)))) (sseq (sset 3 (op2 pMod (opd (fzO (dcl (p1 pInt) (rcons (opd (dbag 0 1)) rnil)))) (dvar 1)))
      (sseq (sbag 0 1 (fzO (op2 pFdiv (opd (dbag 0 1)) (dvar 1))))
      (sretV 3))) snx)
    (sseq (sbag 0 2 (fzO (op2 pMod (opd (fzO (dcl (p1 pInt) (rcons (opd (fzO (op2 pAdd (opd (fzO (op2 pMul (opd (dbag 0 2)) (cst (.int 48271))))) (cst (.int 11))))) rnil)))) (cst (.int 2147483647)))))
    (sret (op2 pMod (opd (fzO (dcl (p1 pInt) (rcons (opd (fzO (op2 pFdiv (opd (fzO (op2 pMod (opd (fzO (dcl (p1 pInt) (rcons (opd (fzO (op2 pMul (opd (dbag 0 2)) (opd (dbag 0 2))))) rnil)))) (cst (.int 2147483629))))) (cst (.int 7))))) rnil)))) (dvar 1))))))
def f__law_draw : Sm := defF 2 4 m__law_draw
def m__law_pick : M Out := (sret (op2 pIx (dvar 1) (opd (fzO (dcall f__law_draw (acons (argB 0) (acons (arg (fzO (dcl (p1 pLen) (rcons (dvar 1) rnil)))) anil)))))))
def f__law_pick : Sm := defF 2 2 m__law_pick
def m__law_same : M Out := (sret (end_ (dandV (fzO (op2 pEq (opd (fzO (dcl (p1 pRepr) (rcons (dvar 0) rnil)))) (opd (fzO (dcl (p1 pRepr) (rcons (dvar 1) rnil)))))) (fzO (op2 pEq (dvar 0) (dvar 1))))))
def f__law_same : Sm := defF 2 2 m__law_same
def m__law_bare : M Out := (sseq (sset 1 (dcl (p1 pLen) (rcons (dvar 0) rnil)))
    (sseq (whl (dand (tst (op2 pGtI (dvar 1) (cst (.int 1)))) (tst (op2 pEq (opd (fzO (op2 pIx (dvar 0) (opd (fzO (op2 pSub (dvar 1) (cst (.int 1)))))))) (opd (fzO (op2 pSub (dvar 1) (cst (.int 1)))))))) (sset 1 (op2 pSub (dvar 1) (cst (.int 1)))) 200)
    (sret (dcl (p1 pTuple) (rcons (opd (fzO (dsl (dvar 0) pno (pso (dvar 1))))) rnil)))))
def f__law_bare : Sm := defF 1 2 m__law_bare
def m__law_made : M Out := (sseq (sset 1 (drg1 ownO (fzR (cst (.int 12)))))
    (sseq (sfor (dval (fzR (dvar 0))) (gnm 2) (sasg (fzO (dlst (acons (arg (fzO (op2 pIx (dvar 1) (opd (fzO (op2 pAdd (dvar 2) (cst (.int 1)))))))) (acons (arg (fzO (op2 pIx (dvar 1) (dvar 2)))) anil)))) (gsl 1 (pso (dvar 2)) (pso (opd (fzO (op2 pAdd (dvar 2) (cst (.int 2)))))))))
    (sret (dcall f__law_bare (acons (arg (fzR (dvar 1))) anil)))))
def f__law_made : Sm := defF 1 3 m__law_made
def m__law_turns : M Out := (sret (dcl (p1 pSum) (rcons (opd (fzO (dlc [1, 2] (denum (fzR (dvar 0))) (gtp 2 (gscons (gnm 1) (gscons (gnm 2) gsnil))) (ret true) (fzO (dcl (p1 pLen) (rcons (opd (fzO (dlc [3] (dval (fzO (dsl (dvar 0) (pso (opd (fzO (op2 pAdd (dvar 1) (cst (.int 1)))))) pno))) (gnm 3) (tst (op2 pLt (dvar 3) (dvar 2))) (fzR (dvar 3))))) rnil)))))) rnil)))
def f__law_turns : Sm := defF 1 4 m__law_turns
def m__law_word : M Out := (sseq (spar2 1 2 (ocons (dcall f__law_draw (acons (argB 0) (acons (arg (fzR (cst (.int 3)))) anil))) (ocons (op2 pAdd (cst (.int 1)) (opd (fzO (dcall f__law_draw (acons (argB 0) (acons (arg (fzR (cst (.int 11)))) anil)))))) onil)))
    (sseq (sset 3 (end_ (fzR (cst (.int 100)))))
    (sseq (sif (tst (op2 pEq (dvar 1) (cst (.int 0)))) (sset 3 (dcall f__law_draw (acons (argB 0) (acons (arg (fzR (cst (.int 101)))) anil)))) (sif (tst (op2 pEq (dvar 1) (cst (.int 1)))) (sset 3 (dcall f__law_draw (acons (argB 0) (acons (arg (fzR (cst (.int 13)))) anil)))) snx))
    (sret (dcl (p1 pTuple) (rcons (opd (fzO (dlc [4] (dits rng1 (acons (arg (fzR (dvar 3))) anil)) (gnm 4) (ret true) (fzO (dcall f__law_draw (acons (argB 0) (acons (arg (fzR (dvar 2))) anil))))))) rnil))))))
def f__law_word : Sm := defF 1 5 m__law_word
def m__law_up : M Out := (sseq (spar2 3 4 (ocons (drg1 ownO (fzR (dvar 1))) (ocons (dlst anil) onil)))
    (sseq (sfor (dits rng1 (acons (arg (fzR (dvar 2))) anil)) (gnm 5) (sseq (sset 6 (dlc [7] (dits rng1 (acons (arg (fzO (op2 pSub (dvar 1) (cst (.int 1))))) anil)) (gnm 7) (tst (op2 pLt (opd (fzO (op2 pIx (dvar 3) (dvar 7)))) (opd (fzO (op2 pIx (dvar 3) (opd (fzO (op2 pAdd (dvar 7) (cst (.int 1)))))))))) (fzR (dvar 7))))
      (sseq (sif (tst (op2 pEq (dvar 6) (opd (fzO (dlst anil))))) (ret .bk) snx)
      (sseq (sset 7 (dcall f__law_pick (acons (argB 0) (acons (arg (fzR (dvar 6))) anil))))
      (sseq (sasg (fzO (dlst (acons (arg (fzO (op2 pIx (dvar 3) (opd (fzO (op2 pAdd (dvar 7) (cst (.int 1)))))))) (acons (arg (fzO (op2 pIx (dvar 3) (dvar 7)))) anil)))) (gsl 3 (pso (dvar 7)) (pso (opd (fzO (op2 pAdd (dvar 7) (cst (.int 2))))))))
      (sdrop (dmt kL 4 fAppend (acons (arg (fzR (dvar 7))) anil))))))))
    (sret (dcl (p1 pTuple) (rcons (dvar 4) rnil)))))
def f__law_up : Sm := defF 3 8 m__law_up
def m__law_moved_1 : M Out := (sset 2 (dlst anil))
def m__law_moved_2 : M Out := (sset 3 (dlc [4] (dits rng1 (acons (arg (fzO (op2 pSub (opd (fzO (dcl (p1 pLen) (rcons (dvar 1) rnil)))) (cst (.int 1))))) anil)) (gnm 4) (tst (op2 pGtI (opd (fzO (dcl (p1 pAbs) (rcons (opd (fzO (op2 pSub (opd (fzO (op2 pIx (dvar 1) (dvar 4)))) (opd (fzO (op2 pIx (dvar 1) (opd (fzO (op2 pAdd (dvar 4) (cst (.int 1))))))))))) rnil)))) (cst (.int 1)))) (fzR (dvar 4))))
def m__law_moved_3 : M Out := (sif (tst (op2 pNe (dvar 3) (opd (fzO (dlst anil))))) (sseq (sset 4 (dcall f__law_pick (acons (argB 0) (acons (arg (fzR (dvar 3))) anil))))
      (sdrop (dmt kL 2 fAppend (acons (arg (fzO (op2 pAdd (opd (fzO (op2 pAdd (opd (fzO (dsl (dvar 1) pno (pso (dvar 4))))) (opd (fzO (dtup (acons (arg (fzO (op2 pIx (dvar 1) (opd (fzO (op2 pAdd (dvar 4) (cst (.int 1)))))))) (acons (arg (fzO (op2 pIx (dvar 1) (dvar 4)))) anil)))))))) (opd (fzO (dsl (dvar 1) (pso (opd (fzO (op2 pAdd (dvar 4) (cst (.int 2)))))) pno)))))) anil)))) snx)
def m__law_moved_4 : M Out := (sset 5 (dlc [4] (dits rng1 (acons (arg (fzO (op2 pSub (opd (fzO (dcl (p1 pLen) (rcons (dvar 1) rnil)))) (cst (.int 2))))) anil)) (gnm 4) (dand (tst (op2 pEq (opd (fzO (op2 pIx (dvar 1) (dvar 4)))) (opd (fzO (op2 pIx (dvar 1) (opd (fzO (op2 pAdd (dvar 4) (cst (.int 2)))))))))) (tst (op2 pEq (opd (fzO (dcl (p1 pAbs) (rcons (opd (fzO (op2 pSub (opd (fzO (op2 pIx (dvar 1) (dvar 4)))) (opd (fzO (op2 pIx (dvar 1) (opd (fzO (op2 pAdd (dvar 4) (cst (.int 1))))))))))) rnil)))) (cst (.int 1))))) (fzR (dvar 4))))
def m__law_moved_5 : M Out := (sif (tst (op2 pNe (dvar 5) (opd (fzO (dlst anil))))) (sseq (sset 4 (dcall f__law_pick (acons (argB 0) (acons (arg (fzR (dvar 5))) anil))))
      (sdrop (dmt kL 2 fAppend (acons (arg (fzO (op2 pAdd (opd (fzO (op2 pAdd (opd (fzO (dsl (dvar 1) pno (pso (dvar 4))))) (opd (fzO (dtup (acons (arg (fzO (op2 pIx (dvar 1) (opd (fzO (op2 pAdd (dvar 4) (cst (.int 1)))))))) (acons (arg (fzO (op2 pIx (dvar 1) (dvar 4)))) (acons (arg (fzO (op2 pIx (dvar 1) (opd (fzO (op2 pAdd (dvar 4) (cst (.int 1)))))))) anil))))))))) (opd (fzO (dsl (dvar 1) (pso (opd (fzO (op2 pAdd (dvar 4) (cst (.int 3)))))) pno)))))) anil)))) snx)
def m__law_moved_6 : M Out := (sretV 2)
def m__law_moved : M Out := (sseq m__law_moved_1 (sseq m__law_moved_2 (sseq m__law_moved_3 (sseq m__law_moved_4 (sseq m__law_moved_5 m__law_moved_6)))))
def f__law_moved : Sm := defF 2 6 m__law_moved
def m__law_near_1 : M Out := (spar2 2 3 (ocons (dcall f__law_draw (acons (argB 0) (acons (arg (fzO (op2 pAdd (opd (fzO (dcl (p1 pLen) (rcons (dvar 1) rnil)))) (cst (.int 1))))) anil))) (ocons (dcall f__law_draw (acons (argB 0) (acons (arg (fzR (cst (.int 11)))) anil))) onil)))
def m__law_near_2 : M Out := (sset 4 (dlst (acons (arg (fzO (op2 pAdd (opd (fzO (op2 pAdd (opd (fzO (dsl (dvar 1) pno (pso (dvar 2))))) (opd (fzO (dtup (acons (arg (fzR (dvar 3))) anil))))))) (opd (fzO (dsl (dvar 1) (pso (dvar 2)) pno)))))) anil)))
def m__law_near_3 : M Out := (sif (tst (op2 pNe (dvar 1) (opd (fzO (dtup anil))))) (sseq (sset 5 (dcall f__law_draw (acons (argB 0) (acons (arg (fzO (dcl (p1 pLen) (rcons (dvar 1) rnil)))) anil))))
      (sseq (sdrop (dmt kL 4 fAppend (acons (arg (fzO (op2 pAdd (opd (fzO (dsl (dvar 1) pno (pso (dvar 5))))) (opd (fzO (dsl (dvar 1) (pso (opd (fzO (op2 pAdd (dvar 5) (cst (.int 1)))))) pno)))))) anil)))
      (sseq (sdrop (dmt kL 4 fAppend (acons (arg (fzO (op2 pAdd (opd (fzO (op2 pAdd (opd (fzO (dsl (dvar 1) pno (pso (dvar 5))))) (opd (fzO (dtup (acons (arg (fzO (op2 pIx (dvar 1) (dvar 5)))) (acons (arg (fzO (op2 pIx (dvar 1) (dvar 5)))) anil)))))))) (opd (fzO (dsl (dvar 1) (pso (opd (fzO (op2 pAdd (dvar 5) (cst (.int 1)))))) pno)))))) anil)))
      (sdrop (dmt kL 4 fAppend (acons (arg (fzO (dsl (dvar 1) pno (pso (opd (fzO (op1 pNeg (cst (.int 1))))))))) anil)))))) snx)
def m__law_near_4 : M Out := (sif (tst (op2 pGtI (opd (fzO (dcl (p1 pLen) (rcons (dvar 1) rnil)))) (cst (.int 1)))) (sseq (sset 5 (dcall f__law_draw (acons (argB 0) (acons (arg (fzO (op2 pSub (opd (fzO (dcl (p1 pLen) (rcons (dvar 1) rnil)))) (cst (.int 1))))) anil))))
      (sdrop (dmt kL 4 fAppend (acons (arg (fzO (op2 pAdd (opd (fzO (op2 pAdd (opd (fzO (dsl (dvar 1) pno (pso (dvar 5))))) (opd (fzO (dtup (acons (arg (fzO (op2 pIx (dvar 1) (opd (fzO (op2 pAdd (dvar 5) (cst (.int 1)))))))) (acons (arg (fzO (op2 pIx (dvar 1) (dvar 5)))) anil)))))))) (opd (fzO (dsl (dvar 1) (pso (opd (fzO (op2 pAdd (dvar 5) (cst (.int 2)))))) pno)))))) anil)))) snx)
def m__law_near_5 : M Out := (sretV 4)
def m__law_near : M Out := (sseq m__law_near_1 (sseq m__law_near_2 (sseq m__law_near_3 (sseq m__law_near_4 m__law_near_5))))
def f__law_near : Sm := defF 2 6 m__law_near
def m__law_are_words_right : M Out := (sseq (sfor (dval (fzR (dvar 0))) (gnm 1) (sseq (sset 2 (dcall f__law_made (acons (arg (fzR (dvar 1))) anil)))
      (sseq (sif (dor (dnot (dtr (opd (fzO (dcall f__law_same (acons (arg (fzO (dcall f_word_order (acons (arg (fzR (dvar 1))) anil)))) (acons (arg (fzR (dvar 2))) anil))))))) (dnot (dtr (opd (fzO (dcall f__law_same (acons (arg (fzO (dcall f_word_order (kwm [0] anil (acons (arg (fzR (dvar 1))) anil))))) (acons (arg (fzR (dvar 2))) anil)))))))) (sret (end_ (fzR (cst (.bool false))))) snx)
      (sseq (sset 3 (op2 pEq (opd (fzO (dcall f__law_turns (acons (arg (fzR (dvar 2))) anil)))) (opd (fzO (dcl (p1 pLen) (rcons (dvar 1) rnil))))))
      (sif (dor (dnot (dtr (opd (fzO (dcall f__law_same (acons (arg (fzO (dcall f_is_shortest (acons (arg (fzR (dvar 1))) anil)))) (acons (arg (fzR (dvar 3))) anil))))))) (dnot (dtr (opd (fzO (dcall f__law_same (acons (arg (fzO (dcall f_is_shortest (kwm [0] anil (acons (arg (fzR (dvar 1))) anil))))) (acons (arg (fzR (dvar 3))) anil)))))))) (sret (end_ (fzR (cst (.bool false))))) snx)))))
    (sret (end_ (fzR (cst (.bool true))))))
def f__law_are_words_right : Sm := defF 1 4 m__law_are_words_right
def m__law_order_1 : M Out := (spar2 1 2 (ocons (op2 pAdd (cst (.int 1)) (opd (fzO (dcall f__law_draw (acons (argB 0) (acons (arg (fzR (cst (.int 12)))) anil)))))) (ocons (dcall f__law_draw (acons (argB 0) (acons (arg (fzR (cst (.int 6)))) anil))) onil)))
def m__law_order_2 : M Out := (sset 3 (drg1 ownO (fzR (dvar 1))))
def m__law_order_3 : M Out := (sif (tst (op2 pEq (dvar 2) (cst (.int 0)))) (sret (drevO tupO (opd (fzO (dcl (p1 pList) (rcons (dvar 3) rnil)))))) snx)
def m__law_order_4 : M Out := (sif (tst (op2 pEq (dvar 2) (cst (.int 1)))) (sret (dcl (p1 pTuple) (rcons (dvar 3) rnil))) snx)
def m__law_order_5 : M Out := (sset 4 (dlst anil))
def m__law_order_6_b : M Out := (sdrop (dmt kL 4 fAppend (acons (arg (dmt kL 3 fPopAt (acons (arg (fzO (dcall f__law_draw (acons (argB 0) (acons (arg (fzO (dcl (p1 pLen) (rcons (dvar 3) rnil)))) anil))))) anil))) anil)))
def m__law_order_6 : M Out := sfor (dits rng1 (acons (arg (fzR (dvar 1))) anil)) (gnm 5) m__law_order_6_b
def m__law_order_7 : M Out := (sret (dcl (p1 pTuple) (rcons (dvar 4) rnil)))
def m__law_order : M Out := (sseq m__law_order_1 (sseq m__law_order_2 (sseq m__law_order_3 (sseq m__law_order_4 (sseq m__law_order_5 (sseq m__law_order_6 m__law_order_7))))))
def f__law_order : Sm := defF 1 6 m__law_order
def m__law_longer_1 : M Out := (sset 2 (op2 pSub (cst (.int 12)) (opd (fzO (dcl (p1 pLen) (rcons (dvar 1) rnil))))))
def m__law_longer_2 : M Out := (sret (op2 pAdd (dvar 1) (opd (fzO (dcl (p1 pTuple) (rcons (opd (fzO (dlc [3] (dits rng1 (acons (arg (fzO (dcall f__law_draw (acons (argB 0) (acons (arg (fzO (op2 pAdd (dvar 2) (cst (.int 1))))) anil))))) anil)) (gnm 3) (ret true) (fzO (op2 pAdd (opd (fzO (dcl (p1 pLen) (rcons (dvar 1) rnil)))) (dvar 3)))))) rnil))))))
def m__law_longer : M Out := (sseq m__law_longer_1 m__law_longer_2)
def f__law_longer : Sm := defF 2 4 m__law_longer
def m__law_searched_1 : M Out := (sset 1 (ddsT (fzO (dcl (p1 pTuple) (rcons (opd (fzO (drg1 ownO (fzO (dcl (p1 pLen) (rcons (dvar 0) rnil)))))) rnil))) (fzO (dtup anil))))
def m__law_searched_2_b : M Out := (sseq (sset 3 (ret (dtO [])))
    (sseq (sfor (ditT 1) (gtp 2 (gscons (gnm 4) (gscons (gnm 5) gsnil))) (sfor (dits rng1 (acons (arg (fzO (op2 pSub (opd (fzO (dcl (p1 pLen) (rcons (dvar 4) rnil)))) (cst (.int 1))))) anil)) (gnm 6) (sif (tst (op2 pLt (opd (fzO (op2 pIx (dvar 4) (dvar 6)))) (opd (fzO (op2 pIx (dvar 4) (opd (fzO (op2 pAdd (dvar 6) (cst (.int 1)))))))))) (sseq (sset 7 (op2 pAdd (opd (fzO (op2 pAdd (opd (fzO (dsl (dvar 4) pno (pso (dvar 6))))) (opd (fzO (dtup (acons (arg (fzO (op2 pIx (dvar 4) (opd (fzO (op2 pAdd (dvar 6) (cst (.int 1)))))))) (acons (arg (fzO (op2 pIx (dvar 4) (dvar 6)))) anil)))))))) (opd (fzO (dsl (dvar 4) (pso (opd (fzO (op2 pAdd (dvar 6) (cst (.int 2)))))) pno)))))
          (sseq (sset 8 (op2 pAdd (dvar 5) (opd (fzO (dtup (acons (arg (fzR (dvar 6))) anil))))))
          (sif (dor (dniT (fzR (dvar 7)) 3) (tst (op2 pLt (dvar 8) (opd (dgT 3 (fzR (dvar 7))))))) (sputT 3 (fzR (dvar 7)) (fzR (dvar 8))) snx))) snx)))
    (sset 1 (dcpT 3))))
def m__law_searched_2 : M Out := sfor (dits rng1 (acons (arg (fzO (dcall f__law_turns (acons (arg (fzR (dvar 0))) anil)))) anil)) (gnm 2) m__law_searched_2_b
def m__law_searched_3 : M Out := (sret (end_ (dgT 1 (fzR (dvar 0)))))
def m__law_searched : M Out := (sseq m__law_searched_1 (sseq m__law_searched_2 m__law_searched_3))
def f__law_searched : Sm := defF 1 9 m__law_searched
def m__law_stepped_1 : M Out := (spar2 1 2 (ocons (dcl (p1 pList) (rcons (dvar 0) rnil)) (ocons (dlst anil) onil)))
def m__law_stepped_2_b : M Out := (sseq (sset 4 (dlc [7] (dits rng1 (acons (arg (fzO (op2 pSub (opd (fzO (dcl (p1 pLen) (rcons (dvar 1) rnil)))) (cst (.int 1))))) anil)) (gnm 7) (tst (op2 pLt (opd (dmt kL 1 fIndex (acons (arg (fzO (op2 pAdd (dvar 7) (cst (.int 1))))) anil))) (opd (dmt kL 1 fIndex (acons (arg (fzR (dvar 7))) anil))))) (fzR (dvar 7))))
    (sseq (sif (tst (op2 pEq (dvar 4) (opd (fzO (dlst anil))))) (ret .bk) snx)
    (sseq (spar2 5 6 (ocons (end_ (dmt kL 1 fIndex (acons (arg (fzO (op2 pIx (dvar 4) (cst (.int 0))))) anil))) (ocons (end_ (dmt kL 1 fIndex (acons (arg (fzO (op2 pAdd (opd (fzO (op2 pIx (dvar 4) (cst (.int 0))))) (cst (.int 1))))) anil))) onil)))
    (sseq (sasg (fzO (op2 pAdd (opd (fzO (op2 pIx (dvar 4) (cst (.int 0))))) (cst (.int 1)))) (gst 1 (dvar 5)))
    (sseq (sasg (fzO (op2 pIx (dvar 4) (cst (.int 0)))) (gst 1 (dvar 6)))
    (sdrop (dmt kL 2 fAppend (acons (arg (fzO (op2 pIx (dvar 4) (cst (.int 0))))) anil))))))))
def m__law_stepped_2 : M Out := sfor (dits rng1 (acons (arg (fzR (cst (.int 67)))) anil)) (gnm 3) m__law_stepped_2_b
def m__law_stepped_3 : M Out := (sret (dcl (p1 pTuple) (rcons (dvar 2) rnil)))
def m__law_stepped : M Out := (sseq m__law_stepped_1 (sseq m__law_stepped_2 m__law_stepped_3))
def f__law_stepped : Sm := defF 1 8 m__law_stepped
def m__law_are_least_right_1_b : M Out := (sseq (sset 2 (dcall f__law_bare (acons (arg (fzR (dvar 1))) anil)))
    (sseq (sset 3 (dif (tst (op2 pLt (opd (fzO (dcl (p1 pLen) (rcons (dvar 2) rnil)))) (cst (.int 6)))) (dcall f__law_searched (acons (arg (fzR (dvar 2))) anil)) (dcall f__law_stepped (acons (arg (fzR (dvar 2))) anil))))
    (sseq (sset 4 (dcall f_least_word (acons (arg (fzR (dvar 1))) anil)))
    (sseq (sif (dor (dnot (dtr (opd (fzO (dcall f__law_same (acons (arg (fzR (dvar 4))) (acons (arg (fzR (dvar 3))) anil))))))) (dnot (dtr (opd (fzO (dcall f__law_same (acons (arg (fzO (dcall f_least_word (kwm [0] anil (acons (arg (fzR (dvar 1))) anil))))) (acons (arg (fzR (dvar 3))) anil)))))))) (sret (end_ (fzR (cst (.bool false))))) snx)
    (sif (dor (tst (op2 pNe (opd (fzO (dcall f__law_made (acons (arg (fzR (dvar 4))) anil)))) (dvar 2))) (dor (tst (op2 pNe (opd (fzO (dcl (p1 pLen) (rcons (dvar 4) rnil)))) (opd (fzO (dcall f__law_turns (acons (arg (fzR (dvar 2))) anil)))))) (dnot (dtr (opd (fzO (dcall f_is_shortest (acons (arg (fzR (dvar 4))) anil)))))))) (sret (end_ (fzR (cst (.bool false))))) snx)))))
def m__law_are_least_right_1 : M Out := sfor (dval (fzR (dvar 0))) (gnm 1) m__law_are_least_right_1_b
def m__law_are_least_right_2 : M Out := (sret (end_ (fzR (cst (.bool true)))))
def m__law_are_least_right : M Out := (sseq m__law_are_least_right_1 m__law_are_least_right_2)
def f__law_are_least_right : Sm := defF 1 5 m__law_are_least_right
def m__law_are_exchanges_right_1 : M Out := (spar2 1 2 (ocons (dcall f__law_made (acons (arg (fzR (dvar 0))) anil)) (ocons (dcl (p1 pLen) (rcons (dvar 0) rnil)) onil)))
def m__law_are_exchanges_right_2 : M Out := (sset 3 (dlc [8] (dits rng1 (acons (arg (fzR (dvar 2))) anil)) (gnm 8) (ret true) (fzO (dcall f__law_made (acons (arg (fzO (op2 pAdd (opd (fzO (dsl (dvar 0) pno (pso (dvar 8))))) (opd (fzO (dsl (dvar 0) (pso (opd (fzO (op2 pAdd (dvar 8) (cst (.int 1)))))) pno)))))) anil)))))
def m__law_are_exchanges_right_3 : M Out := (sif (tst (op2 pNe (opd (fzO (dcall f__law_turns (acons (arg (fzR (dvar 1))) anil)))) (dvar 2))) (sret (end_ (fzR (cst (.bool false))))) snx)
def m__law_are_exchanges_right_4_b : M Out := (sseq (sset 5 (dcall f__law_made (acons (arg (fzO (op2 pAdd (dvar 0) (opd (fzO (dtup (acons (arg (fzR (dvar 4))) anil))))))) anil)))
    (sseq (sset 6 (dlc [8] (dits rng1 (acons (arg (fzR (dvar 2))) anil)) (gnm 8) (tst (op2 pEq (opd (fzO (op2 pIx (dvar 3) (dvar 8)))) (dvar 5))) (fzR (dvar 8))))
    (sseq (sset 7 (dif (tst (op2 pGtI (opd (fzO (dcall f__law_turns (acons (arg (fzR (dvar 5))) anil)))) (dvar 2))) (end_ (fzR (cst .none))) (op2 pIx (dvar 6) (cst (.int 0)))))
    (sif (dor (dnot (dtr (opd (fzO (dcall f__law_same (acons (arg (fzO (dcall f_exchange_place (acons (arg (fzR (dvar 0))) (acons (arg (fzR (dvar 4))) anil))))) (acons (arg (fzR (dvar 7))) anil))))))) (dnot (dtr (opd (fzO (dcall f__law_same (acons (arg (fzO (dcall f_exchange_place (kwm [1, 0] anil (acons (arg (fzR (dvar 4))) (acons (arg (fzR (dvar 0))) anil)))))) (acons (arg (fzR (dvar 7))) anil)))))))) (sret (end_ (fzR (cst (.bool false))))) snx))))
def m__law_are_exchanges_right_4 : M Out := sfor (dits rng1 (acons (arg (fzR (cst (.int 11)))) anil)) (gnm 4) m__law_are_exchanges_right_4_b
def m__law_are_exchanges_right_5 : M Out := (sret (end_ (fzR (cst (.bool true)))))
def m__law_are_exchanges_right : M Out := (sseq m__law_are_exchanges_right_1 (sseq m__law_are_exchanges_right_2 (sseq m__law_are_exchanges_right_3 (sseq m__law_are_exchanges_right_4 m__law_are_exchanges_right_5))))
def f__law_are_exchanges_right : Sm := defF 1 9 m__law_are_exchanges_right
def m__law_is_whole : M Out := (sret (end_ (dandV (disi isInt (dvar 0)) (fzO (dnotV (opd (disi isBool (dvar 0))))))))
def f__law_is_whole : Sm := defF 1 1 m__law_is_whole
def m__law_fault : M Out := (sseq (sif (dor (dnot (dtr (opd (disi isTup (dvar 0))))) (dnot (dtr (opd (fzO (dcl (p1 pAll) (rcons (opd (fzO (dlc [2] (dval (fzR (dvar 0))) (gnm 2) (ret true) (fzO (dcall f__law_is_whole (acons (arg (fzR (dvar 2))) anil)))))) rnil))))))) (sret (end_ (fzR (cst (.str (Str.ofString "form")))))) snx)
    (sseq (sif (tst (op2 pGtI (opd (fzO (dcl (p1 pLen) (rcons (dvar 0) rnil)))) (cst (.int 100)))) (sret (end_ (fzR (cst (.str (Str.ofString "many")))))) snx)
    (sseq (sset 1 (dlc [3, 2] (denum (fzR (dvar 0))) (gtp 2 (gscons (gnm 3) (gscons (gnm 2) gsnil))) (dor (tst (op2 pLt (dvar 2) (cst (.int 0)))) (tst (op2 pGtI (dvar 2) (cst (.int 10))))) (fzR (dvar 3))))
    (sret (dif (tst (op2 pNe (dvar 1) (opd (fzO (dlst anil))))) (dtup (acons (arg (fzR (cst (.str (Str.ofString "letter"))))) (acons (arg (fzO (op2 pIx (dvar 1) (cst (.int 0))))) anil))) (end_ (fzR (cst .none))))))))
def f__law_fault : Sm := defF 1 4 m__law_fault
def m__law_values_1 : M Out := (spar2 3 4 (ocons (dcl (p1 pLen) (rcons (dvar 1) rnil)) (ocons (op2 pPow (opd (fzO (op2 pPow (cst (.int 10)) (cst (.int 57))))) (cst (.int 7))) onil)))
def m__law_values_2 : M Out := (sset 5 (dcall f__law_draw (acons (argB 0) (acons (arg (fzR (dvar 3))) anil))))
def m__law_values_3 : M Out := (sset 6 (op2 pAdd (dvar 5) (opd (fzO (dcall f__law_draw (acons (argB 0) (acons (arg (fzO (op2 pSub (dvar 3) (dvar 5)))) anil)))))))
def m__law_values_4 : M Out := (sset 7 (dcall f__law_pick (acons (argB 0) (acons (arg (fzO (dlst (acons (arg (fzO (op1 pNeg (cst (.int 1))))) (acons (arg (fzR (cst (.int 11)))) (acons (arg (fzR (cst (.int 12)))) (acons (arg (fzO (op1 pNeg (cst (.int 2))))) (acons (arg (fzR (cst (.int 100)))) (acons (arg (fzR (dvar 4))) (acons (arg (fzO (op1 pNeg (dvar 4)))) (acons (arg (fzO (op2 pAdd (cst (.int 11)) (opd (fzO (dcall f__law_draw (acons (argB 0) (acons (arg (fzO (op2 pPow (cst (.int 10)) (cst (.int 9))))) anil)))))))) anil))))))))))) anil))))
def m__law_values_5 : M Out := (sset 8 (dcall f__law_pick (acons (argB 0) (acons (arg (fzO (dlst (acons (arg (fzR (cst (.bool true)))) (acons (arg (fzR (cst (.bool false)))) (acons (arg (fzR (cst .none))) (acons (arg (fzR (cst (.str (Str.ofString "1"))))) (acons (arg (fzR (cst (.str (Str.ofString ""))))) (acons (arg (fzO (dtup (acons (arg (fzR (cst (.int 1)))) anil)))) (acons (arg (fzO (dlst (acons (arg (fzR (cst (.int 1)))) anil)))) (acons (arg (fzO (dtup anil))) (acons (arg (fzO (ddsK (.inl 1) (fzR (cst (.int 1)))))) anil)))))))))))) anil))))
def m__law_values_6 : M Out := (sset 9 (op2 pAdd (dvar 1) (opd (fzO (op2 pMul (opd (fzO (dtup (acons (arg (fzO (op2 pIx (dvar 1) (dvar 5)))) anil)))) (opd (fzO (op2 pSub (cst (.int 100)) (dvar 3)))))))))
def m__law_values_7 : M Out := (sset 10 (dlst (acons (arg (fzR (dvar 1))) (acons (arg (fzR (dvar 2))) (acons (arg (fzO (dtup anil))) (acons (arg (fzR (dvar 9))) (acons (arg (fzO (op2 pMul (opd (fzO (dtup (acons (arg (fzR (cst (.int 10)))) anil)))) (cst (.int 100))))) (acons (arg (fzO (op2 pMul (opd (fzO (dtup (acons (arg (fzR (cst (.int 0)))) anil)))) (cst (.int 100))))) (acons (arg (fzO (op2 pAdd (dvar 9) (opd (fzO (dtup (acons (arg (fzR (cst (.int 0)))) anil))))))) (acons (arg (fzO (op2 pAdd (dvar 9) (opd (fzO (op2 pMul (opd (fzO (dsl (dvar 1) pno (pso (cst (.int 1)))))) (cst (.int 3)))))))) (acons (arg (fzO (op2 pMul (opd (fzO (dtup (acons (arg (fzR (cst (.int 0)))) anil)))) (cst (.int 101))))) anil)))))))))))
def m__law_values_8 : M Out := (sdrop (dmt kL 10 fAppend (acons (arg (fzO (op2 pAdd (opd (fzO (op2 pAdd (opd (fzO (dsl (dvar 1) pno (pso (dvar 5))))) (opd (fzO (dtup (acons (arg (fzR (dvar 7))) anil))))))) (opd (fzO (dsl (dvar 1) (pso (opd (fzO (op2 pAdd (dvar 5) (cst (.int 1)))))) pno)))))) anil)))
def m__law_values_9 : M Out := (sdrop (dmt kL 10 fAppend (acons (arg (fzO (op2 pAdd (opd (fzO (dsl (dvar 1) pno (pso (opd (fzO (op1 pNeg (cst (.int 1))))))))) (opd (fzO (dtup (acons (arg (fzR (dvar 7))) anil))))))) anil)))
def m__law_values_10 : M Out := (sdrop (dmt kL 10 fAppend (acons (arg (fzO (op2 pAdd (opd (fzO (dsl (dvar 9) pno (pso (opd (fzO (op1 pNeg (cst (.int 1))))))))) (opd (fzO (dtup (acons (arg (fzR (dvar 7))) anil))))))) anil)))
def m__law_values_11 : M Out := (sdrop (dmt kL 10 fAppend (acons (arg (fzO (op2 pAdd (opd (fzO (op2 pAdd (opd (fzO (op2 pAdd (opd (fzO (op2 pAdd (opd (fzO (dsl (dvar 1) pno (pso (dvar 5))))) (opd (fzO (dtup (acons (arg (fzR (dvar 7))) anil))))))) (opd (fzO (dsl (dvar 1) (pso (opd (fzO (op2 pAdd (dvar 5) (cst (.int 1)))))) (pso (dvar 6)))))))) (opd (fzO (dtup (acons (arg (fzO (op1 pNeg (dvar 7)))) anil))))))) (opd (fzO (dsl (dvar 1) (pso (opd (fzO (op2 pAdd (dvar 6) (cst (.int 1)))))) pno)))))) anil)))
def m__law_values_12 : M Out := (sdrop (dmt kL 10 fAppend (acons (arg (fzO (op2 pAdd (opd (fzO (op2 pAdd (opd (fzO (dsl (dvar 1) pno (pso (dvar 5))))) (opd (fzO (dtup (acons (arg (fzR (dvar 8))) anil))))))) (opd (fzO (dsl (dvar 1) (pso (opd (fzO (op2 pAdd (dvar 5) (cst (.int 1)))))) pno)))))) anil)))
def m__law_values_13 : M Out := (sdrop (dmt kL 10 fAppend (acons (arg (fzO (op2 pAdd (opd (fzO (dsl (dvar 9) pno (pso (opd (fzO (op1 pNeg (cst (.int 1))))))))) (opd (fzO (dtup (acons (arg (fzR (dvar 8))) anil))))))) anil)))
def m__law_values_14 : M Out := (sdrop (dmt kL 10 fAppend (acons (arg (fzO (dif (tst (op2 pLt (dvar 3) (cst (.int 100)))) (op2 pAdd (opd (fzO (op2 pAdd (opd (fzO (op2 pAdd (opd (fzO (dsl (dvar 1) pno (pso (dvar 5))))) (opd (fzO (dtup (acons (arg (fzR (dvar 7))) anil))))))) (opd (fzO (dsl (dvar 1) (pso (opd (fzO (op2 pAdd (dvar 5) (cst (.int 1)))))) pno)))))) (opd (fzO (dtup (acons (arg (fzR (dvar 8))) anil))))) (op2 pAdd (opd (fzO (dsl (dvar 1) pno (pso (opd (fzO (op1 pNeg (cst (.int 1))))))))) (opd (fzO (dtup (acons (arg (fzR (cst (.bool true)))) anil)))))))) anil)))
def m__law_values_15 : M Out := (sdrop (dmt kL 10 fAppend (acons (arg (fzO (op2 pAdd (dvar 9) (opd (fzO (dtup (acons (arg (fzR (dvar 7))) anil))))))) anil)))
def m__law_values_16 : M Out := (sdrop (dmt kL 10 fAppend (acons (arg (fzO (op2 pAdd (opd (fzO (dtup (acons (arg (fzR (dvar 7))) anil)))) (dvar 9)))) anil)))
def m__law_values_17 : M Out := (sdrop (dmt kL 10 fAppend (acons (arg (fzO (op2 pAdd (dvar 9) (opd (fzO (dtup (acons (arg (fzR (dvar 8))) anil))))))) anil)))
def m__law_values_18 : M Out := (sdrop (dmt kL 10 fAppend (acons (arg (fzO (op2 pMul (opd (fzO (dtup (acons (arg (fzR (cst (.bool true)))) anil)))) (cst (.int 101))))) anil)))
def m__law_values_19 : M Out := (sdrop (dmt kL 10 fExtend (acons (arg (fzO (dlst (acons (arg (fzO (dcl (p1 pList) (rcons (dvar 1) rnil)))) (acons (arg (fzO (dcl (p1 pList) (rcons (dvar 9) rnil)))) (acons (arg (fzO (dtup (acons (arg (fzR (dvar 1))) anil)))) (acons (arg (fzO (dlst anil))) (acons (arg (fzR (cst .none))) (acons (arg (fzR (cst (.bool true)))) (acons (arg (fzR (cst (.int 0)))) (acons (arg (fzR (dvar 7))) (acons (arg (fzR (cst (.str (Str.ofString "0 1"))))) (acons (arg (fzR (cst (.str (Str.ofString ""))))) (acons (arg (fzO (ret (.v (.dict []))))) (acons (arg (fzO (ddsK (.inl 0) (fzR (cst (.int 1)))))) (acons (arg (fzR (cst (.str (Str.ofString "form"))))) (acons (arg (fzO (dtup (acons (arg (fzO (dtup anil))) anil)))) anil))))))))))))))))) anil)))
def m__law_values_20 : M Out := (sdrop (dmt kL 10 fExtend (acons (arg (fzO (dlst (acons (arg (fzO (dtup (acons (arg (fzR (cst (.int 11)))) anil)))) (acons (arg (fzO (dtup (acons (arg (fzR (cst (.int 10)))) anil)))) (acons (arg (fzO (dtup (acons (arg (fzR (cst (.int 0)))) anil)))) (acons (arg (fzO (dtup (acons (arg (fzO (op1 pNeg (cst (.int 1))))) anil)))) (acons (arg (fzO (dtup (acons (arg (fzR (cst (.int 0)))) (acons (arg (fzR (cst (.bool true)))) anil))))) (acons (arg (fzO (dtup (acons (arg (fzR (cst (.int 1)))) (acons (arg (fzR (cst (.int 1)))) anil))))) (acons (arg (fzO (dtup (acons (arg (fzR (cst (.bool false)))) anil)))) (acons (arg (fzO (dtup (acons (arg (fzR (cst (.int 0)))) (acons (arg (fzR (cst (.int 1)))) anil))))) (acons (arg (fzO (dtup (acons (arg (fzR (cst (.int 0)))) (acons (arg (fzR (cst (.bool true)))) anil))))) (acons (arg (fzO (dtup (acons (arg (fzR (cst (.int 0)))) (acons (arg (fzR (cst (.int 1)))) anil))))) anil))))))))))))) anil)))
def m__law_values_21 : M Out := (sretV 10)
def m__law_values : M Out := (sseq m__law_values_1 (sseq m__law_values_2 (sseq m__law_values_3 (sseq m__law_values_4 (sseq m__law_values_5 (sseq m__law_values_6 (sseq m__law_values_7 (sseq m__law_values_8 (sseq m__law_values_9 (sseq m__law_values_10 (sseq m__law_values_11 (sseq m__law_values_12 (sseq m__law_values_13 (sseq m__law_values_14 (sseq m__law_values_15 (sseq m__law_values_16 (sseq m__law_values_17 (sseq m__law_values_18 (sseq m__law_values_19 (sseq m__law_values_20 m__law_values_21))))))))))))))))))))
def f__law_values : Sm := defF 3 11 m__law_values
def m__law_are_faults_right : M Out := (sseq (sfor (dval (fzR (dvar 0))) (gnm 1) (sseq (sset 2 (dcall f__law_fault (acons (arg (fzR (dvar 1))) anil)))
      (sif (dor (dnot (dtr (opd (fzO (dcall f__law_same (acons (arg (fzO (dcall f_swapword_error (acons (arg (fzR (dvar 1))) anil)))) (acons (arg (fzR (dvar 2))) anil))))))) (dnot (dtr (opd (fzO (dcall f__law_same (acons (arg (fzO (dcall f_swapword_error (kwm [0] anil (acons (arg (fzR (dvar 1))) anil))))) (acons (arg (fzR (dvar 2))) anil)))))))) (sret (end_ (fzR (cst (.bool false))))) snx)))
    (sret (end_ (fzR (cst (.bool true))))))
def f__law_are_faults_right : Sm := defF 1 3 m__law_are_faults_right
def m__law_bag : M Out := (sseq (sset 2 (op2 pAdd (cst (.int 1357)) (opd (fzO (dcl (p1 pLen) (rcons (dvar 1) rnil))))))
    (sseq (sfor (dval (fzR (dvar 1))) (gnm 3) (sset 2 (op2 pMod (opd (fzO (dcl (p1 pInt) (rcons (opd (fzO (op2 pAdd (opd (fzO (op2 pAdd (opd (fzO (op2 pMul (dvar 2) (cst (.int 48271))))) (opd (fzO (op2 pMod (opd (fzO (dcl (p1 pInt) (rcons (dvar 3) rnil)))) (cst (.int 2147483629)))))))) (cst (.int 7))))) rnil)))) (cst (.int 2147483647)))))
    (sret (dbagO (ocons (drevO ownO (opd (fzO (dcl (p1 pList) (rcons (dvar 1) rnil))))) (ocons (end_ (fzR (cst (.int 0)))) (ocons (end_ (fzR (dvar 2))) onil)))))))
def g__law_bag : List Int → Option Bg := bagM [3] (gnm 3) (ret true) (fzO (dcl (p1 pAbs) (rcons (dvar 3) rnil))) 1 4 m__law_bag
def m_law_1 : M Out := (spar2 2 3 (ocons (dcall f__law_word (acons (argB 1) anil)) (ocons (dcall f__law_word (acons (argB 1) anil)) onil)))
def m_law_2 : M Out := (sset 4 (dcall f__law_pick (acons (argB 1) (acons (arg (fzO (dlst (acons (arg (fzR (cst (.int 12)))) (acons (arg (fzO (op2 pAdd (cst (.int 1)) (opd (fzO (dcall f__law_draw (acons (argB 1) (acons (arg (fzR (cst (.int 12)))) anil)))))))) (acons (arg (fzO (op2 pAdd (cst (.int 1)) (opd (fzO (dcall f__law_draw (acons (argB 1) (acons (arg (fzR (cst (.int 5)))) anil)))))))) anil)))))) anil))))
def m_law_3 : M Out := (sset 5 (dcall f__law_up (acons (argB 1) (acons (arg (fzR (dvar 4))) (acons (arg (fzO (dcall f__law_pick (acons (argB 1) (acons (arg (fzO (dlst (acons (arg (fzR (cst (.int 66)))) (acons (arg (fzO (dcall f__law_draw (acons (argB 1) (acons (arg (fzR (cst (.int 67)))) anil))))) (acons (arg (fzO (dcall f__law_draw (acons (argB 1) (acons (arg (fzR (cst (.int 13)))) anil))))) anil)))))) anil))))) anil)))))
def m_law_4 : M Out := (sset 6 (dcall f__law_up (acons (argB 1) (acons (arg (fzO (op2 pAdd (cst (.int 2)) (opd (fzO (dcall f__law_draw (acons (argB 1) (acons (arg (fzR (cst (.int 4)))) anil)))))))) (acons (arg (fzO (dcall f__law_draw (acons (argB 1) (acons (arg (fzR (cst (.int 11)))) anil))))) anil)))))
def m_law_5 : M Out := (sset 7 (drevO tupO (opd (fzO (dcl (p1 pList) (rcons (dvar 2) rnil))))))
def m_law_6 : M Out := (sset 8 (dlst (acons (arg (fzR (dvar 2))) (acons (arg (fzR (dvar 3))) (acons (arg (fzR (dvar 7))) (acons (arg (fzO (dsl (opd (fzO (op2 pAdd (dvar 2) (dvar 3)))) pno (pso (cst (.int 100)))))) (acons (arg (fzO (dsl (opd (fzO (op2 pAdd (dvar 3) (dvar 5)))) pno (pso (cst (.int 100)))))) (acons (arg (fzR (dvar 5))) (acons (arg (fzO (drevO tupO (opd (fzO (dcl (p1 pList) (rcons (dvar 5) rnil))))))) (acons (arg (fzR (dvar 6))) (acons (arg (fzO (dtup anil))) anil)))))))))))
def m_law_7 : M Out := (sset 8 (op2 pAdd (opd (fzO (op2 pAdd (opd (fzO (op2 pAdd (opd (fzO (op2 pAdd (dvar 8) (opd (fzO (dcall f__law_near (acons (argB 1) (acons (arg (fzR (dvar 5))) anil)))))))) (opd (fzO (dcall f__law_moved (acons (argB 1) (acons (arg (fzR (dvar 5))) anil)))))))) (opd (fzO (dcall f__law_near (acons (argB 1) (acons (arg (fzR (dvar 6))) anil)))))))) (opd (fzO (dcall f__law_moved (acons (argB 1) (acons (arg (fzR (dvar 6))) anil)))))))
def m_law_8 : M Out := (spar2 9 10 (ocons (dcall f__law_order (acons (argB 1) anil)) (ocons (dcall f__law_made (acons (arg (fzR (dvar 6))) anil)) onil)))
def m_law_9 : M Out := (sset 11 (dlst (acons (arg (fzR (dvar 9))) (acons (arg (fzO (dcall f__law_longer (acons (argB 1) (acons (arg (fzR (dvar 9))) anil))))) (acons (arg (fzO (dcall f__law_longer (acons (argB 1) (acons (arg (fzR (dvar 10))) anil))))) (acons (arg (fzO (dcall f__law_made (acons (arg (fzR (dvar 5))) anil)))) (acons (arg (fzO (dcall f__law_longer (acons (argB 1) (acons (arg (fzO (dtup (acons (arg (fzR (cst (.int 0)))) anil)))) anil))))) anil)))))))
def m_law_10 : M Out := (sset 12 (dcall f__law_values (acons (argB 1) (acons (arg (fzO (dif (tst (op2 pNe (dvar 2) (opd (fzO (dtup anil))))) (end_ (fzR (dvar 2))) (dtup (acons (arg (fzR (cst (.int 3)))) (acons (arg (fzR (cst (.int 1)))) (acons (arg (fzR (cst (.int 4)))) anil))))))) (acons (arg (fzR (dvar 5))) anil)))))
def m_law_11 : M Out := (sset 13 (dcl (p1 pRepr) (rcons (opd (fzO (dlst (acons (arg (fzR (dvar 8))) (acons (arg (fzR (dvar 11))) (acons (arg (fzR (dvar 12))) anil)))))) rnil)))
def m_law_12 : M Out := (sif (dor (dnot (dtr (opd (fzO (dcall f__law_are_words_right (acons (arg (fzR (dvar 8))) anil)))))) (dnot (dtr (opd (fzO (dcall f__law_are_least_right (acons (arg (fzR (dvar 11))) anil))))))) (sret (end_ (fzR (cst (.bool false))))) snx)
def m_law_13 : M Out := (sif (dor (dnot (dtr (opd (fzO (dcall f__law_are_exchanges_right (acons (arg (fzR (dvar 5))) anil)))))) (dnot (dtr (opd (fzO (dcall f__law_are_exchanges_right (acons (arg (fzR (dvar 6))) anil))))))) (sret (end_ (fzR (cst (.bool false))))) snx)
def m_law_14 : M Out := (sif (dor (dnot (dtr (opd (fzO (dcall f__law_are_faults_right (acons (arg (fzR (dvar 12))) anil)))))) (dnot (dtr (opd (fzO (dcall f__law_are_words_right (acons (arg (fzO (dlst (acons (arg (fzR (dvar 5))) (acons (arg (fzR (dvar 2))) anil))))) anil))))))) (sret (end_ (fzR (cst (.bool false))))) snx)
def m_law_15 : M Out := (sret (op2 pEq (opd (fzO (dcl (p1 pRepr) (rcons (opd (fzO (dlst (acons (arg (fzR (dvar 8))) (acons (arg (fzR (dvar 11))) (acons (arg (fzR (dvar 12))) anil)))))) rnil)))) (dvar 13)))
def m_law : M Out := (sseq m_law_1 (sseq m_law_2 (sseq m_law_3 (sseq m_law_4 (sseq m_law_5 (sseq m_law_6 (sseq m_law_7 (sseq m_law_8 (sseq m_law_9 (sseq m_law_10 (sseq m_law_11 (sseq m_law_12 (sseq m_law_13 (sseq m_law_14 m_law_15))))))))))))))
/-! ### the walks -/
section
variable {P : Program} {w : World} {K : PySem.W.Frag} {mg : Str → Option Value} {base : Heap} {k : Nat}
theorem ok_is_integer (T : Tf mg) (D : Has K mg "is_integer" s_is_integer)  : Cal P w K mg base (k + 1) "is_integer" s_is_integer ["value"] f_is_integer :=
  cal_mk D sc_is_integer fun f cdv A outer s H =>
    (dss_one (ds_ret (DO.ofV (dv_and (dv_isi ki_int rfl T.b_isinstance rfl T.b_int bt_int (dr_var 0 (pv 0))) (dv_one (DV.ofO (do_not (DR.ofV (dv_isi ki_bool rfl T.b_isinstance rfl T.b_bool bt_bool (dr_var 0 (pv 0)))))))))))
theorem ok_are_integers (T : Tf mg) (D : Has K mg "are_integers" s_are_integers) (c_is_integer : Cal P w K mg base k "is_integer" s_is_integer ["value"] f_is_integer) : Cal P w K mg base (k + 1) "are_integers" s_are_integers ["value"] f_are_integers :=
  cal_mk D sc_are_integers fun f cdv A outer s H =>
    (dss_one (ds_ret (DO.ofV (dv_and (dv_isi ki_tup rfl T.b_isinstance rfl T.b_tuple bt_tuple (dr_var 0 (pv 0))) (dv_one (DV.ofO (do_B (fun _ h => cb_all h) rfl T.b_all bt_all (drs_cons (DR.ofO (do_lc (own := [("item", 1)]) sc_are_integers.nd (di_valE (DV.ofR (dr_var 0 (pv 0)))) (blk_of (by kernel_rfl)) (fun _ _ _ _ _ => (dtg_name (i := 1) sc_are_integers.nd rfl (by first | exact Or.inl rfl | exact Or.inr rfl))) (fun _ _ _ _ _ => dts_nil) (fun _ _ _ _ _ => (DV.ofO (do_call c_is_integer rfl bp_is_integer (da_cons (dg_r (dr_var 1 (pv 1))) da_nil)))))) drs_nil))))))))
theorem ok_short_order (T : Tf mg) (D : Has K mg "short_order" s_short_order)  : Cal P w K mg base (k + 1) "short_order" s_short_order ["w"] f_short_order :=
  cal_mk D sc_short_order fun f cdv A outer s H =>
    (dss_cons (ds_set (i := 1) sc_short_order.nd rfl (.inl rfl) (do_B (fun _ h => cb_len) rfl T.b_len bt_len (drs_cons (dr_var 0 (pv 0)) drs_nil)))
    (dss_cons (ds_while 200 (dt_w (dw_and (dt_cmp (fun _ _ => or_gtI) (dr_var 1 (pv 1)) dr_int rfl) (dw_and1 (dt_cmp (fun _ h => or_eq h) (DR.ofO (do_ix (dr_var 0 (pv 0)) (DR.ofO (do_op (fun _ _ => or_sub) (dr_var 1 (pv 1)) dr_int)) (fun _ _ => rfl))) (DR.ofO (do_op (fun _ _ => or_sub) (dr_var 1 (pv 1)) dr_int)) rfl)))) (dss_one (ds_set (i := 1) sc_short_order.nd rfl (.inl rfl) (do_op (fun _ _ => or_sub) (dr_var 1 (pv 1)) dr_int))))
    (dss_one (ds_ret (do_Ty (fun _ _ => ct_tuple) rfl T.b_tuple bt_tuple (drs_cons (DR.ofO (do_sl (dr_var 0 (pv 0)) dp_no (dp_so (dr_var 1 (pv 1))))) drs_nil))))))
theorem ok_long_order (T : Tf mg) (D : Has K mg "long_order" s_long_order)  : Cal P w K mg base (k + 1) "long_order" s_long_order ["w", "n"] f_long_order :=
  cal_mk D sc_long_order fun f cdv A outer s H =>
    (dss_one (ds_ret (do_op (fun _ _ => or_add) (DR.ofO (do_Ty (fun _ _ => ct_tuple) rfl T.b_tuple bt_tuple (drs_cons (dr_var 0 (pv 0)) drs_nil))) (DR.ofO (do_trg2 rfl T.b_tuple rfl T.b_range (DV.ofO (do_B (fun _ h => cb_len) rfl T.b_len bt_len (drs_cons (dr_var 0 (pv 0)) drs_nil))) (DV.ofR (dr_var 1 (pv 1))))))))
theorem ok_order_turns (T : Tf mg) (D : Has K mg "order_turns" s_order_turns)  : Cal P w K mg base (k + 1) "order_turns" s_order_turns ["w"] f_order_turns :=
  cal_mk D sc_order_turns fun f cdv A outer s H =>
    (dss_cons (ds_set (i := 1) sc_order_turns.nd rfl (.inl rfl) (do_lst da_nil))
    (dss_cons (ds_for (di_enumE rfl T.b_enumerate (DV.ofR (dr_var 0 (pv 0)))) (dtg_tup (dtgs_cons (dtg_name (i := 2) sc_order_turns.nd rfl (by first | exact Or.inl rfl | exact Or.inr rfl)) (dtgs_cons (dtg_name (i := 3) sc_order_turns.nd rfl (by first | exact Or.inl rfl | exact Or.inr rfl)) dtgs_nil))) (dss_one (ds_expr (dv_mt kdL mine_extend mo_extend PySem.F.plainAttrs_list PySem.F.slot_list_extend PySem.F.type_list_extend (fun _ => mt_extend) (pv 1) (da_cons (dg_o (do_lc (own := [("j", 4)]) sc_order_turns.nd (di_rng2 rfl T.b_range (da_cons (dg_o (do_op (fun _ _ => or_add) (dr_var 2 (pv 2)) dr_int)) (da_cons (dg_o (do_B (fun _ h => cb_len) rfl T.b_len bt_len (drs_cons (dr_var 0 (pv 0)) drs_nil))) da_nil))) (blk_of (by kernel_rfl)) (fun _ _ _ _ _ => (dtg_name (i := 4) sc_order_turns.nd rfl (by first | exact Or.inl rfl | exact Or.inr rfl))) (fun _ _ _ _ _ => (dts_one (dt_cmp (fun _ h => or_lt h) (DR.ofO (do_ix (dr_var 0 (pv 0)) (dr_var 4 (pv 4)) (fun _ _ => rfl))) (dr_var 3 (pv 3)) rfl))) (fun _ _ _ _ _ => (DV.ofO (do_tup (da_cons (dg_r (dr_var 2 (pv 2))) (da_cons (dg_r (dr_var 4 (pv 4))) da_nil))))))) da_nil)))))
    (dss_one (ds_ret (do_Ty (fun _ _ => ct_tuple) rfl T.b_tuple bt_tuple (drs_cons (dr_var 1 (pv 1)) drs_nil))))))
theorem ok_order_length (T : Tf mg) (D : Has K mg "order_length" s_order_length) (c_order_turns : Cal P w K mg base k "order_turns" s_order_turns ["w"] f_order_turns) : Cal P w K mg base (k + 1) "order_length" s_order_length ["w"] f_order_length :=
  cal_mk D sc_order_length fun f cdv A outer s H =>
    (dss_one (ds_ret (do_B (fun _ h => cb_len) rfl T.b_len bt_len (drs_cons (DR.ofO (do_call c_order_turns rfl bp_order_turns (da_cons (dg_r (dr_var 0 (pv 0))) da_nil))) drs_nil))))
theorem ok_inverse_order (T : Tf mg) (D : Has K mg "inverse_order" s_inverse_order) (c_short_order : Cal P w K mg base k "short_order" s_short_order ["w"] f_short_order) : Cal P w K mg base (k + 1) "inverse_order" s_inverse_order ["w"] f_inverse_order :=
  cal_mk D sc_inverse_order fun f cdv A outer s H =>
    (dss_cons (ds_set (i := 1) sc_inverse_order.nd rfl (.inl rfl) (do_op (fun _ _ => or_mul) (DR.ofO (do_lst (da_cons (dg_r dr_int) da_nil))) (DR.ofO (do_B (fun _ h => cb_len) rfl T.b_len bt_len (drs_cons (dr_var 0 (pv 0)) drs_nil)))))
    (dss_cons (ds_for (di_enumE rfl T.b_enumerate (DV.ofR (dr_var 0 (pv 0)))) (dtg_tup (dtgs_cons (dtg_name (i := 2) sc_inverse_order.nd rfl (by first | exact Or.inl rfl | exact Or.inr rfl)) (dtgs_cons (dtg_name (i := 3) sc_inverse_order.nd rfl (by first | exact Or.inl rfl | exact Or.inr rfl)) dtgs_nil))) (dss_one (ds_asg (DV.ofR (dr_var 2 (pv 2))) (dtg_set (pv 1) (dr_var 3 (pv 3))))))
    (dss_one (ds_ret (do_call c_short_order rfl bp_short_order (da_cons (dg_r (dr_var 1 (pv 1))) da_nil))))))
theorem ok_swapped_order (T : Tf mg) (D : Has K mg "swapped_order" s_swapped_order) (c_short_order : Cal P w K mg base k "short_order" s_short_order ["w"] f_short_order) (c_long_order : Cal P w K mg base k "long_order" s_long_order ["w", "n"] f_long_order) : Cal P w K mg base (k + 1) "swapped_order" s_swapped_order ["w", "i", "j"] f_swapped_order :=
  cal_mk D sc_swapped_order fun f cdv A outer s H =>
    (dss_cons (ds_set (i := 3) sc_swapped_order.nd rfl (.inl rfl) (do_Ty (fun _ _ => ct_list) rfl T.b_list bt_list (drs_cons (DR.ofO (do_call c_long_order rfl bp_long_order (da_cons (dg_r (dr_var 0 (pv 0))) (da_cons (dg_o (do_op (fun _ _ => or_add) (DR.ofO (do_B (fun _ h => cb_max2 h) rfl T.b_max bt_max (drs_cons (dr_var 1 (pv 1)) (drs_cons (dr_var 2 (pv 2)) drs_nil)))) dr_int)) da_nil)))) drs_nil)))
    (dss_cons (ds_asg (DV.ofO (do_tup (da_cons (dg_o (do_ix (dr_var 3 (pv 3)) (dr_var 2 (pv 2)) (fun _ _ => rfl))) (da_cons (dg_o (do_ix (dr_var 3 (pv 3)) (dr_var 1 (pv 1)) (fun _ _ => rfl))) da_nil)))) (dtg_tup (dtgs_cons (dtg_set (pv 3) (dr_var 1 (pv 1))) (dtgs_cons (dtg_set (pv 3) (dr_var 2 (pv 2))) dtgs_nil))))
    (dss_one (ds_ret (do_call c_short_order rfl bp_short_order (da_cons (dg_r (dr_var 3 (pv 3))) da_nil))))))
theorem ok_swapword_error (T : Tf mg) (D : Has K mg "swapword_error" s_swapword_error) (c_are_integers : Cal P w K mg base k "are_integers" s_are_integers ["value"] f_are_integers) : Cal P w K mg base (k + 1) "swapword_error" s_swapword_error ["value"] f_swapword_error :=
  cal_mk D sc_swapword_error fun f cdv A outer s H =>
    (dss_cons (ds_if (dt_not (dt_tru (DR.ofO (do_call c_are_integers rfl bp_are_integers (da_cons (dg_r (dr_var 0 (pv 0))) da_nil))))) (dss_one (ds_ret (DO.ofR dr_str))) dss_nil)
    (dss_cons (ds_if (dt_cmp (fun _ _ => or_gtI) (DR.ofO (do_B (fun _ h => cb_len) rfl T.b_len bt_len (drs_cons (dr_var 0 (pv 0)) drs_nil))) (DR.ofV (dv_glE rfl T.c_MAX_SWAPS)) rfl) (dss_one (ds_ret (DO.ofR dr_str))) dss_nil)
    (dss_cons (ds_setLc (i := 1) (own := [("i", 2), ("letter", 3)]) sc_swapword_error.nd rfl rfl (sw_true rfl rfl rfl (by decide +kernel)) (di_enumE rfl T.b_enumerate (DV.ofR (dr_var 0 (pv 0)))) (blk_of (by kernel_rfl)) (fun _ _ _ _ _ => (dtg_tup (dtgs_cons (dtg_name (i := 2) sc_swapword_error.nd rfl (by first | exact Or.inl rfl | exact Or.inr rfl)) (dtgs_cons (dtg_name (i := 3) sc_swapword_error.nd rfl (by first | exact Or.inl rfl | exact Or.inr rfl)) dtgs_nil)))) (fun _ _ _ _ _ => (dts_one (dt_not (dt_chain (fun _ _ => or_leI) (fun _ _ => or_leI) dr_int (dr_var 3 (pv 3)) (DR.ofO (do_op (fun _ _ => or_sub) (DR.ofV (dv_glE rfl T.c_MAX_PLACES)) dr_int)))))) (fun _ _ _ _ _ => (DV.ofR (dr_var 2 (pv 2)))))
    (dss_one (ds_ret (do_if (dt_cmp (fun _ h => or_ne h) (dr_var 1 (pv 1)) (DR.ofO (do_lst da_nil)) rfl) (do_tup (da_cons (dg_r dr_str) (da_cons (dg_o (do_ix (dr_var 1 (pv 1)) dr_int (fun _ _ => rfl))) da_nil))) (DO.ofR dr_non)))))))
theorem ok_word_order (T : Tf mg) (D : Has K mg "word_order" s_word_order) (c_short_order : Cal P w K mg base k "short_order" s_short_order ["w"] f_short_order) : Cal P w K mg base (k + 1) "word_order" s_word_order ["word"] f_word_order :=
  cal_mk D sc_word_order fun f cdv A outer s H =>
    (dss_cons (ds_set (i := 1) sc_word_order.nd rfl (.inl rfl) (do_lrg1 rfl T.b_list rfl T.b_range (dv_glE rfl T.c_MAX_PLACES)))
    (dss_cons (ds_for (di_valE (DV.ofR (dr_var 0 (pv 0)))) (dtg_name (i := 2) sc_word_order.nd rfl (by first | exact Or.inl rfl | exact Or.inr rfl)) (dss_one (ds_asg (DV.ofO (do_tup (da_cons (dg_o (do_ix (dr_var 1 (pv 1)) (DR.ofO (do_op (fun _ _ => or_add) (dr_var 2 (pv 2)) dr_int)) (fun _ _ => rfl))) (da_cons (dg_o (do_ix (dr_var 1 (pv 1)) (dr_var 2 (pv 2)) (fun _ _ => rfl))) da_nil)))) (dtg_tup (dtgs_cons (dtg_set (pv 1) (dr_var 2 (pv 2))) (dtgs_cons (dtg_set (pv 1) (DR.ofO (do_op (fun _ _ => or_add) (dr_var 2 (pv 2)) dr_int))) dtgs_nil))))))
    (dss_one (ds_ret (do_call c_short_order rfl bp_short_order (da_cons (dg_r (dr_var 1 (pv 1))) da_nil))))))
theorem ok_is_shortest (T : Tf mg) (D : Has K mg "is_shortest" s_is_shortest) (c_order_length : Cal P w K mg base k "order_length" s_order_length ["w"] f_order_length) (c_word_order : Cal P w K mg base k "word_order" s_word_order ["word"] f_word_order) : Cal P w K mg base (k + 1) "is_shortest" s_is_shortest ["word"] f_is_shortest :=
  cal_mk D sc_is_shortest fun f cdv A outer s H =>
    (dss_one (ds_ret (do_cmp (fun _ h => or_eq h) (DR.ofO (do_call c_order_length rfl bp_order_length (da_cons (dg_o (do_call c_word_order rfl bp_word_order (da_cons (dg_r (dr_var 0 (pv 0))) da_nil))) da_nil))) (DR.ofO (do_B (fun _ h => cb_len) rfl T.b_len bt_len (drs_cons (dr_var 0 (pv 0)) drs_nil))) rfl)))
theorem ok_least_word (T : Tf mg) (D : Has K mg "least_word" s_least_word) (c_swapped_order : Cal P w K mg base k "swapped_order" s_swapped_order ["w", "i", "j"] f_swapped_order) (c_inverse_order : Cal P w K mg base k "inverse_order" s_inverse_order ["w"] f_inverse_order) (c_short_order : Cal P w K mg base k "short_order" s_short_order ["w"] f_short_order) : Cal P w K mg base (k + 1) "least_word" s_least_word ["w"] f_least_word :=
  cal_mk D sc_least_word fun f cdv A outer s H =>
    (dss_cons (ds_par2T (i := 1) (j := 2) sc_least_word.nd rfl rfl (.inr rfl) (.inl rfl) (dos_cons (do_call c_inverse_order rfl bp_inverse_order (da_cons (dg_o (do_call c_short_order rfl bp_short_order (da_cons (dg_r (dr_var 0 (pv 0))) da_nil))) da_nil)) (dos_cons (do_lst da_nil) dos_nil)))
    (dss_cons (ds_while 200 (dt_cmp (fun _ h => or_ne h) (dr_var 1 (pv 1)) (DR.ofO (do_tup (da_cons (dg_r dr_int) da_nil))) rfl) (dss_cons (ds_set (i := 3) sc_least_word.nd rfl (.inl rfl) (do_ix (DR.ofO (do_lc (own := [("i", 4)]) sc_least_word.nd (di_rng1 rfl T.b_range (da_cons (dg_o (do_op (fun _ _ => or_sub) (DR.ofO (do_B (fun _ h => cb_len) rfl T.b_len bt_len (drs_cons (dr_var 1 (pv 1)) drs_nil))) dr_int)) da_nil)) (blk_of (by kernel_rfl)) (fun _ _ _ _ _ => (dtg_name (i := 4) sc_least_word.nd rfl (by first | exact Or.inl rfl | exact Or.inr rfl))) (fun _ _ _ _ _ => (dts_one (dt_cmp (fun _ _ => or_gtI) (DR.ofO (do_ix (dr_var 1 (pv 1)) (dr_var 4 (pv 4)) (fun _ _ => rfl))) (DR.ofO (do_ix (dr_var 1 (pv 1)) (DR.ofO (do_op (fun _ _ => or_add) (dr_var 4 (pv 4)) dr_int)) (fun _ _ => rfl))) rfl))) (fun _ _ _ _ _ => (DV.ofR (dr_var 4 (pv 4)))))) dr_int (fun _ _ => rfl)))
      (dss_cons (ds_expr (dv_mt kdL mine_append mo_append PySem.F.plainAttrs_list PySem.F.slot_list_append PySem.F.type_list_append (fun _ => mt_append) (pv 2) (da_cons (dg_r (dr_var 3 (pv 3))) da_nil)))
      (dss_one (ds_set (i := 1) sc_least_word.nd rfl (.inr rfl) (do_call c_swapped_order rfl bp_swapped_order (da_cons (dg_r (dr_var 1 (pv 1))) (da_cons (dg_r (dr_var 3 (pv 3))) (da_cons (dg_o (do_op (fun _ _ => or_add) (dr_var 3 (pv 3)) dr_int)) da_nil)))))))))
    (dss_one (ds_ret (do_Ty (fun _ _ => ct_tuple) rfl T.b_tuple bt_tuple (drs_cons (dr_var 2 (pv 2)) drs_nil))))))
theorem ok_exchange_place (T : Tf mg) (D : Has K mg "exchange_place" s_exchange_place) (c_word_order : Cal P w K mg base k "word_order" s_word_order ["word"] f_word_order) (c_is_shortest : Cal P w K mg base k "is_shortest" s_is_shortest ["word"] f_is_shortest) : Cal P w K mg base (k + 1) "exchange_place" s_exchange_place ["word", "a"] f_exchange_place :=
  cal_mk D sc_exchange_place fun f cdv A outer s H =>
    (dss_cons (ds_if (dt_tru (DR.ofO (do_call c_is_shortest rfl bp_is_shortest (da_cons (dg_o (do_op (fun _ _ => or_add) (dr_var 0 (pv 0)) (DR.ofO (do_tup (da_cons (dg_r (dr_var 1 (pv 1))) da_nil))))) da_nil)))) (dss_one (ds_ret (DO.ofR dr_non))) dss_nil)
    (dss_cons (ds_set (i := 2) sc_exchange_place.nd rfl (.inr rfl) (do_call c_word_order rfl bp_word_order (da_cons (dg_o (do_op (fun _ _ => or_add) (dr_var 0 (pv 0)) (DR.ofO (do_tup (da_cons (dg_r (dr_var 1 (pv 1))) da_nil))))) da_nil)))
    (dss_one (ds_ret (do_ix (DR.ofO (do_lc (own := [("p", 3)]) sc_exchange_place.nd (di_rng1 rfl T.b_range (da_cons (dg_o (do_B (fun _ h => cb_len) rfl T.b_len bt_len (drs_cons (dr_var 0 (pv 0)) drs_nil))) da_nil)) (blk_of (by kernel_rfl)) (fun _ _ _ _ _ => (dtg_name (i := 3) sc_exchange_place.nd rfl (by first | exact Or.inl rfl | exact Or.inr rfl))) (fun _ _ _ _ _ => (dts_one (dt_cmp (fun _ h => or_eq h) (DR.ofO (do_call c_word_order rfl bp_word_order (da_cons (dg_o (do_op (fun _ _ => or_add) (DR.ofO (do_sl (dr_var 0 (pv 0)) dp_no (dp_so (dr_var 3 (pv 3))))) (DR.ofO (do_sl (dr_var 0 (pv 0)) (dp_so (DR.ofO (do_op (fun _ _ => or_add) (dr_var 3 (pv 3)) dr_int))) dp_no)))) da_nil))) (dr_var 2 (pv 2)) rfl))) (fun _ _ _ _ _ => (DV.ofR (dr_var 3 (pv 3)))))) dr_int (fun _ _ => rfl))))))
theorem ok__law_draw (T : Tf mg) (D : Has K mg "_law_draw" s__law_draw)  : Cal P w K mg base (k + 1) "_law_draw" s__law_draw ["bag", "below"] f__law_draw :=
  cal_mk D sc__law_draw fun f cdv A outer s H =>
    (dss_cons (ds_while 200 (dt_w (dw_and (dt_cmp (fun _ h => or_eq h) (DR.ofV (dv_bag1 (pv 0) (fun _ _ => rfl))) dr_int rfl) (dw_and1 (dt_bagNe (pv 0) (fun _ _ => rfl) rfl)))) (dss_cons (ds_set (i := 2) sc__law_draw.nd rfl (.inl rfl) (DO.ofV (dv_bagPop (pv 0) (fun _ _ => rfl))))
      (dss_one (ds_bag1 (DV.ofO (do_if (dt_cmp (fun _ _ => or_gtI) (dr_var 2 (pv 2)) (DR.ofO (do_op (fun _ _ => or_pow) dr_int dr_int)) rfl) (DO.ofR (dr_var 2 (pv 2))) (DO.ofR dr_int))) (pv 0)))))
    (dss_cons (ds_if (dt_cmp (fun _ _ => or_gtI) (DR.ofV (dv_bag1 (pv 0) (fun _ _ => rfl))) dr_int rfl) (dss_cons (ds_set (i := 3) sc__law_draw.nd rfl (.inl rfl) (do_op (fun _ _ => or_mod) (DR.ofO (do_Ty (fun _ _ => ct_int) rfl T.b_int bt_int (drs_cons (DR.ofV (dv_bag1 (pv 0) (fun _ _ => rfl))) drs_nil))) (dr_var 1 (pv 1))))
      (dss_cons (ds_bag1 (DV.ofO (do_op (fun _ _ => or_fdiv) (DR.ofV (dv_bag1 (pv 0) (fun _ _ => rfl))) (dr_var 1 (pv 1)))) (pv 0))
      (dss_one (ds_retV 3 (pv 3))))) dss_nil)
    (dss_cons (ds_bag2 (DV.ofO (do_op (fun _ _ => or_mod) (DR.ofO (do_Ty (fun _ _ => ct_int) rfl T.b_int bt_int (drs_cons (DR.ofO (do_op (fun _ _ => or_add) (DR.ofO (do_op (fun _ _ => or_mul) (DR.ofV (dv_bag2 (pv 0) (fun _ _ => rfl))) dr_int)) dr_int)) drs_nil))) dr_int)) (pv 0))
    (dss_one (ds_ret (do_op (fun _ _ => or_mod) (DR.ofO (do_Ty (fun _ _ => ct_int) rfl T.b_int bt_int (drs_cons (DR.ofO (do_op (fun _ _ => or_fdiv) (DR.ofO (do_op (fun _ _ => or_mod) (DR.ofO (do_Ty (fun _ _ => ct_int) rfl T.b_int bt_int (drs_cons (DR.ofO (do_op (fun _ _ => or_mul) (DR.ofV (dv_bag2 (pv 0) (fun _ _ => rfl))) (DR.ofV (dv_bag2 (pv 0) (fun _ _ => rfl))))) drs_nil))) dr_int)) dr_int)) drs_nil))) (dr_var 1 (pv 1))))))))
theorem ok__law_pick (T : Tf mg) (D : Has K mg "_law_pick" s__law_pick) (c__law_draw : Cal P w K mg base k "_law_draw" s__law_draw ["bag", "below"] f__law_draw) : Cal P w K mg base (k + 1) "_law_pick" s__law_pick ["bag", "some"] f__law_pick :=
  cal_mk D sc__law_pick fun f cdv A outer s H =>
    (dss_one (ds_ret (do_ix (dr_var 1 (pv 1)) (DR.ofO (do_call c__law_draw rfl bp__law_draw (da_cons (dg_bag 0 (pv 0)) (da_cons (dg_o (do_B (fun _ h => cb_len) rfl T.b_len bt_len (drs_cons (dr_var 1 (pv 1)) drs_nil))) da_nil)))) (fun _ _ => rfl))))
theorem ok__law_same (T : Tf mg) (D : Has K mg "_law_same" s__law_same)  : Cal P w K mg base (k + 1) "_law_same" s__law_same ["told", "due"] f__law_same :=
  cal_mk D sc__law_same fun f cdv A outer s H =>
    (dss_one (ds_ret (DO.ofV (dv_and (DV.ofO (do_cmp (fun _ h => or_eq h) (DR.ofO (do_B (fun _ h => cb_repr h) rfl T.b_repr bt_repr (drs_cons (dr_var 0 (pv 0)) drs_nil))) (DR.ofO (do_B (fun _ h => cb_repr h) rfl T.b_repr bt_repr (drs_cons (dr_var 1 (pv 1)) drs_nil))) rfl)) (dv_one (DV.ofO (do_cmp (fun _ h => or_eq h) (dr_var 0 (pv 0)) (dr_var 1 (pv 1)) rfl)))))))
theorem ok__law_bare (T : Tf mg) (D : Has K mg "_law_bare" s__law_bare)  : Cal P w K mg base (k + 1) "_law_bare" s__law_bare ["row"] f__law_bare :=
  cal_mk D sc__law_bare fun f cdv A outer s H =>
    (dss_cons (ds_set (i := 1) sc__law_bare.nd rfl (.inl rfl) (do_B (fun _ h => cb_len) rfl T.b_len bt_len (drs_cons (dr_var 0 (pv 0)) drs_nil)))
    (dss_cons (ds_while 200 (dt_w (dw_and (dt_cmp (fun _ _ => or_gtI) (dr_var 1 (pv 1)) dr_int rfl) (dw_and1 (dt_cmp (fun _ h => or_eq h) (DR.ofO (do_ix (dr_var 0 (pv 0)) (DR.ofO (do_op (fun _ _ => or_sub) (dr_var 1 (pv 1)) dr_int)) (fun _ _ => rfl))) (DR.ofO (do_op (fun _ _ => or_sub) (dr_var 1 (pv 1)) dr_int)) rfl)))) (dss_one (ds_set (i := 1) sc__law_bare.nd rfl (.inl rfl) (do_op (fun _ _ => or_sub) (dr_var 1 (pv 1)) dr_int))))
    (dss_one (ds_ret (do_Ty (fun _ _ => ct_tuple) rfl T.b_tuple bt_tuple (drs_cons (DR.ofO (do_sl (dr_var 0 (pv 0)) dp_no (dp_so (dr_var 1 (pv 1))))) drs_nil))))))
theorem ok__law_made (T : Tf mg) (D : Has K mg "_law_made" s__law_made) (c__law_bare : Cal P w K mg base k "_law_bare" s__law_bare ["row"] f__law_bare) : Cal P w K mg base (k + 1) "_law_made" s__law_made ["word"] f__law_made :=
  cal_mk D sc__law_made fun f cdv A outer s H =>
    (dss_cons (ds_set (i := 1) sc__law_made.nd rfl (.inl rfl) (do_lrg1 rfl T.b_list rfl T.b_range (DV.ofR dr_int)))
    (dss_cons (ds_for (di_valE (DV.ofR (dr_var 0 (pv 0)))) (dtg_name (i := 2) sc__law_made.nd rfl (by first | exact Or.inl rfl | exact Or.inr rfl)) (dss_one (ds_asg (DV.ofO (do_lst (da_cons (dg_o (do_ix (dr_var 1 (pv 1)) (DR.ofO (do_op (fun _ _ => or_add) (dr_var 2 (pv 2)) dr_int)) (fun _ _ => rfl))) (da_cons (dg_o (do_ix (dr_var 1 (pv 1)) (dr_var 2 (pv 2)) (fun _ _ => rfl))) da_nil)))) (dtg_sl (pv 1) (dp_so (dr_var 2 (pv 2))) (dp_so (DR.ofO (do_op (fun _ _ => or_add) (dr_var 2 (pv 2)) dr_int)))))))
    (dss_one (ds_ret (do_call c__law_bare rfl bp__law_bare (da_cons (dg_r (dr_var 1 (pv 1))) da_nil))))))
theorem ok__law_turns (T : Tf mg) (D : Has K mg "_law_turns" s__law_turns)  : Cal P w K mg base (k + 1) "_law_turns" s__law_turns ["order"] f__law_turns :=
  cal_mk D sc__law_turns fun f cdv A outer s H =>
    (dss_one (ds_ret (do_B (fun _ h => cb_sum h) rfl T.b_sum bt_sum (drs_cons (DR.ofO (do_lc (own := [("k", 1), ("high", 2)]) sc__law_turns.nd (di_enumE rfl T.b_enumerate (DV.ofR (dr_var 0 (pv 0)))) (blk_of (by kernel_rfl)) (fun _ _ _ _ _ => (dtg_tup (dtgs_cons (dtg_name (i := 1) sc__law_turns.nd rfl (by first | exact Or.inl rfl | exact Or.inr rfl)) (dtgs_cons (dtg_name (i := 2) sc__law_turns.nd rfl (by first | exact Or.inl rfl | exact Or.inr rfl)) dtgs_nil)))) (fun _ _ _ _ _ => dts_nil) (fun _ _ _ _ _ => (DV.ofO (do_B (fun _ h => cb_len) rfl T.b_len bt_len (drs_cons (DR.ofO (do_lc (own := [("item", 3)]) sc__law_turns.nd (di_valE (DV.ofO (do_sl (dr_var 0 (pv 0)) (dp_so (DR.ofO (do_op (fun _ _ => or_add) (dr_var 1 (pv 1)) dr_int))) dp_no))) (blk_of (by kernel_rfl)) (fun _ _ _ _ _ => (dtg_name (i := 3) sc__law_turns.nd rfl (by first | exact Or.inl rfl | exact Or.inr rfl))) (fun _ _ _ _ _ => (dts_one (dt_cmp (fun _ h => or_lt h) (dr_var 3 (pv 3)) (dr_var 2 (pv 2)) rfl))) (fun _ _ _ _ _ => (DV.ofR (dr_var 3 (pv 3)))))) drs_nil)))))) drs_nil))))
theorem ok__law_word (T : Tf mg) (D : Has K mg "_law_word" s__law_word) (c__law_draw : Cal P w K mg base k "_law_draw" s__law_draw ["bag", "below"] f__law_draw) : Cal P w K mg base (k + 1) "_law_word" s__law_word ["bag"] f__law_word :=
  cal_mk D sc__law_word fun f cdv A outer s H =>
    (dss_cons (ds_par2T (i := 1) (j := 2) sc__law_word.nd rfl rfl (.inl rfl) (.inr rfl) (dos_cons (do_call c__law_draw rfl bp__law_draw (da_cons (dg_bag 0 (pv 0)) (da_cons (dg_r dr_int) da_nil))) (dos_cons (do_op (fun _ _ => or_add) dr_int (DR.ofO (do_call c__law_draw rfl bp__law_draw (da_cons (dg_bag 0 (pv 0)) (da_cons (dg_r dr_int) da_nil))))) dos_nil)))
    (dss_cons (ds_set (i := 3) sc__law_word.nd rfl (.inl rfl) (DO.ofR dr_int))
    (dss_cons (ds_if (dt_cmp (fun _ h => or_eq h) (dr_var 1 (pv 1)) dr_int rfl) (dss_one (ds_set (i := 3) sc__law_word.nd rfl (.inl rfl) (do_call c__law_draw rfl bp__law_draw (da_cons (dg_bag 0 (pv 0)) (da_cons (dg_r dr_int) da_nil))))) (dss_one (ds_if (dt_cmp (fun _ h => or_eq h) (dr_var 1 (pv 1)) dr_int rfl) (dss_one (ds_set (i := 3) sc__law_word.nd rfl (.inl rfl) (do_call c__law_draw rfl bp__law_draw (da_cons (dg_bag 0 (pv 0)) (da_cons (dg_r dr_int) da_nil))))) dss_nil)))
    (dss_one (ds_ret (do_Ty (fun _ _ => ct_tuple) rfl T.b_tuple bt_tuple (drs_cons (DR.ofO (do_lc (own := [("turn", 4)]) sc__law_word.nd (di_rng1 rfl T.b_range (da_cons (dg_r (dr_var 3 (pv 3))) da_nil)) (blk_of (by kernel_rfl)) (fun _ _ _ _ _ => (dtg_name (i := 4) sc__law_word.nd rfl (by first | exact Or.inl rfl | exact Or.inr rfl))) (fun _ _ _ _ _ => dts_nil) (fun _ _ _ _ _ => (DV.ofO (do_call c__law_draw rfl bp__law_draw (da_cons (dg_bag 0 (pv 0)) (da_cons (dg_r (dr_var 2 (pv 2))) da_nil))))))) drs_nil)))))))
theorem ok__law_up (T : Tf mg) (D : Has K mg "_law_up" s__law_up) (c__law_pick : Cal P w K mg base k "_law_pick" s__law_pick ["bag", "some"] f__law_pick) : Cal P w K mg base (k + 1) "_law_up" s__law_up ["bag", "places", "most"] f__law_up :=
  cal_mk D sc__law_up fun f cdv A outer s H =>
    (dss_cons (ds_par2T (i := 3) (j := 4) sc__law_up.nd rfl rfl (.inr rfl) (.inl rfl) (dos_cons (do_lrg1 rfl T.b_list rfl T.b_range (DV.ofR (dr_var 1 (pv 1)))) (dos_cons (do_lst da_nil) dos_nil)))
    (dss_cons (ds_for (di_rng1 rfl T.b_range (da_cons (dg_r (dr_var 2 (pv 2))) da_nil)) (dtg_name (i := 5) sc__law_up.nd rfl (by first | exact Or.inl rfl | exact Or.inr rfl)) (dss_cons (ds_setLc (i := 6) (own := [("a", 7)]) sc__law_up.nd rfl rfl (sw_true rfl rfl rfl (by decide +kernel)) (di_rng1 rfl T.b_range (da_cons (dg_o (do_op (fun _ _ => or_sub) (dr_var 1 (pv 1)) dr_int)) da_nil)) (blk_of (by kernel_rfl)) (fun _ _ _ _ _ => (dtg_name (i := 7) sc__law_up.nd rfl (by first | exact Or.inl rfl | exact Or.inr rfl))) (fun _ _ _ _ _ => (dts_one (dt_cmp (fun _ h => or_lt h) (DR.ofO (do_ix (dr_var 3 (pv 3)) (dr_var 7 (pv 7)) (fun _ _ => rfl))) (DR.ofO (do_ix (dr_var 3 (pv 3)) (DR.ofO (do_op (fun _ _ => or_add) (dr_var 7 (pv 7)) dr_int)) (fun _ _ => rfl))) rfl))) (fun _ _ _ _ _ => (DV.ofR (dr_var 7 (pv 7)))))
      (dss_cons (ds_if (dt_cmp (fun _ h => or_eq h) (dr_var 6 (pv 6)) (DR.ofO (do_lst da_nil)) rfl) (dss_one ds_break) dss_nil)
      (dss_cons (ds_set (i := 7) sc__law_up.nd rfl (.inl rfl) (do_call c__law_pick rfl bp__law_pick (da_cons (dg_bag 0 (pv 0)) (da_cons (dg_r (dr_var 6 (pv 6))) da_nil))))
      (dss_cons (ds_asg (DV.ofO (do_lst (da_cons (dg_o (do_ix (dr_var 3 (pv 3)) (DR.ofO (do_op (fun _ _ => or_add) (dr_var 7 (pv 7)) dr_int)) (fun _ _ => rfl))) (da_cons (dg_o (do_ix (dr_var 3 (pv 3)) (dr_var 7 (pv 7)) (fun _ _ => rfl))) da_nil)))) (dtg_sl (pv 3) (dp_so (dr_var 7 (pv 7))) (dp_so (DR.ofO (do_op (fun _ _ => or_add) (dr_var 7 (pv 7)) dr_int)))))
      (dss_one (ds_expr (dv_mt kdL mine_append mo_append PySem.F.plainAttrs_list PySem.F.slot_list_append PySem.F.type_list_append (fun _ => mt_append) (pv 4) (da_cons (dg_r (dr_var 7 (pv 7))) da_nil)))))))))
    (dss_one (ds_ret (do_Ty (fun _ _ => ct_tuple) rfl T.b_tuple bt_tuple (drs_cons (dr_var 4 (pv 4)) drs_nil))))))
theorem ok__law_moved (T : Tf mg) (D : Has K mg "_law_moved" s__law_moved) (c__law_pick : Cal P w K mg base k "_law_pick" s__law_pick ["bag", "some"] f__law_pick) : Cal P w K mg base (k + 1) "_law_moved" s__law_moved ["bag", "word"] f__law_moved :=
  cal_mk D sc__law_moved fun f cdv A outer s H =>
    (dss_cons (ds_set (i := 2) sc__law_moved.nd rfl (.inl rfl) (do_lst da_nil))
    (dss_cons (ds_setLc (i := 3) (own := [("p", 4)]) sc__law_moved.nd rfl rfl (sw_true rfl rfl rfl (by decide +kernel)) (di_rng1 rfl T.b_range (da_cons (dg_o (do_op (fun _ _ => or_sub) (DR.ofO (do_B (fun _ h => cb_len) rfl T.b_len bt_len (drs_cons (dr_var 1 (pv 1)) drs_nil))) dr_int)) da_nil)) (blk_of (by kernel_rfl)) (fun _ _ _ _ _ => (dtg_name (i := 4) sc__law_moved.nd rfl (by first | exact Or.inl rfl | exact Or.inr rfl))) (fun _ _ _ _ _ => (dts_one (dt_cmp (fun _ _ => or_gtI) (DR.ofO (do_B (fun _ h => cb_abs) rfl T.b_abs bt_abs (drs_cons (DR.ofO (do_op (fun _ _ => or_sub) (DR.ofO (do_ix (dr_var 1 (pv 1)) (dr_var 4 (pv 4)) (fun _ _ => rfl))) (DR.ofO (do_ix (dr_var 1 (pv 1)) (DR.ofO (do_op (fun _ _ => or_add) (dr_var 4 (pv 4)) dr_int)) (fun _ _ => rfl))))) drs_nil))) dr_int rfl))) (fun _ _ _ _ _ => (DV.ofR (dr_var 4 (pv 4)))))
    (dss_cons (ds_if (dt_cmp (fun _ h => or_ne h) (dr_var 3 (pv 3)) (DR.ofO (do_lst da_nil)) rfl) (dss_cons (ds_set (i := 4) sc__law_moved.nd rfl (.inl rfl) (do_call c__law_pick rfl bp__law_pick (da_cons (dg_bag 0 (pv 0)) (da_cons (dg_r (dr_var 3 (pv 3))) da_nil))))
      (dss_one (ds_expr (dv_mt kdL mine_append mo_append PySem.F.plainAttrs_list PySem.F.slot_list_append PySem.F.type_list_append (fun _ => mt_append) (pv 2) (da_cons (dg_o (do_op (fun _ _ => or_add) (DR.ofO (do_op (fun _ _ => or_add) (DR.ofO (do_sl (dr_var 1 (pv 1)) dp_no (dp_so (dr_var 4 (pv 4))))) (DR.ofO (do_tup (da_cons (dg_o (do_ix (dr_var 1 (pv 1)) (DR.ofO (do_op (fun _ _ => or_add) (dr_var 4 (pv 4)) dr_int)) (fun _ _ => rfl))) (da_cons (dg_o (do_ix (dr_var 1 (pv 1)) (dr_var 4 (pv 4)) (fun _ _ => rfl))) da_nil)))))) (DR.ofO (do_sl (dr_var 1 (pv 1)) (dp_so (DR.ofO (do_op (fun _ _ => or_add) (dr_var 4 (pv 4)) dr_int))) dp_no)))) da_nil))))) dss_nil)
    (dss_cons (ds_setLc (i := 5) (own := [("p", 4)]) sc__law_moved.nd rfl rfl (sw_true rfl rfl rfl (by decide +kernel)) (di_rng1 rfl T.b_range (da_cons (dg_o (do_op (fun _ _ => or_sub) (DR.ofO (do_B (fun _ h => cb_len) rfl T.b_len bt_len (drs_cons (dr_var 1 (pv 1)) drs_nil))) dr_int)) da_nil)) (blk_of (by kernel_rfl)) (fun _ _ _ _ _ => (dtg_name (i := 4) sc__law_moved.nd rfl (by first | exact Or.inl rfl | exact Or.inr rfl))) (fun _ _ _ _ _ => (dts_one (dt_w (dw_and (dt_cmp (fun _ h => or_eq h) (DR.ofO (do_ix (dr_var 1 (pv 1)) (dr_var 4 (pv 4)) (fun _ _ => rfl))) (DR.ofO (do_ix (dr_var 1 (pv 1)) (DR.ofO (do_op (fun _ _ => or_add) (dr_var 4 (pv 4)) dr_int)) (fun _ _ => rfl))) rfl) (dw_and1 (dt_cmp (fun _ h => or_eq h) (DR.ofO (do_B (fun _ h => cb_abs) rfl T.b_abs bt_abs (drs_cons (DR.ofO (do_op (fun _ _ => or_sub) (DR.ofO (do_ix (dr_var 1 (pv 1)) (dr_var 4 (pv 4)) (fun _ _ => rfl))) (DR.ofO (do_ix (dr_var 1 (pv 1)) (DR.ofO (do_op (fun _ _ => or_add) (dr_var 4 (pv 4)) dr_int)) (fun _ _ => rfl))))) drs_nil))) dr_int rfl)))))) (fun _ _ _ _ _ => (DV.ofR (dr_var 4 (pv 4)))))
    (dss_cons (ds_if (dt_cmp (fun _ h => or_ne h) (dr_var 5 (pv 5)) (DR.ofO (do_lst da_nil)) rfl) (dss_cons (ds_set (i := 4) sc__law_moved.nd rfl (.inl rfl) (do_call c__law_pick rfl bp__law_pick (da_cons (dg_bag 0 (pv 0)) (da_cons (dg_r (dr_var 5 (pv 5))) da_nil))))
      (dss_one (ds_expr (dv_mt kdL mine_append mo_append PySem.F.plainAttrs_list PySem.F.slot_list_append PySem.F.type_list_append (fun _ => mt_append) (pv 2) (da_cons (dg_o (do_op (fun _ _ => or_add) (DR.ofO (do_op (fun _ _ => or_add) (DR.ofO (do_sl (dr_var 1 (pv 1)) dp_no (dp_so (dr_var 4 (pv 4))))) (DR.ofO (do_tup (da_cons (dg_o (do_ix (dr_var 1 (pv 1)) (DR.ofO (do_op (fun _ _ => or_add) (dr_var 4 (pv 4)) dr_int)) (fun _ _ => rfl))) (da_cons (dg_o (do_ix (dr_var 1 (pv 1)) (dr_var 4 (pv 4)) (fun _ _ => rfl))) (da_cons (dg_o (do_ix (dr_var 1 (pv 1)) (DR.ofO (do_op (fun _ _ => or_add) (dr_var 4 (pv 4)) dr_int)) (fun _ _ => rfl))) da_nil))))))) (DR.ofO (do_sl (dr_var 1 (pv 1)) (dp_so (DR.ofO (do_op (fun _ _ => or_add) (dr_var 4 (pv 4)) dr_int))) dp_no)))) da_nil))))) dss_nil)
    (dss_one (ds_retV 2 (pv 2))))))))
theorem ok__law_near (T : Tf mg) (D : Has K mg "_law_near" s__law_near) (c__law_draw : Cal P w K mg base k "_law_draw" s__law_draw ["bag", "below"] f__law_draw) : Cal P w K mg base (k + 1) "_law_near" s__law_near ["bag", "word"] f__law_near :=
  cal_mk D sc__law_near fun f cdv A outer s H =>
    (dss_cons (ds_par2 (i := 2) (j := 3) sc__law_near.nd rfl rfl (by decide) rfl rfl (dos_cons (do_call c__law_draw rfl bp__law_draw (da_cons (dg_bag 0 (pv 0)) (da_cons (dg_o (do_op (fun _ _ => or_add) (DR.ofO (do_B (fun _ h => cb_len) rfl T.b_len bt_len (drs_cons (dr_var 1 (pv 1)) drs_nil))) dr_int)) da_nil))) (dos_cons (do_call c__law_draw rfl bp__law_draw (da_cons (dg_bag 0 (pv 0)) (da_cons (dg_r dr_int) da_nil))) dos_nil)) rfl)
    (dss_cons (ds_set (i := 4) sc__law_near.nd rfl (.inl rfl) (do_lst (da_cons (dg_o (do_op (fun _ _ => or_add) (DR.ofO (do_op (fun _ _ => or_add) (DR.ofO (do_sl (dr_var 1 (pv 1)) dp_no (dp_so (dr_var 2 (pv 2))))) (DR.ofO (do_tup (da_cons (dg_r (dr_var 3 (pv 3))) da_nil))))) (DR.ofO (do_sl (dr_var 1 (pv 1)) (dp_so (dr_var 2 (pv 2))) dp_no)))) da_nil)))
    (dss_cons (ds_if (dt_cmp (fun _ h => or_ne h) (dr_var 1 (pv 1)) (DR.ofO (do_tup da_nil)) rfl) (dss_cons (ds_set (i := 5) sc__law_near.nd rfl (.inl rfl) (do_call c__law_draw rfl bp__law_draw (da_cons (dg_bag 0 (pv 0)) (da_cons (dg_o (do_B (fun _ h => cb_len) rfl T.b_len bt_len (drs_cons (dr_var 1 (pv 1)) drs_nil))) da_nil))))
      (dss_cons (ds_expr (dv_mt kdL mine_append mo_append PySem.F.plainAttrs_list PySem.F.slot_list_append PySem.F.type_list_append (fun _ => mt_append) (pv 4) (da_cons (dg_o (do_op (fun _ _ => or_add) (DR.ofO (do_sl (dr_var 1 (pv 1)) dp_no (dp_so (dr_var 5 (pv 5))))) (DR.ofO (do_sl (dr_var 1 (pv 1)) (dp_so (DR.ofO (do_op (fun _ _ => or_add) (dr_var 5 (pv 5)) dr_int))) dp_no)))) da_nil)))
      (dss_cons (ds_expr (dv_mt kdL mine_append mo_append PySem.F.plainAttrs_list PySem.F.slot_list_append PySem.F.type_list_append (fun _ => mt_append) (pv 4) (da_cons (dg_o (do_op (fun _ _ => or_add) (DR.ofO (do_op (fun _ _ => or_add) (DR.ofO (do_sl (dr_var 1 (pv 1)) dp_no (dp_so (dr_var 5 (pv 5))))) (DR.ofO (do_tup (da_cons (dg_o (do_ix (dr_var 1 (pv 1)) (dr_var 5 (pv 5)) (fun _ _ => rfl))) (da_cons (dg_o (do_ix (dr_var 1 (pv 1)) (dr_var 5 (pv 5)) (fun _ _ => rfl))) da_nil)))))) (DR.ofO (do_sl (dr_var 1 (pv 1)) (dp_so (DR.ofO (do_op (fun _ _ => or_add) (dr_var 5 (pv 5)) dr_int))) dp_no)))) da_nil)))
      (dss_one (ds_expr (dv_mt kdL mine_append mo_append PySem.F.plainAttrs_list PySem.F.slot_list_append PySem.F.type_list_append (fun _ => mt_append) (pv 4) (da_cons (dg_o (do_sl (dr_var 1 (pv 1)) dp_no (dp_so (DR.ofO (do_un (fun _ _ => ur_neg) dr_int))))) da_nil))))))) dss_nil)
    (dss_cons (ds_if (dt_cmp (fun _ _ => or_gtI) (DR.ofO (do_B (fun _ h => cb_len) rfl T.b_len bt_len (drs_cons (dr_var 1 (pv 1)) drs_nil))) dr_int rfl) (dss_cons (ds_set (i := 5) sc__law_near.nd rfl (.inl rfl) (do_call c__law_draw rfl bp__law_draw (da_cons (dg_bag 0 (pv 0)) (da_cons (dg_o (do_op (fun _ _ => or_sub) (DR.ofO (do_B (fun _ h => cb_len) rfl T.b_len bt_len (drs_cons (dr_var 1 (pv 1)) drs_nil))) dr_int)) da_nil))))
      (dss_one (ds_expr (dv_mt kdL mine_append mo_append PySem.F.plainAttrs_list PySem.F.slot_list_append PySem.F.type_list_append (fun _ => mt_append) (pv 4) (da_cons (dg_o (do_op (fun _ _ => or_add) (DR.ofO (do_op (fun _ _ => or_add) (DR.ofO (do_sl (dr_var 1 (pv 1)) dp_no (dp_so (dr_var 5 (pv 5))))) (DR.ofO (do_tup (da_cons (dg_o (do_ix (dr_var 1 (pv 1)) (DR.ofO (do_op (fun _ _ => or_add) (dr_var 5 (pv 5)) dr_int)) (fun _ _ => rfl))) (da_cons (dg_o (do_ix (dr_var 1 (pv 1)) (dr_var 5 (pv 5)) (fun _ _ => rfl))) da_nil)))))) (DR.ofO (do_sl (dr_var 1 (pv 1)) (dp_so (DR.ofO (do_op (fun _ _ => or_add) (dr_var 5 (pv 5)) dr_int))) dp_no)))) da_nil))))) dss_nil)
    (dss_one (ds_retV 4 (pv 4)))))))
theorem ok__law_are_words_right (T : Tf mg) (D : Has K mg "_law_are_words_right" s__law_are_words_right) (c__law_same : Cal P w K mg base k "_law_same" s__law_same ["told", "due"] f__law_same) (c_is_shortest : Cal P w K mg base k "is_shortest" s_is_shortest ["word"] f_is_shortest) (c__law_turns : Cal P w K mg base k "_law_turns" s__law_turns ["order"] f__law_turns) (c_word_order : Cal P w K mg base k "word_order" s_word_order ["word"] f_word_order) (c__law_made : Cal P w K mg base k "_law_made" s__law_made ["word"] f__law_made) : Cal P w K mg base (k + 1) "_law_are_words_right" s__law_are_words_right ["words"] f__law_are_words_right :=
  cal_mk D sc__law_are_words_right fun f cdv A outer s H =>
    (dss_cons (ds_for (di_valE (DV.ofR (dr_var 0 (pv 0)))) (dtg_name (i := 1) sc__law_are_words_right.nd rfl (by first | exact Or.inl rfl | exact Or.inr rfl)) (dss_cons (ds_set (i := 2) sc__law_are_words_right.nd rfl (.inl rfl) (do_call c__law_made rfl bp__law_made (da_cons (dg_r (dr_var 1 (pv 1))) da_nil)))
      (dss_cons (ds_if (dt_w (dw_or (dt_not (dt_tru (DR.ofO (do_call c__law_same rfl bp__law_same (da_cons (dg_o (do_call c_word_order rfl bp_word_order (da_cons (dg_r (dr_var 1 (pv 1))) da_nil))) (da_cons (dg_r (dr_var 2 (pv 2))) da_nil)))))) (dw_or1 (dt_not (dt_tru (DR.ofO (do_call c__law_same rfl bp__law_same (da_cons (dg_o (do_callK0 c_word_order rfl bk_word_order_1 (alen_cons alen_nil) (dk_cons (dg_r (dr_var 1 (pv 1))) dk_nil))) (da_cons (dg_r (dr_var 2 (pv 2))) da_nil))))))))) (dss_one (ds_ret (DO.ofR dr_bl))) dss_nil)
      (dss_cons (ds_set (i := 3) sc__law_are_words_right.nd rfl (.inl rfl) (do_cmp (fun _ h => or_eq h) (DR.ofO (do_call c__law_turns rfl bp__law_turns (da_cons (dg_r (dr_var 2 (pv 2))) da_nil))) (DR.ofO (do_B (fun _ h => cb_len) rfl T.b_len bt_len (drs_cons (dr_var 1 (pv 1)) drs_nil))) rfl))
      (dss_one (ds_if (dt_w (dw_or (dt_not (dt_tru (DR.ofO (do_call c__law_same rfl bp__law_same (da_cons (dg_o (do_call c_is_shortest rfl bp_is_shortest (da_cons (dg_r (dr_var 1 (pv 1))) da_nil))) (da_cons (dg_r (dr_var 3 (pv 3))) da_nil)))))) (dw_or1 (dt_not (dt_tru (DR.ofO (do_call c__law_same rfl bp__law_same (da_cons (dg_o (do_callK0 c_is_shortest rfl bk_is_shortest_0 (alen_cons alen_nil) (dk_cons (dg_r (dr_var 1 (pv 1))) dk_nil))) (da_cons (dg_r (dr_var 3 (pv 3))) da_nil))))))))) (dss_one (ds_ret (DO.ofR dr_bl))) dss_nil))))))
    (dss_one (ds_ret (DO.ofR dr_bl))))
theorem ok__law_order (T : Tf mg) (D : Has K mg "_law_order" s__law_order) (c__law_draw : Cal P w K mg base k "_law_draw" s__law_draw ["bag", "below"] f__law_draw) : Cal P w K mg base (k + 1) "_law_order" s__law_order ["bag"] f__law_order :=
  cal_mk D sc__law_order fun f cdv A outer s H =>
    (dss_cons (ds_par2 (i := 1) (j := 2) sc__law_order.nd rfl rfl (by decide) rfl rfl (dos_cons (do_op (fun _ _ => or_add) dr_int (DR.ofO (do_call c__law_draw rfl bp__law_draw (da_cons (dg_bag 0 (pv 0)) (da_cons (dg_r dr_int) da_nil))))) (dos_cons (do_call c__law_draw rfl bp__law_draw (da_cons (dg_bag 0 (pv 0)) (da_cons (dg_r dr_int) da_nil))) dos_nil)) rfl)
    (dss_cons (ds_set (i := 3) sc__law_order.nd rfl (.inl rfl) (do_lrg1 rfl T.b_list rfl T.b_range (DV.ofR (dr_var 1 (pv 1)))))
    (dss_cons (ds_if (dt_cmp (fun _ h => or_eq h) (dr_var 2 (pv 2)) dr_int rfl) (dss_one (ds_ret (do_trev rfl T.b_tuple rfl T.b_reversed (DR.ofO (do_Ty (fun _ _ => ct_list) rfl T.b_list bt_list (drs_cons (dr_var 3 (pv 3)) drs_nil)))))) dss_nil)
    (dss_cons (ds_if (dt_cmp (fun _ h => or_eq h) (dr_var 2 (pv 2)) dr_int rfl) (dss_one (ds_ret (do_Ty (fun _ _ => ct_tuple) rfl T.b_tuple bt_tuple (drs_cons (dr_var 3 (pv 3)) drs_nil)))) dss_nil)
    (dss_cons (ds_set (i := 4) sc__law_order.nd rfl (.inl rfl) (do_lst da_nil))
    (dss_cons (ds_for (di_rng1 rfl T.b_range (da_cons (dg_r (dr_var 1 (pv 1))) da_nil)) (dtg_name (i := 5) sc__law_order.nd rfl (by first | exact Or.inl rfl | exact Or.inr rfl)) (dss_one (ds_expr (dv_mt kdL mine_append mo_append PySem.F.plainAttrs_list PySem.F.slot_list_append PySem.F.type_list_append (fun _ => mt_append) (pv 4) (da_cons (dg_v (dv_mt kdL mine_popAt mo_popAt PySem.F.plainAttrs_list PySem.F.slot_list_pop PySem.F.type_list_pop (fun _ => mt_popAt) (pv 3) (da_cons (dg_o (do_call c__law_draw rfl bp__law_draw (da_cons (dg_bag 0 (pv 0)) (da_cons (dg_o (do_B (fun _ h => cb_len) rfl T.b_len bt_len (drs_cons (dr_var 3 (pv 3)) drs_nil))) da_nil)))) da_nil))) da_nil)))))
    (dss_one (ds_ret (do_Ty (fun _ _ => ct_tuple) rfl T.b_tuple bt_tuple (drs_cons (dr_var 4 (pv 4)) drs_nil))))))))))
theorem ok__law_longer (T : Tf mg) (D : Has K mg "_law_longer" s__law_longer) (c__law_draw : Cal P w K mg base k "_law_draw" s__law_draw ["bag", "below"] f__law_draw) : Cal P w K mg base (k + 1) "_law_longer" s__law_longer ["bag", "order"] f__law_longer :=
  cal_mk D sc__law_longer fun f cdv A outer s H =>
    (dss_cons (ds_set (i := 2) sc__law_longer.nd rfl (.inl rfl) (do_op (fun _ _ => or_sub) dr_int (DR.ofO (do_B (fun _ h => cb_len) rfl T.b_len bt_len (drs_cons (dr_var 1 (pv 1)) drs_nil)))))
    (dss_one (ds_ret (do_op (fun _ _ => or_add) (dr_var 1 (pv 1)) (DR.ofO (do_Ty (fun _ _ => ct_tuple) rfl T.b_tuple bt_tuple (drs_cons (DR.ofO (do_lc (own := [("k", 3)]) sc__law_longer.nd (di_rng1 rfl T.b_range (da_cons (dg_o (do_call c__law_draw rfl bp__law_draw (da_cons (dg_bag 0 (pv 0)) (da_cons (dg_o (do_op (fun _ _ => or_add) (dr_var 2 (pv 2)) dr_int)) da_nil)))) da_nil)) (blk_of (by kernel_rfl)) (fun _ _ _ _ _ => (dtg_name (i := 3) sc__law_longer.nd rfl (by first | exact Or.inl rfl | exact Or.inr rfl))) (fun _ _ _ _ _ => dts_nil) (fun _ _ _ _ _ => (DV.ofO (do_op (fun _ _ => or_add) (DR.ofO (do_B (fun _ h => cb_len) rfl T.b_len bt_len (drs_cons (dr_var 1 (pv 1)) drs_nil))) (dr_var 3 (pv 3))))))) drs_nil)))))))
theorem ok__law_searched (T : Tf mg) (D : Has K mg "_law_searched" s__law_searched) (c__law_turns : Cal P w K mg base k "_law_turns" s__law_turns ["order"] f__law_turns) : Cal P w K mg base (k + 1) "_law_searched" s__law_searched ["order"] f__law_searched :=
  cal_mk D sc__law_searched fun f cdv A outer s H =>
    (dss_cons (ds_set (i := 1) sc__law_searched.nd rfl (.inl rfl) (do_dsT (DV.ofO (do_Ty (fun _ _ => ct_tuple) rfl T.b_tuple bt_tuple (drs_cons (DR.ofO (do_lrg1 rfl T.b_list rfl T.b_range (DV.ofO (do_B (fun _ h => cb_len) rfl T.b_len bt_len (drs_cons (dr_var 0 (pv 0)) drs_nil))))) drs_nil))) (DV.ofO (do_tup da_nil))))
    (dss_cons (ds_for (di_rng1 rfl T.b_range (da_cons (dg_o (do_call c__law_turns rfl bp__law_turns (da_cons (dg_r (dr_var 0 (pv 0))) da_nil))) da_nil)) (dtg_name (i := 2) sc__law_searched.nd rfl (by first | exact Or.inl rfl | exact Or.inr rfl)) (dss_cons (ds_set (i := 3) sc__law_searched.nd rfl (.inl rfl) do_newT)
      (dss_cons (ds_for (di_P (pv 1)) (dtg_tup (dtgs_cons (dtg_name (i := 4) sc__law_searched.nd rfl (by first | exact Or.inl rfl | exact Or.inr rfl)) (dtgs_cons (dtg_name (i := 5) sc__law_searched.nd rfl (by first | exact Or.inl rfl | exact Or.inr rfl)) dtgs_nil))) (dss_one (ds_for (di_rng1 rfl T.b_range (da_cons (dg_o (do_op (fun _ _ => or_sub) (DR.ofO (do_B (fun _ h => cb_len) rfl T.b_len bt_len (drs_cons (dr_var 4 (pv 4)) drs_nil))) dr_int)) da_nil)) (dtg_name (i := 6) sc__law_searched.nd rfl (by first | exact Or.inl rfl | exact Or.inr rfl)) (dss_one (ds_if (dt_cmp (fun _ h => or_lt h) (DR.ofO (do_ix (dr_var 4 (pv 4)) (dr_var 6 (pv 6)) (fun _ _ => rfl))) (DR.ofO (do_ix (dr_var 4 (pv 4)) (DR.ofO (do_op (fun _ _ => or_add) (dr_var 6 (pv 6)) dr_int)) (fun _ _ => rfl))) rfl) (dss_cons (ds_set (i := 7) sc__law_searched.nd rfl (.inl rfl) (do_op (fun _ _ => or_add) (DR.ofO (do_op (fun _ _ => or_add) (DR.ofO (do_sl (dr_var 4 (pv 4)) dp_no (dp_so (dr_var 6 (pv 6))))) (DR.ofO (do_tup (da_cons (dg_o (do_ix (dr_var 4 (pv 4)) (DR.ofO (do_op (fun _ _ => or_add) (dr_var 6 (pv 6)) dr_int)) (fun _ _ => rfl))) (da_cons (dg_o (do_ix (dr_var 4 (pv 4)) (dr_var 6 (pv 6)) (fun _ _ => rfl))) da_nil)))))) (DR.ofO (do_sl (dr_var 4 (pv 4)) (dp_so (DR.ofO (do_op (fun _ _ => or_add) (dr_var 6 (pv 6)) dr_int))) dp_no))))
            (dss_cons (ds_set (i := 8) sc__law_searched.nd rfl (.inl rfl) (do_op (fun _ _ => or_add) (dr_var 5 (pv 5)) (DR.ofO (do_tup (da_cons (dg_r (dr_var 6 (pv 6))) da_nil)))))
            (dss_one (ds_if (dt_w (dw_or (dt_niT (DV.ofR (dr_var 7 (pv 7))) (pv 3) rfl) (dw_or1 (dt_cmp (fun _ h => or_lt h) (dr_var 8 (pv 8)) (DR.ofV (dv_gT (pv 3) (DV.ofR (dr_var 7 (pv 7))) (fun _ _ => rfl))) rfl)))) (dss_one (ds_putT (pv 3) (DV.ofR (dr_var 7 (pv 7))) (DV.ofR (dr_var 8 (pv 8))))) dss_nil)))) dss_nil)))))
      (dss_one (ds_set (i := 1) sc__law_searched.nd rfl (.inl rfl) (do_cpT (pv 3) rfl T.b_dict))))))
    (dss_one (ds_ret (DO.ofV (dv_gT (pv 1) (DV.ofR (dr_var 0 (pv 0))) (fun _ _ => rfl)))))))
theorem ok__law_stepped (T : Tf mg) (D : Has K mg "_law_stepped" s__law_stepped)  : Cal P w K mg base (k + 1) "_law_stepped" s__law_stepped ["order"] f__law_stepped :=
  cal_mk D sc__law_stepped fun f cdv A outer s H =>
    (dss_cons (ds_par2T (i := 1) (j := 2) sc__law_stepped.nd rfl rfl (.inr rfl) (.inl rfl) (dos_cons (do_Ty (fun _ _ => ct_list) rfl T.b_list bt_list (drs_cons (dr_var 0 (pv 0)) drs_nil)) (dos_cons (do_lst da_nil) dos_nil)))
    (dss_cons (ds_for (di_rng1 rfl T.b_range (da_cons (dg_r dr_int) da_nil)) (dtg_name (i := 3) sc__law_stepped.nd rfl (by first | exact Or.inl rfl | exact Or.inr rfl)) (dss_cons (ds_setLc (i := 4) (own := [("a", 7)]) sc__law_stepped.nd rfl rfl (sw_true rfl rfl rfl (by decide +kernel)) (di_rng1 rfl T.b_range (da_cons (dg_o (do_op (fun _ _ => or_sub) (DR.ofO (do_B (fun _ h => cb_len) rfl T.b_len bt_len (drs_cons (dr_var 1 (pv 1)) drs_nil))) dr_int)) da_nil)) (blk_of (by kernel_rfl)) (fun _ _ _ _ _ => (dtg_name (i := 7) sc__law_stepped.nd rfl (by first | exact Or.inl rfl | exact Or.inr rfl))) (fun _ _ _ _ _ => (dts_one (dt_cmp (fun _ h => or_lt h) (DR.ofV (dv_mt kdL mine_index mo_index PySem.F.plainAttrs_list PySem.F.slot_list_index PySem.F.type_list_index (fun _ => mt_index) (pv 1) (da_cons (dg_o (do_op (fun _ _ => or_add) (dr_var 7 (pv 7)) dr_int)) da_nil))) (DR.ofV (dv_mt kdL mine_index mo_index PySem.F.plainAttrs_list PySem.F.slot_list_index PySem.F.type_list_index (fun _ => mt_index) (pv 1) (da_cons (dg_r (dr_var 7 (pv 7))) da_nil))) rfl))) (fun _ _ _ _ _ => (DV.ofR (dr_var 7 (pv 7)))))
      (dss_cons (ds_if (dt_cmp (fun _ h => or_eq h) (dr_var 4 (pv 4)) (DR.ofO (do_lst da_nil)) rfl) (dss_one ds_break) dss_nil)
      (dss_cons (ds_par2 (i := 5) (j := 6) sc__law_stepped.nd rfl rfl (by decide) rfl rfl (dos_cons (DO.ofV (dv_mt kdL mine_index mo_index PySem.F.plainAttrs_list PySem.F.slot_list_index PySem.F.type_list_index (fun _ => mt_index) (pv 1) (da_cons (dg_o (do_ix (dr_var 4 (pv 4)) dr_int (fun _ _ => rfl))) da_nil))) (dos_cons (DO.ofV (dv_mt kdL mine_index mo_index PySem.F.plainAttrs_list PySem.F.slot_list_index PySem.F.type_list_index (fun _ => mt_index) (pv 1) (da_cons (dg_o (do_op (fun _ _ => or_add) (DR.ofO (do_ix (dr_var 4 (pv 4)) dr_int (fun _ _ => rfl))) dr_int)) da_nil))) dos_nil)) rfl)
      (dss_cons (ds_asg (DV.ofO (do_op (fun _ _ => or_add) (DR.ofO (do_ix (dr_var 4 (pv 4)) dr_int (fun _ _ => rfl))) dr_int)) (dtg_set (pv 1) (dr_var 5 (pv 5))))
      (dss_cons (ds_asg (DV.ofO (do_ix (dr_var 4 (pv 4)) dr_int (fun _ _ => rfl))) (dtg_set (pv 1) (dr_var 6 (pv 6))))
      (dss_one (ds_expr (dv_mt kdL mine_append mo_append PySem.F.plainAttrs_list PySem.F.slot_list_append PySem.F.type_list_append (fun _ => mt_append) (pv 2) (da_cons (dg_o (do_ix (dr_var 4 (pv 4)) dr_int (fun _ _ => rfl))) da_nil))))))))))
    (dss_one (ds_ret (do_Ty (fun _ _ => ct_tuple) rfl T.b_tuple bt_tuple (drs_cons (dr_var 2 (pv 2)) drs_nil))))))
theorem ok__law_are_least_right (T : Tf mg) (D : Has K mg "_law_are_least_right" s__law_are_least_right) (c__law_made : Cal P w K mg base k "_law_made" s__law_made ["word"] f__law_made) (c__law_turns : Cal P w K mg base k "_law_turns" s__law_turns ["order"] f__law_turns) (c_is_shortest : Cal P w K mg base k "is_shortest" s_is_shortest ["word"] f_is_shortest) (c__law_same : Cal P w K mg base k "_law_same" s__law_same ["told", "due"] f__law_same) (c_least_word : Cal P w K mg base k "least_word" s_least_word ["w"] f_least_word) (c__law_searched : Cal P w K mg base k "_law_searched" s__law_searched ["order"] f__law_searched) (c__law_stepped : Cal P w K mg base k "_law_stepped" s__law_stepped ["order"] f__law_stepped) (c__law_bare : Cal P w K mg base k "_law_bare" s__law_bare ["row"] f__law_bare) : Cal P w K mg base (k + 1) "_law_are_least_right" s__law_are_least_right ["orders"] f__law_are_least_right :=
  cal_mk D sc__law_are_least_right fun f cdv A outer s H =>
    (dss_cons (ds_for (di_valE (DV.ofR (dr_var 0 (pv 0)))) (dtg_name (i := 1) sc__law_are_least_right.nd rfl (by first | exact Or.inl rfl | exact Or.inr rfl)) (dss_cons (ds_set (i := 2) sc__law_are_least_right.nd rfl (.inl rfl) (do_call c__law_bare rfl bp__law_bare (da_cons (dg_r (dr_var 1 (pv 1))) da_nil)))
      (dss_cons (ds_set (i := 3) sc__law_are_least_right.nd rfl (.inl rfl) (do_if (dt_cmp (fun _ h => or_lt h) (DR.ofO (do_B (fun _ h => cb_len) rfl T.b_len bt_len (drs_cons (dr_var 2 (pv 2)) drs_nil))) dr_int rfl) (do_call c__law_searched rfl bp__law_searched (da_cons (dg_r (dr_var 2 (pv 2))) da_nil)) (do_call c__law_stepped rfl bp__law_stepped (da_cons (dg_r (dr_var 2 (pv 2))) da_nil))))
      (dss_cons (ds_set (i := 4) sc__law_are_least_right.nd rfl (.inl rfl) (do_call c_least_word rfl bp_least_word (da_cons (dg_r (dr_var 1 (pv 1))) da_nil)))
      (dss_cons (ds_if (dt_w (dw_or (dt_not (dt_tru (DR.ofO (do_call c__law_same rfl bp__law_same (da_cons (dg_r (dr_var 4 (pv 4))) (da_cons (dg_r (dr_var 3 (pv 3))) da_nil)))))) (dw_or1 (dt_not (dt_tru (DR.ofO (do_call c__law_same rfl bp__law_same (da_cons (dg_o (do_callK0 c_least_word rfl bk_least_word_2 (alen_cons alen_nil) (dk_cons (dg_r (dr_var 1 (pv 1))) dk_nil))) (da_cons (dg_r (dr_var 3 (pv 3))) da_nil))))))))) (dss_one (ds_ret (DO.ofR dr_bl))) dss_nil)
      (dss_one (ds_if (dt_w (dw_or (dt_cmp (fun _ h => or_ne h) (DR.ofO (do_call c__law_made rfl bp__law_made (da_cons (dg_r (dr_var 4 (pv 4))) da_nil))) (dr_var 2 (pv 2)) rfl) (dw_or (dt_cmp (fun _ h => or_ne h) (DR.ofO (do_B (fun _ h => cb_len) rfl T.b_len bt_len (drs_cons (dr_var 4 (pv 4)) drs_nil))) (DR.ofO (do_call c__law_turns rfl bp__law_turns (da_cons (dg_r (dr_var 2 (pv 2))) da_nil))) rfl) (dw_or1 (dt_not (dt_tru (DR.ofO (do_call c_is_shortest rfl bp_is_shortest (da_cons (dg_r (dr_var 4 (pv 4))) da_nil))))))))) (dss_one (ds_ret (DO.ofR dr_bl))) dss_nil)))))))
    (dss_one (ds_ret (DO.ofR dr_bl))))
theorem ok__law_are_exchanges_right (T : Tf mg) (D : Has K mg "_law_are_exchanges_right" s__law_are_exchanges_right) (c__law_same : Cal P w K mg base k "_law_same" s__law_same ["told", "due"] f__law_same) (c_exchange_place : Cal P w K mg base k "exchange_place" s_exchange_place ["word", "a"] f_exchange_place) (c__law_turns : Cal P w K mg base k "_law_turns" s__law_turns ["order"] f__law_turns) (c__law_made : Cal P w K mg base k "_law_made" s__law_made ["word"] f__law_made) : Cal P w K mg base (k + 1) "_law_are_exchanges_right" s__law_are_exchanges_right ["word"] f__law_are_exchanges_right :=
  cal_mk D sc__law_are_exchanges_right fun f cdv A outer s H =>
    (dss_cons (ds_par2 (i := 1) (j := 2) sc__law_are_exchanges_right.nd rfl rfl (by decide) rfl rfl (dos_cons (do_call c__law_made rfl bp__law_made (da_cons (dg_r (dr_var 0 (pv 0))) da_nil)) (dos_cons (do_B (fun _ h => cb_len) rfl T.b_len bt_len (drs_cons (dr_var 0 (pv 0)) drs_nil)) dos_nil)) rfl)
    (dss_cons (ds_set (i := 3) sc__law_are_exchanges_right.nd rfl (.inr rfl) (do_lc (own := [("p", 8)]) sc__law_are_exchanges_right.nd (di_rng1 rfl T.b_range (da_cons (dg_r (dr_var 2 (pv 2))) da_nil)) (blk_of (by kernel_rfl)) (fun _ _ _ _ _ => (dtg_name (i := 8) sc__law_are_exchanges_right.nd rfl (by first | exact Or.inl rfl | exact Or.inr rfl))) (fun _ _ _ _ _ => dts_nil) (fun _ _ _ _ _ => (DV.ofO (do_call c__law_made rfl bp__law_made (da_cons (dg_o (do_op (fun _ _ => or_add) (DR.ofO (do_sl (dr_var 0 (pv 0)) dp_no (dp_so (dr_var 8 (pv 8))))) (DR.ofO (do_sl (dr_var 0 (pv 0)) (dp_so (DR.ofO (do_op (fun _ _ => or_add) (dr_var 8 (pv 8)) dr_int))) dp_no)))) da_nil))))))
    (dss_cons (ds_if (dt_cmp (fun _ h => or_ne h) (DR.ofO (do_call c__law_turns rfl bp__law_turns (da_cons (dg_r (dr_var 1 (pv 1))) da_nil))) (dr_var 2 (pv 2)) rfl) (dss_one (ds_ret (DO.ofR dr_bl))) dss_nil)
    (dss_cons (ds_for (di_rng1 rfl T.b_range (da_cons (dg_r dr_int) da_nil)) (dtg_name (i := 4) sc__law_are_exchanges_right.nd rfl (by first | exact Or.inl rfl | exact Or.inr rfl)) (dss_cons (ds_set (i := 5) sc__law_are_exchanges_right.nd rfl (.inr rfl) (do_call c__law_made rfl bp__law_made (da_cons (dg_o (do_op (fun _ _ => or_add) (dr_var 0 (pv 0)) (DR.ofO (do_tup (da_cons (dg_r (dr_var 4 (pv 4))) da_nil))))) da_nil)))
      (dss_cons (ds_setLc (i := 6) (own := [("p", 8)]) sc__law_are_exchanges_right.nd rfl rfl (sw_true rfl rfl rfl (by decide +kernel)) (di_rng1 rfl T.b_range (da_cons (dg_r (dr_var 2 (pv 2))) da_nil)) (blk_of (by kernel_rfl)) (fun _ _ _ _ _ => (dtg_name (i := 8) sc__law_are_exchanges_right.nd rfl (by first | exact Or.inl rfl | exact Or.inr rfl))) (fun _ _ _ _ _ => (dts_one (dt_cmp (fun _ h => or_eq h) (DR.ofO (do_ix (dr_var 3 (pv 3)) (dr_var 8 (pv 8)) (fun _ _ => rfl))) (dr_var 5 (pv 5)) rfl))) (fun _ _ _ _ _ => (DV.ofR (dr_var 8 (pv 8)))))
      (dss_cons (ds_set (i := 7) sc__law_are_exchanges_right.nd rfl (.inl rfl) (do_if (dt_cmp (fun _ _ => or_gtI) (DR.ofO (do_call c__law_turns rfl bp__law_turns (da_cons (dg_r (dr_var 5 (pv 5))) da_nil))) (dr_var 2 (pv 2)) rfl) (DO.ofR dr_non) (do_ix (dr_var 6 (pv 6)) dr_int (fun _ _ => rfl))))
      (dss_one (ds_if (dt_w (dw_or (dt_not (dt_tru (DR.ofO (do_call c__law_same rfl bp__law_same (da_cons (dg_o (do_call c_exchange_place rfl bp_exchange_place (da_cons (dg_r (dr_var 0 (pv 0))) (da_cons (dg_r (dr_var 4 (pv 4))) da_nil)))) (da_cons (dg_r (dr_var 7 (pv 7))) da_nil)))))) (dw_or1 (dt_not (dt_tru (DR.ofO (do_call c__law_same rfl bp__law_same (da_cons (dg_o (do_callK0 c_exchange_place rfl bk_exchange_place_3 (alen_cons (alen_cons alen_nil)) (dk_cons (dg_r (dr_var 4 (pv 4))) (dk_cons (dg_r (dr_var 0 (pv 0))) dk_nil)))) (da_cons (dg_r (dr_var 7 (pv 7))) da_nil))))))))) (dss_one (ds_ret (DO.ofR dr_bl))) dss_nil))))))
    (dss_one (ds_ret (DO.ofR dr_bl)))))))
theorem ok__law_is_whole (T : Tf mg) (D : Has K mg "_law_is_whole" s__law_is_whole)  : Cal P w K mg base (k + 1) "_law_is_whole" s__law_is_whole ["item"] f__law_is_whole :=
  cal_mk D sc__law_is_whole fun f cdv A outer s H =>
    (dss_one (ds_ret (DO.ofV (dv_and (dv_isi ki_int rfl T.b_isinstance rfl T.b_int bt_int (dr_var 0 (pv 0))) (dv_one (DV.ofO (do_not (DR.ofV (dv_isi ki_bool rfl T.b_isinstance rfl T.b_bool bt_bool (dr_var 0 (pv 0)))))))))))
theorem ok__law_fault (T : Tf mg) (D : Has K mg "_law_fault" s__law_fault) (c__law_is_whole : Cal P w K mg base k "_law_is_whole" s__law_is_whole ["item"] f__law_is_whole) : Cal P w K mg base (k + 1) "_law_fault" s__law_fault ["value"] f__law_fault :=
  cal_mk D sc__law_fault fun f cdv A outer s H =>
    (dss_cons (ds_if (dt_w (dw_or (dt_not (dt_tru (DR.ofV (dv_isi ki_tup rfl T.b_isinstance rfl T.b_tuple bt_tuple (dr_var 0 (pv 0)))))) (dw_or1 (dt_not (dt_tru (DR.ofO (do_B (fun _ h => cb_all h) rfl T.b_all bt_all (drs_cons (DR.ofO (do_lc (own := [("item", 2)]) sc__law_fault.nd (di_valE (DV.ofR (dr_var 0 (pv 0)))) (blk_of (by kernel_rfl)) (fun _ _ _ _ _ => (dtg_name (i := 2) sc__law_fault.nd rfl (by first | exact Or.inl rfl | exact Or.inr rfl))) (fun _ _ _ _ _ => dts_nil) (fun _ _ _ _ _ => (DV.ofO (do_call c__law_is_whole rfl bp__law_is_whole (da_cons (dg_r (dr_var 2 (pv 2))) da_nil)))))) drs_nil)))))))) (dss_one (ds_ret (DO.ofR dr_str))) dss_nil)
    (dss_cons (ds_if (dt_cmp (fun _ _ => or_gtI) (DR.ofO (do_B (fun _ h => cb_len) rfl T.b_len bt_len (drs_cons (dr_var 0 (pv 0)) drs_nil))) dr_int rfl) (dss_one (ds_ret (DO.ofR dr_str))) dss_nil)
    (dss_cons (ds_setLc (i := 1) (own := [("i", 3), ("item", 2)]) sc__law_fault.nd rfl rfl (sw_true rfl rfl rfl (by decide +kernel)) (di_enumE rfl T.b_enumerate (DV.ofR (dr_var 0 (pv 0)))) (blk_of (by kernel_rfl)) (fun _ _ _ _ _ => (dtg_tup (dtgs_cons (dtg_name (i := 3) sc__law_fault.nd rfl (by first | exact Or.inl rfl | exact Or.inr rfl)) (dtgs_cons (dtg_name (i := 2) sc__law_fault.nd rfl (by first | exact Or.inl rfl | exact Or.inr rfl)) dtgs_nil)))) (fun _ _ _ _ _ => (dts_one (dt_w (dw_or (dt_cmp (fun _ h => or_lt h) (dr_var 2 (pv 2)) dr_int rfl) (dw_or1 (dt_cmp (fun _ _ => or_gtI) (dr_var 2 (pv 2)) dr_int rfl)))))) (fun _ _ _ _ _ => (DV.ofR (dr_var 3 (pv 3)))))
    (dss_one (ds_ret (do_if (dt_cmp (fun _ h => or_ne h) (dr_var 1 (pv 1)) (DR.ofO (do_lst da_nil)) rfl) (do_tup (da_cons (dg_r dr_str) (da_cons (dg_o (do_ix (dr_var 1 (pv 1)) dr_int (fun _ _ => rfl))) da_nil))) (DO.ofR dr_non)))))))
theorem ok__law_values (T : Tf mg) (D : Has K mg "_law_values" s__law_values) (c__law_pick : Cal P w K mg base k "_law_pick" s__law_pick ["bag", "some"] f__law_pick) (c__law_draw : Cal P w K mg base k "_law_draw" s__law_draw ["bag", "below"] f__law_draw) : Cal P w K mg base (k + 1) "_law_values" s__law_values ["bag", "word", "other"] f__law_values :=
  cal_mk D sc__law_values fun f cdv A outer s H =>
    (dss_cons (ds_par2 (i := 3) (j := 4) sc__law_values.nd rfl rfl (by decide) rfl rfl (dos_cons (do_B (fun _ h => cb_len) rfl T.b_len bt_len (drs_cons (dr_var 1 (pv 1)) drs_nil)) (dos_cons (do_op (fun _ _ => or_pow) (DR.ofO (do_op (fun _ _ => or_pow) dr_int dr_int)) dr_int) dos_nil)) rfl)
    (dss_cons (ds_set (i := 5) sc__law_values.nd rfl (.inl rfl) (do_call c__law_draw rfl bp__law_draw (da_cons (dg_bag 0 (pv 0)) (da_cons (dg_r (dr_var 3 (pv 3))) da_nil))))
    (dss_cons (ds_set (i := 6) sc__law_values.nd rfl (.inl rfl) (do_op (fun _ _ => or_add) (dr_var 5 (pv 5)) (DR.ofO (do_call c__law_draw rfl bp__law_draw (da_cons (dg_bag 0 (pv 0)) (da_cons (dg_o (do_op (fun _ _ => or_sub) (dr_var 3 (pv 3)) (dr_var 5 (pv 5)))) da_nil))))))
    (dss_cons (ds_set (i := 7) sc__law_values.nd rfl (.inl rfl) (do_call c__law_pick rfl bp__law_pick (da_cons (dg_bag 0 (pv 0)) (da_cons (dg_o (do_lst (da_cons (dg_o (do_un (fun _ _ => ur_neg) dr_int)) (da_cons (dg_r dr_int) (da_cons (dg_r dr_int) (da_cons (dg_o (do_un (fun _ _ => ur_neg) dr_int)) (da_cons (dg_r dr_int) (da_cons (dg_r (dr_var 4 (pv 4))) (da_cons (dg_o (do_un (fun _ _ => ur_neg) (dr_var 4 (pv 4)))) (da_cons (dg_o (do_op (fun _ _ => or_add) dr_int (DR.ofO (do_call c__law_draw rfl bp__law_draw (da_cons (dg_bag 0 (pv 0)) (da_cons (dg_o (do_op (fun _ _ => or_pow) dr_int dr_int)) da_nil)))))) da_nil)))))))))) da_nil))))
    (dss_cons (ds_set (i := 8) sc__law_values.nd rfl (.inl rfl) (do_call c__law_pick rfl bp__law_pick (da_cons (dg_bag 0 (pv 0)) (da_cons (dg_o (do_lst (da_cons (dg_r dr_bl) (da_cons (dg_r dr_bl) (da_cons (dg_r dr_non) (da_cons (dg_r dr_str) (da_cons (dg_r dr_str) (da_cons (dg_o (do_tup (da_cons (dg_r dr_int) da_nil))) (da_cons (dg_o (do_lst (da_cons (dg_r dr_int) da_nil))) (da_cons (dg_o (do_tup da_nil)) (da_cons (dg_o (do_dsK (key := .inl 1) pe_int (DV.ofR dr_int))) da_nil))))))))))) da_nil))))
    (dss_cons (ds_set (i := 9) sc__law_values.nd rfl (.inl rfl) (do_op (fun _ _ => or_add) (dr_var 1 (pv 1)) (DR.ofO (do_op (fun _ _ => or_mul) (DR.ofO (do_tup (da_cons (dg_o (do_ix (dr_var 1 (pv 1)) (dr_var 5 (pv 5)) (fun _ _ => rfl))) da_nil))) (DR.ofO (do_op (fun _ _ => or_sub) dr_int (dr_var 3 (pv 3))))))))
    (dss_cons (ds_set (i := 10) sc__law_values.nd rfl (.inl rfl) (do_lst (da_cons (dg_r (dr_var 1 (pv 1))) (da_cons (dg_r (dr_var 2 (pv 2))) (da_cons (dg_o (do_tup da_nil)) (da_cons (dg_r (dr_var 9 (pv 9))) (da_cons (dg_o (do_op (fun _ _ => or_mul) (DR.ofO (do_tup (da_cons (dg_r dr_int) da_nil))) dr_int)) (da_cons (dg_o (do_op (fun _ _ => or_mul) (DR.ofO (do_tup (da_cons (dg_r dr_int) da_nil))) dr_int)) (da_cons (dg_o (do_op (fun _ _ => or_add) (dr_var 9 (pv 9)) (DR.ofO (do_tup (da_cons (dg_r dr_int) da_nil))))) (da_cons (dg_o (do_op (fun _ _ => or_add) (dr_var 9 (pv 9)) (DR.ofO (do_op (fun _ _ => or_mul) (DR.ofO (do_sl (dr_var 1 (pv 1)) dp_no (dp_so dr_int))) dr_int)))) (da_cons (dg_o (do_op (fun _ _ => or_mul) (DR.ofO (do_tup (da_cons (dg_r dr_int) da_nil))) dr_int)) da_nil)))))))))))
    (dss_cons (ds_expr (dv_mt kdL mine_append mo_append PySem.F.plainAttrs_list PySem.F.slot_list_append PySem.F.type_list_append (fun _ => mt_append) (pv 10) (da_cons (dg_o (do_op (fun _ _ => or_add) (DR.ofO (do_op (fun _ _ => or_add) (DR.ofO (do_sl (dr_var 1 (pv 1)) dp_no (dp_so (dr_var 5 (pv 5))))) (DR.ofO (do_tup (da_cons (dg_r (dr_var 7 (pv 7))) da_nil))))) (DR.ofO (do_sl (dr_var 1 (pv 1)) (dp_so (DR.ofO (do_op (fun _ _ => or_add) (dr_var 5 (pv 5)) dr_int))) dp_no)))) da_nil)))
    (dss_cons (ds_expr (dv_mt kdL mine_append mo_append PySem.F.plainAttrs_list PySem.F.slot_list_append PySem.F.type_list_append (fun _ => mt_append) (pv 10) (da_cons (dg_o (do_op (fun _ _ => or_add) (DR.ofO (do_sl (dr_var 1 (pv 1)) dp_no (dp_so (DR.ofO (do_un (fun _ _ => ur_neg) dr_int))))) (DR.ofO (do_tup (da_cons (dg_r (dr_var 7 (pv 7))) da_nil))))) da_nil)))
    (dss_cons (ds_expr (dv_mt kdL mine_append mo_append PySem.F.plainAttrs_list PySem.F.slot_list_append PySem.F.type_list_append (fun _ => mt_append) (pv 10) (da_cons (dg_o (do_op (fun _ _ => or_add) (DR.ofO (do_sl (dr_var 9 (pv 9)) dp_no (dp_so (DR.ofO (do_un (fun _ _ => ur_neg) dr_int))))) (DR.ofO (do_tup (da_cons (dg_r (dr_var 7 (pv 7))) da_nil))))) da_nil)))
    (dss_cons (ds_expr (dv_mt kdL mine_append mo_append PySem.F.plainAttrs_list PySem.F.slot_list_append PySem.F.type_list_append (fun _ => mt_append) (pv 10) (da_cons (dg_o (do_op (fun _ _ => or_add) (DR.ofO (do_op (fun _ _ => or_add) (DR.ofO (do_op (fun _ _ => or_add) (DR.ofO (do_op (fun _ _ => or_add) (DR.ofO (do_sl (dr_var 1 (pv 1)) dp_no (dp_so (dr_var 5 (pv 5))))) (DR.ofO (do_tup (da_cons (dg_r (dr_var 7 (pv 7))) da_nil))))) (DR.ofO (do_sl (dr_var 1 (pv 1)) (dp_so (DR.ofO (do_op (fun _ _ => or_add) (dr_var 5 (pv 5)) dr_int))) (dp_so (dr_var 6 (pv 6))))))) (DR.ofO (do_tup (da_cons (dg_o (do_un (fun _ _ => ur_neg) (dr_var 7 (pv 7)))) da_nil))))) (DR.ofO (do_sl (dr_var 1 (pv 1)) (dp_so (DR.ofO (do_op (fun _ _ => or_add) (dr_var 6 (pv 6)) dr_int))) dp_no)))) da_nil)))
    (dss_cons (ds_expr (dv_mt kdL mine_append mo_append PySem.F.plainAttrs_list PySem.F.slot_list_append PySem.F.type_list_append (fun _ => mt_append) (pv 10) (da_cons (dg_o (do_op (fun _ _ => or_add) (DR.ofO (do_op (fun _ _ => or_add) (DR.ofO (do_sl (dr_var 1 (pv 1)) dp_no (dp_so (dr_var 5 (pv 5))))) (DR.ofO (do_tup (da_cons (dg_r (dr_var 8 (pv 8))) da_nil))))) (DR.ofO (do_sl (dr_var 1 (pv 1)) (dp_so (DR.ofO (do_op (fun _ _ => or_add) (dr_var 5 (pv 5)) dr_int))) dp_no)))) da_nil)))
    (dss_cons (ds_expr (dv_mt kdL mine_append mo_append PySem.F.plainAttrs_list PySem.F.slot_list_append PySem.F.type_list_append (fun _ => mt_append) (pv 10) (da_cons (dg_o (do_op (fun _ _ => or_add) (DR.ofO (do_sl (dr_var 9 (pv 9)) dp_no (dp_so (DR.ofO (do_un (fun _ _ => ur_neg) dr_int))))) (DR.ofO (do_tup (da_cons (dg_r (dr_var 8 (pv 8))) da_nil))))) da_nil)))
    (dss_cons (ds_expr (dv_mt kdL mine_append mo_append PySem.F.plainAttrs_list PySem.F.slot_list_append PySem.F.type_list_append (fun _ => mt_append) (pv 10) (da_cons (dg_o (do_if (dt_cmp (fun _ h => or_lt h) (dr_var 3 (pv 3)) dr_int rfl) (do_op (fun _ _ => or_add) (DR.ofO (do_op (fun _ _ => or_add) (DR.ofO (do_op (fun _ _ => or_add) (DR.ofO (do_sl (dr_var 1 (pv 1)) dp_no (dp_so (dr_var 5 (pv 5))))) (DR.ofO (do_tup (da_cons (dg_r (dr_var 7 (pv 7))) da_nil))))) (DR.ofO (do_sl (dr_var 1 (pv 1)) (dp_so (DR.ofO (do_op (fun _ _ => or_add) (dr_var 5 (pv 5)) dr_int))) dp_no)))) (DR.ofO (do_tup (da_cons (dg_r (dr_var 8 (pv 8))) da_nil)))) (do_op (fun _ _ => or_add) (DR.ofO (do_sl (dr_var 1 (pv 1)) dp_no (dp_so (DR.ofO (do_un (fun _ _ => ur_neg) dr_int))))) (DR.ofO (do_tup (da_cons (dg_r dr_bl) da_nil)))))) da_nil)))
    (dss_cons (ds_expr (dv_mt kdL mine_append mo_append PySem.F.plainAttrs_list PySem.F.slot_list_append PySem.F.type_list_append (fun _ => mt_append) (pv 10) (da_cons (dg_o (do_op (fun _ _ => or_add) (dr_var 9 (pv 9)) (DR.ofO (do_tup (da_cons (dg_r (dr_var 7 (pv 7))) da_nil))))) da_nil)))
    (dss_cons (ds_expr (dv_mt kdL mine_append mo_append PySem.F.plainAttrs_list PySem.F.slot_list_append PySem.F.type_list_append (fun _ => mt_append) (pv 10) (da_cons (dg_o (do_op (fun _ _ => or_add) (DR.ofO (do_tup (da_cons (dg_r (dr_var 7 (pv 7))) da_nil))) (dr_var 9 (pv 9)))) da_nil)))
    (dss_cons (ds_expr (dv_mt kdL mine_append mo_append PySem.F.plainAttrs_list PySem.F.slot_list_append PySem.F.type_list_append (fun _ => mt_append) (pv 10) (da_cons (dg_o (do_op (fun _ _ => or_add) (dr_var 9 (pv 9)) (DR.ofO (do_tup (da_cons (dg_r (dr_var 8 (pv 8))) da_nil))))) da_nil)))
    (dss_cons (ds_expr (dv_mt kdL mine_append mo_append PySem.F.plainAttrs_list PySem.F.slot_list_append PySem.F.type_list_append (fun _ => mt_append) (pv 10) (da_cons (dg_o (do_op (fun _ _ => or_mul) (DR.ofO (do_tup (da_cons (dg_r dr_bl) da_nil))) dr_int)) da_nil)))
    (dss_cons (ds_expr (dv_mt kdL mine_extend mo_extend PySem.F.plainAttrs_list PySem.F.slot_list_extend PySem.F.type_list_extend (fun _ => mt_extend) (pv 10) (da_cons (dg_o (do_lst (da_cons (dg_o (do_Ty (fun _ _ => ct_list) rfl T.b_list bt_list (drs_cons (dr_var 1 (pv 1)) drs_nil))) (da_cons (dg_o (do_Ty (fun _ _ => ct_list) rfl T.b_list bt_list (drs_cons (dr_var 9 (pv 9)) drs_nil))) (da_cons (dg_o (do_tup (da_cons (dg_r (dr_var 1 (pv 1))) da_nil))) (da_cons (dg_o (do_lst da_nil)) (da_cons (dg_r dr_non) (da_cons (dg_r dr_bl) (da_cons (dg_r dr_int) (da_cons (dg_r (dr_var 7 (pv 7))) (da_cons (dg_r dr_str) (da_cons (dg_r dr_str) (da_cons (dg_o do_new0) (da_cons (dg_o (do_dsK (key := .inl 0) pe_int (DV.ofR dr_int))) (da_cons (dg_r dr_str) (da_cons (dg_o (do_tup (da_cons (dg_o (do_tup da_nil)) da_nil))) da_nil)))))))))))))))) da_nil)))
    (dss_cons (ds_expr (dv_mt kdL mine_extend mo_extend PySem.F.plainAttrs_list PySem.F.slot_list_extend PySem.F.type_list_extend (fun _ => mt_extend) (pv 10) (da_cons (dg_o (do_lst (da_cons (dg_o (do_tup (da_cons (dg_r dr_int) da_nil))) (da_cons (dg_o (do_tup (da_cons (dg_r dr_int) da_nil))) (da_cons (dg_o (do_tup (da_cons (dg_r dr_int) da_nil))) (da_cons (dg_o (do_tup (da_cons (dg_o (do_un (fun _ _ => ur_neg) dr_int)) da_nil))) (da_cons (dg_o (do_tup (da_cons (dg_r dr_int) (da_cons (dg_r dr_bl) da_nil)))) (da_cons (dg_o (do_tup (da_cons (dg_r dr_int) (da_cons (dg_r dr_int) da_nil)))) (da_cons (dg_o (do_tup (da_cons (dg_r dr_bl) da_nil))) (da_cons (dg_o (do_tup (da_cons (dg_r dr_int) (da_cons (dg_r dr_int) da_nil)))) (da_cons (dg_o (do_tup (da_cons (dg_r dr_int) (da_cons (dg_r dr_bl) da_nil)))) (da_cons (dg_o (do_tup (da_cons (dg_r dr_int) (da_cons (dg_r dr_int) da_nil)))) da_nil)))))))))))) da_nil)))
    (dss_one (ds_retV 10 (pv 10)))))))))))))))))))))))
theorem ok__law_are_faults_right (T : Tf mg) (D : Has K mg "_law_are_faults_right" s__law_are_faults_right) (c__law_same : Cal P w K mg base k "_law_same" s__law_same ["told", "due"] f__law_same) (c_swapword_error : Cal P w K mg base k "swapword_error" s_swapword_error ["value"] f_swapword_error) (c__law_fault : Cal P w K mg base k "_law_fault" s__law_fault ["value"] f__law_fault) : Cal P w K mg base (k + 1) "_law_are_faults_right" s__law_are_faults_right ["values"] f__law_are_faults_right :=
  cal_mk D sc__law_are_faults_right fun f cdv A outer s H =>
    (dss_cons (ds_for (di_valE (DV.ofR (dr_var 0 (pv 0)))) (dtg_name (i := 1) sc__law_are_faults_right.nd rfl (by first | exact Or.inl rfl | exact Or.inr rfl)) (dss_cons (ds_set (i := 2) sc__law_are_faults_right.nd rfl (.inl rfl) (do_call c__law_fault rfl bp__law_fault (da_cons (dg_r (dr_var 1 (pv 1))) da_nil)))
      (dss_one (ds_if (dt_w (dw_or (dt_not (dt_tru (DR.ofO (do_call c__law_same rfl bp__law_same (da_cons (dg_o (do_call c_swapword_error rfl bp_swapword_error (da_cons (dg_r (dr_var 1 (pv 1))) da_nil))) (da_cons (dg_r (dr_var 2 (pv 2))) da_nil)))))) (dw_or1 (dt_not (dt_tru (DR.ofO (do_call c__law_same rfl bp__law_same (da_cons (dg_o (do_callK0 c_swapword_error rfl bk_swapword_error_4 (alen_cons alen_nil) (dk_cons (dg_r (dr_var 1 (pv 1))) dk_nil))) (da_cons (dg_r (dr_var 2 (pv 2))) da_nil))))))))) (dss_one (ds_ret (DO.ofR dr_bl))) dss_nil))))
    (dss_one (ds_ret (DO.ofR dr_bl))))
theorem ok__law_bag (T : Tf mg) (D : Has K mg "_law_bag" s__law_bag) {f0 : List Int → Bg} (hm : ∀ ns, g__law_bag ns = some (f0 ns)) : ∃ f fd, mg "_law_bag" = some (.ref f) ∧ Fun K "_law_bag" "_law_bag" s__law_bag f fd ∧ FnG P w K mg base (k + 1) f fd ["script"] (spBag K f0) := by
  obtain ⟨f, fd, h1, F⟩ := D
  exact ⟨f, fd, h1, F, fn_bag F sc__law_bag hm (fun cdv A outer s H hx => pss_bag (own := [("cell", 3)]) (ws := [3]) (i := 1) hx sc__law_bag.nd (pv 0) rfl rfl (sw_true rfl rfl rfl (by decide +kernel)) (blk_of (by kernel_rfl)) (fun _ _ _ _ _ => (dtg_name (i := 3) sc__law_bag.nd rfl (by first | exact Or.inl rfl | exact Or.inr rfl))) (fun _ _ _ _ _ => dts_nil) (fun _ _ _ _ _ => (DV.ofO (do_B (fun _ h => cb_abs) rfl T.b_abs bt_abs (drs_cons (dr_var 3 (pv 3)) drs_nil))))
    (dss_cons (ds_set (i := 2) sc__law_bag.nd rfl (.inl rfl) (do_op (fun _ _ => or_add) dr_int (DR.ofO (do_B (fun _ h => cb_len) rfl T.b_len bt_len (drs_cons (dr_var 1 (pv 1)) drs_nil)))))
    (dss_cons (ds_for (di_valE (DV.ofR (dr_var 1 (pv 1)))) (dtg_name (i := 3) sc__law_bag.nd rfl (by first | exact Or.inl rfl | exact Or.inr rfl)) (dss_one (ds_set (i := 2) sc__law_bag.nd rfl (.inl rfl) (do_op (fun _ _ => or_mod) (DR.ofO (do_Ty (fun _ _ => ct_int) rfl T.b_int bt_int (drs_cons (DR.ofO (do_op (fun _ _ => or_add) (DR.ofO (do_op (fun _ _ => or_add) (DR.ofO (do_op (fun _ _ => or_mul) (dr_var 2 (pv 2)) dr_int)) (DR.ofO (do_op (fun _ _ => or_mod) (DR.ofO (do_Ty (fun _ _ => ct_int) rfl T.b_int bt_int (drs_cons (dr_var 3 (pv 3)) drs_nil))) dr_int)))) dr_int)) drs_nil))) dr_int))))
    (dss_one (ds_ret (do_bagL (dos_cons (do_lrev rfl T.b_list rfl T.b_reversed (DR.ofO (do_Ty (fun _ _ => ct_list) rfl T.b_list bt_list (drs_cons (dr_var 1 (pv 1)) drs_nil)))) (dos_cons (DO.ofR dr_int) (dos_cons (DO.ofR (dr_var 2 (pv 2))) dos_nil))))))))) (by decide)⟩
theorem ok_law {n kb : Nat} {f0 : List Int → Bg} (T : Tf mg) (hkb : kb ≤ k) (cb : ∃ f fd, mg "_law_bag" = some (.ref f) ∧ Fun K "_law_bag" "_law_bag" s__law_bag f fd ∧ FnG P w K mg base kb f fd ["script"] (spBag K f0)) (c__law_are_faults_right : Cal P w K mg base k "_law_are_faults_right" s__law_are_faults_right ["values"] f__law_are_faults_right) (c__law_are_words_right : Cal P w K mg base k "_law_are_words_right" s__law_are_words_right ["words"] f__law_are_words_right) (c__law_are_exchanges_right : Cal P w K mg base k "_law_are_exchanges_right" s__law_are_exchanges_right ["word"] f__law_are_exchanges_right) (c__law_are_least_right : Cal P w K mg base k "_law_are_least_right" s__law_are_least_right ["orders"] f__law_are_least_right) (c__law_values : Cal P w K mg base k "_law_values" s__law_values ["bag", "word", "other"] f__law_values) (c__law_longer : Cal P w K mg base k "_law_longer" s__law_longer ["bag", "order"] f__law_longer) (c__law_made : Cal P w K mg base k "_law_made" s__law_made ["word"] f__law_made) (c__law_order : Cal P w K mg base k "_law_order" s__law_order ["bag"] f__law_order) (c__law_near : Cal P w K mg base k "_law_near" s__law_near ["bag", "word"] f__law_near) (c__law_moved : Cal P w K mg base k "_law_moved" s__law_moved ["bag", "word"] f__law_moved) (c__law_up : Cal P w K mg base k "_law_up" s__law_up ["bag", "places", "most"] f__law_up) (c__law_draw : Cal P w K mg base k "_law_draw" s__law_draw ["bag", "below"] f__law_draw) (c__law_pick : Cal P w K mg base k "_law_pick" s__law_pick ["bag", "some"] f__law_pick) (c__law_word : Cal P w K mg base k "_law_word" s__law_word ["bag"] f__law_word)
    (hm : ∀ ns, ns.length ≤ n → ∃ w', m_law ⟨.un :: .bag :: List.replicate 12 .un, f0 ns⟩ = some (.re (.v (.bool true)), w')) {f : Addr} {fd : FuncData} (F : Fun K "law" "law" s_law f fd) : FnG P w K mg base (k + 1) f fd ["script"] (spLaw K n) :=
  fn_sp F sc_law (fun vs H Q ⟨a, ns, e, _⟩ => by rw [e]; rfl) fun cdv A outer s H hx => ⟨_, pss_law (f0 := f0) hx hkb sc_law.nd (show 2 ≤ 14 by decide) cb rfl bp__law_bag (pv 0) rfl (.inl rfl) ((dss_cons (ds_par2 (i := 2) (j := 3) sc_law.nd rfl rfl (by decide) rfl rfl (dos_cons (do_call c__law_word rfl bp__law_word (da_cons (dg_bag 1 (pv 1)) da_nil)) (dos_cons (do_call c__law_word rfl bp__law_word (da_cons (dg_bag 1 (pv 1)) da_nil)) dos_nil)) rfl)
    (dss_cons (ds_set (i := 4) sc_law.nd rfl (.inl rfl) (do_call c__law_pick rfl bp__law_pick (da_cons (dg_bag 1 (pv 1)) (da_cons (dg_o (do_lst (da_cons (dg_r dr_int) (da_cons (dg_o (do_op (fun _ _ => or_add) dr_int (DR.ofO (do_call c__law_draw rfl bp__law_draw (da_cons (dg_bag 1 (pv 1)) (da_cons (dg_r dr_int) da_nil)))))) (da_cons (dg_o (do_op (fun _ _ => or_add) dr_int (DR.ofO (do_call c__law_draw rfl bp__law_draw (da_cons (dg_bag 1 (pv 1)) (da_cons (dg_r dr_int) da_nil)))))) da_nil))))) da_nil))))
    (dss_cons (ds_set (i := 5) sc_law.nd rfl (.inl rfl) (do_call c__law_up rfl bp__law_up (da_cons (dg_bag 1 (pv 1)) (da_cons (dg_r (dr_var 4 (pv 4))) (da_cons (dg_o (do_call c__law_pick rfl bp__law_pick (da_cons (dg_bag 1 (pv 1)) (da_cons (dg_o (do_lst (da_cons (dg_r dr_int) (da_cons (dg_o (do_call c__law_draw rfl bp__law_draw (da_cons (dg_bag 1 (pv 1)) (da_cons (dg_r dr_int) da_nil)))) (da_cons (dg_o (do_call c__law_draw rfl bp__law_draw (da_cons (dg_bag 1 (pv 1)) (da_cons (dg_r dr_int) da_nil)))) da_nil))))) da_nil)))) da_nil)))))
    (dss_cons (ds_set (i := 6) sc_law.nd rfl (.inl rfl) (do_call c__law_up rfl bp__law_up (da_cons (dg_bag 1 (pv 1)) (da_cons (dg_o (do_op (fun _ _ => or_add) dr_int (DR.ofO (do_call c__law_draw rfl bp__law_draw (da_cons (dg_bag 1 (pv 1)) (da_cons (dg_r dr_int) da_nil)))))) (da_cons (dg_o (do_call c__law_draw rfl bp__law_draw (da_cons (dg_bag 1 (pv 1)) (da_cons (dg_r dr_int) da_nil)))) da_nil)))))
    (dss_cons (ds_set (i := 7) sc_law.nd rfl (.inl rfl) (do_trev rfl T.b_tuple rfl T.b_reversed (DR.ofO (do_Ty (fun _ _ => ct_list) rfl T.b_list bt_list (drs_cons (dr_var 2 (pv 2)) drs_nil)))))
    (dss_cons (ds_set (i := 8) sc_law.nd rfl (.inl rfl) (do_lst (da_cons (dg_r (dr_var 2 (pv 2))) (da_cons (dg_r (dr_var 3 (pv 3))) (da_cons (dg_r (dr_var 7 (pv 7))) (da_cons (dg_o (do_sl (DR.ofO (do_op (fun _ _ => or_add) (dr_var 2 (pv 2)) (dr_var 3 (pv 3)))) dp_no (dp_so dr_int))) (da_cons (dg_o (do_sl (DR.ofO (do_op (fun _ _ => or_add) (dr_var 3 (pv 3)) (dr_var 5 (pv 5)))) dp_no (dp_so dr_int))) (da_cons (dg_r (dr_var 5 (pv 5))) (da_cons (dg_o (do_trev rfl T.b_tuple rfl T.b_reversed (DR.ofO (do_Ty (fun _ _ => ct_list) rfl T.b_list bt_list (drs_cons (dr_var 5 (pv 5)) drs_nil))))) (da_cons (dg_r (dr_var 6 (pv 6))) (da_cons (dg_o (do_tup da_nil)) da_nil)))))))))))
    (dss_cons (ds_set (i := 8) sc_law.nd rfl (.inl rfl) (do_op (fun _ _ => or_add) (DR.ofO (do_op (fun _ _ => or_add) (DR.ofO (do_op (fun _ _ => or_add) (DR.ofO (do_op (fun _ _ => or_add) (dr_var 8 (pv 8)) (DR.ofO (do_call c__law_near rfl bp__law_near (da_cons (dg_bag 1 (pv 1)) (da_cons (dg_r (dr_var 5 (pv 5))) da_nil)))))) (DR.ofO (do_call c__law_moved rfl bp__law_moved (da_cons (dg_bag 1 (pv 1)) (da_cons (dg_r (dr_var 5 (pv 5))) da_nil)))))) (DR.ofO (do_call c__law_near rfl bp__law_near (da_cons (dg_bag 1 (pv 1)) (da_cons (dg_r (dr_var 6 (pv 6))) da_nil)))))) (DR.ofO (do_call c__law_moved rfl bp__law_moved (da_cons (dg_bag 1 (pv 1)) (da_cons (dg_r (dr_var 6 (pv 6))) da_nil))))))
    (dss_cons (ds_par2 (i := 9) (j := 10) sc_law.nd rfl rfl (by decide) rfl rfl (dos_cons (do_call c__law_order rfl bp__law_order (da_cons (dg_bag 1 (pv 1)) da_nil)) (dos_cons (do_call c__law_made rfl bp__law_made (da_cons (dg_r (dr_var 6 (pv 6))) da_nil)) dos_nil)) rfl)
    (dss_cons (ds_set (i := 11) sc_law.nd rfl (.inl rfl) (do_lst (da_cons (dg_r (dr_var 9 (pv 9))) (da_cons (dg_o (do_call c__law_longer rfl bp__law_longer (da_cons (dg_bag 1 (pv 1)) (da_cons (dg_r (dr_var 9 (pv 9))) da_nil)))) (da_cons (dg_o (do_call c__law_longer rfl bp__law_longer (da_cons (dg_bag 1 (pv 1)) (da_cons (dg_r (dr_var 10 (pv 10))) da_nil)))) (da_cons (dg_o (do_call c__law_made rfl bp__law_made (da_cons (dg_r (dr_var 5 (pv 5))) da_nil))) (da_cons (dg_o (do_call c__law_longer rfl bp__law_longer (da_cons (dg_bag 1 (pv 1)) (da_cons (dg_o (do_tup (da_cons (dg_r dr_int) da_nil))) da_nil)))) da_nil)))))))
    (dss_cons (ds_set (i := 12) sc_law.nd rfl (.inl rfl) (do_call c__law_values rfl bp__law_values (da_cons (dg_bag 1 (pv 1)) (da_cons (dg_o (do_if (dt_cmp (fun _ h => or_ne h) (dr_var 2 (pv 2)) (DR.ofO (do_tup da_nil)) rfl) (DO.ofR (dr_var 2 (pv 2))) (do_tup (da_cons (dg_r dr_int) (da_cons (dg_r dr_int) (da_cons (dg_r dr_int) da_nil)))))) (da_cons (dg_r (dr_var 5 (pv 5))) da_nil)))))
    (dss_cons (ds_set (i := 13) sc_law.nd rfl (.inl rfl) (do_B (fun _ h => cb_repr h) rfl T.b_repr bt_repr (drs_cons (DR.ofO (do_lst (da_cons (dg_r (dr_var 8 (pv 8))) (da_cons (dg_r (dr_var 11 (pv 11))) (da_cons (dg_r (dr_var 12 (pv 12))) da_nil))))) drs_nil)))
    (dss_cons (ds_if (dt_w (dw_or (dt_not (dt_tru (DR.ofO (do_call c__law_are_words_right rfl bp__law_are_words_right (da_cons (dg_r (dr_var 8 (pv 8))) da_nil))))) (dw_or1 (dt_not (dt_tru (DR.ofO (do_call c__law_are_least_right rfl bp__law_are_least_right (da_cons (dg_r (dr_var 11 (pv 11))) da_nil)))))))) (dss_one (ds_ret (DO.ofR dr_bl))) dss_nil)
    (dss_cons (ds_if (dt_w (dw_or (dt_not (dt_tru (DR.ofO (do_call c__law_are_exchanges_right rfl bp__law_are_exchanges_right (da_cons (dg_r (dr_var 5 (pv 5))) da_nil))))) (dw_or1 (dt_not (dt_tru (DR.ofO (do_call c__law_are_exchanges_right rfl bp__law_are_exchanges_right (da_cons (dg_r (dr_var 6 (pv 6))) da_nil)))))))) (dss_one (ds_ret (DO.ofR dr_bl))) dss_nil)
    (dss_cons (ds_if (dt_w (dw_or (dt_not (dt_tru (DR.ofO (do_call c__law_are_faults_right rfl bp__law_are_faults_right (da_cons (dg_r (dr_var 12 (pv 12))) da_nil))))) (dw_or1 (dt_not (dt_tru (DR.ofO (do_call c__law_are_words_right rfl bp__law_are_words_right (da_cons (dg_o (do_lst (da_cons (dg_r (dr_var 5 (pv 5))) (da_cons (dg_r (dr_var 2 (pv 2))) da_nil)))) da_nil)))))))) (dss_one (ds_ret (DO.ofR dr_bl))) dss_nil)
    (dss_one (ds_ret (do_cmp (fun _ h => or_eq h) (DR.ofO (do_B (fun _ h => cb_repr h) rfl T.b_repr bt_repr (drs_cons (DR.ofO (do_lst (da_cons (dg_r (dr_var 8 (pv 8))) (da_cons (dg_r (dr_var 11 (pv 11))) (da_cons (dg_r (dr_var 12 (pv 12))) da_nil))))) drs_nil))) (dr_var 13 (pv 13)) rfl)))))))))))))))))) (.inl rfl), fun vs H Q ⟨a, ns, e, hs, hl, q⟩ => by
    obtain ⟨w', hw⟩ := hm ns hl
    subst e
    exact ⟨a, ns, w', rfl, hs, hw, q⟩⟩
end
/-! ### the top -/
theorem all_mk {l : PySem.W.OpenLaw} {w : World} {K : PySem.W.Frag} {h : Heap} {mg : Str → Option Value} {fa : Addr} {n : Nat} {f0 : List Int → Bg} (X : K.In h) (G : h.Ns mainGlobals mg) (hfa : mg "law" = some (.ref fa))
    (hb : ∀ ns, g__law_bag ns = some (f0 ns)) (hm : ∀ ns, ns.length ≤ n → ∃ w', m_law ⟨.un :: .bag :: List.replicate 12 .un, f0 ns⟩ = some (.re (.v (.bool true)), w'))
    {f0 : Addr} {od0 an0 : Option Addr} {sl0 : Array (Option Value)} {oc0 kV0 dc0 pm0 cd0 ct0 : Value}
    (a0 : PySem.W.nsIn K mainGlobals "is_integer" = some (some (.ref f0))) (l0 : K.lookup f0 = some ⟨oc0, od0, .func (PySem.W.fnOf "is_integer" "is_integer" (defArgs s_is_integer) (defBody s_is_integer) (defScope s_is_integer) .none kV0 dc0 pm0 an0 cd0 ct0), sl0⟩) (c0 : PySem.W.codeIn K cd0 "is_integer" = true) (k0 : PySem.W.keepIn K (.ref f0) = true)
    {f1 : Addr} {od1 an1 : Option Addr} {sl1 : Array (Option Value)} {oc1 kV1 dc1 pm1 cd1 ct1 : Value}
    (a1 : PySem.W.nsIn K mainGlobals "are_integers" = some (some (.ref f1))) (l1 : K.lookup f1 = some ⟨oc1, od1, .func (PySem.W.fnOf "are_integers" "are_integers" (defArgs s_are_integers) (defBody s_are_integers) (defScope s_are_integers) .none kV1 dc1 pm1 an1 cd1 ct1), sl1⟩) (c1 : PySem.W.codeIn K cd1 "are_integers" = true) (k1 : PySem.W.keepIn K (.ref f1) = true)
    {f2 : Addr} {od2 an2 : Option Addr} {sl2 : Array (Option Value)} {oc2 kV2 dc2 pm2 cd2 ct2 : Value}
    (a2 : PySem.W.nsIn K mainGlobals "short_order" = some (some (.ref f2))) (l2 : K.lookup f2 = some ⟨oc2, od2, .func (PySem.W.fnOf "short_order" "short_order" (defArgs s_short_order) (defBody s_short_order) (defScope s_short_order) .none kV2 dc2 pm2 an2 cd2 ct2), sl2⟩) (c2 : PySem.W.codeIn K cd2 "short_order" = true) (k2 : PySem.W.keepIn K (.ref f2) = true)
    {f3 : Addr} {od3 an3 : Option Addr} {sl3 : Array (Option Value)} {oc3 kV3 dc3 pm3 cd3 ct3 : Value}
    (a3 : PySem.W.nsIn K mainGlobals "long_order" = some (some (.ref f3))) (l3 : K.lookup f3 = some ⟨oc3, od3, .func (PySem.W.fnOf "long_order" "long_order" (defArgs s_long_order) (defBody s_long_order) (defScope s_long_order) .none kV3 dc3 pm3 an3 cd3 ct3), sl3⟩) (c3 : PySem.W.codeIn K cd3 "long_order" = true) (k3 : PySem.W.keepIn K (.ref f3) = true)
    {f4 : Addr} {od4 an4 : Option Addr} {sl4 : Array (Option Value)} {oc4 kV4 dc4 pm4 cd4 ct4 : Value}
    (a4 : PySem.W.nsIn K mainGlobals "order_turns" = some (some (.ref f4))) (l4 : K.lookup f4 = some ⟨oc4, od4, .func (PySem.W.fnOf "order_turns" "order_turns" (defArgs s_order_turns) (defBody s_order_turns) (defScope s_order_turns) .none kV4 dc4 pm4 an4 cd4 ct4), sl4⟩) (c4 : PySem.W.codeIn K cd4 "order_turns" = true) (k4 : PySem.W.keepIn K (.ref f4) = true)
    {f5 : Addr} {od5 an5 : Option Addr} {sl5 : Array (Option Value)} {oc5 kV5 dc5 pm5 cd5 ct5 : Value}
    (a5 : PySem.W.nsIn K mainGlobals "order_length" = some (some (.ref f5))) (l5 : K.lookup f5 = some ⟨oc5, od5, .func (PySem.W.fnOf "order_length" "order_length" (defArgs s_order_length) (defBody s_order_length) (defScope s_order_length) .none kV5 dc5 pm5 an5 cd5 ct5), sl5⟩) (c5 : PySem.W.codeIn K cd5 "order_length" = true) (k5 : PySem.W.keepIn K (.ref f5) = true)
    {f6 : Addr} {od6 an6 : Option Addr} {sl6 : Array (Option Value)} {oc6 kV6 dc6 pm6 cd6 ct6 : Value}
    (a6 : PySem.W.nsIn K mainGlobals "inverse_order" = some (some (.ref f6))) (l6 : K.lookup f6 = some ⟨oc6, od6, .func (PySem.W.fnOf "inverse_order" "inverse_order" (defArgs s_inverse_order) (defBody s_inverse_order) (defScope s_inverse_order) .none kV6 dc6 pm6 an6 cd6 ct6), sl6⟩) (c6 : PySem.W.codeIn K cd6 "inverse_order" = true) (k6 : PySem.W.keepIn K (.ref f6) = true)
    {f7 : Addr} {od7 an7 : Option Addr} {sl7 : Array (Option Value)} {oc7 kV7 dc7 pm7 cd7 ct7 : Value}
    (a7 : PySem.W.nsIn K mainGlobals "swapped_order" = some (some (.ref f7))) (l7 : K.lookup f7 = some ⟨oc7, od7, .func (PySem.W.fnOf "swapped_order" "swapped_order" (defArgs s_swapped_order) (defBody s_swapped_order) (defScope s_swapped_order) .none kV7 dc7 pm7 an7 cd7 ct7), sl7⟩) (c7 : PySem.W.codeIn K cd7 "swapped_order" = true) (k7 : PySem.W.keepIn K (.ref f7) = true)
    {f8 : Addr} {od8 an8 : Option Addr} {sl8 : Array (Option Value)} {oc8 kV8 dc8 pm8 cd8 ct8 : Value}
    (a8 : PySem.W.nsIn K mainGlobals "swapword_error" = some (some (.ref f8))) (l8 : K.lookup f8 = some ⟨oc8, od8, .func (PySem.W.fnOf "swapword_error" "swapword_error" (defArgs s_swapword_error) (defBody s_swapword_error) (defScope s_swapword_error) .none kV8 dc8 pm8 an8 cd8 ct8), sl8⟩) (c8 : PySem.W.codeIn K cd8 "swapword_error" = true) (k8 : PySem.W.keepIn K (.ref f8) = true)
    {f9 : Addr} {od9 an9 : Option Addr} {sl9 : Array (Option Value)} {oc9 kV9 dc9 pm9 cd9 ct9 : Value}
    (a9 : PySem.W.nsIn K mainGlobals "word_order" = some (some (.ref f9))) (l9 : K.lookup f9 = some ⟨oc9, od9, .func (PySem.W.fnOf "word_order" "word_order" (defArgs s_word_order) (defBody s_word_order) (defScope s_word_order) .none kV9 dc9 pm9 an9 cd9 ct9), sl9⟩) (c9 : PySem.W.codeIn K cd9 "word_order" = true) (k9 : PySem.W.keepIn K (.ref f9) = true)
    {f10 : Addr} {od10 an10 : Option Addr} {sl10 : Array (Option Value)} {oc10 kV10 dc10 pm10 cd10 ct10 : Value}
    (a10 : PySem.W.nsIn K mainGlobals "is_shortest" = some (some (.ref f10))) (l10 : K.lookup f10 = some ⟨oc10, od10, .func (PySem.W.fnOf "is_shortest" "is_shortest" (defArgs s_is_shortest) (defBody s_is_shortest) (defScope s_is_shortest) .none kV10 dc10 pm10 an10 cd10 ct10), sl10⟩) (c10 : PySem.W.codeIn K cd10 "is_shortest" = true) (k10 : PySem.W.keepIn K (.ref f10) = true)
    {f11 : Addr} {od11 an11 : Option Addr} {sl11 : Array (Option Value)} {oc11 kV11 dc11 pm11 cd11 ct11 : Value}
    (a11 : PySem.W.nsIn K mainGlobals "least_word" = some (some (.ref f11))) (l11 : K.lookup f11 = some ⟨oc11, od11, .func (PySem.W.fnOf "least_word" "least_word" (defArgs s_least_word) (defBody s_least_word) (defScope s_least_word) .none kV11 dc11 pm11 an11 cd11 ct11), sl11⟩) (c11 : PySem.W.codeIn K cd11 "least_word" = true) (k11 : PySem.W.keepIn K (.ref f11) = true)
    {f12 : Addr} {od12 an12 : Option Addr} {sl12 : Array (Option Value)} {oc12 kV12 dc12 pm12 cd12 ct12 : Value}
    (a12 : PySem.W.nsIn K mainGlobals "exchange_place" = some (some (.ref f12))) (l12 : K.lookup f12 = some ⟨oc12, od12, .func (PySem.W.fnOf "exchange_place" "exchange_place" (defArgs s_exchange_place) (defBody s_exchange_place) (defScope s_exchange_place) .none kV12 dc12 pm12 an12 cd12 ct12), sl12⟩) (c12 : PySem.W.codeIn K cd12 "exchange_place" = true) (k12 : PySem.W.keepIn K (.ref f12) = true)
    {f13 : Addr} {od13 an13 : Option Addr} {sl13 : Array (Option Value)} {oc13 kV13 dc13 pm13 cd13 ct13 : Value}
    (a13 : PySem.W.nsIn K mainGlobals "_law_bag" = some (some (.ref f13))) (l13 : K.lookup f13 = some ⟨oc13, od13, .func (PySem.W.fnOf "_law_bag" "_law_bag" (defArgs s__law_bag) (defBody s__law_bag) (defScope s__law_bag) .none kV13 dc13 pm13 an13 cd13 ct13), sl13⟩) (c13 : PySem.W.codeIn K cd13 "_law_bag" = true) (k13 : PySem.W.keepIn K (.ref f13) = true)
    {f14 : Addr} {od14 an14 : Option Addr} {sl14 : Array (Option Value)} {oc14 kV14 dc14 pm14 cd14 ct14 : Value}
    (a14 : PySem.W.nsIn K mainGlobals "_law_draw" = some (some (.ref f14))) (l14 : K.lookup f14 = some ⟨oc14, od14, .func (PySem.W.fnOf "_law_draw" "_law_draw" (defArgs s__law_draw) (defBody s__law_draw) (defScope s__law_draw) .none kV14 dc14 pm14 an14 cd14 ct14), sl14⟩) (c14 : PySem.W.codeIn K cd14 "_law_draw" = true) (k14 : PySem.W.keepIn K (.ref f14) = true)
    {f15 : Addr} {od15 an15 : Option Addr} {sl15 : Array (Option Value)} {oc15 kV15 dc15 pm15 cd15 ct15 : Value}
    (a15 : PySem.W.nsIn K mainGlobals "_law_pick" = some (some (.ref f15))) (l15 : K.lookup f15 = some ⟨oc15, od15, .func (PySem.W.fnOf "_law_pick" "_law_pick" (defArgs s__law_pick) (defBody s__law_pick) (defScope s__law_pick) .none kV15 dc15 pm15 an15 cd15 ct15), sl15⟩) (c15 : PySem.W.codeIn K cd15 "_law_pick" = true) (k15 : PySem.W.keepIn K (.ref f15) = true)
    {f16 : Addr} {od16 an16 : Option Addr} {sl16 : Array (Option Value)} {oc16 kV16 dc16 pm16 cd16 ct16 : Value}
    (a16 : PySem.W.nsIn K mainGlobals "_law_same" = some (some (.ref f16))) (l16 : K.lookup f16 = some ⟨oc16, od16, .func (PySem.W.fnOf "_law_same" "_law_same" (defArgs s__law_same) (defBody s__law_same) (defScope s__law_same) .none kV16 dc16 pm16 an16 cd16 ct16), sl16⟩) (c16 : PySem.W.codeIn K cd16 "_law_same" = true) (k16 : PySem.W.keepIn K (.ref f16) = true)
    {f17 : Addr} {od17 an17 : Option Addr} {sl17 : Array (Option Value)} {oc17 kV17 dc17 pm17 cd17 ct17 : Value}
    (a17 : PySem.W.nsIn K mainGlobals "_law_bare" = some (some (.ref f17))) (l17 : K.lookup f17 = some ⟨oc17, od17, .func (PySem.W.fnOf "_law_bare" "_law_bare" (defArgs s__law_bare) (defBody s__law_bare) (defScope s__law_bare) .none kV17 dc17 pm17 an17 cd17 ct17), sl17⟩) (c17 : PySem.W.codeIn K cd17 "_law_bare" = true) (k17 : PySem.W.keepIn K (.ref f17) = true)
    {f18 : Addr} {od18 an18 : Option Addr} {sl18 : Array (Option Value)} {oc18 kV18 dc18 pm18 cd18 ct18 : Value}
    (a18 : PySem.W.nsIn K mainGlobals "_law_made" = some (some (.ref f18))) (l18 : K.lookup f18 = some ⟨oc18, od18, .func (PySem.W.fnOf "_law_made" "_law_made" (defArgs s__law_made) (defBody s__law_made) (defScope s__law_made) .none kV18 dc18 pm18 an18 cd18 ct18), sl18⟩) (c18 : PySem.W.codeIn K cd18 "_law_made" = true) (k18 : PySem.W.keepIn K (.ref f18) = true)
    {f19 : Addr} {od19 an19 : Option Addr} {sl19 : Array (Option Value)} {oc19 kV19 dc19 pm19 cd19 ct19 : Value}
    (a19 : PySem.W.nsIn K mainGlobals "_law_turns" = some (some (.ref f19))) (l19 : K.lookup f19 = some ⟨oc19, od19, .func (PySem.W.fnOf "_law_turns" "_law_turns" (defArgs s__law_turns) (defBody s__law_turns) (defScope s__law_turns) .none kV19 dc19 pm19 an19 cd19 ct19), sl19⟩) (c19 : PySem.W.codeIn K cd19 "_law_turns" = true) (k19 : PySem.W.keepIn K (.ref f19) = true)
    {f20 : Addr} {od20 an20 : Option Addr} {sl20 : Array (Option Value)} {oc20 kV20 dc20 pm20 cd20 ct20 : Value}
    (a20 : PySem.W.nsIn K mainGlobals "_law_word" = some (some (.ref f20))) (l20 : K.lookup f20 = some ⟨oc20, od20, .func (PySem.W.fnOf "_law_word" "_law_word" (defArgs s__law_word) (defBody s__law_word) (defScope s__law_word) .none kV20 dc20 pm20 an20 cd20 ct20), sl20⟩) (c20 : PySem.W.codeIn K cd20 "_law_word" = true) (k20 : PySem.W.keepIn K (.ref f20) = true)
    {f21 : Addr} {od21 an21 : Option Addr} {sl21 : Array (Option Value)} {oc21 kV21 dc21 pm21 cd21 ct21 : Value}
    (a21 : PySem.W.nsIn K mainGlobals "_law_up" = some (some (.ref f21))) (l21 : K.lookup f21 = some ⟨oc21, od21, .func (PySem.W.fnOf "_law_up" "_law_up" (defArgs s__law_up) (defBody s__law_up) (defScope s__law_up) .none kV21 dc21 pm21 an21 cd21 ct21), sl21⟩) (c21 : PySem.W.codeIn K cd21 "_law_up" = true) (k21 : PySem.W.keepIn K (.ref f21) = true)
    {f22 : Addr} {od22 an22 : Option Addr} {sl22 : Array (Option Value)} {oc22 kV22 dc22 pm22 cd22 ct22 : Value}
    (a22 : PySem.W.nsIn K mainGlobals "_law_moved" = some (some (.ref f22))) (l22 : K.lookup f22 = some ⟨oc22, od22, .func (PySem.W.fnOf "_law_moved" "_law_moved" (defArgs s__law_moved) (defBody s__law_moved) (defScope s__law_moved) .none kV22 dc22 pm22 an22 cd22 ct22), sl22⟩) (c22 : PySem.W.codeIn K cd22 "_law_moved" = true) (k22 : PySem.W.keepIn K (.ref f22) = true)
    {f23 : Addr} {od23 an23 : Option Addr} {sl23 : Array (Option Value)} {oc23 kV23 dc23 pm23 cd23 ct23 : Value}
    (a23 : PySem.W.nsIn K mainGlobals "_law_near" = some (some (.ref f23))) (l23 : K.lookup f23 = some ⟨oc23, od23, .func (PySem.W.fnOf "_law_near" "_law_near" (defArgs s__law_near) (defBody s__law_near) (defScope s__law_near) .none kV23 dc23 pm23 an23 cd23 ct23), sl23⟩) (c23 : PySem.W.codeIn K cd23 "_law_near" = true) (k23 : PySem.W.keepIn K (.ref f23) = true)
    {f24 : Addr} {od24 an24 : Option Addr} {sl24 : Array (Option Value)} {oc24 kV24 dc24 pm24 cd24 ct24 : Value}
    (a24 : PySem.W.nsIn K mainGlobals "_law_are_words_right" = some (some (.ref f24))) (l24 : K.lookup f24 = some ⟨oc24, od24, .func (PySem.W.fnOf "_law_are_words_right" "_law_are_words_right" (defArgs s__law_are_words_right) (defBody s__law_are_words_right) (defScope s__law_are_words_right) .none kV24 dc24 pm24 an24 cd24 ct24), sl24⟩) (c24 : PySem.W.codeIn K cd24 "_law_are_words_right" = true) (k24 : PySem.W.keepIn K (.ref f24) = true)
    {f25 : Addr} {od25 an25 : Option Addr} {sl25 : Array (Option Value)} {oc25 kV25 dc25 pm25 cd25 ct25 : Value}
    (a25 : PySem.W.nsIn K mainGlobals "_law_order" = some (some (.ref f25))) (l25 : K.lookup f25 = some ⟨oc25, od25, .func (PySem.W.fnOf "_law_order" "_law_order" (defArgs s__law_order) (defBody s__law_order) (defScope s__law_order) .none kV25 dc25 pm25 an25 cd25 ct25), sl25⟩) (c25 : PySem.W.codeIn K cd25 "_law_order" = true) (k25 : PySem.W.keepIn K (.ref f25) = true)
    {f26 : Addr} {od26 an26 : Option Addr} {sl26 : Array (Option Value)} {oc26 kV26 dc26 pm26 cd26 ct26 : Value}
    (a26 : PySem.W.nsIn K mainGlobals "_law_longer" = some (some (.ref f26))) (l26 : K.lookup f26 = some ⟨oc26, od26, .func (PySem.W.fnOf "_law_longer" "_law_longer" (defArgs s__law_longer) (defBody s__law_longer) (defScope s__law_longer) .none kV26 dc26 pm26 an26 cd26 ct26), sl26⟩) (c26 : PySem.W.codeIn K cd26 "_law_longer" = true) (k26 : PySem.W.keepIn K (.ref f26) = true)
    {f27 : Addr} {od27 an27 : Option Addr} {sl27 : Array (Option Value)} {oc27 kV27 dc27 pm27 cd27 ct27 : Value}
    (a27 : PySem.W.nsIn K mainGlobals "_law_searched" = some (some (.ref f27))) (l27 : K.lookup f27 = some ⟨oc27, od27, .func (PySem.W.fnOf "_law_searched" "_law_searched" (defArgs s__law_searched) (defBody s__law_searched) (defScope s__law_searched) .none kV27 dc27 pm27 an27 cd27 ct27), sl27⟩) (c27 : PySem.W.codeIn K cd27 "_law_searched" = true) (k27 : PySem.W.keepIn K (.ref f27) = true)
    {f28 : Addr} {od28 an28 : Option Addr} {sl28 : Array (Option Value)} {oc28 kV28 dc28 pm28 cd28 ct28 : Value}
    (a28 : PySem.W.nsIn K mainGlobals "_law_stepped" = some (some (.ref f28))) (l28 : K.lookup f28 = some ⟨oc28, od28, .func (PySem.W.fnOf "_law_stepped" "_law_stepped" (defArgs s__law_stepped) (defBody s__law_stepped) (defScope s__law_stepped) .none kV28 dc28 pm28 an28 cd28 ct28), sl28⟩) (c28 : PySem.W.codeIn K cd28 "_law_stepped" = true) (k28 : PySem.W.keepIn K (.ref f28) = true)
    {f29 : Addr} {od29 an29 : Option Addr} {sl29 : Array (Option Value)} {oc29 kV29 dc29 pm29 cd29 ct29 : Value}
    (a29 : PySem.W.nsIn K mainGlobals "_law_are_least_right" = some (some (.ref f29))) (l29 : K.lookup f29 = some ⟨oc29, od29, .func (PySem.W.fnOf "_law_are_least_right" "_law_are_least_right" (defArgs s__law_are_least_right) (defBody s__law_are_least_right) (defScope s__law_are_least_right) .none kV29 dc29 pm29 an29 cd29 ct29), sl29⟩) (c29 : PySem.W.codeIn K cd29 "_law_are_least_right" = true) (k29 : PySem.W.keepIn K (.ref f29) = true)
    {f30 : Addr} {od30 an30 : Option Addr} {sl30 : Array (Option Value)} {oc30 kV30 dc30 pm30 cd30 ct30 : Value}
    (a30 : PySem.W.nsIn K mainGlobals "_law_are_exchanges_right" = some (some (.ref f30))) (l30 : K.lookup f30 = some ⟨oc30, od30, .func (PySem.W.fnOf "_law_are_exchanges_right" "_law_are_exchanges_right" (defArgs s__law_are_exchanges_right) (defBody s__law_are_exchanges_right) (defScope s__law_are_exchanges_right) .none kV30 dc30 pm30 an30 cd30 ct30), sl30⟩) (c30 : PySem.W.codeIn K cd30 "_law_are_exchanges_right" = true) (k30 : PySem.W.keepIn K (.ref f30) = true)
    {f31 : Addr} {od31 an31 : Option Addr} {sl31 : Array (Option Value)} {oc31 kV31 dc31 pm31 cd31 ct31 : Value}
    (a31 : PySem.W.nsIn K mainGlobals "_law_is_whole" = some (some (.ref f31))) (l31 : K.lookup f31 = some ⟨oc31, od31, .func (PySem.W.fnOf "_law_is_whole" "_law_is_whole" (defArgs s__law_is_whole) (defBody s__law_is_whole) (defScope s__law_is_whole) .none kV31 dc31 pm31 an31 cd31 ct31), sl31⟩) (c31 : PySem.W.codeIn K cd31 "_law_is_whole" = true) (k31 : PySem.W.keepIn K (.ref f31) = true)
    {f32 : Addr} {od32 an32 : Option Addr} {sl32 : Array (Option Value)} {oc32 kV32 dc32 pm32 cd32 ct32 : Value}
    (a32 : PySem.W.nsIn K mainGlobals "_law_fault" = some (some (.ref f32))) (l32 : K.lookup f32 = some ⟨oc32, od32, .func (PySem.W.fnOf "_law_fault" "_law_fault" (defArgs s__law_fault) (defBody s__law_fault) (defScope s__law_fault) .none kV32 dc32 pm32 an32 cd32 ct32), sl32⟩) (c32 : PySem.W.codeIn K cd32 "_law_fault" = true) (k32 : PySem.W.keepIn K (.ref f32) = true)
    {f33 : Addr} {od33 an33 : Option Addr} {sl33 : Array (Option Value)} {oc33 kV33 dc33 pm33 cd33 ct33 : Value}
    (a33 : PySem.W.nsIn K mainGlobals "_law_values" = some (some (.ref f33))) (l33 : K.lookup f33 = some ⟨oc33, od33, .func (PySem.W.fnOf "_law_values" "_law_values" (defArgs s__law_values) (defBody s__law_values) (defScope s__law_values) .none kV33 dc33 pm33 an33 cd33 ct33), sl33⟩) (c33 : PySem.W.codeIn K cd33 "_law_values" = true) (k33 : PySem.W.keepIn K (.ref f33) = true)
    {f34 : Addr} {od34 an34 : Option Addr} {sl34 : Array (Option Value)} {oc34 kV34 dc34 pm34 cd34 ct34 : Value}
    (a34 : PySem.W.nsIn K mainGlobals "_law_are_faults_right" = some (some (.ref f34))) (l34 : K.lookup f34 = some ⟨oc34, od34, .func (PySem.W.fnOf "_law_are_faults_right" "_law_are_faults_right" (defArgs s__law_are_faults_right) (defBody s__law_are_faults_right) (defScope s__law_are_faults_right) .none kV34 dc34 pm34 an34 cd34 ct34), sl34⟩) (c34 : PySem.W.codeIn K cd34 "_law_are_faults_right" = true) (k34 : PySem.W.keepIn K (.ref f34) = true)
    {f35 : Addr} {od35 an35 : Option Addr} {sl35 : Array (Option Value)} {oc35 kV35 dc35 pm35 cd35 ct35 : Value}
    (a35 : PySem.W.nsIn K mainGlobals "law" = some (some (.ref f35))) (l35 : K.lookup f35 = some ⟨oc35, od35, .func (PySem.W.fnOf "law" "law" (defArgs s_law) (defBody s_law) (defScope s_law) .none kV35 dc35 pm35 an35 cd35 ct35), sl35⟩) (c35 : PySem.W.codeIn K cd35 "law" = true) (k35 : PySem.W.keepIn K (.ref f35) = true)
    (z_abs : PySem.W.nsIn K mainGlobals "abs" = some none)
    (z_all : PySem.W.nsIn K mainGlobals "all" = some none)
    (z_bool : PySem.W.nsIn K mainGlobals "bool" = some none)
    (z_dict : PySem.W.nsIn K mainGlobals "dict" = some none)
    (z_enumerate : PySem.W.nsIn K mainGlobals "enumerate" = some none)
    (z_int : PySem.W.nsIn K mainGlobals "int" = some none)
    (z_isinstance : PySem.W.nsIn K mainGlobals "isinstance" = some none)
    (z_len : PySem.W.nsIn K mainGlobals "len" = some none)
    (z_list : PySem.W.nsIn K mainGlobals "list" = some none)
    (z_max : PySem.W.nsIn K mainGlobals "max" = some none)
    (z_range : PySem.W.nsIn K mainGlobals "range" = some none)
    (z_repr : PySem.W.nsIn K mainGlobals "repr" = some none)
    (z_reversed : PySem.W.nsIn K mainGlobals "reversed" = some none)
    (z_sum : PySem.W.nsIn K mainGlobals "sum" = some none)
    (z_tuple : PySem.W.nsIn K mainGlobals "tuple" = some none)
    {t_MAX_PLACES : Tok} (z_MAX_PLACES : PySem.W.nsIn K mainGlobals "MAX_PLACES" = some (some (.int 12 t_MAX_PLACES)))
    {t_MAX_SWAPS : Tok} (z_MAX_SWAPS : PySem.W.nsIn K mainGlobals "MAX_SWAPS" = some (some (.int 100 t_MAX_SWAPS)))
    : ∃ fd : FuncData, (∀ (s : Shared) (v : Value), BindsTo s fd ⟨[v], []⟩ [("script", v)]) ∧ ∀ base : Heap, K.In base → base.Ns mainGlobals mg → FnG l.prog w K mg base 6 fa fd ["script"] (spLaw K n) := by
  have e := hfa.symm.trans (PySem.W.mg_of X G a35)
  cases e
  have T : Tf mg := ⟨PySem.W.mg_none_of X G z_abs, PySem.W.mg_none_of X G z_all, PySem.W.mg_none_of X G z_bool, PySem.W.mg_none_of X G z_dict, PySem.W.mg_none_of X G z_enumerate, PySem.W.mg_none_of X G z_int, PySem.W.mg_none_of X G z_isinstance, PySem.W.mg_none_of X G z_len, PySem.W.mg_none_of X G z_list, PySem.W.mg_none_of X G z_max, PySem.W.mg_none_of X G z_range, PySem.W.mg_none_of X G z_repr, PySem.W.mg_none_of X G z_reversed, PySem.W.mg_none_of X G z_sum, PySem.W.mg_none_of X G z_tuple, ⟨_, PySem.W.mg_of X G z_MAX_PLACES⟩, ⟨_, PySem.W.mg_of X G z_MAX_SWAPS⟩⟩
  have D_is_integer : Has K mg "is_integer" s_is_integer := ⟨_, _, PySem.W.mg_of X G a0, fun_mk l0 c0 k0⟩
  have D_are_integers : Has K mg "are_integers" s_are_integers := ⟨_, _, PySem.W.mg_of X G a1, fun_mk l1 c1 k1⟩
  have D_short_order : Has K mg "short_order" s_short_order := ⟨_, _, PySem.W.mg_of X G a2, fun_mk l2 c2 k2⟩
  have D_long_order : Has K mg "long_order" s_long_order := ⟨_, _, PySem.W.mg_of X G a3, fun_mk l3 c3 k3⟩
  have D_order_turns : Has K mg "order_turns" s_order_turns := ⟨_, _, PySem.W.mg_of X G a4, fun_mk l4 c4 k4⟩
  have D_order_length : Has K mg "order_length" s_order_length := ⟨_, _, PySem.W.mg_of X G a5, fun_mk l5 c5 k5⟩
  have D_inverse_order : Has K mg "inverse_order" s_inverse_order := ⟨_, _, PySem.W.mg_of X G a6, fun_mk l6 c6 k6⟩
  have D_swapped_order : Has K mg "swapped_order" s_swapped_order := ⟨_, _, PySem.W.mg_of X G a7, fun_mk l7 c7 k7⟩
  have D_swapword_error : Has K mg "swapword_error" s_swapword_error := ⟨_, _, PySem.W.mg_of X G a8, fun_mk l8 c8 k8⟩
  have D_word_order : Has K mg "word_order" s_word_order := ⟨_, _, PySem.W.mg_of X G a9, fun_mk l9 c9 k9⟩
  have D_is_shortest : Has K mg "is_shortest" s_is_shortest := ⟨_, _, PySem.W.mg_of X G a10, fun_mk l10 c10 k10⟩
  have D_least_word : Has K mg "least_word" s_least_word := ⟨_, _, PySem.W.mg_of X G a11, fun_mk l11 c11 k11⟩
  have D_exchange_place : Has K mg "exchange_place" s_exchange_place := ⟨_, _, PySem.W.mg_of X G a12, fun_mk l12 c12 k12⟩
  have D__law_bag : Has K mg "_law_bag" s__law_bag := ⟨_, _, PySem.W.mg_of X G a13, fun_mk l13 c13 k13⟩
  have D__law_draw : Has K mg "_law_draw" s__law_draw := ⟨_, _, PySem.W.mg_of X G a14, fun_mk l14 c14 k14⟩
  have D__law_pick : Has K mg "_law_pick" s__law_pick := ⟨_, _, PySem.W.mg_of X G a15, fun_mk l15 c15 k15⟩
  have D__law_same : Has K mg "_law_same" s__law_same := ⟨_, _, PySem.W.mg_of X G a16, fun_mk l16 c16 k16⟩
  have D__law_bare : Has K mg "_law_bare" s__law_bare := ⟨_, _, PySem.W.mg_of X G a17, fun_mk l17 c17 k17⟩
  have D__law_made : Has K mg "_law_made" s__law_made := ⟨_, _, PySem.W.mg_of X G a18, fun_mk l18 c18 k18⟩
  have D__law_turns : Has K mg "_law_turns" s__law_turns := ⟨_, _, PySem.W.mg_of X G a19, fun_mk l19 c19 k19⟩
  have D__law_word : Has K mg "_law_word" s__law_word := ⟨_, _, PySem.W.mg_of X G a20, fun_mk l20 c20 k20⟩
  have D__law_up : Has K mg "_law_up" s__law_up := ⟨_, _, PySem.W.mg_of X G a21, fun_mk l21 c21 k21⟩
  have D__law_moved : Has K mg "_law_moved" s__law_moved := ⟨_, _, PySem.W.mg_of X G a22, fun_mk l22 c22 k22⟩
  have D__law_near : Has K mg "_law_near" s__law_near := ⟨_, _, PySem.W.mg_of X G a23, fun_mk l23 c23 k23⟩
  have D__law_are_words_right : Has K mg "_law_are_words_right" s__law_are_words_right := ⟨_, _, PySem.W.mg_of X G a24, fun_mk l24 c24 k24⟩
  have D__law_order : Has K mg "_law_order" s__law_order := ⟨_, _, PySem.W.mg_of X G a25, fun_mk l25 c25 k25⟩
  have D__law_longer : Has K mg "_law_longer" s__law_longer := ⟨_, _, PySem.W.mg_of X G a26, fun_mk l26 c26 k26⟩
  have D__law_searched : Has K mg "_law_searched" s__law_searched := ⟨_, _, PySem.W.mg_of X G a27, fun_mk l27 c27 k27⟩
  have D__law_stepped : Has K mg "_law_stepped" s__law_stepped := ⟨_, _, PySem.W.mg_of X G a28, fun_mk l28 c28 k28⟩
  have D__law_are_least_right : Has K mg "_law_are_least_right" s__law_are_least_right := ⟨_, _, PySem.W.mg_of X G a29, fun_mk l29 c29 k29⟩
  have D__law_are_exchanges_right : Has K mg "_law_are_exchanges_right" s__law_are_exchanges_right := ⟨_, _, PySem.W.mg_of X G a30, fun_mk l30 c30 k30⟩
  have D__law_is_whole : Has K mg "_law_is_whole" s__law_is_whole := ⟨_, _, PySem.W.mg_of X G a31, fun_mk l31 c31 k31⟩
  have D__law_fault : Has K mg "_law_fault" s__law_fault := ⟨_, _, PySem.W.mg_of X G a32, fun_mk l32 c32 k32⟩
  have D__law_values : Has K mg "_law_values" s__law_values := ⟨_, _, PySem.W.mg_of X G a33, fun_mk l33 c33 k33⟩
  have D__law_are_faults_right : Has K mg "_law_are_faults_right" s__law_are_faults_right := ⟨_, _, PySem.W.mg_of X G a34, fun_mk l34 c34 k34⟩
  refine ⟨PySem.W.fnOf "law" "law" (defArgs s_law) (defBody s_law) (defScope s_law) .none kV35 dc35 pm35 an35 cd35 ct35, fun s v => .of_eq rfl, fun base _ _ => ?_⟩
  have c_is_integer : Cal l.prog w K mg base 1 "is_integer" s_is_integer ["value"] f_is_integer := ok_is_integer (k := 0) T D_is_integer 
  have c_short_order : Cal l.prog w K mg base 1 "short_order" s_short_order ["w"] f_short_order := ok_short_order (k := 0) T D_short_order 
  have c_long_order : Cal l.prog w K mg base 1 "long_order" s_long_order ["w", "n"] f_long_order := ok_long_order (k := 0) T D_long_order 
  have c_order_turns : Cal l.prog w K mg base 1 "order_turns" s_order_turns ["w"] f_order_turns := ok_order_turns (k := 0) T D_order_turns 
  have c__law_draw : Cal l.prog w K mg base 1 "_law_draw" s__law_draw ["bag", "below"] f__law_draw := ok__law_draw (k := 0) T D__law_draw 
  have c__law_same : Cal l.prog w K mg base 1 "_law_same" s__law_same ["told", "due"] f__law_same := ok__law_same (k := 0) T D__law_same 
  have c__law_bare : Cal l.prog w K mg base 1 "_law_bare" s__law_bare ["row"] f__law_bare := ok__law_bare (k := 0) T D__law_bare 
  have c__law_turns : Cal l.prog w K mg base 1 "_law_turns" s__law_turns ["order"] f__law_turns := ok__law_turns (k := 0) T D__law_turns 
  have c__law_stepped : Cal l.prog w K mg base 1 "_law_stepped" s__law_stepped ["order"] f__law_stepped := ok__law_stepped (k := 0) T D__law_stepped 
  have c__law_is_whole : Cal l.prog w K mg base 1 "_law_is_whole" s__law_is_whole ["item"] f__law_is_whole := ok__law_is_whole (k := 0) T D__law_is_whole 
  have c_are_integers : Cal l.prog w K mg base 2 "are_integers" s_are_integers ["value"] f_are_integers := ok_are_integers (k := 1) T D_are_integers (c_is_integer.mono (by decide))
  have c_order_length : Cal l.prog w K mg base 2 "order_length" s_order_length ["w"] f_order_length := ok_order_length (k := 1) T D_order_length (c_order_turns.mono (by decide))
  have c_inverse_order : Cal l.prog w K mg base 2 "inverse_order" s_inverse_order ["w"] f_inverse_order := ok_inverse_order (k := 1) T D_inverse_order (c_short_order.mono (by decide))
  have c_swapped_order : Cal l.prog w K mg base 2 "swapped_order" s_swapped_order ["w", "i", "j"] f_swapped_order := ok_swapped_order (k := 1) T D_swapped_order (c_short_order.mono (by decide)) (c_long_order.mono (by decide))
  have c_word_order : Cal l.prog w K mg base 2 "word_order" s_word_order ["word"] f_word_order := ok_word_order (k := 1) T D_word_order (c_short_order.mono (by decide))
  have c__law_pick : Cal l.prog w K mg base 2 "_law_pick" s__law_pick ["bag", "some"] f__law_pick := ok__law_pick (k := 1) T D__law_pick (c__law_draw.mono (by decide))
  have c__law_made : Cal l.prog w K mg base 2 "_law_made" s__law_made ["word"] f__law_made := ok__law_made (k := 1) T D__law_made (c__law_bare.mono (by decide))
  have c__law_word : Cal l.prog w K mg base 2 "_law_word" s__law_word ["bag"] f__law_word := ok__law_word (k := 1) T D__law_word (c__law_draw.mono (by decide))
  have c__law_near : Cal l.prog w K mg base 2 "_law_near" s__law_near ["bag", "word"] f__law_near := ok__law_near (k := 1) T D__law_near (c__law_draw.mono (by decide))
  have c__law_order : Cal l.prog w K mg base 2 "_law_order" s__law_order ["bag"] f__law_order := ok__law_order (k := 1) T D__law_order (c__law_draw.mono (by decide))
  have c__law_longer : Cal l.prog w K mg base 2 "_law_longer" s__law_longer ["bag", "order"] f__law_longer := ok__law_longer (k := 1) T D__law_longer (c__law_draw.mono (by decide))
  have c__law_searched : Cal l.prog w K mg base 2 "_law_searched" s__law_searched ["order"] f__law_searched := ok__law_searched (k := 1) T D__law_searched (c__law_turns.mono (by decide))
  have c__law_fault : Cal l.prog w K mg base 2 "_law_fault" s__law_fault ["value"] f__law_fault := ok__law_fault (k := 1) T D__law_fault (c__law_is_whole.mono (by decide))
  have c_swapword_error : Cal l.prog w K mg base 3 "swapword_error" s_swapword_error ["value"] f_swapword_error := ok_swapword_error (k := 2) T D_swapword_error (c_are_integers.mono (by decide))
  have c_is_shortest : Cal l.prog w K mg base 3 "is_shortest" s_is_shortest ["word"] f_is_shortest := ok_is_shortest (k := 2) T D_is_shortest (c_order_length.mono (by decide)) (c_word_order.mono (by decide))
  have c_least_word : Cal l.prog w K mg base 3 "least_word" s_least_word ["w"] f_least_word := ok_least_word (k := 2) T D_least_word (c_swapped_order.mono (by decide)) (c_inverse_order.mono (by decide)) (c_short_order.mono (by decide))
  have c__law_up : Cal l.prog w K mg base 3 "_law_up" s__law_up ["bag", "places", "most"] f__law_up := ok__law_up (k := 2) T D__law_up (c__law_pick.mono (by decide))
  have c__law_moved : Cal l.prog w K mg base 3 "_law_moved" s__law_moved ["bag", "word"] f__law_moved := ok__law_moved (k := 2) T D__law_moved (c__law_pick.mono (by decide))
  have c__law_values : Cal l.prog w K mg base 3 "_law_values" s__law_values ["bag", "word", "other"] f__law_values := ok__law_values (k := 2) T D__law_values (c__law_pick.mono (by decide)) (c__law_draw.mono (by decide))
  have c_exchange_place : Cal l.prog w K mg base 4 "exchange_place" s_exchange_place ["word", "a"] f_exchange_place := ok_exchange_place (k := 3) T D_exchange_place (c_word_order.mono (by decide)) (c_is_shortest.mono (by decide))
  have c__law_are_words_right : Cal l.prog w K mg base 4 "_law_are_words_right" s__law_are_words_right ["words"] f__law_are_words_right := ok__law_are_words_right (k := 3) T D__law_are_words_right (c__law_same.mono (by decide)) (c_is_shortest.mono (by decide)) (c__law_turns.mono (by decide)) (c_word_order.mono (by decide)) (c__law_made.mono (by decide))
  have c__law_are_least_right : Cal l.prog w K mg base 4 "_law_are_least_right" s__law_are_least_right ["orders"] f__law_are_least_right := ok__law_are_least_right (k := 3) T D__law_are_least_right (c__law_made.mono (by decide)) (c__law_turns.mono (by decide)) (c_is_shortest.mono (by decide)) (c__law_same.mono (by decide)) (c_least_word.mono (by decide)) (c__law_searched.mono (by decide)) (c__law_stepped.mono (by decide)) (c__law_bare.mono (by decide))
  have c__law_are_faults_right : Cal l.prog w K mg base 4 "_law_are_faults_right" s__law_are_faults_right ["values"] f__law_are_faults_right := ok__law_are_faults_right (k := 3) T D__law_are_faults_right (c__law_same.mono (by decide)) (c_swapword_error.mono (by decide)) (c__law_fault.mono (by decide))
  have c__law_are_exchanges_right : Cal l.prog w K mg base 5 "_law_are_exchanges_right" s__law_are_exchanges_right ["word"] f__law_are_exchanges_right := ok__law_are_exchanges_right (k := 4) T D__law_are_exchanges_right (c__law_same.mono (by decide)) (c_exchange_place.mono (by decide)) (c__law_turns.mono (by decide)) (c__law_made.mono (by decide))
  exact ok_law (k := 5) (kb := 1) T (by decide) (ok__law_bag (k := 0) T D__law_bag hb) (c__law_are_faults_right.mono (by decide)) (c__law_are_words_right.mono (by decide)) (c__law_are_exchanges_right.mono (by decide)) (c__law_are_least_right.mono (by decide)) (c__law_values.mono (by decide)) (c__law_longer.mono (by decide)) (c__law_made.mono (by decide)) (c__law_order.mono (by decide)) (c__law_near.mono (by decide)) (c__law_moved.mono (by decide)) (c__law_up.mono (by decide)) (c__law_draw.mono (by decide)) (c__law_pick.mono (by decide)) (c__law_word.mono (by decide)) hm (fun_mk l35 c35 k35)
end K03
set_option Elab.async false
set_option linter.all false
set_option maxRecDepth 100000
set_option maxHeartbeats 4000000
/-! TL, part 22: evaluating the computations. -/
namespace TL
open PySem L2
section
variable {α β : Type}
@[simp] theorem e_ret (a : α) (w : W) : ret a w = some (a, w) := rfl
@[simp] theorem e_bnd (m : M α) (f : α → M β) (w : W) : bnd m f w = (m w).bind fun p => f p.1 p.2 := by
  unfold bnd
  cases m w <;> rfl
@[simp] theorem e_lft (o : Option α) (w : W) : lft o w = o.map fun a => (a, w) := by
  unfold lft
  cases o <;> rfl
@[simp] theorem e_dvar (i : Nat) (w : W) : dvar i w = (w.r[i]?).bind fun s => match s with
  | .val d => some (.dv d, w)
  | t => if t.mine = true then some (.sl i, w) else none := by
  unfold dvar
  cases w.r[i]? with
  | none => rfl
  | some s => cases s <;> rfl
@[simp] theorem e_lkv (d : D) (w : W) : (R.dv d).look w = some d := rfl
@[simp] theorem e_lks (i : Nat) (w : W) : (R.sl i).look w = (w.r[i]?).bind S.look := by
  show (match w.r[i]? with | some t => t.look | none => none) = _
  cases w.r[i]? <;> rfl
@[simp] theorem e_look1 (d : D) : (S.val d).look = some d := rfl
@[simp] theorem e_look2 (d : List D) : (S.own d).look = some (.list d) := rfl
@[simp] theorem e_frv (d : D) (w : W) : (R.dv d).frz w = some (d, w) := rfl
@[simp] theorem e_frs (i : Nat) (w : W) : (R.sl i).frz w = (w.r[i]?).bind fun s => match s with
  | .val d => some (d, w)
  | t => t.fz.map fun d => (d, { w with r := w.r.set i (.val d) }) := by
  show (match w.r[i]? with | some (.val d) => some (d, w) | some t => (match t.fz with | some d => some (d, { w with r := w.r.set i (.val d) }) | none => none) | none => none) = _
  cases w.r[i]? with
  | none => rfl
  | some s => cases s <;> rfl
@[simp] theorem e_fz1 (ts : List D) : (S.own ts).fz = some (.list ts) := rfl
@[simp] theorem e_mine1 (ts : List D) : (S.own ts).mine = true := rfl
@[simp] theorem e_ofz1 (d : D) : (O.v d).fz = some d := rfl
@[simp] theorem e_ofz2 (s : S) : (O.s s).fz = s.fz := rfl
@[simp] theorem e_fzO (m : M O) (w : W) : fzO m w = (m w).bind fun p => p.1.fz.map fun d => (d, p.2) := by
  simp [fzO]
@[simp] theorem e_fzR (m : M R) (w : W) : fzR m w = (m w).bind fun p => p.1.frz p.2 := by
  simp [fzR]
@[simp] theorem e_opd (m : M D) (w : W) : opd m w = (m w).bind fun p => some (.dv p.1, p.2) := by
  simp [opd]
@[simp] theorem e_end (m : M D) (w : W) : end_ m w = (m w).bind fun p => some (.v p.1, p.2) := by
  simp [end_]
@[simp] theorem e_cst (d : D) (w : W) : cst d w = some (.dv d, w) := rfl
@[simp] theorem e_op2 (f : D → D → Option O) (a b : M R) (w : W) : op2 f a b w = (a w).bind fun p => (b p.2).bind fun q => (p.1.look q.2).bind fun d => (q.1.look q.2).bind fun e => (f d e).map fun o => (o, q.2) := by
  unfold op2
  simp only [e_bnd]
  cases a w with
  | none => rfl
  | some p =>
    simp only [Option.bind_some]
    cases b p.2 with
    | none => rfl
    | some q =>
      simp only [Option.bind_some]
      cases p.1.look q.2 with
      | none => rfl
      | some d =>
        simp only [Option.bind_some]
        cases q.1.look q.2 with
        | none => rfl
        | some e => simp only [Option.bind_some, e_lft]
@[simp] theorem e_op1 (f : D → Option O) (a : M R) (w : W) : op1 f a w = (a w).bind fun p => (p.1.look p.2).bind fun d => (f d).map fun o => (o, p.2) := by
  unfold op1
  simp only [e_bnd]
  cases a w with
  | none => rfl
  | some p =>
    simp only [Option.bind_some]
    cases p.1.look p.2 with
    | none => rfl
    | some d => simp only [Option.bind_some, e_lft]
def boolO : O → Option Bool
  | .v (.bool b) => some b
  | _ => none
@[simp] theorem e_boolO (b : Bool) : boolO (.v (.bool b)) = some b := rfl
@[simp] theorem e_tst (m : M O) (w : W) : tst m w = (m w).bind fun p => (boolO p.1).map fun b => (b, p.2) := by
  unfold tst
  simp only [e_bnd]
  cases m w with
  | none => rfl
  | some p =>
    obtain ⟨o, w'⟩ := p
    cases o with
    | v d => cases d <;> rfl
    | s t => rfl
    | nb b => rfl
@[simp] theorem e_dand (a b : M Bool) (w : W) : dand a b w = (a w).bind fun p => if p.1 = true then b p.2 else some (false, p.2) := by
  unfold dand
  simp only [e_bnd]
  congr 1
  funext p
  split <;> rfl
@[simp] theorem e_dor (a b : M Bool) (w : W) : dor a b w = (a w).bind fun p => if p.1 = true then some (true, p.2) else b p.2 := by
  unfold dor
  simp only [e_bnd]
  congr 1
  funext p
  split <;> rfl
@[simp] theorem e_dnot (a : M Bool) (w : W) : dnot a w = (a w).bind fun p => some (!p.1, p.2) := by
  simp [dnot]
@[simp] theorem e_dif (c : M Bool) (a b : M α) (w : W) : dif c a b w = (c w).bind fun p => if p.1 = true then a p.2 else b p.2 := by
  unfold dif
  simp only [e_bnd]
  congr 1
  funext p
  split <;> rfl
@[simp] theorem e_sif (c : M Bool) (a b : M Out) (w : W) : sif c a b w = (c w).bind fun p => if p.1 = true then a p.2 else b p.2 := by
  unfold sif
  simp only [e_bnd]
  congr 1
  funext p
  split <;> rfl
/-- what comes behind a statement -/
def thenS (b : M Out) (p : Out × W) : Option (Out × W) := match p.1 with
  | .nx => b p.2
  | o => some (o, p.2)
@[simp] theorem e_thenN (b : M Out) (w : W) : thenS b (.nx, w) = b w := rfl
@[simp] theorem e_thenR (b : M Out) (o : O) (w : W) : thenS b (.re o, w) = some (.re o, w) := rfl
@[simp] theorem e_thenB (b : M Out) (w : W) : thenS b (.bk, w) = some (.bk, w) := rfl
@[simp] theorem e_sseq (a b : M Out) (w : W) : sseq a b w = (a w).bind (thenS b) := by
  unfold sseq
  simp only [e_bnd]
  congr 1
  funext p
  obtain ⟨o, w'⟩ := p
  cases o <;> rfl
@[simp] theorem e_snx (w : W) : snx w = some (.nx, w) := rfl
@[simp] theorem e_sret (m : M O) (w : W) : sret m w = (m w).map fun p => (.re p.1, p.2) := by
  unfold sret
  simp only [e_bnd]
  cases m w <;> rfl
def put (i : Nat) (w : W) : O → Option (Out × W)
  | .v d => some (.nx, { w with r := w.r.set i (.val d) })
  | .s t => some (.nx, { w with r := w.r.set i t })
  | .nb _ => none
@[simp] theorem e_putv (i : Nat) (w : W) (d : D) : put i w (.v d) = some (.nx, { w with r := w.r.set i (.val d) }) := rfl
@[simp] theorem e_puts (i : Nat) (w : W) (t : S) : put i w (.s t) = some (.nx, { w with r := w.r.set i t }) := rfl
@[simp] theorem e_sset (i : Nat) (m : M O) (w : W) : sset i m w = (m w).bind fun p => put i p.2 p.1 := by
  unfold sset
  simp only [e_bnd]
  cases m w with
  | none => rfl
  | some p =>
    obtain ⟨o, w'⟩ := p
    cases o <;> rfl
end
section
variable {α : Type}
@[simp] theorem e_sretV (i : Nat) (w : W) : sretV i w = (w.r[i]?).bind fun s => match s with
  | .val d => some (.re (.v d), w)
  | t => if t.mine = true then some (.re (.s t), w) else none := by
  unfold sretV
  cases w.r[i]? with
  | none => rfl
  | some s => cases s <;> rfl
@[simp] theorem e_dcall (sem : Sm) (m : M (List Ar)) (w : W) : dcall sem m w = (m w).bind fun p => (sem p.1 p.2.b).map fun r => (r.1, { p.2 with b := r.2 }) := by
  unfold dcall
  simp only [e_bnd]
  cases m w with
  | none => rfl
  | some p =>
    simp only [Option.bind_some]
    cases sem p.1 p.2.b <;> rfl
@[simp] theorem e_arg (m : M D) (w : W) : arg m w = (m w).bind fun p => some (.p p.1, p.2) := by
  simp [arg]
@[simp] theorem e_argB (i : Nat) (w : W) : argB i w = (w.r[i]?).bind fun s => match s with
  | .bag => some (.bag, w)
  | _ => none := by
  unfold argB
  cases w.r[i]? with
  | none => rfl
  | some s => cases s <;> rfl
@[simp] theorem e_anil (w : W) : anil w = some ([], w) := rfl
@[simp] theorem e_acons (m : M Ar) (r : M (List Ar)) (w : W) : acons m r w = (m w).bind fun p => (r p.2).bind fun q => some (p.1 :: q.1, q.2) := by
  simp [acons]
@[simp] theorem e_rnil (w : W) : rnil w = some ([], w) := rfl
@[simp] theorem e_rcons (m : M R) (r : M (List R)) (w : W) : rcons m r w = (m w).bind fun p => (r p.2).bind fun q => some (p.1 :: q.1, q.2) := by
  simp [rcons]
@[simp] theorem e_onil (w : W) : onil w = some ([], w) := rfl
def noNb : O → Bool
  | .nb _ => false
  | _ => true
@[simp] theorem e_noNb1 (d : D) : noNb (.v d) = true := rfl
@[simp] theorem e_noNb2 (t : S) : noNb (.s t) = true := rfl
@[simp] theorem e_ocons (m : M O) (r : M (List O)) (w : W) : ocons m r w = (m w).bind fun p => if noNb p.1 = true then (r p.2).bind fun q => some (p.1 :: q.1, q.2) else none := by
  unfold ocons
  simp only [e_bnd]
  cases m w with
  | none => rfl
  | some p =>
    obtain ⟨o, w'⟩ := p
    cases o <;> simp [noNb]
@[simp] theorem e_dats0 : dats [] = some [] := rfl
@[simp] theorem e_dats1 (d : D) (r : List Ar) : dats (.p d :: r) = (dats r).map (d :: ·) := by
  rw [dats]
@[simp] theorem e_dtup (m : M (List Ar)) (w : W) : dtup m w = (m w).bind fun p => (dats p.1).bind fun ds => if ds.length ≤ sizeLine then some (.v (.tuple ds), p.2) else none := by
  unfold dtup
  simp only [e_bnd, e_lft]
  cases m w with
  | none => rfl
  | some p =>
    simp only [Option.bind_some]
    cases dats p.1 with
    | none => rfl
    | some ds =>
      simp only [Option.bind_some]
      split <;> rfl
@[simp] theorem e_dlst (m : M (List Ar)) (w : W) : dlst m w = (m w).bind fun p => (dats p.1).bind fun ds => if ds.length ≤ sizeLine then some (.s (.own ds), p.2) else none := by
  unfold dlst
  simp only [e_bnd, e_lft]
  cases m w with
  | none => rfl
  | some p =>
    simp only [Option.bind_some]
    cases dats p.1 with
    | none => rfl
    | some ds =>
      simp only [Option.bind_some]
      split <;> rfl
@[simp] theorem e_looks0 (w : W) : looks w [] = some [] := rfl
@[simp] theorem e_looks1 (w : W) (r : R) (rs : List R) : looks w (r :: rs) = (r.look w).bind fun d => (looks w rs).map (d :: ·) := by
  rw [looks]
  cases r.look w <;> cases looks w rs <;> rfl
@[simp] theorem e_dcl (f : List D → Option O) (m : M (List R)) (w : W) : dcl f m w = (m w).bind fun p => (looks p.2 p.1).bind fun ds => (f ds).map fun o => (o, p.2) := by
  unfold dcl
  simp only [e_bnd]
  cases m w with
  | none => rfl
  | some p =>
    simp only [Option.bind_some]
    cases looks p.2 p.1 with
    | none => rfl
    | some ds => simp only [Option.bind_some, e_lft]
@[simp] theorem e_p1 (f : D → Option O) (d : D) : p1 f [d] = f d := rfl
@[simp] theorem e_p2 (f : D → D → Option O) (d e : D) : p2 f [d, e] = f d e := rfl
@[simp] theorem e_sasg (m : M D) (g : D → M Unit) (w : W) : sasg m g w = (m w).bind fun p => (g p.1 p.2).bind fun q => some (.nx, q.2) := by
  simp [sasg]
@[simp] theorem e_gnm (i : Nat) (d : D) (w : W) : gnm i d w = some ((), { w with r := w.r.set i (.val d) }) := rfl
@[simp] theorem e_gsnil (w : W) : gsnil [] w = some ((), w) := rfl
@[simp] theorem e_gscons (g : D → M Unit) (gs : List D → M Unit) (d : D) (r : List D) (w : W) : gscons g gs (d :: r) w = (g d w).bind fun p => gs r p.2 := by
  simp [gscons]
@[simp] theorem e_gtp (n : Nat) (gs : List D → M Unit) (ds : List D) (w : W) : gtp n gs (.tuple ds) w = if ds.length = n then gs ds w else none := rfl
@[simp] theorem e_gst (i : Nat) (m : M R) (d : D) (w : W) (t0 : List D) (h : w.r[i]? = some (.own t0)) : gst i m d w = (m w).bind fun p => (p.1.look p.2).bind fun k => (p.2.r[i]?).bind fun s => match k, s with
  | .int n, .own ts => (ixN ts.length n).map fun j => ((), { p.2 with r := p.2.r.set i (.own (ts.set j d)) })
  | _, _ => none := by
  unfold gst
  rw [h]
  simp only [e_bnd]
  cases m w with
  | none => rfl
  | some p =>
    simp only [Option.bind_some]
    cases p.1.look p.2 with
    | none => rfl
    | some k =>
      cases p.2.r[i]? with
      | none => cases k <;> rfl
      | some s =>
        simp only [Option.bind_some]
        cases k <;> cases s <;> first | rfl | skip
        rename_i n ts
        show (match ixN ts.length n with | some j => _ | none => none) = Option.map _ (ixN ts.length n)
        cases ixN ts.length n <;> rfl
@[simp] theorem e_sdrop (m : M α) (w : W) : sdrop m w = (m w).bind fun p => some (.nx, p.2) := by
  simp [sdrop]
@[simp] theorem e_dbag1 (i : Nat) (w : W) (h : w.r[i]? = some .bag) : dbag i 1 w = some (.int w.b.2.1, w) := by
  unfold dbag
  rw [h]
  rfl
@[simp] theorem e_dbag2 (i : Nat) (w : W) (h : w.r[i]? = some .bag) : dbag i 2 w = some (.int w.b.2.2, w) := by
  unfold dbag
  rw [h]
  rfl
@[simp] theorem e_dbne (i : Nat) (w : W) (h : w.r[i]? = some .bag) : dbne i w = some (!w.b.1.isEmpty, w) := by
  unfold dbne
  rw [h]
@[simp] theorem e_dbpop (i : Nat) (w : W) (h : w.r[i]? = some .bag) : dbpop i w = (w.b.1[w.b.1.length - 1]?).map fun c => (.int c, { w with b := (w.b.1.dropLast, w.b.2) }) := by
  unfold dbpop
  rw [h]
  simp only
  cases w.b.1[w.b.1.length - 1]? <;> rfl
def intO : D → Option Int
  | .int n => some n
  | _ => none
@[simp] theorem e_intO (n : Int) : intO (.int n) = some n := rfl
@[simp] theorem e_sbag1 (i : Nat) (m : M D) (w : W) : sbag i 1 m w = (m w).bind fun p => (intO p.1).bind fun n => if p.2.r[i]? matches some .bag then some (.nx, { p.2 with b := (p.2.b.1, n, p.2.b.2.2) }) else none := by
  unfold sbag
  simp only [e_bnd]
  cases m w with
  | none => rfl
  | some p =>
    obtain ⟨d, w'⟩ := p
    simp only [Option.bind_some]
    cases e : w'.r[i]? with
    | none => cases d <;> rfl
    | some s => cases d <;> cases s <;> rfl
@[simp] theorem e_sbag2 (i : Nat) (m : M D) (w : W) : sbag i 2 m w = (m w).bind fun p => (intO p.1).bind fun n => if p.2.r[i]? matches some .bag then some (.nx, { p.2 with b := (p.2.b.1, p.2.b.2.1, n) }) else none := by
  unfold sbag
  simp only [e_bnd]
  cases m w with
  | none => rfl
  | some p =>
    obtain ⟨d, w'⟩ := p
    simp only [Option.bind_some]
    cases e : w'.r[i]? with
    | none => cases d <;> rfl
    | some s => cases d <;> cases s <;> rfl
@[simp] theorem e_pno (w : W) : pno w = some (none, w) := rfl
@[simp] theorem e_pso (m : M R) (w : W) : pso m w = (m w).bind fun p => (p.1.look p.2).bind fun d => (intO d).map fun n => (some n, p.2) := by
  unfold pso
  simp only [e_bnd]
  cases m w with
  | none => rfl
  | some p =>
    simp only [Option.bind_some]
    cases p.1.look p.2 with
    | none => rfl
    | some d => cases d <;> rfl
@[simp] theorem e_dsl (m : M R) (lo hi : M (Option Int)) (w : W) : dsl m lo hi w = (m w).bind fun p => (lo p.2).bind fun l => (hi l.2).bind fun h => (p.1.look h.2).bind fun d => (pSl d l.1 h.1).map fun o => (o, h.2) := by
  unfold dsl
  simp only [e_bnd]
  cases m w with
  | none => rfl
  | some p =>
    simp only [Option.bind_some]
    cases lo p.2 with
    | none => rfl
    | some l =>
      simp only [Option.bind_some]
      cases hi l.2 with
      | none => rfl
      | some h =>
        simp only [Option.bind_some]
        cases p.1.look h.2 with
        | none => rfl
        | some d => simp only [Option.bind_some, e_lft]
@[simp] theorem e_dandV (a b : M D) (w : W) : dandV a b w = (a w).bind fun p => (truD p.1).bind fun t => if t = true then b p.2 else some (p.1, p.2) := by
  unfold dandV
  simp only [e_bnd]
  cases a w with
  | none => rfl
  | some p =>
    simp only [Option.bind_some]
    cases truD p.1 with
    | none => rfl
    | some t => cases t <;> rfl
@[simp] theorem e_disi (f : D → Bool) (m : M R) (w : W) : disi f m w = (m w).bind fun p => (p.1.look p.2).map fun d => (.bool (f d), p.2) := by
  unfold disi
  simp only [e_bnd]
  cases m w with
  | none => rfl
  | some p =>
    simp only [Option.bind_some]
    cases p.1.look p.2 <;> rfl
@[simp] theorem e_dtr (m : M R) (w : W) : dtr m w = (m w).bind fun p => (p.1.look p.2).bind fun d => (truD d).map fun b => (b, p.2) := by
  unfold dtr
  simp only [e_bnd]
  cases m w with
  | none => rfl
  | some p =>
    simp only [Option.bind_some]
    cases p.1.look p.2 with
    | none => rfl
    | some d =>
      simp only [Option.bind_some]
      cases truD d <;> rfl
@[simp] theorem e_dnotV (m : M R) (w : W) : dnotV m w = (dtr m w).bind fun p => some (.v (.bool (!p.1)), p.2) := by
  unfold dnotV
  simp only [e_bnd, e_ret]
theorem e_drg1 (f : List D → O) (m : M D) (w : W) : drg1 f m w = (m w).bind fun p => (intO p.1).bind fun n => (rgl f 0 n).map fun o => (o, p.2) := by
  unfold drg1
  simp only [e_bnd, e_lft]
  cases m w with
  | none => rfl
  | some p =>
    obtain ⟨d, w'⟩ := p
    cases d <;> rfl
theorem e_drg2 (f : List D → O) (m1 m2 : M D) (w : W) : drg2 f m1 m2 w = (m1 w).bind fun p => (m2 p.2).bind fun q => (intO p.1).bind fun a => (intO q.1).bind fun b => (rgl f a b).map fun o => (o, q.2) := by
  unfold drg2
  simp only [e_bnd, e_lft]
  cases m1 w with
  | none => rfl
  | some p =>
    simp only [Option.bind_some]
    cases m2 p.2 with
    | none => rfl
    | some q =>
      obtain ⟨d, w'⟩ := p
      obtain ⟨e, w''⟩ := q
      cases d <;> cases e <;> rfl
def lstO : D → Option (List D)
  | .list xs => some xs
  | _ => none
@[simp] theorem e_lstO (xs : List D) : lstO (.list xs) = some xs := rfl
@[simp] theorem e_drevO (f : List D → O) (m : M R) (w : W) : drevO f m w = (m w).bind fun p => (p.1.look p.2).bind fun d => (lstO d).map fun xs => (f xs.reverse, p.2) := by
  unfold drevO
  simp only [e_bnd]
  cases m w with
  | none => rfl
  | some p =>
    simp only [Option.bind_some]
    cases p.1.look p.2 with
    | none => rfl
    | some d => cases d <;> rfl
def enumO : D → Option (List D)
  | .list xs => some (enumD 0 xs)
  | .tuple xs => some (enumD 0 xs)
  | _ => none
@[simp] theorem e_enumO1 (xs : List D) : enumO (.list xs) = some (enumD 0 xs) := rfl
@[simp] theorem e_enumO2 (xs : List D) : enumO (.tuple xs) = some (enumD 0 xs) := rfl
@[simp] theorem e_denum (m : M D) (w : W) : denum m w = (m w).bind fun p => (enumO p.1).map fun xs => (xs, p.2) := by
  unfold denum
  simp only [e_bnd, e_lft]
  cases m w with
  | none => rfl
  | some p =>
    obtain ⟨d, w'⟩ := p
    cases d <;> rfl
@[simp] theorem e_dval (m : M D) (w : W) : dval m w = (m w).bind fun p => (itemsD p.1).map fun xs => (xs, p.2) := by
  unfold dval
  simp only [e_bnd, e_lft]
theorem e_dits (f : List Ar → Option (List D)) (m : M (List Ar)) (w : W) : dits f m w = (m w).bind fun p => (f p.1).map fun xs => (xs, p.2) := by
  unfold dits
  simp only [e_bnd, e_lft]
@[simp] theorem e_sfor (m : M (List D)) (g : D → M Unit) (b : M Out) (w : W) : sfor m g b w = (m w).bind fun p => fors g b p.1 p.2 := by
  unfold sfor
  simp only [e_bnd]
@[simp] theorem e_sto1 (i : Nat) (d : D) (w : W) : sto i (.v d) w = some { w with r := w.r.set i (.val d) } := rfl
@[simp] theorem e_sto2 (i : Nat) (t : S) (w : W) : sto i (.s t) w = some { w with r := w.r.set i t } := rfl
def twoO : List O → Option (O × O)
  | [a, b] => some (a, b)
  | _ => none
@[simp] theorem e_twoO (a b : O) : twoO [a, b] = some (a, b) := rfl
@[simp] theorem e_spar2 (i j : Nat) (m : M (List O)) (w : W) : spar2 i j m w = (m w).bind fun p => (twoO p.1).bind fun o => (sto i o.1 p.2).bind fun w1 => (sto j o.2 w1).map fun w2 => (.nx, w2) := by
  unfold spar2
  simp only [e_bnd]
  cases m w with
  | none => rfl
  | some p =>
    obtain ⟨os, w'⟩ := p
    match os with
    | [] => rfl
    | [a] => rfl
    | [a, b] => rfl
    | a :: b :: c :: r => rfl
@[simp] theorem e_kwm (π : List Nat) (m m' : M (List Ar)) (w : W) : kwm π m m' w = (m w).bind fun p => (m' p.2).bind fun q => some (perm π (p.1 ++ q.1), q.2) := by
  simp [kwm]
theorem e_dmt (kd : S → Bool) (i : Nat) (f : Mth) (m : M (List Ar)) (w : W) (s0 : S) (h : w.r[i]? = some s0) (h0 : kd s0 = true) : dmt kd i f m w = (m w).bind fun p => (p.2.r[i]?).bind fun s => (dats p.1).bind fun ds => (f s ds).map fun q => (q.1, { p.2 with r := p.2.r.set i q.2 }) := by
  unfold dmt
  rw [h]
  simp only [h0, if_true, e_bnd]
  cases m w with
  | none => rfl
  | some p =>
    simp only [Option.bind_some]
    cases p.2.r[i]? with
    | none => cases dats p.1 <;> rfl
    | some s =>
      cases dats p.1 with
      | none => rfl
      | some ds =>
        simp only [Option.bind_some]
        cases f s ds with
        | none => rfl
        | some q => rfl
@[simp] theorem e_dmtL (i : Nat) (f : Mth) (m : M (List Ar)) (w : W) (ts : List D) (h : w.r[i]? = some (.own ts)) : dmt kL i f m w = (m w).bind fun p => (p.2.r[i]?).bind fun s => (dats p.1).bind fun ds => (f s ds).map fun q => (q.1, { p.2 with r := p.2.r.set i q.2 }) := e_dmt kL i f m w _ h rfl
end
/-! ### operations on what they are met with -/
@[simp] theorem p_addI (i j : Int) : pAdd (.int i) (.int j) = some (.v (.int (i + j))) := rfl
@[simp] theorem p_addT (xs ys : List D) (h : xs.length + ys.length ≤ sizeLine) : pAdd (.tuple xs) (.tuple ys) = some (.v (.tuple (xs ++ ys))) := by
  have e : pAddT (.tuple xs) (.tuple ys) = some (.v (.tuple (xs ++ ys))) := by
    unfold pAddT
    simp [h]
  show (match pAddT (.tuple xs) (.tuple ys) with | some o => some o | none => orF pAddL pAddS (.tuple xs) (.tuple ys)) = _
  rw [e]
@[simp] theorem p_addL (xs ys : List D) (h : xs.length + ys.length ≤ sizeLine) : pAdd (.list xs) (.list ys) = some (.s (.own (xs ++ ys))) := by
  have e : pAddL (.list xs) (.list ys) = some (.s (.own (xs ++ ys))) := by
    unfold pAddL
    simp [h]
  show (match pAddL (.list xs) (.list ys) with | some o => some o | none => pAddS (.list xs) (.list ys)) = _
  rw [e]
@[simp] theorem p_sub (i j : Int) : pSub (.int i) (.int j) = some (.v (.int (i - j))) := rfl
@[simp] theorem p_mulI (i j : Int) (h : cMul i j = true) : pMul (.int i) (.int j) = some (.v (.int (i * j))) := by
  unfold pMul orF pMulI
  show (match pII (gI cMul fun i j => i * j) (.int i) (.int j) with | some o => some o | none => _) = _
  show (match gI cMul (fun i j => i * j) i j with | some o => some o | none => _) = _
  unfold gI
  rw [if_pos h]
@[simp] theorem p_mod (i j : Int) (h : 0 < j) : pMod (.int i) (.int j) = some (.v (.int (i % j))) := by
  show gI cMod (fun i j => i % j) i j = _
  unfold gI cMod
  rw [if_pos (decide_eq_true h)]
@[simp] theorem p_fdiv (i j : Int) (h : 0 < j ∧ j < 1073741824) : pFdiv (.int i) (.int j) = some (.v (.int (i / j))) := by
  show gI cDiv (fun i j => i / j) i j = _
  unfold gI cDiv
  rw [if_pos (decide_eq_true h)]
@[simp] theorem p_eqI (i j : Int) : pEq (.int i) (.int j) = some (.v (.bool (i == j))) := rfl
@[simp] theorem p_neI (i j : Int) : pNe (.int i) (.int j) = some (.v (.bool (!(i == j)))) := rfl
@[simp] theorem p_gtI (i j : Int) : pGtI (.int i) (.int j) = some (.v (.bool (decide (j < i)))) := rfl
@[simp] theorem p_geI (i j : Int) : pGeI (.int i) (.int j) = some (.v (.bool (decide (j ≤ i)))) := rfl
@[simp] theorem p_leI (i j : Int) : pLeI (.int i) (.int j) = some (.v (.bool (decide (i ≤ j)))) := rfl
@[simp] theorem p_ltI (i j : Int) : pLt (.int i) (.int j) = some (.v (.bool (decide (i < j)))) := rfl
@[simp] theorem p_int (i : Int) : pInt (.int i) = some (.v (.int i)) := rfl
@[simp] theorem p_lenL (xs : List D) : pLen (.list xs) = some (.v (.int xs.length)) := rfl
@[simp] theorem p_lenT (xs : List D) : pLen (.tuple xs) = some (.v (.int xs.length)) := rfl
@[simp] theorem p_listL (xs : List D) : pList (.list xs) = some (.s (.own xs)) := rfl
@[simp] theorem p_listT (xs : List D) : pList (.tuple xs) = some (.s (.own xs)) := rfl
@[simp] theorem p_tupL (xs : List D) : pTuple (.list xs) = some (.v (.tuple xs)) := rfl
@[simp] theorem p_tupT (xs : List D) : pTuple (.tuple xs) = some (.v (.tuple xs)) := rfl
@[simp] theorem p_ixL (xs : List D) (i : Int) : pIx (.list xs) (.int i) = (atI xs i).map .v := rfl
@[simp] theorem p_ixT (xs : List D) (i : Int) : pIx (.tuple xs) (.int i) = (atI xs i).map .v := rfl
@[simp] theorem p_slL (xs : List D) (lo hi : Option Int) : pSl (.list xs) lo hi = some (.s (.own (cutL xs lo hi))) := rfl
@[simp] theorem p_slT (xs : List D) (lo hi : Option Int) : pSl (.tuple xs) lo hi = some (.v (.tuple (cutL xs lo hi))) := rfl
@[simp] theorem t_bool (b : Bool) : truD (.bool b) = some b := rfl
@[simp] theorem p_abs (i : Int) : pAbs (.int i) = some (.v (.int (if i < 0 then -i else i))) := rfl
@[simp] theorem p_pow910 : pPow (.int 10) (.int 9) = some (.v (.int 1000000000)) := by kernel_rfl
theorem atI_at {α : Type} {xs : List α} {n : Nat} {d : α} (h : xs[n]? = some d) : atI xs (n : Int) = some d := atI_nat h
/-! ### loops -/
/-- while -/
theorem whl_gen {c : M Bool} {b : M Out} {P : Nat → W → Prop} {Q : Out → W → Prop}
    (h : ∀ m w, P m w → (∃ w1, c w = some (false, w1) ∧ Q .nx w1) ∨ ∃ w1 o w2, c w = some (true, w1) ∧ b w1 = some (o, w2) ∧ (match o with
      | .nx => ∃ m', m' < m ∧ P m' w2
      | .ct => ∃ m', m' < m ∧ P m' w2
      | .bk => Q .nx w2
      | .re r => Q (.re r) w2)) : ∀ n m w, m < n → P m w → ∃ o w', whl c b n w = some (o, w') ∧ Q o w'
  | 0, m, w, hn, _ => absurd hn (Nat.not_lt_zero _)
  | n + 1, m, w, hn, hp => by
    rcases h m w hp with ⟨w1, e1, q⟩ | ⟨w1, o, w2, e1, e2, q⟩
    · refine ⟨.nx, w1, ?_, q⟩
      unfold whl
      simp [e1]
    · have step : whl c b (n + 1) w = (match o with
          | .nx => whl c b n w2
          | .ct => whl c b n w2
          | .bk => some (.nx, w2)
          | .re r => some (.re r, w2)) := by
        rw [whl]
        simp only [e_bnd, e1, Option.bind_some, if_true, e2]
        cases o <;> rfl
      rw [step]
      cases o with
      | nx =>
        obtain ⟨m', hm, hp'⟩ := q
        exact whl_gen h n m' w2 (by omega) hp'
      | ct =>
        obtain ⟨m', hm, hp'⟩ := q
        exact whl_gen h n m' w2 (by omega) hp'
      | bk => exact ⟨.nx, w2, rfl, q⟩
      | re r => exact ⟨.re r, w2, rfl, q⟩
/-- for -/
theorem fors_gen {g : D → M Unit} {b : M Out} {P : List D → W → Prop} {Q : Out → W → Prop} (h0 : ∀ w, P [] w → Q .nx w)
    (h : ∀ d ds w, P (d :: ds) w → ∃ w1 o w2, g d w = some ((), w1) ∧ b w1 = some (o, w2) ∧ (match o with
      | .nx => P ds w2
      | .ct => P ds w2
      | .bk => Q .nx w2
      | .re r => Q (.re r) w2)) : ∀ ds w, P ds w → ∃ o w', fors g b ds w = some (o, w') ∧ Q o w'
  | [], w, hp => ⟨.nx, w, rfl, h0 w hp⟩
  | d :: ds, w, hp => by
    obtain ⟨w1, o, w2, e1, e2, q⟩ := h d ds w hp
    have step : fors g b (d :: ds) w = (match o with
        | .nx => fors g b ds w2
        | .ct => fors g b ds w2
        | .bk => some (.nx, w2)
        | .re r => some (.re r, w2)) := by
      rw [fors]
      simp only [e_bnd, e1, Option.bind_some, e2]
      cases o <;> rfl
    rw [step]
    cases o with
    | nx => exact fors_gen h0 h ds w2 q
    | ct => exact fors_gen h0 h ds w2 q
    | bk => exact ⟨.nx, w2, rfl, q⟩
    | re r => exact ⟨.re r, w2, rfl, q⟩
/-- for, each turn ending as it should: the state is a function of what was walked -/
theorem fors_fold {g : D → M Unit} {b : M Out} {σ : Type} {enc : σ → W} {f : σ → D → σ} {ok : D → σ → Prop} (h : ∀ d s, ok d s → ∃ w1, g d (enc s) = some ((), w1) ∧ b w1 = some (.nx, enc (f s d))) :
    ∀ ds s, (∀ (l r : List D) (d : D), ds = l ++ d :: r → ok d (l.foldl f s)) → fors g b ds (enc s) = some (.nx, enc (ds.foldl f s))
  | [], s, _ => rfl
  | d :: ds, s, hk => by
    obtain ⟨w1, e1, e2⟩ := h d s (hk [] ds d rfl)
    rw [fors]
    simp only [e_bnd, e1, Option.bind_some, e2]
    exact fors_fold h ds (f s d) fun l r x e => hk (d :: l) r x (by rw [e]; rfl)
/-- a comprehension, state by state -/
theorem lcm_gen {vs : List Nat} {g : D → M Unit} {t : M Bool} {e : M D} {P : List D → List D → W → Prop} (hl : ∀ ds acc w, P ds acc w → acc.length + ds.length ≤ sizeLine)
    (h : ∀ d ds acc w, P (d :: ds) acc w → ∃ w1 w2, g d { w with r := wipA vs 0 w.r } = some ((), w1) ∧ ((t w1 = some (false, w2) ∧ P ds acc w2) ∨ ∃ x w3, t w1 = some (true, w2) ∧ e w2 = some (x, w3) ∧ P ds (acc ++ [x]) w3)) :
    ∀ ds acc w, P ds acc w → ∃ acc' w', lcm vs g t e ds acc w = some (acc', w') ∧ P [] acc' w'
  | [], acc, w, hp => ⟨acc, w, rfl, hp⟩
  | d :: ds, acc, w, hp => by
    have hlen := hl _ _ _ hp
    rw [List.length_cons] at hlen
    obtain ⟨w1, w2, e1, q⟩ := h d ds acc w hp
    rw [lcm]
    rcases q with ⟨e2, q⟩ | ⟨x, w3, e2, e3, q⟩
    · simp only [e_bnd, e1, Option.bind_some, e2]
      exact lcm_gen hl h ds acc w2 q
    · simp only [e_bnd, e1, Option.bind_some, e2, if_true, e3]
      rw [if_pos (by omega)]
      exact lcm_gen hl h ds (acc ++ [x]) w3 q
/-! ### slices, ints -/
theorem cut_to {α : Type} (xs : List α) (n : Nat) : cutL xs none (some (n : Int)) = xs.take n := by
  unfold cutL
  rw [HT.sIx_none, HT.sIx_nat, List.drop_zero, Nat.sub_zero, ← List.take_take, List.take_length]
theorem cut_from {α : Type} (xs : List α) (n : Nat) : cutL xs (some (n : Int)) none = xs.drop n := by
  unfold cutL
  rw [HT.sIx_none, HT.sIx_nat]
  by_cases h : n ≤ xs.length
  · rw [Nat.min_eq_left h]
    exact List.take_of_length_le (by rw [List.length_drop]; exact Nat.le_refl _)
  · rw [Nat.min_eq_right (show xs.length ≤ n by omega), List.drop_eq_nil_of_le (Nat.le_refl _), List.drop_eq_nil_of_le (show xs.length ≤ n by omega), List.take_nil]
theorem cut_last {α : Type} (xs : List α) : cutL xs none (some (-1)) = xs.dropLast := by
  unfold cutL
  rw [HT.sIx_none, List.drop_zero, Nat.sub_zero, List.dropLast_eq_take]
  congr 1
  show (if (-1 : Int) < 0 then ((-1 : Int) + (xs.length : Int)).toNat else min (-1 : Int).toNat xs.length) = _
  rw [if_pos (by omega)]
  omega
theorem cut_mid {α : Type} (xs : List α) (a b : Nat) : cutL xs (some (a : Int)) (some (b : Int)) = (xs.take b).drop a := by
  unfold cutL
  rw [HT.sIx_nat, HT.sIx_nat]
  by_cases h : a ≤ xs.length
  · rw [Nat.min_eq_left h, List.drop_take]
    by_cases h2 : b ≤ xs.length
    · rw [Nat.min_eq_left h2]
    · rw [Nat.min_eq_right (by omega), List.take_of_length_le (by rw [List.length_drop]; exact Nat.le_refl _), List.take_of_length_le (by rw [List.length_drop]; omega)]
  · rw [Nat.min_eq_right (show xs.length ≤ a by omega), List.drop_eq_nil_of_le (Nat.le_refl _), List.take_nil, List.drop_eq_nil_of_le (by rw [List.length_take]; omega)]
def bagO : List O → Option O
  | [.s (.own ts), .v (.int i), .v (.int j)] => (intsOf ts).map fun ns => .nb (ns, i, j)
  | _ => none
@[simp] theorem e_bagO (ns : List Int) (i j : Int) : bagO [.s (.own (ns.map .int)), .v (.int i), .v (.int j)] = some (.nb (ns, i, j)) := by
  show (intsOf (ns.map PyData.int)).map _ = _
  rw [intsOf_map]
  rfl
@[simp] theorem e_dbagO (m : M (List O)) (w : W) : dbagO m w = (m w).bind fun p => (bagO p.1).map fun o => (o, p.2) := by
  unfold dbagO
  simp only [e_bnd, e_lft]
  cases m w with
  | none => rfl
  | some p =>
    simp only [Option.bind_some]
    congr 1
@[simp] theorem i_list (xs : List D) : itemsD (.list xs) = some xs := rfl
@[simp] theorem i_tup (xs : List D) : itemsD (.tuple xs) = some xs := rfl
theorem ixN_lt {n k : Nat} (h : k < n) : ixN n (k : Int) = some k := by
  unfold ixN
  rw [if_pos (by omega), if_pos (by omega), Int.toNat_natCast]
theorem ixN_lt1 {n k : Nat} (h : k + 1 < n) : ixN n ((k : Int) + 1) = some (k + 1) := by
  have := ixN_lt h
  rwa [Int.natCast_add] at this
theorem atI_at1 {α : Type} {xs : List α} {n : Nat} {d : α} (h : xs[n + 1]? = some d) : atI xs ((n : Int) + 1) = some d := by
  have := atI_at h
  rwa [Int.natCast_add] at this
theorem e_gsl (i : Nat) (lo hi : M (Option Int)) (us t0 : List D) (w : W) (h : w.r[i]? = some (.own t0)) : gsl i lo hi (.list us) w = (lo w).bind fun p => (hi p.2).bind fun q => p.1.bind fun a => q.1.bind fun c => (q.2.r[i]?).bind fun s => match s with
  | .own ts => if 0 ≤ a ∧ a ≤ c ∧ c ≤ ts.length ∧ ts.length + us.length ≤ sizeLine then some ((), { q.2 with r := q.2.r.set i (.own (ts.take a.toNat ++ us ++ ts.drop c.toNat)) }) else none
  | _ => none := by
  unfold gsl
  rw [h]
  simp only [e_bnd]
  cases lo w with
  | none => rfl
  | some p =>
    obtain ⟨a, w1⟩ := p
    simp only [Option.bind_some]
    cases hi w1 with
    | none => rfl
    | some q =>
      obtain ⟨c, w2⟩ := q
      simp only [Option.bind_some]
      cases a with
      | none => rfl
      | some a =>
        cases c with
        | none => rfl
        | some c =>
          simp only [Option.bind_some]
          cases e : w2.r[i]? with
          | none => rfl
          | some s => cases s <;> rfl
theorem e_dlc (vs : List Nat) (mi : M (List D)) (g : D → M Unit) (t : M Bool) (e : M D) (w : W) : dlc vs mi g t e w = (mi w).bind fun p => if okA vs 0 p.2.r = true then (lcm vs g t e p.1 [] p.2).map fun q => (.s (.own q.1), { q.2 with r := resA vs 0 p.2.r q.2.r }) else none := by
  unfold dlc
  simp only [e_bnd]
  cases mi w with
  | none => rfl
  | some p =>
    simp only [Option.bind_some]
    split
    · cases lcm vs g t e p.1 [] p.2 <;> rfl
    · rfl
theorem res_wip {vs : List Nat} {r0 r : List S} (h : wipA vs 0 r = wipA vs 0 r0) : resA vs 0 r0 r = r0 := by
  have hl : r0.length = r.length := by
    have := congrArg List.length h
    rw [wipA_len, wipA_len] at this
    exact this.symm
  apply List.ext_getElem?
  intro i
  rw [resA_get vs 0 r0 r i hl, Nat.zero_add]
  split
  · rfl
  · rename_i hc
    have := congrArg (fun l => l[i]?) h
    simp only [wipA_get, Nat.zero_add, if_neg hc] at this
    cases h1 : r[i]? with
    | none =>
      rw [h1] at this
      cases h2 : r0[i]? with
      | none => rfl
      | some z =>
        rw [h2] at this
        cases this
    | some y =>
      rw [h1] at this
      cases h2 : r0[i]? with
      | none =>
        rw [h2] at this
        cases this
      | some z =>
        rw [h2] at this
        exact this
theorem lcm_cons (vs : List Nat) (g : D → M Unit) (t : M Bool) (e : M D) (d : D) (ds acc : List D) (w : W) : lcm vs g t e (d :: ds) acc w = bnd (g d) (fun _ => bnd t fun c => if c = true then bnd e fun x => if acc.length < sizeLine then lcm vs g t e ds (acc ++ [x]) else stk else lcm vs g t e ds acc) ⟨wipA vs 0 w.r, w.b⟩ := rfl
/-- a comprehension that changes nothing -/
theorem lcm_pure {vs : List Nat} {g : D → M Unit} {t : M Bool} {e : M D} {w1 : W} (f : D → Option D) : ∀ (its acc : List D) (w : W), acc.length + its.length ≤ sizeLine → wipA vs 0 w.r = wipA vs 0 w1.r → w.b = w1.b →
    (∀ d ∈ its, ∃ w3 w4, g d ⟨wipA vs 0 w1.r, w1.b⟩ = some ((), w3) ∧ ((t w3 = some (false, w4) ∧ f d = none ∧ wipA vs 0 w4.r = wipA vs 0 w1.r ∧ w4.b = w1.b) ∨ ∃ x w5, t w3 = some (true, w4) ∧ e w4 = some (x, w5) ∧ f d = some x ∧ wipA vs 0 w5.r = wipA vs 0 w1.r ∧ w5.b = w1.b)) →
    ∃ w', lcm vs g t e its acc w = some (acc ++ its.filterMap f, w') ∧ wipA vs 0 w'.r = wipA vs 0 w1.r ∧ w'.b = w1.b
  | [], acc, w, _, h1, h2, _ => ⟨w, by rw [List.filterMap_nil, List.append_nil]; rfl, h1, h2⟩
  | d :: its, acc, w, hl, h1, h2, h => by
    rw [List.length_cons] at hl
    obtain ⟨w3, w4, e1, q⟩ := h d List.mem_cons_self
    rw [lcm_cons, h1, h2]
    rcases q with ⟨e2, ef, q1, q2⟩ | ⟨x, w5, e2, e3, ef, q1, q2⟩
    · simp only [e_bnd, e1, Option.bind_some, e2]
      obtain ⟨w', z1, z2, z3⟩ := lcm_pure f its acc w4 (by omega) q1 q2 fun d hd => h d (List.mem_cons_of_mem _ hd)
      refine ⟨w', ?_, z2, z3⟩
      rw [List.filterMap_cons_none ef]
      exact z1
    · simp only [e_bnd, e1, Option.bind_some, e2, if_true, e3]
      rw [if_pos (by omega)]
      obtain ⟨w', z1, z2, z3⟩ := lcm_pure f its (acc ++ [x]) w5 (by rw [List.length_append]; simp only [List.length_cons, List.length_nil]; omega) q1 q2 fun d hd => h d (List.mem_cons_of_mem _ hd)
      refine ⟨w', ?_, z2, z3⟩
      rw [List.filterMap_cons_some ef, z1, List.append_assoc]
      rfl
theorem dlc_pure {vs : List Nat} {mi : M (List D)} {g : D → M Unit} {t : M Bool} {e : M D} {w w1 : W} {its : List D} (f : D → Option D) (hm : mi w = some (its, w1)) (ok : okA vs 0 w1.r = true) (hl : its.length ≤ sizeLine)
    (h : ∀ d ∈ its, ∃ w3 w4, g d ⟨wipA vs 0 w1.r, w1.b⟩ = some ((), w3) ∧ ((t w3 = some (false, w4) ∧ f d = none ∧ wipA vs 0 w4.r = wipA vs 0 w1.r ∧ w4.b = w1.b) ∨ ∃ x w5, t w3 = some (true, w4) ∧ e w4 = some (x, w5) ∧ f d = some x ∧ wipA vs 0 w5.r = wipA vs 0 w1.r ∧ w5.b = w1.b)) :
    dlc vs mi g t e w = some (.s (.own (its.filterMap f)), w1) := by
  obtain ⟨w', e1, e2, e3⟩ := lcm_pure f its [] w1 (by simpa using hl) rfl rfl h
  rw [e_dlc, hm]
  simp only [Option.bind_some, ok, if_true, e1, Option.map_some, List.nil_append]
  rw [res_wip e2, e3]
theorem rng1_ok {j : Int} (h1 : 0 ≤ j) (h2 : j ≤ 1000000) : rng1 [.p (.int j)] = some (rngD 0 j.toNat) := by
  have g : -(2 ^ 62) ≤ j ∧ j < 2 ^ 62 := ⟨by omega, by omega⟩
  unfold rng1
  simp only [g, and_self, if_true]
theorem rng2_ok {i j : Int} (h1 : 0 ≤ i) (h2 : i ≤ 1000000) (h3 : 0 ≤ j) (h4 : j ≤ 1000000) : rng2 [.p (.int i), .p (.int j)] = some (rngD i (j - i).toNat) := by
  have g : -(2 ^ 62) ≤ i ∧ i < 2 ^ 62 ∧ -(2 ^ 62) ≤ j ∧ j < 2 ^ 62 := ⟨by omega, by omega, by omega, by omega⟩
  unfold rng2
  simp only [g, and_self, if_true]
theorem f_append {ts : List D} {d : D} (h : ts.length < sizeLine) : fAppend (.own ts) [d] = some (.none, .own (ts ++ [d])) := if_pos h
theorem f_extend {ts us : List D} (h : ts.length + us.length ≤ sizeLine) : fExtend (.own ts) [.list us] = some (.none, .own (ts ++ us)) := if_pos h
theorem f_pop {ts : List D} {d : D} : fPop (.own (ts ++ [d])) [] = some (d, .own ts) := by
  show (((ts ++ [d])[(ts ++ [d]).length - 1]?).map fun x => (x, S.own (ts ++ [d]).dropLast)) = _
  simp
theorem dits_of {f : List Ar → Option (List D)} {m : M (List Ar)} {w w1 : W} {as : List Ar} {xs : List D} (h : m w = some (as, w1)) (h2 : f as = some xs) : dits f m w = some (xs, w1) := by
  rw [e_dits, h, Option.bind_some, h2, Option.map_some]
/-- for i in range(n), the bound small -/
theorem dits1 {m : M (List Ar)} {w w1 : W} {n : Nat} (h : m w = some ([.p (.int (n : Int))], w1)) (hn : n ≤ 1000000) : dits rng1 m w = some (rngD ((0 : Nat) : Int) n, w1) := by
  have z := dits_of h (rng1_ok (j := (n : Int)) (by omega) (by omega))
  rwa [Int.toNat_natCast] at z
theorem dits2 {m : M (List Ar)} {w w1 : W} {a n : Nat} (h : m w = some ([.p (.int (a : Int)), .p (.int ((a + n : Nat) : Int))], w1)) (hn : a + n ≤ 1000000) : dits rng2 m w = some (rngD (a : Int) n, w1) := by
  have z := dits_of h (rng2_ok (i := (a : Int)) (j := ((a + n : Nat) : Int)) (by omega) (by omega) (by omega) (by omega))
  rwa [show (((a + n : Nat) : Int) - (a : Int)).toNat = n by omega] at z
/-! ### a def's run -/
def finS : Option (Out × W) → Option (O × Bg)
  | some (.re o, w') => some (o, w'.b)
  | some (.nx, w') => some (.v .none, w'.b)
  | _ => none
@[simp] theorem e_finR (o : O) (w : W) : finS (some (.re o, w)) = some (o, w.b) := rfl
@[simp] theorem e_finN (w : W) : finS (some (.nx, w)) = some (.v .none, w.b) := rfl
/-- a def's run: begin with this (unfolding f on its arguments makes the kernel run it) -/
theorem run {n N : Nat} {m : M Out} {as : List Ar} {b : Bg} {w : List S} {r : Option (O × Bg)} (h : as.length = n) (hw : as.map slotOf ++ List.replicate (N - as.length) .un = w) (e : finS (m ⟨w, b⟩) = r) : defF n N m as b = r := by
  unfold defF
  rw [if_pos h]
  subst hw
  rw [← e]
  unfold semF finS
  rfl
end TL
set_option Elab.async false
set_option linter.all false
set_option maxRecDepth 100000
set_option maxHeartbeats 4000000
set_option pp.maxSteps 3000
namespace K03
open PySem L2 TL
/-! ### the bag -/
def BgOk (b : Bg) : Prop := b.1.length ≤ 63 ∧ 0 ≤ b.2.2 ∧ b.2.2 < 2147483647
theorem nil_or_snoc {α : Type} (l : List α) : l = [] ∨ ∃ a x, l = a ++ [x] := by
  rcases l.eq_nil_or_concat with h | ⟨a, x, h⟩
  · exact .inl h
  · exact .inr ⟨a, x, by rw [h, List.concat_eq_append]⟩
theorem draw_ok {b : Bg} {n : Int} (hb : BgOk b) (h0 : 0 < n) (h1 : n < 1073741824) : ∃ r b', f__law_draw [.bag, .p (.int n)] b = some (.v (.int r), b') ∧ 0 ≤ r ∧ r < n ∧ BgOk b' := by
  unfold f__law_draw defF semF m__law_draw
  simp only [List.length_cons, List.length_nil, if_true, List.map_cons, List.map_nil, slotOf, e_sseq]
  have loop := whl_gen (c := (dand (tst (op2 pEq (opd (dbag 0 1)) (cst (.int 0)))) (dbne 0))) (b := (sseq (sset 2 (end_ (dbpop 0)))
      (sbag 0 1 (fzO (dif (tst (op2 pGtI (dvar 2) (opd (fzO (op2 pPow (cst (.int 10)) (cst (.int 9))))))) (end_ (fzR (dvar 2))) (end_ (fzR (cst (.int 0)))))))))
      (P := fun m w => ∃ x y, w.r = [.bag, .val (.int n), x, y] ∧ BgOk w.b ∧ w.b.1.length = m) (Q := fun o w => o = .nx ∧ ∃ x y, w.r = [.bag, .val (.int n), x, y] ∧ BgOk w.b) ?_
  · obtain ⟨o, ⟨r, b2⟩, e, rfl, x, y, er, hb2⟩ := loop 200 b.1.length ⟨[.bag, .val (.int n), .un, .un], b⟩ (by have := hb.1; omega) ⟨.un, .un, rfl, hb, rfl⟩
    simp only at er
    subst er
    rw [show List.replicate 2 S.un = [.un, .un] from rfl]
    simp only [List.cons_append, List.nil_append]
    rw [e]
    obtain ⟨c, rest, mx⟩ := b2
    obtain ⟨q1, q2, q3⟩ := hb2
    simp only at q1 q2 q3
    by_cases hr : 0 < rest
    · exact ⟨rest % n, (c, rest / n, mx), by simp [hr, h0, h1], Int.emod_nonneg _ (by omega), Int.emod_lt_of_pos _ h0, q1, q2, q3⟩
    · have m0 : 0 ≤ (mx * 48271 + 11) % 2147483647 := Int.emod_nonneg _ (by omega)
      have m1 : (mx * 48271 + 11) % 2147483647 < 2147483647 := Int.emod_lt_of_pos _ (by omega)
      have c1 : cMul mx 48271 = true := decide_eq_true (.inr (by omega))
      have c2 : cMul ((mx * 48271 + 11) % 2147483647) ((mx * 48271 + 11) % 2147483647) = true := decide_eq_true (.inr (by omega))
      exact ⟨(((mx * 48271 + 11) % 2147483647) * ((mx * 48271 + 11) % 2147483647) % 2147483629 / 7) % n, (c, rest, (mx * 48271 + 11) % 2147483647), by simp [hr, h0, c1, c2], Int.emod_nonneg _ (by omega), Int.emod_lt_of_pos _ h0, q1, m0, m1⟩
  · rintro m ⟨r, c, rest, mx⟩ ⟨x, y, er, hb, rfl⟩
    simp only at er
    subst er
    by_cases hr : rest = 0
    · subst hr
      rcases nil_or_snoc c with rfl | ⟨c0, c1, rfl⟩
      · refine .inl ⟨⟨[.bag, .val (.int n), x, y], [], 0, mx⟩, by simp, rfl, x, y, rfl, hb⟩
      · obtain ⟨q1, q2, q3⟩ := hb
        simp only [List.length_append, List.length_cons, List.length_nil] at q1
        by_cases hc : 1000000000 < c1
        · refine .inr ⟨⟨[.bag, .val (.int n), x, y], c0 ++ [c1], 0, mx⟩, .nx, ⟨[.bag, .val (.int n), .val (.int c1), y], c0, c1, mx⟩, by simp, by simp [hc], c0.length, by simp, _, _, rfl, ⟨by simp only; omega, q2, q3⟩, rfl⟩
        · refine .inr ⟨⟨[.bag, .val (.int n), x, y], c0 ++ [c1], 0, mx⟩, .nx, ⟨[.bag, .val (.int n), .val (.int c1), y], c0, 0, mx⟩, by simp, by simp [hc], c0.length, by simp, _, _, rfl, ⟨by simp only; omega, q2, q3⟩, rfl⟩
    · exact .inl ⟨⟨[.bag, .val (.int n), x, y], c, rest, mx⟩, by simp [hr], rfl, x, y, rfl, hb⟩
theorem pick_ok {b : Bg} {xs : List D} (hb : BgOk b) (h0 : xs ≠ []) (h1 : xs.length < 1073741824) : ∃ x b', f__law_pick [.bag, .p (.list xs)] b = some (.v x, b') ∧ x ∈ xs ∧ BgOk b' := by
  have hl : 0 < xs.length := List.length_pos_iff.mpr h0
  obtain ⟨r, b', e, r0, r1, hb'⟩ := draw_ok (n := xs.length) hb (by omega) (by omega)
  have hr : r.toNat < xs.length := by omega
  have ea : atI xs r = some xs[r.toNat] := by
    have := atI_at (List.getElem?_eq_getElem hr)
    rwa [Int.toNat_of_nonneg r0] at this
  refine ⟨xs[r.toNat], b', ?_, List.getElem_mem hr, hb'⟩
  unfold f__law_pick defF semF m__law_pick
  simp [slotOf, e, ea]
theorem bag_any (ns : List Int) : ∃ b, g__law_bag ns = some b ∧ BgOk b := by
  unfold g__law_bag bagM
  have e0 : cutL (ns.map PyData.int) none (some 63) = (ns.take 63).map PyData.int := by
    have := cut_to (ns.map PyData.int) 63
    rw [List.map_take]
    exact this
  rw [e0]
  have l0 : (ns.take 63).length ≤ 63 := List.length_take_le _ _
  obtain ⟨acc, wF, e1, cs, rfl, hl, x, rfl⟩ := lcm_gen (vs := [3]) (g := gnm 3) (t := ret true) (e := fzO (dcl (p1 pAbs) (rcons (dvar 3) rnil)))
    (P := fun ds acc w => ∃ cs : List Int, acc = cs.map PyData.int ∧ (∃ l : List Int, ds = l.map PyData.int ∧ cs.length + l.length ≤ 63) ∧ ∃ x, w = ⟨[.un, .un, .un, x], ([], 0, 0)⟩)
    (fun ds acc w ⟨cs, e1, ⟨l, e2, h⟩, _⟩ => by
      rw [e1, e2, List.length_map, List.length_map, sizeLine_eq]
      omega)
    (fun d ds acc w ⟨cs, e1, ⟨l, e2, h⟩, x, ew⟩ => by
      cases l with
      | nil => cases e2
      | cons i l =>
        cases e2
        subst ew e1
        refine ⟨⟨[.un, .un, .un, .val (.int i)], ([], 0, 0)⟩, ⟨[.un, .un, .un, .val (.int i)], ([], 0, 0)⟩, by simp [wipA], .inr ⟨.int (if i < 0 then -i else i), ⟨[.un, .un, .un, .val (.int i)], ([], 0, 0)⟩, by simp, by simp, cs ++ [if i < 0 then -i else i], by simp, ⟨l, rfl, ?_⟩, _, rfl⟩⟩
        rw [List.length_append, List.length_cons, List.length_nil]
        rw [List.length_cons] at h
        omega)
    ((ns.take 63).map PyData.int) [] ⟨[.un, .un, .un, .un], ([], 0, 0)⟩ ⟨[], rfl, ⟨ns.take 63, rfl, by simpa using l0⟩, .un, rfl⟩
  rw [show List.replicate 4 S.un = [.un, .un, .un, .un] from rfl, e1]
  obtain ⟨l, _, hl⟩ := hl
  have hcs : cs.length ≤ 63 := by omega
  simp only [resA]
  unfold m__law_bag
  have loop := fors_gen (g := gnm 3) (b := (sset 2 (op2 pMod (opd (fzO (dcl (p1 pInt) (rcons (opd (fzO (op2 pAdd (opd (fzO (op2 pAdd (opd (fzO (op2 pMul (dvar 2) (cst (.int 48271))))) (opd (fzO (op2 pMod (opd (fzO (dcl (p1 pInt) (rcons (dvar 3) rnil)))) (cst (.int 2147483629)))))))) (cst (.int 7))))) rnil)))) (cst (.int 2147483647)))))
    (P := fun ds w => (∃ l : List Int, ds = l.map PyData.int) ∧ ∃ m x, w = ⟨[.un, .val (.list (cs.map .int)), .val (.int m), x], ([], 0, 0)⟩ ∧ 0 ≤ m ∧ m < 2147483647)
    (Q := fun o w => o = .nx ∧ ∃ m x, w = ⟨[.un, .val (.list (cs.map .int)), .val (.int m), x], ([], 0, 0)⟩ ∧ 0 ≤ m ∧ m < 2147483647) (fun w h => ⟨rfl, h.2⟩)
    (fun d ds w ⟨⟨l, e⟩, m, x, ew, h1, h2⟩ => by
      cases l with
      | nil => cases e
      | cons i l =>
        cases e
        subst ew
        have c1 : cMul m 48271 = true := decide_eq_true (.inr (by omega))
        exact ⟨⟨[.un, .val (.list (cs.map .int)), .val (.int m), .val (.int i)], ([], 0, 0)⟩, .nx, ⟨[.un, .val (.list (cs.map .int)), .val (.int ((m * 48271 + i % 2147483629 + 7) % 2147483647)), .val (.int i)], ([], 0, 0)⟩, by simp, by simp [c1], ⟨l, rfl⟩, _, _, rfl, Int.emod_nonneg _ (by omega), Int.emod_lt_of_pos _ (by omega)⟩)
    (cs.map .int) ⟨[.un, .val (.list (cs.map .int)), .val (.int (1357 + cs.length)), .un], ([], 0, 0)⟩ ⟨⟨cs, rfl⟩, _, _, rfl, by omega, by omega⟩
  obtain ⟨o, w', e2, rfl, m, y, rfl, h1, h2⟩ := loop
  refine ⟨(cs.reverse, 0, m), ?_, ?_⟩
  · have z : (List.map PyData.int cs).reverse = List.map PyData.int cs.reverse := by rw [List.map_reverse]
    simp [e2, ownO, -List.map_reverse]
    rw [z, e_bagO]
    rfl
  · exact ⟨by simpa using hcs, h1, h2⟩
/-! ### rows -/
abbrev I (ns : List Int) : List D := ns.map PyData.int
def Lt (d : D) (ns : List Int) : Prop := d = .list (I ns) ∨ d = .tuple (I ns)
theorem atI_I (ns : List Int) (n : Nat) : atI (I ns) (n : Int) = (ns[n]?).map PyData.int := by
  by_cases h : n < ns.length
  · rw [atI_at (d := .int ns[n]) (by rw [List.getElem?_map, List.getElem?_eq_getElem h]; rfl), List.getElem?_eq_getElem h]
    rfl
  · rw [List.getElem?_eq_none (by omega)]
    unfold atI ixN
    rw [if_pos (by omega), if_neg (by rw [List.length_map]; omega)]
    rfl
def bareN (ns : List Int) : Nat → Nat
  | 0 => 0
  | n + 1 => if 0 < n ∧ ns[n]? = some (n : Int) then bareN ns n else n + 1
theorem bareN_le (ns : List Int) : ∀ n, bareN ns n ≤ n
  | 0 => Nat.le_refl _
  | n + 1 => by
    unfold bareN
    split
    · exact Nat.le_succ_of_le (bareN_le ns n)
    · exact Nat.le_refl _
def bare (ns : List Int) : List Int := ns.take (bareN ns ns.length)
theorem short_ok {ns : List Int} {d : D} {b : Bg} (hd : Lt d ns) (hl : ns.length < 199) : f_short_order [.p d] b = some (.v (.tuple (I (bare ns))), b) := by
  unfold f_short_order defF semF m_short_order
  simp only [List.length_cons, List.length_nil, if_true, List.map_cons, List.map_nil, slotOf, e_sseq]
  rw [show List.replicate 1 S.un = [.un] from rfl]
  simp only [List.cons_append, List.nil_append]
  have len : pLen d = some (.v (.int ns.length)) := by
    rcases hd with rfl | rfl <;> simp
  have ix : ∀ n : Nat, pIx d (.int n) = ((ns[n]?).map PyData.int).map O.v := fun n => by
    rcases hd with rfl | rfl <;> simp [atI_I]
  have ind : ∀ n : Nat, n + 1 ≤ ns.length → ∃ x, ns[n]? = some x := fun n h => ⟨_, List.getElem?_eq_getElem (by omega)⟩
  obtain ⟨o, w', e, rfl, rfl⟩ := whl_gen (c := (dand (tst (op2 pGtI (dvar 1) (cst (.int 1)))) (tst (op2 pEq (opd (fzO (op2 pIx (dvar 0) (opd (fzO (op2 pSub (dvar 1) (cst (.int 1)))))))) (opd (fzO (op2 pSub (dvar 1) (cst (.int 1)))))))))
    (b := (sset 1 (op2 pSub (dvar 1) (cst (.int 1)))))
    (P := fun m w => w = ⟨[.val d, .val (.int (m : Nat))], b⟩ ∧ m ≤ ns.length ∧ bareN ns m = bareN ns ns.length) (Q := fun o w => o = .nx ∧ w = ⟨[.val d, .val (.int (bareN ns ns.length : Nat))], b⟩)
    (fun m w ⟨ew, h1, h2⟩ => by
      subst ew
      cases m with
      | zero => exact .inl ⟨⟨[.val d, .val (.int 0)], b⟩, by simp, rfl, by rw [← h2]; rfl⟩
      | succ n =>
        obtain ⟨x, hx⟩ := ind n h1
        have e1 : ((n + 1 : Nat) : Int) - 1 = (n : Int) := by omega
        by_cases hc : 0 < n ∧ ns[n]? = some (n : Int)
        · have hx2 : x = n := by
            rw [hx] at hc
            exact Option.some.inj hc.2
          subst hx2
          have e2 : bareN ns (n + 1) = bareN ns n := by
            rw [bareN, if_pos hc]
          refine .inr ⟨⟨[.val d, .val (.int ((n + 1 : Nat) : Int))], b⟩, .nx, ⟨[.val d, .val (.int (n : Nat))], b⟩, ?_, ?_, n, by omega, rfl, by omega, by rw [← e2]; exact h2⟩
          · have g : (1 : Int) < (n : Int) + 1 := by omega
            have e1 : (n : Int) + 1 - 1 = (n : Int) := by omega
            simp [g, e1, ix, hx, hc.1]
          · simp [e1]
        · have e2 : bareN ns (n + 1) = n + 1 := by
            rw [bareN, if_neg hc]
          refine .inl ⟨⟨[.val d, .val (.int ((n + 1 : Nat) : Int))], b⟩, ?_, rfl, by rw [← h2, e2]⟩
          by_cases h0 : 0 < n
          · have hx2 : ¬ x = n := fun z => hc ⟨h0, by rw [hx, z]⟩
            have g : (1 : Int) < (n : Int) + 1 := by omega
            have e1 : (n : Int) + 1 - 1 = (n : Int) := by omega
            simp [g, e1, ix, hx, hx2, h0]
          · have g : ¬ (1 : Int) < (n : Int) + 1 := by omega
            simp [g]) 200 ns.length ⟨[.val d, .val (.int ns.length)], b⟩ (by omega) ⟨rfl, Nat.le_refl _, rfl⟩
  have ct := cut_to (I ns) (bareN ns ns.length)
  have ct2 : (I ns).take (bareN ns ns.length) = I (bare ns) := by
    unfold bare I
    rw [List.map_take]
  rw [ct2] at ct
  rcases hd with rfl | rfl
  · simp [e, ct]
  · simp [e, ct]
theorem bare_ok {ns : List Int} {d : D} {b : Bg} (hd : Lt d ns) (hl : ns.length < 199) : f__law_bare [.p d] b = some (.v (.tuple (I (bare ns))), b) := short_ok hd hl
end K03
set_option Elab.async false
set_option linter.all false
set_option maxRecDepth 100000
set_option maxHeartbeats 4000000
set_option pp.maxSteps 3000
namespace K03
open PySem L2 TL
def cs (l : List Nat) : List Int := l.map fun (n : Nat) => (n : Int)
def J (l : List Nat) : List D := l.map fun (n : Nat) => PyData.int (n : Int)
theorem J_I (l : List Nat) : I (cs l) = J l := by
  unfold I cs J
  rw [List.map_map]
  rfl
@[simp] theorem J_len (l : List Nat) : (J l).length = l.length := by simp [J]
@[simp] theorem J_nil : J [] = [] := rfl
@[simp] theorem J_cons (a : Nat) (l : List Nat) : J (a :: l) = .int (a : Int) :: J l := rfl
theorem J_app (a b : List Nat) : J (a ++ b) = J a ++ J b := by
  unfold J
  rw [List.map_append]
theorem J_take (l : List Nat) (n : Nat) : (J l).take n = J (l.take n) := by
  unfold J
  rw [List.map_take]
theorem J_drop (l : List Nat) (n : Nat) : (J l).drop n = J (l.drop n) := by
  unfold J
  rw [List.map_drop]
theorem J_at {l : List Nat} {n x : Nat} (h : l[n]? = some x) : (J l)[n]? = some (.int (x : Int)) := by simp [J, h]
theorem atJ {l : List Nat} {n x : Nat} (h : l[n]? = some x) : atI (J l) (n : Int) = some (.int (x : Int)) := atI_at (J_at h)
theorem atJ1 {l : List Nat} {n x : Nat} (h : l[n + 1]? = some x) : atI (J l) ((n : Int) + 1) = some (.int (x : Int)) := atI_at1 (J_at h)
theorem J_set (l : List Nat) (n x : Nat) : (J l).set n (.int (x : Int)) = J (l.set n x) := by
  unfold J
  rw [List.map_set]
def bareL (l : List Nat) : List Nat := l.take (bareN (cs l) l.length)
theorem cs_len (l : List Nat) : (cs l).length = l.length := by
  unfold cs
  rw [List.length_map]
theorem bare_cs (l : List Nat) : I (bare (cs l)) = J (bareL l) := by
  unfold bare bareL
  rw [cs_len, ← J_I]
  unfold cs
  rw [List.map_take]
def LtJ (d : D) (l : List Nat) : Prop := d = .list (J l) ∨ d = .tuple (J l)
theorem shortJ {l : List Nat} {d : D} {b : Bg} (hd : LtJ d l) (hl : l.length < 199) : f_short_order [.p d] b = some (.v (.tuple (J (bareL l))), b) := by
  rw [short_ok (ns := cs l) (by unfold Lt; rw [J_I]; exact hd) (by rwa [cs_len]), bare_cs]
theorem bareJ {l : List Nat} {d : D} {b : Bg} (hd : LtJ d l) (hl : l.length < 199) : f__law_bare [.p d] b = some (.v (.tuple (J (bareL l))), b) := shortJ hd hl
/-- neighbours a, a + 1 exchanged -/
def swp (r : List Nat) (a : Nat) : List Nat := (r.set a (r.getD (a + 1) 0)).set (a + 1) (r.getD a 0)
theorem swp_len (r : List Nat) (a : Nat) : (swp r a).length = r.length := by simp [swp]
def rowOf (w : List Nat) : List Nat := w.foldl swp (List.range 12)
theorem fold_len : ∀ (w r : List Nat), (w.foldl swp r).length = r.length
  | [], r => rfl
  | a :: w, r => by
    rw [List.foldl_cons, fold_len w, swp_len]
theorem row_len (w : List Nat) : (rowOf w).length = 12 := by
  unfold rowOf
  rw [fold_len, List.length_range]
theorem rng12 : rgl ownO 0 12 = some (.s (.own (J (List.range 12)))) := by kernel_rfl
theorem getD_at {l : List Nat} {n : Nat} (h : n < l.length) : l[n]? = some (l.getD n 0) := by
  rw [List.getD_eq_getElem?_getD, List.getElem?_eq_getElem h]
  rfl
theorem wo_ok {w : List Nat} {b : Bg} (hw : ∀ a ∈ w, a ≤ 10) : f_word_order [.p (.tuple (J w))] b = some (.v (.tuple (J (bareL (rowOf w)))), b) := by
  unfold f_word_order defF semF m_word_order
  simp only [List.length_cons, List.length_nil, if_true, List.map_cons, List.map_nil, slotOf, e_sseq]
  rw [show List.replicate 2 S.un = [.un, .un] from rfl]
  obtain ⟨o, w', e, rfl, x, rfl⟩ := fors_gen (g := gnm 2) (b := sasg (fzO (dtup (acons (arg (fzO (op2 pIx (dvar 1) (opd (fzO (op2 pAdd (dvar 2) (cst (.int 1)))))))) (acons (arg (fzO (op2 pIx (dvar 1) (dvar 2)))) anil)))) (gtp 2 (gscons (gst 1 (dvar 2)) (gscons (gst 1 (opd (fzO (op2 pAdd (dvar 2) (cst (.int 1)))))) gsnil))))
    (P := fun ds w0 => ∃ done rest x, w = done ++ rest ∧ ds = J rest ∧ w0 = ⟨[.val (.tuple (J w)), .own (J (done.foldl swp (List.range 12))), x], b⟩) (Q := fun o w0 => o = .nx ∧ ∃ x, w0 = ⟨[.val (.tuple (J w)), .own (J (rowOf w)), x], b⟩)
    (fun w0 ⟨done, rest, x, e1, e2, e3⟩ => by
      cases rest with
      | cons a r => cases e2
      | nil =>
        rw [List.append_nil] at e1
        subst e1
        exact ⟨rfl, x, e3⟩)
    (fun d ds w0 ⟨done, rest, x, e1, e2, e3⟩ => by
      cases rest with
      | nil => cases e2
      | cons a r =>
        cases e2
        subst e3
        have ha : a ≤ 10 := hw a (by rw [e1]; simp)
        have hl : (done.foldl swp (List.range 12)).length = 12 := by rw [fold_len, List.length_range]
        generalize hr : done.foldl swp (List.range 12) = row at hl
        have h1 := atJ (getD_at (l := row) (n := a) (by omega))
        have h2 := atJ1 (getD_at (l := row) (n := a + 1) (by omega))
        have i1 : ixN 12 (a : Int) = some a := ixN_lt (by omega)
        have i2 : ixN 12 ((a : Int) + 1) = some (a + 1) := ixN_lt1 (by omega)
        refine ⟨⟨[.val (.tuple (J w)), .own (J row), .val (.int a)], b⟩, .nx, ⟨[.val (.tuple (J w)), .own (J (swp row a)), .val (.int a)], b⟩, by simp, ?_, done ++ [a], r, _, by rw [e1, List.append_assoc]; rfl, rfl, by rw [List.foldl_append, hr]; rfl⟩
        simp [h1, h2, hl, i1, i2, sizeLine_eq, J_set, swp]) (J w) ⟨[.val (.tuple (J w)), .own (J (List.range 12)), .un], b⟩ ⟨[], w, .un, rfl, rfl, rfl⟩
  simp [e_drg1, rng12, e, shortJ (l := rowOf w) (.inl rfl) (by rw [row_len]; omega)]
theorem swp_cut {r : List Nat} {a : Nat} (h : a + 1 < r.length) : r.take a ++ [r.getD (a + 1) 0, r.getD a 0] ++ r.drop (a + 2) = swp r a := by
  apply List.ext_getElem?
  intro i
  unfold swp
  have l1 : (r.take a).length = a := by rw [List.length_take]; omega
  rw [List.getElem?_set, List.getElem?_set, List.length_set]
  rcases Nat.lt_trichotomy i a with hi | hi | hi
  · rw [List.append_assoc, List.getElem?_append_left (by omega), List.getElem?_take, if_pos hi, if_neg (by omega), if_neg (by omega)]
  · subst hi
    rw [List.append_assoc, List.getElem?_append_right (by omega), l1, Nat.sub_self, if_neg (by omega), if_pos rfl, if_pos (by omega)]
    rfl
  · by_cases h2 : i = a + 1
    · subst h2
      rw [List.append_assoc, List.getElem?_append_right (by omega), l1, show a + 1 - a = 1 by omega, if_pos rfl, if_pos (by omega)]
      rfl
    · rw [List.getElem?_append_right (by rw [List.length_append, l1]; simp only [List.length_cons, List.length_nil]; omega), List.length_append, l1, List.getElem?_drop, if_neg (by omega), if_neg (by omega)]
      congr 1
      simp only [List.length_cons, List.length_nil]
      omega
theorem made_ok {w : List Nat} {b : Bg} (hw : ∀ a ∈ w, a ≤ 10) : f__law_made [.p (.tuple (J w))] b = some (.v (.tuple (J (bareL (rowOf w)))), b) := by
  unfold f__law_made defF semF m__law_made
  simp only [List.length_cons, List.length_nil, if_true, List.map_cons, List.map_nil, slotOf, e_sseq]
  rw [show List.replicate 2 S.un = [.un, .un] from rfl]
  obtain ⟨o, w', e, rfl, x, rfl⟩ := fors_gen (g := gnm 2) (b := (sasg (fzO (dlst (acons (arg (fzO (op2 pIx (dvar 1) (opd (fzO (op2 pAdd (dvar 2) (cst (.int 1)))))))) (acons (arg (fzO (op2 pIx (dvar 1) (dvar 2)))) anil)))) (gsl 1 (pso (dvar 2)) (pso (opd (fzO (op2 pAdd (dvar 2) (cst (.int 2)))))))))
    (P := fun ds w0 => ∃ done rest x, w = done ++ rest ∧ ds = J rest ∧ w0 = ⟨[.val (.tuple (J w)), .own (J (done.foldl swp (List.range 12))), x], b⟩) (Q := fun o w0 => o = .nx ∧ ∃ x, w0 = ⟨[.val (.tuple (J w)), .own (J (rowOf w)), x], b⟩)
    (fun w0 ⟨done, rest, x, e1, e2, e3⟩ => by
      cases rest with
      | cons a r => cases e2
      | nil =>
        rw [List.append_nil] at e1
        subst e1
        exact ⟨rfl, x, e3⟩)
    (fun d ds w0 ⟨done, rest, x, e1, e2, e3⟩ => by
      cases rest with
      | nil => cases e2
      | cons a r =>
        cases e2
        subst e3
        have ha : a ≤ 10 := hw a (by rw [e1]; simp)
        have hl : (done.foldl swp (List.range 12)).length = 12 := by rw [fold_len, List.length_range]
        generalize hr : done.foldl swp (List.range 12) = row at hl
        have h1 := atJ (getD_at (l := row) (n := a) (by omega))
        have h2 := atJ1 (getD_at (l := row) (n := a + 1) (by omega))
        have h3 : (0 : Int) ≤ (a : Int) ∧ (a : Int) ≤ (a : Int) + 2 ∧ (a : Int) + 2 ≤ 12 := by omega
        have h4 : ((a : Int) + 2).toNat = a + 2 := by omega
        refine ⟨⟨[.val (.tuple (J w)), .own (J row), .val (.int a)], b⟩, .nx, ⟨[.val (.tuple (J w)), .own (J (swp row a)), .val (.int a)], b⟩, by simp, ?_, done ++ [a], r, _, by rw [e1, List.append_assoc]; rfl, rfl, by rw [List.foldl_append, hr]; rfl⟩
        have key : (J row).take a ++ ([.int (row.getD (a + 1) 0 : Nat), .int (row.getD a 0 : Nat)] : List D) ++ (J row).drop (a + 2) = J (swp row a) := by
          rw [← swp_cut (by omega), J_app, J_app, J_take, J_drop]
          rfl
        have key2 : (J row).take a ++ (PyData.int (row.getD (a + 1) 0 : Nat) :: PyData.int (row.getD a 0 : Nat) :: (J row).drop (a + 2)) = J (swp row a) := by
          rw [← key, List.append_assoc]
          rfl
        have gs := e_gsl 1 (pso (dvar 2)) (pso (opd (fzO (op2 pAdd (dvar 2) (cst (.int 2)))))) [.int (row.getD (a + 1) 0 : Nat), .int (row.getD a 0 : Nat)] (J row) ⟨[.val (.tuple (J w)), .own (J row), .val (.int a)], b⟩ rfl
        simp only [List.getD_eq_getElem?_getD] at h1 h2 key2 gs
        simp [h1, h2, hl, sizeLine_eq, gs, h3, h4, key2]) (J w) ⟨[.val (.tuple (J w)), .own (J (List.range 12)), .un], b⟩ ⟨[], w, .un, rfl, rfl, rfl⟩
  simp [e_drg1, rng12, e, bareJ (l := rowOf w) (.inl rfl) (by rw [row_len]; omega)]
end K03
set_option Elab.async false
set_option linter.all false
set_option maxRecDepth 100000
set_option maxHeartbeats 4000000
set_option pp.maxSteps 3000
namespace K03
open PySem L2 TL
/-! ### inversions -/
def invL : List Nat → List Nat
  | [] => []
  | x :: l => (l.filter fun y => decide (y < x)).length :: invL l
def inv (l : List Nat) : Nat := (invL l).sum
def ltD (x : Nat) : D → Option D
  | .int j => if j < (x : Int) then some (.int j) else none
  | _ => none
theorem ltD_J (x : Nat) : ∀ l : List Nat, (J l).filterMap (ltD x) = J (l.filter fun y => decide (y < x))
  | [] => rfl
  | y :: l => by
    rw [J_cons, List.filter_cons]
    by_cases h : y < x
    · have e : ltD x (.int (y : Int)) = some (.int (y : Int)) := if_pos (by omega)
      rw [List.filterMap_cons_some e, ltD_J x l, if_pos (by simpa using h)]
      rfl
    · have e : ltD x (.int (y : Int)) = none := if_neg (by omega)
      rw [List.filterMap_cons_none e, ltD_J x l, if_neg (by simpa using h)]
theorem mem_J {l : List Nat} {d : D} (h : d ∈ J l) : ∃ x, x ∈ l ∧ d = .int (x : Int) := by
  obtain ⟨x, h1, h2⟩ := List.mem_map.mp h
  exact ⟨x, h1, h2.symm⟩
theorem mem_enum {d : D} : ∀ {l : List Nat} {j : Nat}, d ∈ enumD j (J l) → ∃ (k x : Nat), l[k]? = some x ∧ d = .tuple [.int ((j + k : Nat) : Int), .int (x : Int)]
  | [], j, h => by cases h
  | y :: l, j, h => by
    rcases List.mem_cons.mp (show d ∈ .tuple [.int (j : Int), .int (y : Int)] :: enumD (j + 1) (J l) from h) with e | e
    · exact ⟨0, y, rfl, e⟩
    · obtain ⟨k, x, h1, h2⟩ := mem_enum e
      exact ⟨k + 1, x, h1, by rw [h2, show j + 1 + k = j + (k + 1) by omega]⟩
theorem enum_len (j : Nat) (l : List Nat) : (enumD j (J l)).length = l.length := by rw [enumD_len, J_len]
def cntD (l : List Nat) : D → Option D
  | .tuple [.int k, .int x] => some (.int ((((l.drop (k.toNat + 1)).filter fun y => decide (y < x.toNat)).length : Nat) : Int))
  | _ => none
theorem cntD_J (l : List Nat) : ∀ (r : List Nat) (j : Nat), l.drop j = r → (enumD j (J r)).filterMap (cntD l) = J (invL r)
  | [], j, _ => rfl
  | x :: r, j, h => by
    have h2 : l.drop (j + 1) = r := by
      rw [← List.drop_drop, h]
      rfl
    have e : cntD l (.tuple [.int (j : Int), .int (x : Int)]) = some (.int (((r.filter fun y => decide (y < x)).length : Nat) : Int)) := by
      show some (PyData.int ((((l.drop ((j : Int).toNat + 1)).filter fun y => decide (y < (x : Int).toNat)).length : Nat) : Int)) = _
      rw [Int.toNat_natCast, Int.toNat_natCast, h2]
    show List.filterMap (cntD l) (.tuple [.int (j : Int), .int (x : Int)] :: enumD (j + 1) (J r)) = _
    rw [List.filterMap_cons_some e, cntD_J l r (j + 1) h2]
    rfl
theorem sum_cs : ∀ l : List Nat, ((cs l).sum : Int) = ((l.sum : Nat) : Int)
  | [] => rfl
  | x :: l => by
    show ((x : Int) :: cs l).sum = _
    rw [List.sum_cons, List.sum_cons, sum_cs l, Int.natCast_add]
theorem pSum_J (l : List Nat) : pSum (.list (J l)) = some (.v (.int ((l.sum : Nat) : Int))) := by
  rw [← J_I]
  show (intsOf ((cs l).map PyData.int)).map _ = _
  rw [intsOf_map, Option.map_some, sum_cs]
theorem cut_from1 (l : List Nat) (k : Nat) : cutL (J l) (some ((k : Int) + 1)) none = J (l.drop (k + 1)) := by
  have c := cut_from (J l) (k + 1)
  rw [J_drop] at c
  exact c
theorem turns_ok {l : List Nat} {b : Bg} (hl : l.length ≤ 1000) : f__law_turns [.p (.tuple (J l))] b = some (.v (.int (inv l)), b) := by
  have key := dlc_pure (vs := [1, 2]) (mi := denum (fzR (dvar 0))) (g := gtp 2 (gscons (gnm 1) (gscons (gnm 2) gsnil))) (t := ret true) (e := (fzO (dcl (p1 pLen) (rcons (opd (fzO (dlc [3] (dval (fzO (dsl (dvar 0) (pso (opd (fzO (op2 pAdd (dvar 1) (cst (.int 1)))))) pno))) (gnm 3) (tst (op2 pLt (dvar 3) (dvar 2))) (fzR (dvar 3))))) rnil))))
    (w := ⟨[.val (.tuple (J l)), .un, .un, .un], b⟩) (w1 := ⟨[.val (.tuple (J l)), .un, .un, .un], b⟩) (its := enumD 0 (J l)) (cntD l) (by simp) rfl (by rw [enum_len, sizeLine_eq]; omega) fun d hd => by
      obtain ⟨k, x, hk, rfl⟩ := mem_enum hd
      rw [Nat.zero_add]
      have hk2 := (List.getElem?_eq_some_iff.mp hk).1
      have inner := dlc_pure (vs := [3]) (mi := (dval (fzO (dsl (dvar 0) (pso (opd (fzO (op2 pAdd (dvar 1) (cst (.int 1)))))) pno)))) (g := gnm 3) (t := (tst (op2 pLt (dvar 3) (dvar 2)))) (e := (fzR (dvar 3)))
        (w := ⟨[.val (.tuple (J l)), .val (.int (k : Int)), .val (.int (x : Int)), .un], b⟩) (w1 := ⟨[.val (.tuple (J l)), .val (.int (k : Int)), .val (.int (x : Int)), .un], b⟩) (its := J (l.drop (k + 1))) (ltD x) (by
          simp [cut_from1]) rfl (by rw [J_len, List.length_drop, sizeLine_eq]; omega) fun d2 hd2 => by
            obtain ⟨y, _, rfl⟩ := mem_J hd2
            refine ⟨⟨[.val (.tuple (J l)), .val (.int (k : Int)), .val (.int (x : Int)), .val (.int (y : Int))], b⟩, ⟨[.val (.tuple (J l)), .val (.int (k : Int)), .val (.int (x : Int)), .val (.int (y : Int))], b⟩, by simp [wipA], ?_⟩
            by_cases h : y < x
            · refine .inr ⟨.int y, ⟨[.val (.tuple (J l)), .val (.int (k : Int)), .val (.int (x : Int)), .val (.int (y : Int))], b⟩, by simp [h], by simp, if_pos (by omega), rfl, rfl⟩
            · exact .inl ⟨by simp; omega, if_neg (by omega), rfl, rfl⟩
      rw [ltD_J] at inner
      refine ⟨⟨[.val (.tuple (J l)), .val (.int (k : Int)), .val (.int (x : Int)), .un], b⟩, ⟨[.val (.tuple (J l)), .val (.int (k : Int)), .val (.int (x : Int)), .un], b⟩, by simp [wipA], .inr ⟨_, ⟨[.val (.tuple (J l)), .val (.int (k : Int)), .val (.int (x : Int)), .un], b⟩, by simp, ?_, rfl, rfl, rfl⟩⟩
      simp only [e_fzO, e_dcl, e_rcons, e_opd, e_rnil, inner]
      simp
  rw [cntD_J l l 0 rfl] at key
  unfold f__law_turns defF semF m__law_turns
  simp only [List.length_cons, List.length_nil, if_true, List.map_cons, List.map_nil, slotOf]
  rw [show List.replicate 3 S.un = [.un, .un, .un] from rfl]
  simp only [List.cons_append, List.nil_append, e_sret, e_dcl, e_rcons, e_opd, e_fzO, e_rnil, key]
  simp [pSum_J, inv]
theorem rngD_succ (j n : Nat) : rngD (j : Int) (n + 1) = .int (j : Int) :: rngD ((j + 1 : Nat) : Int) n := by
  unfold rngD
  rw [List.range_succ_eq_map, List.map_cons, List.map_map]
  have e1 : (j : Int) + ((0 : Nat) : Int) = j := by omega
  rw [e1]
  refine congrArg (PyData.int (j : Int) :: ·) (List.map_congr_left fun i _ => ?_)
  have e2 : (j : Int) + ((i + 1 : Nat) : Int) = ((j + 1 : Nat) : Int) + (i : Int) := by omega
  exact congrArg PyData.int e2
theorem mem_rng {d : D} : ∀ {n j : Nat}, d ∈ rngD (j : Int) n → ∃ k : Nat, j ≤ k ∧ k < j + n ∧ d = .int (k : Int)
  | 0, j, h => by cases h
  | n + 1, j, h => by
    rw [rngD_succ] at h
    rcases List.mem_cons.mp h with e | e
    · exact ⟨j, Nat.le_refl _, by omega, e⟩
    · obtain ⟨k, h1, h2, h3⟩ := mem_rng e
      exact ⟨k, by omega, by omega, h3⟩
def prD (l : List Nat) (k x : Nat) : D → Option D
  | .int j => if l.getD j.toNat 0 < x then some (.tuple [.int (k : Int), .int j]) else none
  | _ => none
theorem prD_len (l : List Nat) (k x : Nat) : ∀ (r : List Nat) (j : Nat), l.drop j = r → ((rngD (j : Int) r.length).filterMap (prD l k x)).length = (r.filter fun y => decide (y < x)).length
  | [], j, _ => rfl
  | y :: r, j, h => by
    have h2 : l.drop (j + 1) = r := by
      rw [← List.drop_drop, h]
      rfl
    have h3 : l.getD j 0 = y := by
      have z : (l.drop j)[0]? = l[j]? := by rw [List.getElem?_drop, Nat.add_zero]
      rw [List.getD_eq_getElem?_getD, ← z, h]
      rfl
    rw [List.length_cons, rngD_succ, List.filter_cons]
    by_cases hy : y < x
    · have e : prD l k x (.int (j : Int)) = some (.tuple [.int (k : Int), .int (j : Int)]) := by
        show (if l.getD (j : Int).toNat 0 < x then _ else _) = _
        rw [Int.toNat_natCast, h3, if_pos hy]
      rw [List.filterMap_cons_some e, if_pos (by simpa using hy), List.length_cons, List.length_cons, prD_len l k x r (j + 1) h2]
    · have e : prD l k x (.int (j : Int)) = none := by
        show (if l.getD (j : Int).toNat 0 < x then _ else _) = _
        rw [Int.toNat_natCast, h3, if_neg hy]
      rw [List.filterMap_cons_none e, if_neg (by simpa using hy), prD_len l k x r (j + 1) h2]
theorem pairs_ok {l : List Nat} {k a n : Nat} {ts : List D} {b : Bg} (hl : l.length ≤ 1000) (hk2 : k < l.length) (hn : n = l.length - (k + 1)) : dlc [4] (dits rng2 (acons (arg (fzO (op2 pAdd (dvar 2) (cst (.int 1))))) (acons (arg (fzO (dcl (p1 pLen) (rcons (dvar 0) rnil)))) anil))) (gnm 4) (tst (op2 pLt (opd (fzO (op2 pIx (dvar 0) (dvar 4)))) (dvar 3))) (fzO (dtup (acons (arg (fzR (dvar 2))) (acons (arg (fzR (dvar 4))) anil))))
    ⟨[.val (.tuple (J l)), .own ts, .val (.int (k : Int)), .val (.int (a : Int)), .un], b⟩ = some (.s (.own ((rngD ((k + 1 : Nat) : Int) n).filterMap (prD l k a))), ⟨[.val (.tuple (J l)), .own ts, .val (.int (k : Int)), .val (.int (a : Int)), .un], b⟩) := by
  have h0 : dits rng2 (acons (arg (fzO (op2 pAdd (dvar 2) (cst (.int 1))))) (acons (arg (fzO (dcl (p1 pLen) (rcons (dvar 0) rnil)))) anil)) ⟨[.val (.tuple (J l)), .own ts, .val (.int (k : Int)), .val (.int (a : Int)), .un], b⟩ = some (rngD ((k + 1 : Nat) : Int) n, ⟨[.val (.tuple (J l)), .own ts, .val (.int (k : Int)), .val (.int (a : Int)), .un], b⟩) := by
    have hs : k + 1 + n = l.length := by omega
    refine dits2 ?_ (by omega)
    rw [hs]
    simp
  refine dlc_pure (prD l k a) h0 rfl (by
    unfold rngD
    rw [List.length_map, List.length_range, sizeLine_eq]
    omega) fun d2 hd2 => ?_
  obtain ⟨j, j1, j2, rfl⟩ := mem_rng hd2
  have hj : j < l.length := by omega
  have ej := atJ (getD_at hj)
  have ep : prD l k a (.int (j : Int)) = if l.getD j 0 < a then some (.tuple [.int (k : Int), .int (j : Int)]) else none := rfl
  refine ⟨⟨[.val (.tuple (J l)), .own ts, .val (.int (k : Int)), .val (.int (a : Int)), .val (.int (j : Int))], b⟩, ⟨[.val (.tuple (J l)), .own ts, .val (.int (k : Int)), .val (.int (a : Int)), .val (.int (j : Int))], b⟩, by simp [wipA], ?_⟩
  generalize l.getD j 0 = z at ej ep
  by_cases h : z < a
  · have s2 : 2 ≤ sizeLine := by decide
    exact .inr ⟨.tuple [.int (k : Int), .int (j : Int)], ⟨[.val (.tuple (J l)), .own ts, .val (.int (k : Int)), .val (.int (a : Int)), .val (.int (j : Int))], b⟩, by simp [ej, h], by simp [s2], by rw [ep, if_pos h], rfl, rfl⟩
  · exact .inl ⟨by simp [ej]; omega, by rw [ep, if_neg h], rfl, rfl⟩
theorem len_ok {l : List Nat} {b : Bg} (hl : l.length ≤ 1000) : f_order_length [.p (.tuple (J l))] b = some (.v (.int (inv l)), b) := by
  have loop := fors_gen (g := (gtp 2 (gscons (gnm 2) (gscons (gnm 3) gsnil)))) (b := (sdrop (dmt kL 1 fExtend (acons (arg (fzO (dlc [4] (dits rng2 (acons (arg (fzO (op2 pAdd (dvar 2) (cst (.int 1))))) (acons (arg (fzO (dcl (p1 pLen) (rcons (dvar 0) rnil)))) anil))) (gnm 4) (tst (op2 pLt (opd (fzO (op2 pIx (dvar 0) (dvar 4)))) (dvar 3))) (fzO (dtup (acons (arg (fzR (dvar 2))) (acons (arg (fzR (dvar 4))) anil))))))) anil))))
    (P := fun ds w => ∃ k r ts x y, l.drop k = r ∧ ds = enumD k (J r) ∧ w = ⟨[.val (.tuple (J l)), .own ts, x, y, .un], b⟩ ∧ ts.length + (invL r).sum = inv l ∧ ts.length ≤ k * 1000)
    (Q := fun o w => o = .nx ∧ ∃ ts x y, w = ⟨[.val (.tuple (J l)), .own ts, x, y, .un], b⟩ ∧ ts.length = inv l)
    (fun w ⟨k, r, ts, x, y, h1, h2, h3, h4, h5⟩ => by
      cases r with
      | cons a r => cases h2
      | nil => exact ⟨rfl, ts, x, y, h3, h4⟩)
    (fun d ds w ⟨k, r, ts, x, y, h1, h2, h3, h4, h5⟩ => by
      cases r with
      | nil => cases h2
      | cons a r =>
        have h2 : d :: ds = .tuple [.int (k : Int), .int (a : Int)] :: enumD (k + 1) (J r) := h2
        obtain ⟨e1, e2⟩ := List.cons.inj h2
        subst e1 e2 h3
        have hr : l.drop (k + 1) = r := by
          rw [← List.drop_drop, h1]
          rfl
        have hk : r.length = l.length - (k + 1) := by rw [← hr, List.length_drop]
        have hk2 : k < l.length := by
          have := congrArg List.length h1
          rw [List.length_drop, List.length_cons] at this
          omega
        have inner := pairs_ok (b := b) (l := l) (k := k) (a := a) (n := r.length) (ts := ts) hl hk2 hk
        have il : ((rngD ((k + 1 : Nat) : Int) r.length).filterMap (prD l k a)).length = (r.filter fun y => decide (y < a)).length := prD_len l k a r (k + 1) hr
        have fl : (r.filter fun y => decide (y < a)).length ≤ r.length := List.length_filter_le _ _
        generalize (rngD ((k + 1 : Nat) : Int) r.length).filterMap (prD l k a) = us at inner il
        have hm : k * 1000 ≤ 1000 * 1000 := Nat.mul_le_mul_right _ (by omega)
        have fe := f_extend (ts := ts) (us := us) (by
          rw [sizeLine_eq, il]
          omega)
        refine ⟨⟨[.val (.tuple (J l)), .own ts, .val (.int (k : Int)), .val (.int (a : Int)), .un], b⟩, .nx, ⟨[.val (.tuple (J l)), .own (ts ++ us), .val (.int (k : Int)), .val (.int (a : Int)), .un], b⟩, by simp, ?_, k + 1, r, ts ++ us, _, _, hr, rfl, rfl, ?_, ?_⟩
        · rw [e_sdrop, e_dmtL 1 fExtend _ _ ts rfl]
          simp only [e_acons, e_arg, e_fzO, inner]
          simp [fe]
        · rw [List.length_append, il, ← h4]
          show _ = ts.length + ((r.filter fun y => decide (y < a)).length :: invL r).sum
          rw [List.sum_cons]
          omega
        · rw [List.length_append, il]
          have : (k + 1) * 1000 = k * 1000 + 1000 := by omega
          omega)
    (enumD 0 (J l)) ⟨[.val (.tuple (J l)), .own [], .un, .un, .un], b⟩ ⟨0, l, [], .un, .un, rfl, rfl, rfl, by simp [inv], by simp⟩
  obtain ⟨o, w', e, rfl, ts, x, y, rfl, ht⟩ := loop
  have turns : f_order_turns [.p (.tuple (J l))] b = some (.v (.tuple ts), b) := by
    unfold f_order_turns defF semF m_order_turns
    simp only [List.length_cons, List.length_nil, if_true, List.map_cons, List.map_nil, slotOf]
    rw [show List.replicate 4 S.un = [.un, .un, .un, .un] from rfl]
    simp [e, sizeLine_eq]
  unfold f_order_length defF semF m_order_length
  simp [slotOf, turns, ht]
end K03
set_option Elab.async false
set_option linter.all false
set_option maxRecDepth 100000
set_option maxHeartbeats 4000000
/-! TL, part 23: data that may be shown and compared. -/
namespace TL
open PySem L2
mutual
def wt : D → Nat
  | .none => 4
  | .bool _ => 5
  | .int i => (Str.ofString (toString i)).length
  | .str x => (reprText x).length
  | .list xs => wtAll xs + 2
  | .tuple xs => wtAll xs + 3
  | .dict kvs => wtKv kvs + 2
def wtAll : List D → Nat
  | [] => 0
  | x :: xs => wt x + 2 + wtAll xs
def wtKv : List (D × D) → Nat
  | [] => 0
  | (k, v) :: r => wt k + wt v + 4 + wtKv r
end
theorem listText_le (ts : List Str) : (listText ts).length ≤ piled ts + 2 := by
  unfold listText
  rw [strLen_append]
  have e1 : (("]" : String) : Str).length = 1 := rfl
  cases ts with
  | nil => show (("[" : String) : Str).length + _ ≤ _; rw [e1]; decide
  | cons t r =>
    have e2 : textFrom 0 (("[" : String) : Str) (t :: r) = textFrom 1 ((("[" : String) : Str) ++ ((if (0 : Nat) > 0 then ", " else "" : String) : Str) ++ t) r := rfl
    rw [e2, textFrom_length_pos r 1 _ (by omega), strLen_append, strLen_append, piled_cons, e1]
    have e3 : (("[" : String) : Str).length = 1 := rfl
    have e4 : ((if (0 : Nat) > 0 then ", " else "" : String) : Str).length = 0 := rfl
    rw [e3, e4]
    omega
theorem tupText_le (ts : List Str) : (tupleText ts).length ≤ piled ts + 3 := by
  unfold tupleText
  rw [strLen_append, strLen_append]
  have e1 : (("(" : String) : Str).length = 1 := rfl
  have e2 : ((if ts.length == 1 then ",)" else ")" : String) : Str).length ≤ 2 := by split <;> decide
  cases ts with
  | nil =>
    have e3 : (Str.join ", " []).length = 0 := rfl
    rw [e1, e3]
    omega
  | cons t r =>
    have e3 := join_length_add (t :: r) (by simp)
    rw [e1]
    omega
theorem dctText_le (ts : List Str) : (dictText ts).length ≤ piled ts + 2 := by
  unfold dictText
  rw [strLen_append, strLen_append]
  have e1 : (("{" : String) : Str).length = 1 := rfl
  have e2 : (("}" : String) : Str).length = 1 := rfl
  cases ts with
  | nil =>
    have e3 : (Str.join ", " []).length = 0 := rfl
    rw [e1, e2, e3]
    omega
  | cons t r =>
    have e3 := join_length_add (t :: r) (by simp)
    rw [e1, e2]
    omega
mutual
theorem shown_le : ∀ d : D, d.shown.length ≤ wt d
  | .none => by decide
  | .bool b => by cases b <;> decide
  | .int i => Nat.le_refl _
  | .str x => Nat.le_refl _
  | .list xs => by
    have h := shownAll_le xs
    have h2 := listText_le (PyData.shownAll xs)
    show (listText (PyData.shownAll xs)).length ≤ wtAll xs + 2
    omega
  | .tuple xs => by
    have h := shownAll_le xs
    have h2 := tupText_le (PyData.shownAll xs)
    show (tupleText (PyData.shownAll xs)).length ≤ wtAll xs + 3
    omega
  | .dict kvs => by
    have h := shownKv_le kvs
    have h2 := dctText_le (PyData.shownKv kvs)
    show (dictText (PyData.shownKv kvs)).length ≤ wtKv kvs + 2
    omega
theorem shownAll_le : ∀ xs : List D, piled (PyData.shownAll xs) ≤ wtAll xs
  | [] => Nat.le_refl _
  | x :: xs => by
    have h1 := shown_le x
    have h2 := shownAll_le xs
    show piled (x.shown :: PyData.shownAll xs) ≤ wt x + 2 + wtAll xs
    rw [piled_cons]
    omega
theorem shownKv_le : ∀ xs : List (D × D), piled (PyData.shownKv xs) ≤ wtKv xs
  | [] => Nat.le_refl _
  | (k, v) :: xs => by
    have h1 := shown_le k
    have h2 := shown_le v
    have h3 := shownKv_le xs
    show piled ((k.shown ++ ": " ++ v.shown) :: PyData.shownKv xs) ≤ wt k + wt v + 4 + wtKv xs
    rw [piled_cons, strLen_append, strLen_append]
    have e : ((": " : String) : Str).length = 2 := rfl
    rw [e]
    omega
end
theorem wt_int {i : Int} {k : Nat} (hk : 0 < k) (h : i.natAbs < 10 ^ k) : wt (.int i) ≤ k + 1 := by
  show (Str.ofString (toString i)).length ≤ _
  rw [PySem.ofString_length]
  exact int_text_length_le10 hk h
/-- data that may be shown, to be at most c signs -/
structure Nice (c : Nat) (d : D) : Prop where
  sh : d.showable = true
  dp : d.depth ≤ 90
  wt : TL.wt d ≤ c
structure NiceAll (c : Nat) (ds : List D) : Prop where
  sh : PyData.showableAll ds = true
  dp : PyData.depthAll ds ≤ 89
  wt : TL.wtAll ds ≤ c
theorem Nice.repr {c : Nat} {d : D} (h : Nice c d) (hc : c ≤ 16777216) : pRepr d = some (.v (.str d.shown)) := by
  have h1 := shown_le d
  have h2 := h.wt
  have h3 := h.dp
  unfold pRepr
  rw [if_pos ⟨h.sh, by omega, by rw [sizeLine_eq]; omega⟩]
theorem nice_nil : NiceAll 0 [] := ⟨rfl, Nat.zero_le _, Nat.le_refl _⟩
theorem nice_cons {a c : Nat} {d : D} {ds : List D} (h : Nice a d) (hd : d.depth ≤ 89) (r : NiceAll c ds) : NiceAll (a + 2 + c) (d :: ds) := by
  refine ⟨?_, ?_, ?_⟩
  · rw [PyData.showableAll, h.sh, r.sh]
    rfl
  · rw [PyData.depthAll]
    exact Nat.max_le.mpr ⟨hd, r.dp⟩
  · have h1 := h.wt
    have h2 := r.wt
    show TL.wt d + 2 + wtAll ds ≤ _
    omega
theorem nice_lst {c : Nat} {ds : List D} (h : NiceAll c ds) : Nice (c + 2) (.list ds) := ⟨by rw [PyData.showable]; exact h.sh, by rw [PyData.depth]; have := h.dp; omega, by have := h.wt; show wtAll ds + 2 ≤ _; omega⟩
theorem nice_tup {c : Nat} {ds : List D} (h : NiceAll c ds) : Nice (c + 3) (.tuple ds) := ⟨by rw [PyData.showable]; exact h.sh, by rw [PyData.depth]; have := h.dp; omega, by have := h.wt; show wtAll ds + 3 ≤ _; omega⟩
theorem Nice.le {a c : Nat} {d : D} (h : Nice a d) (hc : a ≤ c) : Nice c d := ⟨h.sh, h.dp, Nat.le_trans h.wt hc⟩
theorem NiceAll.le {a c : Nat} {d : List D} (h : NiceAll a d) (hc : a ≤ c) : NiceAll c d := ⟨h.sh, h.dp, Nat.le_trans h.wt hc⟩
theorem nice_none : Nice 4 .none := ⟨rfl, by decide, Nat.le_refl _⟩
theorem nice_bool (b : Bool) : Nice 5 (.bool b) := ⟨rfl, by cases b <;> decide, Nat.le_refl _⟩
theorem nice_int {i : Int} {k : Nat} (hk : 0 < k) (hk2 : k ≤ 500) (h : i.natAbs < 10 ^ k) : Nice (k + 1) (.int i) := by
  refine ⟨?_, by rw [PyData.depth]; omega, wt_int hk h⟩
  rw [PyData.showable]
  refine decide_eq_true ?_
  by_cases h0 : i.natAbs = 0
  · rw [h0]
    decide
  · rw [Nat.log2_lt h0]
    refine Nat.lt_of_lt_of_le h ?_
    have h1 : 10 ^ k ≤ 10 ^ 500 := Nat.pow_le_pow_right (by omega) hk2
    have h2 : 10 ^ 500 ≤ 2 ^ 1920 := by decide +kernel
    exact Nat.le_trans h1 h2
theorem pEq_self {d : D} (hp : d.plain = true) (hd : d.depth ≤ 100) : pEq d d = some (.v (.bool true)) := by
  unfold pEq
  rw [if_pos ⟨hp, hp, Nat.le_trans (Nat.min_le_left _ _) hd⟩, SeqAt.eqv_refl_plain d hp]
theorem pEq_str (s : Str) : pEq (.str s) (.str s) = some (.v (.bool true)) := pEq_self rfl (by rw [PyData.depth]; omega)
@[simp] theorem e_dch (f f' : D → D → Option O) (a b c : M R) (w : W) : dch f f' a b c w = (a w).bind fun p => (b p.2).bind fun q => (p.1.look q.2).bind fun d => (q.1.look q.2).bind fun e => (f d e).bind fun o => (boolO o).bind fun t =>
    if t = true then (c q.2).bind fun r => (q.1.look r.2).bind fun e' => (r.1.look r.2).bind fun g => (f' e' g).map fun o' => (o', r.2) else some (.v (.bool false), q.2) := by
  unfold dch
  simp only [e_bnd]
  cases a w with
  | none => rfl
  | some p =>
    simp only [Option.bind_some]
    cases b p.2 with
    | none => rfl
    | some q =>
      simp only [Option.bind_some]
      cases p.1.look q.2 with
      | none => rfl
      | some d =>
        cases q.1.look q.2 with
        | none => rfl
        | some e =>
          simp only [Option.bind_some]
          cases f d e with
          | none => rfl
          | some o =>
            simp only [Option.bind_some]
            cases o with
            | s t => rfl
            | nb t => rfl
            | v x =>
              cases x with
              | bool t =>
                cases t with
                | false => rfl
                | true =>
                  simp only [e_boolO, Option.bind_some, if_true]
                  cases c q.2 with
                  | none => rfl
                  | some r =>
                    simp only [Option.bind_some]
                    cases q.1.look r.2 with
                    | none => rfl
                    | some e' =>
                      cases r.1.look r.2 with
                      | none => rfl
                      | some g => simp only [Option.bind_some, e_lft]
              | _ => rfl
theorem plainAll_of : ∀ {xs : List D}, (∀ d ∈ xs, d.plain = true) → PyData.plainAll xs = true
  | [], _ => rfl
  | x :: xs, h => by
    rw [PyData.plainAll, h x List.mem_cons_self, plainAll_of fun d hd => h d (List.mem_cons_of_mem _ hd)]
    rfl
theorem pNe_nil {xs : List D} (h : PyData.plainAll xs = true) : pNe (.list xs) (.list []) = some (.v (.bool (!xs.isEmpty))) := by
  unfold pNe
  rw [if_pos ⟨by rw [PyData.plain]; exact h, by rw [PyData.plain]; rfl, Nat.le_trans (Nat.min_le_right _ _) (by decide)⟩]
  cases xs <;> rfl
theorem pEq_nil {xs : List D} (h : PyData.plainAll xs = true) : pEq (.list xs) (.list []) = some (.v (.bool xs.isEmpty)) := by
  unfold pEq
  rw [if_pos ⟨by rw [PyData.plain]; exact h, by rw [PyData.plain]; rfl, Nat.le_trans (Nat.min_le_right _ _) (by decide)⟩]
  cases xs <;> rfl
theorem mem_enumD {d : D} : ∀ {xs : List D} {j : Nat}, d ∈ enumD j xs → ∃ (k : Nat) (x : D), xs[k]? = some x ∧ d = .tuple [.int ((j + k : Nat) : Int), x]
  | [], j, h => by cases h
  | y :: l, j, h => by
    rcases List.mem_cons.mp (show d ∈ .tuple [.int (j : Int), y] :: enumD (j + 1) l from h) with e | e
    · exact ⟨0, y, rfl, e⟩
    · obtain ⟨k, x, h1, h2⟩ := mem_enumD e
      exact ⟨k + 1, x, h1, by rw [h2, show j + 1 + k = j + (k + 1) by omega]⟩
theorem boolsOf_bools {f : D → Bool} : ∀ xs : List D, boolsOf (xs.filterMap fun d => some (PyData.bool (f d))) = some (xs.map f)
  | [] => rfl
  | x :: xs => by
    show (boolsOf (xs.filterMap fun d => some (PyData.bool (f d)))).map (f x :: ·) = _
    rw [boolsOf_bools xs]
    rfl
theorem pAll_bools {f : D → Bool} (xs : List D) : pAll (.list (xs.filterMap fun d => some (PyData.bool (f d)))) = some (.v (.bool (xs.all f))) := by
  show (boolsOf _).map _ = _
  rw [boolsOf_bools]
  simp [List.all_map]
end TL
set_option Elab.async false
set_option linter.all false
set_option maxRecDepth 100000
set_option maxHeartbeats 4000000
set_option pp.maxSteps 3000
namespace K03
open PySem L2 TL
theorem same_ok {d : D} {c : Nat} {b : Bg} (h : Nice c d) (hc : c ≤ 16777216) (hp : d.plain = true) : f__law_same [.p d, .p d] b = some (.v (.bool true), b) := by
  have e1 := h.repr hc
  have e2 := pEq_self hp (by have := h.dp; omega)
  have e3 := pEq_str d.shown
  unfold f__law_same defF semF m__law_same
  simp [slotOf, e1, e2, e3]
theorem niceJ : ∀ {l : List Nat}, (∀ x ∈ l, x < 100) → NiceAll (l.length * 5) (J l)
  | [], _ => nice_nil
  | x :: l, h => by
    have h1 : Nice 3 (.int (x : Int)) := nice_int (k := 2) (by omega) (by omega) (by
      have := h x List.mem_cons_self
      rw [Int.natAbs_natCast]
      omega)
    have h2 := niceJ fun y hy => h y (List.mem_cons_of_mem _ hy)
    exact (nice_cons h1 (by rw [PyData.depth]; omega) h2).le (by rw [List.length_cons]; omega)
theorem plainJ : ∀ l : List Nat, PyData.plainAll (J l) = true
  | [] => rfl
  | x :: l => by
    rw [J_cons, PyData.plainAll, plainJ l]
    rfl
theorem sameJ {l : List Nat} {b : Bg} (h : ∀ x ∈ l, x < 100) (hl : l.length ≤ 10000) : f__law_same [.p (.tuple (J l)), .p (.tuple (J l))] b = some (.v (.bool true), b) :=
  same_ok (nice_tup (niceJ h)) (by omega) (by rw [PyData.plain]; exact plainJ l)
theorem sameB {x : Bool} {b : Bg} : f__law_same [.p (.bool x), .p (.bool x)] b = some (.v (.bool true), b) := same_ok (nice_bool x) (by omega) rfl
theorem swp_mem {r : List Nat} {a y : Nat} (ha : a + 1 < r.length) (h : y ∈ swp r a) : y ∈ r := by
  have g : ∀ n, n < r.length → r.getD n 0 ∈ r := fun n hn => by
    rw [List.getD_eq_getElem?_getD, List.getElem?_eq_getElem hn]
    exact List.getElem_mem hn
  rcases List.mem_or_eq_of_mem_set h with h | h
  · rcases List.mem_or_eq_of_mem_set h with h | h
    · exact h
    · rw [h]
      exact g _ ha
  · rw [h]
    exact g _ (by omega)
theorem fold_mem : ∀ {w r : List Nat} {y : Nat}, (∀ a ∈ w, a + 1 < r.length) → y ∈ w.foldl swp r → y ∈ r
  | [], r, y, _, h => h
  | a :: w, r, y, hw, h => by
    have h2 := fold_mem (w := w) (r := swp r a) (fun x hx => by rw [swp_len]; exact hw x (List.mem_cons_of_mem _ hx)) h
    exact swp_mem (hw a List.mem_cons_self) h2
theorem row_lt {w : List Nat} (hw : ∀ a ∈ w, a ≤ 10) : ∀ y ∈ rowOf w, y < 12 := fun y hy => by
  have := fold_mem (w := w) (r := List.range 12) (fun a ha => by
    rw [List.length_range]
    have := hw a ha
    omega) hy
  exact List.mem_range.mp this
theorem bare_sub {l : List Nat} {y : Nat} (h : y ∈ bareL l) : y ∈ l := List.mem_of_mem_take h
theorem bareL_len (l : List Nat) : (bareL l).length ≤ l.length := List.length_take_le' _ _
theorem bare_row {w : List Nat} (hw : ∀ a ∈ w, a ≤ 10) : (∀ y ∈ bareL (rowOf w), y < 100) ∧ (bareL (rowOf w)).length ≤ 12 := by
  refine ⟨fun y hy => ?_, ?_⟩
  · have := row_lt hw y (bare_sub hy)
    omega
  · have := bareL_len (rowOf w)
    rw [row_len] at this
    exact this
theorem shortest_ok {w : List Nat} {b : Bg} (hw : ∀ a ∈ w, a ≤ 10) : f_is_shortest [.p (.tuple (J w))] b = some (.v (.bool ((inv (bareL (rowOf w)) : Int) == (w.length : Int))), b) := by
  have e1 := wo_ok (b := b) hw
  have e2 := len_ok (l := bareL (rowOf w)) (b := b) (by have := (bare_row hw).2; omega)
  unfold f_is_shortest defF semF m_is_shortest
  simp [slotOf, e1, e2]
def IsW (d : D) : Prop := ∃ w : List Nat, d = .tuple (J w) ∧ ∀ a ∈ w, a ≤ 10
theorem words_ok {ws : List D} {b : Bg} (h : ∀ d ∈ ws, IsW d) : f__law_are_words_right [.p (.list ws)] b = some (.v (.bool true), b) := by
  unfold f__law_are_words_right defF semF m__law_are_words_right
  simp only [List.length_cons, List.length_nil, if_true, List.map_cons, List.map_nil, slotOf, e_sseq, e_sfor]
  rw [show List.replicate 3 S.un = [.un, .un, .un] from rfl]
  generalize hb : (sseq (sset 2 (dcall f__law_made (acons (arg (fzR (dvar 1))) anil))) _) = body
  obtain ⟨o, w', e, rfl, x, y, z, rfl⟩ := fors_gen (g := gnm 1) (b := body)
    (P := fun ds w => (∀ d ∈ ds, IsW d) ∧ ∃ x y z, w = ⟨[.val (.list ws), x, y, z], b⟩) (Q := fun o w => o = .nx ∧ ∃ x y z, w = ⟨[.val (.list ws), x, y, z], b⟩) (fun w h => ⟨rfl, h.2⟩)
    (fun d ds w ⟨h1, x, y, z, e1⟩ => by
      subst e1 hb
      obtain ⟨l, rfl, hl⟩ := h1 d List.mem_cons_self
      have q1 := made_ok (b := b) hl
      have q2 := wo_ok (b := b) hl
      have q3 := sameJ (b := b) (bare_row hl).1 (by have := (bare_row hl).2; omega)
      have q4 := turns_ok (l := bareL (rowOf l)) (b := b) (by have := (bare_row hl).2; omega)
      have q5 := shortest_ok (b := b) hl
      have q6 := sameB (x := ((inv (bareL (rowOf l)) : Int) == (l.length : Int))) (b := b)
      refine ⟨⟨[.val (.list ws), .val (.tuple (J l)), y, z], b⟩, .nx, ⟨[.val (.list ws), .val (.tuple (J l)), .val (.tuple (J (bareL (rowOf l)))), .val (.bool ((inv (bareL (rowOf l)) : Int) == (l.length : Int)))], b⟩, by simp, ?_, fun d hd => h1 d (List.mem_cons_of_mem _ hd), _, _, _, rfl⟩
      simp [q1, q2, q3, q4, q5, q6, perm]) ws ⟨[.val (.list ws), .un, .un, .un], b⟩ ⟨h, .un, .un, .un, rfl⟩
  simp [e]
end K03
set_option Elab.async false
set_option linter.all false
set_option maxRecDepth 100000
set_option maxHeartbeats 4000000
set_option pp.maxSteps 3000
namespace K03
open PySem L2 TL
def whole (d : D) : Bool := isInt d && !isBool d
theorem whole_ok (d : D) (b : Bg) : f_is_integer [.p d] b = some (.v (.bool (whole d)), b) := by
  unfold f_is_integer defF semF m_is_integer whole
  cases e : isInt d <;> simp [slotOf, e]
theorem whole_ok2 (d : D) (b : Bg) : f__law_is_whole [.p d] b = some (.v (.bool (whole d)), b) := whole_ok d b
def wholes : D → Bool
  | .tuple xs => xs.all whole
  | _ => false
theorem comp_ok {xs : List D} {b : Bg} (hl : xs.length ≤ 1000) : dlc [1] (dval (fzR (dvar 0))) (gnm 1) (ret true) (fzO (dcall f_is_integer (acons (arg (fzR (dvar 1))) anil))) ⟨[.val (.tuple xs), .un], b⟩ = some (.s (.own (xs.filterMap fun d => some (.bool (whole d)))), ⟨[.val (.tuple xs), .un], b⟩) :=
  dlc_pure _ (by simp) rfl (by rw [sizeLine_eq]; omega) fun d hd =>
    ⟨⟨[.val (.tuple xs), .val d], b⟩, ⟨[.val (.tuple xs), .val d], b⟩, by simp [wipA], .inr ⟨.bool (whole d), ⟨[.val (.tuple xs), .val d], b⟩, rfl, by simp [whole_ok], rfl, rfl, rfl⟩⟩
theorem wholes_ok {d : D} {b : Bg} (h : ∀ xs, d = .tuple xs → xs.length ≤ 1000) : f_are_integers [.p d] b = some (.v (.bool (wholes d)), b) := by
  unfold f_are_integers defF semF m_are_integers
  cases d with
  | tuple xs =>
    have e := comp_ok (b := b) (h xs rfl)
    have e2 := pAll_bools (f := whole) xs
    rw [show (xs.filterMap fun d => some (PyData.bool (whole d))) = xs.map fun d => PyData.bool (whole d) from congrFun List.filterMap_eq_map' xs] at e2
    simp only [List.length_cons, List.length_nil, if_true, List.map_cons, List.map_nil, slotOf]
    rw [show List.replicate 1 S.un = [.un] from rfl]
    simp [isTup, e, e2, wholes]
  | _ => simp [slotOf, isTup, wholes]
theorem comp_ok2 {xs : List D} {b : Bg} (hl : xs.length ≤ 1000) : dlc [2] (dval (fzR (dvar 0))) (gnm 2) (ret true) (fzO (dcall f__law_is_whole (acons (arg (fzR (dvar 2))) anil))) ⟨[.val (.tuple xs), .un, .un, .un], b⟩ = some (.s (.own (xs.filterMap fun d => some (.bool (whole d)))), ⟨[.val (.tuple xs), .un, .un, .un], b⟩) :=
  dlc_pure _ (by simp) rfl (by rw [sizeLine_eq]; omega) fun d hd =>
    ⟨⟨[.val (.tuple xs), .un, .val d, .un], b⟩, ⟨[.val (.tuple xs), .un, .val d, .un], b⟩, by simp [wipA], .inr ⟨.bool (whole d), ⟨[.val (.tuple xs), .un, .val d, .un], b⟩, rfl, by simp [whole_ok2], rfl, rfl, rfl⟩⟩
theorem whole_int {d : D} (h : whole d = true) : ∃ i, d = .int i := by
  cases d <;> first | exact ⟨_, rfl⟩ | cases h
def badD : D → Option D
  | .tuple [k, .int x] => if 0 ≤ x ∧ x ≤ 10 then none else some k
  | _ => none
def bads (xs : List D) : List D := (enumD 0 xs).filterMap badD
def due (d : D) : D := match d with
  | .tuple xs => if xs.all whole = true then (if 100 < xs.length then .str (Str.ofString "many") else match bads xs with
    | [] => .none
    | k :: _ => .tuple [.str (Str.ofString "letter"), k]) else .str (Str.ofString "form")
  | _ => .str (Str.ofString "form")
theorem bads_mem {xs : List D} {k : D} (h : k ∈ bads xs) : ∃ n : Nat, n < xs.length ∧ k = .int (n : Int) := by
  obtain ⟨p, h1, h2⟩ := List.mem_filterMap.mp h
  obtain ⟨n, x, h3, rfl⟩ := mem_enumD h1
  cases x with
  | int i =>
    have h2 : (if 0 ≤ i ∧ i ≤ 10 then none else some (PyData.int ((0 + n : Nat) : Int))) = some k := h2
    split at h2
    · cases h2
    · cases h2
      exact ⟨n, (List.getElem?_eq_some_iff.mp h3).1, by rw [Nat.zero_add]⟩
  | _ => cases h2
theorem bads_plain (xs : List D) : PyData.plainAll (bads xs) = true := plainAll_of fun d hd => by
  obtain ⟨n, _, rfl⟩ := bads_mem hd
  rfl
theorem bad1 {xs : List D} {b : Bg} (hl : xs.length ≤ 1000) (hw : xs.all whole = true) : dlc [2, 3] (denum (fzR (dvar 0))) (gtp 2 (gscons (gnm 2) (gscons (gnm 3) gsnil))) (dnot (tst (dch pLeI pLeI (cst (.int 0)) (dvar 3) (opd (fzO (op2 pSub (opd (ret (.int 12))) (cst (.int 2)))))))) (fzR (dvar 2)) ⟨[.val (.tuple xs), .un, .un, .un], b⟩ = some (.s (.own (bads xs)), ⟨[.val (.tuple xs), .un, .un, .un], b⟩) :=
  dlc_pure badD (by simp) rfl (by rw [enumD_len, sizeLine_eq]; omega) fun d hd => by
    obtain ⟨n, x, h3, rfl⟩ := mem_enumD hd
    obtain ⟨i, rfl⟩ := whole_int (List.all_eq_true.mp hw x (List.mem_of_getElem? h3))
    rw [Nat.zero_add]
    refine ⟨⟨[.val (.tuple xs), .un, .val (.int (n : Int)), .val (.int i)], b⟩, ⟨[.val (.tuple xs), .un, .val (.int (n : Int)), .val (.int i)], b⟩, by simp [wipA], ?_⟩
    have e : badD (.tuple [.int (n : Int), .int i]) = if 0 ≤ i ∧ i ≤ 10 then none else some (.int (n : Int)) := rfl
    by_cases h : 0 ≤ i ∧ i ≤ 10
    · exact .inl ⟨by simp [h.1, h.2], by rw [e, if_pos h], rfl, rfl⟩
    · refine .inr ⟨.int (n : Int), ⟨[.val (.tuple xs), .un, .val (.int (n : Int)), .val (.int i)], b⟩, ?_, by simp, by rw [e, if_neg h], rfl, rfl⟩
      by_cases h0 : 0 ≤ i
      · have h1 : ¬ i ≤ 10 := fun z => h ⟨h0, z⟩
        simp [h0, h1]
      · simp [h0]
theorem bad2 {xs : List D} {b : Bg} (hl : xs.length ≤ 1000) (hw : xs.all whole = true) : dlc [3, 2] (denum (fzR (dvar 0))) (gtp 2 (gscons (gnm 3) (gscons (gnm 2) gsnil))) (dor (tst (op2 pLt (dvar 2) (cst (.int 0)))) (tst (op2 pGtI (dvar 2) (cst (.int 10))))) (fzR (dvar 3)) ⟨[.val (.tuple xs), .un, .un, .un], b⟩ = some (.s (.own (bads xs)), ⟨[.val (.tuple xs), .un, .un, .un], b⟩) :=
  dlc_pure badD (by simp) rfl (by rw [enumD_len, sizeLine_eq]; omega) fun d hd => by
    obtain ⟨n, x, h3, rfl⟩ := mem_enumD hd
    obtain ⟨i, rfl⟩ := whole_int (List.all_eq_true.mp hw x (List.mem_of_getElem? h3))
    rw [Nat.zero_add]
    refine ⟨⟨[.val (.tuple xs), .un, .val (.int i), .val (.int (n : Int))], b⟩, ⟨[.val (.tuple xs), .un, .val (.int i), .val (.int (n : Int))], b⟩, by simp [wipA], ?_⟩
    have e : badD (.tuple [.int (n : Int), .int i]) = if 0 ≤ i ∧ i ≤ 10 then none else some (.int (n : Int)) := rfl
    by_cases h : 0 ≤ i ∧ i ≤ 10
    · refine .inl ⟨?_, by rw [e, if_pos h], rfl, rfl⟩
      have h1 : ¬ i < 0 := by omega
      have h2 : ¬ 10 < i := by omega
      simp [h1, h2]
    · refine .inr ⟨.int (n : Int), ⟨[.val (.tuple xs), .un, .val (.int i), .val (.int (n : Int))], b⟩, ?_, by simp, by rw [e, if_neg h], rfl, rfl⟩
      by_cases h0 : i < 0
      · simp [h0]
      · have h1 : 10 < i := by omega
        simp [h0, h1]
theorem err_ok {d : D} {b : Bg} (h : ∀ xs, d = .tuple xs → xs.length ≤ 1000) : f_swapword_error [.p d] b = some (.v (due d), b) := by
  have e1 := wholes_ok (b := b) h
  unfold f_swapword_error defF semF m_swapword_error
  cases d with
  | tuple xs =>
    simp only [List.length_cons, List.length_nil, if_true, List.map_cons, List.map_nil, slotOf]
    rw [show List.replicate 3 S.un = [.un, .un, .un] from rfl]
    have e3 : wholes (.tuple xs) = xs.all whole := rfl
    cases hw : xs.all whole with
    | false => simp [e1, e3, hw, due]
    | true =>
      by_cases hl : 100 < xs.length
      · have hl2 : (100 : Int) < (xs.length : Int) := by omega
        simp [e1, e3, hw, due, hl, hl2]
      · have e2 := bad1 (b := b) (h xs rfl) hw
        have e4 := pNe_nil (bads_plain xs)
        have s0 : 0 ≤ sizeLine := Nat.zero_le _
        have s2 : 2 ≤ sizeLine := by decide
        have hl2 : ¬ (100 : Int) < (xs.length : Int) := by omega
        cases hb : bads xs with
        | nil =>
          rw [hb] at e2 e4
          simp [e1, e3, hw, hl, hl2, e2, e4, due, hb]
        | cons k r =>
          rw [hb] at e2 e4
          have e5 : atI (k :: r) 0 = some k := atI_at (n := 0) rfl
          simp [e1, e3, hw, hl, hl2, e2, e4, due, hb, s2, e5]
  | _ => simp [slotOf, e1, wholes, due]
theorem fault_ok {d : D} {b : Bg} (h : ∀ xs, d = .tuple xs → xs.length ≤ 1000) : f__law_fault [.p d] b = some (.v (due d), b) := by
  unfold f__law_fault defF semF m__law_fault
  cases d with
  | tuple xs =>
    have e0 := comp_ok2 (b := b) (h xs rfl)
    have e1 := pAll_bools (f := whole) xs
    rw [show (xs.filterMap fun d => some (PyData.bool (whole d))) = xs.map fun d => PyData.bool (whole d) from congrFun List.filterMap_eq_map' xs] at e0 e1
    simp only [List.length_cons, List.length_nil, if_true, List.map_cons, List.map_nil, slotOf]
    rw [show List.replicate 3 S.un = [.un, .un, .un] from rfl]
    cases hw : xs.all whole with
    | false =>
      rw [hw] at e1
      simp [e0, e1, hw, due, isTup]
    | true =>
      rw [hw] at e1
      by_cases hl : 100 < xs.length
      · have hl2 : (100 : Int) < (xs.length : Int) := by omega
        simp [e0, e1, hw, due, hl, hl2, isTup]
      · have e2 := bad2 (b := b) (h xs rfl) hw
        have e4 := pNe_nil (bads_plain xs)
        have s2 : 2 ≤ sizeLine := by decide
        have hl2 : ¬ (100 : Int) < (xs.length : Int) := by omega
        cases hb : bads xs with
        | nil =>
          rw [hb] at e2 e4
          simp [e0, e1, hw, hl, hl2, e2, e4, due, hb, isTup]
        | cons k r =>
          rw [hb] at e2 e4
          have e5 : atI (k :: r) 0 = some k := atI_at (n := 0) rfl
          simp [e0, e1, hw, hl, hl2, e2, e4, due, hb, s2, e5, isTup]
  | _ => simp [slotOf, due, isTup]
theorem due_nice (d : D) : Nice 100 (due d) ∧ (due d).plain = true := by
  have hf : Nice 100 (.str (Str.ofString "form")) := ⟨rfl, by decide, by decide +kernel⟩
  have hm : Nice 100 (.str (Str.ofString "many")) := ⟨rfl, by decide, by decide +kernel⟩
  have hL : Nice 20 (.str (Str.ofString "letter")) := ⟨rfl, by decide, by decide +kernel⟩
  cases d with
  | tuple xs =>
    unfold due
    simp only
    split
    · split
      · exact ⟨hm, rfl⟩
      · rename_i hl
        split
        · exact ⟨nice_none.le (by omega), rfl⟩
        · rename_i k r hb
          obtain ⟨n, hn, rfl⟩ := bads_mem (xs := xs) (k := k) (by rw [hb]; exact List.mem_cons_self)
          have hi : Nice 4 (.int (n : Int)) := nice_int (k := 3) (by omega) (by omega) (by rw [Int.natAbs_natCast]; omega)
          exact ⟨(nice_tup (nice_cons hL (by decide) (nice_cons hi (by rw [PyData.depth]; omega) nice_nil))).le (by omega), rfl⟩
    · exact ⟨hf, rfl⟩
  | _ => exact ⟨hf, rfl⟩
theorem faults_ok {vs : List D} {b : Bg} (h : ∀ d ∈ vs, ∀ xs, d = .tuple xs → xs.length ≤ 1000) : f__law_are_faults_right [.p (.list vs)] b = some (.v (.bool true), b) := by
  unfold f__law_are_faults_right defF semF m__law_are_faults_right
  simp only [List.length_cons, List.length_nil, if_true, List.map_cons, List.map_nil, slotOf, e_sseq, e_sfor]
  rw [show List.replicate 2 S.un = [.un, .un] from rfl]
  generalize hb : (sseq (sset 2 (dcall f__law_fault (acons (arg (fzR (dvar 1))) anil))) _) = body
  obtain ⟨o, w', e, rfl, x, y, rfl⟩ := fors_gen (g := gnm 1) (b := body)
    (P := fun ds w => (∀ d ∈ ds, ∀ xs, d = .tuple xs → xs.length ≤ 1000) ∧ ∃ x y, w = ⟨[.val (.list vs), x, y], b⟩) (Q := fun o w => o = .nx ∧ ∃ x y, w = ⟨[.val (.list vs), x, y], b⟩) (fun w h => ⟨rfl, h.2⟩)
    (fun d ds w ⟨h1, x, y, e1⟩ => by
      subst e1 hb
      have hd := h1 d List.mem_cons_self
      have q1 := fault_ok (b := b) hd
      have q2 := err_ok (b := b) hd
      have q3 := same_ok (b := b) (due_nice d).1 (by omega) (due_nice d).2
      refine ⟨⟨[.val (.list vs), .val d, y], b⟩, .nx, ⟨[.val (.list vs), .val d, .val (due d)], b⟩, by simp, ?_, fun d hd => h1 d (List.mem_cons_of_mem _ hd), _, _, rfl⟩
      simp [q1, q2, q3, perm]) vs ⟨[.val (.list vs), .un, .un], b⟩ ⟨h, .un, .un, rfl⟩
  simp [e]
end K03
set_option Elab.async false
set_option linter.all false
set_option maxRecDepth 100000
set_option maxHeartbeats 4000000
set_option pp.maxSteps 3000
namespace K03
open PySem L2 TL
theorem drawN {b : Bg} {n : Nat} (hb : BgOk b) (h0 : 0 < n) (h1 : n < 1073741824) : ∃ (r : Nat) (b' : Bg), f__law_draw [.bag, .p (.int (n : Int))] b = some (.v (.int (r : Int)), b') ∧ r < n ∧ BgOk b' := by
  obtain ⟨r, b', e, r0, r1, hb'⟩ := draw_ok (n := (n : Int)) hb (by omega) (by omega)
  refine ⟨r.toNat, b', ?_, by omega, hb'⟩
  rw [Int.toNat_of_nonneg r0]
  exact e
theorem drawI {b : Bg} {n : Int} (hb : BgOk b) (h0 : 0 < n) (h1 : n < 1073741824) : ∃ (r : Nat) (b' : Bg), f__law_draw [.bag, .p (.int n)] b = some (.v (.int (r : Int)), b') ∧ (r : Int) < n ∧ BgOk b' := by
  obtain ⟨r, b', e, r0, r1, hb'⟩ := draw_ok (n := n) hb h0 h1
  refine ⟨r.toNat, b', ?_, by omega, hb'⟩
  rw [Int.toNat_of_nonneg r0]
  exact e
/-- [_law_draw(bag, top) for turn in range(many)] -/
theorem draws_ok {b : Bg} {t m : Nat} {x : S} (hb : BgOk b) (h0 : 0 < t) (h1 : t < 1073741824) (hm : m ≤ 1000) : ∃ (l : List Nat) (b' : Bg), dlc [4] (dits rng1 (acons (arg (fzR (dvar 3))) anil)) (gnm 4) (ret true) (fzO (dcall f__law_draw (acons (argB 0) (acons (arg (fzR (dvar 2))) anil)))) ⟨[.bag, x, .val (.int (t : Int)), .val (.int (m : Int)), .un], b⟩ =
    some (.s (.own (J l)), ⟨[.bag, x, .val (.int (t : Int)), .val (.int (m : Int)), .un], b'⟩) ∧ l.length = m ∧ (∀ a ∈ l, a < t) ∧ BgOk b' := by
  have e0 : dits rng1 (acons (arg (fzR (dvar 3))) anil) ⟨[.bag, x, .val (.int (t : Int)), .val (.int (m : Int)), .un], b⟩ = some (rngD ((0 : Nat) : Int) m, ⟨[.bag, x, .val (.int (t : Int)), .val (.int (m : Int)), .un], b⟩) := dits1 (by simp) (by omega)
  have hl : (rngD ((0 : Nat) : Int) m).length = m := by
    unfold rngD
    rw [List.length_map, List.length_range]
  obtain ⟨acc, w', e1, l, b', y, rfl, rfl, q1, q2, q3⟩ := lcm_gen (vs := [4]) (g := gnm 4) (t := ret true) (e := (fzO (dcall f__law_draw (acons (argB 0) (acons (arg (fzR (dvar 2))) anil)))))
    (P := fun ds acc w => ∃ l b' y, acc = J l ∧ w = ⟨[.bag, x, .val (.int (t : Int)), .val (.int (m : Int)), y], b'⟩ ∧ ds.length + l.length = m ∧ (∀ a ∈ l, a < t) ∧ BgOk b')
    (fun ds acc w ⟨l, b', y, e1, e2, e3, _⟩ => by
      rw [e1, J_len, sizeLine_eq]
      omega)
    (fun d ds acc w ⟨l, b', y, e1, e2, e3, e4, e5⟩ => by
      subst e1 e2
      obtain ⟨r, b2, q1, q2, q3⟩ := drawN e5 h0 h1
      refine ⟨⟨[.bag, x, .val (.int (t : Int)), .val (.int (m : Int)), .val d], b'⟩, ⟨[.bag, x, .val (.int (t : Int)), .val (.int (m : Int)), .val d], b'⟩, by simp [wipA], .inr ⟨.int (r : Int), ⟨[.bag, x, .val (.int (t : Int)), .val (.int (m : Int)), .val d], b2⟩, rfl, by simp [q1], l ++ [r], b2, _, (J_app l [r]).symm, rfl, ?_, ?_, q3⟩⟩
      · rw [List.length_cons] at e3
        rw [List.length_append, List.length_cons, List.length_nil]
        omega
      · intro a ha
        rcases List.mem_append.mp ha with h | h
        · exact e4 a h
        · rw [List.mem_singleton.mp h]
          exact q2)
    (rngD ((0 : Nat) : Int) m) [] ⟨[.bag, x, .val (.int (t : Int)), .val (.int (m : Int)), .un], b⟩ ⟨[], b, .un, rfl, rfl, by rw [hl]; rfl, (fun a h => nomatch h), hb⟩
  refine ⟨l, b', ?_, by simpa using q1, q2, q3⟩
  have ok : okA [4] 0 ([.bag, x, .val (.int (t : Int)), .val (.int (m : Int)), .un] : List S) = true := rfl
  rw [e_dlc, e0]
  simp only [Option.bind_some, ok, if_true, e1, Option.map_some]
  rfl
theorem word_ok {b : Bg} (hb : BgOk b) : ∃ (w : List Nat) (b' : Bg), f__law_word [.bag] b = some (.v (.tuple (J w)), b') ∧ (∀ a ∈ w, a ≤ 10) ∧ w.length ≤ 100 ∧ BgOk b' := by
  obtain ⟨way, b1, e1, l1, h1⟩ := drawI (n := 3) hb (by omega) (by omega)
  obtain ⟨top, b2, e2, l2, h2⟩ := drawI (n := 11) h1 (by omega) (by omega)
  have c1 : ((1 + top : Nat) : Int) = (1 : Int) + (top : Int) := by omega
  obtain ⟨L, hL⟩ : ∃ L, L = sret (dcl (p1 pTuple) (rcons (opd (fzO (dlc [4] (dits rng1 (acons (arg (fzR (dvar 3))) anil)) (gnm 4) (ret true) (fzO (dcall f__law_draw (acons (argB 0) (acons (arg (fzR (dvar 2))) anil))))))) rnil)) := ⟨_, rfl⟩
  have fin : ∀ (m : Nat) (b3 : Bg), m ≤ 100 → BgOk b3 → ∃ (w : List Nat) (b' : Bg), L ⟨[.bag, .val (.int (way : Int)), .val (.int (1 + (top : Int))), .val (.int (m : Int)), .un], b3⟩ = some (.re (.v (.tuple (J w))), ⟨[.bag, .val (.int (way : Int)), .val (.int (1 + (top : Int))), .val (.int (m : Int)), .un], b'⟩) ∧ (∀ a ∈ w, a ≤ 10) ∧ w.length ≤ 100 ∧ BgOk b' := fun m b3 hm h3 => by
    obtain ⟨l, b', q1, q2, q3, q4⟩ := draws_ok (t := 1 + top) (m := m) (x := .val (.int (way : Int))) h3 (by omega) (by omega) (by omega)
    rw [c1] at q1
    refine ⟨l, b', ?_, fun a ha => by have := q3 a ha; omega, by omega, q4⟩
    rw [hL]
    simp only [e_sret, e_dcl, e_rcons, e_opd, e_fzO, e_rnil, q1]
    rfl
  unfold f__law_word defF semF m__law_word
  rw [← hL]
  simp only [List.length_cons, List.length_nil, if_true, List.map_cons, List.map_nil, slotOf]
  rw [show List.replicate 4 S.un = [.un, .un, .un, .un] from rfl]
  by_cases w0 : way = 0
  · subst w0
    obtain ⟨m, b3, e3, l3, h3⟩ := drawI (n := 101) h2 (by omega) (by omega)
    obtain ⟨w, b', q1, q2, q3, q4⟩ := fin m b3 (by omega) h3
    exact ⟨w, b', by simp [e1, e2, e3] at q1 ⊢; simp [q1], q2, q3, q4⟩
  · have w2 : ¬ (way : Int) = 0 := by omega
    by_cases w1 : way = 1
    · subst w1
      obtain ⟨m, b3, e3, l3, h3⟩ := drawI (n := 13) h2 (by omega) (by omega)
      obtain ⟨w, b', q1, q2, q3, q4⟩ := fin m b3 (by omega) h3
      exact ⟨w, b', by simp [e1, e2, e3] at q1 ⊢; simp [q1], q2, q3, q4⟩
    · obtain ⟨w, b', q1, q2, q3, q4⟩ := fin 100 b2 (by omega) h2
      have w3 : ¬ (way : Int) = 1 := by omega
      exact ⟨w, b', by simp [e1, e2, w2, w3, w0, w1] at q1 ⊢; simp [q1], q2, q3, q4⟩
end K03
set_option Elab.async false
set_option linter.all false
set_option maxRecDepth 100000
set_option maxHeartbeats 4000000
set_option pp.maxSteps 3000
namespace K03
open PySem L2 TL
/-! ### exchanges and inversions -/
theorem split2 {r : List Nat} {a : Nat} (h : a + 1 < r.length) : ∃ l1 x y l2, r = l1 ++ x :: y :: l2 ∧ l1.length = a := by
  refine ⟨r.take a, r[a], r[a + 1], r.drop (a + 2), ?_, by rw [List.length_take]; omega⟩
  rw [← List.drop_eq_getElem_cons (show a + 1 < r.length from h), ← List.drop_eq_getElem_cons (show a < r.length by omega), List.take_append_drop]
theorem swp_at (l1 l2 : List Nat) (x y : Nat) : swp (l1 ++ x :: y :: l2) l1.length = l1 ++ y :: x :: l2 := by
  rw [← swp_cut (by simp)]
  simp
theorem getD_l (l1 l2 : List Nat) (x y : Nat) : (l1 ++ x :: y :: l2).getD l1.length 0 = x := by simp
theorem getD_r (l1 l2 : List Nat) (x y : Nat) : (l1 ++ x :: y :: l2).getD (l1.length + 1) 0 = y := by simp
theorem filt_swap (p : Nat → Bool) : ∀ (l1 l2 : List Nat) (x y : Nat), ((l1 ++ y :: x :: l2).filter p).length = ((l1 ++ x :: y :: l2).filter p).length := fun l1 l2 x y => by
  rw [List.filter_append, List.filter_append, List.length_append, List.length_append]
  congr 1
  rw [List.filter_cons, List.filter_cons, List.filter_cons, List.filter_cons]
  cases p x <;> cases p y <;> rfl
theorem inv_cons (x : Nat) (l : List Nat) : inv (x :: l) = (l.filter fun y => decide (y < x)).length + inv l := by
  unfold inv
  rw [invL, List.sum_cons]
theorem inv_up : ∀ (l1 l2 : List Nat) (x y : Nat), x < y → inv (l1 ++ y :: x :: l2) = inv (l1 ++ x :: y :: l2) + 1
  | [], l2, x, y, h => by
    simp only [List.nil_append, inv_cons]
    have h1 : (List.filter (fun z => decide (z < y)) (x :: l2)).length = (List.filter (fun z => decide (z < y)) l2).length + 1 := by
      rw [List.filter_cons, if_pos (by simpa using h), List.length_cons]
    have h2 : (List.filter (fun z => decide (z < x)) (y :: l2)).length = (List.filter (fun z => decide (z < x)) l2).length := by
      rw [List.filter_cons, if_neg (by simp; omega)]
    rw [h1, h2]
    omega
  | z :: l1, l2, x, y, h => by
    rw [List.cons_append, List.cons_append, inv_cons, inv_cons, inv_up l1 l2 x y h, filt_swap]
    omega
theorem inv_swp_up {r : List Nat} {a : Nat} (h : a + 1 < r.length) (hx : r.getD a 0 < r.getD (a + 1) 0) : inv (swp r a) = inv r + 1 := by
  obtain ⟨l1, x, y, l2, rfl, rfl⟩ := split2 h
  rw [getD_l, getD_r] at hx
  rw [swp_at]
  exact inv_up l1 l2 x y hx
theorem inv_swp_down {r : List Nat} {a : Nat} (h : a + 1 < r.length) (hx : r.getD (a + 1) 0 < r.getD a 0) : inv (swp r a) + 1 = inv r := by
  obtain ⟨l1, x, y, l2, rfl, rfl⟩ := split2 h
  rw [getD_l, getD_r] at hx
  rw [swp_at]
  exact (inv_up l1 l2 y x hx).symm
theorem swp_take {r : List Nat} {a p : Nat} (h : a + 1 < p) (hp : p ≤ r.length) : (swp r a).take p = swp (r.take p) a := by
  unfold swp
  have g : ∀ n, n < p → (r.take p).getD n 0 = r.getD n 0 := fun n hn => by
    rw [List.getD_eq_getElem?_getD, List.getD_eq_getElem?_getD, List.getElem?_take, if_pos hn]
  rw [List.take_set, List.take_set, g a (by omega), g (a + 1) h]
theorem rngD_J (n : Nat) : rngD ((0 : Nat) : Int) n = J (List.range n) := by
  unfold rngD J
  apply List.map_congr_left
  intro i _
  simp
def qD (q : Nat → Bool) : D → Option D
  | .int j => if q j.toNat = true then some (.int j) else none
  | _ => none
theorem qD_J (q : Nat → Bool) : ∀ l : List Nat, (J l).filterMap (qD q) = J (l.filter q)
  | [] => rfl
  | x :: l => by
    have e0 : qD q (.int (x : Int)) = if q x = true then some (.int (x : Int)) else none := rfl
    rw [J_cons, List.filter_cons]
    by_cases h : q x = true
    · rw [List.filterMap_cons_some (e0.trans (if_pos h)), qD_J q l, if_pos h]
      rfl
    · rw [List.filterMap_cons_none (e0.trans (if_neg h)), qD_J q l, if_neg h]
/-- where the row may go up -/
def ups (row : List Nat) (n : Nat) : List Nat := (List.range n).filter fun a => decide (row.getD a 0 < row.getD (a + 1) 0)
theorem free_ok {row : List Nat} {p : Nat} {b : Bg} {s2 s4 s5 s6 s7 : S} (hp : 1 ≤ p) (hl : row.length = p) (hp2 : p ≤ 1000) (h7 : s7.mine = false) :
    dlc [7] (dits rng1 (acons (arg (fzO (op2 pSub (dvar 1) (cst (.int 1))))) anil)) (gnm 7) (tst (op2 pLt (opd (fzO (op2 pIx (dvar 3) (dvar 7)))) (opd (fzO (op2 pIx (dvar 3) (opd (fzO (op2 pAdd (dvar 7) (cst (.int 1)))))))))) (fzR (dvar 7))
      ⟨[.bag, .val (.int (p : Int)), s2, .own (J row), s4, s5, s6, s7], b⟩ = some (.s (.own (J (ups row (p - 1)))), ⟨[.bag, .val (.int (p : Int)), s2, .own (J row), s4, s5, s6, s7], b⟩) := by
  have h0 : dits rng1 (acons (arg (fzO (op2 pSub (dvar 1) (cst (.int 1))))) anil) ⟨[.bag, .val (.int (p : Int)), s2, .own (J row), s4, s5, s6, s7], b⟩ = some (J (List.range (p - 1)), ⟨[.bag, .val (.int (p : Int)), s2, .own (J row), s4, s5, s6, s7], b⟩) := by
    rw [← rngD_J]
    refine dits1 ?_ (by omega)
    rw [show ((p - 1 : Nat) : Int) = (p : Int) - 1 by omega]
    simp
  have key := dlc_pure (vs := [7]) (mi := dits rng1 (acons (arg (fzO (op2 pSub (dvar 1) (cst (.int 1))))) anil)) (g := gnm 7) (t := (tst (op2 pLt (opd (fzO (op2 pIx (dvar 3) (dvar 7)))) (opd (fzO (op2 pIx (dvar 3) (opd (fzO (op2 pAdd (dvar 7) (cst (.int 1))))))))))) (e := (fzR (dvar 7)))
    (qD fun a => decide (row.getD a 0 < row.getD (a + 1) 0)) h0 (by simp [okA, h7]) (by rw [J_len, List.length_range, sizeLine_eq]; omega) fun d hd => by
      obtain ⟨a, ha, rfl⟩ := mem_J hd
      have ha := List.mem_range.mp ha
      have e1 := atJ (getD_at (l := row) (n := a) (by omega))
      have e2 := atJ1 (getD_at (l := row) (n := a + 1) (by omega))
      have e0 : qD (fun a => decide (row.getD a 0 < row.getD (a + 1) 0)) (.int (a : Int)) = if decide (row.getD a 0 < row.getD (a + 1) 0) = true then some (.int (a : Int)) else none := rfl
      refine ⟨⟨[.bag, .val (.int (p : Int)), s2, .own (J row), s4, s5, s6, .val (.int (a : Int))], b⟩, ⟨[.bag, .val (.int (p : Int)), s2, .own (J row), s4, s5, s6, .val (.int (a : Int))], b⟩, by simp [wipA], ?_⟩
      generalize row.getD a 0 = x at e0 e1
      generalize row.getD (a + 1) 0 = y at e0 e2
      by_cases h : x < y
      · exact .inr ⟨.int (a : Int), ⟨[.bag, .val (.int (p : Int)), s2, .own (J row), s4, s5, s6, .val (.int (a : Int))], b⟩, by simp [e1, e2, h], by simp, by rw [e0, if_pos (by simpa using h)], by simp [wipA], rfl⟩
      · exact .inl ⟨by simp [e1, e2]; omega, by rw [e0, if_neg (by simpa using h)], by simp [wipA], rfl⟩
  rw [qD_J] at key
  exact key
theorem rgl_ok {f : List D → O} {n : Nat} (h : n ≤ 1000) : rgl f 0 (n : Int) = some (f (J (List.range n))) := by
  have g : rgOkB 0 (n : Int) = true := by
    unfold rgOkB
    exact decide_eq_true ⟨by omega, by omega, by omega, by omega, by omega⟩
  unfold rgl
  rw [if_pos g, show ((n : Int) - 0).toNat = n by omega, ← rngD_J]
  rfl
theorem ditsJ {m : M (List Ar)} {w w1 : W} {n : Nat} (h : m w = some ([.p (.int (n : Int))], w1)) (hn : n ≤ 1000000) : dits rng1 m w = some (J (List.range n), w1) := by
  rw [← rngD_J]
  exact dits1 h hn
theorem drgJ {f : List D → O} {m : M D} {w w1 : W} {n : Nat} (h : m w = some (.int (n : Int), w1)) (hn : n ≤ 1000) : drg1 f m w = some (f (J (List.range n)), w1) := by
  rw [e_drg1, h, Option.bind_some, e_intO, Option.bind_some, rgl_ok hn, Option.map_some]
theorem rowOf_nil : rowOf [] = List.range 12 := rfl
theorem rowOf_snoc (w : List Nat) (a : Nat) : rowOf (w ++ [a]) = swp (rowOf w) a := by
  unfold rowOf
  rw [List.foldl_append]
  rfl
theorem inv_range : ∀ (n j : Nat), inv (List.range' j n) = 0
  | 0, j => rfl
  | n + 1, j => by
    rw [List.range'_succ, inv_cons, inv_range n (j + 1)]
    have : (List.filter (fun y => decide (y < j)) (List.range' (j + 1) n)).length = 0 := by
      rw [List.length_eq_zero_iff, List.filter_eq_nil_iff]
      intro y hy
      have := (List.mem_range'_1.mp hy).1
      simp
      omega
    rw [this]
theorem inv_id (n : Nat) : inv (List.range n) = 0 := by
  rw [List.range_eq_range']
  exact inv_range n 0
theorem take_getD {l : List Nat} {p n : Nat} (h : n < p) : (l.take p).getD n 0 = l.getD n 0 := by
  rw [List.getD_eq_getElem?_getD, List.getD_eq_getElem?_getD, List.getElem?_take, if_pos h]
theorem up_start {b : Bg} {p m : Nat} {r : Option (O × Bg)} (h : finS (m__law_up ⟨[.bag, .val (.int (p : Int)), .val (.int (m : Int)), .un, .un, .un, .un, .un], b⟩) = r) : f__law_up [.bag, .p (.int (p : Int)), .p (.int (m : Int))] b = r := by
  rw [show f__law_up = defF 3 8 m__law_up from rfl]
  exact run rfl rfl h
theorem up_ok {b : Bg} {p m : Nat} (hb : BgOk b) (hp : 1 ≤ p) (hp2 : p ≤ 12) (hm1000 : m ≤ 1000) : ∃ (w : List Nat) (b' : Bg), f__law_up [.bag, .p (.int (p : Int)), .p (.int (m : Int))] b = some (.v (.tuple (J w)), b') ∧ (∀ a ∈ w, a + 1 < p) ∧ w.length ≤ m ∧ inv (rowOf w) = w.length ∧ BgOk b' := by
  obtain ⟨B, hB, hm⟩ : ∃ B : M Out, (sseq (sset 6 (dlc [7] (dits rng1 (acons (arg (fzO (op2 pSub (dvar 1) (cst (.int 1))))) anil)) (gnm 7) (tst (op2 pLt (opd (fzO (op2 pIx (dvar 3) (dvar 7)))) (opd (fzO (op2 pIx (dvar 3) (opd (fzO (op2 pAdd (dvar 7) (cst (.int 1)))))))))) (fzR (dvar 7)))) (sseq (sif (tst (op2 pEq (dvar 6) (opd (fzO (dlst anil))))) (ret .bk) snx) (sseq (sset 7 (dcall f__law_pick (acons (argB 0) (acons (arg (fzR (dvar 6))) anil)))) (sseq (sasg (fzO (dlst (acons (arg (fzO (op2 pIx (dvar 3) (opd (fzO (op2 pAdd (dvar 7) (cst (.int 1)))))))) (acons (arg (fzO (op2 pIx (dvar 3) (dvar 7)))) anil)))) (gsl 3 (pso (dvar 7)) (pso (opd (fzO (op2 pAdd (dvar 7) (cst (.int 2)))))))) (sdrop (dmt kL 4 fAppend (acons (arg (fzR (dvar 7))) anil))))))) = B ∧ m__law_up = (sseq (spar2 3 4 (ocons (drg1 ownO (fzR (dvar 1))) (ocons (dlst anil) onil))) (sseq (sfor (dits rng1 (acons (arg (fzR (dvar 2))) anil)) (gnm 5) B) (sret (dcl (p1 pTuple) (rcons (dvar 4) rnil))))) := ⟨_, rfl, rfl⟩
  have loop := fors_gen (g := gnm 5) (b := B)
    (P := fun ds W => ∃ (wd : List Nat) (b1 : Bg) (s5 s6 s7 : S), W = ⟨[.bag, .val (.int (p : Int)), .val (.int (m : Int)), .own (J ((rowOf wd).take p)), .own (J wd), s5, s6, s7], b1⟩ ∧ BgOk b1 ∧ s7.mine = false ∧ (∀ a ∈ wd, a + 1 < p) ∧ wd.length + ds.length ≤ m ∧ inv (rowOf wd) = wd.length)
    (Q := fun o W => o = .nx ∧ ∃ (wd : List Nat) (b1 : Bg) (r : S) (s5 s6 s7 : S), W = ⟨[.bag, .val (.int (p : Int)), .val (.int (m : Int)), r, .own (J wd), s5, s6, s7], b1⟩ ∧ BgOk b1 ∧ (∀ a ∈ wd, a + 1 < p) ∧ wd.length ≤ m ∧ inv (rowOf wd) = wd.length)
    (fun W ⟨wd, b1, s5, s6, s7, e1, e2, e3, e4, e5, e6⟩ => ⟨rfl, wd, b1, _, s5, s6, s7, e1, e2, e4, by simpa using e5, e6⟩)
    (fun d ds W ⟨wd, b1, s5, s6, s7, e1, e2, e3, e4, e5, e6⟩ => by
      subst e1 hB
      have hl : ((rowOf wd).take p).length = p := by rw [List.length_take, row_len]; omega
      have q1 := free_ok (b := b1) (s2 := .val (.int (m : Int))) (s4 := .own (J wd)) (s5 := .val d) (s6 := s6) hp hl (by omega) e3
      have s0 : (0 : Nat) ≤ sizeLine := Nat.zero_le _
      have s2 : 2 ≤ sizeLine := by decide
      generalize hr : (rowOf wd).take p = row at hl q1
      have q2 := pEq_nil (plainJ (ups row (p - 1)))
      cases hu : ups row (p - 1) with
      | nil =>
        rw [hu] at q1 q2
        refine ⟨⟨[.bag, .val (.int (p : Int)), .val (.int (m : Int)), .own (J row), .own (J wd), .val d, s6, s7], b1⟩, .bk, ⟨[.bag, .val (.int (p : Int)), .val (.int (m : Int)), .own (J row), .own (J wd), .val d, .own (J []), s7], b1⟩, by simp, ?_, rfl, wd, b1, _, _, _, _, rfl, e2, e4, by omega, e6⟩
        simp at q1 q2
        simp [q1, q2]
      | cons u us =>
        rw [hu] at q1 q2
        obtain ⟨x, b2, q3, q4, q5⟩ := pick_ok (xs := J (u :: us)) e2 (by simp) (by
          have : (ups row (p - 1)).length ≤ p - 1 := by
            have := List.length_filter_le (fun a => decide (row.getD a 0 < row.getD (a + 1) 0)) (List.range (p - 1))
            rwa [List.length_range] at this
          rw [hu] at this
          rw [J_len]
          omega)
        obtain ⟨a, ha, rfl⟩ := mem_J q4
        rw [← hu] at ha
        have ha2 := List.mem_filter.mp ha
        have ha3 : a < p - 1 := List.mem_range.mp ha2.1
        have ha4 : row.getD a 0 < row.getD (a + 1) 0 := by simpa using ha2.2
        have h1 := atJ (getD_at (l := row) (n := a) (by omega))
        have h2 := atJ1 (getD_at (l := row) (n := a + 1) (by omega))
        have h3 : (0 : Int) ≤ (a : Int) ∧ (a : Int) ≤ (a : Int) + 2 ∧ (a : Int) + 2 ≤ (p : Int) := by omega
        have h4 : ((a : Int) + 2).toNat = a + 2 := by omega
        have key2 : (J row).take a ++ (PyData.int (row.getD (a + 1) 0 : Nat) :: PyData.int (row.getD a 0 : Nat) :: (J row).drop (a + 2)) = J (swp row a) := by
          rw [← swp_cut (by omega), J_app, J_app, J_take, J_drop, List.append_assoc]
          rfl
        have gs := e_gsl 3 (pso (dvar 7)) (pso (opd (fzO (op2 pAdd (dvar 7) (cst (.int 2)))))) [.int (row.getD (a + 1) 0 : Nat), .int (row.getD a 0 : Nat)] (J row) ⟨[.bag, .val (.int (p : Int)), .val (.int (m : Int)), .own (J row), .own (J wd), .val d, .val (.list (J (u :: us))), .val (.int (a : Int))], b2⟩ rfl
        have sz : p + 2 ≤ sizeLine := by rw [sizeLine_eq]; omega
        have fa := f_append (ts := J wd) (d := .int (a : Int)) (by rw [J_len, sizeLine_eq]; rw [List.length_cons] at e5; omega)
        have fa2 : J wd ++ [.int (a : Int)] = J (wd ++ [a]) := (J_app wd [a]).symm
        rw [fa2] at fa
        refine ⟨⟨[.bag, .val (.int (p : Int)), .val (.int (m : Int)), .own (J row), .own (J wd), .val d, s6, s7], b1⟩, .nx, ⟨[.bag, .val (.int (p : Int)), .val (.int (m : Int)), .own (J (swp row a)), .own (J (wd ++ [a])), .val d, .val (.list (J (u :: us))), .val (.int (a : Int))], b2⟩, by simp, ?_, wd ++ [a], b2, .val d, .val (.list (J (u :: us))), .val (.int (a : Int)), ?_, q5, rfl, ?_, ?_, ?_⟩
        · have q2 : pEq (.list (J (u :: us))) (.list []) = some (.v (.bool false)) := q2
          generalize J (u :: us) = fr at q1 q2 q3 gs
          simp only [List.getD_eq_getElem?_getD] at h1 h2 key2 gs
          simp [q1, q2, q3, h1, h2, s2, gs, h3, h4, hl, sz, key2, fa]
        · rw [rowOf_snoc, swp_take (by omega) (by rw [row_len]; omega), hr]
        · intro x hx
          rcases List.mem_append.mp hx with h | h
          · exact e4 x h
          · rw [List.mem_singleton.mp h]
            omega
        · rw [List.length_append, List.length_cons, List.length_nil]
          rw [List.length_cons] at e5
          omega
        · rw [rowOf_snoc, inv_swp_up (by rw [row_len]; omega) (by
            rw [← hr, take_getD (by omega), take_getD (by omega)] at ha4
            exact ha4), e6, List.length_append]
          rfl)
  obtain ⟨o, W, e, rfl, wd, b1, r, s5, s6, s7, rfl, e2, e4, e5, e6⟩ := loop (J (List.range m)) ⟨[.bag, .val (.int (p : Int)), .val (.int (m : Int)), .own (J (List.range p)), .own [], .un, .un, .un], b⟩ ⟨[], b, .un, .un, .un, by
    rw [rowOf_nil, List.take_range, Nat.min_eq_left hp2]
    rfl, hb, rfl, (fun a h => nomatch h), by
    rw [J_len, List.length_range]
    simp, inv_id 12⟩
  refine ⟨wd, b1, up_start ?_, e4, e5, e6, e2⟩
  rw [hm]
  have h0 : dits rng1 (acons (arg (fzR (dvar 2))) anil) ⟨[.bag, .val (.int (p : Int)), .val (.int (m : Int)), .own (J (List.range p)), .own [], .un, .un, .un], b⟩ = some (J (List.range m), ⟨[.bag, .val (.int (p : Int)), .val (.int (m : Int)), .own (J (List.range p)), .own [], .un, .un, .un], b⟩) := ditsJ (by simp) (by omega)
  have hd : drg1 ownO (fzR (dvar 1)) ⟨[.bag, .val (.int (p : Int)), .val (.int (m : Int)), .un, .un, .un, .un, .un], b⟩ = some (ownO (J (List.range p)), ⟨[.bag, .val (.int (p : Int)), .val (.int (m : Int)), .un, .un, .un, .un, .un], b⟩) := drgJ (by simp) (by omega)
  have s0 : (0 : Nat) ≤ sizeLine := Nat.zero_le _
  generalize drg1 ownO (fzR (dvar 1)) = A1 at hd ⊢
  generalize dits rng1 (acons (arg (fzR (dvar 2))) anil) = A2 at h0 ⊢
  have t1 : (spar2 3 4 (ocons A1 (ocons (dlst anil) onil))) ⟨[.bag, .val (.int (p : Int)), .val (.int (m : Int)), .un, .un, .un, .un, .un], b⟩ = some (.nx, ⟨[.bag, .val (.int (p : Int)), .val (.int (m : Int)), .own (J (List.range p)), .own [], .un, .un, .un], b⟩) := by
    simp [hd, ownO]
  have t2 : sfor A2 (gnm 5) B ⟨[.bag, .val (.int (p : Int)), .val (.int (m : Int)), .own (J (List.range p)), .own [], .un, .un, .un], b⟩ = some (.nx, ⟨[.bag, .val (.int (p : Int)), .val (.int (m : Int)), r, .own (J wd), s5, s6, s7], b1⟩) := by
    rw [e_sfor, h0]
    exact e
  have t3 : sret (dcl (p1 pTuple) (rcons (dvar 4) rnil)) ⟨[.bag, .val (.int (p : Int)), .val (.int (m : Int)), r, .own (J wd), s5, s6, s7], b1⟩ = some (.re (.v (.tuple (J wd))), ⟨[.bag, .val (.int (p : Int)), .val (.int (m : Int)), r, .own (J wd), s5, s6, s7], b1⟩) := by
    simp
  rw [e_sseq, t1, Option.bind_some, e_thenN, e_sseq, t2, Option.bind_some, e_thenN, t3, e_finR]
end K03
set_option Elab.async false
set_option linter.all false
set_option maxRecDepth 100000
set_option maxHeartbeats 4000000
set_option pp.maxSteps 3000
namespace K03
open PySem L2 TL
/-! ### words near a word -/
theorem isW {w : List Nat} (h : ∀ a ∈ w, a ≤ 10) : IsW (.tuple (J w)) := ⟨w, rfl, h⟩
theorem J_last (l : List Nat) : (J l).dropLast = J l.dropLast := by
  unfold J
  rw [List.map_dropLast]
theorem cutJ_to (l : List Nat) (n : Nat) : cutL (J l) none (some (n : Int)) = J (l.take n) := by rw [cut_to, J_take]
theorem cutJ_from (l : List Nat) (n : Nat) : cutL (J l) (some (n : Int)) none = J (l.drop n) := by rw [cut_from, J_drop]
theorem cutJ_from2 (l : List Nat) (n : Nat) : cutL (J l) (some ((n : Int) + 2)) none = J (l.drop (n + 2)) := cutJ_from l (n + 2)
theorem cutJ_from3 (l : List Nat) (n : Nat) : cutL (J l) (some ((n : Int) + 3)) none = J (l.drop (n + 3)) := cutJ_from l (n + 3)
theorem cutJ_last (l : List Nat) : cutL (J l) none (some (-1)) = J l.dropLast := by rw [cut_last, J_last]
def LW (c : Nat) (l : List Nat) : Prop := (∀ a ∈ l, a ≤ 10) ∧ l.length ≤ c
theorem LW.take {c : Nat} {l : List Nat} (h : LW c l) (n : Nat) : LW c (l.take n) := ⟨fun a ha => h.1 a (List.mem_of_mem_take ha), Nat.le_trans (List.length_take_le' _ _) h.2⟩
theorem LW.drop {c : Nat} {l : List Nat} (h : LW c l) (n : Nat) : LW c (l.drop n) := ⟨fun a ha => h.1 a (List.mem_of_mem_drop ha), by
  have := h.2
  rw [List.length_drop]
  omega⟩
theorem LW.app {c e : Nat} {l r : List Nat} (h : LW c l) (g : LW e r) : LW (c + e) (l ++ r) := ⟨fun a ha => (List.mem_append.mp ha).elim (h.1 a) (g.1 a), by
  have := h.2
  have := g.2
  rw [List.length_append]
  omega⟩
theorem LW.one {a : Nat} (h : a ≤ 10) : LW 1 [a] := ⟨fun x hx => by rw [List.mem_singleton.mp hx]; exact h, Nat.le_refl _⟩
theorem pAddJ {l r : List Nat} (h : l.length + r.length ≤ 10000) : pAdd (.tuple (J l)) (.tuple (J r)) = some (.v (.tuple (J (l ++ r)))) := by
  rw [p_addT _ _ (by rw [J_len, J_len, sizeLine_eq]; omega), J_app]
theorem J1 (a : Nat) : ([.int (a : Int)] : List D) = J [a] := rfl
theorem J2 (a c : Nat) : ([.int (a : Int), .int (c : Int)] : List D) = J [a, c] := rfl
theorem near_start {b : Bg} {d : D} {r : Option (O × Bg)} (h : finS (m__law_near ⟨[.bag, .val d, .un, .un, .un, .un], b⟩) = r) : f__law_near [.bag, .p d] b = r := by
  rw [show f__law_near = defF 2 6 m__law_near from rfl]
  exact run rfl rfl h
def Ws (ws : List D) : Prop := ∀ d ∈ ws, ∃ l : List Nat, d = .tuple (J l) ∧ LW 1000 l
theorem Ws.snoc {ws : List D} {l : List Nat} (h : Ws ws) (g : LW 1000 l) : Ws (ws ++ [.tuple (J l)]) := fun d hd => (List.mem_append.mp hd).elim (h d) fun e => ⟨l, List.mem_singleton.mp e, g⟩
theorem pNe_tnil {xs : List D} (h : PyData.plainAll xs = true) : pNe (.tuple xs) (.tuple []) = some (.v (.bool (!xs.isEmpty))) := by
  unfold pNe
  rw [if_pos ⟨by rw [PyData.plain]; exact h, by rw [PyData.plain]; rfl, Nat.le_trans (Nat.min_le_right _ _) (by decide)⟩]
  cases xs <;> rfl
theorem near_ok {b : Bg} {w : List Nat} (hb : BgOk b) (hw : LW 300 w) : ∃ (ws : List D) (b' : Bg), f__law_near [.bag, .p (.tuple (J w))] b = some (.s (.own ws), b') ∧ Ws ws ∧ ws.length ≤ 5 ∧ BgOk b' := by
  have hwl := hw.2
  obtain ⟨p, b1, e1, l1, h1⟩ := drawI (n := (w.length : Int) + 1) hb (by omega) (by omega)
  obtain ⟨a, b2, e2, l2, h2⟩ := drawI (n := 11) h1 (by omega) (by omega)
  have s0 : (0 : Nat) ≤ sizeLine := Nat.zero_le _
  have s1 : 1 ≤ sizeLine := by decide
  have s2 : 2 ≤ sizeLine := by decide
  have c1 := cutJ_to w p
  have c2 := cutJ_from w p
  have lp := (hw.take p).2
  have ld := (hw.drop p).2
  have a1 := pAddJ (l := w.take p) (r := [a]) (by simp only [List.length_cons, List.length_nil]; omega)
  have a2 := pAddJ (l := w.take p ++ [a]) (r := w.drop p) (by rw [List.length_append]; simp only [List.length_cons, List.length_nil]; omega)
  have g1 : LW 1000 (w.take p ++ [a] ++ w.drop p) := by
    have := ((hw.take p).app (LW.one (a := a) (by omega))).app (hw.drop p)
    exact ⟨this.1, by have := this.2; omega⟩
  rw [← J1] at a1
  have t1 : m__law_near_1 ⟨[.bag, .val (.tuple (J w)), .un, .un, .un, .un], b⟩ = some (.nx, ⟨[.bag, .val (.tuple (J w)), .val (.int (p : Int)), .val (.int (a : Int)), .un, .un], b2⟩) := by
    unfold m__law_near_1
    simp [e1, e2]
  have t2 : m__law_near_2 ⟨[.bag, .val (.tuple (J w)), .val (.int (p : Int)), .val (.int (a : Int)), .un, .un], b2⟩ = some (.nx, ⟨[.bag, .val (.tuple (J w)), .val (.int (p : Int)), .val (.int (a : Int)), .own [.tuple (J (w.take p ++ [a] ++ w.drop p))], .un], b2⟩) := by
    unfold m__law_near_2
    simp [c1, c2, a1, a2, s1]
  have t3 : ∃ (ws : List D) (x : S) (b3 : Bg), m__law_near_3 ⟨[.bag, .val (.tuple (J w)), .val (.int (p : Int)), .val (.int (a : Int)), .own [.tuple (J (w.take p ++ [a] ++ w.drop p))], .un], b2⟩ = some (.nx, ⟨[.bag, .val (.tuple (J w)), .val (.int (p : Int)), .val (.int (a : Int)), .own ws, x], b3⟩) ∧ Ws ws ∧ ws.length ≤ 4 ∧ BgOk b3 := by
    have g0 : Ws [.tuple (J (w.take p ++ [a] ++ w.drop p))] := fun d hd => ⟨_, List.mem_singleton.mp hd, g1⟩
    have ne := pNe_tnil (plainJ w)
    unfold m__law_near_3
    cases w with
    | nil =>
      rw [J_nil] at ne
      exact ⟨_, .un, b2, by simp [ne, s0], g0, by simp, h2⟩
    | cons u us =>
      obtain ⟨q, b3, e3, l3, h3⟩ := drawI (n := ((u :: us).length : Int)) h2 (by rw [List.length_cons]; omega) (by omega)
      have hq : q < (u :: us).length := by omega
      have k1 := cutJ_to (u :: us) q
      have k2 := cut_from1 (u :: us) q
      have k3 := atJ (getD_at hq)
      have k4 := cutJ_last (u :: us)
      have zq : (u :: us).getD q 0 ≤ 10 := hw.1 _ (by
        rw [List.getD_eq_getElem?_getD, List.getElem?_eq_getElem hq]
        exact List.getElem_mem hq)
      generalize hz : (u :: us).getD q 0 = z at k3 zq
      have wt := (hw.take q).2
      have wd := (hw.drop (q + 1)).2
      have b1' := pAddJ (l := (u :: us).take q) (r := (u :: us).drop (q + 1)) (by omega)
      have b2' := pAddJ (l := (u :: us).take q) (r := [z, z]) (by simp only [List.length_cons, List.length_nil]; omega)
      have b3' := pAddJ (l := (u :: us).take q ++ [z, z]) (r := (u :: us).drop (q + 1)) (by rw [List.length_append]; simp only [List.length_cons, List.length_nil]; omega)
      rw [← J2] at b2'
      have g2 : LW 1000 ((u :: us).take q ++ (u :: us).drop (q + 1)) := by
        have := (hw.take q).app (hw.drop (q + 1))
        exact ⟨this.1, by have := this.2; omega⟩
      have g3 : LW 1000 ((u :: us).take q ++ [z, z] ++ (u :: us).drop (q + 1)) := by
        have t : LW (300 + (1 + 1) + 300) ((u :: us).take q ++ [z, z] ++ (u :: us).drop (q + 1)) := ((hw.take q).app ((LW.one zq).app (LW.one zq))).app (hw.drop (q + 1))
        exact ⟨t.1, by have := t.2; omega⟩
      have g4 : LW 1000 (u :: us).dropLast := ⟨fun x hx => hw.1 x (List.dropLast_subset _ hx), by rw [List.length_dropLast]; omega⟩
      have ne2 : pNe (.tuple (J (u :: us))) (.tuple []) = some (.v (.bool true)) := ne
      have hlen : ((us.length : Int) + 1) = (((u :: us).length : Nat) : Int) := by rw [List.length_cons]; omega
      have f1 : ∀ (ts : List D) (d : D), ts.length ≤ 10 → fAppend (.own ts) [d] = some (.none, .own (ts ++ [d])) := fun ts d h => f_append (by rw [sizeLine_eq]; omega)
      refine ⟨[.tuple (J ((u :: us).take p ++ [a] ++ (u :: us).drop p))] ++ [.tuple (J ((u :: us).take q ++ (u :: us).drop (q + 1)))] ++ [.tuple (J ((u :: us).take q ++ [z, z] ++ (u :: us).drop (q + 1)))] ++ [.tuple (J (u :: us).dropLast)], .val (.int (q : Int)), b3, ?_, ((g0.snoc g2).snoc g3).snoc g4, by simp, h3⟩
      generalize (u :: us).take p ++ [a] ++ (u :: us).drop p = first
      have len : (J (u :: us)).length = (u :: us).length := J_len _
      generalize hl : u :: us = l at *
      have pn : pNeg (.int 1) = some (.v (.int (-1))) := rfl
      simp [ne2, s0, s2, len, e3, k1, k2, k3, k4, b1', b2', b3', f1, pn]
  obtain ⟨ws, x, b3, t3, gw, lw, h3⟩ := t3
  have t4 : ∃ (ws4 : List D) (x4 : S) (b4 : Bg), m__law_near_4 ⟨[.bag, .val (.tuple (J w)), .val (.int (p : Int)), .val (.int (a : Int)), .own ws, x], b3⟩ = some (.nx, ⟨[.bag, .val (.tuple (J w)), .val (.int (p : Int)), .val (.int (a : Int)), .own ws4, x4], b4⟩) ∧ Ws ws4 ∧ ws4.length ≤ 5 ∧ BgOk b4 := by
    unfold m__law_near_4
    by_cases h1l : 1 < w.length
    · obtain ⟨q, b4, e4, l4, h4⟩ := drawI (n := (w.length : Int) - 1) h3 (by omega) (by omega)
      have k1 := cutJ_to w q
      have k2 := cutJ_from2 w q
      have hq : q + 1 < w.length := by omega
      have k3 := atJ (getD_at (l := w) (n := q) (by omega))
      have k4 := atJ1 (getD_at hq)
      have mem : ∀ n, n < w.length → w.getD n 0 ≤ 10 := fun n hn => hw.1 _ (by
        rw [List.getD_eq_getElem?_getD, List.getElem?_eq_getElem hn]
        exact List.getElem_mem hn)
      have zq := mem q (by omega)
      have yq := mem (q + 1) hq
      generalize w.getD q 0 = z at k3 zq
      generalize w.getD (q + 1) 0 = y at k4 yq
      have wt := (hw.take q).2
      have wd := (hw.drop (q + 2)).2
      have b2' := pAddJ (l := w.take q) (r := [y, z]) (by simp only [List.length_cons, List.length_nil]; omega)
      have b3' := pAddJ (l := w.take q ++ [y, z]) (r := w.drop (q + 2)) (by rw [List.length_append]; simp only [List.length_cons, List.length_nil]; omega)
      rw [← J2] at b2'
      have g3 : LW 1000 (w.take q ++ [y, z] ++ w.drop (q + 2)) := by
        have t : LW (300 + (1 + 1) + 300) (w.take q ++ [y, z] ++ w.drop (q + 2)) := ((hw.take q).app ((LW.one yq).app (LW.one zq))).app (hw.drop (q + 2))
        exact ⟨t.1, by have := t.2; omega⟩
      have f1 : fAppend (.own ws) [.tuple (J (w.take q ++ [y, z] ++ w.drop (q + 2)))] = some (.none, .own (ws ++ [.tuple (J (w.take q ++ [y, z] ++ w.drop (q + 2)))])) := f_append (by rw [sizeLine_eq]; omega)
      have hi : (1 : Int) < (w.length : Int) := by omega
      refine ⟨ws ++ [.tuple (J (w.take q ++ [y, z] ++ w.drop (q + 2)))], .val (.int (q : Int)), b4, ?_, gw.snoc g3, by rw [List.length_append]; simp only [List.length_cons, List.length_nil]; omega, h4⟩
      generalize hR : w.take q ++ [y, z] ++ w.drop (q + 2) = R at *
      simp [hi, h1l, e4, k1, k2, k3, k4, s2, b2', b3', f1]
    · have hi : ¬ (1 : Int) < (w.length : Int) := by omega
      exact ⟨ws, x, b3, by simp [hi, h1l], gw, by omega, h3⟩
  obtain ⟨ws4, x4, b4, t4, gw4, lw4, h4⟩ := t4
  have t5 : m__law_near_5 ⟨[.bag, .val (.tuple (J w)), .val (.int (p : Int)), .val (.int (a : Int)), .own ws4, x4], b4⟩ = some (.re (.s (.own ws4)), ⟨[.bag, .val (.tuple (J w)), .val (.int (p : Int)), .val (.int (a : Int)), .own ws4, x4], b4⟩) := by
    unfold m__law_near_5
    simp
  refine ⟨ws4, b4, near_start ?_, gw4, lw4, h4⟩
  rw [show m__law_near = sseq m__law_near_1 (sseq m__law_near_2 (sseq m__law_near_3 (sseq m__law_near_4 m__law_near_5))) from rfl]
  rw [e_sseq, t1, Option.bind_some, e_thenN, e_sseq, t2, Option.bind_some, e_thenN, e_sseq, t3, Option.bind_some, e_thenN, e_sseq, t4, Option.bind_some, e_thenN, t5, e_finR]
end K03
set_option Elab.async false
set_option linter.all false
set_option maxRecDepth 100000
set_option maxHeartbeats 4000000
set_option pp.maxSteps 3000
namespace K03
open PySem L2 TL
def shD (n : Nat) : D → Option D
  | .int j => some (.int ((n : Int) + j))
  | _ => none
theorem shD_J (n : Nat) : ∀ l : List Nat, (J l).filterMap (shD n) = J (l.map fun k => n + k)
  | [] => rfl
  | x :: l => by
    have e0 : shD n (.int (x : Int)) = some (.int ((n + x : Nat) : Int)) := rfl
    rw [J_cons, List.filterMap_cons_some e0, shD_J n l]
    rfl
theorem longer_start {b : Bg} {d : D} {r : Option (O × Bg)} (h : finS (m__law_longer ⟨[.bag, .val d, .un, .un], b⟩) = r) : f__law_longer [.bag, .p d] b = r := by
  rw [show f__law_longer = defF 2 4 m__law_longer from rfl]
  exact run rfl rfl h
theorem longer_ok {b : Bg} {o : List Nat} (hb : BgOk b) (ho : o.length ≤ 12) : ∃ (r : Nat) (b' : Bg), f__law_longer [.bag, .p (.tuple (J o))] b = some (.v (.tuple (J (o ++ (List.range r).map fun k => o.length + k))), b') ∧ o.length + r ≤ 12 ∧ BgOk b' := by
  have c1 : (12 : Int) - (o.length : Int) = ((12 - o.length : Nat) : Int) := by omega
  obtain ⟨r, b1, e1, l1, h1⟩ := drawI (n := (12 : Int) - (o.length : Int) + 1) hb (by omega) (by omega)
  have t1 : m__law_longer_1 ⟨[.bag, .val (.tuple (J o)), .un, .un], b⟩ = some (.nx, ⟨[.bag, .val (.tuple (J o)), .val (.int ((12 : Int) - (o.length : Int))), .un], b⟩) := by
    unfold m__law_longer_1
    simp
  have h0 : dits rng1 (acons (arg (fzO (dcall f__law_draw (acons (argB 0) (acons (arg (fzO (op2 pAdd (dvar 2) (cst (.int 1))))) anil))))) anil) ⟨[.bag, .val (.tuple (J o)), .val (.int ((12 : Int) - (o.length : Int))), .un], b⟩ = some (J (List.range r), ⟨[.bag, .val (.tuple (J o)), .val (.int ((12 : Int) - (o.length : Int))), .un], b1⟩) := ditsJ (by simp [e1]) (by omega)
  have key := dlc_pure (vs := [3]) (g := gnm 3) (t := ret true) (e := (fzO (op2 pAdd (opd (fzO (dcl (p1 pLen) (rcons (dvar 1) rnil)))) (dvar 3)))) (shD o.length) h0 rfl (by rw [J_len, List.length_range, sizeLine_eq]; omega) fun d hd => by
    obtain ⟨k, _, rfl⟩ := mem_J hd
    exact ⟨⟨[.bag, .val (.tuple (J o)), .val (.int ((12 : Int) - (o.length : Int))), .val (.int (k : Int))], b1⟩, ⟨[.bag, .val (.tuple (J o)), .val (.int ((12 : Int) - (o.length : Int))), .val (.int (k : Int))], b1⟩, by simp [wipA], .inr ⟨.int ((o.length : Int) + (k : Int)), ⟨[.bag, .val (.tuple (J o)), .val (.int ((12 : Int) - (o.length : Int))), .val (.int (k : Int))], b1⟩, by simp, by simp, rfl, rfl, rfl⟩⟩
  rw [shD_J] at key
  have ad := pAddJ (l := o) (r := (List.range r).map fun k => o.length + k) (by rw [List.length_map, List.length_range]; omega)
  have t2 : m__law_longer_2 ⟨[.bag, .val (.tuple (J o)), .val (.int ((12 : Int) - (o.length : Int))), .un], b⟩ = some (.re (.v (.tuple (J (o ++ (List.range r).map fun k => o.length + k)))), ⟨[.bag, .val (.tuple (J o)), .val (.int ((12 : Int) - (o.length : Int))), .un], b1⟩) := by
    unfold m__law_longer_2
    generalize dlc [3] _ _ _ _ = L at key ⊢
    generalize (List.range r).map (fun k => o.length + k) = tl at key ad ⊢
    simp [key, ad]
  refine ⟨r, b1, longer_start ?_, by omega, h1⟩
  rw [show m__law_longer = sseq m__law_longer_1 m__law_longer_2 from rfl]
  rw [e_sseq, t1, Option.bind_some, e_thenN, t2, e_finR]
end K03
set_option Elab.async false
set_option linter.all false
set_option maxRecDepth 100000
set_option maxHeartbeats 4000000
set_option pp.maxSteps 3000
namespace K03
open PySem L2 TL
/-! ### orders -/
theorem f_popAt {l : List Nat} {n : Nat} (h : n < l.length) (hl : l.length ≤ 1000) : fPopAt (.own (J l)) [.int (n : Int)] = some (.int (l.getD n 0 : Nat), .own (J (l.eraseIdx n))) := by
  have e1 : seqIndex? (n : Int) (J l).length = some n := (ixN_seq (ixN_lt (by rw [J_len]; exact h))).1
  have e2 : (J l)[n]? = some (.int (l.getD n 0 : Nat)) := J_at (getD_at h)
  have e3 : (J l).eraseIdx n = J (l.eraseIdx n) := by
    unfold J
    rw [List.eraseIdx_eq_take_drop_succ, List.eraseIdx_eq_take_drop_succ, List.map_append, List.map_take, List.map_drop]
  have g : -(2 ^ 63) ≤ (n : Int) ∧ (n : Int) < 2 ^ 63 := ⟨by omega, by omega⟩
  unfold fPopAt
  simp only [g, and_self, if_true, e1, e2, Option.map_some, e3]
theorem order_start {b : Bg} {r : Option (O × Bg)} (h : finS (m__law_order ⟨[.bag, .un, .un, .un, .un, .un], b⟩) = r) : f__law_order [.bag] b = r := by
  rw [show f__law_order = defF 1 6 m__law_order from rfl]
  exact run rfl rfl h
theorem erase_perm {l : List Nat} {n : Nat} (h : n < l.length) : (l.getD n 0 :: l.eraseIdx n).Perm l := by
  have e : l.getD n 0 = l[n] := by
    rw [List.getD_eq_getElem?_getD, List.getElem?_eq_getElem h]
    rfl
  rw [e, List.eraseIdx_eq_take_drop_succ]
  have h2 : l = l.take n ++ l[n] :: l.drop (n + 1) := by
    rw [← List.drop_eq_getElem_cons h, List.take_append_drop]
  refine List.Perm.trans ?_ (List.Perm.of_eq h2.symm)
  exact List.perm_middle.symm
theorem popst {A : M (List Ar)} {f : Mth} {b1 b2 : Bg} {s0 s1 s2 s4 s5 : S} {ts : List D} {d : D} (a1 : A ⟨[s0, s1, s2, .own ts, s4, s5], b1⟩ = some ([.p d], ⟨[s0, s1, s2, .own ts, s4, s5], b2⟩)) : dmt kL 3 f A ⟨[s0, s1, s2, .own ts, s4, s5], b1⟩ = (f (.own ts) [d]).map fun p => (p.1, ⟨[s0, s1, s2, p.2, s4, s5], b2⟩) := by
  rw [e_dmtL 3 f A _ ts rfl, a1]
  rfl
theorem appst {A : M D} {f : Mth} {b1 b2 : Bg} {s0 s1 s2 s3 s3' s5 : S} {ts ts' : List D} {d x : D} (a1 : A ⟨[s0, s1, s2, s3, .own ts, s5], b1⟩ = some (d, ⟨[s0, s1, s2, s3', .own ts, s5], b2⟩)) (hf : f (.own ts) [d] = some (x, .own ts')) : sdrop (dmt kL 4 f (acons (arg A) anil)) ⟨[s0, s1, s2, s3, .own ts, s5], b1⟩ = some (.nx, ⟨[s0, s1, s2, s3', .own ts', s5], b2⟩) := by
  simp [a1, hf]
theorem order_body {b1 : Bg} {n way : Nat} {fo re : List Nat} {d : D} (hl : fo.length + re.length ≤ 12) (h0 : 0 < re.length) (e4 : BgOk b1) : ∃ (q : Nat) (b2 : Bg), q < re.length ∧ BgOk b2 ∧ m__law_order_6_b ⟨[.bag, .val (.int (n : Int)), .val (.int (way : Int)), .own (J re), .own (J fo), .val d], b1⟩ = some (.nx, ⟨[.bag, .val (.int (n : Int)), .val (.int (way : Int)), .own (J (re.eraseIdx q)), .own (J (fo ++ [re.getD q 0])), .val d], b2⟩) := by
  obtain ⟨q, b2, z1, z2, z3⟩ := drawI (n := (re.length : Int)) e4 (by omega) (by omega)
  have z4 := f_popAt (l := re) (n := q) (by omega) (by omega)
  have fa := f_append (ts := J fo) (d := .int (re.getD q 0 : Nat)) (by rw [J_len, sizeLine_eq]; omega)
  have fa2 : J fo ++ [.int (re.getD q 0 : Nat)] = J (fo ++ [re.getD q 0]) := (J_app fo [re.getD q 0]).symm
  rw [fa2] at fa
  refine ⟨q, b2, by omega, z3, ?_⟩
  have a1 : (acons (arg (fzO (dcall f__law_draw (acons (argB 0) (acons (arg (fzO (dcl (p1 pLen) (rcons (dvar 3) rnil)))) anil))))) anil) ⟨[.bag, .val (.int (n : Int)), .val (.int (way : Int)), .own (J re), .own (J fo), .val d], b1⟩ = some ([.p (.int (q : Int))], ⟨[.bag, .val (.int (n : Int)), .val (.int (way : Int)), .own (J re), .own (J fo), .val d], b2⟩) := by
    simp [z1]
  have a2 := popst (f := fPopAt) a1
  rw [z4, Option.map_some] at a2
  exact appst a2 fa
theorem order_loop {b : Bg} {n way : Nat} (hb : BgOk b) (hn : n ≤ 12) : ∃ (o : List Nat) (b' : Bg) (y r : S), m__law_order_6 ⟨[.bag, .val (.int (n : Int)), .val (.int (way : Int)), .own (J (List.range n)), .own [], .un], b⟩ = some (.nx, ⟨[.bag, .val (.int (n : Int)), .val (.int (way : Int)), r, .own (J o), y], b'⟩) ∧ o.Perm (List.range n) ∧ BgOk b' := by
  have h0 : dits rng1 (acons (arg (fzR (dvar 1))) anil) ⟨[.bag, .val (.int (n : Int)), .val (.int (way : Int)), .own (J (List.range n)), .own [], .un], b⟩ = some (J (List.range n), ⟨[.bag, .val (.int (n : Int)), .val (.int (way : Int)), .own (J (List.range n)), .own [], .un], b⟩) := ditsJ (by simp) (by omega)
  obtain ⟨o, W, e, rfl, fo, b1, y, r, rfl, hp, h1⟩ := fors_gen (g := gnm 5) (b := m__law_order_6_b)
    (P := fun ds W => ∃ (fo re : List Nat) (b1 : Bg) (y : S), W = ⟨[.bag, .val (.int (n : Int)), .val (.int (way : Int)), .own (J re), .own (J fo), y], b1⟩ ∧ (fo ++ re).Perm (List.range n) ∧ re.length = ds.length ∧ BgOk b1)
    (Q := fun o W => o = .nx ∧ ∃ (fo : List Nat) (b1 : Bg) (y r : S), W = ⟨[.bag, .val (.int (n : Int)), .val (.int (way : Int)), r, .own (J fo), y], b1⟩ ∧ fo.Perm (List.range n) ∧ BgOk b1)
    (fun W ⟨fo, re, b1, y, e1, e2, e3, e4⟩ => by
      have : re = [] := List.length_eq_zero_iff.mp e3
      subst this
      rw [List.append_nil] at e2
      exact ⟨rfl, fo, b1, y, _, e1, e2, e4⟩)
    (fun d ds W ⟨fo, re, b1, y, e1, e2, e3, e4⟩ => by
      subst e1
      have hl := e2.length_eq
      rw [List.length_append, List.length_range] at hl
      rw [List.length_cons] at e3
      obtain ⟨q, b2, hq, z3, ob⟩ := order_body (n := n) (way := way) (fo := fo) (re := re) (d := d) (b1 := b1) (by omega) (by omega) e4
      have pe := erase_perm (l := re) (n := q) hq
      refine ⟨⟨[.bag, .val (.int (n : Int)), .val (.int (way : Int)), .own (J re), .own (J fo), .val d], b1⟩, .nx, ⟨[.bag, .val (.int (n : Int)), .val (.int (way : Int)), .own (J (re.eraseIdx q)), .own (J (fo ++ [re.getD q 0])), .val d], b2⟩, by simp, ob, fo ++ [re.getD q 0], re.eraseIdx q, b2, _, rfl, ?_, ?_, z3⟩
      · rw [List.append_assoc]
        exact (List.Perm.append_left fo pe).trans e2
      · rw [List.length_eraseIdx_of_lt (by omega)]
        omega) (J (List.range n)) ⟨[.bag, .val (.int (n : Int)), .val (.int (way : Int)), .own (J (List.range n)), .own [], .un], b⟩ ⟨[], List.range n, b, .un, rfl, List.Perm.refl _, by rw [J_len], hb⟩
  refine ⟨fo, b1, y, r, ?_, hp, h1⟩
  unfold m__law_order_6
  rw [e_sfor, h0]
  exact e
end K03
set_option Elab.async false
set_option linter.all false
set_option maxRecDepth 100000
set_option maxHeartbeats 4000000
set_option pp.maxSteps 3000
namespace K03
open PySem L2 TL
/-! ### places exchanged, values exchanged -/
def tr (a i : Nat) : Nat := if i = a then a + 1 else if i = a + 1 then a else i
theorem tr_tr (a i : Nat) : tr a (tr a i) = i := by
  unfold tr
  split
  · rw [if_neg (by omega), if_pos rfl]
    omega
  · split
    · rw [if_pos rfl]
      omega
    · rfl
theorem swp_get {r : List Nat} {a : Nat} (h : a + 1 < r.length) (i : Nat) : (swp r a)[i]? = r[tr a i]? := by
  unfold swp tr
  rw [List.getElem?_set, List.getElem?_set, List.length_set]
  by_cases h1 : a + 1 = i
  · subst h1
    rw [if_pos rfl, if_pos h, if_neg (by omega), if_pos rfl]
    exact (getD_at (by omega)).symm
  · rw [if_neg h1]
    by_cases h2 : a = i
    · subst h2
      rw [if_pos rfl, if_pos (by omega), if_pos rfl]
      exact (getD_at h).symm
    · rw [if_neg h2, if_neg (by omega), if_neg (by omega)]
def ex (x y z : Nat) : Nat := if z = x then y else if z = y then x else z
theorem swp_map (f : Nat → Nat) {r : List Nat} {a : Nat} (h : a + 1 < r.length) : swp (r.map f) a = (swp r a).map f := by
  apply List.ext_getElem?
  intro i
  rw [swp_get (by rw [List.length_map]; exact h), List.getElem?_map, List.getElem?_map, swp_get h]
theorem fold_map (f : Nat → Nat) : ∀ {w r : List Nat}, (∀ a ∈ w, a + 1 < r.length) → w.foldl swp (r.map f) = (w.foldl swp r).map f
  | [], r, _ => rfl
  | a :: w, r, h => by
    rw [List.foldl_cons, List.foldl_cons, swp_map f (h a List.mem_cons_self)]
    exact fold_map f fun x hx => by rw [swp_len]; exact h x (List.mem_cons_of_mem _ hx)
theorem swp_perm {r : List Nat} {a : Nat} (h : a + 1 < r.length) : (swp r a).Perm r := by
  obtain ⟨l1, x, y, l2, rfl, rfl⟩ := split2 h
  rw [swp_at]
  exact (List.Perm.refl l1).append (List.Perm.swap x y l2)
theorem fold_perm : ∀ {w r : List Nat}, (∀ a ∈ w, a + 1 < r.length) → (w.foldl swp r).Perm r
  | [], r, _ => List.Perm.refl _
  | a :: w, r, h => by
    rw [List.foldl_cons]
    exact (fold_perm fun x hx => by rw [swp_len]; exact h x (List.mem_cons_of_mem _ hx)).trans (swp_perm (h a List.mem_cons_self))
theorem nd_inj {l : List Nat} (h : l.Nodup) {i j x : Nat} (h1 : l[i]? = some x) (h2 : l[j]? = some x) : i = j :=
  (List.getElem?_inj (List.getElem?_eq_some_iff.mp h1).1 h).mp (h1.trans h2.symm)
theorem swp_ex {r : List Nat} {a x y : Nat} (nd : r.Nodup) (h : a + 1 < r.length) (hx : r[a]? = some x) (hy : r[a + 1]? = some y) : swp r a = r.map (ex x y) := by
  apply List.ext_getElem?
  intro i
  rw [swp_get h, List.getElem?_map]
  unfold tr
  by_cases h1 : i = a
  · subst h1
    rw [if_pos rfl, hx, hy]
    show _ = some (ex x y x)
    unfold ex
    rw [if_pos rfl]
  · rw [if_neg h1]
    by_cases h2 : i = a + 1
    · subst h2
      rw [if_pos rfl, hx, hy]
      show _ = some (ex x y y)
      unfold ex
      by_cases e : y = x
      · rw [if_pos e, e]
      · rw [if_neg e, if_pos rfl]
    · rw [if_neg h2]
      cases e : r[i]? with
      | none => rfl
      | some z =>
        have n1 : z ≠ x := fun q => h1 (nd_inj nd (q ▸ e) hx)
        have n2 : z ≠ y := fun q => h2 (nd_inj nd (q ▸ e) hy)
        show _ = some (ex x y z)
        unfold ex
        rw [if_neg n1, if_neg n2]
theorem ex_ex (x y z : Nat) : ex x y (ex x y z) = z := by
  unfold ex
  by_cases h1 : z = x
  · rw [if_pos h1]
    by_cases h2 : y = x
    · rw [if_pos h2, h2, h1]
    · rw [if_neg h2, if_pos rfl, h1]
  · rw [if_neg h1]
    by_cases h2 : z = y
    · rw [if_pos h2, if_pos rfl, h2]
    · rw [if_neg h2, if_neg h1, if_neg h2]
theorem ex_comm (x y z : Nat) : ex x y z = ex y x z := by
  unfold ex
  repeat' split
  all_goals omega
/-- where two values cross, the letter may be left out -/
theorem exch : ∀ {w r : List Nat} {x y i j : Nat}, r.Nodup → (∀ a ∈ w, a + 1 < r.length) → i < j → r[i]? = some y → r[j]? = some x →
    (∃ k l : Nat, k < l ∧ (w.foldl swp r)[k]? = some x ∧ (w.foldl swp r)[l]? = some y) →
    ∃ p, p < w.length ∧ (w.take p ++ w.drop (p + 1)).foldl swp r = (w.foldl swp r).map (ex x y)
  | [], r, x, y, i, j, nd, _, hij, hi, hj, ⟨k, l, hkl, hk, hl⟩ => by
    have e1 := nd_inj nd hi hl
    have e2 := nd_inj nd hj hk
    omega
  | b :: w, r, x, y, i, j, nd, hw, hij, hi, hj, q => by
    have hb := hw b List.mem_cons_self
    have hw2 : ∀ a ∈ w, a + 1 < (swp r b).length := fun a ha => by rw [swp_len]; exact hw a (List.mem_cons_of_mem _ ha)
    by_cases hc : i = b ∧ j = b + 1
    · obtain ⟨rfl, rfl⟩ := hc
      refine ⟨0, Nat.succ_pos _, ?_⟩
      have e := swp_ex nd hb hi hj
      have e2 : r = (swp r i).map (ex x y) := by
        rw [e, List.map_map]
        have : (ex x y ∘ ex y x) = id := funext fun z => by
          have : ex x y = ex y x := funext fun z => ex_comm x y z
          rw [this]
          exact ex_ex y x z
        rw [this, List.map_id]
      rw [List.take_zero, List.nil_append, List.foldl_cons]
      show w.foldl swp r = _
      conv => lhs; rw [e2]
      exact fold_map _ hw2
    · have hi2 : (swp r b)[tr b i]? = some y := by rw [swp_get hb, tr_tr]; exact hi
      have hj2 : (swp r b)[tr b j]? = some x := by rw [swp_get hb, tr_tr]; exact hj
      have hlt : tr b i < tr b j := by
        unfold tr
        repeat' split
        all_goals omega
      obtain ⟨p, hp, e⟩ := exch ((swp_perm hb).nodup_iff.mpr nd) hw2 hlt hi2 hj2 q
      exact ⟨p + 1, Nat.succ_lt_succ hp, e⟩
/-! ### what is fixed behind -/
theorem bareN_pre (l : List Nat) (t : List Nat) : ∀ n, n ≤ l.length → bareN (cs (l ++ t)) n = bareN (cs l) n
  | 0, _ => rfl
  | n + 1, h => by
    have e : (cs (l ++ t))[n]? = (cs l)[n]? := by
      unfold cs
      rw [List.map_append, List.getElem?_append_left (by rw [List.length_map]; omega)]
    unfold bareN
    rw [e, bareN_pre l t n (by omega)]
theorem bare_snoc (l : List Nat) (x : Nat) : bareL (l ++ [x]) = if l ≠ [] ∧ x = l.length then bareL l else l ++ [x] := by
  unfold bareL
  rw [List.length_append, List.length_singleton, bareN]
  have e : (cs (l ++ [x]))[l.length]? = some (x : Int) := by
    unfold cs
    rw [List.map_append, List.getElem?_append_right (by rw [List.length_map]; exact Nat.le_refl _), List.length_map, Nat.sub_self]
    rfl
  rw [e, bareN_pre l [x] _ (Nat.le_refl _)]
  by_cases h : l ≠ [] ∧ x = l.length
  · rw [if_pos h, if_pos ⟨List.length_pos_iff.mpr h.1, by rw [h.2]⟩, List.take_append_of_le_length (bareN_le _ _)]
  · rw [if_neg h, if_neg, List.take_of_length_le (by simp)]
    rintro ⟨h1, h2⟩
    refine h ⟨List.length_pos_iff.mp h1, ?_⟩
    have := Option.some.inj h2
    omega
theorem bare_nil : bareL [] = [] := rfl
theorem snoc_cases (l : List Nat) : l = [] ∨ ∃ a x, l = a ++ [x] := by
  rcases l.eq_nil_or_concat with h | ⟨a, x, h⟩
  · exact .inl h
  · exact .inr ⟨a, x, by rw [h, List.concat_eq_append]⟩
/-- a row is its bare part and what is fixed -/
theorem bare_ext : ∀ (n : Nat) (l : List Nat), l.length = n → ∃ k, l = bareL l ++ List.range' (bareL l).length k
  | 0, l, h => ⟨0, by rw [List.length_eq_zero_iff.mp h]; rfl⟩
  | n + 1, l, h => by
    rcases snoc_cases l with rfl | ⟨a, x, rfl⟩
    · cases h
    · rw [bare_snoc]
      by_cases hc : a ≠ [] ∧ x = a.length
      · rw [if_pos hc]
        rw [List.length_append, List.length_singleton] at h
        obtain ⟨k, e⟩ := bare_ext n a (by omega)
        refine ⟨k + 1, ?_⟩
        have e3 : a.length = (bareL a).length + k := by
          have := congrArg List.length e
          rwa [List.length_append, List.length_range'] at this
        rw [List.range'_concat, ← List.append_assoc, ← e, hc.2, e3, Nat.one_mul]
      · rw [if_neg hc]
        exact ⟨0, by simp⟩
theorem bare_app (l : List Nat) (h : l ≠ []) : ∀ k, bareL (l ++ List.range' l.length k) = bareL l
  | 0 => by simp
  | k + 1 => by
    rw [List.range'_concat, ← List.append_assoc, bare_snoc, if_pos, bare_app l h k]
    refine ⟨by simp [h], ?_⟩
    rw [List.length_append, List.length_range', Nat.one_mul]
theorem bare_ne {l : List Nat} (h : l ≠ []) : bareL l ≠ [] := by
  intro e
  obtain ⟨k, e2⟩ := bare_ext _ l rfl
  rw [e] at e2
  cases k with
  | zero => exact h e2
  | succ k =>
    have : bareL l ≠ [] := by
      rw [e2, List.length_nil, List.nil_append, List.range'_succ]
      have h1 := bare_app [0] (by simp) k
      rw [show ([0] : List Nat).length = 1 from rfl] at h1
      rw [show 0 :: List.range' (0 + 1) k = [0] ++ List.range' 1 k from rfl, h1]
      decide
    exact this e
theorem bare_bare (l : List Nat) : bareL (bareL l) = bareL l := by
  by_cases h : l = []
  · rw [h]
    rfl
  · obtain ⟨k, e⟩ := bare_ext _ l rfl
    have := bare_app (bareL l) (bare_ne h) k
    rw [← e] at this
    exact this.symm
/-! ### falls -/
def desc (q : List Nat) : List Nat := (List.range (q.length - 1)).filter fun a => decide (q.getD (a + 1) 0 < q.getD a 0)
theorem mem_desc {q : List Nat} {a : Nat} : a ∈ desc q ↔ a + 1 < q.length ∧ q.getD (a + 1) 0 < q.getD a 0 := by
  unfold desc
  rw [List.mem_filter, List.mem_range, decide_eq_true_eq]
  exact ⟨fun ⟨h1, h2⟩ => ⟨by omega, h2⟩, fun ⟨h1, h2⟩ => ⟨by omega, h2⟩⟩
theorem sorted_range {q : List Nat} {n : Nat} (hp : q.Perm (List.range n)) (hd : desc q = []) : q = List.range n := by
  have hl : q.length = n := by rw [hp.length_eq, List.length_range]
  have nd : q.Nodup := hp.nodup_iff.mpr List.nodup_range
  have step : ∀ a, a + 1 < q.length → q.getD a 0 < q.getD (a + 1) 0 := fun a ha => by
    have h1 : ¬ q.getD (a + 1) 0 < q.getD a 0 := fun h => by
      have : a ∈ desc q := mem_desc.mpr ⟨ha, h⟩
      rw [hd] at this
      cases this
    have h2 : q.getD a 0 ≠ q.getD (a + 1) 0 := fun h => by
      have e1 := getD_at (l := q) (n := a) (by omega)
      have e2 := getD_at (l := q) (n := a + 1) ha
      rw [h] at e1
      have := nd_inj nd e1 e2
      omega
    omega
  have lt : ∀ a, a < q.length → q.getD a 0 < n := fun a ha => by
    have := List.mem_of_getElem? (getD_at ha)
    exact List.mem_range.mp (hp.mem_iff.mp this)
  have lo : ∀ a, a < q.length → a ≤ q.getD a 0 := fun a => by
    induction a with
    | zero => exact fun _ => Nat.zero_le _
    | succ a ih =>
      intro h
      have := ih (by omega)
      have := step a h
      omega
  have hi : ∀ k a, a + k + 1 = q.length → q.getD a 0 ≤ a := fun k => by
    induction k with
    | zero =>
      intro a h
      have := lt a (by omega)
      omega
    | succ k ih =>
      intro a h
      have := ih (a + 1) (by omega)
      have := step a (by omega)
      omega
  apply List.ext_getElem?
  intro i
  by_cases h : i < n
  · rw [getD_at (by omega), List.getElem?_range h]
    have := lo i (by omega)
    have := hi (n - 1 - i) i (by omega)
    congr 1
    omega
  · rw [List.getElem?_eq_none (by omega), List.getElem?_eq_none (by rw [List.length_range]; omega)]
/-- the first falls, one after another -/
def sortW : Nat → List Nat → List Nat
  | 0, _ => []
  | k + 1, q => match desc q with
    | [] => []
    | a :: _ => a :: sortW k (swp q a)
theorem sortW_nil {k : Nat} {q : List Nat} (h : desc q = []) : sortW k q = [] := by
  cases k with
  | zero => rfl
  | succ k => rw [sortW, h]
theorem sortW_cons {k a : Nat} {q r : List Nat} (h : desc q = a :: r) : sortW (k + 1) q = a :: sortW k (swp q a) := by
  rw [sortW, h]
theorem sortW_ok : ∀ (k : Nat) (q : List Nat) (n : Nat), q.Perm (List.range n) → inv q ≤ k →
    (sortW k q).foldl swp q = List.range n ∧ (sortW k q).length = inv q ∧ ∀ a ∈ sortW k q, a + 1 < q.length
  | k, q, n, hp, hk => by
    cases hd : desc q with
    | nil =>
      have e := sorted_range hp hd
      rw [sortW_nil hd]
      refine ⟨e, ?_, fun a h => nomatch h⟩
      rw [e, inv_id]
      rfl
    | cons a r =>
      have hm : a ∈ desc q := by rw [hd]; exact List.mem_cons_self
      obtain ⟨h1, h2⟩ := mem_desc.mp hm
      have hi := inv_swp_down h1 h2
      cases k with
      | zero => omega
      | succ k =>
        obtain ⟨q1, q2, q3⟩ := sortW_ok k (swp q a) n ((swp_perm h1).trans hp) (by omega)
        rw [sortW_cons hd]
        refine ⟨q1, ?_, fun x hx => ?_⟩
        · rw [List.length_cons, q2, hi]
        · rcases List.mem_cons.mp hx with rfl | hx
          · exact h1
          · have := q3 x hx
            rwa [swp_len] at this
theorem inv_le (n : Nat) : ∀ (w r : List Nat), r.length = n → (∀ a ∈ w, a + 1 < n) → r.Nodup → inv (w.foldl swp r) ≤ inv r + w.length
  | [], r, _, _, _ => Nat.le_refl _
  | a :: w, r, hl, h, nd => by
    have ha := h a List.mem_cons_self
    have ih := inv_le n w (swp r a) (by rw [swp_len]; exact hl) (fun x hx => h x (List.mem_cons_of_mem _ hx)) ((swp_perm (by omega)).nodup_iff.mpr nd)
    rw [List.foldl_cons, List.length_cons]
    have : inv (swp r a) ≤ inv r + 1 := by
      rcases Nat.lt_trichotomy (r.getD a 0) (r.getD (a + 1) 0) with c | c | c
      · rw [inv_swp_up (by omega) c]
        exact Nat.le_refl _
      · have e1 := getD_at (l := r) (n := a) (by omega)
        have e2 := getD_at (l := r) (n := a + 1) (by omega)
        rw [c] at e1
        have := nd_inj nd e1 e2
        omega
      · have := inv_swp_down (by omega) c
        omega
    omega
/-! ### an order and the one that undoes it -/
structure Un (s q : List Nat) : Prop where
  len : q.length = s.length
  at_ : ∀ i j : Nat, s[i]? = some j ↔ q[j]? = some i
theorem Un.symm {s q : List Nat} (h : Un s q) : Un q s := ⟨h.len.symm, fun i j => (h.at_ j i).symm⟩
theorem Un.swp {s q : List Nat} {a : Nat} (h : Un s q) (ha : a + 1 < q.length) : Un (s.map (tr a)) (swp q a) := by
  refine ⟨by rw [swp_len, List.length_map]; exact h.len, fun i j => ?_⟩
  rw [swp_get ha, ← h.at_ i (tr a j), List.getElem?_map]
  cases s[i]? with
  | none => simp
  | some z =>
    simp only [Option.map_some, Option.some.injEq]
    constructor
    · intro e
      rw [← e, tr_tr]
    · intro e
      rw [e, tr_tr]
theorem Un.eq {s t q : List Nat} (h : Un s q) (g : Un t q) : s = t := by
  apply List.ext_getElem?
  intro i
  cases e : s[i]? with
  | some j => exact ((g.at_ i j).mpr ((h.at_ i j).mp e)).symm
  | none =>
    cases e2 : t[i]? with
    | none => rfl
    | some j =>
      rw [(h.at_ i j).mpr ((g.at_ i j).mp e2)] at e
      cases e
theorem un_range (n : Nat) : Un (List.range n) (List.range n) := by
  refine ⟨rfl, fun i j => ?_⟩
  have key : ∀ i j : Nat, (List.range n)[i]? = some j → (List.range n)[j]? = some i := fun i j h => by
    obtain ⟨h1, h2⟩ := List.getElem?_eq_some_iff.mp h
    rw [List.getElem_range] at h2
    subst h2
    exact h
  exact ⟨key i j, key j i⟩
/-- the order that undoes one -/
def undo (s : List Nat) : List Nat := (List.range s.length).map fun i => s.idxOf i
theorem un_undo {s : List Nat} (hp : s.Perm (List.range s.length)) : Un s (undo s) := by
  have nd : s.Nodup := hp.nodup_iff.mpr List.nodup_range
  refine ⟨by simp [undo], fun i j => ?_⟩
  unfold undo
  rw [List.getElem?_map]
  constructor
  · intro h
    have hm := List.mem_range.mp (hp.mem_iff.mp (List.mem_of_getElem? h))
    rw [List.getElem?_range hm]
    have hm2 : s.idxOf j < s.length := List.idxOf_lt_length_of_mem (List.mem_of_getElem? h)
    have e : s[s.idxOf j]? = some j := by
      rw [List.getElem?_eq_getElem hm2, List.getElem_idxOf hm2]
    show some (s.idxOf j) = _
    rw [nd_inj nd e h]
  · intro h
    by_cases hj : j < s.length
    · rw [List.getElem?_range hj] at h
      have e : s.idxOf j = i := Option.some.inj h
      have hm2 : s.idxOf j < s.length := List.idxOf_lt_length_of_mem (hp.mem_iff.mpr (List.mem_range.mpr hj))
      rw [← e, List.getElem?_eq_getElem hm2, List.getElem_idxOf hm2]
    · rw [List.getElem?_eq_none (by rw [List.length_range]; omega)] at h
      cases h
theorem Un.perm {s q : List Nat} (h : Un s q) (hp : s.Perm (List.range s.length)) : q.Perm (List.range q.length) := by
  have nd : s.Nodup := hp.nodup_iff.mpr List.nodup_range
  have nq : q.Nodup := by
    rw [List.nodup_iff_pairwise_ne, List.pairwise_iff_getElem]
    intro i j hi hj hij e
    have e1 := (h.at_ q[i] i).mpr (List.getElem?_eq_getElem hi)
    have e2 := (h.at_ q[j] j).mpr (List.getElem?_eq_getElem hj)
    rw [e, e2] at e1
    have := Option.some.inj e1
    omega
  refine (List.perm_ext_iff_of_nodup nq List.nodup_range).mpr fun a => ?_
  rw [List.mem_range]
  constructor
  · intro hm
    obtain ⟨i, e⟩ := List.getElem?_of_mem hm
    have := (h.at_ a i).mpr e
    have := (List.getElem?_eq_some_iff.mp this).1
    rw [h.len]
    exact this
  · intro hm
    rw [h.len] at hm
    exact List.mem_of_getElem? ((h.at_ a s[a]).mp (List.getElem?_eq_getElem hm))
theorem swp_app {l t : List Nat} {a : Nat} (h : a + 1 < l.length) : swp (l ++ t) a = swp l a ++ t := by
  obtain ⟨l1, x, y, l2, rfl, rfl⟩ := split2 h
  rw [swp_at, List.append_assoc, List.cons_append, List.cons_append, swp_at, List.append_assoc, List.cons_append, List.cons_append]
theorem fold_app : ∀ {w l t : List Nat}, (∀ a ∈ w, a + 1 < l.length) → w.foldl swp (l ++ t) = w.foldl swp l ++ t
  | [], l, t, _ => rfl
  | a :: w, l, t, h => by
    rw [List.foldl_cons, List.foldl_cons, swp_app (h a List.mem_cons_self)]
    exact fold_app fun x hx => by rw [swp_len]; exact h x (List.mem_cons_of_mem _ hx)
theorem fold_un {s q w : List Nat} (h : Un s q) (hp : s.Perm (List.range s.length)) (hw : w.foldl swp q = List.range s.length) (ha : ∀ a ∈ w, a + 1 < s.length) : w.foldl swp (List.range s.length) = s := by
  have pt : (w.foldl swp (List.range s.length)).Perm (List.range s.length) := fold_perm fun a h => by rw [List.length_range]; exact ha a h
  have e0 : (List.range s.length).map (fun z => q.getD z 0) = q := by
    apply List.ext_getElem?
    intro i
    rw [List.getElem?_map]
    by_cases hi : i < s.length
    · rw [List.getElem?_range hi, getD_at (l := q) (n := i) (by rw [h.len]; exact hi)]
      rfl
    · rw [List.getElem?_eq_none (by rw [List.length_range]; omega), List.getElem?_eq_none (by rw [h.len]; omega)]
      rfl
  have e1 := fold_map (fun z => q.getD z 0) (w := w) (r := List.range s.length) fun a h => by rw [List.length_range]; exact ha a h
  rw [e0, hw] at e1
  generalize hT : w.foldl swp (List.range s.length) = t at pt e1
  have hl : t.length = s.length := by rw [pt.length_eq, List.length_range]
  apply List.ext_getElem?
  intro i
  by_cases hi : i < s.length
  · have ez := getD_at (l := t) (n := i) (by omega)
    have hz : t.getD i 0 < s.length := List.mem_range.mp (pt.mem_iff.mp (List.mem_of_getElem? ez))
    have e2 : (List.range s.length)[i]? = (t.map fun z => q.getD z 0)[i]? := by rw [← e1]
    rw [List.getElem?_range hi, List.getElem?_map, ez] at e2
    have e3 : i = q.getD (t.getD i 0) 0 := Option.some.inj e2
    have e4 := getD_at (l := q) (n := t.getD i 0) (by rw [h.len]; exact hz)
    rw [← e3] at e4
    rw [ez]
    exact ((h.at_ i (t.getD i 0)).mpr e4).symm
  · rw [List.getElem?_eq_none (by omega), List.getElem?_eq_none (by omega)]
theorem inv_un_le {s q : List Nat} (h : Un s q) (hp : s.Perm (List.range s.length)) : inv s ≤ inv q := by
  have hq := h.perm hp
  rw [h.len] at hq
  obtain ⟨w1, w2, w3⟩ := sortW_ok (inv q) q s.length hq (Nat.le_refl _)
  rw [h.len] at w3
  have e := fold_un h hp w1 w3
  have := inv_le s.length (sortW (inv q) q) (List.range s.length) (by rw [List.length_range]) w3 List.nodup_range
  rw [e, inv_id, w2, Nat.zero_add] at this
  exact this
theorem inv_un {s q : List Nat} (h : Un s q) (hp : s.Perm (List.range s.length)) : inv s = inv q :=
  Nat.le_antisymm (inv_un_le h hp) (inv_un_le h.symm (h.perm hp))
def tri : Nat → Nat
  | 0 => 0
  | n + 1 => n + tri n
theorem inv_tri : ∀ l : List Nat, inv l ≤ tri l.length
  | [] => Nat.le_refl _
  | x :: l => by
    have := inv_tri l
    have := List.length_filter_le (fun y => decide (y < x)) l
    rw [inv_cons, List.length_cons, tri]
    omega
theorem tri_le : ∀ n, n ≤ 12 → tri n ≤ 66 := by decide
theorem inv_66 {l : List Nat} (h : l.length ≤ 12) : inv l ≤ 66 := Nat.le_trans (inv_tri l) (tri_le _ h)
theorem range_split (n k : Nat) : List.range (n + k) = List.range n ++ List.range' n k := by
  rw [List.range_eq_range', List.range_eq_range', ← List.range'_append_1, Nat.zero_add]
/-- the least word -/
def lw (s : List Nat) : List Nat := sortW 66 (undo s)
theorem lw_ok {s : List Nat} (hp : s.Perm (List.range s.length)) (hn : s ≠ []) (hl : s.length ≤ 12) :
    (∀ a ∈ lw s, a + 1 < s.length) ∧ (lw s).length = inv s ∧ bareL (rowOf (lw s)) = bareL s := by
  have h := un_undo hp
  have hq := h.perm hp
  rw [h.len] at hq
  have e := inv_un h hp
  obtain ⟨w1, w2, w3⟩ := sortW_ok 66 (undo s) s.length hq (by rw [← e]; exact inv_66 hl)
  rw [h.len] at w3
  refine ⟨w3, w2.trans e.symm, ?_⟩
  have e2 := fold_un h hp w1 w3
  unfold rowOf lw
  rw [show 12 = s.length + (12 - s.length) by omega, range_split, fold_app (fun a ha => by rw [List.length_range]; exact w3 a ha), e2, bare_app s hn]
theorem bare_perm {q : List Nat} (hp : q.Perm (List.range q.length)) : (bareL q).Perm (List.range (bareL q).length) := by
  obtain ⟨k, e⟩ := bare_ext _ q rfl
  generalize bareL q = r at e
  subst e
  rw [List.length_append, List.length_range', range_split] at hp
  exact (List.perm_append_right_iff _).mp hp
theorem desc_snoc {l : List Nat} (hn : l ≠ []) (hl : ∀ x ∈ l, x < l.length) : desc (l ++ [l.length]) = desc l := by
  have h0 : 0 < l.length := List.length_pos_iff.mpr hn
  unfold desc
  rw [List.length_append, List.length_singleton, show l.length + 1 - 1 = (l.length - 1) + 1 by omega, List.range_succ, List.filter_append]
  have g : ∀ n, n < l.length → (l ++ [l.length]).getD n 0 = l.getD n 0 := fun n h => by
    rw [List.getD_eq_getElem?_getD, List.getD_eq_getElem?_getD, List.getElem?_append_left h]
  have g2 : (l ++ [l.length]).getD (l.length - 1 + 1) 0 = l.length := by
    rw [show l.length - 1 + 1 = l.length by omega, List.getD_eq_getElem?_getD, List.getElem?_append_right (Nat.le_refl _), Nat.sub_self]
    rfl
  have e1 : List.filter (fun a => decide ((l ++ [l.length]).getD (a + 1) 0 < (l ++ [l.length]).getD a 0)) [l.length - 1] = [] := by
    rw [List.filter_eq_nil_iff]
    intro a ha
    rw [List.mem_singleton.mp ha, g2, g _ (by omega)]
    have := hl _ (List.mem_of_getElem? (getD_at (l := l) (n := l.length - 1) (by omega)))
    simp only [decide_eq_true_eq]
    omega
  rw [e1, List.append_nil]
  apply List.filter_congr
  intro a ha
  have := List.mem_range.mp ha
  rw [g _ (by omega), g _ (by omega)]
theorem desc_app {r : List Nat} (hn : r ≠ []) (hl : ∀ x ∈ r, x < r.length) : ∀ k, desc (r ++ List.range' r.length k) = desc r
  | 0 => by simp
  | k + 1 => by
    have e : (r ++ List.range' r.length k).length = r.length + k := by rw [List.length_append, List.length_range']
    have h := desc_snoc (l := r ++ List.range' r.length k) (by simp [hn]) fun x hx => by
      rw [e]
      rcases List.mem_append.mp hx with h | h
      · have := hl x h
        omega
      · have := (List.mem_range'_1.mp h).2
        omega
    rw [e] at h
    rw [List.range'_concat, ← List.append_assoc, Nat.one_mul, h, desc_app hn hl k]
theorem perm_lt {r : List Nat} (hp : r.Perm (List.range r.length)) : ∀ x ∈ r, x < r.length := fun x hx => List.mem_range.mp (hp.mem_iff.mp hx)
theorem desc_bare {q : List Nat} (hp : q.Perm (List.range q.length)) (hn : q ≠ []) : desc (bareL q) = desc q := by
  obtain ⟨k, e⟩ := bare_ext _ q rfl
  have := desc_app (bare_ne hn) (perm_lt (bare_perm hp)) k
  rw [← e] at this
  exact this.symm
theorem bare_swp {q : List Nat} {a : Nat} (h : a + 1 < (bareL q).length) : bareL (swp (bareL q) a) = bareL (swp q a) := by
  obtain ⟨k, e⟩ := bare_ext _ q rfl
  have hn : swp (bareL q) a ≠ [] := fun z => by
    have := swp_len (bareL q) a
    rw [z] at this
    rw [← this] at h
    cases h
  have := bare_app (swp (bareL q) a) hn k
  rw [swp_len] at this
  conv => rhs; rw [e, swp_app h, this]
theorem bare_zero {q : List Nat} (hp : q.Perm (List.range q.length)) (hn : q ≠ []) : bareL q = [0] ↔ desc q = [] := by
  constructor
  · intro h
    rw [← desc_bare hp hn, h]
    rfl
  · intro h
    rw [sorted_range hp h]
    have h0 : 0 < q.length := List.length_pos_iff.mpr hn
    rw [show q.length = 1 + (q.length - 1) by omega, range_split]
    exact bare_app [0] (by simp) _
theorem inv_snoc (x : Nat) : ∀ l : List Nat, (∀ y ∈ l, y ≤ x) → inv (l ++ [x]) = inv l
  | [], _ => rfl
  | y :: l, h => by
    have hy := h y List.mem_cons_self
    rw [List.cons_append, inv_cons, inv_cons, inv_snoc x l fun z hz => h z (List.mem_cons_of_mem _ hz), List.filter_append, List.filter_cons, if_neg (by simp; omega)]
    simp
theorem inv_app {r : List Nat} (hl : ∀ x ∈ r, x < r.length) : ∀ k, inv (r ++ List.range' r.length k) = inv r
  | 0 => by simp
  | k + 1 => by
    rw [List.range'_concat, ← List.append_assoc, Nat.one_mul, inv_snoc, inv_app hl k]
    intro x hx
    rcases List.mem_append.mp hx with h | h
    · have := hl x h
      omega
    · have := (List.mem_range'_1.mp h).2
      omega
theorem inv_bare {q : List Nat} (hp : q.Perm (List.range q.length)) : inv (bareL q) = inv q := by
  obtain ⟨k, e⟩ := bare_ext _ q rfl
  have := inv_app (perm_lt (bare_perm hp)) k
  rw [← e] at this
  exact this.symm
theorem row_perm {w : List Nat} (h : ∀ a ∈ w, a ≤ 10) : (rowOf w).Perm (List.range 12) := fold_perm fun a ha => by
  have := h a ha
  rw [List.length_range]
  omega
/-- a letter behind: one turn more, or a letter that may be left out -/
theorem snoc_turn {w : List Nat} {a : Nat} (hw : ∀ b ∈ w, b ≤ 10) (ha : a ≤ 10) (hr : inv (rowOf w) = w.length) :
    inv (rowOf (w ++ [a])) = w.length + 1 ∨ (inv (rowOf (w ++ [a])) + 1 = w.length ∧ ∃ p, p < w.length ∧ rowOf (w.take p ++ w.drop (p + 1)) = rowOf (w ++ [a])) := by
  have hl := row_len w
  have hp := row_perm hw
  have nd : (rowOf w).Nodup := hp.nodup_iff.mpr List.nodup_range
  have e1 := getD_at (l := rowOf w) (n := a) (by omega)
  have e2 := getD_at (l := rowOf w) (n := a + 1) (by omega)
  rw [rowOf_snoc]
  rcases Nat.lt_trichotomy ((rowOf w).getD a 0) ((rowOf w).getD (a + 1) 0) with c | c | c
  · left
    rw [inv_swp_up (by omega) c, hr]
  · rw [c] at e1
    have := nd_inj nd e1 e2
    omega
  · right
    have hd := inv_swp_down (by omega) c
    refine ⟨by omega, ?_⟩
    generalize (rowOf w).getD a 0 = x at e1 c
    generalize (rowOf w).getD (a + 1) 0 = y at e2 c
    have hx : x < 12 := List.mem_range.mp (hp.mem_iff.mp (List.mem_of_getElem? e1))
    have hy : y < 12 := by omega
    obtain ⟨p, h1, h2⟩ := exch (w := w) (r := List.range 12) (x := x) (y := y) (i := y) (j := x) List.nodup_range (fun b hb => by
      have := hw b hb
      rw [List.length_range]
      omega) c (List.getElem?_range hy) (List.getElem?_range hx) ⟨a, a + 1, by omega, e1, e2⟩
    exact ⟨p, h1, h2.trans (swp_ex nd (by omega) e1 e2).symm⟩
end K03
set_option Elab.async false
set_option linter.all false
set_option maxRecDepth 100000
set_option maxHeartbeats 4000000
set_option pp.maxSteps 3000
namespace K03
open PySem L2 TL
/-! ### rows compared; comprehensions over range -/
theorem eqvJ : ∀ l r : List Nat, PyData.eqvAll (J l) (J r) = decide (l = r)
  | [], [] => by simp [PyData.eqvAll]
  | [], y :: r => by simp [PyData.eqvAll]
  | x :: l, [] => by simp [PyData.eqvAll]
  | x :: l, y :: r => by
    rw [J_cons, J_cons, PyData.eqvAll, PyData.eqv, eqvJ l r]
    by_cases h : x = y
    · by_cases h2 : l = r
      · simp [h, h2]
      · simp [h, h2]
    · have h3 : ¬ (x : Int) = (y : Int) := by omega
      simp [h, h3]
theorem depthJ : ∀ l : List Nat, PyData.depthAll (J l) ≤ 1
  | [] => by rw [J_nil, PyData.depthAll]; omega
  | x :: l => by
    rw [J_cons, PyData.depthAll, PyData.depth]
    exact Nat.max_le.mpr ⟨by omega, depthJ l⟩
theorem pEqJ (l r : List Nat) : pEq (.tuple (J l)) (.tuple (J r)) = some (.v (.bool (decide (l = r)))) := by
  have h : (PyData.tuple (J l)).plain = true ∧ (PyData.tuple (J r)).plain = true ∧ min (PyData.tuple (J l)).depth (PyData.tuple (J r)).depth ≤ 100 :=
    ⟨by rw [PyData.plain]; exact plainJ l, by rw [PyData.plain]; exact plainJ r, Nat.le_trans (Nat.min_le_left _ _) (by
      rw [PyData.depth]
      have := depthJ l
      omega)⟩
  unfold pEq
  rw [if_pos h, PyData.eqv, eqvJ]
theorem pNeJ (l r : List Nat) : pNe (.tuple (J l)) (.tuple (J r)) = some (.v (.bool (!decide (l = r)))) := by
  have h : (PyData.tuple (J l)).plain = true ∧ (PyData.tuple (J r)).plain = true ∧ min (PyData.tuple (J l)).depth (PyData.tuple (J r)).depth ≤ 100 :=
    ⟨by rw [PyData.plain]; exact plainJ l, by rw [PyData.plain]; exact plainJ r, Nat.le_trans (Nat.min_le_left _ _) (by
      rw [PyData.depth]
      have := depthJ l
      omega)⟩
  unfold pNe
  rw [if_pos h, PyData.eqv, eqvJ]
theorem filt {v : Nat} {mi : M (List Ar)} {t : M Bool} {w w1 : W} {n : Nat} (c : Nat → Bool) (h0 : dits rng1 mi w = some (J (List.range n), w1)) (hn : n ≤ 1000) (hv : v < w1.r.length) (ok : okA [v] 0 w1.r = true)
    (h1 : ∀ d, (wipA [v] 0 w1.r).set v (.val d) = w1.r.set v (.val d)) (h2 : ∀ d, wipA [v] 0 (w1.r.set v (.val d)) = wipA [v] 0 w1.r)
    (ht : ∀ a : Nat, a < n → t ⟨w1.r.set v (.val (.int (a : Int))), w1.b⟩ = some (c a, ⟨w1.r.set v (.val (.int (a : Int))), w1.b⟩)) :
    dlc [v] (dits rng1 mi) (gnm v) t (fzR (dvar v)) w = some (.s (.own (J ((List.range n).filter c))), w1) := by
  have key := dlc_pure (vs := [v]) (mi := dits rng1 mi) (g := gnm v) (t := t) (e := fzR (dvar v)) (qD c) h0 ok (by rw [J_len, List.length_range, sizeLine_eq]; omega) fun d hd => by
    obtain ⟨a, ha, rfl⟩ := mem_J hd
    have ha := List.mem_range.mp ha
    have e0 : qD c (.int (a : Int)) = if c a = true then some (.int (a : Int)) else none := rfl
    refine ⟨⟨w1.r.set v (.val (.int (a : Int))), w1.b⟩, ⟨w1.r.set v (.val (.int (a : Int))), w1.b⟩, by rw [e_gnm, h1], ?_⟩
    cases hc : c a with
    | true =>
      refine .inr ⟨.int (a : Int), ⟨w1.r.set v (.val (.int (a : Int))), w1.b⟩, by rw [ht a ha, hc], ?_, by rw [e0, if_pos hc], h2 _, rfl⟩
      simp [hv]
    | false => exact .inl ⟨by rw [ht a ha, hc], by rw [e0, hc]; rfl, h2 _, rfl⟩
  rw [qD_J] at key
  exact key
theorem rng1_any {j : Int} (h1 : -1000 ≤ j) (h2 : j ≤ 1000000) : rng1 [.p (.int j)] = some (J (List.range j.toNat)) := by
  have g : -(2 ^ 62) ≤ j ∧ j < 2 ^ 62 := ⟨by omega, by omega⟩
  unfold rng1
  simp only [g, and_self, if_true]
  rw [← rngD_J]
  rfl
theorem ditsI {m : M (List Ar)} {w w1 : W} {j : Int} (h : m w = some ([.p (.int j)], w1)) (h1 : -1000 ≤ j) (h2 : j ≤ 1000000) : dits rng1 m w = some (J (List.range j.toNat), w1) := by
  rw [e_dits, h, Option.bind_some, rng1_any h1 h2, Option.map_some]
theorem J_rev (l : List Nat) : (J l).reverse = J l.reverse := by
  unfold J
  rw [List.map_reverse]
theorem atJ2 {l : List Nat} {n x : Nat} (h : l[n + 2]? = some x) : atI (J l) ((n : Int) + 2) = some (.int (x : Int)) := by
  have := atJ h
  rwa [Int.natCast_add] at this
theorem J3 (a c e : Nat) : ([.int (a : Int), .int (c : Int), .int (e : Int)] : List D) = J [a, c, e] := rfl
/-! ### an order -/
theorem order_ok {b : Bg} (hb : BgOk b) : ∃ (o : List Nat) (b' : Bg), f__law_order [.bag] b = some (.v (.tuple (J o)), b') ∧ o.Perm (List.range o.length) ∧ o ≠ [] ∧ o.length ≤ 12 ∧ BgOk b' := by
  obtain ⟨p, b1, e1, l1, h1⟩ := drawI (n := 12) hb (by omega) (by omega)
  obtain ⟨way, b2, e2, l2, h2⟩ := drawI (n := 6) h1 (by omega) (by omega)
  have c1 : (1 : Int) + (p : Int) = ((1 + p : Nat) : Int) := by omega
  have t1 : m__law_order_1 ⟨[.bag, .un, .un, .un, .un, .un], b⟩ = some (.nx, ⟨[.bag, .val (.int ((1 + p : Nat) : Int)), .val (.int (way : Int)), .un, .un, .un], b2⟩) := by
    unfold m__law_order_1
    rw [← c1]
    simp [e1, e2]
  obtain ⟨n, hn⟩ : ∃ n, n = 1 + p := ⟨_, rfl⟩
  have n0 : 0 < n := by omega
  have n12 : n ≤ 12 := by omega
  rw [← hn] at t1
  have hd : drg1 ownO (fzR (dvar 1)) ⟨[.bag, .val (.int (n : Int)), .val (.int (way : Int)), .un, .un, .un], b2⟩ = some (ownO (J (List.range n)), ⟨[.bag, .val (.int (n : Int)), .val (.int (way : Int)), .un, .un, .un], b2⟩) := drgJ (by simp) (by omega)
  have t2 : m__law_order_2 ⟨[.bag, .val (.int (n : Int)), .val (.int (way : Int)), .un, .un, .un], b2⟩ = some (.nx, ⟨[.bag, .val (.int (n : Int)), .val (.int (way : Int)), .own (J (List.range n)), .un, .un], b2⟩) := by
    unfold m__law_order_2
    rw [e_sset, hd]
    rfl
  have hm : m__law_order = sseq m__law_order_1 (sseq m__law_order_2 (sseq m__law_order_3 (sseq m__law_order_4 (sseq m__law_order_5 (sseq m__law_order_6 m__law_order_7))))) := rfl
  have sz : n ≤ sizeLine := by rw [sizeLine_eq]; omega
  generalize hL : J (List.range n) = L at t2
  by_cases w0 : way = 0
  · have t3 : m__law_order_3 ⟨[.bag, .val (.int (n : Int)), .val (.int (way : Int)), .own L, .un, .un], b2⟩ = some (.re (.v (.tuple L.reverse)), ⟨[.bag, .val (.int (n : Int)), .val (.int (way : Int)), .own L, .un, .un], b2⟩) := by
      unfold m__law_order_3
      subst w0
      simp [tupO]
    refine ⟨(List.range n).reverse, b2, order_start ?_, ?_, ?_, by simpa using n12, h2⟩
    · rw [hm, e_sseq, t1, Option.bind_some, e_thenN, e_sseq, t2, Option.bind_some, e_thenN, e_sseq, t3, Option.bind_some, e_thenR, e_finR, ← hL, J_rev]
    · rw [List.length_reverse, List.length_range]
      exact List.reverse_perm _
    · intro z
      have := congrArg List.length z
      rw [List.length_reverse, List.length_range, List.length_nil] at this
      omega
  · have w0' : ¬ (way : Int) = 0 := by omega
    have t3 : m__law_order_3 ⟨[.bag, .val (.int (n : Int)), .val (.int (way : Int)), .own L, .un, .un], b2⟩ = some (.nx, ⟨[.bag, .val (.int (n : Int)), .val (.int (way : Int)), .own L, .un, .un], b2⟩) := by
      unfold m__law_order_3
      simp [w0', w0]
    by_cases w1 : way = 1
    · have t4 : m__law_order_4 ⟨[.bag, .val (.int (n : Int)), .val (.int (way : Int)), .own L, .un, .un], b2⟩ = some (.re (.v (.tuple L)), ⟨[.bag, .val (.int (n : Int)), .val (.int (way : Int)), .own L, .un, .un], b2⟩) := by
        unfold m__law_order_4
        subst w1
        simp
      refine ⟨List.range n, b2, order_start ?_, ?_, ?_, by simpa using n12, h2⟩
      · rw [hm, e_sseq, t1, Option.bind_some, e_thenN, e_sseq, t2, Option.bind_some, e_thenN, e_sseq, t3, Option.bind_some, e_thenN, e_sseq, t4, Option.bind_some, e_thenR, e_finR, ← hL]
      · rw [List.length_range]
      · intro z
        have := congrArg List.length z
        rw [List.length_range, List.length_nil] at this
        omega
    · have w1' : ¬ (way : Int) = 1 := by omega
      have t4 : m__law_order_4 ⟨[.bag, .val (.int (n : Int)), .val (.int (way : Int)), .own L, .un, .un], b2⟩ = some (.nx, ⟨[.bag, .val (.int (n : Int)), .val (.int (way : Int)), .own L, .un, .un], b2⟩) := by
        unfold m__law_order_4
        simp [w1', w1]
      have t5 : m__law_order_5 ⟨[.bag, .val (.int (n : Int)), .val (.int (way : Int)), .own L, .un, .un], b2⟩ = some (.nx, ⟨[.bag, .val (.int (n : Int)), .val (.int (way : Int)), .own L, .own [], .un], b2⟩) := by
        unfold m__law_order_5
        simp
      obtain ⟨o, b3, y, r, t6, hp, h3⟩ := order_loop (way := way) h2 n12
      rw [hL] at t6
      have t7 : m__law_order_7 ⟨[.bag, .val (.int (n : Int)), .val (.int (way : Int)), r, .own (J o), y], b3⟩ = some (.re (.v (.tuple (J o))), ⟨[.bag, .val (.int (n : Int)), .val (.int (way : Int)), r, .own (J o), y], b3⟩) := by
        unfold m__law_order_7
        simp
      have hl : o.length = n := by rw [hp.length_eq, List.length_range]
      refine ⟨o, b3, order_start ?_, by rw [hl]; exact hp, ?_, by omega, h3⟩
      · rw [hm, e_sseq, t1, Option.bind_some, e_thenN, e_sseq, t2, Option.bind_some, e_thenN, e_sseq, t3, Option.bind_some, e_thenN, e_sseq, t4, Option.bind_some, e_thenN, e_sseq, t5, Option.bind_some, e_thenN, e_sseq, t6, Option.bind_some, e_thenN, t7, e_finR]
      · intro z
        rw [z] at hl
        simp at hl
        omega
end K03
set_option Elab.async false
set_option linter.all false
set_option maxRecDepth 100000
set_option maxHeartbeats 4000000
set_option pp.maxSteps 3000
namespace K03
open PySem L2 TL
/-! ### words moved -/
theorem moved_start {b : Bg} {d : D} {r : Option (O × Bg)} (h : finS (m__law_moved ⟨[.bag, .val d, .un, .un, .un, .un], b⟩) = r) : f__law_moved [.bag, .p d] b = r := by
  rw [show f__law_moved = defF 2 6 m__law_moved from rfl]
  exact run rfl rfl h
def dist (x y : Nat) : Int := if (x : Int) - (y : Int) < 0 then -((x : Int) - (y : Int)) else (x : Int) - (y : Int)
theorem absJ (x y : Nat) : pAbs (.int ((x : Int) - (y : Int))) = some (.v (.int (dist x y))) := rfl
theorem len_filter {n : Nat} (c : Nat → Bool) : ((List.range n).filter c).length ≤ n := by
  have := List.length_filter_le c (List.range n)
  rwa [List.length_range] at this
theorem moved2 {b : Bg} {w : List Nat} {ts : List D} (hw : LW 300 w) : m__law_moved_2 ⟨[.bag, .val (.tuple (J w)), .own ts, .un, .un, .un], b⟩ = some (.nx, ⟨[.bag, .val (.tuple (J w)), .own ts, .own (J ((List.range ((w.length : Int) - 1).toNat).filter fun a => decide (1 < dist (w.getD a 0) (w.getD (a + 1) 0)))), .un, .un], b⟩) := by
  have hl := hw.2
  have h0 : dits rng1 (acons (arg (fzO (op2 pSub (opd (fzO (dcl (p1 pLen) (rcons (dvar 1) rnil)))) (cst (.int 1))))) anil) ⟨[.bag, .val (.tuple (J w)), .own ts, .un, .un, .un], b⟩ = some (J (List.range ((w.length : Int) - 1).toNat), ⟨[.bag, .val (.tuple (J w)), .own ts, .un, .un, .un], b⟩) := ditsI (by simp) (by omega) (by omega)
  have key := filt (v := 4) (t := (tst (op2 pGtI (opd (fzO (dcl (p1 pAbs) (rcons (opd (fzO (op2 pSub (opd (fzO (op2 pIx (dvar 1) (dvar 4)))) (opd (fzO (op2 pIx (dvar 1) (opd (fzO (op2 pAdd (dvar 4) (cst (.int 1))))))))))) rnil)))) (cst (.int 1))))) (fun a => decide (1 < dist (w.getD a 0) (w.getD (a + 1) 0))) h0 (by omega) (by simp) rfl (fun _ => rfl) (fun _ => rfl) (fun a ha => by
    have q1 := atJ (getD_at (l := w) (n := a) (by omega))
    have q2 := atJ1 (getD_at (l := w) (n := a + 1) (by omega))
    generalize w.getD a 0 = x at q1 ⊢
    generalize w.getD (a + 1) 0 = y at q2 ⊢
    have q3 := absJ x y
    simp [q1, q2, q3, -p_abs])
  unfold m__law_moved_2
  rw [e_sset, key, Option.bind_some, e_puts]
  rfl
theorem moved4 {b : Bg} {w : List Nat} {ts : List D} {s3 s4 : S} (hw : LW 300 w) (h4 : s4.mine = false) : m__law_moved_4 ⟨[.bag, .val (.tuple (J w)), .own ts, s3, s4, .un], b⟩ = some (.nx, ⟨[.bag, .val (.tuple (J w)), .own ts, s3, s4, .own (J ((List.range ((w.length : Int) - 2).toNat).filter fun a => decide (w.getD a 0 = w.getD (a + 2) 0 ∧ dist (w.getD a 0) (w.getD (a + 1) 0) = 1)))], b⟩) := by
  have hl := hw.2
  have h0 : dits rng1 (acons (arg (fzO (op2 pSub (opd (fzO (dcl (p1 pLen) (rcons (dvar 1) rnil)))) (cst (.int 2))))) anil) ⟨[.bag, .val (.tuple (J w)), .own ts, s3, s4, .un], b⟩ = some (J (List.range ((w.length : Int) - 2).toNat), ⟨[.bag, .val (.tuple (J w)), .own ts, s3, s4, .un], b⟩) := ditsI (by simp) (by omega) (by omega)
  have key := filt (v := 4) (t := (dand (tst (op2 pEq (opd (fzO (op2 pIx (dvar 1) (dvar 4)))) (opd (fzO (op2 pIx (dvar 1) (opd (fzO (op2 pAdd (dvar 4) (cst (.int 2)))))))))) (tst (op2 pEq (opd (fzO (dcl (p1 pAbs) (rcons (opd (fzO (op2 pSub (opd (fzO (op2 pIx (dvar 1) (dvar 4)))) (opd (fzO (op2 pIx (dvar 1) (opd (fzO (op2 pAdd (dvar 4) (cst (.int 1))))))))))) rnil)))) (cst (.int 1)))))) (fun a => decide (w.getD a 0 = w.getD (a + 2) 0 ∧ dist (w.getD a 0) (w.getD (a + 1) 0) = 1)) h0 (by omega) (by simp) (by simp [okA, h4]) (fun _ => rfl) (fun _ => rfl) (fun a ha => by
    have q1 := atJ (getD_at (l := w) (n := a) (by omega))
    have q2 := atJ1 (getD_at (l := w) (n := a + 1) (by omega))
    have q4 := atJ2 (getD_at (l := w) (n := a + 2) (by omega))
    generalize w.getD a 0 = x at q1 ⊢
    generalize w.getD (a + 1) 0 = y at q2 ⊢
    generalize w.getD (a + 2) 0 = z at q4 ⊢
    have q3 := absJ x y
    by_cases h : x = z
    · subst h
      by_cases h5 : dist x y = 1
      · simp [q1, q2, q3, q4, h5, -p_abs]
      · simp [q1, q2, q3, q4, h5, -p_abs]
    · have h5 : ¬ (x : Int) = (z : Int) := by omega
      simp [q1, q2, q3, q4, h, h5, -p_abs])
  unfold m__law_moved_4
  rw [e_sset, key, Option.bind_some, e_puts]
  rfl
theorem pickJ {b : Bg} {l : List Nat} (hb : BgOk b) (h0 : l ≠ []) (h1 : l.length < 1000000) : ∃ (a : Nat) (b' : Bg), f__law_pick [.bag, .p (.list (J l))] b = some (.v (.int (a : Int)), b') ∧ a ∈ l ∧ BgOk b' := by
  obtain ⟨x, b', e, hx, h⟩ := pick_ok (xs := J l) hb (by
    intro z
    have := congrArg List.length z
    rw [J_len, List.length_nil] at this
    exact h0 (List.length_eq_zero_iff.mp this)) (by rw [J_len]; omega)
  obtain ⟨a, ha, rfl⟩ := mem_J hx
  exact ⟨a, b', e, ha, h⟩
theorem moved3 {b : Bg} {w far : List Nat} {ts : List D} (hb : BgOk b) (hw : LW 300 w) (ht : Ws ts) (htl : ts.length ≤ 5) (hf : ∀ a ∈ far, a + 1 < w.length) (hfl : far.length ≤ 1000) : ∃ (ts2 : List D) (s3 s4 : S) (b2 : Bg), m__law_moved_3 ⟨[.bag, .val (.tuple (J w)), .own ts, .own (J far), .un, .un], b⟩ = some (.nx, ⟨[.bag, .val (.tuple (J w)), .own ts2, s3, s4, .un], b2⟩) ∧ Ws ts2 ∧ ts2.length ≤ ts.length + 1 ∧ s4.mine = false ∧ BgOk b2 := by
  have ne := pNe_nil (plainJ far)
  unfold m__law_moved_3
  cases far with
  | nil =>
    have ne : pNe (.list []) (.list []) = some (.v (.bool false)) := ne
    exact ⟨ts, _, .un, b, by simp [ne]; rfl, ht, by omega, rfl, hb⟩
  | cons u us =>
    obtain ⟨p, b2, e2, hp, h2⟩ := pickJ hb (List.cons_ne_nil u us) (by omega)
    have ne : pNe (.list (J (u :: us))) (.list []) = some (.v (.bool true)) := ne
    have hp := hf p hp
    have hwl := hw.2
    have s0 : (0 : Nat) ≤ sizeLine := Nat.zero_le _
    have s2 : 2 ≤ sizeLine := by decide
    have k1 := cutJ_to w p
    have k2 := cutJ_from2 w p
    have k3 := atJ (getD_at (l := w) (n := p) (by omega))
    have k4 := atJ1 (getD_at hp)
    have mem : ∀ n, n < w.length → w.getD n 0 ≤ 10 := fun n hn => hw.1 _ (by
      rw [List.getD_eq_getElem?_getD, List.getElem?_eq_getElem hn]
      exact List.getElem_mem hn)
    have zq := mem p (by omega)
    have yq := mem (p + 1) hp
    generalize w.getD p 0 = z at k3 zq
    generalize w.getD (p + 1) 0 = y at k4 yq
    have wt := (hw.take p).2
    have wd := (hw.drop (p + 2)).2
    have b2' := pAddJ (l := w.take p) (r := [y, z]) (by simp only [List.length_cons, List.length_nil]; omega)
    have b3' := pAddJ (l := w.take p ++ [y, z]) (r := w.drop (p + 2)) (by rw [List.length_append]; simp only [List.length_cons, List.length_nil]; omega)
    rw [← J2] at b2'
    have g3 : LW 1000 (w.take p ++ [y, z] ++ w.drop (p + 2)) := by
      have t : LW (300 + (1 + 1) + 300) (w.take p ++ [y, z] ++ w.drop (p + 2)) := ((hw.take p).app ((LW.one yq).app (LW.one zq))).app (hw.drop (p + 2))
      exact ⟨t.1, by have := t.2; omega⟩
    have f1 : fAppend (.own ts) [.tuple (J (w.take p ++ [y, z] ++ w.drop (p + 2)))] = some (.none, .own (ts ++ [.tuple (J (w.take p ++ [y, z] ++ w.drop (p + 2)))])) := f_append (by rw [sizeLine_eq]; omega)
    refine ⟨ts ++ [.tuple (J (w.take p ++ [y, z] ++ w.drop (p + 2)))], .val (.list (J (u :: us))), .val (.int (p : Int)), b2, ?_, ht.snoc g3, by rw [List.length_append]; exact Nat.le_refl _, rfl, h2⟩
    generalize hR : w.take p ++ [y, z] ++ w.drop (p + 2) = R at *
    generalize J (u :: us) = fr at *
    simp [ne, s0, s2, e2, k1, k2, k3, k4, b2', b3', f1]
theorem moved5 {b : Bg} {w near : List Nat} {ts : List D} {s3 s4 : S} (hb : BgOk b) (hw : LW 300 w) (ht : Ws ts) (htl : ts.length ≤ 5) (hf : ∀ a ∈ near, a + 2 < w.length) (hfl : near.length ≤ 1000) : ∃ (ts2 : List D) (s4' s5 : S) (b2 : Bg), m__law_moved_5 ⟨[.bag, .val (.tuple (J w)), .own ts, s3, s4, .own (J near)], b⟩ = some (.nx, ⟨[.bag, .val (.tuple (J w)), .own ts2, s3, s4', s5], b2⟩) ∧ Ws ts2 ∧ ts2.length ≤ ts.length + 1 ∧ BgOk b2 := by
  have ne := pNe_nil (plainJ near)
  unfold m__law_moved_5
  cases near with
  | nil =>
    have ne : pNe (.list []) (.list []) = some (.v (.bool false)) := ne
    exact ⟨ts, s4, _, b, by simp [ne]; rfl, ht, by omega, hb⟩
  | cons u us =>
    obtain ⟨p, b2, e2, hp, h2⟩ := pickJ hb (List.cons_ne_nil u us) (by omega)
    have ne : pNe (.list (J (u :: us))) (.list []) = some (.v (.bool true)) := ne
    have hp := hf p hp
    have hwl := hw.2
    have s0 : (0 : Nat) ≤ sizeLine := Nat.zero_le _
    have s3' : 3 ≤ sizeLine := by decide
    have k1 := cutJ_to w p
    have k2 := cutJ_from3 w p
    have k3 := atJ (getD_at (l := w) (n := p) (by omega))
    have k4 := atJ1 (getD_at (l := w) (n := p + 1) (by omega))
    have mem : ∀ n, n < w.length → w.getD n 0 ≤ 10 := fun n hn => hw.1 _ (by
      rw [List.getD_eq_getElem?_getD, List.getElem?_eq_getElem hn]
      exact List.getElem_mem hn)
    have zq := mem p (by omega)
    have yq := mem (p + 1) (by omega)
    generalize w.getD p 0 = z at k3 zq
    generalize w.getD (p + 1) 0 = y at k4 yq
    have wt := (hw.take p).2
    have wd := (hw.drop (p + 3)).2
    have b2' := pAddJ (l := w.take p) (r := [y, z, y]) (by simp only [List.length_cons, List.length_nil]; omega)
    have b3' := pAddJ (l := w.take p ++ [y, z, y]) (r := w.drop (p + 3)) (by rw [List.length_append]; simp only [List.length_cons, List.length_nil]; omega)
    rw [← J3] at b2'
    have g3 : LW 1000 (w.take p ++ [y, z, y] ++ w.drop (p + 3)) := by
      have t : LW (300 + (1 + (1 + 1)) + 300) (w.take p ++ [y, z, y] ++ w.drop (p + 3)) := ((hw.take p).app ((LW.one yq).app ((LW.one zq).app (LW.one yq)))).app (hw.drop (p + 3))
      exact ⟨t.1, by have := t.2; omega⟩
    have f1 : fAppend (.own ts) [.tuple (J (w.take p ++ [y, z, y] ++ w.drop (p + 3)))] = some (.none, .own (ts ++ [.tuple (J (w.take p ++ [y, z, y] ++ w.drop (p + 3)))])) := f_append (by rw [sizeLine_eq]; omega)
    refine ⟨ts ++ [.tuple (J (w.take p ++ [y, z, y] ++ w.drop (p + 3)))], .val (.int (p : Int)), .val (.list (J (u :: us))), b2, ?_, ht.snoc g3, by rw [List.length_append]; exact Nat.le_refl _, h2⟩
    generalize hR : w.take p ++ [y, z, y] ++ w.drop (p + 3) = R at *
    generalize J (u :: us) = fr at *
    simp [ne, s0, s3', e2, k1, k2, k3, k4, b2', b3', f1]
theorem moved_ok {b : Bg} {w : List Nat} (hb : BgOk b) (hw : LW 300 w) : ∃ (ws : List D) (b' : Bg), f__law_moved [.bag, .p (.tuple (J w))] b = some (.s (.own ws), b') ∧ Ws ws ∧ ws.length ≤ 2 ∧ BgOk b' := by
  have hl := hw.2
  have t1 : m__law_moved_1 ⟨[.bag, .val (.tuple (J w)), .un, .un, .un, .un], b⟩ = some (.nx, ⟨[.bag, .val (.tuple (J w)), .own [], .un, .un, .un], b⟩) := by
    unfold m__law_moved_1
    simp
  have t2 := moved2 (b := b) (ts := []) hw
  obtain ⟨ts, s3, s4, b3, t3, g3, n3, m3, h3⟩ := moved3 (b := b) (far := (List.range ((w.length : Int) - 1).toNat).filter fun a => decide (1 < dist (w.getD a 0) (w.getD (a + 1) 0))) (ts := []) hb hw (fun d hd => nomatch hd) (Nat.zero_le _) (fun a ha => by
    have := List.mem_range.mp (List.mem_filter.mp ha).1
    omega) (Nat.le_trans (len_filter _) (by omega))
  have t4 := moved4 (b := b3) (ts := ts) (s3 := s3) hw m3
  obtain ⟨ts5, s4', s5, b5, t5, g5, n5, h5⟩ := moved5 (b := b3) (near := (List.range ((w.length : Int) - 2).toNat).filter fun a => decide (w.getD a 0 = w.getD (a + 2) 0 ∧ dist (w.getD a 0) (w.getD (a + 1) 0) = 1)) (ts := ts) (s3 := s3) (s4 := s4) h3 hw g3 (by rw [List.length_nil] at n3; omega) (fun a ha => by
    have := List.mem_range.mp (List.mem_filter.mp ha).1
    omega) (Nat.le_trans (len_filter _) (by omega))
  have t6 : m__law_moved_6 ⟨[.bag, .val (.tuple (J w)), .own ts5, s3, s4', s5], b5⟩ = some (.re (.s (.own ts5)), ⟨[.bag, .val (.tuple (J w)), .own ts5, s3, s4', s5], b5⟩) := by
    unfold m__law_moved_6
    simp
  refine ⟨ts5, b5, moved_start ?_, g5, by rw [List.length_nil] at n3; omega, h5⟩
  rw [show m__law_moved = sseq m__law_moved_1 (sseq m__law_moved_2 (sseq m__law_moved_3 (sseq m__law_moved_4 (sseq m__law_moved_5 m__law_moved_6)))) from rfl]
  rw [e_sseq, t1, Option.bind_some, e_thenN, e_sseq, t2, Option.bind_some, e_thenN, e_sseq, t3, Option.bind_some, e_thenN, e_sseq, t4, Option.bind_some, e_thenN, e_sseq, t5, Option.bind_some, e_thenN, t6, e_finR]
end K03
set_option Elab.async false
set_option linter.all false
set_option maxRecDepth 100000
set_option maxHeartbeats 4000000
set_option pp.maxSteps 3000
namespace K03
open PySem L2 TL
/-! ### the order that undoes one; places exchanged; the least word -/
theorem repL_ok {xs : List D} {k : Int} (h : -(2 ^ 63) ≤ k ∧ k < 2 ^ 63 ∧ xs.length * k.toNat ≤ sizeLine) : pRepL (.list xs) (.int k) = some (.s (.own (List.replicate k.toNat xs).flatten)) := if_pos h
theorem rep_list {xs : List D} {k : Int} {o : O} (h : pRepL (.list xs) (.int k) = some o) : pMul (.list xs) (.int k) = some o := h
theorem rep0 {n : Nat} (h : n ≤ 1000) : pMul (.list [.int 0]) (.int (n : Int)) = some (.s (.own (J (List.replicate n 0)))) := by
  have g : -(2 ^ 63) ≤ (n : Int) ∧ (n : Int) < 2 ^ 63 ∧ [PyData.int 0].length * (n : Int).toNat ≤ sizeLine := ⟨by omega, by omega, by
    rw [sizeLine_eq, List.length_singleton, Int.toNat_natCast]
    omega⟩
  have e3 := repL_ok g
  have e4 : (List.replicate (n : Int).toNat [PyData.int 0]).flatten = J (List.replicate n 0) := by
    rw [Int.toNat_natCast]
    unfold J
    simp
  rw [e4] at e3
  exact rep_list e3
theorem inv_st {f : D → D → Option O} {b : Bg} {l ts : List D} (h : f (.list [.int 0]) (.int (l.length : Int)) = some (.s (.own ts))) : sset 1 (op2 f (opd (fzO (dlst (acons (arg (fzR (cst (.int 0)))) anil)))) (opd (fzO (dcl (p1 pLen) (rcons (dvar 0) rnil))))) ⟨[.val (.tuple l), .un, .un, .un], b⟩ = some (.nx, ⟨[.val (.tuple l), .own ts, .un, .un], b⟩) := by
  have s1 : 1 ≤ sizeLine := by decide
  simp [h, s1]
theorem inverse_start {b : Bg} {d : D} {r : Option (O × Bg)} (h : finS (m_inverse_order ⟨[.val d, .un, .un, .un], b⟩) = r) : f_inverse_order [.p d] b = r := by
  rw [show f_inverse_order = defF 1 4 m_inverse_order from rfl]
  exact run rfl rfl h
theorem inverse_ok {s : List Nat} {b : Bg} (hp : s.Perm (List.range s.length)) (h12 : s.length ≤ 12) : f_inverse_order [.p (.tuple (J s))] b = some (.v (.tuple (J (bareL (undo s)))), b) := by
  have nd : s.Nodup := hp.nodup_iff.mpr List.nodup_range
  have lt := perm_lt hp
  have hm : m_inverse_order = sseq (sset 1 (op2 pMul (opd (fzO (dlst (acons (arg (fzR (cst (.int 0)))) anil)))) (opd (fzO (dcl (p1 pLen) (rcons (dvar 0) rnil)))))) (sseq (sfor (denum (fzR (dvar 0))) (gtp 2 (gscons (gnm 2) (gscons (gnm 3) gsnil))) (sasg (fzR (dvar 2)) (gst 1 (dvar 3)))) (sret (dcall f_short_order (acons (arg (fzR (dvar 1))) anil)))) := rfl
  have t1 : sset 1 (op2 pMul (opd (fzO (dlst (acons (arg (fzR (cst (.int 0)))) anil)))) (opd (fzO (dcl (p1 pLen) (rcons (dvar 0) rnil))))) ⟨[.val (.tuple (J s)), .un, .un, .un], b⟩ = some (.nx, ⟨[.val (.tuple (J s)), .own (J (List.replicate s.length 0)), .un, .un], b⟩) := by
    have e := rep0 (n := s.length) (by omega)
    rw [← J_len s] at e
    have z := inv_st (b := b) e
    rw [J_len] at z
    exact z
  obtain ⟨o, W, e, rfl, F, x, y, rfl, hF, hAt⟩ := fors_gen (g := (gtp 2 (gscons (gnm 2) (gscons (gnm 3) gsnil)))) (b := (sasg (fzR (dvar 2)) (gst 1 (dvar 3))))
    (P := fun ds W => ∃ (k : Nat) (r F : List Nat) (x y : S), s.drop k = r ∧ ds = enumD k (J r) ∧ W = ⟨[.val (.tuple (J s)), .own (J F), x, y], b⟩ ∧ F.length = s.length ∧ ∀ i j : Nat, i < k → s[i]? = some j → F[j]? = some i)
    (Q := fun o W => o = .nx ∧ ∃ (F : List Nat) (x y : S), W = ⟨[.val (.tuple (J s)), .own (J F), x, y], b⟩ ∧ F.length = s.length ∧ ∀ i j : Nat, s[i]? = some j → F[j]? = some i)
    (fun W ⟨k, r, F, x, y, h1, h2, h3, h4, h5⟩ => by
      cases r with
      | cons a r => cases h2
      | nil =>
        refine ⟨rfl, F, x, y, h3, h4, fun i j hi => h5 i j ?_ hi⟩
        have := (List.getElem?_eq_some_iff.mp hi).1
        have := List.drop_eq_nil_iff.mp h1
        omega)
    (fun d ds W ⟨k, r, F, x, y, h1, h2, h3, h4, h5⟩ => by
      cases r with
      | nil => cases h2
      | cons a r =>
        have h2 : d :: ds = .tuple [.int (k : Int), .int (a : Int)] :: enumD (k + 1) (J r) := h2
        obtain ⟨e1, e2⟩ := List.cons.inj h2
        subst e1 e2 h3
        have hr : s.drop (k + 1) = r := by
          rw [← List.drop_drop, h1]
          rfl
        have hk : s[k]? = some a := by
          have z : (s.drop k)[0]? = s[k]? := by rw [List.getElem?_drop, Nat.add_zero]
          rw [← z, h1]
          rfl
        have ha := lt a (List.mem_of_getElem? hk)
        have ix := ixN_lt (n := s.length) (k := a) ha
        refine ⟨⟨[.val (.tuple (J s)), .own (J F), .val (.int (k : Int)), .val (.int (a : Int))], b⟩, .nx, ⟨[.val (.tuple (J s)), .own (J (F.set a k)), .val (.int (k : Int)), .val (.int (a : Int))], b⟩, by simp, ?_, k + 1, r, F.set a k, _, _, hr, rfl, rfl, by rw [List.length_set]; exact h4, ?_⟩
        · simp [h4, ix, J_set]
        · intro i j hi hij
          rw [List.getElem?_set]
          by_cases hik : i = k
          · subst hik
            rw [hk] at hij
            cases hij
            rw [if_pos rfl, if_pos (by omega)]
          · have : a ≠ j := fun z => hik (nd_inj nd hij (z ▸ hk))
            rw [if_neg this]
            exact h5 i j (by omega) hij)
    (enumD 0 (J s)) ⟨[.val (.tuple (J s)), .own (J (List.replicate s.length 0)), .un, .un], b⟩ ⟨0, s, _, .un, .un, rfl, rfl, rfl, by rw [List.length_replicate], fun i j hi => absurd hi (Nat.not_lt_zero _)⟩
  have un : Un s F := by
    refine ⟨hF, fun i j => ⟨hAt i j, fun h => ?_⟩⟩
    have hj := (List.getElem?_eq_some_iff.mp h).1
    have hm : j ∈ s := hp.mem_iff.mpr (List.mem_range.mpr (by omega))
    obtain ⟨i', e'⟩ := List.getElem?_of_mem hm
    have := hAt i' j e'
    rw [h] at this
    cases this
    exact e'
  have eF : F = undo s := un.symm.eq (un_undo hp).symm
  have t2 : sfor (denum (fzR (dvar 0))) (gtp 2 (gscons (gnm 2) (gscons (gnm 3) gsnil))) (sasg (fzR (dvar 2)) (gst 1 (dvar 3))) ⟨[.val (.tuple (J s)), .own (J (List.replicate s.length 0)), .un, .un], b⟩ = some (.nx, ⟨[.val (.tuple (J s)), .own (J (undo s)), x, y], b⟩) := by
    rw [← eF, ← e, e_sfor]
    rfl
  have sh := shortJ (l := undo s) (d := .list (J (undo s))) (b := b) (.inl rfl) (by rw [(un_undo hp).len]; omega)
  have t3 : ∃ W', sret (dcall f_short_order (acons (arg (fzR (dvar 1))) anil)) ⟨[.val (.tuple (J s)), .own (J (undo s)), x, y], b⟩ = some (.re (.v (.tuple (J (bareL (undo s))))), W') ∧ W'.b = b := by
    refine ⟨⟨[.val (.tuple (J s)), .val (.list (J (undo s))), x, y], b⟩, ?_, rfl⟩
    simp [sh]
  obtain ⟨W', t3, eb⟩ := t3
  refine inverse_start ?_
  rw [hm, e_sseq, t1, Option.bind_some, e_thenN, e_sseq, t2, Option.bind_some, e_thenN, t3, e_finR, eb]
theorem long_start {b : Bg} {d e : D} {r : Option (O × Bg)} (h : finS (m_long_order ⟨[.val d, .val e], b⟩) = r) : f_long_order [.p d, .p e] b = r := by
  rw [show f_long_order = defF 2 2 m_long_order from rfl]
  exact run rfl rfl h
theorem long_st {A : M O} {b : Bg} {e z : D} {x y : List D} (h : A ⟨[.val (.tuple x), .val e], b⟩ = some (.v (.tuple y), ⟨[.val (.tuple x), .val e], b⟩)) (ad : pAdd (.tuple x) (.tuple y) = some (.v z)) : finS (sret (op2 pAdd (opd (fzO (dcl (p1 pTuple) (rcons (dvar 0) rnil)))) (opd (fzO A))) ⟨[.val (.tuple x), .val e], b⟩) = some (.v z, b) := by
  simp [h, ad, -p_addT]
theorem long_ok {l : List Nat} {n : Nat} {b : Bg} (hl : l.length ≤ 1000) (hn : n ≤ l.length) : f_long_order [.p (.tuple (J l)), .p (.int (n : Int))] b = some (.v (.tuple (J l)), b) := by
  have g : rgOkB (l.length : Int) (n : Int) = true := by
    unfold rgOkB
    exact decide_eq_true ⟨by omega, by omega, by omega, by omega, by omega⟩
  have h0 : drg2 tupO (fzO (dcl (p1 pLen) (rcons (dvar 0) rnil))) (fzR (dvar 1)) ⟨[.val (.tuple (J l)), .val (.int (n : Int))], b⟩ = some (.v (.tuple []), ⟨[.val (.tuple (J l)), .val (.int (n : Int))], b⟩) := by
    have a1 : (fzO (dcl (p1 pLen) (rcons (dvar 0) rnil))) ⟨[.val (.tuple (J l)), .val (.int (n : Int))], b⟩ = some (.int (l.length : Int), ⟨[.val (.tuple (J l)), .val (.int (n : Int))], b⟩) := by simp
    have a2 : (fzR (dvar 1)) ⟨[.val (.tuple (J l)), .val (.int (n : Int))], b⟩ = some (.int (n : Int), ⟨[.val (.tuple (J l)), .val (.int (n : Int))], b⟩) := by simp
    rw [e_drg2, a1, Option.bind_some, a2, Option.bind_some, e_intO, Option.bind_some, e_intO, Option.bind_some]
    unfold rgl
    rw [if_pos g, show ((n : Int) - (l.length : Int)).toNat = 0 by omega]
    rfl
  have ad := pAddJ (l := l) (r := []) (by simp only [List.length_nil]; omega)
  rw [List.append_nil] at ad
  have ad : pAdd (.tuple (J l)) (.tuple []) = some (.v (.tuple (J l))) := ad
  refine long_start ?_
  exact long_st h0 ad
theorem sw_st {F : Sm} {b : Bg} {l : List D} {x y : D} {k m : Int} (hm : pMax2 x y = some (.v (.int k))) (hk : k + 1 = m) (hF : F [.p (.tuple l), .p (.int m)] b = some (.v (.tuple l), b)) : sset 3 (dcl (p1 pList) (rcons (opd (fzO (dcall F (acons (arg (fzR (dvar 0))) (acons (arg (fzO (op2 pAdd (opd (fzO (dcl (p2 pMax2) (rcons (dvar 1) (rcons (dvar 2) rnil))))) (cst (.int 1))))) anil))))) rnil)) ⟨[.val (.tuple l), .val x, .val y, .un], b⟩ = some (.nx, ⟨[.val (.tuple l), .val x, .val y, .own l], b⟩) := by
  simp [hm, hk, hF]
theorem ret_st {F : Sm} {b : Bg} {s0 s1 s2 : S} {l : List D} {x : D} (hF : F [.p (.list l)] b = some (.v x, b)) : sret (dcall F (acons (arg (fzR (dvar 3))) anil)) ⟨[s0, s1, s2, .own l], b⟩ = some (.re (.v x), ⟨[s0, s1, s2, .val (.list l)], b⟩) := by
  simp [hF]
theorem swapped_start {b : Bg} {d e f : D} {r : Option (O × Bg)} (h : finS (m_swapped_order ⟨[.val d, .val e, .val f, .un], b⟩) = r) : f_swapped_order [.p d, .p e, .p f] b = r := by
  rw [show f_swapped_order = defF 3 4 m_swapped_order from rfl]
  exact run rfl rfl h
theorem swapped_ok {l : List Nat} {a : Nat} {b : Bg} (hl : l.length ≤ 100) (ha : a + 1 < l.length) : f_swapped_order [.p (.tuple (J l)), .p (.int (a : Int)), .p (.int ((a : Int) + 1))] b = some (.v (.tuple (J (bareL (swp l a)))), b) := by
  have q0 := long_ok (l := l) (n := a + 2) (b := b) (by omega) (by omega)
  have mx : pMax2 (.int (a : Int)) (.int ((a : Int) + 1)) = some (.v (.int ((a : Int) + 1))) := by
    show some (O.v (.int (if (a : Int) + 1 > (a : Int) then (a : Int) + 1 else (a : Int)))) = _
    rw [if_pos (by omega)]
  have h1 := atJ (getD_at (l := l) (n := a) (by omega))
  have h2 := atJ1 (getD_at (l := l) (n := a + 1) (by omega))
  have i1 : ixN l.length (a : Int) = some a := ixN_lt (by omega)
  have i2 : ixN l.length ((a : Int) + 1) = some (a + 1) := ixN_lt1 (by omega)
  have s2 : 2 ≤ sizeLine := by decide
  have sh := shortJ (l := swp l a) (d := .list (J (swp l a))) (b := b) (.inl rfl) (by rw [swp_len]; omega)
  have t1 : sset 3 (dcl (p1 pList) (rcons (opd (fzO (dcall f_long_order (acons (arg (fzR (dvar 0))) (acons (arg (fzO (op2 pAdd (opd (fzO (dcl (p2 pMax2) (rcons (dvar 1) (rcons (dvar 2) rnil))))) (cst (.int 1))))) anil))))) rnil)) ⟨[.val (.tuple (J l)), .val (.int (a : Int)), .val (.int ((a : Int) + 1)), .un], b⟩ = some (.nx, ⟨[.val (.tuple (J l)), .val (.int (a : Int)), .val (.int ((a : Int) + 1)), .own (J l)], b⟩) := by
    exact sw_st mx (by omega) q0
  have t2 : sasg (fzO (dtup (acons (arg (fzO (op2 pIx (dvar 3) (dvar 2)))) (acons (arg (fzO (op2 pIx (dvar 3) (dvar 1)))) anil)))) (gtp 2 (gscons (gst 3 (dvar 1)) (gscons (gst 3 (dvar 2)) gsnil))) ⟨[.val (.tuple (J l)), .val (.int (a : Int)), .val (.int ((a : Int) + 1)), .own (J l)], b⟩ = some (.nx, ⟨[.val (.tuple (J l)), .val (.int (a : Int)), .val (.int ((a : Int) + 1)), .own (J (swp l a))], b⟩) := by
    simp [h1, h2, i1, i2, s2, J_set, swp]
  have t3 : sret (dcall f_short_order (acons (arg (fzR (dvar 3))) anil)) ⟨[.val (.tuple (J l)), .val (.int (a : Int)), .val (.int ((a : Int) + 1)), .own (J (swp l a))], b⟩ = some (.re (.v (.tuple (J (bareL (swp l a))))), ⟨[.val (.tuple (J l)), .val (.int (a : Int)), .val (.int ((a : Int) + 1)), .val (.list (J (swp l a)))], b⟩) := by
    exact ret_st sh
  refine swapped_start ?_
  rw [show m_swapped_order = sseq (sset 3 (dcl (p1 pList) (rcons (opd (fzO (dcall f_long_order (acons (arg (fzR (dvar 0))) (acons (arg (fzO (op2 pAdd (opd (fzO (dcl (p2 pMax2) (rcons (dvar 1) (rcons (dvar 2) rnil))))) (cst (.int 1))))) anil))))) rnil))) (sseq (sasg (fzO (dtup (acons (arg (fzO (op2 pIx (dvar 3) (dvar 2)))) (acons (arg (fzO (op2 pIx (dvar 3) (dvar 1)))) anil)))) (gtp 2 (gscons (gst 3 (dvar 1)) (gscons (gst 3 (dvar 2)) gsnil)))) (sret (dcall f_short_order (acons (arg (fzR (dvar 3))) anil)))) from rfl]
  rw [e_sseq, t1, Option.bind_some, e_thenN, e_sseq, t2, Option.bind_some, e_thenN, t3, e_finR]
theorem lw1_st {Fi Fs : Sm} {b : Bg} {o s q : D} (h1 : Fs [.p o] b = some (.v s, b)) (h2 : Fi [.p s] b = some (.v q, b)) : spar2 1 2 (ocons (dcall Fi (acons (arg (fzO (dcall Fs (acons (arg (fzR (dvar 0))) anil)))) anil)) (ocons (dlst anil) onil)) ⟨[.val o, .un, .un, .un, .un], b⟩ = some (.nx, ⟨[.val o, .val q, .own [], .un, .un], b⟩) := by
  have s0 : (0 : Nat) ≤ sizeLine := Nat.zero_le _
  simp [h1, h2, s0]
theorem ix0_st {A : M O} {w : W} {i : Nat} {ts : List D} {d : D} (h : A w = some (.s (.own ts), w)) (h0 : atI ts 0 = some d) : sset i (op2 pIx (opd (fzO A)) (cst (.int 0))) w = some (.nx, { w with r := w.r.set i (.val d) }) := by
  simp [h, h0]
theorem lwc_st {f : D → D → Option O} {b : Bg} {s0 s2 s3 s4 : S} {q : D} {c : Bool} (h : f q (.tuple [.int 0]) = some (.v (.bool c))) : (tst (op2 f (dvar 1) (opd (fzO (dtup (acons (arg (fzR (cst (.int 0)))) anil)))))) ⟨[s0, .val q, s2, s3, s4], b⟩ = some (c, ⟨[s0, .val q, s2, s3, s4], b⟩) := by
  have s1 : 1 ≤ sizeLine := by decide
  simp [h, s1]
theorem lw2_st {b : Bg} {s0 s1 s4 : S} {ts ts' : List D} {d x : D} {f : Mth} (h : f (.own ts) [d] = some (x, .own ts')) : sdrop (dmt kL 2 f (acons (arg (fzR (dvar 3))) anil)) ⟨[s0, s1, .own ts, .val d, s4], b⟩ = some (.nx, ⟨[s0, s1, .own ts', .val d, s4], b⟩) := by
  simp [h]
theorem lw3_st {F : Sm} {b : Bg} {s0 s2 s4 : S} {q r : D} {a : Int} (h : F [.p q, .p (.int a), .p (.int (a + 1))] b = some (.v r, b)) : sset 1 (dcall F (acons (arg (fzR (dvar 1))) (acons (arg (fzR (dvar 3))) (acons (arg (fzO (op2 pAdd (dvar 3) (cst (.int 1))))) anil)))) ⟨[s0, .val q, s2, .val (.int a), s4], b⟩ = some (.nx, ⟨[s0, .val r, s2, .val (.int a), s4], b⟩) := by
  simp [h]
theorem least_start {b : Bg} {d : D} {r : Option (O × Bg)} (h : finS (m_least_word ⟨[.val d, .un, .un, .un, .un], b⟩) = r) : f_least_word [.p d] b = r := by
  rw [show f_least_word = defF 1 5 m_least_word from rfl]
  exact run rfl rfl h
theorem least_ok {o : List Nat} {b : Bg} (hp : o.Perm (List.range o.length)) (hn : o ≠ []) (h12 : o.length ≤ 12) : f_least_word [.p (.tuple (J o))] b = some (.v (.tuple (J (lw (bareL o)))), b) := by
  obtain ⟨s, hs⟩ : ∃ s, s = bareL o := ⟨_, rfl⟩
  have ps : s.Perm (List.range s.length) := by rw [hs]; exact bare_perm hp
  have ns : s ≠ [] := by rw [hs]; exact bare_ne hn
  have s12 : s.length ≤ 12 := by
    have := bareL_len o
    rw [hs]
    omega
  have sh := shortJ (l := o) (d := .tuple (J o)) (b := b) (.inr rfl) (by omega)
  rw [← hs] at sh ⊢
  have iv := inverse_ok (b := b) ps s12
  have t1 : m_least_word_1 ⟨[.val (.tuple (J o)), .un, .un, .un, .un], b⟩ = some (.nx, ⟨[.val (.tuple (J o)), .val (.tuple (J (bareL (undo s)))), .own [], .un, .un], b⟩) := by
    exact lw1_st sh iv
  have un := un_undo ps
  have pq := un.perm ps
  have lq := un.len
  have iq : inv (undo s) ≤ 66 := inv_66 (by omega)
  have nq : undo s ≠ [] := fun z => by
    rw [z] at lq
    exact ns (List.length_eq_zero_iff.mp lq.symm)
  have loop := whl_gen (c := (tst (op2 pNe (dvar 1) (opd (fzO (dtup (acons (arg (fzR (cst (.int 0)))) anil))))))) (b := m_least_word_2_b)
    (P := fun m W => ∃ (q fo : List Nat) (x y : S), W = ⟨[.val (.tuple (J o)), .val (.tuple (J (bareL q))), .own (J fo), x, y], b⟩ ∧ y.mine = false ∧ q.Perm (List.range q.length) ∧ q ≠ [] ∧ q.length ≤ 12 ∧ inv q ≤ m ∧ fo ++ sortW m q = lw s ∧ fo.length + m ≤ 66)
    (Q := fun r W => r = .nx ∧ ∃ (x y : S), ∃ z : S, W = ⟨[.val (.tuple (J o)), z, .own (J (lw s)), x, y], b⟩)
    (fun m W ⟨q, fo, x, y, e1, hy, e2, e3, e4, e5, e6, e7⟩ => by
      subst e1
      have s1 : 1 ≤ sizeLine := by decide
      have ne : pNe (.tuple (J (bareL q))) (.tuple [.int 0]) = some (.v (.bool (!decide (bareL q = [0])))) := pNeJ _ [0]
      cases hd : desc q with
      | nil =>
        have hz := (bare_zero e2 e3).mpr hd
        rw [sortW_nil hd, List.append_nil] at e6
        subst e6
        refine .inl ⟨⟨[.val (.tuple (J o)), .val (.tuple (J (bareL q))), .own (J (lw s)), x, y], b⟩, ?_, rfl, x, y, _, rfl⟩
        rw [decide_eq_true hz] at ne
        exact lwc_st ne
      | cons a r =>
        have hz : ¬ bareL q = [0] := fun z => by
          have := (bare_zero e2 e3).mp z
          rw [hd] at this
          cases this
        rw [decide_eq_false hz] at ne
        have hma : a ∈ desc q := by rw [hd]; exact List.mem_cons_self
        obtain ⟨a1, a2⟩ := mem_desc.mp hma
        have hdown := inv_swp_down a1 a2
        cases m with
        | zero => omega
        | succ m =>
          rw [sortW_cons hd] at e6
          have bd := desc_bare e2 e3
          rw [hd] at bd
          obtain ⟨t, ht⟩ : ∃ t, t = bareL q := ⟨_, rfl⟩
          have tl : t.length ≤ 12 := by
            have := bareL_len q
            rw [ht]
            omega
          have hma2 : a ∈ desc t := by rw [ht, bd]; exact List.mem_cons_self
          have a3 := (mem_desc.mp hma2).1
          rw [← ht] at ne bd
          have h0 : dits rng1 (acons (arg (fzO (op2 pSub (opd (fzO (dcl (p1 pLen) (rcons (dvar 1) rnil)))) (cst (.int 1))))) anil) ⟨[.val (.tuple (J o)), .val (.tuple (J t)), .own (J fo), x, y], b⟩ = some (J (List.range ((t.length : Int) - 1).toNat), ⟨[.val (.tuple (J o)), .val (.tuple (J t)), .own (J fo), x, y], b⟩) := ditsI (by simp) (by omega) (by omega)
          have tn : ((t.length : Int) - 1).toNat = t.length - 1 := by omega
          rw [tn] at h0
          have key := filt (v := 4) (t := (tst (op2 pGtI (opd (fzO (op2 pIx (dvar 1) (dvar 4)))) (opd (fzO (op2 pIx (dvar 1) (opd (fzO (op2 pAdd (dvar 4) (cst (.int 1))))))))))) (fun a => decide (t.getD (a + 1) 0 < t.getD a 0)) h0 (by omega) (by simp) (by simp [okA, hy]) (fun _ => rfl) (fun _ => rfl) (fun a ha => by
            have q1 := atJ (getD_at (l := t) (n := a) (by omega))
            have q2 := atJ1 (getD_at (l := t) (n := a + 1) (by omega))
            generalize t.getD a 0 = x at q1 ⊢
            generalize t.getD (a + 1) 0 = y at q2 ⊢
            simp [q1, q2])
          have key : _ = some (S.own (J (desc t)) |> O.s, _) := key
          rw [bd] at key
          have at0 : atI (J (a :: r)) 0 = some (.int (a : Int)) := atI_at (n := 0) rfl
          have fa := f_append (ts := J fo) (d := .int (a : Int)) (by rw [J_len, sizeLine_eq]; omega)
          have fa2 : J fo ++ [.int (a : Int)] = J (fo ++ [a]) := (J_app fo [a]).symm
          rw [fa2] at fa
          have sw := swapped_ok (l := t) (a := a) (b := b) (by omega) a3
          have e8 : bareL (swp t a) = bareL (swp q a) := by
            rw [ht]
            rw [ht] at a3
            exact bare_swp a3
          rw [e8] at sw
          refine .inr ⟨⟨[.val (.tuple (J o)), .val (.tuple (J t)), .own (J fo), x, y], b⟩, .nx, ⟨[.val (.tuple (J o)), .val (.tuple (J (bareL (swp q a)))), .own (J (fo ++ [a])), .val (.int (a : Int)), y], b⟩, ?_, ?_, m, by omega, swp q a, fo ++ [a], _, y, rfl, hy, ?_, ?_, by rw [swp_len]; exact e4, by omega, ?_, ?_⟩
          · rw [← ht]
            exact lwc_st ne
          · have u1 : sset 3 (op2 pIx (opd (fzO (dlc [4] (dits rng1 (acons (arg (fzO (op2 pSub (opd (fzO (dcl (p1 pLen) (rcons (dvar 1) rnil)))) (cst (.int 1))))) anil)) (gnm 4) (tst (op2 pGtI (opd (fzO (op2 pIx (dvar 1) (dvar 4)))) (opd (fzO (op2 pIx (dvar 1) (opd (fzO (op2 pAdd (dvar 4) (cst (.int 1)))))))))) (fzR (dvar 4))))) (cst (.int 0))) ⟨[.val (.tuple (J o)), .val (.tuple (J t)), .own (J fo), x, y], b⟩ = some (.nx, ⟨[.val (.tuple (J o)), .val (.tuple (J t)), .own (J fo), .val (.int (a : Int)), y], b⟩) := by
              exact ix0_st key at0
            have u2 : sdrop (dmt kL 2 fAppend (acons (arg (fzR (dvar 3))) anil)) ⟨[.val (.tuple (J o)), .val (.tuple (J t)), .own (J fo), .val (.int (a : Int)), y], b⟩ = some (.nx, ⟨[.val (.tuple (J o)), .val (.tuple (J t)), .own (J (fo ++ [a])), .val (.int (a : Int)), y], b⟩) := by
              exact lw2_st fa
            have u3 : sset 1 (dcall f_swapped_order (acons (arg (fzR (dvar 1))) (acons (arg (fzR (dvar 3))) (acons (arg (fzO (op2 pAdd (dvar 3) (cst (.int 1))))) anil)))) ⟨[.val (.tuple (J o)), .val (.tuple (J t)), .own (J (fo ++ [a])), .val (.int (a : Int)), y], b⟩ = some (.nx, ⟨[.val (.tuple (J o)), .val (.tuple (J (bareL (swp q a)))), .own (J (fo ++ [a])), .val (.int (a : Int)), y], b⟩) := by
              exact lw3_st sw
            unfold m_least_word_2_b
            rw [e_sseq, u1, Option.bind_some, e_thenN, e_sseq, u2, Option.bind_some, e_thenN, u3]
          · rw [swp_len]
            exact (swp_perm a1).trans e2
          · intro z
            have := swp_len q a
            rw [z] at this
            exact e3 (List.length_eq_zero_iff.mp this.symm)
          · rw [List.append_assoc]
            exact e6
          · rw [List.length_append, List.length_singleton]
            omega) 200 66 ⟨[.val (.tuple (J o)), .val (.tuple (J (bareL (undo s)))), .own [], .un, .un], b⟩ (by omega) ⟨undo s, [], .un, .un, rfl, rfl, pq, nq, by omega, iq, rfl, by simp⟩
  obtain ⟨r, W, e, rfl, x, y, z, rfl⟩ := loop
  have t2 : m_least_word_2 ⟨[.val (.tuple (J o)), .val (.tuple (J (bareL (undo s)))), .own [], .un, .un], b⟩ = some (.nx, ⟨[.val (.tuple (J o)), z, .own (J (lw s)), x, y], b⟩) := e
  have t3 : m_least_word_3 ⟨[.val (.tuple (J o)), z, .own (J (lw s)), x, y], b⟩ = some (.re (.v (.tuple (J (lw s)))), ⟨[.val (.tuple (J o)), z, .own (J (lw s)), x, y], b⟩) := by
    unfold m_least_word_3
    simp
  refine least_start ?_
  rw [show m_least_word = sseq m_least_word_1 (sseq m_least_word_2 m_least_word_3) from rfl]
  rw [e_sseq, t1, Option.bind_some, e_thenN, e_sseq, t2, Option.bind_some, e_thenN, t3, e_finR]
end K03
set_option Elab.async false
set_option linter.all false
set_option maxRecDepth 100000
set_option maxHeartbeats 4000000
set_option pp.maxSteps 3000
namespace K03
open PySem L2 TL
/-! ### the least word by its letters -/
theorem idx_ok {row q : List Nat} {a i : Nat} (h : Un row q) (hq : q[a]? = some i) : fIndex (.own (J row)) [.int (a : Int)] = some (.int (i : Int), .own (J row)) := by
  have hr := (h.at_ i a).mpr hq
  have e1 : intsOf (J row) = some (cs row) := by rw [← J_I, intsOf_map]
  have e2 : idxI (cs row) (a : Int) = some i := by
    unfold idxI
    have hi := (List.getElem?_eq_some_iff.mp hr).1
    rw [List.findIdx?_eq_some_iff_getElem]
    refine ⟨by rw [cs_len]; exact hi, ?_, fun j hj => ?_⟩
    · have : row[i] = a := (List.getElem?_eq_some_iff.mp hr).2
      simp [cs, this]
    · have hj2 : j < row.length := by omega
      have ne : row[j] ≠ a := fun e => by
        have := (h.at_ j a).mp (by rw [List.getElem?_eq_getElem hj2, e])
        rw [hq] at this
        have := Option.some.inj this
        omega
      simp [cs]
      omega
  unfold fIndex
  simp only [e1, e2]
  rfl
theorem row_tr {row q : List Nat} {a i j : Nat} (h : Un row q) (hi : q[a]? = some i) (hj : q[a + 1]? = some j) : (row.set i (a + 1)).set j a = row.map (tr a) := by
  have ri := (h.at_ i a).mpr hi
  have rj := (h.at_ j (a + 1)).mpr hj
  have li := (List.getElem?_eq_some_iff.mp ri).1
  have lj := (List.getElem?_eq_some_iff.mp rj).1
  apply List.ext_getElem?
  intro k
  rw [List.getElem?_set, List.getElem?_set, List.length_set, List.getElem?_map]
  by_cases k1 : j = k
  · subst k1
    rw [if_pos rfl, if_pos lj, rj]
    show _ = some (tr a (a + 1))
    unfold tr
    rw [if_neg (by omega), if_pos rfl]
  · rw [if_neg k1]
    by_cases k2 : i = k
    · subst k2
      rw [if_pos rfl, if_pos li, ri]
      show _ = some (tr a a)
      unfold tr
      rw [if_pos rfl]
    · rw [if_neg k2]
      cases e : row[k]? with
      | none => rfl
      | some z =>
        have n1 : z ≠ a := fun q1 => by
          have := (h.at_ k a).mp (q1 ▸ e)
          rw [hi] at this
          exact k2 (Option.some.inj this)
        have n2 : z ≠ a + 1 := fun q1 => by
          have := (h.at_ k (a + 1)).mp (q1 ▸ e)
          rw [hj] at this
          exact k1 (Option.some.inj this)
        show _ = some (tr a z)
        unfold tr
        rw [if_neg n1, if_neg n2]
theorem stepped_start {b : Bg} {d : D} {r : Option (O × Bg)} (h : finS (m__law_stepped ⟨[.val d, .un, .un, .un, .un, .un, .un, .un], b⟩) = r) : f__law_stepped [.p d] b = r := by
  rw [show f__law_stepped = defF 1 8 m__law_stepped from rfl]
  exact run rfl rfl h
theorem stepped_ok {s : List Nat} {b : Bg} (ps : s.Perm (List.range s.length)) (s12 : s.length ≤ 12) : f__law_stepped [.p (.tuple (J s))] b = some (.v (.tuple (J (lw s))), b) := by
  have un := un_undo ps
  have pq := un.perm ps
  have lq := un.len
  have iq : inv (undo s) ≤ 66 := inv_66 (by omega)
  have t1 : m__law_stepped_1 ⟨[.val (.tuple (J s)), .un, .un, .un, .un, .un, .un, .un], b⟩ = some (.nx, ⟨[.val (.tuple (J s)), .own (J s), .own [], .un, .un, .un, .un, .un], b⟩) := by
    unfold m__law_stepped_1
    simp
  have h0 : dits rng1 (acons (arg (fzR (cst (.int 67)))) anil) ⟨[.val (.tuple (J s)), .own (J s), .own [], .un, .un, .un, .un, .un], b⟩ = some (J (List.range 67), ⟨[.val (.tuple (J s)), .own (J s), .own [], .un, .un, .un, .un, .un], b⟩) := ditsJ (n := 67) (by simp) (by omega)
  obtain ⟨r, W, e, rfl, s1, s3, s4, s5, s6, s7, rfl⟩ := fors_gen (g := gnm 3) (b := m__law_stepped_2_b)
    (P := fun ds W => ∃ (row q fo : List Nat) (k : Nat) (s3 s4 s5 s6 s7 : S), W = ⟨[.val (.tuple (J s)), .own (J row), .own (J fo), s3, s4, s5, s6, s7], b⟩ ∧ s7.mine = false ∧ Un row q ∧ q.Perm (List.range q.length) ∧ q.length ≤ 12 ∧ fo ++ sortW k q = lw s ∧ inv q ≤ k ∧ ds.length = k + 1 ∧ fo.length + k ≤ 66)
    (Q := fun o W => o = .nx ∧ ∃ (s1 s3 s4 s5 s6 s7 : S), W = ⟨[.val (.tuple (J s)), s1, .own (J (lw s)), s3, s4, s5, s6, s7], b⟩)
    (fun W ⟨row, q, fo, k, s3, s4, s5, s6, s7, _, _, _, _, _, _, _, e, _⟩ => by
      rw [List.length_nil] at e
      omega)
    (fun d ds W ⟨row, q, fo, k, s3, s4, s5, s6, s7, e1, e2, e3, e4, e5, e6, e7, e8, e9⟩ => by
      subst e1
      have hl := e3.len
      have s0 : (0 : Nat) ≤ sizeLine := Nat.zero_le _
      have h0 : dits rng1 (acons (arg (fzO (op2 pSub (opd (fzO (dcl (p1 pLen) (rcons (dvar 1) rnil)))) (cst (.int 1))))) anil) ⟨[.val (.tuple (J s)), .own (J row), .own (J fo), .val d, s4, s5, s6, s7], b⟩ = some (J (List.range ((row.length : Int) - 1).toNat), ⟨[.val (.tuple (J s)), .own (J row), .own (J fo), .val d, s4, s5, s6, s7], b⟩) := ditsI (by simp) (by omega) (by omega)
      rw [show ((row.length : Int) - 1).toNat = q.length - 1 by omega] at h0
      have key := filt (v := 7) (t := (tst (op2 pLt (opd (dmt kL 1 fIndex (acons (arg (fzO (op2 pAdd (dvar 7) (cst (.int 1))))) anil))) (opd (dmt kL 1 fIndex (acons (arg (fzR (dvar 7))) anil)))))) (fun a => decide (q.getD (a + 1) 0 < q.getD a 0)) h0 (by omega) (by simp) (by simp [okA, e2]) (fun _ => rfl) (fun _ => rfl) (fun a ha => by
        have q1 := idx_ok e3 (getD_at (l := q) (n := a) (by omega))
        have q2 := idx_ok e3 (getD_at (l := q) (n := a + 1) (by omega))
        have q2 : fIndex (.own (J row)) [.int ((a : Int) + 1)] = some (.int (q.getD (a + 1) 0 : Nat), .own (J row)) := q2
        generalize q.getD a 0 = x at q1 ⊢
        generalize q.getD (a + 1) 0 = y at q2 ⊢
        simp [q1, q2])
      have key : _ = some (S.own (J (desc q)) |> O.s, _) := key
      have u1 : sset 4 (dlc [7] (dits rng1 (acons (arg (fzO (op2 pSub (opd (fzO (dcl (p1 pLen) (rcons (dvar 1) rnil)))) (cst (.int 1))))) anil)) (gnm 7) (tst (op2 pLt (opd (dmt kL 1 fIndex (acons (arg (fzO (op2 pAdd (dvar 7) (cst (.int 1))))) anil))) (opd (dmt kL 1 fIndex (acons (arg (fzR (dvar 7))) anil))))) (fzR (dvar 7))) ⟨[.val (.tuple (J s)), .own (J row), .own (J fo), .val d, s4, s5, s6, s7], b⟩ = some (.nx, ⟨[.val (.tuple (J s)), .own (J row), .own (J fo), .val d, .own (J (desc q)), s5, s6, s7], b⟩) := by
        rw [e_sset, key, Option.bind_some, e_puts]
        rfl
      have q2 := pEq_nil (plainJ (desc q))
      cases hd : desc q with
      | nil =>
        rw [hd] at u1 q2
        rw [sortW_nil hd, List.append_nil] at e6
        subst e6
        have u2 : sif (tst (op2 pEq (dvar 4) (opd (fzO (dlst anil))))) (ret .bk) snx ⟨[.val (.tuple (J s)), .own (J row), .own (J (lw s)), .val d, .own (J []), s5, s6, s7], b⟩ = some (.bk, ⟨[.val (.tuple (J s)), .own (J row), .own (J (lw s)), .val d, .own (J []), s5, s6, s7], b⟩) := by
          simp at q2
          simp [q2]
        refine ⟨⟨[.val (.tuple (J s)), .own (J row), .own (J (lw s)), .val d, s4, s5, s6, s7], b⟩, .bk, ⟨[.val (.tuple (J s)), .own (J row), .own (J (lw s)), .val d, .own (J []), s5, s6, s7], b⟩, by simp, ?_, rfl, _, _, _, _, _, _, rfl⟩
        unfold m__law_stepped_2_b
        rw [e_sseq, u1, Option.bind_some, e_thenN, e_sseq, u2, Option.bind_some, e_thenB]
      | cons a r =>
        rw [hd] at u1 q2
        have q2 : pEq (.list (J (a :: r))) (.list []) = some (.v (.bool false)) := q2
        have hma : a ∈ desc q := by rw [hd]; exact List.mem_cons_self
        obtain ⟨a1, a2⟩ := mem_desc.mp hma
        have hdown := inv_swp_down a1 a2
        cases k with
        | zero => omega
        | succ k =>
          rw [sortW_cons hd] at e6
          have at0 : atI (J (a :: r)) 0 = some (.int (a : Int)) := atI_at (n := 0) rfl
          have gi := getD_at (l := q) (n := a) (by omega)
          have gj := getD_at (l := q) (n := a + 1) a1
          obtain ⟨i, hi⟩ : ∃ i, i = q.getD a 0 := ⟨_, rfl⟩
          obtain ⟨j, hj⟩ : ∃ j, j = q.getD (a + 1) 0 := ⟨_, rfl⟩
          rw [← hi] at gi
          rw [← hj] at gj
          have q3 := idx_ok e3 gi
          have q4 := idx_ok e3 gj
          have q4 : fIndex (.own (J row)) [.int ((a : Int) + 1)] = some (.int (j : Int), .own (J row)) := q4
          have rt := row_tr e3 gi gj
          have un2 := e3.swp a1
          have ri := (e3.at_ i a).mpr gi
          have rj := (e3.at_ j (a + 1)).mpr gj
          have li := (List.getElem?_eq_some_iff.mp ri).1
          have lj := (List.getElem?_eq_some_iff.mp rj).1
          have i1 : ixN row.length (i : Int) = some i := ixN_lt li
          have i2 : ixN row.length (j : Int) = some j := ixN_lt lj
          have fa := f_append (ts := J fo) (d := .int (a : Int)) (by rw [J_len, sizeLine_eq]; omega)
          have fa2 : J fo ++ [.int (a : Int)] = J (fo ++ [a]) := (J_app fo [a]).symm
          rw [fa2] at fa
          have js1 : (J row).set i (.int ((a : Int) + 1)) = J (row.set i (a + 1)) := J_set row i (a + 1)
          have js2 : (J (row.set i (a + 1))).set j (.int (a : Int)) = J (row.map (tr a)) := by rw [J_set, rt]
          generalize J (a :: r) = jar at u1 q2 at0
          have u2 : sif (tst (op2 pEq (dvar 4) (opd (fzO (dlst anil))))) (ret .bk) snx ⟨[.val (.tuple (J s)), .own (J row), .own (J fo), .val d, .own jar, s5, s6, s7], b⟩ = some (.nx, ⟨[.val (.tuple (J s)), .own (J row), .own (J fo), .val d, .own jar, s5, s6, s7], b⟩) := by
            simp [q2]
          have u3 : spar2 5 6 (ocons (end_ (dmt kL 1 fIndex (acons (arg (fzO (op2 pIx (dvar 4) (cst (.int 0))))) anil))) (ocons (end_ (dmt kL 1 fIndex (acons (arg (fzO (op2 pAdd (opd (fzO (op2 pIx (dvar 4) (cst (.int 0))))) (cst (.int 1))))) anil))) onil)) ⟨[.val (.tuple (J s)), .own (J row), .own (J fo), .val d, .own jar, s5, s6, s7], b⟩ = some (.nx, ⟨[.val (.tuple (J s)), .own (J row), .own (J fo), .val d, .own jar, .val (.int (i : Int)), .val (.int (j : Int)), s7], b⟩) := by
            simp [at0, q3, q4]
          have u4 : sasg (fzO (op2 pAdd (opd (fzO (op2 pIx (dvar 4) (cst (.int 0))))) (cst (.int 1)))) (gst 1 (dvar 5)) ⟨[.val (.tuple (J s)), .own (J row), .own (J fo), .val d, .own jar, .val (.int (i : Int)), .val (.int (j : Int)), s7], b⟩ = some (.nx, ⟨[.val (.tuple (J s)), .own (J (row.set i (a + 1))), .own (J fo), .val d, .own jar, .val (.int (i : Int)), .val (.int (j : Int)), s7], b⟩) := by
            simp [at0, i1, js1]
          have u5 : sasg (fzO (op2 pIx (dvar 4) (cst (.int 0)))) (gst 1 (dvar 6)) ⟨[.val (.tuple (J s)), .own (J (row.set i (a + 1))), .own (J fo), .val d, .own jar, .val (.int (i : Int)), .val (.int (j : Int)), s7], b⟩ = some (.nx, ⟨[.val (.tuple (J s)), .own (J (row.map (tr a))), .own (J fo), .val d, .own jar, .val (.int (i : Int)), .val (.int (j : Int)), s7], b⟩) := by
            simp [at0, i2, js2]
          have u6 : sdrop (dmt kL 2 fAppend (acons (arg (fzO (op2 pIx (dvar 4) (cst (.int 0))))) anil)) ⟨[.val (.tuple (J s)), .own (J (row.map (tr a))), .own (J fo), .val d, .own jar, .val (.int (i : Int)), .val (.int (j : Int)), s7], b⟩ = some (.nx, ⟨[.val (.tuple (J s)), .own (J (row.map (tr a))), .own (J (fo ++ [a])), .val d, .own jar, .val (.int (i : Int)), .val (.int (j : Int)), s7], b⟩) := by
            simp [at0, fa]
          refine ⟨⟨[.val (.tuple (J s)), .own (J row), .own (J fo), .val d, s4, s5, s6, s7], b⟩, .nx, ⟨[.val (.tuple (J s)), .own (J (row.map (tr a))), .own (J (fo ++ [a])), .val d, .own jar, .val (.int (i : Int)), .val (.int (j : Int)), s7], b⟩, by simp, ?_, row.map (tr a), swp q a, fo ++ [a], k, _, _, _, _, s7, rfl, e2, un2, ?_, by rw [swp_len]; exact e5, ?_, by omega, ?_, ?_⟩
          · unfold m__law_stepped_2_b
            rw [e_sseq, u1, Option.bind_some, e_thenN, e_sseq, u2, Option.bind_some, e_thenN, e_sseq, u3, Option.bind_some, e_thenN, e_sseq, u4, Option.bind_some, e_thenN, e_sseq, u5, Option.bind_some, e_thenN, u6]
          · rw [swp_len]
            exact (swp_perm a1).trans e4
          · rw [List.append_assoc]
            exact e6
          · rw [List.length_cons] at e8
            omega
          · rw [List.length_append, List.length_singleton]
            omega)
    (J (List.range 67)) ⟨[.val (.tuple (J s)), .own (J s), .own [], .un, .un, .un, .un, .un], b⟩ ⟨s, undo s, [], 66, .un, .un, .un, .un, .un, rfl, rfl, un, pq, by omega, rfl, iq, by rw [J_len, List.length_range], by simp⟩
  have t2 : m__law_stepped_2 ⟨[.val (.tuple (J s)), .own (J s), .own [], .un, .un, .un, .un, .un], b⟩ = some (.nx, ⟨[.val (.tuple (J s)), s1, .own (J (lw s)), s3, s4, s5, s6, s7], b⟩) := by
    unfold m__law_stepped_2
    rw [e_sfor, h0]
    exact e
  have t3 : m__law_stepped_3 ⟨[.val (.tuple (J s)), s1, .own (J (lw s)), s3, s4, s5, s6, s7], b⟩ = some (.re (.v (.tuple (J (lw s)))), ⟨[.val (.tuple (J s)), s1, .own (J (lw s)), s3, s4, s5, s6, s7], b⟩) := by
    unfold m__law_stepped_3
    simp
  refine stepped_start ?_
  rw [show m__law_stepped = sseq m__law_stepped_1 (sseq m__law_stepped_2 m__law_stepped_3) from rfl]
  rw [e_sseq, t1, Option.bind_some, e_thenN, e_sseq, t2, Option.bind_some, e_thenN, t3, e_finR]
end K03
set_option Elab.async false
set_option linter.all false
set_option maxRecDepth 100000
set_option maxHeartbeats 4000000
set_option pp.maxSteps 3000
namespace K03
open PySem L2 TL
/-! ### exchanged places -/
/-- the order of a word without a letter -/
def wout (w : List Nat) (p : Nat) : List Nat := bareL (rowOf (w.take p ++ w.drop (p + 1)))
def places (w : List Nat) (a : Nat) : List Nat := (List.range w.length).filter fun p => decide (wout w p = bareL (rowOf (w ++ [a])))
def xp (w : List Nat) (a : Nat) : D := if inv (rowOf (w ++ [a])) = w.length + 1 then .none else .int ((places w a).headD 0 : Nat)
theorem inv_row {w : List Nat} (h : ∀ a ∈ w, a ≤ 10) : inv (bareL (rowOf w)) = inv (rowOf w) := inv_bare (by rw [row_len]; exact row_perm h)
theorem let_app {w : List Nat} {a : Nat} (h : ∀ a ∈ w, a ≤ 10) (ha : a ≤ 10) : ∀ x ∈ w ++ [a], x ≤ 10 := fun x hx => by
  rcases List.mem_append.mp hx with h1 | h1
  · exact h x h1
  · rw [List.mem_singleton.mp h1]
    exact ha
theorem let_out {w : List Nat} {p : Nat} (h : ∀ a ∈ w, a ≤ 10) : ∀ x ∈ w.take p ++ w.drop (p + 1), x ≤ 10 := fun x hx => by
  rcases List.mem_append.mp hx with h1 | h1
  · exact h x (List.mem_of_mem_take h1)
  · exact h x (List.mem_of_mem_drop h1)
theorem places_ne {w : List Nat} {a : Nat} (hw : ∀ b ∈ w, b ≤ 10) (ha : a ≤ 10) (hr : inv (rowOf w) = w.length) (h : ¬ inv (rowOf (w ++ [a])) = w.length + 1) : places w a ≠ [] := by
  rcases snoc_turn hw ha hr with h1 | ⟨h1, p, hp, e⟩
  · exact absurd h1 h
  · intro z
    have : p ∈ places w a := by
      unfold places wout
      rw [List.mem_filter, List.mem_range, decide_eq_true_eq, e]
      exact ⟨hp, rfl⟩
    rw [z] at this
    cases this
theorem head_at {l : List Nat} (h : l ≠ []) : atI (J l) 0 = some (.int (l.headD 0 : Nat)) := by
  cases l with
  | nil => exact absurd rfl h
  | cons x r => exact atI_at (n := 0) rfl
theorem xp_start {b : Bg} {d e : D} {r : Option (O × Bg)} (h : finS (m_exchange_place ⟨[.val d, .val e, .un, .un], b⟩) = r) : f_exchange_place [.p d, .p e] b = r := by
  rw [show f_exchange_place = defF 2 4 m_exchange_place from rfl]
  exact run rfl rfl h
theorem xp_ok {w : List Nat} {a : Nat} {b : Bg} (hw : ∀ b ∈ w, b ≤ 10) (hl : w.length ≤ 300) (ha : a ≤ 10) (hr : inv (rowOf w) = w.length) : f_exchange_place [.p (.tuple (J w)), .p (.int (a : Int))] b = some (.v (xp w a), b) := by
  have la := let_app hw ha
  have sh := shortest_ok (b := b) la
  rw [inv_row la] at sh
  have ad := pAddJ (l := w) (r := [a]) (by simp only [List.length_cons, List.length_nil]; omega)
  rw [← J1] at ad
  have s1 : 1 ≤ sizeLine := by decide
  have hm : m_exchange_place = sseq m_exchange_place_1 (sseq m_exchange_place_2 m_exchange_place_3) := rfl
  have ll : (w ++ [a]).length = w.length + 1 := by rw [List.length_append]; rfl
  rw [ll] at sh
  refine xp_start ?_
  by_cases h : inv (rowOf (w ++ [a])) = w.length + 1
  · have ex : xp w a = .none := if_pos h
    rw [h] at sh
    have t1 : m_exchange_place_1 ⟨[.val (.tuple (J w)), .val (.int (a : Int)), .un, .un], b⟩ = some (.re (.v .none), ⟨[.val (.tuple (J w)), .val (.int (a : Int)), .un, .un], b⟩) := by
      unfold m_exchange_place_1
      have sh : f_is_shortest [.p (.tuple (J (w ++ [a])))] b = some (.v (.bool true), b) := by rw [sh, beq_self_eq_true]
      simp [ad, s1, sh]
    rw [hm, e_sseq, t1, Option.bind_some, e_thenR, e_finR, ex]
  · have ex : xp w a = .int ((places w a).headD 0 : Nat) := if_neg h
    have pn := places_ne hw ha hr h
    have t1 : m_exchange_place_1 ⟨[.val (.tuple (J w)), .val (.int (a : Int)), .un, .un], b⟩ = some (.nx, ⟨[.val (.tuple (J w)), .val (.int (a : Int)), .un, .un], b⟩) := by
      unfold m_exchange_place_1
      have sh : f_is_shortest [.p (.tuple (J (w ++ [a])))] b = some (.v (.bool false), b) := by
        rw [sh]
        congr 4
        exact beq_eq_false_iff_ne.mpr (by omega)
      simp [ad, s1, sh]
    have wo := wo_ok (b := b) la
    obtain ⟨g, hg⟩ : ∃ g, g = bareL (rowOf (w ++ [a])) := ⟨_, rfl⟩
    rw [← hg] at wo
    have t2 : m_exchange_place_2 ⟨[.val (.tuple (J w)), .val (.int (a : Int)), .un, .un], b⟩ = some (.nx, ⟨[.val (.tuple (J w)), .val (.int (a : Int)), .val (.tuple (J g)), .un], b⟩) := by
      unfold m_exchange_place_2
      simp [ad, s1, wo]
    have h0 : dits rng1 (acons (arg (fzO (dcl (p1 pLen) (rcons (dvar 0) rnil)))) anil) ⟨[.val (.tuple (J w)), .val (.int (a : Int)), .val (.tuple (J g)), .un], b⟩ = some (J (List.range w.length), ⟨[.val (.tuple (J w)), .val (.int (a : Int)), .val (.tuple (J g)), .un], b⟩) := ditsJ (by simp) (by omega)
    have key := filt (v := 3) (t := (tst (op2 pEq (opd (fzO (dcall f_word_order (acons (arg (fzO (op2 pAdd (opd (fzO (dsl (dvar 0) pno (pso (dvar 3))))) (opd (fzO (dsl (dvar 0) (pso (opd (fzO (op2 pAdd (dvar 3) (cst (.int 1)))))) pno)))))) anil)))) (dvar 2)))) (fun p => decide (wout w p = g)) h0 (by omega) (by simp) rfl (fun _ => rfl) (fun _ => rfl) (fun p hp => by
      have k1 := cutJ_to w p
      have k2 := cut_from1 w p
      have a1 := pAddJ (l := w.take p) (r := w.drop (p + 1)) (by rw [List.length_take, List.length_drop]; omega)
      have wo2 := wo_ok (b := b) (let_out (p := p) hw)
      have wo2 : f_word_order [.p (.tuple (J (w.take p ++ w.drop (p + 1))))] b = some (.v (.tuple (J (wout w p))), b) := wo2
      have eq := pEqJ (wout w p) g
      generalize wout w p = x at wo2 eq ⊢
      generalize w.take p ++ w.drop (p + 1) = y at wo2 a1
      simp [k1, k2, a1, wo2, eq])
    rw [hg] at key
    have key : _ = some (S.own (J (places w a)) |> O.s, _) := key
    rw [← hg] at key
    have at0 := head_at pn
    have t3 : m_exchange_place_3 ⟨[.val (.tuple (J w)), .val (.int (a : Int)), .val (.tuple (J g)), .un], b⟩ = some (.re (.v (.int ((places w a).headD 0 : Nat))), ⟨[.val (.tuple (J w)), .val (.int (a : Int)), .val (.tuple (J g)), .un], b⟩) := by
      unfold m_exchange_place_3
      generalize (places w a).headD 0 = z at at0 ⊢
      generalize J (places w a) = pl at key at0
      generalize dlc [3] _ _ _ _ = A at key ⊢
      simp [key, at0]
    rw [hm, e_sseq, t1, Option.bind_some, e_thenN, e_sseq, t2, Option.bind_some, e_thenN, t3, e_finR, ex]
theorem xp_nice {w : List Nat} {a : Nat} (hl : w.length ≤ 300) : Nice 10 (xp w a) ∧ (xp w a).plain = true := by
  unfold xp
  split
  · exact ⟨nice_none.le (by omega), rfl⟩
  · refine ⟨?_, rfl⟩
    have : (places w a).headD 0 < 1000 := by
      cases h : places w a with
      | nil => exact Nat.succ_pos _
      | cons x r =>
        have hx : x ∈ places w a := by rw [h]; exact List.mem_cons_self
        unfold places at hx
        have := List.mem_range.mp (List.mem_filter.mp hx).1
        show x < 1000
        omega
    exact (nice_int (k := 3) (by omega) (by omega) (by rw [Int.natAbs_natCast]; omega)).le (by omega)
def outD (w : List Nat) : D → Option D
  | .int j => some (.tuple (J (wout w j.toNat)))
  | _ => none
theorem outD_J (w : List Nat) : ∀ l : List Nat, (J l).filterMap (outD w) = l.map fun p => .tuple (J (wout w p))
  | [] => rfl
  | x :: l => by
    have e0 : outD w (.int (x : Int)) = some (.tuple (J (wout w x))) := rfl
    rw [J_cons, List.filterMap_cons_some e0, outD_J w l, List.map_cons]
def outs (w : List Nat) : List D := (List.range w.length).map fun p => .tuple (J (wout w p))
theorem outs_at {w : List Nat} {p : Nat} (h : p < w.length) : atI (outs w) (p : Int) = some (.tuple (J (wout w p))) := atI_at (by
  unfold outs
  rw [List.getElem?_map, List.getElem?_range h]
  rfl)
theorem xr_start {b : Bg} {d : D} {r : Option (O × Bg)} (h : finS (m__law_are_exchanges_right ⟨[.val d, .un, .un, .un, .un, .un, .un, .un, .un], b⟩) = r) : f__law_are_exchanges_right [.p d] b = r := by
  rw [show f__law_are_exchanges_right = defF 1 9 m__law_are_exchanges_right from rfl]
  exact run rfl rfl h
theorem xr_turn {w : List Nat} {a : Nat} {b : Bg} {s5 s6 s7 s8 : S} {wh : D} (hw : ∀ b ∈ w, b ≤ 10) (hl : w.length ≤ 300) (ha : a ≤ 10) (hr : inv (rowOf w) = w.length) (h8 : s8.mine = false) : ∃ s6', m__law_are_exchanges_right_4_b ⟨[.val (.tuple (J w)), .val wh, .val (.int (w.length : Int)), .own (outs w), .val (.int (a : Int)), s5, s6, s7, s8], b⟩ =
    some (.nx, ⟨[.val (.tuple (J w)), .val wh, .val (.int (w.length : Int)), .own (outs w), .val (.int (a : Int)), .val (.tuple (J (bareL (rowOf (w ++ [a]))))), s6', .val (xp w a), s8], b⟩) := by
  have la := let_app hw ha
  have ad := pAddJ (l := w) (r := [a]) (by simp only [List.length_cons, List.length_nil]; omega)
  rw [← J1] at ad
  have s1 : 1 ≤ sizeLine := by decide
  have md := made_ok (b := b) la
  have xo := xp_ok (b := b) hw hl ha hr
  have ti : inv (rowOf (w ++ [a])) = w.length + 1 ∨ inv (rowOf (w ++ [a])) + 1 = w.length := by
    rcases snoc_turn hw ha hr with h | ⟨h, _⟩
    · exact .inl h
    · exact .inr h
  have gl := (bare_row la).2
  have tu := turns_ok (l := bareL (rowOf (w ++ [a]))) (b := b) (by omega)
  rw [inv_row la] at tu
  have xpd : xp w a = if inv (rowOf (w ++ [a])) = w.length + 1 then .none else .int ((places w a).headD 0 : Nat) := rfl
  have pn := places_ne (a := a) hw ha hr
  have xn := xp_nice (w := w) (a := a) hl
  have pl : places w a = (List.range w.length).filter fun p => decide (wout w p = bareL (rowOf (w ++ [a]))) := rfl
  generalize inv (rowOf (w ++ [a])) = iv at ti tu xpd pn
  generalize places w a = ps at xpd pn pl
  generalize bareL (rowOf (w ++ [a])) = g at md tu pl ⊢
  have sm := same_ok (b := b) xn.1 (by omega) xn.2
  have u1 : sset 5 (dcall f__law_made (acons (arg (fzO (op2 pAdd (dvar 0) (opd (fzO (dtup (acons (arg (fzR (dvar 4))) anil))))))) anil)) ⟨[.val (.tuple (J w)), .val wh, .val (.int (w.length : Int)), .own (outs w), .val (.int (a : Int)), s5, s6, s7, s8], b⟩ = some (.nx, ⟨[.val (.tuple (J w)), .val wh, .val (.int (w.length : Int)), .own (outs w), .val (.int (a : Int)), .val (.tuple (J g)), s6, s7, s8], b⟩) := by
    simp [ad, s1, md]
  have h0 : dits rng1 (acons (arg (fzR (dvar 2))) anil) ⟨[.val (.tuple (J w)), .val wh, .val (.int (w.length : Int)), .own (outs w), .val (.int (a : Int)), .val (.tuple (J g)), s6, s7, s8], b⟩ = some (J (List.range w.length), ⟨[.val (.tuple (J w)), .val wh, .val (.int (w.length : Int)), .own (outs w), .val (.int (a : Int)), .val (.tuple (J g)), s6, s7, s8], b⟩) := ditsJ (by simp) (by omega)
  have key := filt (v := 8) (t := (tst (op2 pEq (opd (fzO (op2 pIx (dvar 3) (dvar 8)))) (dvar 5)))) (fun p => decide (wout w p = g)) h0 (by omega) (by simp) (by simp [okA, h8]) (fun _ => rfl) (fun _ => rfl) (fun p hp => by
    have q1 := outs_at hp
    have eq := pEqJ (wout w p) g
    generalize wout w p = x at q1 eq ⊢
    generalize outs w = ow at q1
    simp [q1, eq])
  rw [← pl] at key
  have u2 : sset 6 (dlc [8] (dits rng1 (acons (arg (fzR (dvar 2))) anil)) (gnm 8) (tst (op2 pEq (opd (fzO (op2 pIx (dvar 3) (dvar 8)))) (dvar 5))) (fzR (dvar 8))) ⟨[.val (.tuple (J w)), .val wh, .val (.int (w.length : Int)), .own (outs w), .val (.int (a : Int)), .val (.tuple (J g)), s6, s7, s8], b⟩ = some (.nx, ⟨[.val (.tuple (J w)), .val wh, .val (.int (w.length : Int)), .own (outs w), .val (.int (a : Int)), .val (.tuple (J g)), .own (J ps), s7, s8], b⟩) := by
    rw [e_sset, key, Option.bind_some, e_puts]
    rfl
  have u3 : sset 7 (dif (tst (op2 pGtI (opd (fzO (dcall f__law_turns (acons (arg (fzR (dvar 5))) anil)))) (dvar 2))) (end_ (fzR (cst .none))) (op2 pIx (dvar 6) (cst (.int 0)))) ⟨[.val (.tuple (J w)), .val wh, .val (.int (w.length : Int)), .own (outs w), .val (.int (a : Int)), .val (.tuple (J g)), .own (J ps), s7, s8], b⟩ = some (.nx, ⟨[.val (.tuple (J w)), .val wh, .val (.int (w.length : Int)), .own (outs w), .val (.int (a : Int)), .val (.tuple (J g)), .own (J ps), .val (xp w a), s8], b⟩) := by
    by_cases h : iv = w.length + 1
    · have c : (w.length : Int) < (iv : Int) := by omega
      rw [xpd, if_pos h]
      simp [tu, c]
    · have c : ¬ (w.length : Int) < (iv : Int) := by omega
      have at0 := head_at (pn h)
      rw [xpd, if_neg h]
      generalize J ps = jp at at0 ⊢
      generalize ps.headD 0 = z at at0 ⊢
      simp [tu, c, at0]
  refine ⟨.own (J ps), ?_⟩
  have u4 : sif (dor (dnot (dtr (opd (fzO (dcall f__law_same (acons (arg (fzO (dcall f_exchange_place (acons (arg (fzR (dvar 0))) (acons (arg (fzR (dvar 4))) anil))))) (acons (arg (fzR (dvar 7))) anil))))))) (dnot (dtr (opd (fzO (dcall f__law_same (acons (arg (fzO (dcall f_exchange_place (kwm [1, 0] anil (acons (arg (fzR (dvar 4))) (acons (arg (fzR (dvar 0))) anil)))))) (acons (arg (fzR (dvar 7))) anil)))))))) (sret (end_ (fzR (cst (.bool false))))) snx ⟨[.val (.tuple (J w)), .val wh, .val (.int (w.length : Int)), .own (outs w), .val (.int (a : Int)), .val (.tuple (J g)), .own (J ps), .val (xp w a), s8], b⟩ = some (.nx, ⟨[.val (.tuple (J w)), .val wh, .val (.int (w.length : Int)), .own (outs w), .val (.int (a : Int)), .val (.tuple (J g)), .own (J ps), .val (xp w a), s8], b⟩) := by
    generalize xp w a = x at xo sm ⊢
    simp [xo, sm, perm]
  unfold m__law_are_exchanges_right_4_b
  rw [e_sseq, u1, Option.bind_some, e_thenN, e_sseq, u2, Option.bind_some, e_thenN, e_sseq, u3, Option.bind_some, e_thenN, u4]
theorem xr_ok {w : List Nat} {b : Bg} (hw : ∀ b ∈ w, b ≤ 10) (hl : w.length ≤ 300) (hr : inv (rowOf w) = w.length) : f__law_are_exchanges_right [.p (.tuple (J w))] b = some (.v (.bool true), b) := by
  have md := made_ok (b := b) hw
  have tu := turns_ok (l := bareL (rowOf w)) (b := b) (by have := (bare_row hw).2; omega)
  rw [inv_row hw, hr] at tu
  generalize bareL (rowOf w) = g at md tu
  have t1 : m__law_are_exchanges_right_1 ⟨[.val (.tuple (J w)), .un, .un, .un, .un, .un, .un, .un, .un], b⟩ = some (.nx, ⟨[.val (.tuple (J w)), .val (.tuple (J g)), .val (.int (w.length : Int)), .un, .un, .un, .un, .un, .un], b⟩) := by
    unfold m__law_are_exchanges_right_1
    simp [md]
  have h0 : dits rng1 (acons (arg (fzR (dvar 2))) anil) ⟨[.val (.tuple (J w)), .val (.tuple (J g)), .val (.int (w.length : Int)), .un, .un, .un, .un, .un, .un], b⟩ = some (J (List.range w.length), ⟨[.val (.tuple (J w)), .val (.tuple (J g)), .val (.int (w.length : Int)), .un, .un, .un, .un, .un, .un], b⟩) := ditsJ (by simp) (by omega)
  have key := dlc_pure (vs := [8]) (g := gnm 8) (t := ret true) (e := (fzO (dcall f__law_made (acons (arg (fzO (op2 pAdd (opd (fzO (dsl (dvar 0) pno (pso (dvar 8))))) (opd (fzO (dsl (dvar 0) (pso (opd (fzO (op2 pAdd (dvar 8) (cst (.int 1)))))) pno)))))) anil)))) (outD w) h0 rfl (by rw [J_len, List.length_range, sizeLine_eq]; omega) fun d hd => by
    obtain ⟨p, hp, rfl⟩ := mem_J hd
    have hp := List.mem_range.mp hp
    have k1 := cutJ_to w p
    have k2 := cut_from1 w p
    have a1 := pAddJ (l := w.take p) (r := w.drop (p + 1)) (by rw [List.length_take, List.length_drop]; omega)
    have wo2 := made_ok (b := b) (let_out (p := p) hw)
    have wo2 : f__law_made [.p (.tuple (J (w.take p ++ w.drop (p + 1))))] b = some (.v (.tuple (J (wout w p))), b) := wo2
    have e0 : outD w (.int (p : Int)) = some (.tuple (J (wout w p))) := rfl
    refine ⟨⟨[.val (.tuple (J w)), .val (.tuple (J g)), .val (.int (w.length : Int)), .un, .un, .un, .un, .un, .val (.int (p : Int))], b⟩, ⟨[.val (.tuple (J w)), .val (.tuple (J g)), .val (.int (w.length : Int)), .un, .un, .un, .un, .un, .val (.int (p : Int))], b⟩, by simp [wipA], .inr ⟨.tuple (J (wout w p)), ⟨[.val (.tuple (J w)), .val (.tuple (J g)), .val (.int (w.length : Int)), .un, .un, .un, .un, .un, .val (.int (p : Int))], b⟩, rfl, ?_, e0, rfl, rfl⟩⟩
    generalize wout w p = x at wo2 ⊢
    generalize w.take p ++ w.drop (p + 1) = y at wo2 a1
    simp [k1, k2, a1, wo2]
  rw [outD_J] at key
  have key : _ = some (S.own (outs w) |> O.s, _) := key
  have t2 : m__law_are_exchanges_right_2 ⟨[.val (.tuple (J w)), .val (.tuple (J g)), .val (.int (w.length : Int)), .un, .un, .un, .un, .un, .un], b⟩ = some (.nx, ⟨[.val (.tuple (J w)), .val (.tuple (J g)), .val (.int (w.length : Int)), .own (outs w), .un, .un, .un, .un, .un], b⟩) := by
    unfold m__law_are_exchanges_right_2
    rw [e_sset, key, Option.bind_some, e_puts]
    rfl
  have t3 : m__law_are_exchanges_right_3 ⟨[.val (.tuple (J w)), .val (.tuple (J g)), .val (.int (w.length : Int)), .own (outs w), .un, .un, .un, .un, .un], b⟩ = some (.nx, ⟨[.val (.tuple (J w)), .val (.tuple (J g)), .val (.int (w.length : Int)), .own (outs w), .un, .un, .un, .un, .un], b⟩) := by
    unfold m__law_are_exchanges_right_3
    simp [tu]
  have h1 : dits rng1 (acons (arg (fzR (cst (.int 11)))) anil) ⟨[.val (.tuple (J w)), .val (.tuple (J g)), .val (.int (w.length : Int)), .own (outs w), .un, .un, .un, .un, .un], b⟩ = some (J (List.range 11), ⟨[.val (.tuple (J w)), .val (.tuple (J g)), .val (.int (w.length : Int)), .own (outs w), .un, .un, .un, .un, .un], b⟩) := ditsJ (n := 11) (by simp) (by omega)
  obtain ⟨r, W, e, rfl, eb⟩ := fors_gen (g := gnm 4) (b := m__law_are_exchanges_right_4_b)
    (P := fun ds W => (∀ d ∈ ds, ∃ a : Nat, a ≤ 10 ∧ d = .int (a : Int)) ∧ ∃ (s4 s5 s6 s7 s8 : S), s8.mine = false ∧ W = ⟨[.val (.tuple (J w)), .val (.tuple (J g)), .val (.int (w.length : Int)), .own (outs w), s4, s5, s6, s7, s8], b⟩)
    (Q := fun o W => o = .nx ∧ W.b = b)
    (fun W ⟨_, s4, s5, s6, s7, s8, _, e⟩ => ⟨rfl, by rw [e]⟩)
    (fun d ds W ⟨h1, s4, s5, s6, s7, s8, h8, e⟩ => by
      subst e
      obtain ⟨a, ha, rfl⟩ := h1 d List.mem_cons_self
      obtain ⟨s6', u⟩ := xr_turn (b := b) (s5 := s5) (s6 := s6) (s7 := s7) (wh := .tuple (J g)) hw hl ha hr h8
      exact ⟨_, .nx, _, by simp, u, fun d hd => h1 d (List.mem_cons_of_mem _ hd), _, _, _, _, _, h8, rfl⟩)
    (J (List.range 11)) ⟨[.val (.tuple (J w)), .val (.tuple (J g)), .val (.int (w.length : Int)), .own (outs w), .un, .un, .un, .un, .un], b⟩ ⟨fun d hd => by
      obtain ⟨a, ha, rfl⟩ := mem_J hd
      have := List.mem_range.mp ha
      exact ⟨a, by omega, rfl⟩, .un, .un, .un, .un, .un, rfl, rfl⟩
  have t4 : m__law_are_exchanges_right_4 ⟨[.val (.tuple (J w)), .val (.tuple (J g)), .val (.int (w.length : Int)), .own (outs w), .un, .un, .un, .un, .un], b⟩ = some (.nx, W) := by
    unfold m__law_are_exchanges_right_4
    rw [e_sfor, h1]
    exact e
  have t5 : m__law_are_exchanges_right_5 W = some (.re (.v (.bool true)), W) := by
    unfold m__law_are_exchanges_right_5
    simp
  refine xr_start ?_
  rw [show m__law_are_exchanges_right = sseq m__law_are_exchanges_right_1 (sseq m__law_are_exchanges_right_2 (sseq m__law_are_exchanges_right_3 (sseq m__law_are_exchanges_right_4 m__law_are_exchanges_right_5))) from rfl]
  rw [e_sseq, t1, Option.bind_some, e_thenN, e_sseq, t2, Option.bind_some, e_thenN, e_sseq, t3, Option.bind_some, e_thenN, e_sseq, t4, Option.bind_some, e_thenN, t5, e_finR, eb]
end K03
set_option Elab.async false
set_option linter.all false
set_option maxRecDepth 100000
set_option maxHeartbeats 4000000
set_option pp.maxSteps 3000
namespace K03
open PySem L2 TL
/-! ### all shortest words, length by length -/
abbrev Ent := List (List Nat × List Nat)
def kk (l : List Nat) : List L2.Key := l.map fun (n : Nat) => .inl (n : Int)
def enc (e : Ent) : List (List L2.Key × D) := e.map fun p => (kk p.1, .tuple (J p.2))
def getE (e : Ent) (k : List Nat) : Option (List Nat) := (e.find? fun p => decide (p.1 = k)).map (·.2)
def putE (e : Ent) (k v : List Nat) : Ent := if (e.any fun p => decide (p.1 = k)) = true then e.map (fun p => if p.1 = k then (p.1, v) else p) else e ++ [(k, v)]
def ltE (x y : List Nat) : Bool := HT.lexLt (cs x) (cs y)
def upd1 (row word : List Nat) (e : Ent) (a : Nat) : Ent :=
  if row.getD a 0 < row.getD (a + 1) 0 then match getE e (swp row a) with
    | none => putE e (swp row a) (word ++ [a])
    | some x => if ltE (word ++ [a]) x = true then putE e (swp row a) (word ++ [a]) else e
  else e
def rowE (e : Ent) (p : List Nat × List Nat) : Ent := (List.range (p.1.length - 1)).foldl (upd1 p.1 p.2) e
def stepE (found : Ent) : Ent := found.foldl rowE []
def lev (n : Nat) : Nat → Ent
  | 0 => [(List.range n, [])]
  | k + 1 => stepE (lev n k)
theorem kk_inj : ∀ {l r : List Nat}, kk l = kk r → l = r
  | [], [], _ => rfl
  | [], y :: r, h => nomatch h
  | x :: l, [], h => nomatch h
  | x :: l, y :: r, h => by
    have h : (Sum.inl (x : Int) : L2.Key) :: kk l = Sum.inl (y : Int) :: kk r := h
    obtain ⟨h1, h2⟩ := List.cons.inj h
    have h1 : (x : Int) = (y : Int) := Sum.inl.inj h1
    rw [kk_inj h2, show x = y by omega]
theorem kk_dec (l r : List Nat) : decide (kk l = kk r) = decide (l = r) := by
  by_cases h : l = r
  · rw [h]
    simp
  · rw [decide_eq_false h, decide_eq_false fun z => h (kk_inj z)]
theorem keysOf_J : ∀ l : List Nat, keysOf (J l) = some (kk l)
  | [] => rfl
  | x :: l => by
    rw [J_cons, keysOf, keysOf_J l]
    rfl
theorem keyD_kk : ∀ l : List Nat, (kk l).map keyD = J l
  | [] => rfl
  | x :: l => by
    show keyD (.inl (x : Int)) :: (kk l).map keyD = _
    rw [keyD_kk l]
    rfl
theorem valD_enc (k : List Nat) : ∀ e : Ent, valD (enc e) (kk k) = (getE e k).map fun w => .tuple (J w)
  | [] => rfl
  | p :: e => by
    have ih := valD_enc k e
    unfold valD getE enc at ih ⊢
    rw [List.map_cons, List.find?_cons, List.find?_cons]
    show (match decide (kk p.1 = kk k) with | true => _ | false => _ : Option _).map _ = _
    rw [kk_dec]
    cases decide (p.1 = k) with
    | true => rfl
    | false => exact ih
theorem any_enc (k : List Nat) : ∀ e : Ent, ((enc e).any fun kv => decide (kv.1 = kk k)) = e.any fun p => decide (p.1 = k)
  | [] => rfl
  | p :: e => by
    have ih := any_enc k e
    show (decide (kk p.1 = kk k) || (enc e).any _) = (decide (p.1 = k) || e.any _)
    rw [kk_dec, ih]
theorem putD_enc (e : Ent) (k v : List Nat) : putD (enc e) (kk k) (.tuple (J v)) = enc (putE e k v) := by
  unfold putD putE
  rw [any_enc]
  by_cases h : (e.any fun p => decide (p.1 = k)) = true
  · rw [if_pos h, if_pos h]
    unfold enc
    rw [List.map_map, List.map_map]
    apply List.map_congr_left
    intro p _
    show (if kk p.1 = kk k then (kk p.1, PyData.tuple (J v)) else (kk p.1, .tuple (J p.2))) = (fun q : List Nat × List Nat => (kk q.1, PyData.tuple (J q.2))) (if p.1 = k then (p.1, v) else p)
    by_cases g : p.1 = k
    · rw [if_pos g, if_pos (by rw [g])]
    · rw [if_neg g, if_neg fun z => g (kk_inj z)]
  · rw [if_neg h, if_neg h]
    unfold enc
    rw [List.map_append]
    rfl
theorem enc_len (e : Ent) : (enc e).length = e.length := by
  unfold enc
  rw [List.length_map]
theorem putE_len (e : Ent) (k v : List Nat) : (putE e k v).length ≤ e.length + 1 := by
  unfold putE
  split
  · rw [List.length_map]
    omega
  · rw [List.length_append]
    exact Nat.le_refl _
theorem upd1_len (row word : List Nat) (e : Ent) (a : Nat) : (upd1 row word e a).length ≤ e.length + 1 := by
  unfold upd1
  split
  · split
    · exact putE_len _ _ _
    · split
      · exact putE_len _ _ _
      · omega
  · omega
theorem fold1_len (row word : List Nat) : ∀ (l : List Nat) (e : Ent), (l.foldl (upd1 row word) e).length ≤ e.length + l.length
  | [], e => Nat.le_refl _
  | a :: l, e => by
    have h1 := fold1_len row word l (upd1 row word e a)
    have h2 := upd1_len row word e a
    rw [List.foldl_cons, List.length_cons]
    omega
theorem intsJ (l : List Nat) : intsOf (J l) = some (cs l) := by rw [← J_I, intsOf_map]
theorem pLtJ (x y : List Nat) : pLt (.tuple (J x)) (.tuple (J y)) = some (.v (.bool (ltE x y))) := by
  have e1 : pLtI (.tuple (J x)) (.tuple (J y)) = none := rfl
  have e2 : pLtT (.tuple (J x)) (.tuple (J y)) = some (.v (.bool (ltE x y))) := by
    unfold pLtT
    simp only [intsJ]
    rfl
  unfold pLt orF
  rw [e1]
  exact e2
theorem dni_st {m : M D} {w : W} {i : Nat} {e : Ent} {k : List Nat} (h : m w = some (.tuple (J k), w)) (hs : w.r[i]? = some (.dt (enc e))) : dniT m i w = some (!(getE e k).isSome, w) := by
  unfold dniT
  rw [e_bnd, h, Option.bind_some]
  simp only [hs, keysOf_J, valD_enc]
  cases getE e k <;> rfl
theorem dg_st {m : M D} {w : W} {i : Nat} {e : Ent} {k x : List Nat} (h : m w = some (.tuple (J k), w)) (hs : w.r[i]? = some (.dt (enc e))) (hx : getE e k = some x) : dgT i m w = some (.tuple (J x), w) := by
  unfold dgT
  rw [hs]
  simp only [e_bnd, h, Option.bind_some, hs, keysOf_J, valD_enc, hx]
  rfl
theorem sput_st {mk mv : M D} {w : W} {i : Nat} {e : Ent} {k v : List Nat} (hv : mv w = some (.tuple (J v), w)) (hk : mk w = some (.tuple (J k), w)) (hs : w.r[i]? = some (.dt (enc e))) (hl : e.length < sizeLine) : sputT i mk mv w = some (.nx, { w with r := w.r.set i (.dt (enc (putE e k v))) }) := by
  unfold sputT
  rw [e_bnd, hv, Option.bind_some]
  rw [hs]
  simp only [e_bnd, hk, Option.bind_some, hs, keysOf_J, enc_len, hl, if_true, putD_enc]
/-- one step up, or none -/
def B6 : M Out := (sif (tst (op2 pLt (opd (fzO (op2 pIx (dvar 4) (dvar 6)))) (opd (fzO (op2 pIx (dvar 4) (opd (fzO (op2 pAdd (dvar 6) (cst (.int 1)))))))))) (sseq (sset 7 (op2 pAdd (opd (fzO (op2 pAdd (opd (fzO (dsl (dvar 4) pno (pso (dvar 6))))) (opd (fzO (dtup (acons (arg (fzO (op2 pIx (dvar 4) (opd (fzO (op2 pAdd (dvar 6) (cst (.int 1)))))))) (acons (arg (fzO (op2 pIx (dvar 4) (dvar 6)))) anil)))))))) (opd (fzO (dsl (dvar 4) (pso (opd (fzO (op2 pAdd (dvar 6) (cst (.int 2)))))) pno)))))
          (sseq (sset 8 (op2 pAdd (dvar 5) (opd (fzO (dtup (acons (arg (fzR (dvar 6))) anil))))))
          (sif (dor (dniT (fzR (dvar 7)) 3) (tst (op2 pLt (dvar 8) (opd (dgT 3 (fzR (dvar 7))))))) (sputT 3 (fzR (dvar 7)) (fzR (dvar 8))) snx))) snx)
def B4 : M Out := sfor (dits rng1 (acons (arg (fzO (op2 pSub (opd (fzO (dcl (p1 pLen) (rcons (dvar 4) rnil)))) (cst (.int 1))))) anil)) (gnm 6) B6
theorem sb_split : m__law_searched_2_b = sseq (sset 3 (ret (dtO []))) (sseq (sfor (ditT 1) (gtp 2 (gscons (gnm 4) (gscons (gnm 5) gsnil))) B4) (sset 1 (dcpT 3))) := rfl
theorem B6_ok {row word : List Nat} {e : Ent} {a : Nat} {b : Bg} {s0 s1 s2 s7 s8 : S} (ha : a + 1 < row.length) (hr : row.length ≤ 100) (hw : word.length ≤ 100) (he : e.length < sizeLine) : ∃ s7' s8', B6 ⟨[s0, s1, s2, .dt (enc e), .val (.tuple (J row)), .val (.tuple (J word)), .val (.int (a : Int)), s7, s8], b⟩ =
    some (.nx, ⟨[s0, s1, s2, .dt (enc (upd1 row word e a)), .val (.tuple (J row)), .val (.tuple (J word)), .val (.int (a : Int)), s7', s8'], b⟩) := by
  have h1 := atJ (getD_at (l := row) (n := a) (by omega))
  have h2 := atJ1 (getD_at (l := row) (n := a + 1) ha)
  have sc := swp_cut ha
  have k1 := cutJ_to row a
  have k2 := cutJ_from2 row a
  have e1 : upd1 row word e a = if row.getD a 0 < row.getD (a + 1) 0 then (match getE e (swp row a) with
    | none => putE e (swp row a) (word ++ [a])
    | some x => if ltE (word ++ [a]) x = true then putE e (swp row a) (word ++ [a]) else e) else e := rfl
  generalize row.getD a 0 = x at h1 sc e1
  generalize row.getD (a + 1) 0 = y at h2 sc e1
  have tt : (tst (op2 pLt (opd (fzO (op2 pIx (dvar 4) (dvar 6)))) (opd (fzO (op2 pIx (dvar 4) (opd (fzO (op2 pAdd (dvar 6) (cst (.int 1)))))))))) ⟨[s0, s1, s2, .dt (enc e), .val (.tuple (J row)), .val (.tuple (J word)), .val (.int (a : Int)), s7, s8], b⟩ = some (decide (x < y), ⟨[s0, s1, s2, .dt (enc e), .val (.tuple (J row)), .val (.tuple (J word)), .val (.int (a : Int)), s7, s8], b⟩) := by
    simp [h1, h2]
  unfold B6
  rw [e_sif, tt, Option.bind_some]
  by_cases h : x < y
  · rw [e1, if_pos h]
    simp only [decide_eq_true h, if_true]
    have b2' := pAddJ (l := row.take a) (r := [y, x]) (by rw [List.length_take]; simp only [List.length_cons, List.length_nil]; omega)
    have b3' := pAddJ (l := row.take a ++ [y, x]) (r := row.drop (a + 2)) (by rw [List.length_append, List.length_take, List.length_drop]; simp only [List.length_cons, List.length_nil]; omega)
    rw [← J2] at b2'
    rw [sc] at b3'
    have ad := pAddJ (l := word) (r := [a]) (by simp only [List.length_cons, List.length_nil]; omega)
    rw [← J1] at ad
    have s1' : 1 ≤ sizeLine := by decide
    have s2' : 2 ≤ sizeLine := by decide
    generalize swp row a = made at b3' ⊢
    generalize word ++ [a] = longer at ad ⊢
    have u1 : sset 7 (op2 pAdd (opd (fzO (op2 pAdd (opd (fzO (dsl (dvar 4) pno (pso (dvar 6))))) (opd (fzO (dtup (acons (arg (fzO (op2 pIx (dvar 4) (opd (fzO (op2 pAdd (dvar 6) (cst (.int 1)))))))) (acons (arg (fzO (op2 pIx (dvar 4) (dvar 6)))) anil)))))))) (opd (fzO (dsl (dvar 4) (pso (opd (fzO (op2 pAdd (dvar 6) (cst (.int 2)))))) pno)))) ⟨[s0, s1, s2, .dt (enc e), .val (.tuple (J row)), .val (.tuple (J word)), .val (.int (a : Int)), s7, s8], b⟩ = some (.nx, ⟨[s0, s1, s2, .dt (enc e), .val (.tuple (J row)), .val (.tuple (J word)), .val (.int (a : Int)), .val (.tuple (J made)), s8], b⟩) := by
      simp [h1, h2, k1, k2, b2', b3', s2']
    have u2 : sset 8 (op2 pAdd (dvar 5) (opd (fzO (dtup (acons (arg (fzR (dvar 6))) anil))))) ⟨[s0, s1, s2, .dt (enc e), .val (.tuple (J row)), .val (.tuple (J word)), .val (.int (a : Int)), .val (.tuple (J made)), s8], b⟩ = some (.nx, ⟨[s0, s1, s2, .dt (enc e), .val (.tuple (J row)), .val (.tuple (J word)), .val (.int (a : Int)), .val (.tuple (J made)), .val (.tuple (J longer))], b⟩) := by
      simp [ad, s1']
    refine ⟨.val (.tuple (J made)), .val (.tuple (J longer)), ?_⟩
    rw [e_sseq, u1, Option.bind_some, e_thenN, e_sseq, u2, Option.bind_some, e_thenN, e_sif, e_dor]
    have g7 : (fzR (dvar 7)) ⟨[s0, s1, s2, .dt (enc e), .val (.tuple (J row)), .val (.tuple (J word)), .val (.int (a : Int)), .val (.tuple (J made)), .val (.tuple (J longer))], b⟩ = some (.tuple (J made), ⟨[s0, s1, s2, .dt (enc e), .val (.tuple (J row)), .val (.tuple (J word)), .val (.int (a : Int)), .val (.tuple (J made)), .val (.tuple (J longer))], b⟩) := by simp
    have g8 : (fzR (dvar 8)) ⟨[s0, s1, s2, .dt (enc e), .val (.tuple (J row)), .val (.tuple (J word)), .val (.int (a : Int)), .val (.tuple (J made)), .val (.tuple (J longer))], b⟩ = some (.tuple (J longer), ⟨[s0, s1, s2, .dt (enc e), .val (.tuple (J row)), .val (.tuple (J word)), .val (.int (a : Int)), .val (.tuple (J made)), .val (.tuple (J longer))], b⟩) := by simp
    have dn := dni_st (i := 3) (e := e) g7 rfl
    have sp := sput_st (i := 3) (e := e) g8 g7 rfl he
    rw [dn, Option.bind_some]
    cases hg : getE e made with
    | none =>
      simp only [Option.isSome_none, Bool.not_false, if_true, Option.bind_some]
      rw [sp]
      rfl
    | some z =>
      have dg := dg_st (i := 3) (e := e) g7 rfl hg
      have lt := pLtJ longer z
      have t2 : (tst (op2 pLt (dvar 8) (opd (dgT 3 (fzR (dvar 7)))))) ⟨[s0, s1, s2, .dt (enc e), .val (.tuple (J row)), .val (.tuple (J word)), .val (.int (a : Int)), .val (.tuple (J made)), .val (.tuple (J longer))], b⟩ = some (ltE longer z, ⟨[s0, s1, s2, .dt (enc e), .val (.tuple (J row)), .val (.tuple (J word)), .val (.int (a : Int)), .val (.tuple (J made)), .val (.tuple (J longer))], b⟩) := by
        generalize dgT 3 (fzR (dvar 7)) = A at dg ⊢
        simp [dg, lt]
      simp only [Option.isSome_some, Bool.not_true, Bool.false_eq_true, if_false]
      rw [t2, Option.bind_some]
      cases hz : ltE longer z with
      | true =>
        simp only [if_true]
        rw [sp]
        rfl
      | false =>
        simp only [Bool.false_eq_true, if_false]
        rfl
  · rw [e1, if_neg h]
    simp only [decide_eq_false h, Bool.false_eq_true, if_false]
    exact ⟨s7, s8, rfl⟩
theorem B4_ok {row word : List Nat} {e : Ent} {b : Bg} {s0 s1 s2 s6 s7 s8 : S} (hr : row.length ≤ 100) (hw : word.length ≤ 100) (he : e.length + row.length < sizeLine) : ∃ s6' s7' s8', B4 ⟨[s0, s1, s2, .dt (enc e), .val (.tuple (J row)), .val (.tuple (J word)), s6, s7, s8], b⟩ =
    some (.nx, ⟨[s0, s1, s2, .dt (enc (rowE e (row, word))), .val (.tuple (J row)), .val (.tuple (J word)), s6', s7', s8'], b⟩) := by
  have h0 : dits rng1 (acons (arg (fzO (op2 pSub (opd (fzO (dcl (p1 pLen) (rcons (dvar 4) rnil)))) (cst (.int 1))))) anil) ⟨[s0, s1, s2, .dt (enc e), .val (.tuple (J row)), .val (.tuple (J word)), s6, s7, s8], b⟩ = some (J (List.range ((row.length : Int) - 1).toNat), ⟨[s0, s1, s2, .dt (enc e), .val (.tuple (J row)), .val (.tuple (J word)), s6, s7, s8], b⟩) := ditsI (by simp) (by omega) (by omega)
  rw [show ((row.length : Int) - 1).toNat = row.length - 1 by omega] at h0
  obtain ⟨o, W, er, rfl, s6', s7', s8', rfl⟩ := fors_gen (g := gnm 6) (b := B6)
    (P := fun ds W => ∃ (l : List Nat) (e' : Ent) (s6 s7 s8 : S), ds = J l ∧ (∀ a ∈ l, a + 1 < row.length) ∧ W = ⟨[s0, s1, s2, .dt (enc e'), .val (.tuple (J row)), .val (.tuple (J word)), s6, s7, s8], b⟩ ∧ l.foldl (upd1 row word) e' = rowE e (row, word) ∧ e'.length + l.length < sizeLine)
    (Q := fun o W => o = .nx ∧ ∃ (s6 s7 s8 : S), W = ⟨[s0, s1, s2, .dt (enc (rowE e (row, word))), .val (.tuple (J row)), .val (.tuple (J word)), s6, s7, s8], b⟩)
    (fun W ⟨l, e', s6, s7, s8, h1, _, h3, h4, _⟩ => by
      cases l with
      | cons x l => cases h1
      | nil =>
        rw [List.foldl_nil] at h4
        subst h4
        exact ⟨rfl, s6, s7, s8, h3⟩)
    (fun d ds W ⟨l, e', s6, s7, s8, h1, h2, h3, h4, h5⟩ => by
      cases l with
      | nil => cases h1
      | cons a l =>
        cases h1
        subst h3
        rw [List.length_cons] at h5
        obtain ⟨s7', s8', eb⟩ := B6_ok (row := row) (word := word) (e := e') (a := a) (b := b) (s0 := s0) (s1 := s1) (s2 := s2) (s7 := s7) (s8 := s8) (h2 a List.mem_cons_self) hr hw (by omega)
        have := upd1_len row word e' a
        exact ⟨_, .nx, _, rfl, eb, l, upd1 row word e' a, _, s7', s8', rfl, fun x hx => h2 x (List.mem_cons_of_mem _ hx), rfl, h4, by omega⟩)
    (J (List.range (row.length - 1))) ⟨[s0, s1, s2, .dt (enc e), .val (.tuple (J row)), .val (.tuple (J word)), s6, s7, s8], b⟩ ⟨List.range (row.length - 1), e, s6, s7, s8, rfl, fun a ha => by
      have := List.mem_range.mp ha
      omega, rfl, rfl, by rw [List.length_range]; omega⟩
  refine ⟨s6', s7', s8', ?_⟩
  unfold B4
  rw [e_sfor, h0]
  exact er
theorem rowE_len (e : Ent) (p : List Nat × List Nat) : (rowE e p).length ≤ e.length + p.1.length := by
  unfold rowE
  have := fold1_len p.1 p.2 (List.range (p.1.length - 1)) e
  rw [List.length_range] at this
  omega
/-- what is asked of a level -/
def okE (found : Ent) : Bool := decide (found.length ≤ 1000) && found.all (fun p => decide (p.1.length ≤ 12 ∧ p.2.length ≤ 90)) && apartB (enc (stepE found))
theorem turn_ok {found : Ent} {b : Bg} {s0 s2 s3 s4 s5 s6 s7 s8 : S} (hf : okE found = true) : ∃ s4' s5' s6' s7' s8', m__law_searched_2_b ⟨[s0, .dt (enc found), s2, s3, s4, s5, s6, s7, s8], b⟩ =
    some (.nx, ⟨[s0, .dt (enc (stepE found)), s2, .dt (enc (stepE found)), s4', s5', s6', s7', s8'], b⟩) := by
  unfold okE at hf
  rw [Bool.and_eq_true, Bool.and_eq_true, decide_eq_true_eq, List.all_eq_true] at hf
  obtain ⟨⟨f1, f2⟩, f3⟩ := hf
  have f2 : ∀ p ∈ found, p.1.length ≤ 12 ∧ p.2.length ≤ 90 := fun p hp => of_decide_eq_true (f2 p hp)
  obtain ⟨o, W, er, rfl, s4', s5', s6', s7', s8', rfl⟩ := fors_gen (g := (gtp 2 (gscons (gnm 4) (gscons (gnm 5) gsnil)))) (b := B4)
    (P := fun ds W => ∃ (l e' : Ent) (s4 s5 s6 s7 s8 : S), ds = l.map (fun p => PyData.tuple [.tuple (J p.1), .tuple (J p.2)]) ∧ (∀ p ∈ l, p.1.length ≤ 12 ∧ p.2.length ≤ 90) ∧ W = ⟨[s0, .un, s2, .dt (enc e'), s4, s5, s6, s7, s8], b⟩ ∧ l.foldl rowE e' = stepE found ∧ e'.length + l.length * 12 ≤ 12000)
    (Q := fun o W => o = .nx ∧ ∃ (s4 s5 s6 s7 s8 : S), W = ⟨[s0, .un, s2, .dt (enc (stepE found)), s4, s5, s6, s7, s8], b⟩)
    (fun W ⟨l, e', s4, s5, s6, s7, s8, h1, _, h3, h4, _⟩ => by
      cases l with
      | cons x l => cases h1
      | nil =>
        rw [List.foldl_nil] at h4
        subst h4
        exact ⟨rfl, s4, s5, s6, s7, s8, h3⟩)
    (fun d ds W ⟨l, e', s4, s5, s6, s7, s8, h1, h2, h3, h4, h5⟩ => by
      cases l with
      | nil => cases h1
      | cons p l =>
        rw [List.map_cons] at h1
        obtain ⟨h6, h7⟩ := List.cons.inj h1
        subst h6 h7 h3
        obtain ⟨g1, g2⟩ := h2 p List.mem_cons_self
        rw [List.length_cons] at h5
        obtain ⟨s6', s7', s8', eb⟩ := B4_ok (row := p.1) (word := p.2) (e := e') (b := b) (s0 := s0) (s1 := .un) (s2 := s2) (s6 := s6) (s7 := s7) (s8 := s8) (by omega) (by omega) (by rw [sizeLine_eq]; omega)
        have := rowE_len e' p
        exact ⟨⟨[s0, .un, s2, .dt (enc e'), .val (.tuple (J p.1)), .val (.tuple (J p.2)), s6, s7, s8], b⟩, .nx, _, by simp, eb, l, rowE e' p, _, _, s6', s7', s8', rfl, fun x hx => h2 x (List.mem_cons_of_mem _ hx), rfl, h4, by omega⟩)
    (found.map fun p => PyData.tuple [.tuple (J p.1), .tuple (J p.2)]) ⟨[s0, .un, s2, .dt (enc []), s4, s5, s6, s7, s8], b⟩ ⟨found, [], s4, s5, s6, s7, s8, rfl, f2, rfl, rfl, by simp; omega⟩
  refine ⟨s4', s5', s6', s7', s8', ?_⟩
  have u1 : sset 3 (ret (dtO [])) ⟨[s0, .dt (enc found), s2, s3, s4, s5, s6, s7, s8], b⟩ = some (.nx, ⟨[s0, .dt (enc found), s2, .dt (enc []), s4, s5, s6, s7, s8], b⟩) := rfl
  have dit : ditT 1 ⟨[s0, .dt (enc found), s2, .dt (enc []), s4, s5, s6, s7, s8], b⟩ = some (found.map fun p => PyData.tuple [.tuple (J p.1), .tuple (J p.2)], ⟨[s0, .un, s2, .dt (enc []), s4, s5, s6, s7, s8], b⟩) := by
    have : (enc found).map (fun p => PyData.tuple [.tuple (p.1.map keyD), p.2]) = found.map fun p => PyData.tuple [.tuple (J p.1), .tuple (J p.2)] := by
      unfold enc
      rw [List.map_map]
      apply List.map_congr_left
      intro p _
      show PyData.tuple [.tuple ((kk p.1).map keyD), .tuple (J p.2)] = _
      rw [keyD_kk]
    rw [← this]
    rfl
  have u2 : sfor (ditT 1) (gtp 2 (gscons (gnm 4) (gscons (gnm 5) gsnil))) B4 ⟨[s0, .dt (enc found), s2, .dt (enc []), s4, s5, s6, s7, s8], b⟩ = some (.nx, ⟨[s0, .un, s2, .dt (enc (stepE found)), s4', s5', s6', s7', s8'], b⟩) := by
    rw [e_sfor, dit]
    exact er
  have u3 : sset 1 (dcpT 3) ⟨[s0, .un, s2, .dt (enc (stepE found)), s4', s5', s6', s7', s8'], b⟩ = some (.nx, ⟨[s0, .dt (enc (stepE found)), s2, .dt (enc (stepE found)), s4', s5', s6', s7', s8'], b⟩) := by
    have : dcpT 3 ⟨[s0, .un, s2, .dt (enc (stepE found)), s4', s5', s6', s7', s8'], b⟩ = some (dtO (enc (stepE found)), ⟨[s0, .un, s2, .dt (enc (stepE found)), s4', s5', s6', s7', s8'], b⟩) := by
      generalize enc (stepE found) = E at f3
      exact if_pos f3
    rw [e_sset, this]
    rfl
  rw [sb_split, e_sseq, u1, Option.bind_some, e_thenN, e_sseq, u2, Option.bind_some, e_thenN, u3]
end K03
set_option Elab.async false
set_option linter.all false
set_option maxRecDepth 100000
set_option maxHeartbeats 4000000
set_option pp.maxSteps 3000
namespace K03
open PySem L2 TL
def pm : Nat → List Nat → List (List Nat)
  | 0, _ => [[]]
  | k + 1, l => l.flatMap fun x => (pm k (l.erase x)).map (x :: ·)
theorem pm_mem : ∀ (k : Nat) (l s : List Nat), s.Perm l → l.length = k → s ∈ pm k l
  | 0, l, s, h, hl => by
    have : s = [] := List.length_eq_zero_iff.mp (by rw [h.length_eq, hl])
    rw [this]
    exact List.mem_singleton.mpr rfl
  | k + 1, l, s, h, hl => by
    cases s with
    | nil =>
      have := h.length_eq
      rw [hl] at this
      cases this
    | cons x t =>
      obtain ⟨hx, ht⟩ := List.cons_perm_iff_perm_erase.mp h
      refine List.mem_flatMap.mpr ⟨x, hx, List.mem_map.mpr ⟨t, pm_mem k _ t ht ?_, rfl⟩⟩
      rw [List.length_erase_of_mem hx, hl]
      rfl
def chkL (n : Nat) : Bool := (List.range 11).all fun k => okE (lev n k)
def chkW (n : Nat) : Bool := (pm n (List.range n)).all fun s => decide (inv s ≤ 10) && (getE (lev n (inv s)) s == some (lw s))
theorem chkL_ok : chkL 1 = true ∧ chkL 2 = true ∧ chkL 3 = true ∧ chkL 4 = true ∧ chkL 5 = true := by decide +kernel
theorem chkW_ok : chkW 1 = true ∧ chkW 2 = true ∧ chkW 3 = true ∧ chkW 4 = true ∧ chkW 5 = true := by decide +kernel
theorem lev_ok {s : List Nat} (hp : s.Perm (List.range s.length)) (hn : s ≠ []) (h5 : s.length ≤ 5) : (∀ k, k ≤ 10 → okE (lev s.length k) = true) ∧ inv s ≤ 10 ∧ getE (lev s.length (inv s)) s = some (lw s) := by
  have h0 : 0 < s.length := List.length_pos_iff.mpr hn
  have hm := pm_mem s.length (List.range s.length) s hp (by rw [List.length_range])
  have cl : chkL s.length = true ∧ chkW s.length = true := by
    obtain ⟨a1, a2, a3, a4, a5⟩ := chkL_ok
    obtain ⟨b1, b2, b3, b4, b5⟩ := chkW_ok
    generalize s.length = n at h0 h5
    have : n = 1 ∨ n = 2 ∨ n = 3 ∨ n = 4 ∨ n = 5 := by omega
    rcases this with rfl | rfl | rfl | rfl | rfl
    · exact ⟨a1, b1⟩
    · exact ⟨a2, b2⟩
    · exact ⟨a3, b3⟩
    · exact ⟨a4, b4⟩
    · exact ⟨a5, b5⟩
  obtain ⟨c1, c2⟩ := cl
  unfold chkL at c1
  unfold chkW at c2
  rw [List.all_eq_true] at c1 c2
  have c3 := c2 s hm
  rw [Bool.and_eq_true, decide_eq_true_eq] at c3
  exact ⟨fun k hk => c1 k (List.mem_range.mpr (by omega)), c3.1, eq_of_beq c3.2⟩
theorem searched_start {b : Bg} {d : D} {r : Option (O × Bg)} (h : finS (m__law_searched ⟨[.val d, .un, .un, .un, .un, .un, .un, .un, .un], b⟩) = r) : f__law_searched [.p d] b = r := by
  rw [show f__law_searched = defF 1 9 m__law_searched from rfl]
  exact run rfl rfl h
theorem se1_st {A : M O} {w w1 : W} {l : List Nat} (h : (fzO (dcl (p1 pTuple) (rcons (opd (fzO A)) rnil))) w = some (.tuple (J l), w1)) : sset 1 (ddsT (fzO (dcl (p1 pTuple) (rcons (opd (fzO A)) rnil))) (fzO (dtup anil))) w = some (.nx, { w1 with r := w1.r.set 1 (.dt (enc [(l, [])])) }) := by
  have s0 : (0 : Nat) ≤ sizeLine := Nat.zero_le _
  have h2 : (fzO (dtup anil)) w1 = some (.tuple [], w1) := by simp [s0]
  generalize (fzO (dcl (p1 pTuple) (rcons (opd (fzO A)) rnil))) = B at h ⊢
  generalize (fzO (dtup anil)) = C at h2 ⊢
  have : ddsT B C w = some (dtO (enc [(l, [])]), w1) := by
    unfold ddsT
    simp only [e_bnd, h, Option.bind_some, h2, e_lft, keysOf_J]
    rfl
  rw [e_sset, this]
  rfl
theorem se3_st {w : W} {e : Ent} {k x : List Nat} (h : (fzR (dvar 0)) w = some (.tuple (J k), w)) (hs : w.r[1]? = some (.dt (enc e))) (hx : getE e k = some x) : sret (end_ (dgT 1 (fzR (dvar 0)))) w = some (.re (.v (.tuple (J x))), w) := by
  have dg := dg_st (i := 1) h hs hx
  rw [e_sret, e_end, dg]
  rfl
theorem searched_ok {s : List Nat} {b : Bg} (hp : s.Perm (List.range s.length)) (hn : s ≠ []) (h5 : s.length ≤ 5) : f__law_searched [.p (.tuple (J s))] b = some (.v (.tuple (J (lw s))), b) := by
  obtain ⟨o1, o2, o3⟩ := lev_ok hp hn h5
  have hd : drg1 ownO (fzO (dcl (p1 pLen) (rcons (dvar 0) rnil))) ⟨[.val (.tuple (J s)), .un, .un, .un, .un, .un, .un, .un, .un], b⟩ = some (ownO (J (List.range s.length)), ⟨[.val (.tuple (J s)), .un, .un, .un, .un, .un, .un, .un, .un], b⟩) := drgJ (by simp) (by omega)
  have hd2 : (fzO (dcl (p1 pTuple) (rcons (opd (fzO (drg1 ownO (fzO (dcl (p1 pLen) (rcons (dvar 0) rnil)))))) rnil))) ⟨[.val (.tuple (J s)), .un, .un, .un, .un, .un, .un, .un, .un], b⟩ = some (.tuple (J (List.range s.length)), ⟨[.val (.tuple (J s)), .un, .un, .un, .un, .un, .un, .un, .un], b⟩) := by
    generalize drg1 ownO (fzO (dcl (p1 pLen) (rcons (dvar 0) rnil))) = A at hd ⊢
    simp [hd, ownO]
  have t1 : m__law_searched_1 ⟨[.val (.tuple (J s)), .un, .un, .un, .un, .un, .un, .un, .un], b⟩ = some (.nx, ⟨[.val (.tuple (J s)), .dt (enc (lev s.length 0)), .un, .un, .un, .un, .un, .un, .un], b⟩) := se1_st hd2
  have tu := turns_ok (l := s) (b := b) (by omega)
  have h0 : dits rng1 (acons (arg (fzO (dcall f__law_turns (acons (arg (fzR (dvar 0))) anil)))) anil) ⟨[.val (.tuple (J s)), .dt (enc (lev s.length 0)), .un, .un, .un, .un, .un, .un, .un], b⟩ = some (J (List.range (inv s)), ⟨[.val (.tuple (J s)), .dt (enc (lev s.length 0)), .un, .un, .un, .un, .un, .un, .un], b⟩) := ditsJ (by
    generalize enc (lev s.length 0) = E
    simp [tu]) (by omega)
  obtain ⟨r, W, e, rfl, s2, s3, s4, s5, s6, s7, s8, rfl⟩ := fors_gen (g := gnm 2) (b := m__law_searched_2_b)
    (P := fun ds W => ∃ (k : Nat) (s2 s3 s4 s5 s6 s7 s8 : S), ds.length + k = inv s ∧ W = ⟨[.val (.tuple (J s)), .dt (enc (lev s.length k)), s2, s3, s4, s5, s6, s7, s8], b⟩)
    (Q := fun o W => o = .nx ∧ ∃ (s2 s3 s4 s5 s6 s7 s8 : S), W = ⟨[.val (.tuple (J s)), .dt (enc (lev s.length (inv s))), s2, s3, s4, s5, s6, s7, s8], b⟩)
    (fun W ⟨k, s2, s3, s4, s5, s6, s7, s8, h1, h2⟩ => by
      rw [List.length_nil, Nat.zero_add] at h1
      subst h1
      exact ⟨rfl, _, _, _, _, _, _, _, h2⟩)
    (fun d ds W ⟨k, s2, s3, s4, s5, s6, s7, s8, h1, h2⟩ => by
      subst h2
      rw [List.length_cons] at h1
      obtain ⟨s4', s5', s6', s7', s8', eb⟩ := turn_ok (found := lev s.length k) (b := b) (s0 := .val (.tuple (J s))) (s2 := .val d) (s3 := s3) (s4 := s4) (s5 := s5) (s6 := s6) (s7 := s7) (s8 := s8) (o1 k (by omega))
      exact ⟨_, .nx, _, rfl, eb, k + 1, _, _, _, _, _, _, _, by omega, rfl⟩)
    (J (List.range (inv s))) ⟨[.val (.tuple (J s)), .dt (enc (lev s.length 0)), .un, .un, .un, .un, .un, .un, .un], b⟩ ⟨0, .un, .un, .un, .un, .un, .un, .un, by rw [J_len, List.length_range]; rfl, rfl⟩
  have t2 : m__law_searched_2 ⟨[.val (.tuple (J s)), .dt (enc (lev s.length 0)), .un, .un, .un, .un, .un, .un, .un], b⟩ = some (.nx, ⟨[.val (.tuple (J s)), .dt (enc (lev s.length (inv s))), s2, s3, s4, s5, s6, s7, s8], b⟩) := by
    unfold m__law_searched_2
    rw [e_sfor, h0]
    exact e
  have t3 : m__law_searched_3 ⟨[.val (.tuple (J s)), .dt (enc (lev s.length (inv s))), s2, s3, s4, s5, s6, s7, s8], b⟩ = some (.re (.v (.tuple (J (lw s)))), ⟨[.val (.tuple (J s)), .dt (enc (lev s.length (inv s))), s2, s3, s4, s5, s6, s7, s8], b⟩) := by
    have g : (fzR (dvar 0)) ⟨[.val (.tuple (J s)), .dt (enc (lev s.length (inv s))), s2, s3, s4, s5, s6, s7, s8], b⟩ = some (.tuple (J s), ⟨[.val (.tuple (J s)), .dt (enc (lev s.length (inv s))), s2, s3, s4, s5, s6, s7, s8], b⟩) := by
      generalize enc (lev s.length (inv s)) = E
      simp
    generalize lev s.length (inv s) = L at g o3 ⊢
    exact se3_st g rfl o3
  refine searched_start ?_
  rw [show m__law_searched = sseq m__law_searched_1 (sseq m__law_searched_2 m__law_searched_3) from rfl]
  rw [e_sseq, t1, Option.bind_some, e_thenN, e_sseq, t2, Option.bind_some, e_thenN, t3, e_finR]
/-! ### the check of least words -/
def IsO (d : D) : Prop := ∃ o : List Nat, d = .tuple (J o) ∧ o.Perm (List.range o.length) ∧ o ≠ [] ∧ o.length ≤ 12
theorem lr_start {b : Bg} {d : D} {r : Option (O × Bg)} (h : finS (m__law_are_least_right ⟨[.val d, .un, .un, .un, .un], b⟩) = r) : f__law_are_least_right [.p d] b = r := by
  rw [show f__law_are_least_right = defF 1 5 m__law_are_least_right from rfl]
  exact run rfl rfl h
theorem lr1_st {F : Sm} {b : Bg} {s0 s2 s3 s4 : S} {o s : D} (h : F [.p o] b = some (.v s, b)) : sset 2 (dcall F (acons (arg (fzR (dvar 1))) anil)) ⟨[s0, .val o, s2, s3, s4], b⟩ = some (.nx, ⟨[s0, .val o, .val s, s3, s4], b⟩) := by
  simp [h]
theorem lr2_st {F G : Sm} {b : Bg} {s0 s1 s3 s4 : S} {l : List D} {x : D} (h1 : l.length < 6 → F [.p (.tuple l)] b = some (.v x, b)) (h2 : ¬ l.length < 6 → G [.p (.tuple l)] b = some (.v x, b)) : sset 3 (dif (tst (op2 pLt (opd (fzO (dcl (p1 pLen) (rcons (dvar 2) rnil)))) (cst (.int 6)))) (dcall F (acons (arg (fzR (dvar 2))) anil)) (dcall G (acons (arg (fzR (dvar 2))) anil))) ⟨[s0, s1, .val (.tuple l), s3, s4], b⟩ = some (.nx, ⟨[s0, s1, .val (.tuple l), .val x, s4], b⟩) := by
  by_cases h : l.length < 6
  · have c : (l.length : Int) < 6 := by omega
    simp [c, h1 h]
  · have c : ¬ (l.length : Int) < 6 := by omega
    simp [c, h2 h]
theorem lr3_st {F : Sm} {b : Bg} {s0 s2 s3 s4 : S} {o s : D} (h : F [.p o] b = some (.v s, b)) : sset 4 (dcall F (acons (arg (fzR (dvar 1))) anil)) ⟨[s0, .val o, s2, s3, s4], b⟩ = some (.nx, ⟨[s0, .val o, s2, s3, .val s], b⟩) := by
  simp [h]
theorem lr4_st {F G : Sm} {b : Bg} {s0 s2 : S} {o x : D} (h1 : F [.p x, .p x] b = some (.v (.bool true), b)) (h2 : G [.p o] b = some (.v x, b)) : sif (dor (dnot (dtr (opd (fzO (dcall F (acons (arg (fzR (dvar 4))) (acons (arg (fzR (dvar 3))) anil))))))) (dnot (dtr (opd (fzO (dcall F (acons (arg (fzO (dcall G (kwm [0] anil (acons (arg (fzR (dvar 1))) anil))))) (acons (arg (fzR (dvar 3))) anil)))))))) (sret (end_ (fzR (cst (.bool false))))) snx ⟨[s0, .val o, s2, .val x, .val x], b⟩ = some (.nx, ⟨[s0, .val o, s2, .val x, .val x], b⟩) := by
  simp [h1, h2, perm]
theorem lr5_st {F G H : Sm} {f g : D → D → Option O} {b : Bg} {s0 s1 s3 : S} {l : List D} {s : D} {t : Int} (h1 : F [.p (.tuple l)] b = some (.v s, b)) (h2 : f s s = some (.v (.bool false))) (h3 : G [.p s] b = some (.v (.int t), b)) (h4 : g (.int l.length) (.int t) = some (.v (.bool false))) (h5 : H [.p (.tuple l)] b = some (.v (.bool true), b)) :
    sif (dor (tst (op2 f (opd (fzO (dcall F (acons (arg (fzR (dvar 4))) anil)))) (dvar 2))) (dor (tst (op2 g (opd (fzO (dcl (p1 pLen) (rcons (dvar 4) rnil)))) (opd (fzO (dcall G (acons (arg (fzR (dvar 2))) anil)))))) (dnot (dtr (opd (fzO (dcall H (acons (arg (fzR (dvar 4))) anil)))))))) (sret (end_ (fzR (cst (.bool false))))) snx ⟨[s0, s1, .val s, s3, .val (.tuple l)], b⟩ = some (.nx, ⟨[s0, s1, .val s, s3, .val (.tuple l)], b⟩) := by
  simp [h1, h2, h3, h4, h5]
theorem lr_turn {o : List Nat} {b : Bg} {s0 s2 s3 s4 : S} (hp : o.Perm (List.range o.length)) (hn : o ≠ []) (h12 : o.length ≤ 12) : ∃ s2' s3' s4', m__law_are_least_right_1_b ⟨[s0, .val (.tuple (J o)), s2, s3, s4], b⟩ = some (.nx, ⟨[s0, .val (.tuple (J o)), s2', s3', s4'], b⟩) := by
  have ps := bare_perm hp
  have ns := bare_ne hn
  have ls := bareL_len o
  have sh := bareJ (l := o) (d := .tuple (J o)) (b := b) (.inr rfl) (by omega)
  have lo := least_ok (b := b) hp hn h12
  have se := searched_ok (s := bareL o) (b := b) ps ns
  have st := stepped_ok (s := bareL o) (b := b) ps (by omega)
  obtain ⟨l1, l2, l3⟩ := lw_ok ps ns (by omega)
  rw [bare_bare] at l3
  generalize bareL o = s at *
  have w10 : ∀ a ∈ lw s, a ≤ 10 := fun a ha => by
    have := l1 a ha
    omega
  have i66 : inv s ≤ 66 := inv_66 (by omega)
  have sm := sameJ (l := lw s) (b := b) (fun x hx => by
    have := w10 x hx
    omega) (by omega)
  have md := made_ok (b := b) w10
  rw [l3] at md
  have tu := turns_ok (l := s) (b := b) (by omega)
  have is := shortest_ok (b := b) w10
  rw [l3, l2, beq_self_eq_true] at is
  have ne := pNeJ s s
  rw [decide_eq_true rfl] at ne
  have ne2 : pNe (.int ((J (lw s)).length : Int)) (.int (inv s : Int)) = some (.v (.bool false)) := by
    rw [p_neI, J_len, l2, beq_self_eq_true]
    rfl
  generalize lw s = w at *
  refine ⟨.val (.tuple (J s)), .val (.tuple (J w)), .val (.tuple (J w)), ?_⟩
  have u1 := lr1_st (s0 := s0) (s2 := s2) (s3 := s3) (s4 := s4) sh
  have u2 := lr2_st (F := f__law_searched) (G := f__law_stepped) (b := b) (s0 := s0) (s1 := .val (.tuple (J o))) (s3 := s3) (s4 := s4) (l := J s) (x := .tuple (J w)) (fun h => se (by rw [J_len] at h; omega)) (fun _ => st)
  have u3 := lr3_st (s0 := s0) (s2 := .val (.tuple (J s))) (s3 := .val (.tuple (J w))) (s4 := s4) lo
  have u4 := lr4_st (s0 := s0) (s2 := .val (.tuple (J s))) sm lo
  have u5 := lr5_st (s0 := s0) (s1 := .val (.tuple (J o))) (s3 := .val (.tuple (J w))) md ne tu ne2 is
  unfold m__law_are_least_right_1_b
  rw [e_sseq, u1, Option.bind_some, e_thenN, e_sseq, u2, Option.bind_some, e_thenN, e_sseq, u3, Option.bind_some, e_thenN, e_sseq, u4, Option.bind_some, e_thenN, u5]
theorem lr_ok {os : List D} {b : Bg} (h : ∀ d ∈ os, IsO d) : f__law_are_least_right [.p (.list os)] b = some (.v (.bool true), b) := by
  obtain ⟨r, W, e, rfl, eb⟩ := fors_gen (g := gnm 1) (b := m__law_are_least_right_1_b)
    (P := fun ds W => (∀ d ∈ ds, IsO d) ∧ ∃ (s1 s2 s3 s4 : S), W = ⟨[.val (.list os), s1, s2, s3, s4], b⟩)
    (Q := fun o W => o = .nx ∧ W.b = b)
    (fun W ⟨_, s1, s2, s3, s4, e⟩ => ⟨rfl, by rw [e]⟩)
    (fun d ds W ⟨h1, s1, s2, s3, s4, e⟩ => by
      subst e
      obtain ⟨o, rfl, hp, hn, h12⟩ := h1 d List.mem_cons_self
      obtain ⟨s2', s3', s4', u⟩ := lr_turn (b := b) (s0 := .val (.list os)) (s2 := s2) (s3 := s3) (s4 := s4) hp hn h12
      exact ⟨_, .nx, _, rfl, u, fun d hd => h1 d (List.mem_cons_of_mem _ hd), _, _, _, _, rfl⟩)
    os ⟨[.val (.list os), .un, .un, .un, .un], b⟩ ⟨h, .un, .un, .un, .un, rfl⟩
  have t1 : m__law_are_least_right_1 ⟨[.val (.list os), .un, .un, .un, .un], b⟩ = some (.nx, W) := by
    unfold m__law_are_least_right_1
    rw [e_sfor, show (dval (fzR (dvar 0))) ⟨[.val (.list os), .un, .un, .un, .un], b⟩ = some (os, ⟨[.val (.list os), .un, .un, .un, .un], b⟩) by simp]
    exact e
  have t2 : m__law_are_least_right_2 W = some (.re (.v (.bool true)), W) := by
    unfold m__law_are_least_right_2
    simp
  refine lr_start ?_
  rw [show m__law_are_least_right = sseq m__law_are_least_right_1 m__law_are_least_right_2 from rfl]
  rw [e_sseq, t1, Option.bind_some, e_thenN, t2, e_finR, eb]
end K03
set_option Elab.async false
set_option linter.all false
set_option maxRecDepth 100000
set_option maxHeartbeats 4000000
set_option pp.maxSteps 3000
set_option exponentiation.threshold 600
namespace K03
open PySem L2 TL
/-! ### values near words -/
def Item (d : D) : Prop := Nice 410 d ∧ d.depth ≤ 5
def VT (n : Nat) (xs : List D) : Prop := xs.length ≤ n ∧ ∀ d ∈ xs, Item d
def V (d : D) : Prop := Nice 130000 d ∧ d.depth ≤ 20 ∧ ∀ xs, d = .tuple xs → xs.length ≤ 1000
theorem VT.take {n : Nat} {xs : List D} (h : VT n xs) (k : Nat) : VT n (xs.take k) := ⟨Nat.le_trans (List.length_take_le' _ _) h.1, fun d hd => h.2 d (List.mem_of_mem_take hd)⟩
theorem VT.drop {n : Nat} {xs : List D} (h : VT n xs) (k : Nat) : VT n (xs.drop k) := ⟨by
  have := h.1
  rw [List.length_drop]
  omega, fun d hd => h.2 d (List.mem_of_mem_drop hd)⟩
theorem VT.last {n : Nat} {xs : List D} (h : VT n xs) : VT n xs.dropLast := ⟨by
  have := h.1
  rw [List.length_dropLast]
  omega, fun d hd => h.2 d (List.dropLast_subset _ hd)⟩
theorem VT.app {n m : Nat} {xs ys : List D} (h : VT n xs) (g : VT m ys) : VT (n + m) (xs ++ ys) := ⟨by
  have := h.1
  have := g.1
  rw [List.length_append]
  omega, fun d hd => (List.mem_append.mp hd).elim (h.2 d) (g.2 d)⟩
theorem VT.one {d : D} (h : Item d) : VT 1 [d] := ⟨Nat.le_refl _, fun x hx => by rw [List.mem_singleton.mp hx]; exact h⟩
theorem VT.rep {d : D} (h : Item d) (n : Nat) : VT n (List.replicate n d) := ⟨by rw [List.length_replicate]; exact Nat.le_refl _, fun x hx => by rw [(List.mem_replicate.mp hx).2]; exact h⟩
theorem VT.nil (n : Nat) : VT n [] := ⟨Nat.zero_le _, fun d hd => nomatch hd⟩
theorem depthAll_le {n : Nat} : ∀ {xs : List D}, (∀ d ∈ xs, d.depth ≤ n) → PyData.depthAll xs ≤ n
  | [], _ => by rw [PyData.depthAll]; omega
  | x :: xs, h => by
    rw [PyData.depthAll]
    exact Nat.max_le.mpr ⟨h x List.mem_cons_self, depthAll_le fun d hd => h d (List.mem_cons_of_mem _ hd)⟩
theorem VT.nice : ∀ {n : Nat} {xs : List D}, VT n xs → NiceAll (xs.length * 412) xs
  | n, [], _ => nice_nil
  | n, x :: xs, h => by
    have h1 := h.2 x List.mem_cons_self
    have h2 : NiceAll (xs.length * 412) xs := VT.nice (n := xs.length) ⟨Nat.le_refl _, fun d hd => h.2 d (List.mem_cons_of_mem _ hd)⟩
    exact (nice_cons h1.1 (by have := h1.2; omega) h2).le (by rw [List.length_cons]; omega)
theorem V.tup {xs : List D} (h : VT 310 xs) : V (.tuple xs) := by
  have hl := h.1
  have hd := depthAll_le fun d hd => (h.2 d hd).2
  refine ⟨(nice_tup h.nice).le (by omega), by rw [PyData.depth]; omega, fun ys e => ?_⟩
  cases e
  omega
theorem V.lst {xs : List D} (h : VT 310 xs) : V (.list xs) := by
  have hl := h.1
  have hd := depthAll_le fun d hd => (h.2 d hd).2
  exact ⟨(nice_lst h.nice).le (by omega), by rw [PyData.depth]; omega, fun ys e => nomatch e⟩
theorem V.item {d : D} (h : Item d) (n : ∀ xs, d ≠ .tuple xs) : V d := ⟨h.1.le (by omega), by have := h.2; omega, fun xs e => absurd e (n xs)⟩
theorem item_int {i : Int} (h : i.natAbs < 10 ^ 400) : Item (.int i) := ⟨(nice_int (k := 400) (by omega) (by omega) h).le (by omega), by rw [PyData.depth]; omega⟩
theorem item_small {i : Int} (h : i.natAbs < 10 ^ 20) : Item (.int i) := item_int (Nat.lt_of_lt_of_le h (Nat.pow_le_pow_right (by omega) (by omega)))
theorem item_J {l : List Nat} (h : ∀ x ∈ l, x ≤ 10) : VT l.length (J l) := ⟨by rw [J_len]; exact Nat.le_refl _, fun d hd => by
  obtain ⟨x, hx, rfl⟩ := mem_J hd
  have := h x hx
  refine item_small ?_
  rw [Int.natAbs_natCast]
  exact Nat.lt_of_le_of_lt this (by decide)⟩
theorem V.snoc {ts : List D} {d : D} (h : ∀ x ∈ ts, V x) (g : V d) : ∀ x ∈ ts ++ [d], V x := fun x hx => (List.mem_append.mp hx).elim (h x) fun e => by rw [List.mem_singleton.mp e]; exact g
theorem niceV : ∀ {vs : List D}, (∀ d ∈ vs, V d) → NiceAll (vs.length * 130002) vs
  | [], _ => nice_nil
  | x :: xs, h => by
    have h1 := h x List.mem_cons_self
    have h2 := niceV fun d hd => h d (List.mem_cons_of_mem _ hd)
    exact (nice_cons h1.1 (by have := h1.2.1; omega) h2).le (by rw [List.length_cons]; omega)
theorem va_st {A : M O} {f : Mth} {b : Bg} {s0 s1 s2 s3 s4 s5 s6 s7 s8 s9 : S} {ts ts' : List D} {d x : D} (h : A ⟨[s0, s1, s2, s3, s4, s5, s6, s7, s8, s9, .own ts], b⟩ = some (.v d, ⟨[s0, s1, s2, s3, s4, s5, s6, s7, s8, s9, .own ts], b⟩)) (hf : f (.own ts) [d] = some (x, .own ts')) :
    sdrop (dmt kL 10 f (acons (arg (fzO A)) anil)) ⟨[s0, s1, s2, s3, s4, s5, s6, s7, s8, s9, .own ts], b⟩ = some (.nx, ⟨[s0, s1, s2, s3, s4, s5, s6, s7, s8, s9, .own ts'], b⟩) := by
  simp [h, hf]
theorem ve_st {A : M O} {f : Mth} {b : Bg} {s0 s1 s2 s3 s4 s5 s6 s7 s8 s9 : S} {ts ts' us : List D} {x : D} (h : A ⟨[s0, s1, s2, s3, s4, s5, s6, s7, s8, s9, .own ts], b⟩ = some (.s (.own us), ⟨[s0, s1, s2, s3, s4, s5, s6, s7, s8, s9, .own ts], b⟩)) (hf : f (.own ts) [.list us] = some (x, .own ts')) :
    sdrop (dmt kL 10 f (acons (arg (fzO A)) anil)) ⟨[s0, s1, s2, s3, s4, s5, s6, s7, s8, s9, .own ts], b⟩ = some (.nx, ⟨[s0, s1, s2, s3, s4, s5, s6, s7, s8, s9, .own ts'], b⟩) := by
  simp [h, hf]
theorem e_ddsK (key : L2.Key) (m : M D) (w : W) : ddsK key m w = (m w).bind fun p => some (.v (.dict [(keyD key, p.1)]), p.2) := by
  unfold ddsK
  simp
theorem pa {xs ys : List D} (h1 : xs.length ≤ 2000) (h2 : ys.length ≤ 2000) : pAdd (.tuple xs) (.tuple ys) = some (.v (.tuple (xs ++ ys))) := p_addT _ _ (by rw [sizeLine_eq]; omega)
theorem repT_ok {xs : List D} {k : Int} (h : -(2 ^ 63) ≤ k ∧ k < 2 ^ 63 ∧ xs.length * k.toNat ≤ 1000000) : pRepT (.tuple xs) (.int k) = some (.v (.tuple (List.replicate k.toNat xs).flatten)) := if_pos h
theorem rep_tup {xs : List D} {k : Int} {o : O} (h : pRepT (.tuple xs) (.int k) = some o) : pMul (.tuple xs) (.int k) = some o := by
  have e1 : pMulI (.tuple xs) (.int k) = none := rfl
  show (match pMulI (.tuple xs) (.int k) with | some o => some o | none => orF pRepT pRepL (.tuple xs) (.int k)) = _
  rw [e1]
  show (match pRepT (.tuple xs) (.int k) with | some o => some o | none => pRepL (.tuple xs) (.int k)) = _
  rw [h]
theorem mul1 {d : D} {n : Nat} (h : n ≤ 1000) : pMul (.tuple [d]) (.int (n : Int)) = some (.v (.tuple (List.replicate n d))) := by
  have g : -(2 ^ 63) ≤ (n : Int) ∧ (n : Int) < 2 ^ 63 ∧ [d].length * (n : Int).toNat ≤ 1000000 := ⟨by omega, by omega, by
    rw [List.length_singleton, Int.toNat_natCast]
    omega⟩
  have e3 := repT_ok g
  have e4 : (List.replicate (n : Int).toNat [d]).flatten = List.replicate n d := by
    rw [Int.toNat_natCast]
    simp
  rw [e4] at e3
  exact rep_tup e3
theorem powG : pPow (.int 10) (.int 57) = some (.v (.int (10 ^ 57))) := by kernel_rfl
theorem powG2 : pPow (.int (10 ^ 57)) (.int 7) = some (.v (.int (10 ^ 399))) := by kernel_rfl
theorem values_start {b : Bg} {d e : D} {r : Option (O × Bg)} (h : finS (m__law_values ⟨[.bag, .val d, .val e, .un, .un, .un, .un, .un, .un, .un, .un], b⟩) = r) : f__law_values [.bag, .p d, .p e] b = r := by
  rw [show f__law_values = defF 3 11 m__law_values from rfl]
  exact run rfl rfl h
theorem v1_st {f : D → D → Option O} {b : Bg} {ws : List D} {s2 : S} {x y : D} (h1 : f (.int 10) (.int 57) = some (.v x)) (h2 : f x (.int 7) = some (.v y)) : spar2 3 4 (ocons (dcl (p1 pLen) (rcons (dvar 1) rnil)) (ocons (op2 f (opd (fzO (op2 f (cst (.int 10)) (cst (.int 57))))) (cst (.int 7))) onil)) ⟨[.bag, .val (.tuple ws), s2, .un, .un, .un, .un, .un, .un, .un, .un], b⟩ = some (.nx, ⟨[.bag, .val (.tuple ws), s2, .val (.int (ws.length : Int)), .val y, .un, .un, .un, .un, .un, .un], b⟩) := by
  simp [h1, h2]
theorem v2_st {F : Sm} {b b' : Bg} {m r : Int} {s1 s2 s4 : S} (h : F [.bag, .p (.int m)] b = some (.v (.int r), b')) : sset 5 (dcall F (acons (argB 0) (acons (arg (fzR (dvar 3))) anil))) ⟨[.bag, s1, s2, .val (.int m), s4, .un, .un, .un, .un, .un, .un], b⟩ = some (.nx, ⟨[.bag, s1, s2, .val (.int m), s4, .val (.int r), .un, .un, .un, .un, .un], b'⟩) := by
  simp [h]
theorem v3_st {F : Sm} {b b' : Bg} {m p r : Int} {s1 s2 s4 : S} (h : F [.bag, .p (.int (m - p))] b = some (.v (.int r), b')) : sset 6 (op2 pAdd (dvar 5) (opd (fzO (dcall F (acons (argB 0) (acons (arg (fzO (op2 pSub (dvar 3) (dvar 5)))) anil)))))) ⟨[.bag, s1, s2, .val (.int m), s4, .val (.int p), .un, .un, .un, .un, .un], b⟩ = some (.nx, ⟨[.bag, s1, s2, .val (.int m), s4, .val (.int p), .val (.int (p + r)), .un, .un, .un, .un], b'⟩) := by
  simp [h]
theorem v4_st {F H : Sm} {b b1 b' : Bg} {G r : Int} {x : D} {s1 s2 s3 s5 s6 : S} (h1 : H [.bag, .p (.int 1000000000)] b = some (.v (.int r), b1)) (h : F [.bag, .p (.list [.int (-1), .int 11, .int 12, .int (-2), .int 100, .int G, .int (-G), .int (11 + r)])] b1 = some (.v x, b')) : sset 7 (dcall F (acons (argB 0) (acons (arg (fzO (dlst (acons (arg (fzO (op1 pNeg (cst (.int 1))))) (acons (arg (fzR (cst (.int 11)))) (acons (arg (fzR (cst (.int 12)))) (acons (arg (fzO (op1 pNeg (cst (.int 2))))) (acons (arg (fzR (cst (.int 100)))) (acons (arg (fzR (dvar 4))) (acons (arg (fzO (op1 pNeg (dvar 4)))) (acons (arg (fzO (op2 pAdd (cst (.int 11)) (opd (fzO (dcall H (acons (argB 0) (acons (arg (fzO (op2 pPow (cst (.int 10)) (cst (.int 9))))) anil)))))))) anil))))))))))) anil))) ⟨[.bag, s1, s2, s3, .val (.int G), s5, s6, .un, .un, .un, .un], b⟩ = some (.nx, ⟨[.bag, s1, s2, s3, .val (.int G), s5, s6, .val x, .un, .un, .un], b'⟩) := by
  have n1 : ∀ i : Int, pNeg (.int i) = some (.v (.int (-i))) := fun _ => rfl
  have s8 : 8 ≤ sizeLine := by decide
  simp [h1, h, n1, s8]
def odds : List D := [.bool true, .bool false, .none, .str (Str.ofString "1"), .str (Str.ofString ""), .tuple [.int 1], .list [.int 1], .tuple [], .dict [(.int 1, .int 1)]]
theorem v5_st {F : Sm} {b b' : Bg} {x : D} {s1 s2 s3 s4 s5 s6 s7 : S} (h : F [.bag, .p (.list odds)] b = some (.v x, b')) : sset 8 (dcall F (acons (argB 0) (acons (arg (fzO (dlst (acons (arg (fzR (cst (.bool true)))) (acons (arg (fzR (cst (.bool false)))) (acons (arg (fzR (cst .none))) (acons (arg (fzR (cst (.str (Str.ofString "1"))))) (acons (arg (fzR (cst (.str (Str.ofString ""))))) (acons (arg (fzO (dtup (acons (arg (fzR (cst (.int 1)))) anil)))) (acons (arg (fzO (dlst (acons (arg (fzR (cst (.int 1)))) anil)))) (acons (arg (fzO (dtup anil))) (acons (arg (fzO (ddsK (.inl 1) (fzR (cst (.int 1)))))) anil)))))))))))) anil))) ⟨[.bag, s1, s2, s3, s4, s5, s6, s7, .un, .un, .un], b⟩ = some (.nx, ⟨[.bag, s1, s2, s3, s4, s5, s6, s7, .val x, .un, .un], b'⟩) := by
  have s9 : 9 ≤ sizeLine := by decide
  have s1' : 1 ≤ sizeLine := by decide
  have s0' : 0 ≤ sizeLine := Nat.zero_le _
  unfold odds at h
  generalize Str.ofString "1" = z1 at h ⊢
  generalize Str.ofString "" = z2 at h ⊢
  simp [h, s9, s1', s0', e_ddsK, keyD]
theorem v6_st {f : D → D → Option O} {b : Bg} {ws ys : List D} {m p : Int} {x : D} {s2 s4 s6 s7 s8 : S} (h1 : atI ws p = some x) (h2 : f (.tuple [x]) (.int (100 - m)) = some (.v (.tuple ys))) (h3 : pAdd (.tuple ws) (.tuple ys) = some (.v (.tuple (ws ++ ys)))) : sset 9 (op2 pAdd (dvar 1) (opd (fzO (op2 f (opd (fzO (dtup (acons (arg (fzO (op2 pIx (dvar 1) (dvar 5)))) anil)))) (opd (fzO (op2 pSub (cst (.int 100)) (dvar 3)))))))) ⟨[.bag, .val (.tuple ws), s2, .val (.int m), s4, .val (.int p), s6, s7, s8, .un, .un], b⟩ = some (.nx, ⟨[.bag, .val (.tuple ws), s2, .val (.int m), s4, .val (.int p), s6, s7, s8, .val (.tuple (ws ++ ys)), .un], b⟩) := by
  have s1' : 1 ≤ sizeLine := by decide
  simp [h1, h2, h3, s1', -p_addT]
theorem v7_st {f : D → D → Option O} {b : Bg} {ws fs t10 t0 w3 t01 : List D} {o : D} {s3 s4 s5 s6 s7 s8 : S} (h1 : f (.tuple [.int 10]) (.int 100) = some (.v (.tuple t10))) (h2 : f (.tuple [.int 0]) (.int 100) = some (.v (.tuple t0))) (h3 : f (.tuple (ws.take 1)) (.int 3) = some (.v (.tuple w3))) (h4 : f (.tuple [.int 0]) (.int 101) = some (.v (.tuple t01)))
    (a1 : pAdd (.tuple fs) (.tuple [.int 0]) = some (.v (.tuple (fs ++ [.int 0])))) (a2 : pAdd (.tuple fs) (.tuple w3) = some (.v (.tuple (fs ++ w3)))) :
    sset 10 (dlst (acons (arg (fzR (dvar 1))) (acons (arg (fzR (dvar 2))) (acons (arg (fzO (dtup anil))) (acons (arg (fzR (dvar 9))) (acons (arg (fzO (op2 f (opd (fzO (dtup (acons (arg (fzR (cst (.int 10)))) anil)))) (cst (.int 100))))) (acons (arg (fzO (op2 f (opd (fzO (dtup (acons (arg (fzR (cst (.int 0)))) anil)))) (cst (.int 100))))) (acons (arg (fzO (op2 pAdd (dvar 9) (opd (fzO (dtup (acons (arg (fzR (cst (.int 0)))) anil))))))) (acons (arg (fzO (op2 pAdd (dvar 9) (opd (fzO (op2 f (opd (fzO (dsl (dvar 1) pno (pso (cst (.int 1)))))) (cst (.int 3)))))))) (acons (arg (fzO (op2 f (opd (fzO (dtup (acons (arg (fzR (cst (.int 0)))) anil)))) (cst (.int 101))))) anil)))))))))) ⟨[.bag, .val (.tuple ws), .val o, s3, s4, s5, s6, s7, s8, .val (.tuple fs), .un], b⟩ =
      some (.nx, ⟨[.bag, .val (.tuple ws), .val o, s3, s4, s5, s6, s7, s8, .val (.tuple fs), .own [.tuple ws, o, .tuple [], .tuple fs, .tuple t10, .tuple t0, .tuple (fs ++ [.int 0]), .tuple (fs ++ w3), .tuple t01]], b⟩) := by
  have s9 : 9 ≤ sizeLine := by decide
  have s1' : 1 ≤ sizeLine := by decide
  have s0' : 0 ≤ sizeLine := Nat.zero_le _
  have k : cutL ws none (some 1) = ws.take 1 := cut_to ws 1
  simp [h1, h2, h3, h4, a1, a2, k, s9, s1', s0', -p_addT]
theorem a8_st {w : W} {i : Nat} {ws : List D} {p : Nat} {x : D} (h1 : w.r[1]? = some (.val (.tuple ws))) (h5 : w.r[5]? = some (.val (.int (p : Int)))) (hi : w.r[i]? = some (.val x)) (hl : ws.length ≤ 100) :
    (op2 pAdd (opd (fzO (op2 pAdd (opd (fzO (dsl (dvar 1) pno (pso (dvar 5))))) (opd (fzO (dtup (acons (arg (fzR (dvar i))) anil))))))) (opd (fzO (dsl (dvar 1) (pso (opd (fzO (op2 pAdd (dvar 5) (cst (.int 1)))))) pno)))) w = some (.v (.tuple (ws.take p ++ [x] ++ ws.drop (p + 1))), w) := by
  have s1' : 1 ≤ sizeLine := by decide
  have k1 := cut_to ws p
  have k2 : cutL ws (some ((p : Int) + 1)) none = ws.drop (p + 1) := cut_from ws (p + 1)
  have l1 : (ws.take p).length ≤ 100 := Nat.le_trans (List.length_take_le' _ _) hl
  have l2 : (ws.drop (p + 1)).length ≤ 100 := by rw [List.length_drop]; omega
  have a1 := pa (xs := ws.take p) (ys := [x]) (by omega) (by simp only [List.length_cons, List.length_nil]; omega)
  have a2 := pa (xs := ws.take p ++ [x]) (ys := ws.drop (p + 1)) (by rw [List.length_append]; simp only [List.length_cons, List.length_nil]; omega) (by omega)
  simp [h1, h5, hi, k1, k2, a1, a2, s1', -p_addT]
theorem a9_st {w : W} {i j : Nat} {ws : List D} {x : D} (h1 : w.r[j]? = some (.val (.tuple ws))) (hi : w.r[i]? = some (.val x)) (hl : ws.length ≤ 300) :
    (op2 pAdd (opd (fzO (dsl (dvar j) pno (pso (opd (fzO (op1 pNeg (cst (.int 1))))))))) (opd (fzO (dtup (acons (arg (fzR (dvar i))) anil))))) w = some (.v (.tuple (ws.dropLast ++ [x])), w) := by
  have s1' : 1 ≤ sizeLine := by decide
  have k1 := cut_last ws
  have n1 : pNeg (.int 1) = some (.v (.int (-1))) := rfl
  have a1 := pa (xs := ws.dropLast) (ys := [x]) (by rw [List.length_dropLast]; omega) (by simp only [List.length_cons, List.length_nil]; omega)
  simp [h1, hi, k1, a1, s1', n1, -p_addT]
theorem a9t_st {w : W} {j : Nat} {ws : List D} (h1 : w.r[j]? = some (.val (.tuple ws))) (hl : ws.length ≤ 300) :
    (op2 pAdd (opd (fzO (dsl (dvar j) pno (pso (opd (fzO (op1 pNeg (cst (.int 1))))))))) (opd (fzO (dtup (acons (arg (fzR (cst (.bool true)))) anil))))) w = some (.v (.tuple (ws.dropLast ++ [.bool true])), w) := by
  have s1' : 1 ≤ sizeLine := by decide
  have k1 := cut_last ws
  have n1 : pNeg (.int 1) = some (.v (.int (-1))) := rfl
  have a1 := pa (xs := ws.dropLast) (ys := [.bool true]) (by rw [List.length_dropLast]; omega) (by simp only [List.length_cons, List.length_nil]; omega)
  simp [h1, k1, a1, s1', n1, -p_addT]
theorem a11_st {w : W} {ws : List D} {p q : Nat} {x : Int} (h1 : w.r[1]? = some (.val (.tuple ws))) (h5 : w.r[5]? = some (.val (.int (p : Int)))) (h6 : w.r[6]? = some (.val (.int (q : Int)))) (hi : w.r[7]? = some (.val (.int x))) (hl : ws.length ≤ 100) :
    (op2 pAdd (opd (fzO (op2 pAdd (opd (fzO (op2 pAdd (opd (fzO (op2 pAdd (opd (fzO (dsl (dvar 1) pno (pso (dvar 5))))) (opd (fzO (dtup (acons (arg (fzR (dvar 7))) anil))))))) (opd (fzO (dsl (dvar 1) (pso (opd (fzO (op2 pAdd (dvar 5) (cst (.int 1)))))) (pso (dvar 6)))))))) (opd (fzO (dtup (acons (arg (fzO (op1 pNeg (dvar 7)))) anil))))))) (opd (fzO (dsl (dvar 1) (pso (opd (fzO (op2 pAdd (dvar 6) (cst (.int 1)))))) pno)))) w =
      some (.v (.tuple (ws.take p ++ [.int x] ++ (ws.take q).drop (p + 1) ++ [.int (-x)] ++ ws.drop (q + 1))), w) := by
  have s1' : 1 ≤ sizeLine := by decide
  have k1 := cut_to ws p
  have k2 : cutL ws (some ((p : Int) + 1)) (some (q : Int)) = (ws.take q).drop (p + 1) := cut_mid ws (p + 1) q
  have k3 : cutL ws (some ((q : Int) + 1)) none = ws.drop (q + 1) := cut_from ws (q + 1)
  have n1 : pNeg (.int x) = some (.v (.int (-x))) := rfl
  have l1 : (ws.take p).length ≤ 100 := Nat.le_trans (List.length_take_le' _ _) hl
  have l2 : ((ws.take q).drop (p + 1)).length ≤ 100 := by
    have := List.length_take_le' q ws
    rw [List.length_drop]
    omega
  have l3 : (ws.drop (q + 1)).length ≤ 100 := by rw [List.length_drop]; omega
  have a1 := pa (xs := ws.take p) (ys := [.int x]) (by omega) (by simp only [List.length_cons, List.length_nil]; omega)
  have m1 : (ws.take p ++ [PyData.int x]).length ≤ 101 := by rw [List.length_append]; simp only [List.length_cons, List.length_nil]; omega
  generalize ws.take p ++ [PyData.int x] = y1 at a1 m1 ⊢
  have a2 := pa (xs := y1) (ys := (ws.take q).drop (p + 1)) (by omega) (by omega)
  have m2 : (y1 ++ (ws.take q).drop (p + 1)).length ≤ 201 := by rw [List.length_append]; omega
  generalize y1 ++ (ws.take q).drop (p + 1) = y2 at a2 m2 ⊢
  have a3 := pa (xs := y2) (ys := [.int (-x)]) (by omega) (by simp only [List.length_cons, List.length_nil]; omega)
  have m3 : (y2 ++ [PyData.int (-x)]).length ≤ 202 := by rw [List.length_append]; simp only [List.length_cons, List.length_nil]; omega
  generalize y2 ++ [PyData.int (-x)] = y3 at a3 m3 ⊢
  have a4 := pa (xs := y3) (ys := ws.drop (q + 1)) (by omega) (by omega)
  simp [h1, h5, h6, hi, k1, k2, k3, a1, a2, a3, a4, s1', n1, -p_addT]
theorem a15_st {w : W} {i : Nat} {fs : List D} {x : D} (h9 : w.r[9]? = some (.val (.tuple fs))) (hi : w.r[i]? = some (.val x)) (hl : fs.length ≤ 300) :
    (op2 pAdd (dvar 9) (opd (fzO (dtup (acons (arg (fzR (dvar i))) anil))))) w = some (.v (.tuple (fs ++ [x])), w) := by
  have s1' : 1 ≤ sizeLine := by decide
  have a1 := pa (xs := fs) (ys := [x]) (by omega) (by simp only [List.length_cons, List.length_nil]; omega)
  simp [h9, hi, a1, s1', -p_addT]
theorem a16_st {w : W} {i : Nat} {fs : List D} {x : D} (h9 : w.r[9]? = some (.val (.tuple fs))) (hi : w.r[i]? = some (.val x)) (hl : fs.length ≤ 300) :
    (op2 pAdd (opd (fzO (dtup (acons (arg (fzR (dvar i))) anil)))) (dvar 9)) w = some (.v (.tuple ([x] ++ fs)), w) := by
  have s1' : 1 ≤ sizeLine := by decide
  have a1 := pa (xs := [x]) (ys := fs) (by simp only [List.length_cons, List.length_nil]; omega) (by omega)
  simp [h9, hi, a1, s1', -p_addT] at a1 ⊢
theorem a18_st {w : W} {f : D → D → Option O} {ts : List D} (h : f (.tuple [.bool true]) (.int 101) = some (.v (.tuple ts))) : (op2 f (opd (fzO (dtup (acons (arg (fzR (cst (.bool true)))) anil)))) (cst (.int 101))) w = some (.v (.tuple ts), w) := by
  have s1' : 1 ≤ sizeLine := by decide
  simp [h, s1']
theorem a14_st {A B : M O} {w : W} {m : Nat} {x y : D} {xs : List D} (h3 : w.r[3]? = some (.val (.int (m : Int)))) (h8 : w.r[8]? = some (.val y)) (hA : A w = some (.v (.tuple xs), w)) (hB : B w = some (.v x, w)) (hl : xs.length ≤ 1000) : (dif (tst (op2 pLt (dvar 3) (cst (.int 100)))) (op2 pAdd (opd (fzO A)) (opd (fzO (dtup (acons (arg (fzR (dvar 8))) anil))))) B) w = some (.v (if m < 100 then .tuple (xs ++ [y]) else x), w) := by
  have s1' : 1 ≤ sizeLine := by decide
  have a1 := pa (xs := xs) (ys := [y]) (by omega) (by simp only [List.length_cons, List.length_nil]; omega)
  by_cases c : m < 100
  · have c2 : (m : Int) < 100 := by omega
    simp [h3, h8, hA, a1, s1', c, c2, -p_addT]
  · have c2 : ¬ (m : Int) < 100 := by omega
    simp [h3, hB, c, c2]
def more1 (ws fs : List D) (far : D) : List D := [.list ws, .list fs, .tuple [.tuple ws], .list [], .none, .bool true, .int 0, far, .str (Str.ofString "0 1"), .str (Str.ofString ""), .dict [], .dict [(.int 0, .int 1)], .str (Str.ofString "form"), .tuple [.tuple []]]
theorem a19_st {w : W} {ws fs : List D} {x : D} (h1 : w.r[1]? = some (.val (.tuple ws))) (h9 : w.r[9]? = some (.val (.tuple fs))) (h7 : w.r[7]? = some (.val x)) : (dlst (acons (arg (fzO (dcl (p1 pList) (rcons (dvar 1) rnil)))) (acons (arg (fzO (dcl (p1 pList) (rcons (dvar 9) rnil)))) (acons (arg (fzO (dtup (acons (arg (fzR (dvar 1))) anil)))) (acons (arg (fzO (dlst anil))) (acons (arg (fzR (cst .none))) (acons (arg (fzR (cst (.bool true)))) (acons (arg (fzR (cst (.int 0)))) (acons (arg (fzR (dvar 7))) (acons (arg (fzR (cst (.str (Str.ofString "0 1"))))) (acons (arg (fzR (cst (.str (Str.ofString ""))))) (acons (arg (fzO (ret (.v (.dict []))))) (acons (arg (fzO (ddsK (.inl 0) (fzR (cst (.int 1)))))) (acons (arg (fzR (cst (.str (Str.ofString "form"))))) (acons (arg (fzO (dtup (acons (arg (fzO (dtup anil))) anil)))) anil))))))))))))))) w = some (.s (.own (more1 ws fs x)), w) := by
  have s14 : 14 ≤ sizeLine := by decide
  have s1' : 1 ≤ sizeLine := by decide
  have s0' : 0 ≤ sizeLine := Nat.zero_le _
  unfold more1
  generalize Str.ofString "0 1" = z1
  generalize Str.ofString "" = z2
  generalize Str.ofString "form" = z3
  simp [h1, h9, h7, s14, s1', s0', e_ddsK, keyD]
def more2 : List D := [.tuple [.int 11], .tuple [.int 10], .tuple [.int 0], .tuple [.int (-1)], .tuple [.int 0, .bool true], .tuple [.int 1, .int 1], .tuple [.bool false], .tuple [.int 0, .int 1], .tuple [.int 0, .bool true], .tuple [.int 0, .int 1]]
theorem a20_st {w : W} : (dlst (acons (arg (fzO (dtup (acons (arg (fzR (cst (.int 11)))) anil)))) (acons (arg (fzO (dtup (acons (arg (fzR (cst (.int 10)))) anil)))) (acons (arg (fzO (dtup (acons (arg (fzR (cst (.int 0)))) anil)))) (acons (arg (fzO (dtup (acons (arg (fzO (op1 pNeg (cst (.int 1))))) anil)))) (acons (arg (fzO (dtup (acons (arg (fzR (cst (.int 0)))) (acons (arg (fzR (cst (.bool true)))) anil))))) (acons (arg (fzO (dtup (acons (arg (fzR (cst (.int 1)))) (acons (arg (fzR (cst (.int 1)))) anil))))) (acons (arg (fzO (dtup (acons (arg (fzR (cst (.bool false)))) anil)))) (acons (arg (fzO (dtup (acons (arg (fzR (cst (.int 0)))) (acons (arg (fzR (cst (.int 1)))) anil))))) (acons (arg (fzO (dtup (acons (arg (fzR (cst (.int 0)))) (acons (arg (fzR (cst (.bool true)))) anil))))) (acons (arg (fzO (dtup (acons (arg (fzR (cst (.int 0)))) (acons (arg (fzR (cst (.int 1)))) anil))))) anil))))))))))) w = some (.s (.own more2), w) := by
  have s10 : 10 ≤ sizeLine := by decide
  have s1' : 1 ≤ sizeLine := by decide
  have s2' : 2 ≤ sizeLine := by decide
  have n1 : pNeg (.int 1) = some (.v (.int (-1))) := rfl
  unfold more2
  simp [s10, s1', s2', n1]
end K03
set_option Elab.async false
set_option linter.all false
set_option maxRecDepth 100000
set_option maxHeartbeats 4000000
set_option pp.maxSteps 3000
namespace K03
open PySem L2 TL
set_option exponentiation.threshold 600
theorem vap {A : M O} {b : Bg} {s0 s1 s2 s3 s4 s5 s6 s7 s8 s9 : S} {ts : List D} {d : D} (hts : ∀ x ∈ ts, V x) (hl : ts.length ≤ 100) (hd : V d) (hA : A ⟨[s0, s1, s2, s3, s4, s5, s6, s7, s8, s9, .own ts], b⟩ = some (.v d, ⟨[s0, s1, s2, s3, s4, s5, s6, s7, s8, s9, .own ts], b⟩)) :
    ∃ ts', sdrop (dmt kL 10 fAppend (acons (arg (fzO A)) anil)) ⟨[s0, s1, s2, s3, s4, s5, s6, s7, s8, s9, .own ts], b⟩ = some (.nx, ⟨[s0, s1, s2, s3, s4, s5, s6, s7, s8, s9, .own ts'], b⟩) ∧ (∀ x ∈ ts', V x) ∧ ts'.length = ts.length + 1 := by
  have f := f_append (ts := ts) (d := d) (by rw [sizeLine_eq]; omega)
  exact ⟨ts ++ [d], va_st hA f, V.snoc hts hd, by rw [List.length_append]; rfl⟩
theorem vex {A : M O} {b : Bg} {s0 s1 s2 s3 s4 s5 s6 s7 s8 s9 : S} {ts us : List D} (hts : ∀ x ∈ ts, V x) (hl : ts.length ≤ 100) (hus : ∀ x ∈ us, V x) (hul : us.length ≤ 100) (hA : A ⟨[s0, s1, s2, s3, s4, s5, s6, s7, s8, s9, .own ts], b⟩ = some (.s (.own us), ⟨[s0, s1, s2, s3, s4, s5, s6, s7, s8, s9, .own ts], b⟩)) :
    ∃ ts', sdrop (dmt kL 10 fExtend (acons (arg (fzO A)) anil)) ⟨[s0, s1, s2, s3, s4, s5, s6, s7, s8, s9, .own ts], b⟩ = some (.nx, ⟨[s0, s1, s2, s3, s4, s5, s6, s7, s8, s9, .own ts'], b⟩) ∧ (∀ x ∈ ts', V x) ∧ ts'.length = ts.length + us.length := by
  have f := f_extend (ts := ts) (us := us) (by rw [sizeLine_eq]; omega)
  exact ⟨ts ++ us, ve_st hA f, fun x hx => (List.mem_append.mp hx).elim (hts x) (hus x), List.length_append⟩
theorem item_bool (x : Bool) : Item (.bool x) := ⟨(nice_bool x).le (by omega), by rw [PyData.depth]; omega⟩
theorem item_none : Item .none := ⟨nice_none.le (by omega), by rw [PyData.depth]; omega⟩
theorem item_str {z : Str} (h : (reprText z).length ≤ 100) : Item (.str z) := ⟨⟨by rw [PyData.showable], by rw [PyData.depth]; omega, by show (reprText z).length ≤ 410; omega⟩, by rw [PyData.depth]; omega⟩
theorem odds_item : ∀ d ∈ odds, Item d := by
  have hi : ∀ i : Int, i.natAbs < 10 ^ 20 → Nice 410 (.int i) := fun i h => (item_small h).1
  have h1 : Nice 30 (.int 1) := (nice_int (k := 20) (by omega) (by omega) (by decide)).le (by omega)
  intro d hd
  unfold odds at hd
  simp only [List.mem_cons, List.not_mem_nil, or_false] at hd
  rcases hd with rfl | rfl | rfl | rfl | rfl | rfl | rfl | rfl | rfl
  · exact item_bool _
  · exact item_bool _
  · exact item_none
  · exact item_str (by decide +kernel)
  · exact item_str (by decide +kernel)
  · exact ⟨(nice_tup (nice_cons h1 (by decide) nice_nil)).le (by omega), by decide⟩
  · exact ⟨(nice_lst (nice_cons h1 (by decide) nice_nil)).le (by omega), by decide⟩
  · exact ⟨(nice_tup nice_nil).le (by omega), by decide⟩
  · exact ⟨⟨by decide, by decide, by decide +kernel⟩, by decide⟩
theorem more2_V : ∀ d ∈ more2, V d := by
  have hi : ∀ i : Int, i.natAbs < 10 ^ 20 → Item (.int i) := fun i h => item_small h
  have two : ∀ {x y : D}, Item x → Item y → V (.tuple [x, y]) := fun hx hy => V.tup ⟨by simp, fun d hd => by
    rcases List.mem_cons.mp hd with rfl | hd
    · exact hx
    · rw [List.mem_singleton.mp hd]
      exact hy⟩
  have one : ∀ {x : D}, Item x → V (.tuple [x]) := fun hx => V.tup ⟨by simp, fun d hd => by rw [List.mem_singleton.mp hd]; exact hx⟩
  intro d hd
  unfold more2 at hd
  simp only [List.mem_cons, List.not_mem_nil, or_false] at hd
  rcases hd with rfl | rfl | rfl | rfl | rfl | rfl | rfl | rfl | rfl | rfl
  · exact one (hi _ (by decide))
  · exact one (hi _ (by decide))
  · exact one (hi _ (by decide))
  · exact one (hi _ (by decide))
  · exact two (hi _ (by decide)) (item_bool _)
  · exact two (hi _ (by decide)) (hi _ (by decide))
  · exact one (item_bool _)
  · exact two (hi _ (by decide)) (hi _ (by decide))
  · exact two (hi _ (by decide)) (item_bool _)
  · exact two (hi _ (by decide)) (hi _ (by decide))
theorem more1_V {ws fs : List D} {far : D} (hw : VT 100 ws) (hf : VT 100 fs) (h : Item far) (hn : ∀ xs, far ≠ .tuple xs) : ∀ d ∈ more1 ws fs far, V d := by
  have hw2 : VT 310 ws := ⟨by have := hw.1; omega, hw.2⟩
  have hf2 : VT 310 fs := ⟨by have := hf.1; omega, hf.2⟩
  intro d hd
  unfold more1 at hd
  simp only [List.mem_cons, List.not_mem_nil, or_false] at hd
  rcases hd with rfl | rfl | rfl | rfl | rfl | rfl | rfl | rfl | rfl | rfl | rfl | rfl | rfl | rfl
  · exact V.lst hw2
  · exact V.lst hf2
  · have v := V.tup hw2
    have hl := hw.1
    have hd := depthAll_le fun d hd => (hw.2 d hd).2
    have dt : (PyData.tuple ws).depth ≤ 6 := by rw [PyData.depth]; omega
    refine ⟨(nice_tup (nice_cons (nice_tup hw.nice) (by omega) nice_nil)).le (by omega), ?_, fun xs e => ?_⟩
    · rw [PyData.depth, PyData.depthAll, PyData.depthAll]
      omega
    · cases e
      simp
  · exact V.lst (VT.nil 310)
  · exact V.item item_none fun _ z => nomatch z
  · exact V.item (item_bool _) fun _ z => nomatch z
  · exact V.item (item_small (by decide)) fun _ z => nomatch z
  · exact V.item h hn
  · exact V.item (item_str (by decide +kernel)) fun _ z => nomatch z
  · exact V.item (item_str (by decide +kernel)) fun _ z => nomatch z
  · exact V.item ⟨⟨by decide, by decide, by decide +kernel⟩, by decide⟩ fun _ z => nomatch z
  · exact V.item ⟨⟨by decide, by decide, by decide +kernel⟩, by decide⟩ fun _ z => nomatch z
  · exact V.item (item_str (by decide +kernel)) fun _ z => nomatch z
  · exact ⟨⟨by decide, by decide, by decide +kernel⟩, by decide, fun xs e => by cases e; simp⟩
theorem VT.le {n m : Nat} {xs : List D} (h : VT n xs) (g : n ≤ m) : VT m xs := ⟨Nat.le_trans h.1 g, h.2⟩
theorem values_ok {b : Bg} {w o : List Nat} (hb : BgOk b) (hw : LW 100 w) (hn : w ≠ []) (ho : LW 100 o) : ∃ (vs : List D) (b' : Bg), f__law_values [.bag, .p (.tuple (J w)), .p (.tuple (J o))] b = some (.s (.own vs), b') ∧ (∀ d ∈ vs, V d) ∧ vs.length ≤ 60 ∧ BgOk b' := by
  have hl := hw.2
  have h0 : 0 < w.length := List.length_pos_iff.mpr hn
  obtain ⟨p, b1, e1, l1, h1⟩ := drawI (n := (w.length : Int)) hb (by omega) (by omega)
  obtain ⟨r, b2, e2, l2, h2⟩ := drawI (n := (w.length : Int) - (p : Int)) h1 (by omega) (by omega)
  obtain ⟨x, b3, e3, l3, h3⟩ := drawI (n := 1000000000) h2 (by omega) (by omega)
  obtain ⟨far, b4, e4, m4, h4⟩ := pick_ok (xs := [.int (-1), .int 11, .int 12, .int (-2), .int 100, .int (10 ^ 399), .int (-(10 ^ 399)), .int (11 + (x : Int))]) h3 (by simp) (by simp)
  obtain ⟨odd, b5, e5, m5, h5⟩ := pick_ok (xs := odds) h4 (by unfold odds; simp) (by decide)
  have hodd := odds_item odd m5
  obtain ⟨fi, rfl, hfi, hfn⟩ : ∃ i : Int, far = .int i ∧ i.natAbs < 10 ^ 400 ∧ (-i).natAbs < 10 ^ 400 := by
    have big : (10 : Nat) ^ 20 ≤ 10 ^ 400 := Nat.pow_le_pow_right (by omega) (by omega)
    have g9 : ((10 : Int) ^ 399).natAbs < 10 ^ 400 := by decide +kernel
    simp only [List.mem_cons, List.not_mem_nil, or_false] at m4
    have sm : ∀ i : Int, i.natAbs < 10 ^ 20 → i.natAbs < 10 ^ 400 ∧ (-i).natAbs < 10 ^ 400 := fun i h => ⟨by omega, by rw [Int.natAbs_neg]; omega⟩
    rcases m4 with rfl | rfl | rfl | rfl | rfl | rfl | rfl | rfl
    · exact ⟨_, rfl, sm _ (by decide)⟩
    · exact ⟨_, rfl, sm _ (by decide)⟩
    · exact ⟨_, rfl, sm _ (by decide)⟩
    · exact ⟨_, rfl, sm _ (by decide)⟩
    · exact ⟨_, rfl, sm _ (by decide)⟩
    · exact ⟨_, rfl, g9, by rw [Int.natAbs_neg]; exact g9⟩
    · exact ⟨_, rfl, by rw [Int.natAbs_neg]; exact g9, by rw [Int.natAbs_neg, Int.natAbs_neg]; exact g9⟩
    · exact ⟨_, rfl, sm _ (by omega)⟩
  have ifar : Item (.int fi) := item_int hfi
  have ifan : Item (.int (-fi)) := item_int hfn
  have ews := J_len w
  have hws : VT 100 (J w) := (item_J hw.1).le hl
  have hos : VT 100 (J o) := (item_J ho.1).le ho.2
  have hp : p < w.length := by omega
  have ix := atJ (getD_at hp)
  have iy : Item (.int (w.getD p 0 : Nat)) := hws.2 _ (List.mem_of_getElem? (J_at (getD_at hp)))
  obtain ⟨y0, rs, ew⟩ : ∃ y0 rs, J w = y0 :: rs := by
    cases w with
    | nil => exact absurd rfl hn
    | cons a t => exact ⟨_, _, rfl⟩
  have iy0 : Item y0 := hws.2 _ (by rw [ew]; exact List.mem_cons_self)
  generalize PyData.int (w.getD p 0 : Nat) = y at ix iy
  have tk1 : (J w).take 1 = [y0] := by rw [ew]; rfl
  generalize J w = ws at *
  generalize J o = os at *
  have q6 := mul1 (d := y) (n := 100 - w.length) (by omega)
  rw [show ((100 - w.length : Nat) : Int) = 100 - (w.length : Int) by omega] at q6
  obtain ⟨fs, hfs⟩ : ∃ fs, fs = ws ++ List.replicate (100 - w.length) y := ⟨_, rfl⟩
  have vfs : VT 100 fs := by
    rw [hfs]
    refine ⟨by rw [List.length_append, List.length_replicate]; omega, ?_⟩
    exact (hws.app (VT.rep iy _)).2
  have lws : ws.length ≤ 100 := hws.1
  have lfs : fs.length ≤ 100 := vfs.1
  have pf := pa (xs := ws) (ys := List.replicate (100 - w.length) y) (by omega) (by rw [List.length_replicate]; omega)
  rw [← hfs] at pf
  have i10 : Item (.int 10) := item_small (by decide)
  have i0 : Item (.int 0) := item_small (by decide)
  have mA := mul1 (d := .int 10) (n := 100) (by omega)
  have mB := mul1 (d := .int 0) (n := 100) (by omega)
  have mC := mul1 (d := y0) (n := 3) (by omega)
  have mD := mul1 (d := .int 0) (n := 101) (by omega)
  have mE := mul1 (d := .bool true) (n := 101) (by omega)
  rw [← tk1] at mC
  have pg := pa (xs := fs) (ys := [.int 0]) (by omega) (by simp)
  have ph := pa (xs := fs) (ys := List.replicate 3 y0) (by omega) (by simp)
  have t1 : m__law_values_1 ⟨[.bag, .val (.tuple ws), .val (.tuple os), .un, .un, .un, .un, .un, .un, .un, .un], b⟩ = some (.nx, ⟨[.bag, .val (.tuple ws), .val (.tuple os), .val (.int (ws.length : Int)), .val (.int (10 ^ 399)), .un, .un, .un, .un, .un, .un], b⟩) := v1_st powG powG2
  rw [ews] at t1
  have t2 : m__law_values_2 ⟨[.bag, .val (.tuple ws), .val (.tuple os), .val (.int (w.length : Int)), .val (.int (10 ^ 399)), .un, .un, .un, .un, .un, .un], b⟩ = some (.nx, ⟨[.bag, .val (.tuple ws), .val (.tuple os), .val (.int (w.length : Int)), .val (.int (10 ^ 399)), .val (.int (p : Int)), .un, .un, .un, .un, .un], b1⟩) := v2_st e1
  have t3 : m__law_values_3 ⟨[.bag, .val (.tuple ws), .val (.tuple os), .val (.int (w.length : Int)), .val (.int (10 ^ 399)), .val (.int (p : Int)), .un, .un, .un, .un, .un], b1⟩ = some (.nx, ⟨[.bag, .val (.tuple ws), .val (.tuple os), .val (.int (w.length : Int)), .val (.int (10 ^ 399)), .val (.int (p : Int)), .val (.int ((p : Int) + (r : Int))), .un, .un, .un, .un], b2⟩) := v3_st e2
  rw [show (p : Int) + (r : Int) = ((p + r : Nat) : Int) by omega] at t3
  have t4 : m__law_values_4 ⟨[.bag, .val (.tuple ws), .val (.tuple os), .val (.int (w.length : Int)), .val (.int (10 ^ 399)), .val (.int (p : Int)), .val (.int ((p + r : Nat) : Int)), .un, .un, .un, .un], b2⟩ = some (.nx, ⟨[.bag, .val (.tuple ws), .val (.tuple os), .val (.int (w.length : Int)), .val (.int (10 ^ 399)), .val (.int (p : Int)), .val (.int ((p + r : Nat) : Int)), .val (.int fi), .un, .un, .un], b4⟩) := v4_st e3 e4
  have t5 : m__law_values_5 ⟨[.bag, .val (.tuple ws), .val (.tuple os), .val (.int (w.length : Int)), .val (.int (10 ^ 399)), .val (.int (p : Int)), .val (.int ((p + r : Nat) : Int)), .val (.int fi), .un, .un, .un], b4⟩ = some (.nx, ⟨[.bag, .val (.tuple ws), .val (.tuple os), .val (.int (w.length : Int)), .val (.int (10 ^ 399)), .val (.int (p : Int)), .val (.int ((p + r : Nat) : Int)), .val (.int fi), .val odd, .un, .un], b5⟩) := v5_st e5
  generalize p + r = q at *
  generalize (10 : Int) ^ 399 = G at *
  have t6 : m__law_values_6 ⟨[.bag, .val (.tuple ws), .val (.tuple os), .val (.int (w.length : Int)), .val (.int G), .val (.int (p : Int)), .val (.int (q : Int)), .val (.int fi), .val odd, .un, .un], b5⟩ = some (.nx, ⟨[.bag, .val (.tuple ws), .val (.tuple os), .val (.int (w.length : Int)), .val (.int G), .val (.int (p : Int)), .val (.int (q : Int)), .val (.int fi), .val odd, .val (.tuple fs), .un], b5⟩) := by
    have := v6_st (f := pMul) (b := b5) (s2 := .val (.tuple os)) (s4 := .val (.int G)) (s6 := .val (.int (q : Int))) (s7 := .val (.int fi)) (s8 := .val odd) ix q6 (by rw [← hfs]; exact pf)
    rw [← hfs] at this
    exact this
  obtain ⟨L7, hL7⟩ : ∃ L7 : List D, L7 = [.tuple ws, .tuple os, .tuple [], .tuple fs, .tuple (List.replicate 100 (.int 10)), .tuple (List.replicate 100 (.int 0)), .tuple (fs ++ [.int 0]), .tuple (fs ++ List.replicate 3 y0), .tuple (List.replicate 101 (.int 0))] := ⟨_, rfl⟩
  have t7 : m__law_values_7 ⟨[.bag, .val (.tuple ws), .val (.tuple os), .val (.int (w.length : Int)), .val (.int G), .val (.int (p : Int)), .val (.int (q : Int)), .val (.int fi), .val odd, .val (.tuple fs), .un], b5⟩ = some (.nx, ⟨[.bag, .val (.tuple ws), .val (.tuple os), .val (.int (w.length : Int)), .val (.int G), .val (.int (p : Int)), .val (.int (q : Int)), .val (.int fi), .val odd, .val (.tuple fs), .own L7], b5⟩) := by
    rw [hL7]
    exact v7_st (f := pMul) mA mB mC mD pg ph
  have n7 : L7.length = 9 := by rw [hL7]; rfl
  have v7 : ∀ d ∈ L7, V d := by
    intro d hd
    rw [hL7] at hd
    simp only [List.mem_cons, List.not_mem_nil, or_false] at hd
    rcases hd with rfl | rfl | rfl | rfl | rfl | rfl | rfl | rfl | rfl
    · exact V.tup (hws.le (by omega))
    · exact V.tup (hos.le (by omega))
    · exact V.tup (VT.nil _)
    · exact V.tup (vfs.le (by omega))
    · exact V.tup ((VT.rep i10 100).le (by omega))
    · exact V.tup ((VT.rep i0 100).le (by omega))
    · exact V.tup ((vfs.app (VT.one i0)).le (by omega))
    · exact V.tup ((vfs.app (VT.rep iy0 3)).le (by omega))
    · exact V.tup ((VT.rep i0 101).le (by omega))
  clear hL7
  obtain ⟨L8, t8, v8, n8⟩ := vap (b := b5) (s0 := .bag) (s1 := .val (.tuple ws)) (s2 := .val (.tuple os)) (s3 := .val (.int (w.length : Int))) (s4 := .val (.int G)) (s5 := .val (.int (p : Int))) (s6 := .val (.int (q : Int))) (s7 := .val (.int fi)) (s8 := .val odd) (s9 := .val (.tuple fs)) v7 (by omega) (V.tup (((hws.take p).app (VT.one ifar)).app (hws.drop (p + 1)) |>.le (by omega))) (a8_st (i := 7) rfl rfl rfl lws)
  obtain ⟨L9, t9, v9, n9⟩ := vap (b := b5) (s0 := .bag) (s1 := .val (.tuple ws)) (s2 := .val (.tuple os)) (s3 := .val (.int (w.length : Int))) (s4 := .val (.int G)) (s5 := .val (.int (p : Int))) (s6 := .val (.int (q : Int))) (s7 := .val (.int fi)) (s8 := .val odd) (s9 := .val (.tuple fs)) v8 (by omega) (V.tup ((hws.last.app (VT.one ifar)).le (by omega))) (a9_st (i := 7) (j := 1) rfl rfl (by omega))
  obtain ⟨L10, t10, v10, n10⟩ := vap (b := b5) (s0 := .bag) (s1 := .val (.tuple ws)) (s2 := .val (.tuple os)) (s3 := .val (.int (w.length : Int))) (s4 := .val (.int G)) (s5 := .val (.int (p : Int))) (s6 := .val (.int (q : Int))) (s7 := .val (.int fi)) (s8 := .val odd) (s9 := .val (.tuple fs)) v9 (by omega) (V.tup ((vfs.last.app (VT.one ifar)).le (by omega))) (a9_st (i := 7) (j := 9) rfl rfl (by omega))
  obtain ⟨L11, t11, v11, n11⟩ := vap (b := b5) (s0 := .bag) (s1 := .val (.tuple ws)) (s2 := .val (.tuple os)) (s3 := .val (.int (w.length : Int))) (s4 := .val (.int G)) (s5 := .val (.int (p : Int))) (s6 := .val (.int (q : Int))) (s7 := .val (.int fi)) (s8 := .val odd) (s9 := .val (.tuple fs)) v10 (by omega) (V.tup (((((hws.take p).app (VT.one ifar)).app ((hws.take q).drop (p + 1))).app (VT.one ifan)).app (hws.drop (q + 1)) |>.le (by omega))) (a11_st rfl rfl rfl rfl lws)
  obtain ⟨L12, t12, v12, n12⟩ := vap (b := b5) (s0 := .bag) (s1 := .val (.tuple ws)) (s2 := .val (.tuple os)) (s3 := .val (.int (w.length : Int))) (s4 := .val (.int G)) (s5 := .val (.int (p : Int))) (s6 := .val (.int (q : Int))) (s7 := .val (.int fi)) (s8 := .val odd) (s9 := .val (.tuple fs)) v11 (by omega) (V.tup (((hws.take p).app (VT.one hodd)).app (hws.drop (p + 1)) |>.le (by omega))) (a8_st (i := 8) rfl rfl rfl lws)
  obtain ⟨L13, t13, v13, n13⟩ := vap (b := b5) (s0 := .bag) (s1 := .val (.tuple ws)) (s2 := .val (.tuple os)) (s3 := .val (.int (w.length : Int))) (s4 := .val (.int G)) (s5 := .val (.int (p : Int))) (s6 := .val (.int (q : Int))) (s7 := .val (.int fi)) (s8 := .val odd) (s9 := .val (.tuple fs)) v12 (by omega) (V.tup ((vfs.last.app (VT.one hodd)).le (by omega))) (a9_st (i := 8) (j := 9) rfl rfl (by omega))
  have vt14 : V (if w.length < 100 then .tuple (ws.take p ++ [.int fi] ++ ws.drop (p + 1) ++ [odd]) else .tuple (ws.dropLast ++ [.bool true])) := by
    split
    · exact V.tup ((((hws.take p).app (VT.one ifar)).app (hws.drop (p + 1))).app (VT.one hodd) |>.le (by omega))
    · exact V.tup ((hws.last.app (VT.one (item_bool true))).le (by omega))
  obtain ⟨L14, t14, v14, n14⟩ := vap (b := b5) (s0 := .bag) (s1 := .val (.tuple ws)) (s2 := .val (.tuple os)) (s3 := .val (.int (w.length : Int))) (s4 := .val (.int G)) (s5 := .val (.int (p : Int))) (s6 := .val (.int (q : Int))) (s7 := .val (.int fi)) (s8 := .val odd) (s9 := .val (.tuple fs)) v13 (by omega) vt14 (a14_st rfl rfl (a8_st (i := 7) rfl rfl rfl lws) (a9t_st (j := 1) rfl (by omega)) (by
    have := (((hws.take p).app (VT.one ifar)).app (hws.drop (p + 1))).1
    omega))
  obtain ⟨L15, t15, v15, n15⟩ := vap (b := b5) (s0 := .bag) (s1 := .val (.tuple ws)) (s2 := .val (.tuple os)) (s3 := .val (.int (w.length : Int))) (s4 := .val (.int G)) (s5 := .val (.int (p : Int))) (s6 := .val (.int (q : Int))) (s7 := .val (.int fi)) (s8 := .val odd) (s9 := .val (.tuple fs)) v14 (by omega) (V.tup ((vfs.app (VT.one ifar)).le (by omega))) (a15_st (i := 7) rfl rfl (by omega))
  obtain ⟨L16, t16, v16, n16⟩ := vap (b := b5) (s0 := .bag) (s1 := .val (.tuple ws)) (s2 := .val (.tuple os)) (s3 := .val (.int (w.length : Int))) (s4 := .val (.int G)) (s5 := .val (.int (p : Int))) (s6 := .val (.int (q : Int))) (s7 := .val (.int fi)) (s8 := .val odd) (s9 := .val (.tuple fs)) v15 (by omega) (V.tup (((VT.one ifar).app vfs).le (by omega))) (a16_st (i := 7) rfl rfl (by omega))
  obtain ⟨L17, t17, v17, n17⟩ := vap (b := b5) (s0 := .bag) (s1 := .val (.tuple ws)) (s2 := .val (.tuple os)) (s3 := .val (.int (w.length : Int))) (s4 := .val (.int G)) (s5 := .val (.int (p : Int))) (s6 := .val (.int (q : Int))) (s7 := .val (.int fi)) (s8 := .val odd) (s9 := .val (.tuple fs)) v16 (by omega) (V.tup ((vfs.app (VT.one hodd)).le (by omega))) (a15_st (i := 8) rfl rfl (by omega))
  obtain ⟨L18, t18, v18, n18⟩ := vap (b := b5) (s0 := .bag) (s1 := .val (.tuple ws)) (s2 := .val (.tuple os)) (s3 := .val (.int (w.length : Int))) (s4 := .val (.int G)) (s5 := .val (.int (p : Int))) (s6 := .val (.int (q : Int))) (s7 := .val (.int fi)) (s8 := .val odd) (s9 := .val (.tuple fs)) v17 (by omega) (V.tup ((VT.rep (item_bool true) 101).le (by omega))) (a18_st (f := pMul) mE)
  obtain ⟨L19, t19, v19, n19⟩ := vex (b := b5) (s0 := .bag) (s1 := .val (.tuple ws)) (s2 := .val (.tuple os)) (s3 := .val (.int (w.length : Int))) (s4 := .val (.int G)) (s5 := .val (.int (p : Int))) (s6 := .val (.int (q : Int))) (s7 := .val (.int fi)) (s8 := .val odd) (s9 := .val (.tuple fs)) v18 (by omega) (more1_V hws vfs ifar fun _ z => nomatch z) (by unfold more1; simp) (a19_st rfl rfl rfl)
  obtain ⟨L20, t20, v20, n20⟩ := vex (b := b5) (s0 := .bag) (s1 := .val (.tuple ws)) (s2 := .val (.tuple os)) (s3 := .val (.int (w.length : Int))) (s4 := .val (.int G)) (s5 := .val (.int (p : Int))) (s6 := .val (.int (q : Int))) (s7 := .val (.int fi)) (s8 := .val odd) (s9 := .val (.tuple fs)) v19 (by
    rw [n19]
    have : (more1 ws fs (.int fi)).length = 14 := rfl
    omega) more2_V (by unfold more2; simp) a20_st
  have l19 : (more1 ws fs (.int fi)).length = 14 := rfl
  have l20 : more2.length = 10 := rfl
  have t21 : m__law_values_21 ⟨[.bag, .val (.tuple ws), .val (.tuple os), .val (.int (w.length : Int)), .val (.int G), .val (.int (p : Int)), .val (.int (q : Int)), .val (.int fi), .val odd, .val (.tuple fs), .own L20], b5⟩ = some (.re (.s (.own L20)), ⟨[.bag, .val (.tuple ws), .val (.tuple os), .val (.int (w.length : Int)), .val (.int G), .val (.int (p : Int)), .val (.int (q : Int)), .val (.int fi), .val odd, .val (.tuple fs), .own L20], b5⟩) := by
    unfold m__law_values_21
    simp
  refine ⟨L20, b5, values_start ?_, v20, by omega, h5⟩
  have sq : ∀ {a c : M Out} {w1 w2 : W}, a w1 = some (.nx, w2) → sseq a c w1 = c w2 := fun {a c w1 w2} h => by
    rw [e_sseq, h, Option.bind_some, e_thenN]
  unfold m__law_values
  rw [sq t1, sq t2, sq t3, sq t4, sq t5, sq t6, sq t7]
  unfold m__law_values_8 m__law_values_9 m__law_values_10 m__law_values_11 m__law_values_12 m__law_values_13 m__law_values_14 m__law_values_15 m__law_values_16 m__law_values_17 m__law_values_18 m__law_values_19 m__law_values_20
  rw [sq t8, sq t9, sq t10, sq t11, sq t12, sq t13, sq t14, sq t15, sq t16, sq t17, sq t18, sq t19, sq t20, t21, e_finR]
end K03
set_option Elab.async false
set_option linter.all false
set_option maxRecDepth 100000
set_option maxHeartbeats 4000000
set_option pp.maxSteps 3000
namespace K03
open PySem L2 TL
/-! ### the law -/
theorem l1_st {F : Sm} {b b1 b2 : Bg} {x y : D} (h1 : F [.bag] b = some (.v x, b1)) (h2 : F [.bag] b1 = some (.v y, b2)) : spar2 2 3 (ocons (dcall F (acons (argB 1) anil)) (ocons (dcall F (acons (argB 1) anil)) onil)) ⟨[.un, .bag, .un, .un, .un, .un, .un, .un, .un, .un, .un, .un, .un, .un], b⟩ = some (.nx, ⟨[.un, .bag, .val x, .val y, .un, .un, .un, .un, .un, .un, .un, .un, .un, .un], b2⟩) := by
  simp [h1, h2]
theorem l2_st {F H : Sm} {b b1 b2 b3 : Bg} {r1 r2 : Int} {x : D} {s2 s3 s5 s6 s7 s8 s9 s10 s11 s12 s13 : S} (h1 : H [.bag, .p (.int 12)] b = some (.v (.int r1), b1)) (h2 : H [.bag, .p (.int 5)] b1 = some (.v (.int r2), b2)) (h3 : F [.bag, .p (.list [.int 12, .int (1 + r1), .int (1 + r2)])] b2 = some (.v x, b3)) :
    sset 4 (dcall F (acons (argB 1) (acons (arg (fzO (dlst (acons (arg (fzR (cst (.int 12)))) (acons (arg (fzO (op2 pAdd (cst (.int 1)) (opd (fzO (dcall H (acons (argB 1) (acons (arg (fzR (cst (.int 12)))) anil)))))))) (acons (arg (fzO (op2 pAdd (cst (.int 1)) (opd (fzO (dcall H (acons (argB 1) (acons (arg (fzR (cst (.int 5)))) anil)))))))) anil)))))) anil))) ⟨[.un, .bag, s2, s3, .un, s5, s6, s7, s8, s9, s10, s11, s12, s13], b⟩ = some (.nx, ⟨[.un, .bag, s2, s3, .val x, s5, s6, s7, s8, s9, s10, s11, s12, s13], b3⟩) := by
  have s3' : 3 ≤ sizeLine := by decide
  simp [h1, h2, h3, s3']
theorem l3_st {U F H : Sm} {b b1 b2 b3 b4 : Bg} {r1 r2 : Int} {pl x u : D} {s2 s3 s6 s7 s8 s9 s10 s11 s12 s13 : S} (h1 : H [.bag, .p (.int 67)] b = some (.v (.int r1), b1)) (h2 : H [.bag, .p (.int 13)] b1 = some (.v (.int r2), b2)) (h3 : F [.bag, .p (.list [.int 66, .int r1, .int r2])] b2 = some (.v x, b3)) (h4 : U [.bag, .p pl, .p x] b3 = some (.v u, b4)) :
    sset 5 (dcall U (acons (argB 1) (acons (arg (fzR (dvar 4))) (acons (arg (fzO (dcall F (acons (argB 1) (acons (arg (fzO (dlst (acons (arg (fzR (cst (.int 66)))) (acons (arg (fzO (dcall H (acons (argB 1) (acons (arg (fzR (cst (.int 67)))) anil))))) (acons (arg (fzO (dcall H (acons (argB 1) (acons (arg (fzR (cst (.int 13)))) anil))))) anil)))))) anil))))) anil)))) ⟨[.un, .bag, s2, s3, .val pl, .un, s6, s7, s8, s9, s10, s11, s12, s13], b⟩ = some (.nx, ⟨[.un, .bag, s2, s3, .val pl, .val u, s6, s7, s8, s9, s10, s11, s12, s13], b4⟩) := by
  have s3' : 3 ≤ sizeLine := by decide
  simp [h1, h2, h3, h4, s3']
theorem l4_st {U H : Sm} {b b1 b2 b3 : Bg} {r1 r2 : Int} {u : D} {s2 s3 s4 s5 s7 s8 s9 s10 s11 s12 s13 : S} (h1 : H [.bag, .p (.int 4)] b = some (.v (.int r1), b1)) (h2 : H [.bag, .p (.int 11)] b1 = some (.v (.int r2), b2)) (h3 : U [.bag, .p (.int (2 + r1)), .p (.int r2)] b2 = some (.v u, b3)) :
    sset 6 (dcall U (acons (argB 1) (acons (arg (fzO (op2 pAdd (cst (.int 2)) (opd (fzO (dcall H (acons (argB 1) (acons (arg (fzR (cst (.int 4)))) anil)))))))) (acons (arg (fzO (dcall H (acons (argB 1) (acons (arg (fzR (cst (.int 11)))) anil))))) anil)))) ⟨[.un, .bag, s2, s3, s4, s5, .un, s7, s8, s9, s10, s11, s12, s13], b⟩ = some (.nx, ⟨[.un, .bag, s2, s3, s4, s5, .val u, s7, s8, s9, s10, s11, s12, s13], b3⟩) := by
  simp [h1, h2, h3]
theorem l5_st {b : Bg} {l : List D} {s3 s4 s5 s6 s8 s9 s10 s11 s12 s13 : S} : sset 7 (drevO tupO (opd (fzO (dcl (p1 pList) (rcons (dvar 2) rnil))))) ⟨[.un, .bag, .val (.tuple l), s3, s4, s5, s6, .un, s8, s9, s10, s11, s12, s13], b⟩ = some (.nx, ⟨[.un, .bag, .val (.tuple l), s3, s4, s5, s6, .val (.tuple l.reverse), s8, s9, s10, s11, s12, s13], b⟩) := by
  simp [tupO]
theorem l6_st {b : Bg} {w1 w2 u : List D} {t f : D} {s4 s9 s10 s11 s12 s13 : S} (a1 : pAdd (.tuple w1) (.tuple w2) = some (.v (.tuple (w1 ++ w2)))) (a2 : pAdd (.tuple w2) (.tuple u) = some (.v (.tuple (w2 ++ u)))) :
    sset 8 (dlst (acons (arg (fzR (dvar 2))) (acons (arg (fzR (dvar 3))) (acons (arg (fzR (dvar 7))) (acons (arg (fzO (dsl (opd (fzO (op2 pAdd (dvar 2) (dvar 3)))) pno (pso (cst (.int 100)))))) (acons (arg (fzO (dsl (opd (fzO (op2 pAdd (dvar 3) (dvar 5)))) pno (pso (cst (.int 100)))))) (acons (arg (fzR (dvar 5))) (acons (arg (fzO (drevO tupO (opd (fzO (dcl (p1 pList) (rcons (dvar 5) rnil))))))) (acons (arg (fzR (dvar 6))) (acons (arg (fzO (dtup anil))) anil)))))))))) ⟨[.un, .bag, .val (.tuple w1), .val (.tuple w2), s4, .val (.tuple u), .val f, .val t, .un, s9, s10, s11, s12, s13], b⟩ =
      some (.nx, ⟨[.un, .bag, .val (.tuple w1), .val (.tuple w2), s4, .val (.tuple u), .val f, .val t, .own [.tuple w1, .tuple w2, t, .tuple ((w1 ++ w2).take 100), .tuple ((w2 ++ u).take 100), .tuple u, .tuple u.reverse, f, .tuple []], s9, s10, s11, s12, s13], b⟩) := by
  have s9' : 9 ≤ sizeLine := by decide
  have s0' : 0 ≤ sizeLine := Nat.zero_le _
  have k1 : cutL (w1 ++ w2) none (some 100) = (w1 ++ w2).take 100 := cut_to _ 100
  have k2 : cutL (w2 ++ u) none (some 100) = (w2 ++ u).take 100 := cut_to _ 100
  generalize w1 ++ w2 = x1 at *
  generalize w2 ++ u = x2 at *
  simp [a1, a2, k1, k2, s9', s0', tupO, -p_addT]
theorem l7_st {N M : Sm} {b b1 b2 b3 b4 : Bg} {l n1 m1 n2 m2 : List D} {u f : D} {s2 s3 s4 s7 s9 s10 s11 s12 s13 : S} (h1 : N [.bag, .p u] b = some (.s (.own n1), b1)) (h2 : M [.bag, .p u] b1 = some (.s (.own m1), b2)) (h3 : N [.bag, .p f] b2 = some (.s (.own n2), b3)) (h4 : M [.bag, .p f] b3 = some (.s (.own m2), b4))
    (a1 : pAdd (.list l) (.list n1) = some (.s (.own (l ++ n1)))) (a2 : pAdd (.list (l ++ n1)) (.list m1) = some (.s (.own (l ++ n1 ++ m1)))) (a3 : pAdd (.list (l ++ n1 ++ m1)) (.list n2) = some (.s (.own (l ++ n1 ++ m1 ++ n2)))) (a4 : pAdd (.list (l ++ n1 ++ m1 ++ n2)) (.list m2) = some (.s (.own (l ++ n1 ++ m1 ++ n2 ++ m2)))) :
    sset 8 (op2 pAdd (opd (fzO (op2 pAdd (opd (fzO (op2 pAdd (opd (fzO (op2 pAdd (dvar 8) (opd (fzO (dcall N (acons (argB 1) (acons (arg (fzR (dvar 5))) anil)))))))) (opd (fzO (dcall M (acons (argB 1) (acons (arg (fzR (dvar 5))) anil)))))))) (opd (fzO (dcall N (acons (argB 1) (acons (arg (fzR (dvar 6))) anil)))))))) (opd (fzO (dcall M (acons (argB 1) (acons (arg (fzR (dvar 6))) anil)))))) ⟨[.un, .bag, s2, s3, s4, .val u, .val f, s7, .own l, s9, s10, s11, s12, s13], b⟩ =
      some (.nx, ⟨[.un, .bag, s2, s3, s4, .val u, .val f, s7, .own (l ++ n1 ++ m1 ++ n2 ++ m2), s9, s10, s11, s12, s13], b4⟩) := by
  generalize l ++ n1 ++ m1 ++ n2 ++ m2 = y4 at *
  generalize l ++ n1 ++ m1 ++ n2 = y3 at *
  generalize l ++ n1 ++ m1 = y2 at *
  generalize l ++ n1 = y1 at *
  simp [h1, h2, h3, h4, a1, a2, a3, a4, -p_addL]
theorem l8_st {F M : Sm} {b b1 : Bg} {x y f : D} {s2 s3 s4 s5 s7 s8 s11 s12 s13 : S} (h1 : F [.bag] b = some (.v x, b1)) (h2 : M [.p f] b1 = some (.v y, b1)) : spar2 9 10 (ocons (dcall F (acons (argB 1) anil)) (ocons (dcall M (acons (arg (fzR (dvar 6))) anil)) onil)) ⟨[.un, .bag, s2, s3, s4, s5, .val f, s7, s8, .un, .un, s11, s12, s13], b⟩ = some (.nx, ⟨[.un, .bag, s2, s3, s4, s5, .val f, s7, s8, .val x, .val y, s11, s12, s13], b1⟩) := by
  simp [h1, h2]
theorem l9_st {L M : Sm} {b b1 b2 b3 : Bg} {o y u x1 x2 x3 x4 : D} {s2 s3 s4 s6 s7 s8 s12 s13 : S} (h1 : L [.bag, .p o] b = some (.v x1, b1)) (h2 : L [.bag, .p y] b1 = some (.v x2, b2)) (h3 : M [.p u] b2 = some (.v x3, b2)) (h4 : L [.bag, .p (.tuple [.int 0])] b2 = some (.v x4, b3)) :
    sset 11 (dlst (acons (arg (fzR (dvar 9))) (acons (arg (fzO (dcall L (acons (argB 1) (acons (arg (fzR (dvar 9))) anil))))) (acons (arg (fzO (dcall L (acons (argB 1) (acons (arg (fzR (dvar 10))) anil))))) (acons (arg (fzO (dcall M (acons (arg (fzR (dvar 5))) anil)))) (acons (arg (fzO (dcall L (acons (argB 1) (acons (arg (fzO (dtup (acons (arg (fzR (cst (.int 0)))) anil)))) anil))))) anil)))))) ⟨[.un, .bag, s2, s3, s4, .val u, s6, s7, s8, .val o, .val y, .un, s12, s13], b⟩ = some (.nx, ⟨[.un, .bag, s2, s3, s4, .val u, s6, s7, s8, .val o, .val y, .own [o, x1, x2, x3, x4], s12, s13], b3⟩) := by
  have s5' : 5 ≤ sizeLine := by decide
  have s1' : 1 ≤ sizeLine := by decide
  simp [h1, h2, h3, h4, s5', s1']
theorem l10_st {F : Sm} {f : D → D → Option O} {b b1 : Bg} {w : D} {u : D} {vs : List D} {c : Bool} {s3 s4 s6 s7 s8 s9 s10 s11 s13 : S} (h1 : f w (.tuple []) = some (.v (.bool c))) (h2 : F [.bag, .p (if c = true then w else .tuple [.int 3, .int 1, .int 4]), .p u] b = some (.s (.own vs), b1)) :
    sset 12 (dcall F (acons (argB 1) (acons (arg (fzO (dif (tst (op2 f (dvar 2) (opd (fzO (dtup anil))))) (end_ (fzR (dvar 2))) (dtup (acons (arg (fzR (cst (.int 3)))) (acons (arg (fzR (cst (.int 1)))) (acons (arg (fzR (cst (.int 4)))) anil))))))) (acons (arg (fzR (dvar 5))) anil)))) ⟨[.un, .bag, .val w, s3, s4, .val u, s6, s7, s8, s9, s10, s11, .un, s13], b⟩ = some (.nx, ⟨[.un, .bag, .val w, s3, s4, .val u, s6, s7, s8, s9, s10, s11, .own vs, s13], b1⟩) := by
  have s3' : 3 ≤ sizeLine := by decide
  have s0' : 0 ≤ sizeLine := Nat.zero_le _
  cases c with
  | true =>
    simp at h2
    simp [h1, h2, s3', s0']
  | false =>
    simp at h2
    simp [h1, h2, s3', s0']
theorem l11_st {f : D → Option O} {b : Bg} {x y z : List D} {k : D} {s2 s3 s4 s5 s6 s7 s9 s10 : S} (h : f (.list [.list x, .list y, .list z]) = some (.v k)) : sset 13 (dcl (p1 f) (rcons (opd (fzO (dlst (acons (arg (fzR (dvar 8))) (acons (arg (fzR (dvar 11))) (acons (arg (fzR (dvar 12))) anil)))))) rnil)) ⟨[.un, .bag, s2, s3, s4, s5, s6, s7, .own x, s9, s10, .own y, .own z, .un], b⟩ = some (.nx, ⟨[.un, .bag, s2, s3, s4, s5, s6, s7, .val (.list x), s9, s10, .val (.list y), .val (.list z), .val k], b⟩) := by
  have s3' : 3 ≤ sizeLine := by decide
  simp [h, s3']
theorem l12_st {F G : Sm} {b : Bg} {x y : D} {s2 s3 s4 s5 s6 s7 s9 s10 s12 s13 : S} (h1 : F [.p x] b = some (.v (.bool true), b)) (h2 : G [.p y] b = some (.v (.bool true), b)) : sif (dor (dnot (dtr (opd (fzO (dcall F (acons (arg (fzR (dvar 8))) anil)))))) (dnot (dtr (opd (fzO (dcall G (acons (arg (fzR (dvar 11))) anil))))))) (sret (end_ (fzR (cst (.bool false))))) snx ⟨[.un, .bag, s2, s3, s4, s5, s6, s7, .val x, s9, s10, .val y, s12, s13], b⟩ = some (.nx, ⟨[.un, .bag, s2, s3, s4, s5, s6, s7, .val x, s9, s10, .val y, s12, s13], b⟩) := by
  simp [h1, h2]
theorem l13_st {F : Sm} {b : Bg} {x y : D} {s2 s3 s4 s7 s8 s9 s10 s11 s12 s13 : S} (h1 : F [.p x] b = some (.v (.bool true), b)) (h2 : F [.p y] b = some (.v (.bool true), b)) : sif (dor (dnot (dtr (opd (fzO (dcall F (acons (arg (fzR (dvar 5))) anil)))))) (dnot (dtr (opd (fzO (dcall F (acons (arg (fzR (dvar 6))) anil))))))) (sret (end_ (fzR (cst (.bool false))))) snx ⟨[.un, .bag, s2, s3, s4, .val x, .val y, s7, s8, s9, s10, s11, s12, s13], b⟩ = some (.nx, ⟨[.un, .bag, s2, s3, s4, .val x, .val y, s7, s8, s9, s10, s11, s12, s13], b⟩) := by
  simp [h1, h2]
theorem l14_st {F G : Sm} {b : Bg} {x u w : D} {s3 s4 s6 s7 s8 s9 s10 s11 s13 : S} (h1 : F [.p x] b = some (.v (.bool true), b)) (h2 : G [.p (.list [u, w])] b = some (.v (.bool true), b)) : sif (dor (dnot (dtr (opd (fzO (dcall F (acons (arg (fzR (dvar 12))) anil)))))) (dnot (dtr (opd (fzO (dcall G (acons (arg (fzO (dlst (acons (arg (fzR (dvar 5))) (acons (arg (fzR (dvar 2))) anil))))) anil))))))) (sret (end_ (fzR (cst (.bool false))))) snx ⟨[.un, .bag, .val w, s3, s4, .val u, s6, s7, s8, s9, s10, s11, .val x, s13], b⟩ = some (.nx, ⟨[.un, .bag, .val w, s3, s4, .val u, s6, s7, s8, s9, s10, s11, .val x, s13], b⟩) := by
  have s2' : 2 ≤ sizeLine := by decide
  simp [h1, h2, s2']
theorem l15_st {f : D → Option O} {g : D → D → Option O} {b : Bg} {x y z : List D} {k : D} {s2 s3 s4 s5 s6 s7 s9 s10 : S} (h : f (.list [.list x, .list y, .list z]) = some (.v k)) (h2 : g k k = some (.v (.bool true))) : sret (op2 g (opd (fzO (dcl (p1 f) (rcons (opd (fzO (dlst (acons (arg (fzR (dvar 8))) (acons (arg (fzR (dvar 11))) (acons (arg (fzR (dvar 12))) anil)))))) rnil)))) (dvar 13)) ⟨[.un, .bag, s2, s3, s4, s5, s6, s7, .val (.list x), s9, s10, .val (.list y), .val (.list z), .val k], b⟩ = some (.re (.v (.bool true)), ⟨[.un, .bag, s2, s3, s4, s5, s6, s7, .val (.list x), s9, s10, .val (.list y), .val (.list z), .val k], b⟩) := by
  have s3' : 3 ≤ sizeLine := by decide
  simp [h, h2, s3']
theorem niceWs : ∀ {ws : List D}, Ws ws → NiceAll (ws.length * 5010) ws
  | [], _ => nice_nil
  | x :: xs, h => by
    obtain ⟨l, rfl, hl⟩ := h x List.mem_cons_self
    have h2 := niceWs fun d hd => h d (List.mem_cons_of_mem _ hd)
    have h1 := nice_tup (niceJ (l := l) fun y hy => by have := hl.1 y hy; omega)
    have := hl.2
    have dp := depthJ l
    exact (nice_cons h1 (by rw [PyData.depth]; omega) h2).le (by rw [List.length_cons]; omega)
theorem niceOs : ∀ {os : List D}, (∀ d ∈ os, IsO d) → NiceAll (os.length * 100) os
  | [], _ => nice_nil
  | x :: xs, h => by
    obtain ⟨l, rfl, hp, _, h12⟩ := h x List.mem_cons_self
    have h2 := niceOs fun d hd => h d (List.mem_cons_of_mem _ hd)
    have lt := perm_lt hp
    have h1 := nice_tup (niceJ (l := l) fun y hy => by have := lt y hy; omega)
    have dp := depthJ l
    exact (nice_cons h1 (by rw [PyData.depth]; omega) h2).le (by rw [List.length_cons]; omega)
theorem Ws.app {a c : List D} (h : Ws a) (g : Ws c) : Ws (a ++ c) := fun d hd => (List.mem_append.mp hd).elim (h d) (g d)
theorem isO_bare {w : List Nat} (h : ∀ a ∈ w, a ≤ 10) : IsO (.tuple (J (bareL (rowOf w)))) := by
  have hl := row_len w
  refine ⟨_, rfl, bare_perm (by rw [hl]; exact row_perm h), bare_ne ?_, (bare_row h).2⟩
  intro z
  rw [z] at hl
  cases hl
theorem isO_long {o : List Nat} {r : Nat} (hp : o.Perm (List.range o.length)) (hn : o ≠ []) (hl : o.length + r ≤ 12) : IsO (.tuple (J (o ++ (List.range r).map fun k => o.length + k))) := by
  refine ⟨_, rfl, ?_, by simp [hn], by rw [List.length_append, List.length_map, List.length_range]; exact hl⟩
  rw [List.length_append, List.length_map, List.length_range, range_split]
  refine hp.append (List.Perm.of_eq ?_)
  rw [List.range'_eq_map_range]
theorem law_main {b : Bg} (hb : BgOk b) : ∃ w', m_law ⟨.un :: .bag :: List.replicate 12 .un, b⟩ = some (.re (.v (.bool true)), w') := by
  obtain ⟨one, b1, e1, on1, on2, h1⟩ := word_ok hb
  obtain ⟨oth, b2, e2, ot1, ot2, h2⟩ := word_ok h1
  have t1 : m_law_1 ⟨[.un, .bag, .un, .un, .un, .un, .un, .un, .un, .un, .un, .un, .un, .un], b⟩ = _ := l1_st e1 e2
  obtain ⟨r1, b3, e3, q3, h3⟩ := drawI (n := 12) h2 (by omega) (by omega)
  obtain ⟨r2, b4, e4, q4, h4⟩ := drawI (n := 5) h3 (by omega) (by omega)
  obtain ⟨pl, b5, e5, m5, h5⟩ := pick_ok (xs := [.int 12, .int (1 + (r1 : Int)), .int (1 + (r2 : Int))]) h4 (by simp) (by simp)
  obtain ⟨p, rfl, p1, p12⟩ : ∃ p : Nat, pl = .int (p : Int) ∧ 1 ≤ p ∧ p ≤ 12 := by
    simp only [List.mem_cons, List.not_mem_nil, or_false] at m5
    rcases m5 with rfl | rfl | rfl
    · exact ⟨12, rfl, by omega, by omega⟩
    · exact ⟨1 + r1, by rw [show ((1 + r1 : Nat) : Int) = 1 + (r1 : Int) by omega], by omega, by omega⟩
    · exact ⟨1 + r2, by rw [show ((1 + r2 : Nat) : Int) = 1 + (r2 : Int) by omega], by omega, by omega⟩
  have t2 : m_law_2 ⟨[.un, .bag, .val (.tuple (J one)), .val (.tuple (J oth)), .un, .un, .un, .un, .un, .un, .un, .un, .un, .un], b2⟩ = _ := l2_st e3 e4 e5
  obtain ⟨r3, b6, e6, q6, h6⟩ := drawI (n := 67) h5 (by omega) (by omega)
  obtain ⟨r4, b7, e7, q7, h7⟩ := drawI (n := 13) h6 (by omega) (by omega)
  obtain ⟨mm, b8, e8, m8, h8⟩ := pick_ok (xs := [.int 66, .int (r3 : Int), .int (r4 : Int)]) h7 (by simp) (by simp)
  obtain ⟨m, rfl, m66⟩ : ∃ m : Nat, mm = .int (m : Int) ∧ m ≤ 66 := by
    simp only [List.mem_cons, List.not_mem_nil, or_false] at m8
    rcases m8 with rfl | rfl | rfl
    · exact ⟨66, rfl, by omega⟩
    · exact ⟨r3, rfl, by omega⟩
    · exact ⟨r4, rfl, by omega⟩
  obtain ⟨up, b9, e9, u1, u2, u3, h9⟩ := up_ok (m := m) h8 p1 p12 (by omega)
  have t3 : m_law_3 ⟨[.un, .bag, .val (.tuple (J one)), .val (.tuple (J oth)), .val (.int (p : Int)), .un, .un, .un, .un, .un, .un, .un, .un, .un], b5⟩ = _ := l3_st e6 e7 e8 e9
  obtain ⟨r5, b10, e10, q10, h10⟩ := drawI (n := 4) h9 (by omega) (by omega)
  obtain ⟨r6, b11, e11, q11, h11⟩ := drawI (n := 11) h10 (by omega) (by omega)
  obtain ⟨few, b12, e12, f1, f2, f3, h12⟩ := up_ok (p := 2 + r5) (m := r6) h11 (by omega) (by omega) (by omega)
  rw [show ((2 + r5 : Nat) : Int) = 2 + (r5 : Int) by omega] at e12
  have t4 : m_law_4 ⟨[.un, .bag, .val (.tuple (J one)), .val (.tuple (J oth)), .val (.int (p : Int)), .val (.tuple (J up)), .un, .un, .un, .un, .un, .un, .un, .un], b9⟩ = _ := l4_st e10 e11 e12
  have t5 : m_law_5 ⟨[.un, .bag, .val (.tuple (J one)), .val (.tuple (J oth)), .val (.int (p : Int)), .val (.tuple (J up)), .val (.tuple (J few)), .un, .un, .un, .un, .un, .un, .un], b12⟩ = _ := l5_st
  have lup : LW 300 up := ⟨fun a ha => by have := u1 a ha; omega, by omega⟩
  have lfew : LW 300 few := ⟨fun a ha => by have := f1 a ha; omega, by omega⟩
  have lone : LW 100 one := ⟨on1, on2⟩
  have loth : LW 100 oth := ⟨ot1, ot2⟩
  have a1 := pAddJ (l := one) (r := oth) (by omega)
  have a2 := pAddJ (l := oth) (r := up) (by omega)
  rw [J_app] at a1 a2
  have t6 : m_law_6 ⟨[.un, .bag, .val (.tuple (J one)), .val (.tuple (J oth)), .val (.int (p : Int)), .val (.tuple (J up)), .val (.tuple (J few)), .val (.tuple (J one).reverse), .un, .un, .un, .un, .un, .un], b12⟩ = _ := l6_st a1 a2
  obtain ⟨W0, hW0⟩ : ∃ W0 : List D, W0 = [.tuple (J one), .tuple (J oth), .tuple (J one).reverse, .tuple ((J one ++ J oth).take 100), .tuple ((J oth ++ J up).take 100), .tuple (J up), .tuple (J up).reverse, .tuple (J few), .tuple []] := ⟨_, rfl⟩
  have w0 : Ws W0 := by
    intro d hd
    rw [hW0] at hd
    simp only [List.mem_cons, List.not_mem_nil, or_false] at hd
    have rv : ∀ {c : Nat} {l : List Nat}, LW c l → LW c l.reverse := fun h => ⟨fun a ha => h.1 a (List.mem_reverse.mp ha), by rw [List.length_reverse]; exact h.2⟩
    have le : ∀ {c : Nat} {l : List Nat}, LW c l → c ≤ 1000 → LW 1000 l := fun h g => ⟨h.1, Nat.le_trans h.2 g⟩
    rcases hd with rfl | rfl | rfl | rfl | rfl | rfl | rfl | rfl | rfl
    · exact ⟨_, rfl, le lone (by omega)⟩
    · exact ⟨_, rfl, le loth (by omega)⟩
    · exact ⟨one.reverse, by rw [J_rev], le (rv lone) (by omega)⟩
    · exact ⟨(one ++ oth).take 100, by rw [← J_app, J_take], le ((lone.app loth).take 100) (by omega)⟩
    · exact ⟨(oth ++ up).take 100, by rw [← J_app, J_take], le ((loth.app lup).take 100) (by omega)⟩
    · exact ⟨_, rfl, le lup (by omega)⟩
    · exact ⟨up.reverse, by rw [J_rev], le (rv lup) (by omega)⟩
    · exact ⟨_, rfl, le lfew (by omega)⟩
    · exact ⟨[], rfl, (fun a (ha : a ∈ ([] : List Nat)) => nomatch ha), Nat.zero_le _⟩
  have n0 : W0.length = 9 := by rw [hW0]; rfl
  rw [← hW0] at t6
  obtain ⟨N1, b13, e13, wn1, ln1, h13⟩ := near_ok h12 lup
  obtain ⟨M1, b14, e14, wm1, lm1, h14⟩ := moved_ok h13 lup
  obtain ⟨N2, b15, e15, wn2, ln2, h15⟩ := near_ok h14 lfew
  obtain ⟨M2, b16, e16, wm2, lm2, h16⟩ := moved_ok h15 lfew
  have t7 : m_law_7 ⟨[.un, .bag, .val (.tuple (J one)), .val (.tuple (J oth)), .val (.int (p : Int)), .val (.tuple (J up)), .val (.tuple (J few)), .val (.tuple (J one).reverse), .own W0, .un, .un, .un, .un, .un], b12⟩ = _ := l7_st e13 e14 e15 e16 (p_addL _ _ (by rw [sizeLine_eq]; omega)) (p_addL _ _ (by rw [sizeLine_eq, List.length_append]; omega)) (p_addL _ _ (by rw [sizeLine_eq, List.length_append, List.length_append]; omega)) (p_addL _ _ (by rw [sizeLine_eq, List.length_append, List.length_append, List.length_append]; omega))
  obtain ⟨WS, hWS⟩ : ∃ WS, WS = W0 ++ N1 ++ M1 ++ N2 ++ M2 := ⟨_, rfl⟩
  have ww : Ws WS := by
    rw [hWS]
    exact (((w0.app wn1).app wm1).app wn2).app wm2
  have lW : WS.length ≤ 30 := by
    rw [hWS]
    simp only [List.length_append]
    omega
  rw [← hWS] at t7
  obtain ⟨ord, b17, e17, op, on, o12, h17⟩ := order_ok h16
  have e18 := made_ok (b := b17) lfew.1
  have t8 : m_law_8 ⟨[.un, .bag, .val (.tuple (J one)), .val (.tuple (J oth)), .val (.int (p : Int)), .val (.tuple (J up)), .val (.tuple (J few)), .val (.tuple (J one).reverse), .own WS, .un, .un, .un, .un, .un], b16⟩ = _ := l8_st e17 e18
  have io := isO_bare lfew.1
  obtain ⟨sm, esm, sp, sn, s12⟩ := io
  have esm : J (bareL (rowOf few)) = J sm := by
    have := PyData.tuple.inj esm
    exact this
  rw [esm] at t8
  obtain ⟨k1, b18, e19, g19, h18⟩ := longer_ok h17 o12
  obtain ⟨k2, b19, e20, g20, h19⟩ := longer_ok h18 s12
  have e21 := made_ok (b := b19) lup.1
  obtain ⟨k3, b20, e22, g22, h20⟩ := longer_ok (o := [0]) h19 (by simp)
  have e22 : f__law_longer [.bag, .p (.tuple [.int 0])] b19 = _ := e22
  have t9 : m_law_9 ⟨[.un, .bag, .val (.tuple (J one)), .val (.tuple (J oth)), .val (.int (p : Int)), .val (.tuple (J up)), .val (.tuple (J few)), .val (.tuple (J one).reverse), .own WS, .val (.tuple (J ord)), .val (.tuple (J sm)), .un, .un, .un], b17⟩ = _ := l9_st e19 e20 e21 e22
  obtain ⟨OS, hOS⟩ : ∃ OS : List D, OS = [.tuple (J ord), .tuple (J (ord ++ (List.range k1).map fun k => ord.length + k)), .tuple (J (sm ++ (List.range k2).map fun k => sm.length + k)), .tuple (J (bareL (rowOf up))), .tuple (J ([0] ++ (List.range k3).map fun k => [0].length + k))] := ⟨_, rfl⟩
  have oo : ∀ d ∈ OS, IsO d := by
    intro d hd
    rw [hOS] at hd
    simp only [List.mem_cons, List.not_mem_nil, or_false] at hd
    rcases hd with rfl | rfl | rfl | rfl | rfl
    · exact ⟨_, rfl, op, on, o12⟩
    · exact isO_long op on g19
    · exact isO_long sp sn g20
    · exact isO_bare lup.1
    · exact isO_long (o := [0]) (List.Perm.refl _) (by simp) g22
  have lO : OS.length = 5 := by rw [hOS]; rfl
  rw [← hOS] at t9
  obtain ⟨wv, hwv, lwv, nwv⟩ : ∃ wv : List Nat, (if (!(J one).isEmpty) = true then PyData.tuple (J one) else .tuple [.int 3, .int 1, .int 4]) = .tuple (J wv) ∧ LW 100 wv ∧ wv ≠ [] := by
    cases one with
    | nil => exact ⟨[3, 1, 4], rfl, ⟨by decide, by decide⟩, by simp⟩
    | cons x l => exact ⟨x :: l, rfl, lone, by simp⟩
  obtain ⟨VS, b21, e23, vv, lV, h21⟩ := values_ok (w := wv) (o := up) h20 lwv nwv ⟨lup.1, by omega⟩
  rw [← hwv] at e23
  have t10 : m_law_10 ⟨[.un, .bag, .val (.tuple (J one)), .val (.tuple (J oth)), .val (.int (p : Int)), .val (.tuple (J up)), .val (.tuple (J few)), .val (.tuple (J one).reverse), .own WS, .val (.tuple (J ord)), .val (.tuple (J sm)), .own OS, .un, .un], b20⟩ = _ := l10_st (pNe_tnil (plainJ one)) e23
  have nn : Nice 16777216 (.list [.list WS, .list OS, .list VS]) := by
    have n1 := niceWs ww
    have n2 := niceOs oo
    have n3 := niceV vv
    have d1 := n1.dp
    have d2 := n2.dp
    have d3 := n3.dp
    have dW : PyData.depthAll WS ≤ 20 := depthAll_le fun d hd => by
      obtain ⟨l, rfl, _⟩ := ww d hd
      have := depthJ l
      rw [PyData.depth]
      omega
    have dO : PyData.depthAll OS ≤ 20 := depthAll_le fun d hd => by
      obtain ⟨l, rfl, _⟩ := oo d hd
      have := depthJ l
      rw [PyData.depth]
      omega
    have dV : PyData.depthAll VS ≤ 20 := depthAll_le fun d hd => (vv d hd).2.1
    have z := nice_lst (nice_cons (nice_lst n1) (by rw [PyData.depth]; omega) (nice_cons (nice_lst n2) (by rw [PyData.depth]; omega) (nice_cons (nice_lst n3) (by rw [PyData.depth]; omega) nice_nil)))
    exact z.le (by omega)
  have rp := nn.repr (by omega)
  have re := pEq_str (PyData.list [.list WS, .list OS, .list VS]).shown
  generalize (PyData.list [.list WS, .list OS, .list VS]).shown = ks at rp re
  have t11 : m_law_11 ⟨[.un, .bag, .val (.tuple (J one)), .val (.tuple (J oth)), .val (.int (p : Int)), .val (.tuple (J up)), .val (.tuple (J few)), .val (.tuple (J one).reverse), .own WS, .val (.tuple (J ord)), .val (.tuple (J sm)), .own OS, .own VS, .un], b21⟩ = _ := l11_st rp
  have isw : ∀ d ∈ WS, IsW d := fun d hd => by
    obtain ⟨l, rfl, h⟩ := ww d hd
    exact ⟨l, rfl, h.1⟩
  have t12 : m_law_12 ⟨[.un, .bag, .val (.tuple (J one)), .val (.tuple (J oth)), .val (.int (p : Int)), .val (.tuple (J up)), .val (.tuple (J few)), .val (.tuple (J one).reverse), .val (.list WS), .val (.tuple (J ord)), .val (.tuple (J sm)), .val (.list OS), .val (.list VS), .val (.str ks)], b21⟩ = _ := l12_st (words_ok isw) (lr_ok oo)
  have t13 : m_law_13 ⟨[.un, .bag, .val (.tuple (J one)), .val (.tuple (J oth)), .val (.int (p : Int)), .val (.tuple (J up)), .val (.tuple (J few)), .val (.tuple (J one).reverse), .val (.list WS), .val (.tuple (J ord)), .val (.tuple (J sm)), .val (.list OS), .val (.list VS), .val (.str ks)], b21⟩ = _ := l13_st (xr_ok lup.1 lup.2 u3) (xr_ok lfew.1 lfew.2 f3)
  have t14 : m_law_14 ⟨[.un, .bag, .val (.tuple (J one)), .val (.tuple (J oth)), .val (.int (p : Int)), .val (.tuple (J up)), .val (.tuple (J few)), .val (.tuple (J one).reverse), .val (.list WS), .val (.tuple (J ord)), .val (.tuple (J sm)), .val (.list OS), .val (.list VS), .val (.str ks)], b21⟩ = _ := l14_st (faults_ok fun d hd => (vv d hd).2.2) (words_ok (ws := [.tuple (J up), .tuple (J one)]) fun d hd => by
    simp only [List.mem_cons, List.not_mem_nil, or_false] at hd
    rcases hd with rfl | rfl
    · exact ⟨_, rfl, lup.1⟩
    · exact ⟨_, rfl, on1⟩)
  have t15 : m_law_15 ⟨[.un, .bag, .val (.tuple (J one)), .val (.tuple (J oth)), .val (.int (p : Int)), .val (.tuple (J up)), .val (.tuple (J few)), .val (.tuple (J one).reverse), .val (.list WS), .val (.tuple (J ord)), .val (.tuple (J sm)), .val (.list OS), .val (.list VS), .val (.str ks)], b21⟩ = _ := l15_st rp re
  have sq : ∀ {a c : M Out} {w1 w2 : W}, a w1 = some (.nx, w2) → sseq a c w1 = c w2 := fun {a c w1 w2} h => by
    rw [e_sseq, h, Option.bind_some, e_thenN]
  refine ⟨⟨[.un, .bag, .val (.tuple (J one)), .val (.tuple (J oth)), .val (.int (p : Int)), .val (.tuple (J up)), .val (.tuple (J few)), .val (.tuple (J one).reverse), .val (.list WS), .val (.tuple (J ord)), .val (.tuple (J sm)), .val (.list OS), .val (.list VS), .val (.str ks)], b21⟩, ?_⟩
  rw [show (S.un :: S.bag :: List.replicate 12 S.un) = [.un, .bag, .un, .un, .un, .un, .un, .un, .un, .un, .un, .un, .un, .un] from rfl]
  unfold m_law
  rw [sq t1, sq t2, sq t3, sq t4, sq t5, sq t6, sq t7, sq t8, sq t9, sq t10, sq t11, sq t12, sq t13, sq t14]
  exact t15
def f0 (ns : List Int) : Bg := (g__law_bag ns).getD ([], 0, 0)
theorem bag_ok : ∀ ns, g__law_bag ns = some (f0 ns) := fun ns => by
  obtain ⟨b, e, _⟩ := bag_any ns
  unfold f0
  rw [e]
  rfl
theorem law_ok : ∀ ns : List Int, ns.length ≤ 63 → ∃ w', m_law ⟨.un :: .bag :: List.replicate 12 .un, f0 ns⟩ = some (.re (.v (.bool true)), w') := fun ns _ => by
  obtain ⟨b, e, hb⟩ := bag_any ns
  have : f0 ns = b := by
    unfold f0
    rw [e]
    rfl
  rw [this]
  exact law_main hb
end K03
open PySem PySem.W PyProof.Rows
set_option maxHeartbeats 0 in
theorem PySem.Challenge.cw_pipewalls_k03_whole_words_and_exchanges_holds : PySem.Challenge.rw_pipewalls_k03_whole_words_and_exchanges.Holds := by
  w_on; o_law; k_head; (case hw => w_witness2)
  k_fill
  refine TL.walk_G (l := PySem.Challenge.rw_pipewalls_k03_whole_words_and_exchanges) (n := 63) (k := 6) (x := "script") rfl (by decide) rfl ⟨rfl, by decide, by decide⟩ (by decide +kernel) (fun w h Y => PySem.W.kIn_of Y) ?F
  case F =>
    intro w mg fa h KX G hmg
    refine' K03.all_mk KX G hmg K03.bag_ok K03.law_ok ?a0 ?l0 ?c0 ?k0 ?a1 ?l1 ?c1 ?k1 ?a2 ?l2 ?c2 ?k2 ?a3 ?l3 ?c3 ?k3 ?a4 ?l4 ?c4 ?k4 ?a5 ?l5 ?c5 ?k5 ?a6 ?l6 ?c6 ?k6 ?a7 ?l7 ?c7 ?k7 ?a8 ?l8 ?c8 ?k8 ?a9 ?l9 ?c9 ?k9 ?a10 ?l10 ?c10 ?k10 ?a11 ?l11 ?c11 ?k11 ?a12 ?l12 ?c12 ?k12 ?a13 ?l13 ?c13 ?k13 ?a14 ?l14 ?c14 ?k14 ?a15 ?l15 ?c15 ?k15 ?a16 ?l16 ?c16 ?k16 ?a17 ?l17 ?c17 ?k17 ?a18 ?l18 ?c18 ?k18 ?a19 ?l19 ?c19 ?k19 ?a20 ?l20 ?c20 ?k20 ?a21 ?l21 ?c21 ?k21 ?a22 ?l22 ?c22 ?k22 ?a23 ?l23 ?c23 ?k23 ?a24 ?l24 ?c24 ?k24 ?a25 ?l25 ?c25 ?k25 ?a26 ?l26 ?c26 ?k26 ?a27 ?l27 ?c27 ?k27 ?a28 ?l28 ?c28 ?k28 ?a29 ?l29 ?c29 ?k29 ?a30 ?l30 ?c30 ?k30 ?a31 ?l31 ?c31 ?k31 ?a32 ?l32 ?c32 ?k32 ?a33 ?l33 ?c33 ?k33 ?a34 ?l34 ?c34 ?k34 ?a35 ?l35 ?c35 ?k35 ?z_abs ?z_all ?z_bool ?z_dict ?z_enumerate ?z_int ?z_isinstance ?z_len ?z_list ?z_max ?z_range ?z_repr ?z_reversed ?z_sum ?z_tuple ?z_MAX_PLACES ?z_MAX_SWAPS
    case a0 => k_is
    case l0 => k_is
    case c0 => k_is
    case k0 => k_is
    case a1 => k_is
    case l1 => k_is
    case c1 => k_is
    case k1 => k_is
    case a2 => k_is
    case l2 => k_is
    case c2 => k_is
    case k2 => k_is
    case a3 => k_is
    case l3 => k_is
    case c3 => k_is
    case k3 => k_is
    case a4 => k_is
    case l4 => k_is
    case c4 => k_is
    case k4 => k_is
    case a5 => k_is
    case l5 => k_is
    case c5 => k_is
    case k5 => k_is
    case a6 => k_is
    case l6 => k_is
    case c6 => k_is
    case k6 => k_is
    case a7 => k_is
    case l7 => k_is
    case c7 => k_is
    case k7 => k_is
    case a8 => k_is
    case l8 => k_is
    case c8 => k_is
    case k8 => k_is
    case a9 => k_is
    case l9 => k_is
    case c9 => k_is
    case k9 => k_is
    case a10 => k_is
    case l10 => k_is
    case c10 => k_is
    case k10 => k_is
    case a11 => k_is
    case l11 => k_is
    case c11 => k_is
    case k11 => k_is
    case a12 => k_is
    case l12 => k_is
    case c12 => k_is
    case k12 => k_is
    case a13 => k_is
    case l13 => k_is
    case c13 => k_is
    case k13 => k_is
    case a14 => k_is
    case l14 => k_is
    case c14 => k_is
    case k14 => k_is
    case a15 => k_is
    case l15 => k_is
    case c15 => k_is
    case k15 => k_is
    case a16 => k_is
    case l16 => k_is
    case c16 => k_is
    case k16 => k_is
    case a17 => k_is
    case l17 => k_is
    case c17 => k_is
    case k17 => k_is
    case a18 => k_is
    case l18 => k_is
    case c18 => k_is
    case k18 => k_is
    case a19 => k_is
    case l19 => k_is
    case c19 => k_is
    case k19 => k_is
    case a20 => k_is
    case l20 => k_is
    case c20 => k_is
    case k20 => k_is
    case a21 => k_is
    case l21 => k_is
    case c21 => k_is
    case k21 => k_is
    case a22 => k_is
    case l22 => k_is
    case c22 => k_is
    case k22 => k_is
    case a23 => k_is
    case l23 => k_is
    case c23 => k_is
    case k23 => k_is
    case a24 => k_is
    case l24 => k_is
    case c24 => k_is
    case k24 => k_is
    case a25 => k_is
    case l25 => k_is
    case c25 => k_is
    case k25 => k_is
    case a26 => k_is
    case l26 => k_is
    case c26 => k_is
    case k26 => k_is
    case a27 => k_is
    case l27 => k_is
    case c27 => k_is
    case k27 => k_is
    case a28 => k_is
    case l28 => k_is
    case c28 => k_is
    case k28 => k_is
    case a29 => k_is
    case l29 => k_is
    case c29 => k_is
    case k29 => k_is
    case a30 => k_is
    case l30 => k_is
    case c30 => k_is
    case k30 => k_is
    case a31 => k_is
    case l31 => k_is
    case c31 => k_is
    case k31 => k_is
    case a32 => k_is
    case l32 => k_is
    case c32 => k_is
    case k32 => k_is
    case a33 => k_is
    case l33 => k_is
    case c33 => k_is
    case k33 => k_is
    case a34 => k_is
    case l34 => k_is
    case c34 => k_is
    case k34 => k_is
    case a35 => k_is
    case l35 => k_is
    case c35 => k_is
    case k35 => k_is
    case z_abs => k_is
    case z_all => k_is
    case z_bool => k_is
    case z_dict => k_is
    case z_enumerate => k_is
    case z_int => k_is
    case z_isinstance => k_is
    case z_len => k_is
    case z_list => k_is
    case z_max => k_is
    case z_range => k_is
    case z_repr => k_is
    case z_reversed => k_is
    case z_sum => k_is
    case z_tuple => k_is
    case z_MAX_PLACES => k_is
    case z_MAX_SWAPS => k_is
