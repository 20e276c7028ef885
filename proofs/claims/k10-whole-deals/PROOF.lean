import PyProof.Rows.All
import Wide.All
import OpenK.AllK
import Wide.FinOn
import HandS.ForMost
import HandS.Property
import HandS.Defaults
import HandS.TupAny
import HandS.Wide
import HandS.WideBits
import HandS.IsInst
import HandS.OwnEq
import KE.KFmtOwn
import HandS.Set
import HandS.SetFor
import HandS.Strs
import PyProof.Rows.SortShellAny
import HandS.More
import HandS.Style
import HandS.DictComp
import HandS.Zip
import KE.GoesMore
import KE.GoesEnum
import KE.KStateDown
import HandS.Head0
import HandS.Head1
import HandS.Head2
import HandS.HeadEnd
import HandS.HeadHook1
import HandS.HeadHook2
import HandS.Words
import PyProof.ReprRoads
import HandS.Ends
import HandS.Deep
import PyProof.Rows.StrJoinMade
import PySem.Challenge.RW_elderlink_k10_whole_deals
set_option Elab.async false
set_option linter.all false
set_option maxRecDepth 100000
set_option maxHeartbeats 0
/-! Data over the hand layer: D a datum, Mu the mutable objects by number, a world: where the numbers stand and what is settled. -/
namespace DL
open PySem L2

/-- a datum: what is settled is told by its content; ref k: the k-th mutable object -/
inductive D where
  | non | bl (b : Bool) | int (i : Int) | str (x : Str)
  | lst (xs : List D) | tup (xs : List D)
  | dK (ks : List Key) (xs : List D) | dT (ks : List (List Key)) (xs : List D)
  | ins (c : Addr) (fs : List Str) (xs : List D)
  | ref (k : Nat)
  | scr (ns : List Int)
  | opq (v : V)

/-- a mutable object -/
inductive MO where
  | lst (xs : List D) | dK (kvs : List (Key × D)) | dT (kvs : List (List Key × D)) | lk (od : Obj) (vs : List (Key × V)) (kvs : List (Key × D)) | lkT (od : Obj) (vs : List (List Key × V)) (kvs : List (List Key × D)) | ins (c : Addr) (fs : List Str) (xs : List D)

abbrev Mu := Nat → Option MO
def mset (m : Mu) (k : Nat) (o : MO) : Mu := fun j => if j = k then some o else m j
def mdel (m : Mu) (k : Nat) : Mu := fun j => if j = k then none else m j
theorem mset_same {m : Mu} {k : Nat} {o : MO} : mset m k o k = some o := if_pos rfl
theorem mset_ne {m : Mu} {k j : Nat} {o : MO} (h : j ≠ k) : mset m k o j = m j := if_neg h
theorem mdel_same {m : Mu} {k : Nat} : mdel m k k = none := if_pos rfl
theorem mdel_ne {m : Mu} {k j : Nat} (h : j ≠ k) : mdel m k j = m j := if_neg h
theorem mset_mset {m : Mu} {k : Nat} {o p : MO} : mset (mset m k o) k p = mset m k p := by
  funext j; unfold mset; split <;> rfl
theorem mdel_mset {m : Mu} {k : Nat} {o : MO} (h : m k = none) : mdel (mset m k o) k = m := by
  funext j; unfold mdel mset; split
  · rename_i e; rw [e, h]
  · rfl
theorem mset_id {m : Mu} {k : Nat} {o : MO} (h : m k = some o) : mset m k o = m := by
  funext j; unfold mset; split
  · rename_i e; rw [e, h]
  · rfl
theorem ne_of_mu {m : Mu} {j k : Nat} {o : MO} (h : m j = some o) (h' : m k = none) : j ≠ k := fun e => by
  rw [e, h'] at h; cases h

/-- a world: the places of the numbers below n, and the settled part of the heap -/
structure Wd where
  th : Nat → Addr
  n : Nat
  G : Hp

section
variable (K : PySem.W.Frag) (W : Wd)
mutual
inductive Rep : D → V → Prop where
  | non : Rep .non .non
  | bl (b : Bool) : Rep (.bl b) (.bl b)
  | int (i : Int) : Rep (.int i) (.int i)
  | str (x : Str) : Rep (.str x) (.str x)
  | lst {xs : List D} {p : Addr} {vs : List V} (h : W.G p = some (.lst vs)) (r : RepL xs vs) : Rep (.lst xs) (.ref p)
  | tup {xs : List D} {p : Addr} {vs : List V} (h : W.G p = some (.tup vs)) (r : RepL xs vs) : Rep (.tup xs) (.ref p)
  | dK {xs : List D} {p : Addr} {kvs : List (Key × V)} (h : Rd W.G p (.dK kvs)) (r : RepL xs (kvs.map (·.2))) : Rep (.dK (kvs.map (·.1)) xs) (.ref p)
  | dT {xs : List D} {p : Addr} {kvs : List (List Key × V)} (h : Rd W.G p (.dT kvs)) (r : RepL xs (kvs.map (·.2))) : Rep (.dT (kvs.map (·.1)) xs) (.ref p)
  | ins {c dx : Addr} {xs : List D} {p : Addr} {fs : List (Str × V)} (h : W.G p = some (.ins c dx fs)) (r : RepL xs (fs.map (·.2))) : Rep (.ins c (fs.map (·.1)) xs) (.ref p)
  | ref {k : Nat} (h : k < W.n) : Rep (.ref k) (.ref (W.th k))
  | scr {ns : List Int} {p : Addr} (h : SqL K W.G p (ns.map V.int)) : Rep (.scr ns) (.ref p)
  | opq (v : V) : Rep (.opq v) v
inductive RepL : List D → List V → Prop where
  | nil : RepL [] []
  | cons {d : D} {v : V} {ds : List D} {vs : List V} (h : Rep d v) (t : RepL ds vs) : RepL (d :: ds) (v :: vs)
end
end

/-- later worlds -/
structure Le (W W' : Wd) : Prop where
  n : W.n ≤ W'.n
  th : ∀ k, k < W.n → W'.th k = W.th k
  G : ∀ a o, W.G a = some o → W'.G a = some o
theorem Le.refl (W : Wd) : Le W W := ⟨Nat.le_refl _, fun _ _ => rfl, fun _ _ h => h⟩
theorem Le.trans {W W1 W2 : Wd} (a : Le W W1) (b : Le W1 W2) : Le W W2 :=
  ⟨Nat.le_trans a.n b.n, fun k h => (b.th k (Nat.lt_of_lt_of_le h a.n)).trans (a.th k h), fun x o h => b.G x o (a.G x o h)⟩

theorem sqL_le {K : PySem.W.Frag} {G G' : Hp} {a : Addr} {xs : List V} (e : ∀ a o, G a = some o → G' a = some o) (h : SqL K G a xs) : SqL K G' a xs := by
  rcases h with (h | ⟨o, h⟩) | h
  · exact .inl (.inl (e _ _ h))
  · exact .inl (.inr ⟨o, e _ _ h⟩)
  · exact .inr h

mutual
theorem Rep.mono {K : PySem.W.Frag} {W W' : Wd} (e : Le W W') : ∀ {d : D} {v : V}, Rep K W d v → Rep K W' d v
  | _, _, .non => .non
  | _, _, .bl b => .bl b
  | _, _, .int i => .int i
  | _, _, .str x => .str x
  | _, _, .lst h r => .lst (e.G _ _ h) (RepL.mono e r)
  | _, _, .tup h r => .tup (e.G _ _ h) (RepL.mono e r)
  | _, _, .dK h r => .dK (h.imp (e.G _ _) fun ⟨o, z⟩ => ⟨o, e.G _ _ z⟩) (RepL.mono e r)
  | _, _, .dT h r => .dT (h.imp (e.G _ _) fun ⟨o, z⟩ => ⟨o, e.G _ _ z⟩) (RepL.mono e r)
  | _, _, .ins h r => .ins (e.G _ _ h) (RepL.mono e r)
  | _, _, .ref (k := k) h => by rw [← e.th k h]; exact .ref (Nat.lt_of_lt_of_le h e.n)
  | _, _, .scr h => .scr (sqL_le e.G h)
  | _, _, .opq v => .opq v
theorem RepL.mono {K : PySem.W.Frag} {W W' : Wd} (e : Le W W') : ∀ {ds : List D} {vs : List V}, RepL K W ds vs → RepL K W' ds vs
  | _, _, .nil => .nil
  | _, _, .cons h t => .cons (Rep.mono e h) (RepL.mono e t)
end

theorem RepL.length {K : PySem.W.Frag} {W : Wd} : ∀ {ds : List D} {vs : List V}, RepL K W ds vs → ds.length = vs.length
  | _, _, .nil => rfl
  | _, _, .cons _ t => by rw [List.length_cons, List.length_cons, RepL.length t]
theorem RepL.get {K : PySem.W.Frag} {W : Wd} : ∀ {ds : List D} {vs : List V} {i : Nat} {v : V}, RepL K W ds vs → vs[i]? = some v → ∃ d, ds[i]? = some d ∧ Rep K W d v
  | _, _, _, _, .nil, e => by simp at e
  | _, _, 0, _, .cons h _, e => by simp at e; subst e; exact ⟨_, rfl, h⟩
  | _, _, i + 1, v, .cons _ t, e => by
    obtain ⟨d, h1, h2⟩ := RepL.get (i := i) (v := v) t (by simpa using e)
    exact ⟨d, by simpa using h1, h2⟩
theorem RepL.get' {K : PySem.W.Frag} {W : Wd} : ∀ {ds : List D} {vs : List V} {i : Nat} {d : D}, RepL K W ds vs → ds[i]? = some d → ∃ v, vs[i]? = some v ∧ Rep K W d v
  | _, _, _, _, .nil, e => by simp at e
  | _, _, 0, _, .cons h _, e => by simp at e; subst e; exact ⟨_, rfl, h⟩
  | _, _, i + 1, d, .cons _ t, e => by
    obtain ⟨v, h1, h2⟩ := RepL.get' (i := i) (d := d) t (by simpa using e)
    exact ⟨v, by simpa using h1, h2⟩
theorem RepL.append {K : PySem.W.Frag} {W : Wd} : ∀ {ds es : List D} {vs us : List V}, RepL K W ds vs → RepL K W es us → RepL K W (ds ++ es) (vs ++ us)
  | _, _, _, _, .nil, s => s
  | _, _, _, _, .cons h t, s => .cons h (RepL.append t s)
theorem RepL.take {K : PySem.W.Frag} {W : Wd} : ∀ {ds : List D} {vs : List V} (n : Nat), RepL K W ds vs → RepL K W (ds.take n) (vs.take n)
  | _, _, 0, _ => .nil
  | _, _, _ + 1, .nil => .nil
  | _, _, n + 1, .cons h t => .cons h (RepL.take n t)
theorem RepL.drop {K : PySem.W.Frag} {W : Wd} : ∀ {ds : List D} {vs : List V} (n : Nat), RepL K W ds vs → RepL K W (ds.drop n) (vs.drop n)
  | _, _, 0, r => r
  | _, _, _ + 1, .nil => .nil
  | _, _, n + 1, .cons _ t => RepL.drop n t
theorem RepL.set {K : PySem.W.Frag} {W : Wd} {d : D} {v : V} (r : Rep K W d v) : ∀ {ds : List D} {vs : List V} (i : Nat), RepL K W ds vs → RepL K W (ds.set i d) (vs.set i v)
  | _, _, _, .nil => .nil
  | _, _, 0, .cons _ t => .cons r t
  | _, _, i + 1, .cons h t => .cons h (RepL.set r i t)
theorem RepL.reverse {K : PySem.W.Frag} {W : Wd} : ∀ {ds : List D} {vs : List V}, RepL K W ds vs → RepL K W ds.reverse vs.reverse
  | _, _, .nil => .nil
  | _, _, .cons h t => by rw [List.reverse_cons, List.reverse_cons]; exact (RepL.reverse t).append (.cons h .nil)
theorem RepL.one {K : PySem.W.Frag} {W : Wd} {d : D} {v : V} (r : Rep K W d v) : RepL K W [d] [v] := .cons r .nil
theorem RepL.ints {K : PySem.W.Frag} {W : Wd} : ∀ (ns : List Int), RepL K W (ns.map D.int) (ns.map V.int)
  | [] => .nil
  | n :: ns => .cons (.int n) (RepL.ints ns)
theorem RepL.strs {K : PySem.W.Frag} {W : Wd} : ∀ (ns : List Str), RepL K W (ns.map D.str) (ns.map V.str)
  | [] => .nil
  | n :: ns => .cons (.str n) (RepL.strs ns)
theorem RepL.ints_of {K : PySem.W.Frag} {W : Wd} : ∀ {ns : List Int} {vs : List V}, RepL K W (ns.map D.int) vs → vs = ns.map V.int
  | [], _, .nil => rfl
  | n :: ns, _, .cons h t => by
    cases h
    rw [RepL.ints_of t]; rfl
theorem RepL.strs_of {K : PySem.W.Frag} {W : Wd} : ∀ {ns : List Str} {vs : List V}, RepL K W (ns.map D.str) vs → vs = ns.map V.str
  | [], _, .nil => rfl
  | n :: ns, _, .cons h t => by
    cases h
    rw [RepL.strs_of t]; rfl

/-- a mutable object as it stands -/
def RepO (K : PySem.W.Frag) (W : Wd) : MO → HO → Prop
  | .lst xs, o => ∃ vs, o = .lst vs ∧ RepL K W xs vs
  | .dK ks, o => ∃ kvs : List (Key × V), o = .dK kvs ∧ kvs.map (·.1) = ks.map (·.1) ∧ RepL K W (ks.map (·.2)) (kvs.map (·.2))
  | .dT ks, o => ∃ kvs : List (List Key × V), o = .dT kvs ∧ kvs.map (·.1) = ks.map (·.1) ∧ RepL K W (ks.map (·.2)) (kvs.map (·.2))
  | .lk od vs ks, o => o = .frz od (.dK vs) ∧ vs.map (·.1) = ks.map (·.1) ∧ RepL K W (ks.map (·.2)) (vs.map (·.2))
  | .lkT od vs ks, o => o = .frz od (.dT vs) ∧ vs.map (·.1) = ks.map (·.1) ∧ RepL K W (ks.map (·.2)) (vs.map (·.2))
  | .ins c fs xs, o => ∃ dx, ∃ fvs : List (Str × V), o = .ins c dx fvs ∧ fvs.map (·.1) = fs ∧ RepL K W xs (fvs.map (·.2))
theorem RepO.mono {K : PySem.W.Frag} {W W' : Wd} (e : Le W W') : ∀ {m : MO} {o : HO}, RepO K W m o → RepO K W' m o
  | .lst _, _, ⟨vs, h, r⟩ => ⟨vs, h, r.mono e⟩
  | .dK _, _, ⟨vs, h, k, r⟩ => ⟨vs, h, k, r.mono e⟩
  | .dT _, _, ⟨vs, h, k, r⟩ => ⟨vs, h, k, r.mono e⟩
  | .lk _ _ _, _, ⟨h, k, r⟩ => ⟨h, k, r.mono e⟩
  | .lkT _ _ _, _, ⟨h, k, r⟩ => ⟨h, k, r.mono e⟩
  | .ins _ _ _, _, ⟨dx, vs, h, k, r⟩ => ⟨dx, vs, h, k, r.mono e⟩

/-- the world holds: the settled part stands, the mutable objects stand, each at its own place -/
structure Held (K : PySem.W.Frag) (W : Wd) (m : Mu) (H : Hp) : Prop where
  G : ∀ a o, W.G a = some o → H a = some o
  ob : ∀ k o, m k = some o → k < W.n ∧ W.G (W.th k) = none ∧ ∃ ho, H (W.th k) = some ho ∧ RepO K W o ho
  inj : ∀ j k, m j ≠ none → m k ≠ none → W.th j = W.th k → j = k

/-- from one moment to a later one: what is tracked and not mutable stays; what is new was new -/
structure Stp (K : PySem.W.Frag) (W : Wd) (m : Mu) (H : Hp) (W' : Wd) (m' : Mu) (H' : Hp) : Prop where
  le : Le W W'
  held : Held K W' m' H'
  fr : ∀ a o, H a = some o → (∀ k, m k ≠ none → a ≠ W.th k) → H' a = some o
  own : ∀ k, m' k ≠ none → (m k ≠ none) ∨ H (W'.th k) = none
  set : ∀ a, W'.G a ≠ none → W.G a ≠ none ∨ H a = none ∨ ∃ k, m k ≠ none ∧ a = W.th k
  keep : ∀ a, H a ≠ none → H' a ≠ none
theorem Stp.refl {K : PySem.W.Frag} {W : Wd} {m : Mu} {H : Hp} (h : Held K W m H) : Stp K W m H W m H :=
  ⟨Le.refl W, h, fun _ _ e _ => e, fun _ e => .inl e, fun _ e => .inl e, fun _ e => e⟩
theorem Stp.trans {K : PySem.W.Frag} {W W1 W2 : Wd} {m m1 m2 : Mu} {H H1 H2 : Hp} (h0 : Held K W m H) (a : Stp K W m H W1 m1 H1) (b : Stp K W1 m1 H1 W2 m2 H2) : Stp K W m H W2 m2 H2 := by
  have lt : ∀ k, m k ≠ none → k < W.n := fun k e => by
    cases q : m k with
    | none => exact absurd q e
    | some o => exact (h0.ob k o q).1
  have lt1 : ∀ k, m1 k ≠ none → k < W1.n := fun k e => by
    cases q : m1 k with
    | none => exact absurd q e
    | some o => exact (a.held.ob k o q).1
  refine ⟨a.le.trans b.le, b.held, fun x o e hk => ?_, fun k e => ?_, fun x e => ?_, fun x e => b.keep x (a.keep x e)⟩
  · refine b.fr x o (a.fr x o e hk) fun k hk1 z => ?_
    rcases a.own k hk1 with q | q
    · exact hk k q (by rw [z, a.le.th k (lt k q)])
    · rw [← z, e] at q; cases q
  · rcases b.own k e with q | q
    · rcases a.own k q with r | r
      · exact .inl r
      · exact .inr (by rw [b.le.th k (lt1 k q)]; exact r)
    · refine .inr ?_
      cases z : H (W2.th k) with
      | none => rfl
      | some o => exact absurd q (a.keep _ (by rw [z]; exact fun y => nomatch y))
  · rcases b.set x e with q | q | ⟨k, hk, q⟩
    · exact a.set x q
    · refine .inr (.inl ?_)
      cases z : H x with
      | none => rfl
      | some o => exact absurd q (a.keep _ (by rw [z]; exact fun y => nomatch y))
    · rcases a.own k hk with r | r
      · exact .inr (.inr ⟨k, r, by rw [q, a.le.th k (lt k r)]⟩)
      · exact .inr (.inl (by rw [q]; exact r))

/-- the names' values -/
def RepE (K : PySem.W.Frag) (W : Wd) (ρ : List (Option D)) (σ : St) : Prop := ρ.length = σ.length ∧ ∀ (i : Nat) (d : D), ρ[i]? = some (some d) → ∃ v, σ[i]? = some (some v) ∧ Rep K W d v
theorem RepE.mono {K : PySem.W.Frag} {W W' : Wd} {ρ : List (Option D)} {σ : St} (e : Le W W') (h : RepE K W ρ σ) : RepE K W' ρ σ :=
  ⟨h.1, fun i d q => let ⟨v, a, b⟩ := h.2 i d q; ⟨v, a, b.mono e⟩⟩
theorem RepE.set {K : PySem.W.Frag} {W : Wd} {ρ : List (Option D)} {σ : St} {d : D} {v : V} (h : RepE K W ρ σ) (r : Rep K W d v) (i : Nat) : RepE K W (ρ.set i (some d)) (σ.set i (some v)) := by
  refine ⟨by rw [List.length_set, List.length_set]; exact h.1, fun j e q => ?_⟩
  by_cases hj : i = j
  · subst hj
    by_cases hl : i < ρ.length
    · rw [List.getElem?_set_self hl] at q
      cases q
      exact ⟨v, List.getElem?_set_self (by rw [← h.1]; exact hl), r⟩
    · rw [List.getElem?_eq_none (by rw [List.length_set]; omega)] at q; cases q
  · rw [List.getElem?_set_ne hj] at q
    obtain ⟨u, a, b⟩ := h.2 j e q
    exact ⟨u, by rw [List.getElem?_set_ne hj]; exact a, b⟩
end DL

/-! Readings over data, and how they lift the hand layer's readings. -/
namespace DL
open PySem L2

abbrev REnv := List (Option D)
abbrev DK := D → Mu → Prop
abbrev TD := REnv → Mu → DK → Prop
abbrev TDT := REnv → Mu → (Bool → Mu → Prop) → Prop
abbrev TDA := REnv → Mu → (List D → Mu → Prop) → Prop
/-- what is wanted behind a statement -/
structure DEn where
  nx : REnv → Mu → Prop
  rt : DK
  bk : REnv → Mu → Prop := fun _ _ => False
  ct : REnv → Mu → Prop := fun _ _ => False
abbrev TDS := DEn → REnv → Mu → Prop
abbrev TDG := D → REnv → Mu → (REnv → Mu → Prop) → Prop
/-- what is walked: the items, and what must stay while it is walked -/
abbrev TDI := REnv → Mu → (List D → (Mu → Prop) → Mu → Prop) → Prop

section
variable (K : PySem.W.Frag)
def LE (te : TE) (t : TD) : Prop := ∀ (σ : St) (H : Hp) (W : Wd) (ρ : REnv) (m : Mu) (F : DK) (Q : VK), Held K W m H → RepE K W ρ σ → t ρ m F →
  (∀ v H' d W' m', Stp K W m H W' m' H' → Rep K W' d v → F d m' → Q v H') → te σ H Q
def LT (te : TT) (t : TDT) : Prop := ∀ (σ : St) (H : Hp) (W : Wd) (ρ : REnv) (m : Mu) (F : Bool → Mu → Prop) (Q : Bool → Hp → Prop), Held K W m H → RepE K W ρ σ → t ρ m F →
  (∀ b H' W' m', Stp K W m H W' m' H' → F b m' → Q b H') → te σ H Q
def LA (te : TA) (t : TDA) : Prop := ∀ (σ : St) (H : Hp) (W : Wd) (ρ : REnv) (m : Mu) (F : List D → Mu → Prop) (Q : List V → Hp → Prop), Held K W m H → RepE K W ρ σ → t ρ m F →
  (∀ vs H' ds W' m', Stp K W m H W' m' H' → RepL K W' ds vs → F ds m' → Q vs H') → te σ H Q
def LS (ts : TS) (t : TDS) : Prop := ∀ (σ : St) (H : Hp) (W : Wd) (ρ : REnv) (m : Mu) (F : DEn) (E : Ends), Held K W m H → RepE K W ρ σ → t F ρ m →
  (∀ σ' H' W' ρ' m', Stp K W m H W' m' H' → RepE K W' ρ' σ' → F.nx ρ' m' → E.nx σ' H') →
  (∀ v H' d W' m', Stp K W m H W' m' H' → Rep K W' d v → F.rt d m' → E.rt v H') →
  (∀ σ' H' W' ρ' m', Stp K W m H W' m' H' → RepE K W' ρ' σ' → F.bk ρ' m' → E.bk σ' H') →
  (∀ σ' H' W' ρ' m', Stp K W m H W' m' H' → RepE K W' ρ' σ' → F.ct ρ' m' → E.ct σ' H') → ts E σ H
def LG (g : TG) (t : TDG) : Prop := ∀ (σ : St) (H : Hp) (W : Wd) (ρ : REnv) (m : Mu) (d : D) (v : V) (F : REnv → Mu → Prop) (Q : St → Hp → Prop), Held K W m H → RepE K W ρ σ → Rep K W d v → t d ρ m F →
  (∀ σ' H' W' ρ' m', Stp K W m H W' m' H' → RepE K W' ρ' σ' → F ρ' m' → Q σ' H') → g v σ H Q
/-- an iterator walks these items -/
def ItOk (J : It) (W : Wd) (ds : List D) (stay : Mu → Prop) : Prop := ∀ (i : Nat) (H1 : Hp) (W1 : Wd) (m1 : Mu), Le W W1 → Held K W1 m1 H1 → stay m1 →
  (ds.length ≤ i → J.stop i H1) ∧ ∀ d, ds[i]? = some d → J.go i H1 ∧ ∀ x H2, J.yld i H1 x H2 → ∃ W2, Stp K W1 m1 H1 W2 m1 H2 ∧ Rep K W2 d x
def LI (wi : TI) (t : TDI) : Prop := ∀ (σ : St) (H : Hp) (W : Wd) (ρ : REnv) (m : Mu) (F : List D → (Mu → Prop) → Mu → Prop) (R : It → Hp → Prop), Held K W m H → RepE K W ρ σ → t ρ m F →
  (∀ J H' W' m' ds stay, Stp K W m H W' m' H' → ItOk K J W' ds stay → F ds stay m' → R J H') → wi σ H R
/-- an operation by values -/
def LR2 (r : R2) (t : D → D → Mu → DK → Prop) : Prop := ∀ (H : Hp) (W : Wd) (m : Mu) (x y : D) (v u : V) (F : DK) (Q : VK), Held K W m H → Rep K W x v → Rep K W y u → t x y m F →
  (∀ v' H' d W' m', Stp K W m H W' m' H' → Rep K W' d v' → F d m' → Q v' H') → r v u H Q
def LR1 (r : V → Hp → VK → Prop) (t : D → Mu → DK → Prop) : Prop := ∀ (H : Hp) (W : Wd) (m : Mu) (x : D) (v : V) (F : DK) (Q : VK), Held K W m H → Rep K W x v → t x m F →
  (∀ v' H' d W' m', Stp K W m H W' m' H' → Rep K W' d v' → F d m' → Q v' H') → r v H Q
def LRA (r : List V → Hp → VK → Prop) (t : List D → Mu → DK → Prop) : Prop := ∀ (H : Hp) (W : Wd) (m : Mu) (xs : List D) (vs : List V) (F : DK) (Q : VK), Held K W m H → RepL K W xs vs → t xs m F →
  (∀ v' H' d W' m', Stp K W m H W' m' H' → Rep K W' d v' → F d m' → Q v' H') → r vs H Q
def LRM (r : V → List V → Hp → VK → Prop) (t : D → List D → Mu → DK → Prop) : Prop := ∀ (H : Hp) (W : Wd) (m : Mu) (x : D) (v : V) (xs : List D) (vs : List V) (F : DK) (Q : VK), Held K W m H → Rep K W x v → RepL K W xs vs → t x xs m F →
  (∀ v' H' d W' m', Stp K W m H W' m' H' → Rep K W' d v' → F d m' → Q v' H') → r v vs H Q
end

structure DE (X : Cx) (e : Expr) (te : TE) (t : TD) : Prop where
  pe : PE X e te
  up : LE X.K te t
structure DT (X : Cx) (e : Expr) (te : TT) (t : TDT) : Prop where
  pt : PT X e te
  up : LT X.K te t
structure DW (X : Cx) (e : Expr) (te : TT) (t : TDT) : Prop where
  pw : PW X e te
  up : LT X.K te t
structure DA (X : Cx) (es : List Expr) (te : TA) (t : TDA) : Prop where
  pa : PA X es te
  up : LA X.K te t
structure DS (X : Cx) (st : Stmt) (ts : TS) (t : TDS) : Prop where
  ps : PS X st ts
  up : LS X.K ts t
structure DSs (X : Cx) (st : List Stmt) (ts : TS) (t : TDS) : Prop where
  ps : PSs X st ts
  up : LS X.K ts t
structure DG (X : Cx) (tg : Expr) (g : TG) (t : TDG) : Prop where
  pg : PG X tg g
  up : LG X.K g t
structure DI (X : Cx) (tg iter : Expr) (wi : TI) (t : TDI) : Prop where
  pi : PI X tg iter wi
  up : LI X.K wi t

/-! ### new objects -/
def settle : MO → D
  | .lst xs => .lst xs
  | .dK ks => .dK (ks.map (·.1)) (ks.map (·.2))
  | .dT ks => .dT (ks.map (·.1)) (ks.map (·.2))
  | .lk _ _ ks => .dK (ks.map (·.1)) (ks.map (·.2))
  | .lkT _ _ ks => .dT (ks.map (·.1)) (ks.map (·.2))
  | .ins c fs xs => .ins c fs xs
/-- a new object: settled at once, or a mutable one under a new number -/
def New (o : MO) (m : Mu) (F : DK) : Prop := F (settle o) m ∨ ∀ k, m k = none → F (.ref k) (mset m k o)
theorem New.lst {xs : List D} {m : Mu} {F : DK} (h : F (.lst xs) m) : New (.lst xs) m F := .inl h
theorem New.mut {o : MO} {m : Mu} {F : DK} (h : ∀ k, m k = none → F (.ref k) (mset m k o)) : New o m F := .inr h

section
variable {K : PySem.W.Frag} {W : Wd} {m : Mu} {H : Hp}
theorem rep_settle {o : MO} {ho : HO} {p : Addr} (r : RepO K W o ho) (h : W.G p = some ho) : Rep K W (settle o) (.ref p) := by
  cases o with
  | lst xs => obtain ⟨vs, rfl, r⟩ := r; exact .lst h r
  | dK ks => obtain ⟨kvs, rfl, e, r⟩ := r; show Rep K W (.dK (ks.map (·.1)) _) _; rw [← e]; exact .dK (.inl h) r
  | dT ks => obtain ⟨kvs, rfl, e, r⟩ := r; show Rep K W (.dT (ks.map (·.1)) _) _; rw [← e]; exact .dT (.inl h) r
  | lk od vs ks => obtain ⟨rfl, e, r⟩ := r; show Rep K W (.dK (ks.map (·.1)) _) _; rw [← e]; exact .dK (.inr ⟨_, h⟩) r
  | lkT od vs ks => obtain ⟨rfl, e, r⟩ := r; show Rep K W (.dT (ks.map (·.1)) _) _; rw [← e]; exact .dT (.inr ⟨_, h⟩) r
  | ins c fs xs => obtain ⟨dx, fvs, rfl, rfl, r⟩ := r; exact .ins h r
/-- the world with one thing more settled -/
def Wd.put (W : Wd) (p : Addr) (o : HO) : Wd := ⟨W.th, W.n, upd W.G p o⟩
def Wd.more (W : Wd) (p : Addr) : Wd := ⟨fun j => if j = W.n then p else W.th j, W.n + 1, W.G⟩
theorem le_put {p : Addr} {o : HO} (h : W.G p = none) : Le W (W.put p o) := ⟨Nat.le_refl _, fun _ _ => rfl, fun a u e => by
  show upd W.G p o a = some u
  rw [upd_ne (ne_of_none e h)]; exact e⟩
theorem le_more {p : Addr} : Le W (W.more p) := ⟨Nat.le_succ _, fun k h => by
  show (if k = W.n then p else W.th k) = W.th k
  rw [if_neg (Nat.ne_of_lt h)], fun _ _ e => e⟩
theorem Held.Gn (h : Held K W m H) {p : Addr} (hp : H p = none) : W.G p = none := by
  cases q : W.G p with
  | none => rfl
  | some o => rw [h.G p o q] at hp; cases hp
theorem Held.lt (h : Held K W m H) {k : Nat} (e : m k ≠ none) : k < W.n := by
  cases q : m k with
  | none => exact absurd q e
  | some o => exact (h.ob k o q).1
theorem Held.tn (h : Held K W m H) {k : Nat} (e : m k ≠ none) : H (W.th k) ≠ none := by
  cases q : m k with
  | none => exact absurd q e
  | some o =>
    obtain ⟨_, _, ho, z, _⟩ := h.ob k o q
    rw [z]; exact fun y => nomatch y
/-- a settled new thing (any kind) -/
theorem step_put (h : Held K W m H) {p : Addr} (hp : H p = none) (o : HO) : Stp K W m H (W.put p o) m (upd H p o) := by
  have hG := h.Gn hp
  refine ⟨le_put hG, ⟨fun a u e => ?_, fun k u e => ?_, h.inj⟩, fun a u e _ => ?_, fun _ e => .inl e, fun a e => ?_, fun a e => ?_⟩
  · by_cases ha : a = p
    · subst ha
      rw [show (W.put a o).G a = some o from upd_same] at e
      rw [upd_same, e]
    · have e2 : W.G a = some u := by rw [← show (W.put p o).G a = W.G a from upd_ne ha]; exact e
      rw [upd_ne ha]; exact h.G a u e2
  · obtain ⟨h1, h2, ho, h3, h4⟩ := h.ob k u e
    have hne : W.th k ≠ p := ne_of_none h3 hp
    refine ⟨h1, ?_, ho, ?_, h4.mono (le_put hG)⟩
    · show upd W.G p o (W.th k) = none
      rw [upd_ne hne]; exact h2
    · show upd H p o (W.th k) = some ho
      rw [upd_ne hne]; exact h3
  · rw [upd_ne (ne_of_none e hp)]; exact e
  · by_cases ha : a = p
    · subst ha; exact .inr (.inl hp)
    · refine .inl ?_
      rw [← show (W.put p o).G a = W.G a from upd_ne ha]; exact e
  · by_cases ha : a = p
    · subst ha; rw [upd_same]; exact fun y => nomatch y
    · rw [upd_ne ha]; exact e
theorem step_more (h : Held K W m H) {p : Addr} (hp : H p = none) {o : MO} {ho : HO} (r : RepO K W o ho) : m W.n = none ∧ Stp K W m H (W.more p) (mset m W.n o) (upd H p ho) ∧ Rep K (W.more p) (.ref W.n) (.ref p) := by
  have hn : m W.n = none := by
    cases q : m W.n with
    | none => rfl
    | some u => exact absurd (h.ob _ _ q).1 (Nat.lt_irrefl _)
  have thn' : (W.more p).th W.n = p := by show (if W.n = W.n then p else W.th W.n) = p; rw [if_pos rfl]
  have tho : ∀ k, k < W.n → (W.more p).th k = W.th k := fun k hk => le_more.th k hk
  refine ⟨hn, ⟨le_more, ⟨fun a u e => ?_, fun k u e => ?_, fun j k hj hk e => ?_⟩, fun a u e _ => ?_, fun k e => ?_, fun a e => .inl e, fun a e => ?_⟩, ?_⟩
  · have e2 : H a = some u := h.G a u e
    rw [upd_ne (ne_of_none e2 hp)]; exact e2
  · by_cases hk : k = W.n
    · subst hk
      rw [mset_same] at e; cases e
      refine ⟨Nat.lt_succ_self _, ?_, ho, ?_, r.mono le_more⟩
      · rw [thn']; exact h.Gn hp
      · rw [thn', upd_same]
    · rw [mset_ne hk] at e
      obtain ⟨h1, h2, ho2, h3, h4⟩ := h.ob k u e
      refine ⟨Nat.lt_succ_of_lt h1, ?_, ho2, ?_, h4.mono le_more⟩
      · rw [tho k h1]; exact h2
      · rw [tho k h1, upd_ne (ne_of_none h3 hp)]; exact h3
  · by_cases ej : j = W.n
    · by_cases ek : k = W.n
      · rw [ej, ek]
      · exfalso
        rw [mset_ne ek] at hk
        rw [ej, thn', tho k (h.lt hk)] at e
        exact h.tn hk (by rw [← e]; exact hp)
    · rw [mset_ne ej] at hj
      by_cases ek : k = W.n
      · exfalso
        rw [ek, thn', tho j (h.lt hj)] at e
        exact h.tn hj (by rw [e]; exact hp)
      · rw [mset_ne ek] at hk
        rw [tho j (h.lt hj), tho k (h.lt hk)] at e
        exact h.inj j k hj hk e
  · rw [upd_ne (ne_of_none e hp)]; exact e
  · by_cases hk : k = W.n
    · subst hk; exact .inr (by rw [thn']; exact hp)
    · rw [mset_ne hk] at e; exact .inl e
  · by_cases ha : a = p
    · subst ha; rw [upd_same]; exact fun y => nomatch y
    · rw [upd_ne ha]; exact e
  · have : Rep K (W.more p) (.ref W.n) (.ref ((W.more p).th W.n)) := .ref (Nat.lt_succ_self _)
    rw [thn'] at this; exact this
/-- a new object that is wanted by New -/
theorem new_ok {o : MO} {ho : HO} {F : DK} {Q : VK} (h : Held K W m H) (r : RepO K W o ho) (hN : New o m F) (hQ : ∀ v H' d W' m', Stp K W m H W' m' H' → Rep K W' d v → F d m' → Q v H') {p : Addr} (hp : H p = none) : Q (.ref p) (upd H p ho) := by
  rcases hN with hN | hN
  · exact hQ _ _ _ _ _ (step_put h hp ho) (rep_settle (r.mono (le_put (h.Gn hp))) (show upd W.G p ho p = some ho from upd_same)) hN
  · obtain ⟨hn, st, rp⟩ := step_more h hp r
    exact hQ _ _ _ _ _ st rp (hN _ hn)
/-- a mutable object is changed -/
theorem step_mut (h : Held K W m H) {k : Nat} {o o' : MO} {ho : HO} (e : m k = some o) (r : RepO K W o' ho) : Stp K W m H W (mset m k o') (upd H (W.th k) ho) := by
  have hk : m k ≠ none := by rw [e]; exact fun y => nomatch y
  obtain ⟨h1, h2, ho1, h3, h4⟩ := h.ob k o e
  refine ⟨Le.refl W, ⟨fun a u q => ?_, fun j u q => ?_, fun i j hi hj q => ?_⟩, fun a u q hq => ?_, fun j q => ?_, fun a q => .inl q, fun a q => ?_⟩
  · have hne : a ≠ W.th k := fun z => by rw [z, h2] at q; cases q
    rw [upd_ne hne]; exact h.G a u q
  · by_cases hj : j = k
    · subst hj
      rw [mset_same] at q; cases q
      exact ⟨h1, h2, ho, upd_same, r⟩
    · rw [mset_ne hj] at q
      obtain ⟨g1, g2, ho2, g3, g4⟩ := h.ob j u q
      refine ⟨g1, g2, ho2, ?_, g4⟩
      rw [upd_ne (fun z => hj (h.inj j k (by rw [q]; exact fun y => nomatch y) hk z))]; exact g3
  · have fix : ∀ x, mset m k o' x ≠ none → m x ≠ none := fun x hx => by
      by_cases hxk : x = k
      · rw [hxk]; exact hk
      · rw [mset_ne hxk] at hx; exact hx
    exact h.inj i j (fix i hi) (fix j hj) q
  · rw [upd_ne (hq k hk)]; exact q
  · by_cases hj : j = k
    · rw [hj]; exact .inl hk
    · rw [mset_ne hj] at q; exact .inl q
  · by_cases ha : a = W.th k
    · rw [ha, upd_same]; exact fun y => nomatch y
    · rw [upd_ne ha]; exact q
/-- mutable objects are forgotten, one of them perhaps settled -/
theorem step_drop (h : Held K W m H) {m' : Mu} (hs : ∀ j o, m' j = some o → m j = some o) : Stp K W m H W m' H := by
  have back : ∀ j, m' j ≠ none → m j ≠ none := fun j e => by
    cases q : m' j with
    | none => exact absurd q e
    | some o => rw [hs j o q]; exact fun y => nomatch y
  exact ⟨Le.refl W, ⟨h.G, fun k o e => h.ob k o (hs k o e), fun i j hi hj e => h.inj i j (back i hi) (back j hj) e⟩, fun _ _ e _ => e, fun k e => .inl (back k e), fun _ e => .inl e, fun _ e => e⟩
theorem step_settle (h : Held K W m H) {m' : Mu} {k : Nat} {o : MO} (e : m k = some o) (hk : m' k = none) (hs : ∀ j o, m' j = some o → m j = some o) : ∃ W', Stp K W m H W' m' H ∧ Rep K W' (settle o) (.ref (W.th k)) := by
  obtain ⟨h1, h2, ho, h3, h4⟩ := h.ob k o e
  have hke : m k ≠ none := by rw [e]; exact fun y => nomatch y
  have back : ∀ j, m' j ≠ none → m j ≠ none := fun j e => by
    cases q : m' j with
    | none => exact absurd q e
    | some o => rw [hs j o q]; exact fun y => nomatch y
  refine ⟨W.put (W.th k) ho, ⟨le_put h2, ⟨fun a u q => ?_, fun j u q => ?_, fun i j hi hj q => h.inj i j (back i hi) (back j hj) q⟩, fun _ _ q _ => q, fun j q => .inl (back j q), fun a q => ?_, fun _ q => q⟩, rep_settle (h4.mono (le_put h2)) (show upd W.G (W.th k) ho (W.th k) = some ho from upd_same)⟩
  · by_cases ha : a = W.th k
    · subst ha
      rw [show (W.put (W.th k) ho).G (W.th k) = some ho from upd_same] at q
      rw [h3, q]
    · have q2 : W.G a = some u := by rw [← show (W.put (W.th k) ho).G a = W.G a from upd_ne ha]; exact q
      exact h.G a u q2
  · obtain ⟨g1, g2, ho2, g3, g4⟩ := h.ob j u (hs j u q)
    have hjk : j ≠ k := fun z => by rw [z, hk] at q; cases q
    have hne : W.th j ≠ W.th k := fun z => hjk (h.inj j k (by rw [hs j u q]; exact fun y => nomatch y) hke z)
    refine ⟨g1, ?_, ho2, g3, g4.mono (le_put h2)⟩
    show upd W.G (W.th k) ho (W.th j) = none
    rw [upd_ne hne]; exact g2
  · by_cases ha : a = W.th k
    · exact .inr (.inr ⟨k, hke, ha⟩)
    · refine .inl ?_
      rw [← show (W.put (W.th k) ho).G a = W.G a from upd_ne ha]; exact q
end

/-! ### sequences as they are read -/
def moLst : Option MO → Option (List D)
  | some (.lst xs) => some xs
  | _ => none
def lstOf (m : Mu) : D → Option (List D)
  | .lst xs => some xs
  | .ref k => moLst (m k)
  | _ => none
def tupOf : D → Option (List D)
  | .tup xs => some xs
  | _ => none
theorem lstOf_ref {m : Mu} {k : Nat} {xs : List D} (h : m k = some (.lst xs)) : lstOf m (.ref k) = some xs := by
  show moLst (m k) = some xs
  rw [h] <;> rfl
section
variable {K : PySem.W.Frag} {W : Wd} {m : Mu} {H : Hp}
theorem lst_at (h : Held K W m H) {d : D} {v : V} {xs : List D} (r : Rep K W d v) (e : lstOf m d = some xs) : ∃ p vs, v = .ref p ∧ H p = some (.lst vs) ∧ RepL K W xs vs := by
  cases r with
  | lst hp r =>
    have e2 := Option.some.inj e
    subst e2
    exact ⟨_, _, rfl, h.G _ _ hp, r⟩
  | ref hk =>
    rename_i k
    have e : moLst (m k) = some xs := e
    cases q : m k with
    | none => rw [q] at e; cases e
    | some o =>
      rw [q] at e
      cases o with
      | lst ys =>
        have e2 := Option.some.inj e
        subst e2
        obtain ⟨_, _, ho, h3, vs, rfl, r⟩ := h.ob k _ q
        exact ⟨_, vs, rfl, h3, r⟩
      | _ => cases e
  | _ => cases e
theorem tup_at (h : Held K W m H) {d : D} {v : V} {xs : List D} (r : Rep K W d v) (e : tupOf d = some xs) : ∃ p vs, v = .ref p ∧ H p = some (.tup vs) ∧ RepL K W xs vs := by
  cases r with
  | tup hp r =>
    have e2 := Option.some.inj e
    subst e2
    exact ⟨_, _, rfl, h.G _ _ hp, r⟩
  | _ => cases e
end
end DL

/-! The rules of the data logic: expressions, tests, statements, loops, comprehensions, calls. -/
namespace DL
open PySem L2

/-! ### names, constants -/
def atE (ρ : REnv) (i : Nat) (F : D → Prop) : Prop := match ρ[i]? with
  | some (some d) => F d
  | _ => False
theorem atE_ex {ρ : REnv} {i : Nat} {F : D → Prop} (h : atE ρ i F) : ∃ d, ρ[i]? = some (some d) ∧ F d := by
  unfold atE at h
  split at h
  · rename_i d e; exact ⟨d, e, h⟩
  · exact h.elim
def onB (d : D) (F : Bool → Prop) : Prop := match d with
  | .bl b => F b
  | _ => False
theorem onB_ex {d : D} {F : Bool → Prop} (h : onB d F) : ∃ b, d = .bl b ∧ F b := by
  cases d with
  | bl b => exact ⟨b, rfl, h⟩
  | _ => exact h.elim
/-- both ways of a test -/
def Br (b : Bool) (A B : Prop) : Prop := (b = true → A) ∧ (b = false → B)
theorem br_t {b : Bool} {A B : Prop} (hb : b = true) (h : A) : Br b A B := ⟨fun _ => h, fun e => (by rw [hb] at e; cases e)⟩
theorem br_f {b : Bool} {A B : Prop} (hb : b = false) (h : B) : Br b A B := ⟨fun e => (by rw [hb] at e; cases e), fun _ => h⟩
def dVar (i : Nat) : TD := fun ρ m F => atE ρ i fun d => F d m
def dC (d : D) : TD := fun _ m F => F d m
section
variable {X : Cx} {pos : Pos}
theorem le_var {K : PySem.W.Frag} (i : Nat) : LE K (tVar i) (dVar i) := fun σ H W ρ m F Q hh re h q => by
  obtain ⟨d, e, f⟩ := atE_ex h
  obtain ⟨v, a, b⟩ := re.2 i d e
  exact ⟨v, a, q v H d W m (.refl hh) b f⟩
theorem le_c {K : PySem.W.Frag} {d : D} {v : V} (r : ∀ W, Rep K W d v) : LE K (tC v) (dC d) := fun σ H W ρ m F Q hh re h q => q v H d W m (.refl hh) (r W) h
theorem de_var (i : Nat) {x : Str} (hN : X.N[i]? = some x := by rfl) (hv : Vis X.env.scope x := by first | exact Or.inl rfl | exact Or.inr (Or.inl rfl) | exact Or.inr (Or.inr rfl)) (hd : (x == ("__debug__" : Str)) = false := by decide)
    (hcd : (x == ("__classdict__" : Str)) = false := by decide) : DE X (.Name x pos) (tVar i) (dVar i) := ⟨pe_var hN hv hd hcd, le_var i⟩
theorem de_int {i : Int} {j : Nat} : DE X (.Constant (.int i) j pos) (tC (.int i)) (dC (.int i)) := ⟨pe_int, le_c fun _ => .int i⟩
theorem de_bl {b : Bool} {j : Nat} : DE X (.Constant (.bool b) j pos) (tC (.bl b)) (dC (.bl b)) := ⟨pe_bl, le_c fun _ => .bl b⟩
theorem de_non {j : Nat} : DE X (.Constant .none j pos) (tC .non) (dC .non) := ⟨pe_non, le_c fun _ => .non⟩
theorem de_str {x : Str} {j : Nat} : DE X (.Constant (.str x) j pos) (tC (.str x)) (dC (.str x)) := ⟨pe_str, le_c fun _ => .str x⟩
/-- a module's name: a text, a class, a def -/
theorem de_glob {x : Str} {d : D} {v : V} {u : Value} (rd : ∀ W, Rep X.K W d v) (hg : Gl X x) (hm : X.mg x = some u) (r : RelV v u) (hd : (x == ("__debug__" : Str)) = false := by decide) : DE X (.Name x pos) (tC v) (dC d) :=
  ⟨pe_glob hg hm r hd, le_c rd⟩
theorem de_bltn {x : Str} {v : V} {u : Value} (hg : Gl X x) (hm : X.mg x = none) (hv : bootBuiltins x = some u) (r : RelV v u) (hn : x ≠ "__name__" := by decide) (hd : (x == ("__debug__" : Str)) = false := by decide) : DE X (.Name x pos) (tC v) (dC (.opq v)) :=
  ⟨pe_bltn hg hm hv r hn hd, le_c fun _ => .opq v⟩
end

/-! ### operators -/
def dOp (r : D → D → Mu → DK → Prop) (ta tb : TD) : TD := fun ρ m F => ta ρ m fun x m1 => tb ρ m1 fun y m2 => r x y m2 F
def dUn (r : D → Mu → DK → Prop) (ta : TD) : TD := fun ρ m F => ta ρ m fun x m1 => r x m1 F
section
variable {X : Cx} {pos : Pos} {a b c : Expr} {ta tb tc : TE} {da db dc : TD}
theorem le_op {K : PySem.W.Frag} {r : R2} {t : D → D → Mu → DK → Prop} (hr : LR2 K r t) (ha : LE K ta da) (hb : LE K tb db) : LE K (tOp r ta tb) (dOp t da db) := fun σ H W ρ m F Q hh re h q =>
  ha σ H W ρ m _ _ hh re h fun v H1 d W1 m1 s1 r1 h1 => hb σ H1 W1 ρ m1 _ _ s1.held (re.mono s1.le) h1 fun u H2 e W2 m2 s2 r2 h2 =>
    hr H2 W2 m2 d e v u F Q s2.held (r1.mono s2.le) r2 h2 fun v' H3 d3 W3 m3 s3 r3 h3 => q v' H3 d3 W3 m3 ((s1.trans hh s2).trans hh s3) r3 h3
theorem le_un {K : PySem.W.Frag} {r : V → Hp → VK → Prop} {t : D → Mu → DK → Prop} (hr : LR1 K r t) (ha : LE K ta da) : LE K (tUn r ta) (dUn t da) := fun σ H W ρ m F Q hh re h q =>
  ha σ H W ρ m _ _ hh re h fun v H1 d W1 m1 s1 r1 h1 => hr H1 W1 m1 d v F Q s1.held r1 h1 fun v' H3 d3 W3 m3 s3 r3 h3 => q v' H3 d3 W3 m3 (s1.trans hh s3) r3 h3
theorem de_op {op : Operator} {r : R2} {t : D → D → Mu → DK → Prop} (ho : OpR X (binaryOp op) r) (hr : LR2 X.K r t) (ha : DE X a ta da) (hb : DE X b tb db) : DE X (.BinOp a op b pos) (tOp r ta tb) (dOp t da db) :=
  ⟨pe_op ho ha.pe hb.pe, le_op hr ha.up hb.up⟩
theorem de_un {op : UnaryOp} {r : V → Hp → VK → Prop} {t : D → Mu → DK → Prop} (ho : UnR X (unaryOp op) r) (hr : LR1 X.K r t) (ha : DE X a ta da) : DE X (.UnaryOp op a pos) (tUn r ta) (dUn t da) :=
  ⟨pe_un ho ha.pe, le_un hr ha.up⟩
theorem de_cmp {op : CmpOp} {r : R2} {t : D → D → Mu → DK → Prop} (ho : OpR X (compareOp op) r) (hr : LR2 X.K r t) (ha : DE X a ta da) (hb : DE X b tb db) (hm : behindInMarks op b = false) : DE X (.Compare a [op] [b] pos) (tOp r ta tb) (dOp t da db) :=
  ⟨pe_cmpR ho ha.pe hb.pe hm, le_op hr ha.up hb.up⟩
theorem de_ix {r : R2} {t : D → D → Mu → DK → Prop} (ho : IxR X r) (hr : LR2 X.K r t) (ha : DE X a ta da) (hb : DE X b tb db) (hs : PlainIx b := by exact fun _ _ => rfl) : DE X (.Subscript a b pos) (tOp r ta tb) (dOp t da db) :=
  ⟨pe_ix ho ha.pe hb.pe hs, le_op hr ha.up hb.up⟩
/-- a value's test -/
def dTest (t : TD) : TDT := fun ρ m F => t ρ m fun d m1 => onB d fun b => F b m1
theorem rep_bl {K : PySem.W.Frag} {W : Wd} {b : Bool} {v : V} (r : Rep K W (.bl b) v) : v = .bl b := by cases r; rfl
theorem rep_int {K : PySem.W.Frag} {W : Wd} {b : Int} {v : V} (r : Rep K W (.int b) v) : v = .int b := by cases r; rfl
theorem rep_str {K : PySem.W.Frag} {W : Wd} {b : Str} {v : V} (r : Rep K W (.str b) v) : v = .str b := by cases r; rfl
theorem rep_non {K : PySem.W.Frag} {W : Wd} {v : V} (r : Rep K W .non v) : v = .non := by cases r; rfl
theorem lt_test {K : PySem.W.Frag} (ha : LE K ta da) : LT K (tTest ta) (dTest da) := fun σ H W ρ m F Q hh re h q =>
  ha σ H W ρ m _ _ hh re h fun v H1 d W1 m1 s1 r1 h1 => by
    obtain ⟨b, e, f⟩ := onB_ex h1
    subst e
    exact ⟨b, rep_bl r1, q b H1 W1 m1 s1 f⟩
theorem dt_cmp {op : CmpOp} {r : R2} {t : D → D → Mu → DK → Prop} (ho : OpR X (compareOp op) r) (hr : LR2 X.K r t) (ha : DE X a ta da) (hb : DE X b tb db) (hm : behindInMarks op b = false) : DT X (.Compare a [op] [b] pos) (tTest (tOp r ta tb)) (dTest (dOp t da db)) :=
  ⟨pt_cmpR ho ha.pe hb.pe hm, lt_test (le_op hr ha.up hb.up)⟩
theorem dt_val (ha : DE X a ta da) (he : ∀ whole, isTrue a X.env whole = (do let v ← whole; standAt a.pos; holding [v] (truthy v)) := by intro _; rfl) : DT X a (tB ta) (dTest da) :=
  ⟨pt_val ha.pe he, lt_test ha.up⟩
variable {sa sb : TT} {ea eb : TDT} {rest : List Expr}
def dAnd (t u : TDT) : TDT := fun ρ m F => t ρ m fun c m1 => Br c (u ρ m1 F) (F false m1)
def dOr (t u : TDT) : TDT := fun ρ m F => t ρ m fun c m1 => Br c (F true m1) (u ρ m1 F)
def dNot (t : TDT) : TDT := fun ρ m F => t ρ m fun c m1 => F (!c) m1
theorem lt_and {K : PySem.W.Frag} (ha : LT K sa ea) (hb : LT K sb eb) : LT K (tAnd sa sb) (dAnd ea eb) := fun σ H W ρ m F Q hh re h q =>
  ha σ H W ρ m _ _ hh re h fun b H1 W1 m1 s1 h1 => by
    cases b with
    | true =>
      show sb σ H1 Q
      exact hb σ H1 W1 ρ m1 _ _ s1.held (re.mono s1.le) (h1.1 rfl) fun b2 H2 W2 m2 s2 h2 => q b2 H2 W2 m2 (s1.trans hh s2) h2
    | false =>
      show Q false H1
      exact q _ _ _ _ s1 (h1.2 rfl)
theorem lt_or {K : PySem.W.Frag} (ha : LT K sa ea) (hb : LT K sb eb) : LT K (tOr sa sb) (dOr ea eb) := fun σ H W ρ m F Q hh re h q =>
  ha σ H W ρ m _ _ hh re h fun b H1 W1 m1 s1 h1 => by
    cases b with
    | false =>
      show sb σ H1 Q
      exact hb σ H1 W1 ρ m1 _ _ s1.held (re.mono s1.le) (h1.2 rfl) fun b2 H2 W2 m2 s2 h2 => q b2 H2 W2 m2 (s1.trans hh s2) h2
    | true =>
      show Q true H1
      exact q _ _ _ _ s1 (h1.1 rfl)
theorem lt_not {K : PySem.W.Frag} (ha : LT K sa ea) : LT K (tNot sa) (dNot ea) := fun σ H W ρ m F Q hh re h q =>
  ha σ H W ρ m _ _ hh re h fun b H1 W1 m1 s1 h1 => q _ _ _ _ s1 h1
theorem dw_and1 (ha : DT X a sa ea) : DW X (.BoolOp .And [a] pos) sa ea := ⟨pw_and1 ha.pt, ha.up⟩
theorem dw_or1 (ha : DT X a sa ea) : DW X (.BoolOp .Or [a] pos) sa ea := ⟨pw_or1 ha.pt, ha.up⟩
theorem dw_and (ha : DT X a sa ea) (hb : DW X (.BoolOp .And (b :: rest) pos) sb eb) : DW X (.BoolOp .And (a :: b :: rest) pos) (tAnd sa sb) (dAnd ea eb) := ⟨pw_and ha.pt hb.pw, lt_and ha.up hb.up⟩
theorem dw_or (ha : DT X a sa ea) (hb : DW X (.BoolOp .Or (b :: rest) pos) sb eb) : DW X (.BoolOp .Or (a :: b :: rest) pos) (tOr sa sb) (dOr ea eb) := ⟨pw_or ha.pt hb.pw, lt_or ha.up hb.up⟩
theorem DW.dt {e : Expr} (h : DW X e sa ea) : DT X e sa ea := ⟨h.pw.pt, h.up⟩
theorem dt_not (ha : DT X a sa ea) : DT X (.UnaryOp .Not a pos) (tNot sa) (dNot ea) := ⟨pt_not ha.pt, lt_not ha.up⟩
/-- as values (all bools) -/
def dAndV (t u : TD) : TD := fun ρ m F => t ρ m fun x m1 => onB x fun c => Br c (u ρ m1 F) (F (.bl false) m1)
def dOrV (t u : TD) : TD := fun ρ m F => t ρ m fun x m1 => onB x fun c => Br c (F (.bl true) m1) (u ρ m1 F)
def dNotV (t : TD) : TD := fun ρ m F => t ρ m fun x m1 => onB x fun c => F (.bl (!c)) m1
theorem de_one {op : PySem.BoolOp} (ha : DE X a ta da) : DE X (.BoolOp op [a] pos) ta da := ⟨pe_one ha.pe, ha.up⟩
theorem de_and (ha : DE X a ta da) (hb : DE X (.BoolOp .And (b :: rest) pos) tb db) : DE X (.BoolOp .And (a :: b :: rest) pos) (tAndV ta tb) (dAndV da db) := ⟨pe_and ha.pe hb.pe, fun σ H W ρ m F Q hh re h q =>
  ha.up σ H W ρ m _ _ hh re h fun v H1 d W1 m1 s1 r1 h0 => by
    obtain ⟨c, e, h1⟩ := onB_ex h0
    subst e
    refine ⟨c, rep_bl r1, ?_⟩
    cases c with
    | true =>
      show tb σ H1 Q
      exact hb.up σ H1 W1 ρ m1 _ _ s1.held (re.mono s1.le) (h1.1 rfl) fun v2 H2 d2 W2 m2 s2 r2 h2 => q v2 H2 d2 W2 m2 (s1.trans hh s2) r2 h2
    | false =>
      show Q (.bl false) H1
      exact q _ _ _ _ _ s1 (.bl false) (h1.2 rfl)⟩
theorem de_or (ha : DE X a ta da) (hb : DE X (.BoolOp .Or (b :: rest) pos) tb db) : DE X (.BoolOp .Or (a :: b :: rest) pos) (tOrV ta tb) (dOrV da db) := ⟨pe_or ha.pe hb.pe, fun σ H W ρ m F Q hh re h q =>
  ha.up σ H W ρ m _ _ hh re h fun v H1 d W1 m1 s1 r1 h0 => by
    obtain ⟨c, e, h1⟩ := onB_ex h0
    subst e
    refine ⟨c, rep_bl r1, ?_⟩
    cases c with
    | false =>
      show tb σ H1 Q
      exact hb.up σ H1 W1 ρ m1 _ _ s1.held (re.mono s1.le) (h1.2 rfl) fun v2 H2 d2 W2 m2 s2 r2 h2 => q v2 H2 d2 W2 m2 (s1.trans hh s2) r2 h2
    | true =>
      show Q (.bl true) H1
      exact q _ _ _ _ _ s1 (.bl true) (h1.1 rfl)⟩
theorem de_not (ha : DE X a ta da) : DE X (.UnaryOp .Not a pos) (tNotV ta) (dNotV da) := ⟨pe_not ha.pe, fun σ H W ρ m F Q hh re h q =>
  ha.up σ H W ρ m _ _ hh re h fun v H1 d W1 m1 s1 r1 h0 => by
    obtain ⟨c, e, h1⟩ := onB_ex h0
    subst e
    exact ⟨c, rep_bl r1, q _ _ _ _ _ s1 (.bl _) h1⟩⟩
def dIf (t : TDT) (ta tb : TD) : TD := fun ρ m F => t ρ m fun c m1 => Br c (ta ρ m1 F) (tb ρ m1 F)
theorem de_ifExp (hc : DT X c sa ea) (ha : DE X a ta da) (hb : DE X b tb db) : DE X (.IfExp c a b pos) (tIf sa ta tb) (dIf ea da db) := ⟨pe_ifExp hc.pt ha.pe hb.pe, fun σ H W ρ m F Q hh re h q =>
  hc.up σ H W ρ m _ _ hh re h fun k H1 W1 m1 s1 h1 => by
    cases k with
    | true =>
      show ta σ H1 Q
      exact ha.up σ H1 W1 ρ m1 _ _ s1.held (re.mono s1.le) (h1.1 rfl) fun v2 H2 d2 W2 m2 s2 r2 h2 => q v2 H2 d2 W2 m2 (s1.trans hh s2) r2 h2
    | false =>
      show tb σ H1 Q
      exact hb.up σ H1 W1 ρ m1 _ _ s1.held (re.mono s1.le) (h1.2 rfl) fun v2 H2 d2 W2 m2 s2 r2 h2 => q v2 H2 d2 W2 m2 (s1.trans hh s2) r2 h2⟩
/-- a < b < c -/
def dChain (r r' : D → D → Mu → DK → Prop) (ta tb tc : TD) : TD := fun ρ m F => ta ρ m fun x m1 => tb ρ m1 fun y m2 => r x y m2 fun z m3 => onB z fun k => Br k (tc ρ m3 fun w m4 => r' y w m4 F) (F (.bl false) m3)
theorem le_chain {K : PySem.W.Frag} {r r' : R2} {t t' : D → D → Mu → DK → Prop} (hr : LR2 K r t) (hr' : LR2 K r' t') (ha : LE K ta da) (hb : LE K tb db) (hc : LE K tc dc) : LE K (tChain r r' ta tb tc) (dChain t t' da db dc) := fun σ H W ρ m F Q hh re h q =>
  ha σ H W ρ m _ _ hh re h fun v H1 d W1 m1 s1 r1 h1 => hb σ H1 W1 ρ m1 _ _ s1.held (re.mono s1.le) h1 fun u H2 e W2 m2 s2 r2 h2 =>
    hr H2 W2 m2 d e v u _ _ s2.held (r1.mono s2.le) r2 h2 fun z H3 d3 W3 m3 s3 r3 h0 => by
      obtain ⟨k, ek, h3⟩ := onB_ex h0
      subst ek
      refine ⟨k, rep_bl r3, ?_⟩
      have s13 := (s1.trans hh s2).trans hh s3
      cases k with
      | false =>
        show Q (.bl false) H3
        exact q _ _ _ _ _ s13 (.bl false) (h3.2 rfl)
      | true =>
        show tc σ H3 _
        exact hc σ H3 W3 ρ m3 _ _ s3.held (re.mono s13.le) (h3.1 rfl) fun w' H4 d4 W4 m4 s4 r4 h4 => hr' H4 W4 m4 e d4 u w' F Q s4.held (r2.mono (s3.le.trans s4.le)) r4 h4 fun v5 H5 d5 W5 m5 s5 r5 h5 => q _ _ _ _ _ ((s13.trans hh s4).trans hh s5) r5 h5
theorem de_chain {op op' : CmpOp} {r r' : R2} {t t' : D → D → Mu → DK → Prop} (ho : OpR X (compareOp op) r) (hr : LR2 X.K r t) (ho' : OpR X (compareOp op') r') (hr' : LR2 X.K r' t') (ha : DE X a ta da) (hb : DE X b tb db) (hc : DE X c tc dc)
    (hm : lastMarks [op, op'] [b, c] = false := by with_unfolding_all rfl) : DE X (.Compare a [op, op'] [b, c] pos) (tChain r r' ta tb tc) (dChain t t' da db dc) := ⟨pe_chain ho ho' ha.pe hb.pe hc.pe hm, le_chain hr hr' ha.up hb.up hc.up⟩
theorem dt_chain {op op' : CmpOp} {r r' : R2} {t t' : D → D → Mu → DK → Prop} (ho : OpR X (compareOp op) r) (hr : LR2 X.K r t) (ho' : OpR X (compareOp op') r') (hr' : LR2 X.K r' t') (ha : DE X a ta da) (hb : DE X b tb db) (hc : DE X c tc dc)
    (hm : lastMarks [op, op'] [b, c] = false := by with_unfolding_all rfl) : DT X (.Compare a [op, op'] [b, c] pos) (tTest (tChain r r' ta tb tc)) (dTest (dChain t t' da db dc)) := ⟨pt_chain ho ho' ha.pe hb.pe hc.pe hm, lt_test (le_chain hr hr' ha.up hb.up hc.up)⟩
end

/-! ### arguments, displays -/
def dNil : TDA := fun _ m F => F [] m
def dCons (t : TD) (u : TDA) : TDA := fun ρ m F => t ρ m fun d m1 => u ρ m1 fun ds m2 => F (d :: ds) m2
section
variable {X : Cx} {pos : Pos} {e : Expr} {es : List Expr} {te : TE} {de : TD} {ts : TA} {ds : TDA}
theorem da_nil : DA X [] tNil dNil := ⟨pa_nil, fun σ H W ρ m F Q hh re h q => q [] H [] W m (.refl hh) .nil h⟩
theorem da_cons (ha : DE X e te de) (hr : DA X es ts ds) (hs : starEach (e :: es) X.env = (false, eval e X.env) :: starEach es X.env := by rfl) : DA X (e :: es) (tCons te ts) (dCons de ds) := ⟨pa_cons ha.pe hr.pa hs, fun σ H W ρ m F Q hh re h q =>
  ha.up σ H W ρ m _ _ hh re h fun v H1 d W1 m1 s1 r1 h1 => hr.up σ H1 W1 ρ m1 _ _ s1.held (re.mono s1.le) h1 fun vs H2 xs W2 m2 s2 r2 h2 => q _ _ _ _ _ (s1.trans hh s2) (.cons (r1.mono s2.le) r2) h2⟩
def dLst (t : TDA) : TD := fun ρ m F => t ρ m fun ds m1 => ds.length ≤ sizeLine ∧ New (.lst ds) m1 F
def dTup (t : TDA) : TD := fun ρ m F => t ρ m fun ds m1 => ds.length ≤ sizeLine ∧ F (.tup ds) m1
theorem de_lst (h : DA X es ts ds) : DE X (.List es pos) (tLst ts) (dLst ds) := ⟨pe_lst h.pa, fun σ H W ρ m F Q hh re hd q =>
  h.up σ H W ρ m _ _ hh re hd fun vs H1 xs W1 m1 s1 r1 ⟨hl, hN⟩ => ⟨by rw [← r1.length]; exact hl, fun p hp => new_ok s1.held (o := .lst xs) (ho := .lst vs) ⟨vs, rfl, r1⟩ hN (fun v H' d W' m' s2 r2 f => q v H' d W' m' (s1.trans hh s2) r2 f) hp⟩⟩
theorem tup_new {K : PySem.W.Frag} {W : Wd} {m : Mu} {H : Hp} {p : Addr} {xs : List D} {vs : List V} (h : Held K W m H) (r : RepL K W xs vs) (hp : H p = none) : Stp K W m H (W.put p (.tup vs)) m (upd H p (.tup vs)) ∧ Rep K (W.put p (.tup vs)) (.tup xs) (.ref p) :=
  ⟨step_put h hp _, .tup (show upd W.G p (.tup vs) p = some (.tup vs) from upd_same) (r.mono (le_put (h.Gn hp)))⟩
theorem de_tup {k : Nat} (h : DA X es ts ds) : DE X (.Tuple es k pos) (tTup ts) (dTup ds) := ⟨pe_tup h.pa, fun σ H W ρ m F Q hh re hd q =>
  h.up σ H W ρ m _ _ hh re hd fun vs H1 xs W1 m1 s1 r1 ⟨hl, hN⟩ => ⟨by rw [← r1.length]; exact hl, fun p hp => q _ _ _ _ _ (s1.trans hh (tup_new s1.held r1 hp).1) (tup_new s1.held r1 hp).2 hN⟩⟩
end

/-! ### built-ins by values -/
def dCB (r : List D → Mu → DK → Prop) (t : TDA) : TD := fun ρ m F => t ρ m fun ds m1 => r ds m1 F
def dBM (r : D → List D → Mu → DK → Prop) (ty : D → Mu → Prop) (t : TD) (ta : TDA) : TD := fun ρ m F => t ρ m fun d m1 => ty d m1 ∧ ta ρ m1 fun ds m2 => r d ds m2 F
section
variable {X : Cx} {pos p1 : Pos} {e : Expr} {es : List Expr} {te : TE} {de : TD} {ts : TA} {ds : TDA} {x : Str} {id : String}
theorem le_cb {K : PySem.W.Frag} {r : List V → Hp → VK → Prop} {t : List D → Mu → DK → Prop} (hr : LRA K r t) (h : LA K ts ds) : LE K (tCB r ts) (dCB t ds) := fun σ H W ρ m F Q hh re hd q =>
  h σ H W ρ m _ _ hh re hd fun vs H1 xs W1 m1 s1 r1 h1 => hr H1 W1 m1 xs vs F Q s1.held r1 h1 fun v H2 d W2 m2 s2 r2 f => q v H2 d W2 m2 (s1.trans hh s2) r2 f
theorem de_callB {r : List V → Hp → VK → Prop} {t : List D → Mu → DK → Prop} (hc : CallR X (.builtin id) r) (hr : LRA X.K r t) (hg : Gl X x) (hm : X.mg x = none) (hv : bootBuiltins x = some (.builtin id)) (ha : DA X (e :: es) ts ds)
    (hn : x ≠ "__name__" := by decide) (hdb : (x == ("__debug__" : Str)) = false := by decide) (hs : starEach (e :: es) X.env = (false, eval e X.env) :: starEach es X.env := by rfl) (hpl : (backTo pos (starEach es X.env)).any (·.1) = false := by rfl) :
    DE X (.Call (.Name x p1) (e :: es) [] pos) (tCB r ts) (dCB t ds) := ⟨pe_callB hc hg hm hv ha.pa hn hdb hs hpl, le_cb hr ha.up⟩
theorem de_callTy {r : List V → Hp → VK → Prop} {t : List D → Mu → DK → Prop} (hc : CallR X (.type id) r) (hr : LRA X.K r t) (hg : Gl X x) (hm : X.mg x = none) (hv : bootBuiltins x = some (.type id)) (ha : DA X (e :: es) ts ds)
    (hn : x ≠ "__name__" := by decide) (hdb : (x == ("__debug__" : Str)) = false := by decide) (hs : starEach (e :: es) X.env = (false, eval e X.env) :: starEach es X.env := by rfl) (hpl : (backTo pos (starEach es X.env)).any (·.1) = false := by rfl) :
    DE X (.Call (.Name x p1) (e :: es) [] pos) (tCB r ts) (dCB t ds) := ⟨pe_callTy hc hg hm hv ha.pa hn hdb hs hpl, le_cb hr ha.up⟩
end
end DL

/-! Statements, loops, comprehensions, calls of the data logic. -/
namespace DL
open PySem L2

/-! ### statements -/
def dNext : TDS := fun F ρ m => F.nx ρ m
def dSeq (t u : TDS) : TDS := fun F ρ m => t { F with nx := u F } ρ m
def dDrop (t : TD) : TDS := fun F ρ m => t ρ m fun _ m1 => F.nx ρ m1
def dRet (t : TD) : TDS := fun F ρ m => t ρ m F.rt
def dRetN : TDS := fun F _ m => F.rt .non m
def dIfS (c : TDT) (t u : TDS) : TDS := fun F ρ m => c ρ m fun b m1 => Br b (t F ρ m1) (u F ρ m1)
def dNever : TDS := fun _ _ _ => False
def dBrk : TDS := fun F ρ m => F.bk ρ m
def dCnt : TDS := fun F ρ m => F.ct ρ m
def gN (i : Nat) : TDG := fun d ρ m F => F (ρ.set i (some d)) m
def dAsg (t : TD) (g : TDG) : TDS := fun F ρ m => t ρ m fun d m1 => g d ρ m1 F.nx
section
variable {X : Cx} {pos : Pos} {st : Stmt} {rest : List Stmt} {t u : TS} {dt du : TDS} {e : Expr} {te : TE} {de : TD}
theorem dss_nil : DSs X [] tNext dNext := ⟨pss_nil, fun σ H W ρ m F E hh re h n r b c => n σ H W ρ m (.refl hh) re h⟩
theorem ls_seq {K : PySem.W.Frag} (h1 : LS K t dt) (h2 : LS K u du) : LS K (tSeq t u) (dSeq dt du) := fun σ H W ρ m F E hh re h n r b c =>
  h1 σ H W ρ m { F with nx := du F } { E with nx := u E } hh re h
    (fun σ' H' W' ρ' m' s re' h' => h2 σ' H' W' ρ' m' F E s.held re' h' (fun σ2 H2 W2 ρ2 m2 s2 re2 f => n σ2 H2 W2 ρ2 m2 (s.trans hh s2) re2 f) (fun v H2 d W2 m2 s2 r2 f => r v H2 d W2 m2 (s.trans hh s2) r2 f)
      (fun σ2 H2 W2 ρ2 m2 s2 re2 f => b σ2 H2 W2 ρ2 m2 (s.trans hh s2) re2 f) (fun σ2 H2 W2 ρ2 m2 s2 re2 f => c σ2 H2 W2 ρ2 m2 (s.trans hh s2) re2 f)) r b c
theorem dss_cons (h1 : DS X st t dt) (h2 : DSs X rest u du) : DSs X (st :: rest) (tSeq t u) (dSeq dt du) := ⟨pss_cons h1.ps h2.ps, ls_seq h1.up h2.up⟩
theorem dss_one (h1 : DS X st t dt) : DSs X [st] t dt := ⟨pss_one h1.ps, h1.up⟩
theorem ds_pass : DS X (.Pass pos) tNext dNext := ⟨ps_pass, fun σ H W ρ m F E hh re h n r b c => n σ H W ρ m (.refl hh) re h⟩
theorem ds_brk : DS X (.Break pos) tBreak dBrk := ⟨ps_break, fun σ H W ρ m F E hh re h n r b c => b σ H W ρ m (.refl hh) re h⟩
theorem ds_cnt : DS X (.Continue pos) tCont dCnt := ⟨ps_continue, fun σ H W ρ m F E hh re h n r b c => c σ H W ρ m (.refl hh) re h⟩
theorem ds_expr (he : DE X e te de) (hs : swapsWith e none pos.line X.env = pure false := by rfl) : DS X (.Expr e pos) (tDrop te) (dDrop de) := ⟨ps_expr he.pe hs, fun σ H W ρ m F E hh re h n r b c =>
  he.up σ H W ρ m _ _ hh re h fun v H1 d W1 m1 s1 r1 h1 => n σ H1 W1 ρ m1 s1 (re.mono s1.le) h1⟩
theorem ds_ret (he : DE X e te de) : DS X (.Return (some e) pos) (tRet te) (dRet de) := ⟨ps_ret he.pe, fun σ H W ρ m F E hh re h n r b c =>
  he.up σ H W ρ m _ _ hh re h fun v H1 d W1 m1 s1 r1 h1 => r v H1 d W1 m1 s1 r1 h1⟩
theorem ds_retN : DS X (.Return none pos) tRetN dRetN := ⟨ps_retN, fun σ H W ρ m F E hh re h n r b c => r .non H .non W m (.refl hh) .non h⟩
theorem ds_if {c : Expr} {a b : List Stmt} {tc : TT} {dc : TDT} (hc : DT X c tc dc) (ha : DSs X a t dt) (hb : DSs X b u du) : DS X (.If c a b pos) (tIfS tc t u) (dIfS dc dt du) := ⟨ps_if hc.pt ha.ps hb.ps, fun σ H W ρ m F E hh re h n r b c =>
  hc.up σ H W ρ m _ _ hh re h fun k H1 W1 m1 s1 h1 => by
    have go : ∀ {tt : TS} {dd : TDS}, LS X.K tt dd → dd F ρ m1 → tt E σ H1 := fun {tt dd} hl hd => hl σ H1 W1 ρ m1 F E s1.held (re.mono s1.le) hd (fun σ2 H2 W2 ρ2 m2 s2 re2 f => n σ2 H2 W2 ρ2 m2 (s1.trans hh s2) re2 f) (fun v H2 d W2 m2 s2 r2 f => r v H2 d W2 m2 (s1.trans hh s2) r2 f)
      (fun σ2 H2 W2 ρ2 m2 s2 re2 f => b σ2 H2 W2 ρ2 m2 (s1.trans hh s2) re2 f) (fun σ2 H2 W2 ρ2 m2 s2 re2 f => c σ2 H2 W2 ρ2 m2 (s1.trans hh s2) re2 f)
    cases k with
    | true =>
      show t E σ H1
      exact go ha.up (h1.1 rfl)
    | false =>
      show u E σ H1
      exact go hb.up (h1.2 rfl)⟩
theorem ds_never : DS X st tNever dNever := ⟨ps_never, fun σ H W ρ m F E hh re h n r b c => h⟩
theorem dss_never {sts : List Stmt} : DSs X sts tNever dNever := ⟨pss_never, fun σ H W ρ m F E hh re h n r b c => h⟩
theorem lg_name {K : PySem.W.Frag} (i : Nat) : LG K (gName i) (gN i) := fun σ H W ρ m d v F Q hh re r h q => q _ _ _ _ _ (.refl hh) (re.set r i) h
theorem dg_name {i : Nat} {x : Str} (hN : X.N.Nodup) (hi : X.N[i]? = some x) (hx : Loc X.env.scope x) (hf : X.fn x = true ∨ X.env.scope.names.lookup x = some .local := by first | exact .inl rfl | exact .inr rfl | assumption) : DG X (.Name x pos) (gName i) (gN i) :=
  ⟨pg_name hN hi hx hf, lg_name i⟩
theorem ls_asg {K : PySem.W.Frag} {g : TG} {dg : TDG} (he : LE K te de) (hg : LG K g dg) : LS K (tAsg te g) (dAsg de dg) := fun σ H W ρ m F E hh re h n r b c =>
  he σ H W ρ m _ _ hh re h fun v H1 d W1 m1 s1 r1 h1 => hg σ H1 W1 ρ m1 d v _ _ s1.held (re.mono s1.le) r1 h1 fun σ2 H2 W2 ρ2 m2 s2 re2 f => n σ2 H2 W2 ρ2 m2 (s1.trans hh s2) re2 f
theorem ds_asg {tg : Expr} {g : TG} {dg : TDG} (he : DE X e te de) (hg : DG X tg g dg) (hs : swapsWithSole [tg] e pos.line X.env = pure false := by rfl) (hw : swappedStores [tg] e X.env = pure none := by rfl)
    (h1 : (assignEach [tg] X.env).map (·.2) = [assign tg X.env] := by rfl) : DS X (.Assign [tg] e pos) (tAsg te g) (dAsg de dg) := ⟨ps_asg he.pe hg.pg hs hw h1, ls_asg he.up hg.up⟩
/-- tuples of targets -/
abbrev TDGs := List D → REnv → Mu → (REnv → Mu → Prop) → Prop
def LGs (K : PySem.W.Frag) (g : TGs) (t : TDGs) : Prop := ∀ (σ : St) (H : Hp) (W : Wd) (ρ : REnv) (m : Mu) (ds : List D) (vs : List V) (F : REnv → Mu → Prop) (Q : St → Hp → Prop), Held K W m H → RepE K W ρ σ → RepL K W ds vs → t ds ρ m F →
  (∀ σ' H' W' ρ' m', Stp K W m H W' m' H' → RepE K W' ρ' σ' → F ρ' m' → Q σ' H') → g vs σ H Q
structure DGs (X : Cx) (ts : List Expr) (g : TGs) (t : TDGs) : Prop where
  pg : PGs X ts g
  up : LGs X.K g t
def gNil' : TDGs := fun ds ρ m F => match ds with
  | [] => F ρ m
  | _ => False
def gCons' (t : TDG) (u : TDGs) : TDGs := fun ds ρ m F => match ds with
  | d :: r => t d ρ m fun ρ' m' => u r ρ' m' F
  | [] => False
def gTup' (n : Nat) (t : TDGs) : TDG := fun d ρ m F => match d with
  | .tup xs => xs.length = n ∧ t xs ρ m F
  | _ => False
theorem dgs_nil : DGs X [] gNil gNil' := ⟨pgs_nil, fun σ H W ρ m ds vs F Q hh re r h q => by
  cases r with
  | nil => exact ⟨rfl, q _ _ _ _ _ (.refl hh) re h⟩
  | cons _ _ => exact h.elim⟩
theorem dgs_cons {es : List Expr} {g : TG} {dg : TDG} {gs : TGs} {dgs : TDGs} (h1 : DG X e g dg) (h2 : DGs X es gs dgs) (hs : (assignEach (e :: es) X.env).map (·.2) = assign e X.env :: (assignEach es X.env).map (·.2) := by rfl) : DGs X (e :: es) (gCons g gs) (gCons' dg dgs) :=
  ⟨pgs_cons h1.pg h2.pg hs, fun σ H W ρ m ds vs F Q hh re r h q => by
    cases r with
    | nil => exact h.elim
    | cons r1 rr =>
      exact ⟨_, _, rfl, h1.up σ H W ρ m _ _ _ _ hh re r1 h fun σ2 H2 W2 ρ2 m2 s2 re2 f => h2.up σ2 H2 W2 ρ2 m2 _ _ F Q s2.held re2 (rr.mono s2.le) f fun σ3 H3 W3 ρ3 m3 s3 re3 f3 => q _ _ _ _ _ (s2.trans hh s3) re3 f3⟩⟩
theorem dg_tup {es : List Expr} {k : Nat} {gs : TGs} {dgs : TDGs} {n : Nat} (hc : X.calm = true) (h : DGs X es gs dgs) (hn : (assignEach es X.env).length = n := by rfl) (hst : (assignEach es X.env).findIdx? (·.1) = none := by rfl) : DG X (.Tuple es k pos) (gTup X.K n gs) (gTup' n dgs) :=
  ⟨pg_tup hc h.pg hn hst, fun σ H W ρ m d v F Q hh re r hd q => by
    cases d with
    | tup xs => ?_
    | _ => exact hd.elim
    obtain ⟨hl, hd⟩ := hd
    obtain ⟨p, vs, rfl, hp, rl⟩ := tup_at hh r rfl
    exact ⟨p, vs, rfl, SqT.of hp, by rw [← rl.length]; exact hl, h.up σ H W ρ m xs vs F Q hh re rl hd q⟩⟩
end

/-! ### what is walked -/
section
variable {X : Cx} {tg e : Expr} {te : TE} {de : TD}
theorem di_or {w1 w2 : TI} {t1 t2 : TDI} (h1 : DI X tg e w1 t1) (h2 : DI X tg e w2 t2) : DI X tg e (fun σ H R => w1 σ H R ∨ w2 σ H R) (fun ρ m F => t1 ρ m F ∨ t2 ρ m F) :=
  ⟨⟨fun pins s σ H R I h => h.elim (fun h => h1.pi.run pins s σ H R I h) fun h => h2.pi.run pins s σ H R I h⟩, fun σ H W ρ m F R hh re h q => h.elim (fun h => .inl (h1.up σ H W ρ m F R hh re h q)) fun h => .inr (h2.up σ H W ρ m F R hh re h q)⟩
/-- a list or a tuple -/
def iListA (K : PySem.W.Frag) (tl : TE) : TI := fun σ H R => tl σ H fun x H1 => (∃ a, x = .ref a ∧ (∃ xs, SqL K H1 a xs) ∧ R (Itl K a) H1) ∨ ∃ a, x = .ref a ∧ (∃ xs, SqT K H1 a xs) ∧ R (Itt K a) H1
theorem pi_listA {l : Expr} {tl : TE} (hl : PE X l tl) : PI X tg l (iListA X.K tl) := by
  refine ⟨fun pins s σ H R I h => ?_⟩
  refine thn (hl.run pins s σ H _ I h) fun v s1 ⟨x, H1, I1, r1, q1⟩ => ?_
  rcases q1 with ⟨a, e, ⟨xs, hq⟩, q⟩ | ⟨a, e, ⟨xs, hq⟩, q⟩
  · subst e
    cases r1
    obtain ⟨its, rv, p, hz⟩ := I1.list hq
    refine wpAny_pyIter_list p.isList ?_
    refine ⟨s1.heap.objs.size, [s1.heap.objs.size], _, _, H1, rfl, I1.kept (t' := s1.toks) fun b o e => Heap.get?_push_of_some _ e, turn_list a _, ⟨_, Heap.get?_push_size _ rfl, rfl, rfl⟩, fun b hb => ?_, q⟩
    have e : b = s1.heap.objs.size := by simpa using hb
    subst e
    exact I1.fpOk (Nat.le_refl _) (I1.hok.fresh (Nat.le_refl _))
  · subst e
    cases r1
    obtain ⟨its, rv, p, hz⟩ := I1.tuple hq
    refine wpAny_pyIter_tuple (show s1.heap.IsTuple a its.toArray from p) ?_
    refine ⟨s1.heap.objs.size, [s1.heap.objs.size], _, _, H1, rfl, I1.kept (t' := s1.toks) fun b o e => Heap.get?_push_of_some _ e, turn_tuple a _, ⟨_, Heap.get?_push_size _ rfl, rfl, rfl⟩, fun b hb => ?_, q⟩
    have e : b = s1.heap.objs.size := by simpa using hb
    subst e
    exact I1.fpOk (Nat.le_refl _) (I1.hok.fresh (Nat.le_refl _))
/-- a list (settled, or a mutable one that stays), or a tuple -/
def iL (t : TD) : TDI := fun ρ m F => t ρ m fun d m1 => match d with
  | .lst ds => F ds (fun _ => True) m1
  | .tup ds => F ds (fun _ => True) m1
  | .ref k => ∃ ds, m1 k = some (.lst ds) ∧ F ds (fun m2 => m2 k = some (.lst ds)) m1
  | _ => False
def iT (t : TD) : TDI := fun ρ m F => t ρ m fun d m1 => match d with
  | .tup ds => F ds (fun _ => True) m1
  | _ => False
theorem di_list (h : DE X e te de) : DI X tg e (iListA X.K te) (iL de) := ⟨pi_listA h.pe, fun σ H W ρ m F R hh re hd q =>
  h.up σ H W ρ m _ _ hh re hd fun v H1 d W1 m1 s1 r1 h0 => by
    have go : (∃ (ds : List D) (stay : Mu → Prop), lstOf m1 d = some ds ∧ (∀ m2, stay m2 → lstOf m2 d = some ds) ∧ F ds stay m1) ∨ ∃ ds, d = .tup ds ∧ F ds (fun _ => True) m1 := by
      cases d with
      | lst ds => exact .inl ⟨ds, fun _ => True, rfl, fun _ _ => rfl, h0⟩
      | tup ds => exact .inr ⟨ds, rfl, h0⟩
      | ref k =>
        obtain ⟨ds, e, f⟩ := h0
        exact .inl ⟨ds, fun m2 => m2 k = some (.lst ds), lstOf_ref e, fun _ e => lstOf_ref e, f⟩
      | _ => exact h0.elim
    rcases go with ⟨ds, stay, e1, est, f⟩ | ⟨ds, e1, f⟩
    · obtain ⟨p, vs, rfl, hp, rl⟩ := lst_at s1.held r1 e1
      refine .inl ⟨p, rfl, ⟨vs, SqL.of hp⟩, q (Itl X.K p) H1 W1 m1 ds stay s1 (fun i H2 W2 m2 hle hh2 st0 => ?_) f⟩
      have st := est m2 st0
      obtain ⟨p2, vs2, ep, hp2, rl2⟩ := lst_at hh2 (r1.mono hle) st
      cases ep
      refine ⟨fun hi => ⟨vs2, SqL.of hp2, by rw [← rl2.length]; exact hi⟩, fun d2 hd2 => ?_⟩
      obtain ⟨v2, hv2, rv2⟩ := rl2.get' hd2
      refine ⟨⟨vs2, v2, SqL.of hp2, hv2⟩, fun x H3 hy => ?_⟩
      obtain ⟨rfl, hy⟩ := hy
      have := hy vs2 (SqL.of hp2)
      rw [hv2] at this
      cases this
      exact ⟨W2, .refl hh2, rv2⟩
    · subst e1
      obtain ⟨p, vs, rfl, hp, rl⟩ := tup_at s1.held r1 rfl
      refine .inr ⟨p, rfl, ⟨vs, SqT.of hp⟩, q (Itt X.K p) H1 W1 m1 ds (fun _ => True) s1 (fun i H2 W2 m2 hle hh2 _ => ?_) f⟩
      obtain ⟨p2, vs2, ep, hp2, rl2⟩ := tup_at hh2 (r1.mono hle) rfl
      cases ep
      refine ⟨fun hi => ⟨vs2, SqT.of hp2, by rw [← rl2.length]; exact hi⟩, fun d2 hd2 => ?_⟩
      obtain ⟨v2, hv2, rv2⟩ := rl2.get' hd2
      refine ⟨⟨vs2, v2, SqT.of hp2, hv2⟩, fun x H3 hy => ?_⟩
      obtain ⟨rfl, hy⟩ := hy
      have := hy vs2 (SqT.of hp2)
      rw [hv2] at this
      cases this
      exact ⟨W2, .refl hh2, rv2⟩⟩
theorem di_tup (h : DE X e te de) : DI X tg e (iTup X.K te) (iT de) := ⟨pi_tup h.pe, fun σ H W ρ m F R hh re hd q =>
  h.up σ H W ρ m _ _ hh re hd fun v H1 d W1 m1 s1 r1 h0 => by
    obtain ⟨ds, e1, f⟩ : ∃ ds, d = .tup ds ∧ F ds (fun _ => True) m1 := by
      cases d with
      | tup ds => exact ⟨ds, rfl, h0⟩
      | _ => exact h0.elim
    subst e1
    obtain ⟨p, vs, rfl, hp, rl⟩ := tup_at s1.held r1 rfl
    refine ⟨p, rfl, ⟨vs, SqT.of hp⟩, q (Itt X.K p) H1 W1 m1 ds (fun _ => True) s1 (fun i H2 W2 m2 hle hh2 _ => ?_) f⟩
    obtain ⟨p2, vs2, ep, hp2, rl2⟩ := tup_at hh2 (r1.mono hle) rfl
    cases ep
    refine ⟨fun hi => ⟨vs2, SqT.of hp2, by rw [← rl2.length]; exact hi⟩, fun d2 hd2 => ?_⟩
    obtain ⟨v2, hv2, rv2⟩ := rl2.get' hd2
    refine ⟨⟨vs2, v2, SqT.of hp2, hv2⟩, fun x H3 hy => ?_⟩
    obtain ⟨rfl, hy⟩ := hy
    have := hy vs2 (SqT.of hp2)
    rw [hv2] at this
    cases this
    exact ⟨W2, .refl hh2, rv2⟩⟩
/-- a list or a tuple -/
def signs (x : Str) : List D := x.cps.toList.map fun c => .str ⟨#[c]⟩
def iS (t : TD) : TDI := fun ρ m F => t ρ m fun d m1 => match d with
  | .str x => F (signs x) (fun _ => True) m1
  | _ => False
theorem di_str (h : DE X e te de) : DI X tg e (iStr te) (iS de) := ⟨pi_str h.pe, fun σ H W ρ m F R hh re hd q =>
  h.up σ H W ρ m _ _ hh re hd fun v H1 d W1 m1 s1 r1 h0 => by
    obtain ⟨x, e1, f⟩ : ∃ x, d = .str x ∧ F (signs x) (fun _ => True) m1 := by
      cases d with
      | str x => exact ⟨x, rfl, h0⟩
      | _ => exact h0.elim
    subst e1
    refine ⟨x, rep_str r1, q (Its x) H1 W1 m1 (signs x) (fun _ => True) s1 (fun i H2 W2 m2 hle hh2 _ => ?_) f⟩
    have hl : (signs x).length = x.cps.size := by unfold signs; rw [List.length_map, Array.length_toList]
    refine ⟨fun hi => (by rw [hl] at hi; exact hi), fun d2 hd2 => ?_⟩
    unfold signs at hd2
    rw [List.getElem?_map] at hd2
    cases hc : x.cps.toList[i]? with
    | none => rw [hc] at hd2; cases hd2
    | some c =>
      rw [hc] at hd2
      have hd3 : d2 = .str ⟨#[c]⟩ := (Option.some.inj hd2).symm
      subst hd3
      have hlt : i < x.cps.size := by have := (List.getElem?_eq_some_iff.mp hc).1; rwa [Array.length_toList] at this
      refine ⟨hlt, fun y H3 hy => ?_⟩
      obtain ⟨rfl, c2, hc2, rfl⟩ := hy
      rw [Array.getElem?_toList, hc2] at hc
      cases hc
      exact ⟨W2, .refl hh2, .str _⟩⟩
def rangeD (lo : Int) (n : Nat) : List D := (List.range n).map fun (i : Nat) => D.int (lo + (i : Int))
def iR1 (t : TDA) : TDI := fun ρ m F => t ρ m fun ds m1 => match ds with
  | [.int j] => (-(2 ^ 62) ≤ j ∧ j < 2 ^ 62) ∧ F (rangeD 0 j.toNat) (fun _ => True) m1
  | _ => False
def iR2 (t : TDA) : TDI := fun ρ m F => t ρ m fun ds m1 => match ds with
  | [.int i, .int j] => (-(2 ^ 62) ≤ i ∧ i < 2 ^ 62 ∧ -(2 ^ 62) ≤ j ∧ j < 2 ^ 62) ∧ F (rangeD i (j - i).toNat) (fun _ => True) m1
  | _ => False
theorem it_range {K : PySem.W.Frag} {W : Wd} (lo : Int) (n : Nat) : ItOk K (Itr lo n) W (rangeD lo n) (fun _ => True) := fun i H2 W2 m2 hle hh2 _ => by
  have hl : (rangeD lo n).length = n := by unfold rangeD; rw [List.length_map, List.length_range]
  refine ⟨fun hi => (by rw [hl] at hi; exact hi), fun d2 hd2 => ?_⟩
  have hlt : i < n := by have := (List.getElem?_eq_some_iff.mp hd2).1; rwa [hl] at this
  unfold rangeD at hd2
  rw [List.getElem?_map, List.getElem?_range hlt] at hd2
  have hd3 : d2 = .int (lo + i) := (Option.some.inj hd2).symm
  subst hd3
  refine ⟨hlt, fun y H3 hy => ?_⟩
  obtain ⟨rfl, rfl⟩ := hy
  exact ⟨W2, .refl hh2, .int _⟩
theorem repL_one {K : PySem.W.Frag} {W : Wd} {d : D} {vs : List V} (r : RepL K W [d] vs) : ∃ v, vs = [v] ∧ Rep K W d v := by
  cases r with
  | cons h t => cases t; exact ⟨_, rfl, h⟩
theorem repL_two {K : PySem.W.Frag} {W : Wd} {d e : D} {vs : List V} (r : RepL K W [d, e] vs) : ∃ v u, vs = [v, u] ∧ Rep K W d v ∧ Rep K W e u := by
  cases r with
  | cons h t =>
    obtain ⟨u, rfl, h2⟩ := repL_one t
    exact ⟨_, _, rfl, h, h2⟩
theorem di_range1 {a : Expr} {ta : TA} {da : TDA} {p pos : Pos} (hg : Gl X "range") (hm : X.mg "range" = none) (ha : DA X [a] ta da) (hs : starEach [a] X.env = [(false, eval a X.env)] := by rfl) : DI X tg (.Call (.Name "range" p) [a] [] pos) (iRng1 ta) (iR1 da) := ⟨pi_range1 hg hm ha.pa hs, fun σ H W ρ m F R hh re hd q =>
  ha.up σ H W ρ m _ _ hh re hd fun vs H1 ds W1 m1 s1 r1 h0 => by
    obtain ⟨j, e1, h1, h2, f⟩ : ∃ j : Int, ds = [.int j] ∧ -(2 ^ 62) ≤ j ∧ j < 2 ^ 62 ∧ F (rangeD 0 j.toNat) (fun _ => True) m1 := by
      split at h0
      · rename_i j; exact ⟨j, rfl, h0.1.1, h0.1.2, h0.2⟩
      · exact h0.elim
    subst e1
    obtain ⟨v, rfl, rv⟩ := repL_one r1
    exact ⟨j, by rw [rep_int rv], h1, h2, q _ _ _ _ _ _ s1 (it_range 0 _) f⟩⟩
theorem di_range2 {a b : Expr} {ta : TA} {da : TDA} {p pos : Pos} (hg : Gl X "range") (hm : X.mg "range" = none) (ha : DA X [a, b] ta da) (hs : starEach [a, b] X.env = [(false, eval a X.env), (false, eval b X.env)] := by rfl) (hs2 : starEach [b] X.env = [(false, eval b X.env)] := by rfl) :
    DI X tg (.Call (.Name "range" p) [a, b] [] pos) (iRng2 ta) (iR2 da) := ⟨pi_range2 hg hm ha.pa hs hs2, fun σ H W ρ m F R hh re hd q =>
  ha.up σ H W ρ m _ _ hh re hd fun vs H1 ds W1 m1 s1 r1 h0 => by
    obtain ⟨i, j, e1, h1, f⟩ : ∃ i j : Int, ds = [.int i, .int j] ∧ (-(2 ^ 62) ≤ i ∧ i < 2 ^ 62 ∧ -(2 ^ 62) ≤ j ∧ j < 2 ^ 62) ∧ F (rangeD i (j - i).toNat) (fun _ => True) m1 := by
      split at h0
      · rename_i i j; exact ⟨i, j, rfl, h0.1, h0.2⟩
      · exact h0.elim
    subst e1
    obtain ⟨v, u, rfl, rv, ru⟩ := repL_two r1
    exact ⟨i, j, by rw [rep_int rv, rep_int ru], h1, q _ _ _ _ _ _ s1 (it_range i _) f⟩⟩
end

/-! ### for, while -/
def forRun (stay : Mu → Prop) (body : D → REnv → Mu → (REnv → Mu → Prop) → Prop) : List D → REnv → Mu → (REnv → Mu → Prop) → Prop
  | [], ρ, m, k => stay m ∧ k ρ m
  | d :: r, ρ, m, k => stay m ∧ body d ρ m fun ρ2 m2 => forRun stay body r ρ2 m2 k
def dFor (ti : TDI) (g : TDG) (tb : TDS) : TDS := fun F ρ m => ti ρ m fun ds stay m1 => forRun stay (fun d ρ' m' k => g d ρ' m' fun ρ2 m2 => tb { F with nx := k, ct := k, bk := F.nx } ρ2 m2) ds ρ m1 F.nx
/-- a loop by what holds between its turns; the body may change what is wanted behind it -/
theorem for_inv {stay : Mu → Prop} {body : D → REnv → Mu → (REnv → Mu → Prop) → Prop} {ds : List D} {ρ : REnv} {m : Mu} {k : REnv → Mu → Prop} (P : Nat → REnv → Mu → Prop) (h0 : P 0 ρ m) (hst : ∀ i ρ' m', P i ρ' m' → stay m')
    (hs : ∀ i d ρ' m', ds[i]? = some d → P i ρ' m' → ∀ k2 : REnv → Mu → Prop, (∀ ρ2 m2, P (i + 1) ρ2 m2 → k2 ρ2 m2) → body d ρ' m' k2) (hd : ∀ ρ' m', P ds.length ρ' m' → k ρ' m') : forRun stay body ds ρ m k := by
  have go : ∀ (n i : Nat), n + i = ds.length → ∀ ρ' m', P i ρ' m' → forRun stay body (ds.drop i) ρ' m' k := by
    intro n
    induction n with
    | zero =>
      intro i hi ρ' m' p
      have e : i = ds.length := by omega
      subst e
      rw [List.drop_of_length_le (Nat.le_refl _)]
      exact ⟨hst _ _ _ p, hd _ _ p⟩
    | succ n ih =>
      intro i hi ρ' m' p
      have hlt : i < ds.length := by omega
      rw [List.drop_eq_getElem_cons hlt]
      exact ⟨hst _ _ _ p, hs i _ ρ' m' (List.getElem?_eq_getElem hlt) p _ fun ρ2 m2 p2 => ih (i + 1) (by omega) ρ2 m2 p2⟩
  exact go ds.length 0 (by omega) ρ m h0
def dWhile (c : TDT) (tb : TDS) : TDS := fun F ρ m => ∃ P : Nat → REnv → Mu → Prop, (∃ k, P k ρ m) ∧ ∀ k ρ' m', P k ρ' m' → c ρ' m' fun b m1 =>
  Br b (tb { F with nx := fun ρ2 m2 => ∃ j, j < k ∧ P j ρ2 m2, ct := fun ρ2 m2 => ∃ j, j < k ∧ P j ρ2 m2, bk := F.nx } ρ' m1) (F.nx ρ' m1)
section
variable {X : Cx} {pos : Pos} {tg iter c : Expr} {body : List Stmt} {wi : TI} {ti : TDI} {g : TG} {dg : TDG} {tb : TS} {db : TDS} {tc : TT} {dc : TDT}
theorem ls_for {K : PySem.W.Frag} (hi : LI K wi ti) (hg : LG K g dg) (hb : LS K tb db) : LS K (tFor wi g tb) (dFor ti dg db) := fun σ H W ρ m F E hh re h n r b c =>
  hi σ H W ρ m _ _ hh re h fun J H1 W1 m1 ds stay s1 ok h0 => by
    let P : Nat → REnv → Mu → Prop := fun i ρ' m' => forRun stay (fun d ρ' m' k => dg d ρ' m' fun ρ2 m2 => db { F with nx := k, ct := k, bk := F.nx } ρ2 m2) (ds.drop i) ρ' m' F.nx
    have p0 : P 0 ρ m1 := h0
    have pst : ∀ i ρ' m', P i ρ' m' → stay m' := fun i ρ' m' p => by
      have p : forRun stay _ (ds.drop i) ρ' m' F.nx := p
      cases q : ds.drop i with
      | nil => rw [q] at p; exact p.1
      | cons d r => rw [q] at p; exact p.1
    have turn : ∀ i d ρ' m', ds[i]? = some d → P i ρ' m' → dg d ρ' m' fun ρ2 m2 => db { F with nx := P (i + 1), ct := P (i + 1), bk := F.nx } ρ2 m2 := fun i d ρ' m' e p => by
      have p : forRun stay _ (ds.drop i) ρ' m' F.nx := p
      obtain ⟨hl, e⟩ := List.getElem?_eq_some_iff.mp e
      rw [List.drop_eq_getElem_cons hl, e] at p
      exact p.2
    have fin : ∀ ρ' m', P ds.length ρ' m' → F.nx ρ' m' := fun ρ' m' p => by
      have p : forRun stay _ (ds.drop ds.length) ρ' m' F.nx := p
      rw [List.drop_of_length_le (Nat.le_refl _)] at p
      exact p.2
    refine ⟨fun i k σ' H' => k = ds.length - i ∧ i ≤ ds.length ∧ ∃ W' ρ' m', Stp K W m H W' m' H' ∧ Le W1 W' ∧ RepE K W' ρ' σ' ∧ P i ρ' m', ⟨ds.length, by simp, Nat.zero_le _, W1, ρ, m1, s1, .refl _, re.mono s1.le, p0⟩, ?_⟩
    rintro i k σ' H' ⟨rfl, hil, W', ρ', m', s', le', re', p'⟩
    obtain ⟨stp, go⟩ := ok i H' W' m' le' s'.held (pst i ρ' m' p')
    by_cases hlt : i < ds.length
    · obtain ⟨hgo, hy⟩ := go _ (List.getElem?_eq_getElem hlt)
      refine .inr ⟨hgo, fun σ2 H2 => ∃ W2 ρ2 m2, Stp K W m H W2 m2 H2 ∧ Le W1 W2 ∧ RepE K W2 ρ2 σ2 ∧ P (i + 1) ρ2 m2, fun σ2 H2 z => ⟨ds.length - (i + 1), by omega, rfl, hlt, z⟩, fun x H2 y => ?_⟩
      obtain ⟨W2, s2, rx⟩ := hy x H2 y
      have s02 := s'.trans hh s2
      refine hg σ' H2 W2 ρ' m' _ x _ _ s2.held (re'.mono s2.le) rx (turn i _ ρ' m' (List.getElem?_eq_getElem hlt) p') fun σ3 H3 W3 ρ3 m3 s3 re3 f3 => ?_
      have s03 := s02.trans hh s3
      have le3 := (le'.trans s2.le).trans s3.le
      exact hb σ3 H3 W3 ρ3 m3 _ _ s3.held re3 f3 (fun σ4 H4 W4 ρ4 m4 s4 re4 f4 => ⟨W4, ρ4, m4, s03.trans hh s4, le3.trans s4.le, re4, f4⟩) (fun v H4 d W4 m4 s4 r4 f4 => r v H4 d W4 m4 (s03.trans hh s4) r4 f4)
        (fun σ4 H4 W4 ρ4 m4 s4 re4 f4 => n σ4 H4 W4 ρ4 m4 (s03.trans hh s4) re4 f4) (fun σ4 H4 W4 ρ4 m4 s4 re4 f4 => ⟨W4, ρ4, m4, s03.trans hh s4, le3.trans s4.le, re4, f4⟩)
    · have e : i = ds.length := by omega
      subst e
      exact .inl ⟨stp (Nat.le_refl _), n σ' H' W' ρ' m' s' re' (fin ρ' m' p')⟩
theorem ds_for (hi : DI X tg iter wi ti) (hg : DG X tg g dg) (hb : DSs X body tb db) (hp : PassesOwn (model X.prog X.w) X.A X.env X.xe := by exact PassesOwn.never) (hc : X.calm = true := by rfl) (hs : ∀ x, foldedSetIterable iter X.env x = pure x := by intro _; rfl) :
    DS X (.For tg iter body [] pos) (tFor wi g tb) (dFor ti dg db) := ⟨ps_for hp hc hi.pi hg.pg hb.ps hs, ls_for hi.up hg.up hb.up⟩
theorem ls_while {K : PySem.W.Frag} (hc : LT K tc dc) (hb : LS K tb db) : LS K (tWhile tc tb) (dWhile dc db) := fun σ H W ρ m F E hh re h n r b c => by
  obtain ⟨P, ⟨k0, p0⟩, turn⟩ := h
  refine ⟨fun k σ' H' => ∃ W' ρ' m', Stp K W m H W' m' H' ∧ RepE K W' ρ' σ' ∧ P k ρ' m', ⟨k0, W, ρ, m, .refl hh, re, p0⟩, ?_⟩
  rintro k σ' H' ⟨W', ρ', m', s', re', p'⟩
  refine hc σ' H' W' ρ' m' _ _ s'.held re' (turn k ρ' m' p') fun t H1 W1 m1 s1 h1 => ?_
  have s01 := s'.trans hh s1
  cases t with
  | true =>
    show ∃ N : St → Hp → Prop, _
    refine ⟨fun σ2 H2 => ∃ j, j < k ∧ ∃ W2 ρ2 m2, Stp K W m H W2 m2 H2 ∧ RepE K W2 ρ2 σ2 ∧ P j ρ2 m2, fun σ2 H2 z => z, ?_⟩
    exact hb σ' H1 W1 ρ' m1 _ _ s1.held (re'.mono s1.le) (h1.1 rfl) (fun σ4 H4 W4 ρ4 m4 s4 re4 ⟨j, hj, f4⟩ => ⟨j, hj, W4, ρ4, m4, s01.trans hh s4, re4, f4⟩) (fun v H4 d W4 m4 s4 r4 f4 => r v H4 d W4 m4 (s01.trans hh s4) r4 f4)
        (fun σ4 H4 W4 ρ4 m4 s4 re4 f4 => n σ4 H4 W4 ρ4 m4 (s01.trans hh s4) re4 f4) (fun σ4 H4 W4 ρ4 m4 s4 re4 ⟨j, hj, f4⟩ => ⟨j, hj, W4, ρ4, m4, s01.trans hh s4, re4, f4⟩)
  | false =>
    show E.nx σ' H1
    exact n σ' H1 W1 ρ' m1 s01 (re'.mono s1.le) (h1.2 rfl)
theorem ds_while (hc : DT X c tc dc) (hb : DSs X body tb db) (hp : PassesOwn (model X.prog X.w) X.A X.env X.xe := by exact PassesOwn.never) : DS X (.While c body [] pos) (tWhile tc tb) (dWhile dc db) := ⟨ps_while hp hc.pt hb.ps, ls_while hc.up hb.up⟩
end
end DL

/-! List comprehensions of the data logic. -/
namespace DL
open PySem L2

/-- the heap without one address -/
def hide (H : Hp) (p : Addr) : Hp := fun a => if a = p then none else H a
theorem hide_same {H : Hp} {p : Addr} : hide H p p = none := if_pos rfl
theorem hide_ne {H : Hp} {p a : Addr} (h : a ≠ p) : hide H p a = H a := if_neg h
theorem hide_some {H : Hp} {p a : Addr} {o : HO} (h : hide H p a = some o) : a ≠ p ∧ H a = some o := by
  by_cases e : a = p
  · rw [e, hide_same] at h; cases h
  · rw [hide_ne e] at h; exact ⟨e, h⟩
theorem hide_upd {H : Hp} {p : Addr} {o : HO} : hide (upd H p o) p = hide H p := by
  funext a; unfold hide
  by_cases e : a = p
  · rw [if_pos e, if_pos e]
  · rw [if_neg e, if_neg e, upd_ne e]
theorem upd_hide {H : Hp} {p : Addr} {o : HO} (h : H p = some o) : upd (hide H p) p o = H := by
  funext a
  by_cases e : a = p
  · rw [e, upd_same, h]
  · rw [upd_ne e, hide_ne e]
theorem hide_none {H : Hp} {p : Addr} (h : H p = none) : hide H p = H := by
  funext a; unfold hide
  by_cases e : a = p
  · rw [if_pos e, e, h]
  · rw [if_neg e]
section
variable {K : PySem.W.Frag} {W W' : Wd} {m m' : Mu} {H H' : Hp} {p : Addr}
theorem Held.unhide (h : Held K W m (hide H p)) : Held K W m H :=
  ⟨fun a o e => (hide_some (h.G a o e)).2, fun k o e => let ⟨h1, h2, ho, h3, h4⟩ := h.ob k o e; ⟨h1, h2, ho, (hide_some h3).2, h4⟩, h.inj⟩
/-- a step beside a thing that nobody knows: it stays as it is -/
theorem Stp.aside {o : HO} (h : Held K W m (hide H p)) (hp : H p = some o) (s : Stp K W m H W' m' H') : H' p = some o ∧ Stp K W m (hide H p) W' m' (hide H' p) := by
  have hth : ∀ k, m k ≠ none → W.th k ≠ p := fun k e z => by
    cases q : m k with
    | none => exact e q
    | some u =>
      obtain ⟨_, _, ho, h3, _⟩ := h.ob k u q
      exact (hide_some h3).1 z
  have hG : W.G p = none := by
    cases q : W.G p with
    | none => rfl
    | some u => exact absurd rfl (hide_some (h.G p u q)).1
  have hG' : W'.G p = none := by
    cases q : W'.G p with
    | none => rfl
    | some u =>
      exfalso
      rcases s.set p (by rw [q]; exact fun y => nomatch y) with z | z | ⟨k, hk, z⟩
      · exact z hG
      · rw [hp] at z; cases z
      · exact hth k hk z.symm
  have hth' : ∀ k, m' k ≠ none → W'.th k ≠ p := fun k e z => by
    rcases s.own k e with q | q
    · exact hth k q (by rw [← s.le.th k (h.lt q)]; exact z)
    · rw [z, hp] at q; cases q
  refine ⟨s.fr p o hp fun k hk z => hth k hk z.symm, ⟨s.le, ⟨fun a u e => ?_, fun k u e => ?_, s.held.inj⟩, fun a u e hk => ?_, fun k e => ?_, fun a e => ?_, fun a e => ?_⟩⟩
  · have hne : a ≠ p := fun z => by rw [z, hG'] at e; cases e
    rw [hide_ne hne]; exact s.held.G a u e
  · obtain ⟨h1, h2, ho, h3, h4⟩ := s.held.ob k u e
    refine ⟨h1, h2, ho, ?_, h4⟩
    rw [hide_ne (hth' k (by rw [e]; exact fun y => nomatch y))]; exact h3
  · obtain ⟨hne, e⟩ := hide_some e
    rw [hide_ne hne]; exact s.fr a u e hk
  · rcases s.own k e with q | q
    · exact .inl q
    · refine .inr ?_
      rw [hide_ne (hth' k e)]; exact q
  · rcases s.set a e with z | z | z
    · exact .inl z
    · refine .inr (.inl ?_)
      unfold hide
      split
      · rfl
      · exact z
    · exact .inr (.inr z)
  · by_cases hne : a = p
    · rw [hne, hide_same] at e; exact absurd rfl e
    · rw [hide_ne hne] at e ⊢; exact s.keep a e
end

def wipeD (ρ : REnv) : List Nat → REnv
  | [] => ρ
  | v :: vs => (wipeD ρ vs).set v none
theorem wipe_rep {K : PySem.W.Frag} {W : Wd} {ρ : REnv} {σ : St} (h : RepE K W ρ σ) : ∀ vs : List Nat, RepE K W (wipeD ρ vs) (wipe σ vs)
  | [] => h
  | v :: vs => by
    have ih := wipe_rep h vs
    refine ⟨by unfold wipeD wipe; rw [List.length_set, List.length_set]; exact ih.1, fun i d e => ?_⟩
    unfold wipeD at e
    unfold wipe
    by_cases hv : v = i
    · subst hv
      by_cases hl : v < (wipeD ρ vs).length
      · rw [List.getElem?_set_self hl] at e; cases e
      · rw [List.getElem?_eq_none (by rw [List.length_set]; omega)] at e; cases e
    · rw [List.getElem?_set_ne hv] at e
      obtain ⟨u, a, b⟩ := ih.2 i d e
      exact ⟨u, by rw [List.getElem?_set_ne hv]; exact a, b⟩

/-- a target of a comprehension's clause stores its own names alone -/
def GW (g : TG) (vs : List Nat) : Prop := ∀ (x : V) (σ : St) (H : Hp) (Q : St → Hp → Prop), g x (wipe σ vs) H Q → g x (wipe σ vs) H (fun σ2 H2 => wipe σ2 vs = wipe σ vs ∧ Q σ2 H2)
theorem wipe_get {σ : St} {i : Nat} : ∀ {vs : List Nat}, (wipe σ vs)[i]? = if i ∈ vs ∧ i < σ.length then some none else σ[i]?
  | [] => by simp [wipe]
  | v :: vs => by
    unfold wipe
    by_cases hv : v = i
    · subst hv
      by_cases hl : v < σ.length
      · rw [List.getElem?_set_self (by rw [wipe_length]; exact hl), if_pos ⟨List.mem_cons_self, hl⟩]
      · rw [List.getElem?_eq_none (by rw [List.length_set, wipe_length]; omega), if_neg (fun z => hl z.2), List.getElem?_eq_none (by omega)]
    · rw [List.getElem?_set_ne hv, wipe_get]
      have : (i ∈ v :: vs) ↔ (i ∈ vs) := by
        rw [List.mem_cons]
        exact ⟨fun z => z.elim (fun e => absurd e.symm hv) id, .inr⟩
      simp only [this]
theorem wipe_set {σ : St} {vs : List Nat} {i : Nat} {o : Option V} (hi : i ∈ vs) : wipe ((wipe σ vs).set i o) vs = wipe σ vs := by
  apply List.ext_getElem?
  intro j
  rw [wipe_get, List.length_set, wipe_length]
  by_cases hj : j ∈ vs ∧ j < σ.length
  · rw [if_pos hj, wipe_get, if_pos hj]
  · rw [if_neg hj]
    by_cases hij : i = j
    · subst hij
      have hl : ¬ i < σ.length := fun z => hj ⟨hi, z⟩
      rw [List.getElem?_eq_none (by rw [List.length_set, wipe_length]; omega), List.getElem?_eq_none (by rw [wipe_length]; omega)]
    · rw [List.getElem?_set_ne hij]
theorem gw_name {vs : List Nat} {i : Nat} (hi : i ∈ vs) : GW (gName i) vs := fun x σ H Q h => ⟨wipe_set hi, h⟩
theorem wipe_idem {σ : St} {vs : List Nat} : wipe (wipe σ vs) vs = wipe σ vs := by
  apply List.ext_getElem?
  intro j
  rw [wipe_get, wipe_length]
  by_cases hj : j ∈ vs ∧ j < σ.length
  · rw [if_pos hj, wipe_get, if_pos hj]
  · rw [if_neg hj]
theorem wipe_set' {σ : St} {vs : List Nat} {i : Nat} {o : Option V} (hi : i ∈ vs) : wipe (σ.set i o) vs = wipe σ vs := by
  apply List.ext_getElem?
  intro j
  rw [wipe_get, List.length_set, wipe_get]
  by_cases hj : j ∈ vs ∧ j < σ.length
  · rw [if_pos hj, if_pos hj]
  · rw [if_neg hj, if_neg hj]
    by_cases hij : i = j
    · subst hij
      have hl : ¬ i < σ.length := fun z => hj ⟨hi, z⟩
      rw [List.getElem?_eq_none (by rw [List.length_set]; omega), List.getElem?_eq_none (by omega)]
    · rw [List.getElem?_set_ne hij]
theorem gw_tup2 {K : PySem.W.Frag} {vs : List Nat} {n i j : Nat} (hi : i ∈ vs) (hj : j ∈ vs) : GW (gTup K n (gCons (gName i) (gCons (gName j) gNil))) vs := fun x σ H Q h => by
  obtain ⟨a, xs, e, hq, hl, v, r, er, v2, r2, er2, e3, h⟩ := h
  exact ⟨a, xs, e, hq, hl, v, r, er, v2, r2, er2, e3, (wipe_set' hj).trans (wipe_set hi), h⟩
theorem gw_tup3 {K : PySem.W.Frag} {vs : List Nat} {n i j k : Nat} (hi : i ∈ vs) (hj : j ∈ vs) (hk : k ∈ vs) : GW (gTup K n (gCons (gName i) (gCons (gName j) (gCons (gName k) gNil)))) vs := fun x σ H Q h => by
  obtain ⟨a, xs, e, hq, hl, v, r, er, v2, r2, er2, v3, r3, er3, e3, h⟩ := h
  exact ⟨a, xs, e, hq, hl, v, r, er, v2, r2, er2, v3, r3, er3, e3, (wipe_set' hk).trans ((wipe_set' hj).trans (wipe_set hi)), h⟩

/-- tests of a clause -/
structure DTs (X : Cx) (ifs : List Expr) (tt : TT) (t : TDT) : Prop where
  pt : PTs X ifs tt
  up : LT X.K tt t
def dYes : TDT := fun _ m F => F true m
theorem dts_nil {X : Cx} : DTs X [] tYes dYes := ⟨pts_nil, fun σ H W ρ m F Q hh re h q => q _ _ _ _ (.refl hh) h⟩
theorem dts_one {X : Cx} {c : Expr} {t : TT} {d : TDT} (h : DT X c t d) : DTs X [c] t d := ⟨pts_one h.pt, h.up⟩

/-- the turns of a comprehension: what is made so far -/
def lcRun (stay : Mu → Prop) (body : D → List D → Mu → (List D → Mu → Prop) → Prop) : List D → List D → Mu → (List D → Mu → Prop) → Prop
  | [], acc, m, k => stay m ∧ k acc m
  | d :: r, acc, m, k => stay m ∧ body d acc m fun acc2 m2 => lcRun stay body r acc2 m2 k
theorem lc_st {stay : Mu → Prop} {body : D → List D → Mu → (List D → Mu → Prop) → Prop} {ds acc : List D} {m : Mu} {k : List D → Mu → Prop} (h : lcRun stay body ds acc m k) : stay m := by
  cases ds with
  | nil => exact h.1
  | cons d r => exact h.1
/-- [e for x in xs if ..] -/
def lcBody (g : TDG) (tt : TDT) (te : TD) (ρ : REnv) (d : D) (acc : List D) (m : Mu) (k : List D → Mu → Prop) : Prop := g d ρ m fun ρ2 m2 => tt ρ2 m2 fun b m3 => Br b (te ρ2 m3 fun y m4 => acc.length < sizeLine ∧ k (acc ++ [y]) m4) (k acc m3)
def dLc (ti : TDI) (g : TDG) (tt : TDT) (te : TD) (vs : List Nat) : TD := fun ρ m F => ti ρ m fun ds stay m1 => lcRun stay (lcBody g tt te (wipeD ρ vs)) ds [] m1 fun acc m2 => New (.lst acc) m2 F
/-- by what holds between the turns -/
theorem lc_inv {stay : Mu → Prop} {body : D → List D → Mu → (List D → Mu → Prop) → Prop} {ds acc : List D} {m : Mu} {k : List D → Mu → Prop} (P : Nat → List D → Mu → Prop) (h0 : P 0 acc m) (hst : ∀ i a m', P i a m' → stay m')
    (hs : ∀ i d a m', ds[i]? = some d → P i a m' → ∀ k2 : List D → Mu → Prop, (∀ a2 m2, P (i + 1) a2 m2 → k2 a2 m2) → body d a m' k2) (hd : ∀ a m', P ds.length a m' → k a m') : lcRun stay body ds acc m k := by
  have go : ∀ (n i : Nat), n + i = ds.length → ∀ a m', P i a m' → lcRun stay body (ds.drop i) a m' k := by
    intro n
    induction n with
    | zero =>
      intro i hi a m' p
      have e : i = ds.length := by omega
      subst e
      rw [List.drop_of_length_le (Nat.le_refl _)]
      exact ⟨hst _ _ _ p, hd _ _ p⟩
    | succ n ih =>
      intro i hi a m' p
      have hlt : i < ds.length := by omega
      rw [List.drop_eq_getElem_cons hlt]
      exact ⟨hst _ _ _ p, hs i _ a m' (List.getElem?_eq_getElem hlt) p _ fun a2 m2 p2 => ih (i + 1) (by omega) a2 m2 p2⟩
  exact go ds.length 0 (by omega) acc m h0
/-- each item is kept or not, and turned, and nothing else changes -/
theorem lc_pure {stay : Mu → Prop} {body : D → List D → Mu → (List D → Mu → Prop) → Prop} {ds : List D} {m : Mu} {k : List D → Mu → Prop} (f : D → Option D) (hst : stay m) (hl : ds.length < sizeLine)
    (hs : ∀ d a (k2 : List D → Mu → Prop), d ∈ ds → a.length < sizeLine → k2 (a ++ (f d).toList) m → body d a m k2) (hd : k (ds.filterMap f) m) : lcRun stay body ds [] m k := by
  refine lc_inv (fun i a m' => m' = m ∧ a = (ds.take i).filterMap f) ⟨rfl, rfl⟩ (fun i a m' p => by rw [p.1]; exact hst) (fun i d a m' e p k2 hk => ?_) fun a m' p => ?_
  · obtain ⟨rfl, rfl⟩ := p
    refine hs d _ k2 (List.mem_of_getElem? e) (Nat.lt_of_le_of_lt (Nat.le_trans (List.length_filterMap_le _ _) (by rw [List.length_take]; exact Nat.min_le_right _ _)) hl) (hk _ _ ⟨rfl, ?_⟩)
    rw [List.take_succ, e, List.filterMap_append]
    cases hf : f d with
    | none => simp [hf]
    | some y => simp [hf]
  · obtain ⟨rfl, rfl⟩ := p
    rw [List.take_length]; exact hd
theorem le_lc {K : PySem.W.Frag} {wi : TI} {ti : TDI} {g : TG} {dg : TDG} {tt : TT} {dt : TDT} {te : TE} {de : TD} {vs : List Nat} (hi : LI K wi ti) (hg : LG K g dg) (hw : GW g vs) (ht : LT K tt dt) (he : LE K te de) : LE K (tLc wi g tt te vs) (dLc ti dg dt de vs) :=
  fun σ H W ρ m F Q hh re h q => hi σ H W ρ m _ _ hh re h fun J H1 W1 m1 ds stay s1 ok h0 => by
    let P : Nat → List D → Mu → Prop := fun i acc m' => lcRun stay (lcBody dg dt de (wipeD ρ vs)) (ds.drop i) acc m' fun acc m2 => New (.lst acc) m2 F
    have p0 : P 0 [] m1 := h0
    have pst : ∀ i acc m', P i acc m' → stay m' := fun i acc m' p => lc_st p
    have turn : ∀ i d acc m', ds[i]? = some d → P i acc m' → lcBody dg dt de (wipeD ρ vs) d acc m' (P (i + 1)) := fun i d acc m' e p => by
      have p : lcRun stay _ (ds.drop i) acc m' _ := p
      obtain ⟨hl, e⟩ := List.getElem?_eq_some_iff.mp e
      rw [List.drop_eq_getElem_cons hl, e] at p
      exact p.2
    have fin : ∀ acc m', P ds.length acc m' → New (.lst acc) m' F := fun acc m' p => by
      have p : lcRun stay _ (ds.drop ds.length) acc m' _ := p
      rw [List.drop_of_length_le (Nat.le_refl _)] at p
      exact p.2
    intro A hA
    refine ⟨fun i k H' => k = ds.length - i ∧ i ≤ ds.length ∧ ∃ W' m' acc avs, Stp K W m H W' m' (hide H' A) ∧ Le W1 W' ∧ H' A = some (.lst avs) ∧ RepL K W' acc avs ∧ P i acc m', ⟨ds.length, by simp, Nat.zero_le _, W1, m1, [], [], ?_, .refl _, upd_same, .nil, p0⟩, ?_⟩
    · rw [hide_upd, hide_none hA]; exact s1
    rintro i k H' ⟨rfl, hil, W', m', acc, avs, s', le', hA', ra, p'⟩
    have hh' := s'.held.unhide
    obtain ⟨stp, go⟩ := ok i H' W' m' le' hh' (pst i acc m' p')
    by_cases hlt : i < ds.length
    · obtain ⟨hgo, hy⟩ := go _ (List.getElem?_eq_getElem hlt)
      refine .inr ⟨hgo, fun H2 => ∃ W2 m2 acc2 avs2, Stp K W m H W2 m2 (hide H2 A) ∧ Le W1 W2 ∧ H2 A = some (.lst avs2) ∧ RepL K W2 acc2 avs2 ∧ P (i + 1) acc2 m2, fun H2 z => ⟨ds.length - (i + 1), by omega, rfl, hlt, z⟩, fun x H2 y => ?_⟩
      obtain ⟨W2, s2, rx⟩ := hy x H2 y
      obtain ⟨hA2, t2⟩ := s2.aside s'.held hA'
      have s02 := s'.trans hh t2
      refine hw x σ H2 _ (hg (wipe σ vs) H2 W2 (wipeD ρ vs) m' _ x _ _ s2.held (wipe_rep (re.mono s02.le) vs) rx (turn i _ acc m' (List.getElem?_eq_getElem hlt) p') fun σ3 H3 W3 ρ3 m3 s3 re3 f3 => ?_)
      obtain ⟨hA3, t3⟩ := s3.aside t2.held hA2
      have s03 := s02.trans hh t3
      refine ht σ3 H3 W3 ρ3 m3 _ _ s3.held re3 f3 fun b H4 W4 m4 s4 f4 => ?_
      obtain ⟨hA4, t4⟩ := s4.aside t3.held hA3
      have s04 := s03.trans hh t4
      have le4 := ((le'.trans s2.le).trans s3.le).trans s4.le
      cases b with
      | false =>
        show ∃ W2 m2 acc2 avs2, _
        exact ⟨W4, m4, acc, avs, s04, le4, hA4, ra.mono ((s2.le.trans s3.le).trans s4.le), f4.2 rfl⟩
      | true =>
        show te σ3 H4 _
        refine he σ3 H4 W4 ρ3 m4 _ _ s4.held (re3.mono s4.le) (f4.1 rfl) fun v H5 d W5 m5 s5 r5 ⟨hl, f5⟩ => ?_
        obtain ⟨hA5, t5⟩ := s5.aside t4.held hA4
        refine ⟨avs, hA5, by rw [← ra.length]; exact hl, W5, m5, acc ++ [d], avs ++ [v], ?_, le4.trans s5.le, upd_same, (ra.mono (((s2.le.trans s3.le).trans s4.le).trans s5.le)).append (.one r5), f5⟩
        rw [hide_upd]; exact s04.trans hh t5
    · have e : i = ds.length := by omega
      subst e
      refine .inl ⟨stp (Nat.le_refl _), ?_⟩
      have fq := new_ok s'.held (o := .lst acc) (ho := .lst avs) ⟨avs, rfl, ra⟩ (fin acc m' p') (fun v H' d W' m' s2 r2 f => q v H' d W' m' (s'.trans hh s2) r2 f) (p := A) hide_same
      rw [upd_hide hA'] at fq
      exact fq
section
variable {X : Cx} {elt tg iter : Expr} {ifs : List Expr} {scope : Scope} {own : List (Str × Nat)} {pos : Pos} {wi : TI} {ti : TDI} {g : TG} {dg : TDG} {tt : TT} {dt : TDT} {te : TE} {de : TD}
theorem de_lc (own : List (Str × Nat)) (hi : DI X tg iter wi ti) (ok : BlkOk X.N X.env.scope scope own) (hw : GW g (own.map (·.2)))
    (hg : ∀ (s : Shared) (H : Hp) (C : Addr) (cl : List (Str × Addr)) (fp : List Addr), DG (X.blk s H scope (compEnvC scope cl C X.env) fp) tg g dg) (ht : ∀ (s : Shared) (H : Hp) (C : Addr) (cl : List (Str × Addr)) (fp : List Addr), DTs (X.blk s H scope (compEnvC scope cl C X.env) fp) ifs tt dt)
    (he : ∀ (s : Shared) (H : Hp) (C : Addr) (cl : List (Str × Addr)) (fp : List Addr), DE (X.blk s H scope (compEnvC scope cl C X.env) fp) elt te de) (hN : X.N.Nodup) (hc : X.calm = true := by rfl) (hs : ∀ x, foldedSetIterable iter X.env x = pure x := by intro _; rfl) :
    DE X (.ListComp elt [⟨tg, iter, ifs, 0⟩] scope pos) (tLc wi g tt te (own.map (·.2))) (dLc ti dg dt de (own.map (·.2))) :=
  ⟨pe_lc hc hN hi.pi ok (fun s H C cl fp => (hg s H C cl fp).pg) (fun s H C cl fp => (ht s H C cl fp).pt) (fun s H C cl fp => (he s H C cl fp).pe) hs, le_lc hi.up (hg X.s_0 X.H_0 0 [] []).up hw (ht X.s_0 X.H_0 0 [] []).up (he X.s_0 X.H_0 0 [] []).up⟩
theorem ds_setLc {i : Nat} {y : Str} {py spos : Pos} (own : List (Str × Nat)) (hi : DI X tg iter wi ti) (ok : BlkOk X.N X.env.scope scope own) (hw : GW g (own.map (·.2)))
    (hg : ∀ (s : Shared) (H : Hp) (C : Addr) (cl : List (Str × Addr)) (fp : List Addr), DG (X.blk s H scope (compEnvC scope cl C X.env) fp) tg g dg) (ht : ∀ (s : Shared) (H : Hp) (C : Addr) (cl : List (Str × Addr)) (fp : List Addr), DTs (X.blk s H scope (compEnvC scope cl C X.env) fp) ifs tt dt)
    (he : ∀ (s : Shared) (H : Hp) (C : Addr) (cl : List (Str × Addr)) (fp : List Addr), DE (X.blk s H scope (compEnvC scope cl C X.env) fp) elt te de) (hN : X.N.Nodup) (hy : X.N[i]? = some y) (hyl : X.env.scope.names.lookup y = some .local)
    (hsw : swapsWith (.ListComp elt [⟨tg, iter, ifs, 0⟩] scope pos) (some (.Name y py)) spos.line X.env = pure true) (hc : X.calm = true := by rfl) (hs : ∀ x, foldedSetIterable iter X.env x = pure x := by intro _; rfl) :
    DS X (.Assign [.Name y py] (.ListComp elt [⟨tg, iter, ifs, 0⟩] scope pos) spos) (tAsg (tLc wi g tt te (own.map (·.2))) (gName i)) (dAsg (dLc ti dg dt de (own.map (·.2))) (gN i)) :=
  ⟨ps_setLc hc hN hy hyl hsw hi.pi ok (fun s H C cl fp => (hg s H C cl fp).pg) (fun s H C cl fp => (ht s H C cl fp).pt) (fun s H C cl fp => (he s H C cl fp).pe) hs, ls_asg (le_lc hi.up (hg X.s_0 X.H_0 0 [] []).up hw (ht X.s_0 X.H_0 0 [] []).up (he X.s_0 X.H_0 0 [] []).up) (lg_name i)⟩
end

/-! ### two clauses -/
def lcBody2 (g : TDG) (tt : TDT) (ti1 : TDI) (g1 : TDG) (tt1 : TDT) (te : TD) (vs1 : List Nat) (ρ : REnv) (d : D) (acc : List D) (m : Mu) (k : List D → Mu → Prop) : Prop := g d ρ m fun ρ2 m2 => tt ρ2 m2 fun b m3 =>
  Br b (ti1 ρ2 m3 fun es stay1 m4 => lcRun stay1 (lcBody g1 tt1 te (wipeD ρ2 vs1)) es acc m4 k) (k acc m3)
def dLc2 (ti : TDI) (g : TDG) (tt : TDT) (ti1 : TDI) (g1 : TDG) (tt1 : TDT) (te : TD) (vs vs1 : List Nat) : TD := fun ρ m F => ti ρ m fun ds stay m1 => lcRun stay (lcBody2 g tt ti1 g1 tt1 te vs1 (wipeD ρ vs)) ds [] m1 fun acc m2 => New (.lst acc) m2 F
theorem le_lc2 {K : PySem.W.Frag} {wi wi1 : TI} {ti ti1 : TDI} {g g1 : TG} {dg dg1 : TDG} {tt tt1 : TT} {dt dt1 : TDT} {te : TE} {de : TD} {vs vs1 : List Nat} (hi : LI K wi ti) (hg : LG K g dg) (hw : GW g vs) (ht : LT K tt dt)
    (hi1 : LI K wi1 ti1) (hg1 : LG K g1 dg1) (hw1 : GW g1 vs1) (ht1 : LT K tt1 dt1) (he : LE K te de) : LE K (tLc2 wi g tt wi1 g1 tt1 te vs vs1) (dLc2 ti dg dt ti1 dg1 dt1 de vs vs1) :=
  fun σ H W ρ m F Q hh re h q => hi σ H W ρ m _ _ hh re h fun J H1 W1 m1 ds stay s1 ok h0 => by
    let P : Nat → List D → Mu → Prop := fun i acc m' => lcRun stay (lcBody2 dg dt ti1 dg1 dt1 de vs1 (wipeD ρ vs)) (ds.drop i) acc m' fun acc m2 => New (.lst acc) m2 F
    have p0 : P 0 [] m1 := h0
    have pst : ∀ i acc m', P i acc m' → stay m' := fun i acc m' p => lc_st p
    have turn : ∀ i d acc m', ds[i]? = some d → P i acc m' → lcBody2 dg dt ti1 dg1 dt1 de vs1 (wipeD ρ vs) d acc m' (P (i + 1)) := fun i d acc m' e p => by
      have p : lcRun stay _ (ds.drop i) acc m' _ := p
      obtain ⟨hl, e⟩ := List.getElem?_eq_some_iff.mp e
      rw [List.drop_eq_getElem_cons hl, e] at p
      exact p.2
    have fin : ∀ acc m', P ds.length acc m' → New (.lst acc) m' F := fun acc m' p => by
      have p : lcRun stay _ (ds.drop ds.length) acc m' _ := p
      rw [List.drop_of_length_le (Nat.le_refl _)] at p
      exact p.2
    intro A hA
    refine ⟨fun i k H' => k = ds.length - i ∧ i ≤ ds.length ∧ ∃ W' m' acc avs, Stp K W m H W' m' (hide H' A) ∧ Le W1 W' ∧ H' A = some (.lst avs) ∧ RepL K W' acc avs ∧ P i acc m', ⟨ds.length, by simp, Nat.zero_le _, W1, m1, [], [], ?_, .refl _, upd_same, .nil, p0⟩, ?_⟩
    · rw [hide_upd, hide_none hA]; exact s1
    rintro i k H' ⟨rfl, hil, W', m', acc, avs, s', le', hA', ra, p'⟩
    have hh' := s'.held.unhide
    obtain ⟨stp, go⟩ := ok i H' W' m' le' hh' (pst i acc m' p')
    by_cases hlt : i < ds.length
    · obtain ⟨hgo, hy⟩ := go _ (List.getElem?_eq_getElem hlt)
      refine .inr ⟨hgo, fun H2 => ∃ W2 m2 acc2 avs2, Stp K W m H W2 m2 (hide H2 A) ∧ Le W1 W2 ∧ H2 A = some (.lst avs2) ∧ RepL K W2 acc2 avs2 ∧ P (i + 1) acc2 m2, fun H2 z => ⟨ds.length - (i + 1), by omega, rfl, hlt, z⟩, fun x H2 y => ?_⟩
      obtain ⟨W2, s2, rx⟩ := hy x H2 y
      obtain ⟨hA2, t2⟩ := s2.aside s'.held hA'
      have s02 := s'.trans hh t2
      refine hw x σ H2 _ (hg (wipe σ vs) H2 W2 (wipeD ρ vs) m' _ x _ _ s2.held (wipe_rep (re.mono s02.le) vs) rx (turn i _ acc m' (List.getElem?_eq_getElem hlt) p') fun σ3 H3 W3 ρ3 m3 s3 re3 f3 => ?_)
      obtain ⟨hA3, t3⟩ := s3.aside t2.held hA2
      have s03 := s02.trans hh t3
      refine ht σ3 H3 W3 ρ3 m3 _ _ s3.held re3 f3 fun b H4 W4 m4 s4 f4 => ?_
      obtain ⟨hA4, t4⟩ := s4.aside t3.held hA3
      have s04 := s03.trans hh t4
      have le4 := ((le'.trans s2.le).trans s3.le).trans s4.le
      have ra4 := ra.mono ((s2.le.trans s3.le).trans s4.le)
      cases b with
      | false =>
        show ∃ W2 m2 acc2 avs2, _
        exact ⟨W4, m4, acc, avs, s04, le4, hA4, ra4, f4.2 rfl⟩
      | true =>
        show wi1 σ3 H4 _
        refine hi1 σ3 H4 W4 ρ3 m4 _ _ s4.held (re3.mono s4.le) (f4.1 rfl) fun J1 H5 W5 m5 es stay1 s5 ok1 h1 => ?_
        let P1 : Nat → List D → Mu → Prop := fun j acc m' => lcRun stay1 (lcBody dg1 dt1 de (wipeD ρ3 vs1)) (es.drop j) acc m' (P (i + 1))
        have q0 : P1 0 acc m5 := h1
        have qst : ∀ j acc m', P1 j acc m' → stay1 m' := fun j acc m' p => lc_st p
        have turn1 : ∀ j d acc m', es[j]? = some d → P1 j acc m' → lcBody dg1 dt1 de (wipeD ρ3 vs1) d acc m' (P1 (j + 1)) := fun j d acc m' e p => by
          have p : lcRun stay1 _ (es.drop j) acc m' _ := p
          obtain ⟨hl, e⟩ := List.getElem?_eq_some_iff.mp e
          rw [List.drop_eq_getElem_cons hl, e] at p
          exact p.2
        have fin1 : ∀ acc m', P1 es.length acc m' → P (i + 1) acc m' := fun acc m' p => by
          have p : lcRun stay1 _ (es.drop es.length) acc m' _ := p
          rw [List.drop_of_length_le (Nat.le_refl _)] at p
          exact p.2
        obtain ⟨hA5, t5⟩ := s5.aside t4.held hA4
        have s05 := s04.trans hh t5
        refine ⟨fun j l H6 => l = es.length - j ∧ j ≤ es.length ∧ ∃ W6 m6 acc6 avs6, Stp K W m H W6 m6 (hide H6 A) ∧ Le W1 W6 ∧ Le W5 W6 ∧ Le W3 W6 ∧ H6 A = some (.lst avs6) ∧ RepL K W6 acc6 avs6 ∧ P1 j acc6 m6,
          ⟨es.length, by simp, Nat.zero_le _, W5, m5, acc, avs, s05, le4.trans s5.le, .refl _, s4.le.trans s5.le, hA5, ra4.mono s5.le, q0⟩, ?_⟩
        rintro j l H6 ⟨rfl, hjl, W6, m6, acc6, avs6, s6, le16, le56, le36, hA6, ra6, p6⟩
        obtain ⟨stp1, go1⟩ := ok1 j H6 W6 m6 le56 s6.held.unhide (qst j acc6 m6 p6)
        by_cases hjt : j < es.length
        · obtain ⟨hgo1, hy1⟩ := go1 _ (List.getElem?_eq_getElem hjt)
          refine .inr ⟨hgo1, fun H7 => ∃ W6 m6 acc6 avs6, Stp K W m H W6 m6 (hide H7 A) ∧ Le W1 W6 ∧ Le W5 W6 ∧ Le W3 W6 ∧ H7 A = some (.lst avs6) ∧ RepL K W6 acc6 avs6 ∧ P1 (j + 1) acc6 m6, fun H7 z => ⟨es.length - (j + 1), by omega, rfl, hjt, z⟩, fun x7 H7 y7 => ?_⟩
          obtain ⟨W7, s7, rx7⟩ := hy1 x7 H7 y7
          obtain ⟨hA7, t7⟩ := s7.aside s6.held hA6
          have s07 := s6.trans hh t7
          refine hw1 x7 σ3 H7 _ (hg1 (wipe σ3 vs1) H7 W7 (wipeD ρ3 vs1) m6 _ x7 _ _ s7.held (wipe_rep (re3.mono (le36.trans s7.le)) vs1) rx7 (turn1 j _ acc6 m6 (List.getElem?_eq_getElem hjt) p6) fun σ8 H8 W8 ρ8 m8 s8 re8 f8 => ?_)
          obtain ⟨hA8, t8⟩ := s8.aside t7.held hA7
          have s08 := s07.trans hh t8
          refine ht1 σ8 H8 W8 ρ8 m8 _ _ s8.held re8 f8 fun b H9 W9 m9 s9 f9 => ?_
          obtain ⟨hA9, t9⟩ := s9.aside t8.held hA8
          have s09 := s08.trans hh t9
          have le69 := (s7.le.trans s8.le).trans s9.le
          cases b with
          | false =>
            show ∃ W6 m6 acc6 avs6, _
            exact ⟨W9, m9, acc6, avs6, s09, le16.trans le69, le56.trans le69, le36.trans le69, hA9, ra6.mono le69, f9.2 rfl⟩
          | true =>
            show te σ8 H9 _
            refine he σ8 H9 W9 ρ8 m9 _ _ s9.held (re8.mono s9.le) (f9.1 rfl) fun v H10 d W10 m10 s10 r10 ⟨hl, f10⟩ => ?_
            obtain ⟨hA10, t10⟩ := s10.aside t9.held hA9
            have leA := le69.trans s10.le
            refine ⟨avs6, hA10, by rw [← ra6.length]; exact hl, W10, m10, acc6 ++ [d], avs6 ++ [v], ?_, le16.trans leA, le56.trans leA, le36.trans leA, upd_same, (ra6.mono leA).append (.one r10), f10⟩
            rw [hide_upd]; exact s09.trans hh t10
        · have e : j = es.length := by omega
          subst e
          exact .inl ⟨stp1 (Nat.le_refl _), W6, m6, acc6, avs6, s6, le16, hA6, ra6, fin1 acc6 m6 p6⟩
    · have e : i = ds.length := by omega
      subst e
      refine .inl ⟨stp (Nat.le_refl _), ?_⟩
      have fq := new_ok s'.held (o := .lst acc) (ho := .lst avs) ⟨avs, rfl, ra⟩ (fin acc m' p') (fun v H' d W' m' s2 r2 f => q v H' d W' m' (s'.trans hh s2) r2 f) (p := A) hide_same
      rw [upd_hide hA'] at fq
      exact fq
section
variable {X : Cx} {elt tg iter tg1 iter1 : Expr} {ifs ifs1 : List Expr} {scope : Scope} {pos : Pos} {wi wi1 : TI} {ti ti1 : TDI} {g g1 : TG} {dg dg1 : TDG} {tt tt1 : TT} {dt dt1 : TDT} {te : TE} {de : TD}
theorem de_lc2 (own : List (Str × Nat)) (vs1 : List Nat) (hi : DI X tg iter wi ti) (ok : BlkOk X.N X.env.scope scope own) (hv : ∀ i ∈ vs1, i ∈ own.map (·.2)) (hw : GW g (own.map (·.2))) (hw1 : GW g1 vs1)
    (hg : ∀ (s : Shared) (H : Hp) (C : Addr) (cl : List (Str × Addr)) (fp : List Addr), DG (X.blk s H scope (compEnvC scope cl C X.env) fp) tg g dg) (ht : ∀ (s : Shared) (H : Hp) (C : Addr) (cl : List (Str × Addr)) (fp : List Addr), DTs (X.blk s H scope (compEnvC scope cl C X.env) fp) ifs tt dt)
    (hi1 : ∀ (s : Shared) (H : Hp) (C : Addr) (cl : List (Str × Addr)) (fp : List Addr), DI (X.blk s H scope (compEnvC scope cl C X.env) fp) tg1 iter1 wi1 ti1)
    (hg1 : ∀ (s : Shared) (H : Hp) (C : Addr) (cl : List (Str × Addr)) (fp : List Addr), DG (X.blk s H scope (compEnvC scope cl C X.env) fp) tg1 g1 dg1) (ht1 : ∀ (s : Shared) (H : Hp) (C : Addr) (cl : List (Str × Addr)) (fp : List Addr), DTs (X.blk s H scope (compEnvC scope cl C X.env) fp) ifs1 tt1 dt1)
    (he : ∀ (s : Shared) (H : Hp) (C : Addr) (cl : List (Str × Addr)) (fp : List Addr), DE (X.blk s H scope (compEnvC scope cl C X.env) fp) elt te de) (hN : X.N.Nodup) (hc : X.calm = true := by rfl) (hs : ∀ x, foldedSetIterable iter X.env x = pure x := by intro _; rfl) (hs1 : ∀ env x, foldedSetIterable iter1 env x = pure x := by intro _ _; rfl) :
    DE X (.ListComp elt [⟨tg, iter, ifs, 0⟩, ⟨tg1, iter1, ifs1, 0⟩] scope pos) (tLc2 wi g tt wi1 g1 tt1 te (own.map (·.2)) vs1) (dLc2 ti dg dt ti1 dg1 dt1 de (own.map (·.2)) vs1) :=
  ⟨pe_lc2 hc hN hi.pi ok hv (fun s H C cl fp => (hg s H C cl fp).pg) (fun s H C cl fp => (ht s H C cl fp).pt) (fun s H C cl fp => (hi1 s H C cl fp).pi) (fun s H C cl fp => (hg1 s H C cl fp).pg) (fun s H C cl fp => (ht1 s H C cl fp).pt) (fun s H C cl fp => (he s H C cl fp).pe) hs hs1,
    le_lc2 hi.up (hg X.s_0 X.H_0 0 [] []).up hw (ht X.s_0 X.H_0 0 [] []).up (hi1 X.s_0 X.H_0 0 [] []).up (hg1 X.s_0 X.H_0 0 [] []).up hw1 (ht1 X.s_0 X.H_0 0 [] []).up (he X.s_0 X.H_0 0 [] []).up⟩
end
end DL

/-! Calls of defs, methods, properties, new instances, fields, in the data logic. -/
namespace DL
open PySem L2

/-- what a def promises, over data: arguments, mutable objects, what is wanted of the answer -/
abbrev SpD := List D → Mu → DK → Prop
def spD (K : PySem.W.Frag) (S : SpD) : Sp := fun vs H Q _ => ∃ (W : Wd) (m : Mu) (ds : List D) (F : DK), Held K W m H ∧ RepL K W ds vs ∧ S ds m F ∧ ∀ v H' d W' m', Stp K W m H W' m' H' → Rep K W' d v → F d m' → Q v H'
def Sub (m' m : Mu) : Prop := ∀ j o, m' j = some o → m j = some o
theorem Sub.refl (m : Mu) : Sub m m := fun _ _ h => h
/-- at a def's end: mutable objects may be forgotten, the answer settled -/
def Fin (F : DK) (d : D) (m : Mu) : Prop := (∃ m', Sub m' m ∧ F d m') ∨ ∃ k o m', d = .ref k ∧ m k = some o ∧ m' k = none ∧ Sub m' m ∧ F (settle o) m'
theorem fin {F : DK} {d : D} {m : Mu} (h : F d m) : Fin F d m := .inl ⟨m, .refl m, h⟩
/-- the mutable list that a def has made is handed back as a new one -/
theorem fin_new {F : DK} {o : MO} {m : Mu} {k : Nat} (hk : m k = none) (h : New o m F) : Fin F (.ref k) (mset m k o) := by
  rcases h with h | h
  · exact .inr ⟨k, o, m, rfl, mset_same, hk, fun j u e => by rw [mset_ne (fun z => by rw [z, hk] at e; cases e)]; exact e, h⟩
  · exact fin (h k hk)
def startD (n : Nat) (ds : List D) : REnv := ds.map some ++ List.replicate (n - ds.length) none
theorem start_rep {K : PySem.W.Frag} {W : Wd} {N : List Str} {ds : List D} {vs : List V} (r : RepL K W ds vs) : RepE K W (startD N.length ds) (L2.start N vs) := by
  refine ⟨by unfold startD L2.start; simp only [List.length_append, List.length_map, List.length_replicate, r.length], fun i d e => ?_⟩
  unfold startD at e
  unfold L2.start
  by_cases hi : i < ds.length
  · rw [List.getElem?_append_left (by rw [List.length_map]; exact hi), List.getElem?_map] at e
    cases q : ds[i]? with
    | none => rw [q] at e; cases e
    | some d0 =>
      rw [q] at e
      have e2 : d0 = d := by simpa using e
      subst e2
      obtain ⟨v, hv, rv⟩ := r.get' q
      refine ⟨v, ?_, rv⟩
      rw [List.getElem?_append_left (by rw [List.length_map, ← r.length]; exact hi), List.getElem?_map, hv]; rfl
  · rw [List.getElem?_append_right (by rw [List.length_map]; omega), List.getElem?_replicate] at e
    split at e <;> cases e

section
variable {P : Program} {w : World} {K : PySem.W.Frag} {mg : Str → Option Value} {base : Heap} {x qual : Str} {params : Arguments} {body : List Stmt} {scope : Scope} {dvs : List V} {kws : List (Str × V)} {f : Addr} {fd : FuncData}
/-- THE RULE for a def: its body's derivation, and the reading over data -/
theorem ok_of {N ps : List Str} {k : Nat} {S : SpD} {ts : TS} {t : TDS} (F : FunD K x qual params body scope dvs kws f fd) (sc : FnScope N ps scope) (len : ∀ ds m G, S ds m G → ds.length = ps.length)
    (der : ∀ (cdv : Value) (A : Around) (outer : List Env) (s : Shared) (H : Hp) (E : XK), Room k (A.deeper (PyProof.Rows.envOfC qual scope s.heap.objs.size f cdv)) → DSs (cxOf CX0 P w K mg base N qual scope f cdv A outer s H E).nox body ts t)
    (pure_ : ∀ ds m G, S ds m G → t { nx := fun _ m' => Fin G .non m', rt := Fin G } (startD N.length ds) m) : FnOk P w K mg base CX0 (k + 1) f fd ps (spD K S) := by
  refine F.ok sc (fun vs H Q E h => ?_) (fun cdv A outer s H vs Q E hr h => ?_)
  · obtain ⟨W, m, ds, G, _, r, hs, _⟩ := h
    rw [← r.length, len ds m G hs]
  · obtain ⟨W, m, ds, G, hh, r, hs, q⟩ := h
    have d := der cdv A outer s H E hr
    have fi : ∀ (v : V) (H' : Hp) (d : D) (W' : Wd) (m' : Mu), Stp K W m H W' m' H' → Rep K W' d v → Fin G d m' → Q v H' := fun v H' d W' m' s' r' hf => by
      rcases hf with ⟨m2, hsub, hf⟩ | ⟨k2, o, m2, rfl, hk, hk2, hsub, hf⟩
      · exact q v H' d W' m2 (s'.trans hh (step_drop s'.held hsub)) r' hf
      · obtain ⟨W2, s2, r2⟩ := step_settle s'.held hk hk2 hsub
        cases r'
        exact q _ H' _ W2 m2 (s'.trans hh s2) r2 hf
    exact ⟨ts, d.ps.nox, d.up (L2.start N vs) H W (startD N.length ds) m _ _ hh (start_rep r) (pure_ ds m G hs) (fun σ' H' W' ρ' m' s' _ hf => fi _ _ _ _ _ s' .non hf) fi (fun _ _ _ _ _ _ _ z => z.elim) fun _ _ _ _ _ _ _ z => z.elim⟩
end

def dCall (S : SpD) (t : TDA) : TD := fun ρ m F => t ρ m fun ds m1 => S ds m1 F
section
variable {X : Cx} {k : Nat} {f : Addr} {fd : FuncData} {ps : List Str} {S : SpD} {x : Str} {p1 pos apos : Pos} {e : Expr} {es : List Expr} {t : TA} {dt : TDA} {o : Expr} {te : TE} {de : TD} {C : Addr} {mn : Str}
theorem le_call {K : PySem.W.Frag} {E : XK} (h : LA K t dt) : LE K (tCall (spD K S) [] E t) (dCall S dt) := fun σ H W ρ m F Q hh re hd q =>
  h σ H W ρ m _ _ hh re hd fun vs H1 ds W1 m1 s1 r1 h1 => ⟨W1, m1, ds, F, s1.held, by rw [List.append_nil]; exact r1, h1, fun v H2 d W2 m2 s2 r2 f => q v H2 d W2 m2 (s1.trans hh s2) r2 f⟩
theorem de_call (F : FnOk X.prog X.w X.K X.mg X.base CX0 k f fd ps (spD X.K S)) (hr : Room k X.A) (hg : Gl X x) (hm : X.mg x = some (.ref f)) (hk : PySem.W.keepIn X.K (.ref f) = true) (hb : Binds X.K fd ps [])
    (ha : DA X (e :: es) t dt) (hdb : (x == ("__debug__" : Str)) = false := by decide) (he : starEach (e :: es) X.env = (false, eval e X.env) :: starEach es X.env := by rfl) (hpl : (backTo pos (starEach es X.env)).any (·.1) = false := by rfl) :
    DE X (.Call (.Name x p1) (e :: es) [] pos) (tCall (spD X.K S) [] E0 t) (dCall S dt) := ⟨pe_call F hr hg hm hk hb .nil pass0 ha.pa hdb he hpl, le_call ha.up⟩
theorem de_call0 (F : FnOk X.prog X.w X.K X.mg X.base CX0 k f fd ps (spD X.K S)) (hr : Room k X.A) (hg : Gl X x) (hm : X.mg x = some (.ref f)) (hk : PySem.W.keepIn X.K (.ref f) = true) (hb : Binds X.K fd ps [])
    (hdb : (x == ("__debug__" : Str)) = false := by decide) : DE X (.Call (.Name x p1) [] [] pos) (tCall (spD X.K S) [] E0 tNil) (dCall S dNil) := ⟨pe_call0 F hr hg hm hk hb .nil pass0 hdb, le_call (da_nil (X := X)).up⟩

/-! ### instances -/
def moIns : Option MO → Option (Addr × List Str × List D)
  | some (.ins c fs xs) => some (c, fs, xs)
  | _ => none
def insOf (m : Mu) : D → Option (Addr × List Str × List D)
  | .ins c fs xs => some (c, fs, xs)
  | .ref k => moIns (m k)
  | _ => none
theorem insOf_ref {m : Mu} {k : Nat} {c : Addr} {fs : List Str} {xs : List D} (h : m k = some (.ins c fs xs)) : insOf m (.ref k) = some (c, fs, xs) := by
  show moIns (m k) = _
  rw [h] <;> rfl
theorem ins_at {K : PySem.W.Frag} {W : Wd} {m : Mu} {H : Hp} (h : Held K W m H) {d : D} {v : V} {c : Addr} {fs : List Str} {xs : List D} (r : Rep K W d v) (e : insOf m d = some (c, fs, xs)) :
    ∃ p dx fvs, v = .ref p ∧ H p = some (.ins c dx fvs) ∧ fvs.map (·.1) = fs ∧ RepL K W xs (fvs.map (·.2)) := by
  cases r with
  | ins hp r =>
    have e2 := Option.some.inj e
    simp only [Prod.mk.injEq] at e2
    obtain ⟨rfl, rfl, rfl⟩ := e2
    exact ⟨_, _, _, rfl, h.G _ _ hp, rfl, r⟩
  | ref hk =>
    rename_i k
    have e : moIns (m k) = some (c, fs, xs) := e
    cases q : m k with
    | none => rw [q] at e; cases e
    | some o =>
      rw [q] at e
      cases o with
      | ins c2 fs2 xs2 =>
        have e2 := Option.some.inj e
        simp only [Prod.mk.injEq] at e2
        obtain ⟨rfl, rfl, rfl⟩ := e2
        obtain ⟨_, _, ho, h3, dx, fvs, rfl, hf, r⟩ := h.ob k _ q
        exact ⟨_, dx, fvs, rfl, h3, hf, r⟩
      | _ => cases e
  | _ => cases e
/-- a field's value -/
def getF (f : Str) : List Str → List D → Option D
  | n :: ns, x :: xs => if f = n then some x else getF f ns xs
  | _, _ => none
theorem getF_rep {K : PySem.W.Frag} {W : Wd} {f : Str} : ∀ {fvs : List (Str × V)} {xs : List D} {d : D}, RepL K W xs (fvs.map (·.2)) → getF f (fvs.map (·.1)) xs = some d → ∃ v, fvs.lookup f = some v ∧ Rep K W d v
  | [], _, _, r, e => by cases r; cases e
  | (n, u) :: fvs, _, d, .cons h t, e => by
    have e2 : (if f = n then some _ else getF f (fvs.map (·.1)) _) = some d := e
    by_cases hn : f = n
    · rw [if_pos hn] at e2
      cases e2
      exact ⟨u, by have hb : (f == n) = true := beq_iff_eq.mpr hn
                   simp only [List.lookup, hb], h⟩
    · rw [if_neg hn] at e2
      obtain ⟨v, a, b⟩ := getF_rep t e2
      exact ⟨v, by have hb : (f == n) = false := beq_eq_false_iff_ne.mpr hn
                   simp only [List.lookup, hb]; exact a, b⟩
theorem lookup_no {f : Str} : ∀ {fvs : List (Str × V)}, f ∉ fvs.map (·.1) → fvs.lookup f = none
  | [], _ => rfl
  | (n, u) :: fvs, h => by
    have h1 : f ≠ n := fun z => h (by rw [z]; exact List.mem_cons_self)
    have h2 : f ∉ fvs.map (·.1) := fun z => h (List.mem_cons_of_mem _ z)
    have hb : (f == n) = false := beq_eq_false_iff_ne.mpr h1
    simp only [List.lookup, hb]; exact lookup_no h2
/-- o.f -/
def dFld (K : PySem.W.Frag) (t : TD) (f : Str) : TD := fun ρ m F => t ρ m fun d m1 => ∃ c fs xs v, insOf m1 d = some (c, fs, xs) ∧ Cls K c ∧ NoAttr K c f ∧ getF f fs xs = some v ∧ F v m1
theorem de_fld {f : Str} (he : DE X o te de) (hb : attributeBase o f X.env (eval o X.env) = eval o X.env := by rfl) : DE X (.Attribute o f pos) (tFld X.K te f) (dFld X.K de f) := ⟨pe_fld he.pe hb, fun σ H W ρ m F Q hh re hd q =>
  he.up σ H W ρ m _ _ hh re hd fun v H1 d W1 m1 s1 r1 ⟨c, fs, xs, y, e, hc, hn, hf, h1⟩ => by
    obtain ⟨p, dx, fvs, rfl, hp, rfl, rl⟩ := ins_at s1.held r1 e
    obtain ⟨u, hu, ru⟩ := getF_rep rl hf
    exact ⟨p, c, dx, fvs, u, rfl, hp, hc, hn, hu, q u H1 y W1 m1 s1 ru h1⟩⟩
/-- o.m(..), an own method -/
def dMeth (C : Addr) (mn : Str) (S : SpD) (t : TD) (ta : TDA) : TD := fun ρ m F => t ρ m fun d m1 => ∃ fs xs, insOf m1 d = some (C, fs, xs) ∧ mn ∉ fs ∧ ta ρ m1 fun ds m2 => S (d :: ds) m2 F
theorem le_meth {K : PySem.W.Frag} {E : XK} (he : LE K te de) (h : LA K t dt) : LE K (tMeth C mn (spD K S) [] E te t) (dMeth C mn S de dt) := fun σ H W ρ m F Q hh re hd q =>
  he σ H W ρ m _ _ hh re hd fun v H1 d W1 m1 s1 r1 ⟨fs, xs, e, hn, h1⟩ => by
    obtain ⟨p, dx, fvs, rfl, hp, rfl, rl⟩ := ins_at s1.held r1 e
    refine ⟨p, dx, fvs, rfl, hp, lookup_no hn, h σ H1 W1 ρ m1 _ _ s1.held (re.mono s1.le) h1 fun vs H2 ds W2 m2 s2 r2 h2 => ?_⟩
    exact ⟨W2, m2, d :: ds, F, s2.held, .cons (r1.mono s2.le) (by rw [List.append_nil]; exact r2), h2, fun v H3 d3 W3 m3 s3 r3 f => q v H3 d3 W3 m3 ((s1.trans hh s2).trans hh s3) r3 f⟩
theorem de_meth {pl : Sem Bool} (he : DE X o te de) (c : Cls X.K C) (hm : Meth X.K C mn f) (F : FnOk X.prog X.w X.K X.mg X.base CX0 k f fd ps (spD X.K S)) (hr : Room k X.A) (hb : Binds X.K fd ps []) (ha : DA X (e :: es) t dt)
    (hst : starEach (e :: es) X.env = (false, eval e X.env) :: starEach es X.env := by rfl) (hpl : (backTo pos (starEach es X.env)).any (·.1) = false := by rfl)
    (ht : eval (.Call (.Attribute o mn apos) (e :: es) [] pos) X.env = (do
      let ov ← eval o X.env
      standAt apos.atName
      let (f, first) ← holding [ov] (getMethod ov mn pl)
      callWith pos f first (backTo pos (starEach (e :: es) X.env)) (backToKw pos (keywordEach [] X.env))) := by rfl) :
    DE X (.Call (.Attribute o mn apos) (e :: es) [] pos) (tMeth C mn (spD X.K S) [] E0 te t) (dMeth C mn S de dt) := ⟨pe_meth he.pe c hm F hr hb .nil pass0 ha.pa hst hpl ht, le_meth he.up ha.up⟩
theorem de_meth0 {pl : Sem Bool} (he : DE X o te de) (c : Cls X.K C) (hm : Meth X.K C mn f) (F : FnOk X.prog X.w X.K X.mg X.base CX0 k f fd ps (spD X.K S)) (hr : Room k X.A) (hb : Binds X.K fd ps [])
    (ht : eval (.Call (.Attribute o mn apos) [] [] pos) X.env = (do
      let ov ← eval o X.env
      standAt apos.atName
      let (f, first) ← holding [ov] (getMethod ov mn pl)
      callWith pos f first (backTo pos (starEach [] X.env)) (backToKw pos (keywordEach [] X.env))) := by rfl) :
    DE X (.Call (.Attribute o mn apos) [] [] pos) (tMeth C mn (spD X.K S) [] E0 te tNil) (dMeth C mn S de dNil) := ⟨pe_meth0 he.pe c hm F hr hb .nil pass0 ht, le_meth he.up (da_nil (X := X)).up⟩
/-- o.f, a property -/
def dProp (C : Addr) (S : SpD) (t : TD) : TD := fun ρ m F => t ρ m fun d m1 => ∃ fs xs, insOf m1 d = some (C, fs, xs) ∧ S [d] m1 F
theorem de_prop {pn : Str} {pa : Addr} (he : DE X o te de) (c : Cls X.K C) (hp : PropOf X.K C pn pa f) (F : FnOk X.prog X.w X.K X.mg X.base CX0 k f fd ps (spD X.K S)) (hr : Room (k + 1) X.A) (hb : Binds X.K fd ps [])
    (hab : attributeBase o pn X.env (eval o X.env) = eval o X.env := by rfl) : DE X (.Attribute o pn pos) (tProp C (spD X.K S) [] E0 te) (dProp C S de) := ⟨pe_prop he.pe c hp F hr hb .nil pass0 hab, fun σ H W ρ m F Q hh re hd q =>
  he.up σ H W ρ m _ _ hh re hd fun v H1 d W1 m1 s1 r1 ⟨fs, xs, e, h1⟩ => by
    obtain ⟨p, dx, fvs, rfl, hp, rfl, rl⟩ := ins_at s1.held r1 e
    exact ⟨p, dx, fvs, rfl, hp, W1, m1, [d], F, s1.held, .cons r1 .nil, h1, fun v H3 d3 W3 m3 s3 r3 f => q v H3 d3 W3 m3 (s1.trans hh s3) r3 f⟩⟩
/-- C(..): the new instance under a new number, then __init__; behind it it is settled or stays mutable -/
def dMake (C : Addr) (S : SpD) (t : TDA) : TD := fun ρ m F => t ρ m fun ds m1 => ∀ j, m1 j = none → S (.ref j :: ds) (mset m1 j (.ins C [] [])) fun r m2 => r = .non ∧ Fin F (.ref j) m2
theorem le_make {K : PySem.W.Frag} {E : XK} (h : LA K t dt) : LE K (tMake C (spD K S) [] E t) (dMake C S dt) := fun σ H W ρ m F Q hh re hd q =>
  h σ H W ρ m _ _ hh re hd fun vs H1 ds W1 m1 s1 r1 h1 => fun x dx hx hdx hne => by
    have a1 := step_put s1.held hdx (.own x)
    have hx2 : upd H1 dx (.own x) x = none := by rw [upd_ne hne.symm]; exact hx
    -- the instance's own dict is tracked and known to nobody: take it out of the settled part again
    have hh2 : Held K W1 m1 (upd H1 dx (.own x)) := ⟨fun a o e => by rw [upd_ne (ne_of_none (s1.held.G a o e) hdx)]; exact s1.held.G a o e, fun k o e => by
      obtain ⟨g1, g2, ho, g3, g4⟩ := s1.held.ob k o e
      exact ⟨g1, g2, ho, by rw [upd_ne (ne_of_none g3 hdx)]; exact g3, g4⟩, s1.held.inj⟩
    have b1 : Stp K W1 m1 H1 W1 m1 (upd H1 dx (.own x)) := ⟨.refl _, hh2, fun a o e _ => by rw [upd_ne (ne_of_none e hdx)]; exact e, fun _ e => .inl e, fun _ e => .inl e, fun a e => by
      by_cases ha : a = dx
      · rw [ha, upd_same]; exact fun y => nomatch y
      · rw [upd_ne ha]; exact e⟩
    obtain ⟨hn, s2, r2⟩ := step_more hh2 hx2 (o := .ins C [] []) (ho := .ins C dx []) ⟨dx, [], rfl, rfl, .nil⟩
    have s02 := (s1.trans hh b1).trans hh s2
    refine ⟨W1.more x, mset m1 W1.n (.ins C [] []), .ref W1.n :: ds, _, s2.held, .cons r2 (by rw [List.append_nil]; exact r1.mono (b1.le.trans s2.le)), h1 W1.n hn, fun v H3 d3 W3 m3 s3 r3 ⟨e3, hf⟩ => ?_⟩
    subst e3
    refine ⟨rep_non r3, ?_⟩
    have rx := r2.mono s3.le
    have s03 := s02.trans hh s3
    rcases hf with ⟨m4, hsub, hf⟩ | ⟨k2, o, m4, ek, hk, hk2, hsub, hf⟩
    · exact q _ _ _ _ _ (s03.trans hh (step_drop s3.held hsub)) rx hf
    · cases ek
      obtain ⟨W4, s4, r4⟩ := step_settle s3.held hk hk2 hsub
      have ex : W3.th W1.n = x := by
        have z : W3.th W1.n = (W1.more x).th W1.n := s3.le.th _ (Nat.lt_succ_self _)
        rw [z]; show (if W1.n = W1.n then x else W1.th W1.n) = x; rw [if_pos rfl]
      rw [ex] at r4
      exact q _ _ _ _ _ (s03.trans hh s4) r4 hf
theorem de_make {f1 : Addr} (M : Mk X.K C f) (F : FnOk X.prog X.w X.K X.mg X.base CX0 k f fd ps (spD X.K S)) (hr : Room (k + 1) X.A) (hg : Gl X x) (hm : X.mg x = some (.ref C)) (hb : Binds X.K fd ps [])
    (ha : DA X (e :: es) t dt) (hdb : (x == ("__debug__" : Str)) = false := by decide) (he : starEach (e :: es) X.env = (false, eval e X.env) :: starEach es X.env := by rfl) (hpl : (backTo pos (starEach es X.env)).any (·.1) = false := by rfl) :
    DE X (.Call (.Name x p1) (e :: es) [] pos) (tMake C (spD X.K S) [] E0 t) (dMake C S dt) := ⟨pe_make M F hr hg hm hb .nil pass0 ha.pa hdb he hpl, le_make ha.up⟩
/-- self.f = e -/
def putD (f : Str) (y : D) : List Str → List D → List D
  | n :: ns, x :: xs => if n = f then y :: xs else x :: putD f y ns xs
  | _, xs => xs ++ [y]
def putN (f : Str) : List Str → List Str
  | n :: ns => if n = f then n :: ns else n :: putN f ns
  | [] => [f]
def dSetF (K : PySem.W.Frag) (to tv : TD) (f : Str) : TDS := fun F ρ m => tv ρ m fun y m1 => to ρ m1 fun d m2 => ∃ j c fs xs, d = .ref j ∧ m2 j = some (.ins c fs xs) ∧ Cls K c ∧ NoAttr K c f ∧ fs.length < 1000 ∧ F.nx ρ (mset m2 j (.ins c (putN f fs) (putD f y fs xs)))
theorem putF_rep {K : PySem.W.Frag} {W : Wd} {f : Str} {y : D} {u : V} (ry : Rep K W y u) : ∀ {fvs : List (Str × V)} {xs : List D}, RepL K W xs (fvs.map (·.2)) → (putF f u fvs).map (·.1) = putN f (fvs.map (·.1)) ∧ RepL K W (putD f y (fvs.map (·.1)) xs) ((putF f u fvs).map (·.2))
  | [], _, .nil => ⟨rfl, .cons ry .nil⟩
  | (n, v) :: fvs, _, .cons h t => by
    obtain ⟨i1, i2⟩ := putF_rep ry t
    show (if n = f then _ else _ : List (Str × V)).map (·.1) = (if n = f then _ else _) ∧ RepL K W (if n = f then _ else _) ((if n = f then _ else _ : List (Str × V)).map (·.2))
    by_cases hn : n = f
    · rw [if_pos hn, if_pos hn, if_pos hn]
      exact ⟨by rw [hn]; rfl, .cons ry t⟩
    · rw [if_neg hn, if_neg hn, if_neg hn]
      exact ⟨by rw [List.map_cons, i1], .cons h i2⟩
theorem ds_setF {f : Str} {tv : TE} {dv : TD} {v : Expr} {pos' : Pos} (ho : DE X o te de) (hv : DE X v tv dv) (hs : swapsWith v (some (.Attribute o f pos')) pos.line X.env = pure false := by rfl) : DS X (.Assign [.Attribute o f pos'] v pos) (sFld X.K te tv f) (dSetF X.K de dv f) :=
  ⟨ps_fld ho.pe hv.pe hs, fun σ H W ρ m F E hh re h n r b c => hv.up σ H W ρ m _ _ hh re h fun u H1 y W1 m1 s1 r1 h1 => ho.up σ H1 W1 ρ m1 _ _ s1.held (re.mono s1.le) h1 fun u2 H2 d W2 m2 s2 r2 ⟨j, cc, fs, xs, ed, ej, hc, hn, hl, h2⟩ => by
    subst ed
    cases r2
    obtain ⟨_, _, ho, h3, dx, fvs, rfl, hf, rl⟩ := s2.held.ob j _ ej
    subst hf
    obtain ⟨i1, i2⟩ := putF_rep (f := f) (r1.mono s2.le) rl
    have s3 := step_mut s2.held ej (o' := .ins cc (putN f (fvs.map (·.1))) (putD f y (fvs.map (·.1)) xs)) (ho := .ins cc dx (putF f u fvs)) ⟨dx, _, rfl, i1, i2⟩
    have s03 := (s1.trans hh s2).trans hh s3
    exact ⟨_, cc, dx, fvs, rfl, h3, hc, hn, by rw [List.length_map] at hl; exact hl, n _ _ _ _ _ s03 (re.mono s03.le) h2⟩⟩
end
end DL

/-! Operators and built-ins over data. -/
namespace DL
open PySem L2

abbrev RD2 := D → D → Mu → DK → Prop
def withL (d : D) (m : Mu) (B : List D → Prop) : Prop := match d with
  | .lst xs => B xs
  | .ref k => ∃ xs, m k = some (.lst xs) ∧ B xs
  | _ => False
theorem withL_ex {d : D} {m : Mu} {B : List D → Prop} (h : withL d m B) : ∃ xs, lstOf m d = some xs ∧ B xs := by
  cases d with
  | lst xs => exact ⟨xs, rfl, h⟩
  | ref k => obtain ⟨xs, e, h⟩ := h; exact ⟨xs, lstOf_ref e, h⟩
  | _ => exact h.elim
/-- a list or a tuple -/
def withS (d : D) (m : Mu) (B : List D → Prop) : Prop := match d with
  | .lst xs => B xs
  | .tup xs => B xs
  | .ref k => ∃ xs, m k = some (.lst xs) ∧ B xs
  | _ => False
theorem withS_ex {d : D} {m : Mu} {B : List D → Prop} (h : withS d m B) : (∃ xs, lstOf m d = some xs ∧ B xs) ∨ ∃ xs, d = .tup xs ∧ B xs := by
  cases d with
  | lst xs => exact .inl ⟨xs, rfl, h⟩
  | tup xs => exact .inr ⟨xs, rfl, h⟩
  | ref k => obtain ⟨xs, e, h⟩ := h; exact .inl ⟨xs, lstOf_ref e, h⟩
  | _ => exact h.elim
def onI (d : D) (B : Int → Prop) : Prop := match d with
  | .int i => B i
  | _ => False
theorem onI_ex {d : D} {B : Int → Prop} (h : onI d B) : ∃ i, d = .int i ∧ B i := by
  cases d with
  | int i => exact ⟨i, rfl, h⟩
  | _ => exact h.elim
def onS (d : D) (B : Str → Prop) : Prop := match d with
  | .str i => B i
  | _ => False
theorem onS_ex {d : D} {B : Str → Prop} (h : onS d B) : ∃ i, d = .str i ∧ B i := by
  cases d with
  | str i => exact ⟨i, rfl, h⟩
  | _ => exact h.elim

def onO {α : Type} (o : Option α) (F : α → Prop) : Prop := match o with
  | some d => F d
  | none => False
theorem onO_ex {α : Type} {o : Option α} {F : α → Prop} (h : onO o F) : ∃ d, o = some d ∧ F d := by
  cases o with
  | none => exact h.elim
  | some d => exact ⟨d, rfl, h⟩
theorem onO_of {α : Type} {o : Option α} {F : α → Prop} {d : α} (e : o = some d) (h : F d) : onO o F := by rw [e]; exact h

section
variable {X : Cx} {K : PySem.W.Frag}
/-! ### + -/
def addR : RD2 := fun x y m F => match x with
  | .int i => onI y fun j => F (.int (i + j)) m
  | .str a => onS y fun b => a.length + b.length ≤ sizeLine ∧ F (.str (a ++ b)) m
  | .tup xs => (match y with
    | .tup ys => xs.length + ys.length ≤ sizeLine ∧ F (.tup (xs ++ ys)) m
    | _ => False)
  | x => withL x m fun xs => withL y m fun ys => xs.length + ys.length ≤ sizeLine ∧ New (.lst (xs ++ ys)) m F
def rAddU (K : PySem.W.Frag) : R2 := fun x y H Q => (rI0 fun i j => .int (i + j)) x y H Q ∨ (∃ i j, x = .str i ∧ y = .str j ∧ i.length + j.length ≤ sizeLine ∧ Q (.str (i ++ j)) H) ∨ rCatA K x y H Q ∨ rCat x y H Q
theorem op_addU : OpR X (binaryOp .Add) (rAddU X.K) := op_add.or (op_add_str.or (op_catA.or op_cat))
theorem lr_cat {H : Hp} {W : Wd} {m : Mu} {x y : D} {v u : V} {F : DK} {Q : VK} (hh : Held K W m H) (rx : Rep K W x v) (ry : Rep K W y u) (h : withL x m fun xs => withL y m fun ys => xs.length + ys.length ≤ sizeLine ∧ New (.lst (xs ++ ys)) m F)
    (q : ∀ v' H' d W' m', Stp K W m H W' m' H' → Rep K W' d v' → F d m' → Q v' H') : rCat v u H Q := by
  obtain ⟨xs, ex, h⟩ := withL_ex h
  obtain ⟨ys, ey, hl, h⟩ := withL_ex h
  obtain ⟨p, vs, rfl, hp, r1⟩ := lst_at hh rx ex
  obtain ⟨p2, us, rfl, hp2, r2⟩ := lst_at hh ry ey
  exact ⟨p, p2, vs, us, rfl, rfl, hp, hp2, by rw [← r1.length, ← r2.length]; exact hl, fun a ha => new_ok hh (o := .lst (xs ++ ys)) (ho := .lst (vs ++ us)) ⟨_, rfl, r1.append r2⟩ h q ha⟩
theorem lr_add : LR2 K (rAddU K) addR := fun H W m x y v u F Q hh rx ry h q => by
  cases x with
  | int i =>
    obtain ⟨j, rfl, h⟩ := onI_ex h
    exact .inl ⟨i, j, rep_int rx, rep_int ry, q _ _ _ _ _ (.refl hh) (.int _) h⟩
  | str a =>
    obtain ⟨b, rfl, hl, h⟩ := onS_ex h
    exact .inr (.inl ⟨a, b, rep_str rx, rep_str ry, hl, q _ _ _ _ _ (.refl hh) (.str _) h⟩)
  | tup xs =>
    cases y with
    | tup ys =>
      obtain ⟨hl, h⟩ := h
      obtain ⟨p, vs, rfl, hp, r1⟩ := tup_at hh rx rfl
      obtain ⟨p2, us, rfl, hp2, r2⟩ := tup_at hh ry rfl
      refine .inr (.inr (.inl ⟨p, p2, vs, us, rfl, rfl, SqT.of hp, SqT.of hp2, by rw [← r1.length, ← r2.length]; exact hl, fun e => ?_, fun _ e => ?_, fun _ _ a ha => ?_⟩))
      · subst e
        cases r1
        exact q _ _ _ _ _ (.refl hh) ry h
      · subst e
        cases r2
        rw [List.append_nil] at h
        exact q _ _ _ _ _ (.refl hh) rx h
      · have t := tup_new hh (r1.append r2) ha
        exact q _ _ _ _ _ t.1 t.2 h
    | _ => exact h.elim
  | lst xs => exact .inr (.inr (.inr (lr_cat hh rx ry h q)))
  | ref k => exact .inr (.inr (.inr (lr_cat hh rx ry h q)))
  | _ => exact h.elim
/-! ### ints -/
def intR (g : Int → Int → D) : RD2 := fun x y m F => onI x fun i => onI y fun j => F (g i j) m
def intRc (C : Int → Int → Prop) (g : Int → Int → D) : RD2 := fun x y m F => onI x fun i => onI y fun j => C i j ∧ F (g i j) m
theorem lr_int {g : Int → Int → D} {g' : Int → Int → V} (hg : ∀ W i j, Rep K W (g i j) (g' i j)) : LR2 K (rI0 g') (intR g) := fun H W m x y v u F Q hh rx ry h q => by
  obtain ⟨i, rfl, h⟩ := onI_ex (d := x) h
  obtain ⟨j, rfl, h⟩ := onI_ex (d := y) h
  exact ⟨i, j, rep_int rx, rep_int ry, q _ _ _ _ _ (.refl hh) (hg W i j) h⟩
theorem lr_intc {C : Int → Int → Prop} {g : Int → Int → D} {g' : Int → Int → V} (hg : ∀ W i j, Rep K W (g i j) (g' i j)) : LR2 K (rI C g') (intRc C g) := fun H W m x y v u F Q hh rx ry h q => by
  obtain ⟨i, rfl, h⟩ := onI_ex (d := x) h
  obtain ⟨j, rfl, hc, h⟩ := onI_ex (d := y) h
  exact ⟨i, j, rep_int rx, rep_int ry, hc, q _ _ _ _ _ (.refl hh) (hg W i j) h⟩
variable {pos p1 apos : Pos} {a b c e : Expr} {es : List Expr} {ta tb : TE} {da db de : TD} {te : TE} {ts : TA} {dts : TDA}
theorem de_add (ha : DE X a ta da) (hb : DE X b tb db) : DE X (.BinOp a .Add b pos) (tOp (rAddU X.K) ta tb) (dOp addR da db) := de_op op_addU lr_add ha hb
theorem de_sub (ha : DE X a ta da) (hb : DE X b tb db) : DE X (.BinOp a .Sub b pos) (tOp (rI0 fun i j => .int (i - j)) ta tb) (dOp (intR fun i j => .int (i - j)) da db) := de_op op_sub (lr_int fun _ _ _ => .int _) ha hb
theorem de_mul (ha : DE X a ta da) (hb : DE X b tb db) : DE X (.BinOp a .Mult b pos) (tOp (rI CMulX fun i j => .int (i * j)) ta tb) (dOp (intRc CMulX fun i j => .int (i * j)) da db) := de_op op_mulX (lr_intc fun _ _ _ => .int _) ha hb
theorem de_mod (ha : DE X a ta da) (hb : DE X b tb db) : DE X (.BinOp a .Mod b pos) (tOp (rI (fun _ j => 0 < j) fun i j => .int (i % j)) ta tb) (dOp (intRc (fun _ j => 0 < j) fun i j => .int (i % j)) da db) := de_op op_mod (lr_intc fun _ _ _ => .int _) ha hb
theorem de_fdiv (ha : DE X a ta da) (hb : DE X b tb db) : DE X (.BinOp a .FloorDiv b pos) (tOp (rI CDivW fun i j => .int (i / j)) ta tb) (dOp (intRc CDivW fun i j => .int (i / j)) da db) := de_op op_fdivW (lr_intc fun _ _ _ => .int _) ha hb
def CPowW (i j : Int) : Prop := 0 ≤ j ∧ (Builtin.Int.intBits i : Int) * j ≤ 2 ^ 27
theorem op_powW : OpR X (binaryOp .Pow) (rI CPowW fun i j => .int (i ^ j.toNat)) := opI fun _ _ _ _ _ _ _ hc q => PyProof.Rows.pow_int hc.1 hc.2 q
theorem de_pow (ha : DE X a ta da) (hb : DE X b tb db) : DE X (.BinOp a .Pow b pos) (tOp (rI CPowW fun i j => .int (i ^ j.toNat)) ta tb) (dOp (intRc CPowW fun i j => .int (i ^ j.toNat)) da db) := de_op op_powW (lr_intc fun _ _ _ => .int _) ha hb
theorem de_neg (ha : DE X a ta da) : DE X (.UnaryOp .USub a pos) (tUn (rU fun i => .int (-i)) ta) (dUn (fun x m F => onI x fun i => F (.int (-i)) m) da) := de_un un_neg (fun H W m x v F Q hh rx h q => by
  obtain ⟨i, rfl, h⟩ := onI_ex h
  exact ⟨i, rep_int rx, q _ _ _ _ _ (.refl hh) (.int _) h⟩) ha
abbrev ltR : RD2 := intR fun i j => .bl (decide (i < j))
abbrev leR : RD2 := intR fun i j => .bl (decide (i ≤ j))
abbrev gtR : RD2 := intR fun i j => .bl (decide (j < i))
abbrev geR : RD2 := intR fun i j => .bl (decide (j ≤ i))
theorem lr_lt : LR2 K (rI0 fun i j => .bl (decide (i < j))) ltR := lr_int fun _ _ _ => .bl _
theorem lr_le : LR2 K (rI0 fun i j => .bl (decide (i ≤ j))) leR := lr_int fun _ _ _ => .bl _
theorem lr_gt : LR2 K (rI0 fun i j => .bl (decide (j < i))) gtR := lr_int fun _ _ _ => .bl _
theorem lr_ge : LR2 K (rI0 fun i j => .bl (decide (j ≤ i))) geR := lr_int fun _ _ _ => .bl _
/-! ### None -/
def isNon : D → Bool
  | .non => true
  | _ => false
def isNR : RD2 := fun x y m F => match y with
  | .non => (match x with
    | .opq _ => False
    | x => F (.bl (isNon x)) m)
  | _ => False
def notNR : RD2 := fun x y m F => match y with
  | .non => (match x with
    | .opq _ => False
    | x => F (.bl (!isNon x)) m)
  | _ => False
theorem isNon_rep {W : Wd} {x : D} {v : V} (r : Rep K W x v) (h : ∀ w, x ≠ .opq w) : decide (v = .non) = isNon x := by
  cases r with
  | opq v => exact absurd rfl (h v)
  | _ => first | rfl | exact decide_eq_false (fun z => nomatch z)
theorem lr_isN : LR2 K (fun x y H Q => y = .non ∧ Q (.bl (decide (x = .non))) H) isNR := fun H W m x y v u F Q hh rx ry h q => by
  cases y with
  | non =>
    refine ⟨rep_non ry, ?_⟩
    cases x with
    | opq w => exact h.elim
    | _ => rw [isNon_rep rx (fun w z => nomatch z)]; exact q _ _ _ _ _ (.refl hh) (.bl _) h
  | _ => exact h.elim
theorem lr_notN : LR2 K (fun x y H Q => y = .non ∧ Q (.bl (!decide (x = .non))) H) notNR := fun H W m x y v u F Q hh rx ry h q => by
  cases y with
  | non =>
    refine ⟨rep_non ry, ?_⟩
    cases x with
    | opq w => exact h.elim
    | _ => rw [isNon_rep rx (fun w z => nomatch z)]; exact q _ _ _ _ _ (.refl hh) (.bl _) h
  | _ => exact h.elim
/-! ### items, slices -/
def ixR : RD2 := fun x y m F => onI y fun i => match x with
  | .str z => z.length ≤ sizeLine ∧ onO (atI z.cps.toList i) fun c => F (.str ⟨#[c]⟩) m
  | x => withS x m fun xs => onO (atI xs i) fun d => F d m
theorem atI_rep {W : Wd} {xs : List D} {vs : List V} {i : Int} {d : D} (r : RepL K W xs vs) (h : atI xs i = some d) : ∃ v, atI vs i = some v ∧ Rep K W d v := by
  unfold atI at h ⊢
  rw [← r.length]
  cases e : ixN xs.length i with
  | none => rw [e] at h; cases h
  | some j =>
    rw [e] at h
    obtain ⟨v, a, b⟩ := r.get' (show xs[j]? = some d from h)
    exact ⟨v, a, b⟩
theorem lr_ix : LR2 K (rIx K) ixR := fun H W m x y v u F Q hh rx ry h q => by
  obtain ⟨i, rfl, h⟩ := onI_ex h
  have ei := rep_int ry
  have seq : (withS x m fun xs => onO (atI xs i) fun d => F d m) → rIx K v u H Q := fun h => by
    rcases withS_ex h with ⟨xs, e, h⟩ | ⟨xs, rfl, h⟩
    · obtain ⟨d, hd, h⟩ := onO_ex h
      obtain ⟨p, vs, rfl, hp, rl⟩ := lst_at hh rx e
      obtain ⟨w, hw, rw'⟩ := atI_rep rl hd
      exact .inl ⟨p, vs, i, w, rfl, ei, SqL.of hp, hw, q _ _ _ _ _ (.refl hh) rw' h⟩
    · obtain ⟨d, hd, h⟩ := onO_ex h
      obtain ⟨p, vs, rfl, hp, rl⟩ := tup_at hh rx rfl
      obtain ⟨w, hw, rw'⟩ := atI_rep rl hd
      exact .inr (.inl ⟨p, vs, i, w, rfl, ei, SqT.of hp, hw, q _ _ _ _ _ (.refl hh) rw' h⟩)
  cases x with
  | str z =>
    obtain ⟨hl, h⟩ := h
    obtain ⟨c, hc, h⟩ := onO_ex h
    exact .inr (.inr ⟨z, i, c, rep_str rx, ei, hl, hc, q _ _ _ _ _ (.refl hh) (.str _) h⟩)
  | _ => exact seq h
theorem de_item (ha : DE X a ta da) (hb : DE X b tb db) (hs : PlainIx b := by exact fun _ _ => rfl) : DE X (.Subscript a b pos) (tOp (rIx X.K) ta tb) (dOp ixR da db) := de_ix ix_seq lr_ix ha hb hs
/-- an optional part of a slice -/
abbrev TDO := REnv → Mu → (Option Int → Mu → Prop) → Prop
def LO (K : PySem.W.Frag) (te : TO) (t : TDO) : Prop := ∀ (σ : St) (H : Hp) (W : Wd) (ρ : REnv) (m : Mu) (F : Option Int → Mu → Prop) (Q : Option Int → Hp → Prop), Held K W m H → RepE K W ρ σ → t ρ m F →
  (∀ o H' W' m', Stp K W m H W' m' H' → F o m' → Q o H') → te σ H Q
structure DO (X : Cx) (e : Option Expr) (te : TO) (t : TDO) : Prop where
  po : PO X e te
  up : LO X.K te t
def dNoPart : TDO := fun _ m F => F none m
def dPart (t : TD) : TDO := fun ρ m F => t ρ m fun d m1 => onI d fun i => F (some i) m1
theorem do_none : DO X none tNoPart dNoPart := ⟨po_none, fun σ H W ρ m F Q hh re h q => q _ _ _ _ (.refl hh) h⟩
theorem do_some (h : DE X e te de) : DO X (some e) (tPart te) (dPart de) := ⟨po_some h.pe, fun σ H W ρ m F Q hh re hd q => h.up σ H W ρ m _ _ hh re hd fun v H1 d W1 m1 s1 r1 h1 => by
  obtain ⟨i, rfl, h1⟩ := onI_ex h1
  exact ⟨i, rep_int r1, q _ _ _ _ s1 h1⟩⟩
def cutD (xs : List D) (lo hi : Option Int) : List D := (xs.drop (HT.sIx xs.length 0 lo)).take (HT.sIx xs.length xs.length hi - HT.sIx xs.length 0 lo)
theorem cut_rep {W : Wd} {xs : List D} {vs : List V} (r : RepL K W xs vs) (lo hi : Option Int) : RepL K W (cutD xs lo hi) (cutV vs lo hi) := by
  unfold cutD cutV
  rw [← r.length]
  exact (r.drop _).take _
def slR : D → Option Int → Option Int → Mu → DK → Prop := fun x lo hi m F => match x with
  | .str z => z.length ≤ sizeLine ∧ F (.str (cutS z lo hi)) m
  | .tup xs => F (.tup (cutD xs lo hi)) m
  | .scr ns => New (.lst (cutD (ns.map D.int) lo hi)) m F
  | x => withL x m fun xs => New (.lst (cutD xs lo hi)) m F
def rSlU (K : PySem.W.Frag) : V → Option Int → Option Int → Hp → VK → Prop := fun x lo hi H Q => (∃ z, x = .str z ∧ z.length ≤ sizeLine ∧ Q (.str (cutS z lo hi)) H) ∨ rSlA K x lo hi H Q ∨ rSlL K x lo hi H Q
theorem sl_U : SlR X (rSlU X.K) := sl_str.or (sl_tupA.or sl_list)
theorem cut_whole {xs : List D} {lo hi : Option Int} (h1 : HT.sIx xs.length 0 lo = 0) (h2 : HT.sIx xs.length xs.length hi = xs.length) : cutD xs lo hi = xs := by
  unfold cutD; rw [h1, h2, List.drop_zero, Nat.sub_zero, List.take_length]
theorem lr_sl {H : Hp} {W : Wd} {m : Mu} {x : D} {v : V} {lo hi : Option Int} {F : DK} {Q : VK} (hh : Held K W m H) (rx : Rep K W x v) (h : slR x lo hi m F) (q : ∀ v' H' d W' m', Stp K W m H W' m' H' → Rep K W' d v' → F d m' → Q v' H') : rSlU K v lo hi H Q := by
  have seq : (withL x m fun xs => New (.lst (cutD xs lo hi)) m F) → rSlU K v lo hi H Q := fun h => by
    obtain ⟨xs, e, h⟩ := withL_ex h
    obtain ⟨p, vs, rfl, hp, rl⟩ := lst_at hh rx e
    exact .inr (.inr ⟨p, vs, rfl, SqL.of hp, fun a ha => new_ok hh (o := .lst (cutD xs lo hi)) (ho := .lst (cutV vs lo hi)) ⟨_, rfl, cut_rep rl lo hi⟩ h q ha⟩)
  cases x with
  | str z => exact .inl ⟨z, rep_str rx, h.1, q _ _ _ _ _ (.refl hh) (.str _) h.2⟩
  | tup xs =>
    obtain ⟨p, vs, rfl, hp, rl⟩ := tup_at hh rx rfl
    refine .inr (.inl ⟨p, vs, rfl, SqT.of hp, fun ⟨h1, h2⟩ => ?_, fun _ a ha => ?_⟩)
    · rw [← rl.length] at h1 h2
      have h : F (.tup (cutD xs lo hi)) m := h
      rw [cut_whole h1 h2] at h
      exact q _ _ _ _ _ (.refl hh) rx h
    · have t := tup_new hh (cut_rep rl lo hi) ha
      exact q _ _ _ _ _ t.1 t.2 h
  | scr ns =>
    cases rx with
    | scr hs =>
      refine .inr (.inr ⟨_, _, rfl, sqL_le hh.G hs, fun a ha => new_ok hh (o := .lst (cutD (ns.map D.int) lo hi)) (ho := .lst (cutV (ns.map V.int) lo hi)) ⟨_, rfl, cut_rep (.ints ns) lo hi⟩ h q ha⟩)
  | lst xs => exact seq h
  | ref k => exact seq h
  | _ => exact h.elim
def dSl (t : TD) (tl th : TDO) : TD := fun ρ m F => t ρ m fun x m1 => tl ρ m1 fun lo m2 => th ρ m2 fun hi m3 => slR x lo hi m3 F
theorem de_slice {lo hi : Option Expr} {tl th : TO} {dl dh : TDO} {p2 : Pos} (he : DE X e te de) (hl : DO X lo tl dl) (hu : DO X hi th dh) : DE X (.Subscript e (.Slice lo hi none p2) pos) (tSl (rSlU X.K) te tl th) (dSl de dl dh) :=
  ⟨pe_slice sl_U he.pe hl.po hu.po, fun σ H W ρ m F Q hh re h q => he.up σ H W ρ m _ _ hh re h fun v H1 d W1 m1 s1 r1 h1 => hl.up σ H1 W1 ρ m1 _ _ s1.held (re.mono s1.le) h1 fun l H2 W2 m2 s2 h2 =>
    hu.up σ H2 W2 ρ m2 _ _ s2.held (re.mono (s1.le.trans s2.le)) h2 fun u H3 W3 m3 s3 h3 => lr_sl s3.held (r1.mono (s2.le.trans s3.le)) h3 fun v4 H4 d4 W4 m4 s4 r4 h4 => q _ _ _ _ _ (((s1.trans hh s2).trans hh s3).trans hh s4) r4 h4⟩
end
end DL

/-! == and != by an own __eq__, both answers. -/
namespace DQ
open PySem PySem.W PySem.Calls PyProof.Rows Builtin

section
variable {prog : Program} {w : World} {M : Model} {A : Around} {E : Value → Shared → Prop} {s : Shared} {K : Frag} {x C L f : Addr} {h₀ : Heap} {m : Str → Option Value} {ox : Obj} {od : Option Obj} {name : Str} {id : String} {b tb : Value}
theorem ifBoundB {args : List Value} {Q : Option Value → Shared → Prop} (X : K.In s.heap) (I : InstAt s.heap x ox C od) (hs : findIn K (.ref C) name = some (some (.builtin id))) (hb : ∀ self, bindSpecial (.builtin id) self = pure (.builtin id, [self]))
    (h : wpAny M A (call (.builtin id) (.ref x :: args)) (fun v => Q (some v)) E s) : wpAny M A (callSpecialIfBound? (.ref x) name args) Q E s := by
  simp only [callSpecialIfBound?, bindSpecialIfBound?]
  refine wpAny_holding (wpAny_bind (wpAny_bind (wpAny_bind (I.type.here ((looks_findIn X hs).here ?_)))))
  refine wpAny_bind (wpAny_askSetting (wpAny_ite ?_))
  have fin : wpAny M A (call (.builtin id) ([.ref x] ++ args) >>= fun v => pure (some v)) Q E s := wpAny_bind (wpAny_mono h (fun v s' h' => wpAny_pure h') fun _ _ h' => h')
  split
  · exact wpAny_bind ((Looks.of_pure (hb _)).here (wpAny_pure (by exact fin)))
  · exact wpAny_tryCatch (wpAny_bind ((Looks.of_pure (hb _)).here (wpAny_pure (by exact fin))))
theorem one_ne {Q : Option Value → Shared → Prop} (hu : A.units + 1 < cLine) (X : K.In s.heap) (I : InstAt s.heap x ox C od) (hs : findIn K (.ref C) "__ne__" = some (some (.builtin "object.__ne__"))) (hm : mroIn K C (.type "object") = some true)
    (he : findIn K (.ref C) "__eq__" = some (some (.ref f))) (hf : isFn K (.ref f) = true)
    (h : wpAny (model prog w) A.in1 (call (.ref f) [.ref x, b]) (fun v s' => ∃ r, v = .bool r ∧ Q (some (.bool (!r))) s') E s) : wpAny (model prog w) A (tryCompare (.ref x) "__ne__" b) Q E s := by
  unfold tryCompare
  refine wpAny_bind (ifBoundB X I hs (fun _ => rfl) (wpAny_call (codeAny_call_builtin (by decide +kernel) PySem.F.cmpEntry_ne (check_slot (i := "object.__ne__") (owner := "object") (n := "__ne__") (by decide +kernel) (by decide +kernel) (I.type.andThen (looks_mroIn X hm)) (PySem.F.cmpArgs_ne _ _) ?_))))
  unfold Builtin.«object.__ne__»
  refine wpAny_bind (m := slotArgs "__ne__" 1 _) (wpAny_pure ?_)
  refine wpAny_bind (m := cRoomFor _ _) (wpAny_cRoomFor hu ?_)
  refine wpAny_bind (m := callSpecialIfBound? (.ref x) (Str.ofString "__eq__") _) (ifBound_K X I he hf (wpAny_mono h (fun v s' hv => ?_) fun _ _ y => y))
  obtain ⟨r, rfl, hq⟩ := hv
  refine wpAny_bind (wpAny_truthy_bool (wpAny_pure ?_))
  exact wpAny_pure hq
theorem ne_own {Q : Value → Shared → Prop} (hu : A.units + 1 < cLine) (F : Fr h₀ L s.heap m) (X₀ : K.In h₀) (I : InstAt s.heap x ox C od) (hb : Looks (model prog w) s.heap (typeOf b) tb) (hn : notFirst K C tb = true)
    (hs : findIn K (.ref C) "__ne__" = some (some (.builtin "object.__ne__"))) (hm : mroIn K C (.type "object") = some true) (he : findIn K (.ref C) "__eq__" = some (some (.ref f))) (hf : isFn K (.ref f) = true)
    (h : wpAny (model prog w) A.in1 (call (.ref f) [.ref x, b]) (fun v s' => ∃ r, v = .bool r ∧ Q (.bool (!r)) s') E s) : wpAny (model prog w) A (richCompare .NotEq (.ref x) b) Q E s := by
  have X := X₀.keeps F.keep
  have one : wpAny (model prog w) A (tryCompare (.ref x) (cmpInfo .NotEq).2.1 b) (fun r s' => ∃ v, r = some v ∧ Q v s') E s :=
    one_ne hu X I hs hm he hf (wpAny_mono h (fun v s' ⟨r, e, hq⟩ => ⟨r, e, _, rfl, hq⟩) fun _ _ e => e)
  unfold richCompare
  simp only [oneThing_ref]
  refine wpAny_holding (wpAny_bind (wpAny_cRoomFor (Nat.lt_of_succ_lt hu) ?_))
  refine wpAny_bind (I.type.here (wpAny_bind (hb.here ?_)))
  split
  · rename_i q
    have e : subIn K tb (.ref C) = some false := by
      rcases Bool.or_eq_true_iff.mp hn with e | e
      · rw [beq_iff_eq.mp e] at q; simp at q
      · exact beq_iff_eq.mp e
    refine wpAny_bind ((looks_subIn X e).here ?_)
    simp only [Bool.false_eq_true, if_false]
    refine wpAny_bind (wpAny_mono one (fun r s' z => ?_) fun _ _ e => e)
    obtain ⟨v, rfl, hq⟩ := z
    exact wpAny_pure hq
  · refine wpAny_bind (wpAny_pure ?_)
    simp only [Bool.false_eq_true, if_false]
    refine wpAny_bind (wpAny_mono one (fun r s' z => ?_) fun _ _ e => e)
    obtain ⟨v, rfl, hq⟩ := z
    exact wpAny_pure hq
end
end DQ

/-! == and != of two lists whose items are compared by any rule, both answers. -/
namespace DQ
open PySem PySem.SeqAt
open AutoSeq1 (wpAny_loadPart')
open MeetsSeq MeetsSeq2 MeetsSeq3 SeqRoads2

section
variable {prog : Program} {w : World} {A : Around} {R : Result → Shared → Prop}
abbrev FinB (prog : Program) (w : World) (A : Around) (R : Result → Shared → Prop) : Fin → Shared → Prop := fun fi s' => match fi with
  | .done f => R (.ok f) s'
  | .again c' => c'.quiet = true ∧ codeAny (model prog w) A c' R s'
/-- the two lists as they stand -/
def Two (l b : Addr) (N : Nat) (s : Shared) : Prop := ∃ (items items2 : Array Value) (n n2 : Nat), s.heap.get? l = some { cls := .type "list", data := .seq items n } ∧ s.heap.get? b = some { cls := .type "list", data := .seq items2 n2 } ∧ items.size = N ∧ items2.size = N
def TurnB (prog : Program) (w : World) (A : Around) (E : Value → Shared → Prop) (l b : Addr) (N : Nat) (I : Nat → Shared → Prop) (J : Shared → Prop) : Prop :=
  (∀ i s, I i s → Two l b N s) ∧ (∀ s, J s → Two l b N s) ∧
  ∀ i s, i < N → I i s → ∀ x y items items2 n n2, s.heap.get? l = some { cls := .type "list", data := .seq items n } → s.heap.get? b = some { cls := .type "list", data := .seq items2 n2 } → items[i]? = some x → items2[i]? = some y →
    wpAny (model prog w) A.in1 (eqBool x y) (fun r s' => (r = true ∧ I (i + 1) s') ∨ (r = false ∧ J s')) E s
/-- the sign of the comparison: 2 for ==, 3 for != -/
def sg (q : Bool) : Int := if q then 2 else 3
theorem loopB (q : Bool) (l b : Addr) (N : Nat) (I : Nat → Shared → Prop) (J : Shared → Prop) (T : TurnB prog w A (fun e s' => R (.error e) s') l b N I J)
    (fin : ∀ s, I N s → R (.ok (.ret (.bool q))) s) (fout : ∀ s, J s → R (.ok (.ret (.bool (!q)))) s) (k : Nat) :
    ∀ i : Nat, N - i = k → i ≤ N → ∀ s, I i s →
      wpAny (model prog w) A.in1 (Builtin.«list.__eq__.loop» ⟨[.ref l, .ref b, rawInt i, rawInt (sg q)], []⟩) (FinB prog w A R) (fun e s' => R (.error e) s') s := by
  obtain ⟨t1, t2, t3⟩ := T
  induction k with
  | zero =>
    intro i hk hi s h
    obtain ⟨items, items2, n, n2, hl1, hb1, hs1, hs2⟩ := t1 _ _ h
    have hi' : i = N := by omega
    have hR : R (.ok (.ret (.bool q))) s := fin s (hi' ▸ h)
    obtain ⟨hp, g, d, tk, os⟩ := s
    have hi1 : items[((i : Nat) : Int).toNat]? = none := by simp; omega
    have hi2 : items2[((i : Nat) : Int).toNat]? = none := by simp; omega
    cases q with
    | true =>
      have e : sg true = 2 := rfl
      rw [e]
      wp_walk using wpAny_loadPart' hl1, wpAny_loadPart' hb1
      rw [hi1, hi2]
      wp_walk using wpAny_loadPart' hl1, wpAny_loadPart' hb1
      show R (.ok (.ret (.bool (items.size == items2.size)))) _
      rw [hs1, hs2]
      simpa using hR
    | false =>
      have e : sg false = 3 := rfl
      rw [e]
      wp_walk using wpAny_loadPart' hl1, wpAny_loadPart' hb1
      rw [hi1, hi2]
      wp_walk using wpAny_loadPart' hl1, wpAny_loadPart' hb1
      show R (.ok (.ret (.bool (items.size != items2.size)))) _
      rw [hs1, hs2]
      simpa using hR
  | succ k ih =>
    intro i hk hi s h
    obtain ⟨items, items2, n, n2, hl1, hb1, hs1, hs2⟩ := t1 _ _ h
    have hlt : i < items.size := by omega
    have hlt2 : i < items2.size := by omega
    have ht := t3 i s (by omega) h items[i] items2[i] items items2 n n2 hl1 hb1 (by simp [hlt]) (by simp [hlt2])
    have hi1 : items[((i : Nat) : Int).toNat]? = some items[i] := by simp [hlt]
    have hi2 : items2[((i : Nat) : Int).toNat]? = some items2[i] := by simp [hlt2]
    have hc : ((i : Int) + 1) = ((i + 1 : Nat) : Int) := by omega
    obtain ⟨hp, g, d, tk, os⟩ := s
    cases q with
    | true =>
      have e : sg true = 2 := rfl
      rw [e]
      wp_walk using wpAny_loadPart' hl1, wpAny_loadPart' hb1
      rw [hi1, hi2]
      refine wpAny_bind (wpAny_mono ht (fun r s2 h2 => ?_) fun _ _ x => x)
      rcases h2 with ⟨hr, h2⟩ | ⟨hr, h2⟩
      · subst hr
        have hrec := ih (i + 1) (by omega) (by omega) s2 h2
        rw [e] at hrec
        obtain ⟨hp2, g2, d2, tk2, os2⟩ := s2
        wp_walk
        rw [hc]
        exact ⟨plainId_quiet plain_eq_loop _, codeAny_builtin entry_eq_loop (by
          rw [Around.under_plainId plain_eq_loop _]
          exact hrec)⟩
      · subst hr
        have hR := fout s2 h2
        obtain ⟨xs, ys, n', n2', hl2, hb2, hs1', hs2'⟩ := t2 s2 h2
        obtain ⟨hp2, g2, d2, tk2, os2⟩ := s2
        have hi1' : xs[((i : Nat) : Int).toNat]? = some xs[i] := by simp
        have hi2' : ys[((i : Nat) : Int).toNat]? = some ys[i] := by simp
        wp_walk using wpAny_loadPart' hl2, wpAny_loadPart' hb2
        rw [hi1', hi2']
        exact wpAny_pure hR
    | false =>
      have e : sg false = 3 := rfl
      rw [e]
      wp_walk using wpAny_loadPart' hl1, wpAny_loadPart' hb1
      rw [hi1, hi2]
      refine wpAny_bind (wpAny_mono ht (fun r s2 h2 => ?_) fun _ _ x => x)
      rcases h2 with ⟨hr, h2⟩ | ⟨hr, h2⟩
      · subst hr
        have hrec := ih (i + 1) (by omega) (by omega) s2 h2
        rw [e] at hrec
        obtain ⟨hp2, g2, d2, tk2, os2⟩ := s2
        wp_walk
        rw [hc]
        exact ⟨plainId_quiet plain_eq_loop _, codeAny_builtin entry_eq_loop (by
          rw [Around.under_plainId plain_eq_loop _]
          exact hrec)⟩
      · subst hr
        have hR := fout s2 h2
        obtain ⟨xs, ys, n', n2', hl2, hb2, hs1', hs2'⟩ := t2 s2 h2
        obtain ⟨hp2, g2, d2, tk2, os2⟩ := s2
        have hi1' : xs[((i : Nat) : Int).toNat]? = some xs[i] := by simp
        have hi2' : ys[((i : Nat) : Int).toNat]? = some ys[i] := by simp
        wp_walk using wpAny_loadPart' hl2, wpAny_loadPart' hb2
        rw [hi1', hi2']
        exact wpAny_pure hR
end
end DQ

namespace DQ
open PySem PySem.SeqAt
open AutoSeq1 (wpAny_loadPart')
open MeetsSeq MeetsSeq2 MeetsSeq3 SeqRoads2
section
variable {prog : Program} {w : World} {A : Around} {R : Result → Shared → Prop}
theorem list_eqB (l b : Addr) (N : Nat) (I : Nat → Shared → Prop) (J : Shared → Prop) (T : TurnB prog w A (fun e s' => R (.error e) s') l b N I J)
    (fin : ∀ s, I N s → R (.ok (.ret (.bool true))) s) (fout : ∀ s, J s → R (.ok (.ret (.bool false))) s) {s : Shared} (h : I 0 s) :
    wpAny (model prog w) A.in1 (Builtin.«list.__eq__» ⟨[.ref l, .ref b], []⟩) (FinB prog w A R) (fun e s' => R (.error e) s') s := by
  obtain ⟨items, items2, n, n2, hl1, hb1, hs1, hs2⟩ := T.1 _ _ h
  have hrec := loopB (A := A) (R := R) true l b N I J T fin fout _ 0 rfl (Nat.zero_le _) s h
  obtain ⟨hp, g, d, tk, os⟩ := s
  have f3 := AutoSeq1.sub_list_list
  have hne : ¬ (items.size != items2.size) = true := by simp [hs1, hs2]
  wp_walk using wpAny_loadPart' hl1, wpAny_loadPart' hb1
  exact ⟨plainId_quiet plain_eq_loop _, codeAny_builtin entry_eq_loop (by
    rw [Around.under_plainId plain_eq_loop _]
    exact hrec)⟩
theorem list_neB (l b : Addr) (N : Nat) (I : Nat → Shared → Prop) (J : Shared → Prop) (T : TurnB prog w A (fun e s' => R (.error e) s') l b N I J)
    (fin : ∀ s, I N s → R (.ok (.ret (.bool false))) s) (fout : ∀ s, J s → R (.ok (.ret (.bool true))) s) {s : Shared} (h : I 0 s) :
    wpAny (model prog w) A.in1 (Builtin.«list.__ne__» ⟨[.ref l, .ref b], []⟩) (FinB prog w A R) (fun e s' => R (.error e) s') s := by
  obtain ⟨items, items2, n, n2, hl1, hb1, hs1, hs2⟩ := T.1 _ _ h
  have hrec := loopB (A := A) (R := R) false l b N I J T fin fout _ 0 rfl (Nat.zero_le _) s h
  obtain ⟨hp, g, d, tk, os⟩ := s
  have f3 := AutoSeq1.sub_list_list
  have hne : ¬ (items.size != items2.size) = true := by simp [hs1, hs2]
  wp_walk using wpAny_loadPart' hl1, wpAny_loadPart' hb1
  exact ⟨plainId_quiet plain_eq_loop _, codeAny_builtin entry_eq_loop (by
    rw [Around.under_plainId plain_eq_loop _]
    exact hrec)⟩
theorem list_eqL (l b : Addr) {items items2 : Array Value} {n n2 : Nat} (hsz : items.size ≠ items2.size) {s : Shared} (hl1 : s.heap.get? l = some { cls := .type "list", data := .seq items n }) (hb1 : s.heap.get? b = some { cls := .type "list", data := .seq items2 n2 })
    (fout : R (.ok (.ret (.bool false))) s) : wpAny (model prog w) A.in1 (Builtin.«list.__eq__» ⟨[.ref l, .ref b], []⟩) (FinB prog w A R) (fun e s' => R (.error e) s') s := by
  obtain ⟨hp, g, d, tk, os⟩ := s
  have f3 := AutoSeq1.sub_list_list
  have hne : (items.size != items2.size) = true := by simp [hsz]
  wp_walk using wpAny_loadPart' hl1, wpAny_loadPart' hb1
  exact fout
theorem list_neL (l b : Addr) {items items2 : Array Value} {n n2 : Nat} (hsz : items.size ≠ items2.size) {s : Shared} (hl1 : s.heap.get? l = some { cls := .type "list", data := .seq items n }) (hb1 : s.heap.get? b = some { cls := .type "list", data := .seq items2 n2 })
    (fout : R (.ok (.ret (.bool true))) s) : wpAny (model prog w) A.in1 (Builtin.«list.__ne__» ⟨[.ref l, .ref b], []⟩) (FinB prog w A R) (fun e s' => R (.error e) s') s := by
  obtain ⟨hp, g, d, tk, os⟩ := s
  have f3 := AutoSeq1.sub_list_list
  have hne : (items.size != items2.size) = true := by simp [hsz]
  wp_walk using wpAny_loadPart' hl1, wpAny_loadPart' hb1
  exact fout
end
section
variable {prog : Program} {w : World} {A : Around} {E : Value → Shared → Prop} {s : Shared}
/-- q: == (true) or != (false) -/
def opOf (q : Bool) : CmpOp := if q then .Eq else .NotEq
theorem rcB (q : Bool) {l b : Addr} {N : Nat} {Q : Value → Shared → Prop} (hu : A.units < cLine) (I : Nat → Shared → Prop) (J : Shared → Prop) (T : TurnB prog w A E l b N I J)
    (fin : ∀ s, I N s → Q (.bool q) s) (fout : ∀ s, J s → Q (.bool (!q)) s) (h : I 0 s) : wpAny (model prog w) A (richCompare (opOf q) (.ref l) (.ref b)) Q E s := by
  obtain ⟨items, items2, n, n2, hl1, hb1, _, _⟩ := T.1 _ _ h
  cases q with
  | true =>
    refine wpAny_richCompare_same_room (op := .Eq) ⟨_, hl1, rfl⟩ ⟨_, hb1, rfl⟩ F.slot_list_eq (GQ.call_here F.slot_list_eq ⟨_, hl1, rfl⟩ F.entry_list_eq (F.args_list_eq_2 _ _) ?_) hu
    exact list_eqB (R := wants (fun v s' => v ≠ .notImplemented ∧ Q v s') E) l b N I J T (fun s' z => ⟨(fun x => nomatch x), fin s' z⟩) (fun s' z => ⟨(fun x => nomatch x), fout s' z⟩) h
  | false =>
    refine wpAny_richCompare_same_room (op := .NotEq) ⟨_, hl1, rfl⟩ ⟨_, hb1, rfl⟩ F.slot_list_ne (GQ.call_here F.slot_list_ne ⟨_, hl1, rfl⟩ F.entry_list_ne (F.args_list_ne_2 _ _) ?_) hu
    exact list_neB (R := wants (fun v s' => v ≠ .notImplemented ∧ Q v s') E) l b N I J T (fun s' z => ⟨(fun x => nomatch x), fin s' z⟩) (fun s' z => ⟨(fun x => nomatch x), fout s' z⟩) h
theorem rcL (q : Bool) {l b : Addr} {items items2 : Array Value} {n n2 : Nat} {Q : Value → Shared → Prop} (hu : A.units < cLine) (hsz : items.size ≠ items2.size) (hl1 : s.heap.get? l = some { cls := .type "list", data := .seq items n }) (hb1 : s.heap.get? b = some { cls := .type "list", data := .seq items2 n2 })
    (fout : Q (.bool (!q)) s) : wpAny (model prog w) A (richCompare (opOf q) (.ref l) (.ref b)) Q E s := by
  cases q with
  | true =>
    refine wpAny_richCompare_same_room (op := .Eq) ⟨_, hl1, rfl⟩ ⟨_, hb1, rfl⟩ F.slot_list_eq (GQ.call_here F.slot_list_eq ⟨_, hl1, rfl⟩ F.entry_list_eq (F.args_list_eq_2 _ _) ?_) hu
    exact list_eqL (R := wants (fun v s' => v ≠ .notImplemented ∧ Q v s') E) l b hsz hl1 hb1 ⟨(fun x => nomatch x), fout⟩
  | false =>
    refine wpAny_richCompare_same_room (op := .NotEq) ⟨_, hl1, rfl⟩ ⟨_, hb1, rfl⟩ F.slot_list_ne (GQ.call_here F.slot_list_ne ⟨_, hl1, rfl⟩ F.entry_list_ne (F.args_list_ne_2 _ _) ?_) hu
    exact list_neL (R := wants (fun v s' => v ≠ .notImplemented ∧ Q v s') E) l b hsz hl1 hb1 ⟨(fun x => nomatch x), fout⟩
end
end DQ

namespace L2
open PySem PySem.Spec PyProof.Rows
/-- the class at C has an own __eq__ at f, and no own __ne__ -/
structure OwnQ (K : PySem.W.Frag) (C f : Addr) : Prop where
  eq : PySem.W.findIn K (.ref C) "__eq__" = some (some (.ref f))
  ne : PySem.W.findIn K (.ref C) "__ne__" = some (some (.builtin "object.__ne__"))
  fn : PySem.W.isFn K (.ref f) = true
  ob : PySem.W.mroIn K C (.type "object") = some true
section
variable {X : Cx} {k : Nat} {C f : Addr} {fd : FuncData} {ps : List Str} {sp : Sp}
/-- the own __eq__ called on two values, somewhere below the body -/
theorem run_eq {A : Around} {pins : List (Addr × Obj)} {s : Shared} {σ : St} {H : Hp} {x y : V} {u v : Value} {Q : VK} (F : FnOk X.prog X.w X.K X.mg X.base CX0 k f fd ps sp) (sb : Sub X k A) (hb : Binds X.K fd ps []) (I : Inv X pins σ H s) (rx : RelV x u) (ry : RelV y v)
    (h : sp [x, y] H Q E0) : wpAny (model X.prog X.w) A (call (.ref f) [u, v]) (EP X pins σ Q) X.xe s := by
  have e0 : Env0 X.prog X.w X.K X.mg X.base A X.stack s H := by
    have e := I.env0
    exact ⟨by rw [sb.fr]; exact e.frames, e.mod, e.bs, e.bsz, e.funs, e.frf, e.hok, e.bare⟩
  have hl := F.len _ _ _ _ h
  have r2 : Vals [x, y] [u, v] := .cons rx (.cons ry .nil)
  refine wpAny_call (codeAny_mono (F.run A X.stack s H ⟨[u, v], []⟩ [u, v] [x, y] Q E0 sb.room e0 (by
    have := hb s [u, v] I.kIn (by simpa using hl)
    simpa using this) r2 h) fun r s' hq => ?_)
  cases r with
  | error e => exact hq.elim
  | ok fl =>
    cases fl with
    | ret w => exact I.after hq
    | next => exact False.elim hq
    | brk => exact False.elim hq
    | cont => exact False.elim hq
/-- two instances of the class, by its own __eq__ -/
def rOwnQ (C : Addr) (sp : Sp) (q : Bool) : R2 := fun x y H Q => ∃ a b dx dy fs gs, x = .ref a ∧ y = .ref b ∧ H a = some (.ins C dx fs) ∧ H b = some (.ins C dy gs) ∧ sp [x, y] H (fun v H' => ∃ r, v = .bl r ∧ Q (.bl (r == q)) H') E0
theorem rc_ownQ (q : Bool) {A : Around} (F : FnOk X.prog X.w X.K X.mg X.base CX0 k f fd ps sp) (O : OwnQ X.K C f) (hb : Binds X.K fd ps []) (sb : Sub X (k + 1) A) {pins : List (Addr × Obj)} {s : Shared} {σ : St} {H : Hp} {x y : V} {u v : Value} {Q : VK} (I : Inv X pins σ H s) (rx : RelV x u) (ry : RelV y v)
    (h : rOwnQ C sp q x y H Q) : wpAny (model X.prog X.w) A (richCompare (DQ.opOf q) u v) (EP X pins σ Q) X.xe s := by
  obtain ⟨a, b, dx, dy, fs, gs, rfl, rfl, ha, hb', hr⟩ := h
  cases rx
  cases ry
  obtain ⟨mA, J, _⟩ := ins_get I.hok ha
  obtain ⟨mB, J', _⟩ := ins_get I.hok hb'
  obtain ⟨od, J, _⟩ := J.look
  obtain ⟨od', J', _⟩ := J'.look
  obtain ⟨m, hF⟩ := I.fr
  cases q with
  | true =>
    refine PySem.W.cmp_K (op := .Eq) (tb := .ref C) sb.room.units0 hF I.ok.mod.kin J J'.type (by simp [PySem.W.notFirst]) O.eq O.fn (thn (run_eq (x := .ref a) (y := .ref b) F (sb.mono (Nat.le_succ k)) hb I rfl rfl hr) fun w s' ⟨z, H', I', rz, r, ez, qz⟩ => ?_)
    subst ez
    cases rz
    refine ⟨.bl r, H', I', rfl, ?_⟩
    cases r <;> exact qz
  | false =>
    refine DQ.ne_own (C := C) (tb := .ref C) (Nat.lt_of_le_of_lt (Nat.add_le_add_left (by decide) _) sb.room.units) hF I.ok.mod.kin J J'.type (by simp [PySem.W.notFirst]) O.ne O.ob O.eq O.fn (thn (run_eq (x := .ref a) (y := .ref b) F sb.in1 hb I rfl rfl hr) fun w s' ⟨z, H', I', rz, r, ez, qz⟩ => ?_)
    subst ez
    cases rz
    refine ⟨r, rfl, .bl (!r), H', I', rfl, ?_⟩
    cases r <;> exact qz
/-- two lists of such -/
def rOwnL (C : Addr) (sp : Sp) (q : Bool) : R2 := fun x y H Q => ∃ a b xs ys, x = .ref a ∧ y = .ref b ∧ H a = some (.lst xs) ∧ H b = some (.lst ys) ∧ ((xs.length ≠ ys.length ∧ Q (.bl (!q)) H) ∨ (xs.length = ys.length ∧
  ∃ Kf : Nat → Hp → Prop, Kf 0 H ∧ (∀ i H', Kf i H' → H' a = some (.lst xs) ∧ H' b = some (.lst ys)) ∧
    (∀ i x y H', xs[i]? = some x → ys[i]? = some y → Kf i H' → (∃ p, x = .ref p) ∧ (x = y → Kf (i + 1) H') ∧ (x ≠ y → rOwnQ C sp true x y H' fun v H2 => ∃ r, v = .bl r ∧ (r = true → Kf (i + 1) H2) ∧ (r = false → H2 a = some (.lst xs) ∧ H2 b = some (.lst ys) ∧ Q (.bl (!q)) H2))) ∧
    ∀ H', Kf xs.length H' → Q (.bl q) H'))
theorem op_ownL (q : Bool) (F : FnOk X.prog X.w X.K X.mg X.base CX0 k f fd ps sp) (O : OwnQ X.K C f) (hb : Binds X.K fd ps []) (hr : Room (k + 2) X.A) : OpR X (compareOp (DQ.opOf q)) (rOwnL C sp q) := by
  intro pins s σ H x y v u Q I rx ry h
  obtain ⟨a, b, xs, ys, rfl, rfl, ha, hb', h⟩ := h
  cases rx
  cases ry
  have cmp : compareOp (DQ.opOf q) (.ref a) (.ref b) = richCompare (DQ.opOf q) (.ref a) (.ref b) := by cases q <;> rfl
  rw [cmp]
  obtain ⟨z, its, n, r, e⟩ := I.hok a _ ha
  obtain ⟨z2, its2, n2, r2, e2⟩ := I.hok b _ hb'
  rcases h with ⟨hl, hq⟩ | ⟨hl, Kf, k0, kl, kt, kd⟩
  · exact DQ.rcL q hr.units0 (by rw [List.size_toArray, List.size_toArray, ← r.length, ← r2.length]; exact hl) e e2 ⟨.bl (!q), H, I, rfl, hq⟩
  · have two : ∀ {s' : Shared} {H' : Hp}, Inv X pins σ H' s' → H' a = some (.lst xs) → H' b = some (.lst ys) → DQ.Two a b xs.length s' := fun {s' H'} I' h1 h2 => by
      obtain ⟨_, i1, m1, v1, g1⟩ := I'.hok a _ h1
      obtain ⟨_, i2, m2, v2, g2⟩ := I'.hok b _ h2
      exact ⟨i1.toArray, i2.toArray, m1, m2, g1, g2, by rw [List.size_toArray, ← v1.length], by rw [List.size_toArray, ← v2.length, hl]⟩
    refine DQ.rcB q (N := xs.length) hr.units0 (fun i s' => ∃ H', Inv X pins σ H' s' ∧ Kf i H') (fun s' => ∃ H', Inv X pins σ H' s' ∧ H' a = some (.lst xs) ∧ H' b = some (.lst ys) ∧ Q (.bl (!q)) H') ⟨?_, ?_, ?_⟩ ?_ ?_ ⟨H, I, k0⟩
    · rintro i s' ⟨H', I', kk⟩
      exact two I' (kl i H' kk).1 (kl i H' kk).2
    · rintro s' ⟨H', I', h1, h2, _⟩
      exact two I' h1 h2
    · rintro i s' hi ⟨H', I', kk⟩ x y items items2 n n2 g1 g2 gx gy
      obtain ⟨_, i1, m1, v1, q1⟩ := I'.hok a _ (kl i H' kk).1
      obtain ⟨_, i2, m2, v2, q2⟩ := I'.hok b _ (kl i H' kk).2
      rw [q1] at g1; cases g1
      rw [q2] at g2; cases g2
      have hx : xs[i]? = some xs[i] := List.getElem?_eq_getElem hi
      have hi2 : i < ys.length := by rw [← hl]; exact hi
      have hy : ys[i]? = some ys[i] := List.getElem?_eq_getElem hi2
      obtain ⟨u1, w1, ru1⟩ := v1.get hx
      obtain ⟨u2, w2, ru2⟩ := v2.get hy
      have ex : x = u1 := by
        have : i1[i]? = some x := by simpa using gx
        rw [this] at w1; exact Option.some.inj w1
      have ey : y = u2 := by
        have : i2[i]? = some y := by simpa using gy
        rw [this] at w2; exact Option.some.inj w2
      subst ex
      subst ey
      obtain ⟨⟨a0, ha0⟩, t1, t2⟩ := kt i _ _ H' hx hy kk
      have go : xs[i] ≠ ys[i] → wpAny (model X.prog X.w) X.A.in1 (eqBool x y) (fun r s'' => (r = true ∧ ∃ H', Inv X pins σ H' s'' ∧ Kf (i + 1) H') ∨ (r = false ∧ ∃ H', Inv X pins σ H' s'' ∧ H' a = some (.lst xs) ∧ H' b = some (.lst ys) ∧ Q (.bl (!q)) H')) X.xe s' := fun hne => by
        have hq := t2 hne
        obtain ⟨a1, b1, dx, dy, fs, gs, e1, e2, h1, h2, h3⟩ := hq
        have hq2 := t2 hne
        rw [e1] at ru1 hne hq2
        rw [e2] at ru2 hne hq2
        cases ru1
        cases ru2
        refine GQ.eqBool_refG (fun z => hne (by rw [z])) (thn (rc_ownQ (x := .ref a1) (y := .ref b1) true F O hb (Sub.in1 ⟨hr, rfl⟩) I' rfl rfl hq2) fun w s2 ⟨z, H2, I2, rz, r, ez, q1, q2⟩ => ?_)
        subst ez
        cases rz
        cases r with
        | true => exact ⟨true, rfl, .inl ⟨rfl, H2, I2, q1 rfl⟩⟩
        | false => exact ⟨false, rfl, .inr ⟨rfl, H2, I2, q2 rfl⟩⟩
      by_cases hxy : xs[i] = ys[i]
      · have ht := t1 hxy
        rw [← hxy] at ru2
        rw [ha0] at ru1 ru2
        cases ru1
        cases ru2
        exact SeqAt.EqAt.same (A := X.A.in1) (s := s') (.ref a0) X.prog X.w X.xe _ (.inl ⟨rfl, H', I', ht⟩)
      · exact go hxy
    · rintro s' ⟨H', I', kk⟩
      exact ⟨.bl q, H', I', rfl, kd H' kk⟩
    · rintro s' ⟨H', I', h1, h2, hq⟩
      exact ⟨.bl (!q), H', I', rfl, hq⟩
end
end L2

/-! Sets of texts: made of a list, their size, sorted. Turned from the layer's sets of truth values and of ints. -/
namespace DX
open PySem PySem.Spec PyProof.Rows L2
theorem strIs (P : Program) (w : World) (k : Str) (tk : Tok) : (PySem.strKind P w).is k (.str k tk) = true := by simp [PySem.strKind, Value.isStrOf]
theorem strIs_iff {P : Program} {w : World} {k k0 : Str} {tk : Tok} : (PySem.strKind P w).is k (.str k0 tk) = true ↔ k0 = k := by
  simp [PySem.strKind, Value.isStrOf]
/-! ### what a set of texts is -/
def keyT (e : Int × Value) : Str := match e.2 with | .str k _ => k | _ => Str.empty
def GoodT (w : World) (e : Int × Value) : Prop := ∃ k tk, e.2 = Value.str k tk ∧ e.1 = hashStr w k
/-- the set of texts at a: S its members, n their number; its table rises and can be walked -/
def SetT (w : World) (h : Heap) (a : Addr) (S : Str → Bool) (n : Nat) : Prop :=
  ∃ o es ep t, h.get? a = some o ∧ o.ExactSet ∧ o.data = .set es ep t ∧ (∀ e ∈ es.toList, GoodT w e) ∧ (es.toList.map keyT).Nodup ∧ (∀ k, S k = true ↔ k ∈ es.toList.map keyT) ∧
    es.size < scanBound ∧ t.fits es.size = true ∧ es.size = n ∧ Ris t.place.toList ∧ (w.params.followText "set-order" = true ∨ t.led = true)

section
variable {P : Program} {w : World} {h h' : Heap} {a : Addr} {S : Str → Bool} {n : Nat}

theorem SetT.at (R : SetT w h a S n) (k : ∀ o, h.get? a = some o → h'.get? a = some o) : SetT w h' a S n := by
  obtain ⟨o, es, ep, t, ho, r⟩ := R
  exact ⟨o, es, ep, t, k o ho, r⟩
theorem SetT.lt (R : SetT w h a S n) : a < h.objs.size := by
  obtain ⟨o, es, ep, t, ho, r⟩ := R
  exact Heap.lt_size ho
theorem SetT.congr {S' : Str → Bool} (R : SetT w h a S n) (e : ∀ k, S' k = S k) : SetT w h a S' n := by
  have q : S' = S := funext e
  rw [q]; exact R
theorem goodT_elems {l : List (Int × Value)} (g : ∀ e ∈ l, GoodT w e) : ElemsOf (PySem.strKind P w) l := fun e he => by
  obtain ⟨k, tk, h1, h2⟩ := g e he
  exact ⟨⟨k, by rw [h1]; exact strIs P w k tk, h2⟩, by rw [h1] <;> rfl⟩
theorem goodT_is {e : Int × Value} (g : GoodT w e) (k : Str) : (PySem.strKind P w).is k e.2 = true ↔ keyT e = k := by
  obtain ⟨k0, tk, h1, _⟩ := g
  unfold keyT
  rw [h1]
  exact strIs_iff
theorem goodT_mem {l : List (Int × Value)} (g : ∀ e ∈ l, GoodT w e) (k : Str) : k ∈ l.map keyT ↔ ∃ e ∈ l, (PySem.strKind P w).is k e.2 = true := by
  rw [List.mem_map]
  constructor
  · rintro ⟨e, he, q⟩
    exact ⟨e, he, (goodT_is (g e he) k).2 q⟩
  · rintro ⟨e, he, q⟩
    exact ⟨e, he, (goodT_is (g e he) k).1 q⟩
theorem SetT.setOf (R : SetT w h a S n) : h.SetOf (PySem.strKind P w) a S n := by
  obtain ⟨o, es, ep, t, ho, hx, hd, g, nd, hm, hb, hf, hn, _⟩ := R
  exact ⟨o, es, ep, t, ho, hx, hd, goodT_elems g, fun k => (hm k).trans (goodT_mem g k), hb, hf, hn⟩
end

section
variable {P : Program} {w : World} {A : Around} {E : Value → Shared → Prop} {s : Shared} {a : Addr} {S : Str → Bool} {n : Nat}

/-! ### add -/
theorem storeT_at {h : Heap} {a : Addr} {o : Obj} {es es' : Array (Int × Value)} {ep : Nat} {t t' : SetTable} (ho : h.get? a = some o) (hd : o.data = .set es ep t) :
    (h.update a (Obj.putSet es' t')).get? a = some { o with data := .set es' (ep + 1) t' } := by
  have q := Heap.get?_update_self (Obj.putSet es' t') ho (by rw [putSet_of es' t' hd]; rfl)
  rw [putSet_of es' t' hd] at q
  exact q

theorem setT_add_tail {g : Bool → Sem Unit} (hg : ∀ (b : Bool) (s₁ : Shared) (Q' : Unit → Shared → Prop), Q' () s₁ → wpAny (model P w) A (g b) Q' E s₁)
    {o : Obj} {es : Array (Int × Value)} {ep : Nat} {t : SetTable} (ho : s.heap.get? a = some o) (hex : o.ExactSet) (hd : o.data = .set es ep t)
    {es1 : Array (Int × Value)} {t2 : SetTable} {S' : Str → Bool} (g1 : ∀ e ∈ es1.toList, GoodT w e) (nd1 : (es1.toList.map keyT).Nodup) (m1 : ∀ k, S' k = true ↔ k ∈ es1.toList.map keyT)
    (hb1 : es1.size < scanBound) (hf2 : t2.fits es1.size = true) (hr : Ris t2.place.toList) (hl : w.params.followText "set-order" = true ∨ t2.led = true) {wasDummy : Bool} {R : Option Bool → Shared → Prop}
    (hR : ∀ h', Heap.SameBut a s.heap h' → SetT w h' a S' es1.size → R (some true) { s with heap := h' }) :
    wpAny (model P w) A (do
        storeSet a es1 t2
        if (!wasDummy && t2.tooFull) = true then do
            g (relayAll t2 es1 (SetTable.grown es1.size)).2.2
            storeSet a (relayAll t2 es1 (SetTable.grown es1.size)).1 (relayAll t2 es1 (SetTable.grown es1.size)).2.1
            pure (some true)
          else pure (some true)) R E s := by
  refine wpAny_bind (wpAny_storeSet_of ho hd ?_ (fits_of_scanBound hb1))
  have ho1 := storeT_at (es' := es1) (t' := t2) ho hd
  have sb1 := Heap.SameBut.update s.heap a (Obj.putSet es1 t2)
  split
  · have pm := relayAll_perm t2 es1 (SetTable.grown es1.size)
    have hf3 := relayAll_fits t2 es1 (SetTable.grown es1.size)
    have hr3 := relayAll_ris t2 es1 (SetTable.grown es1.size)
    have hl3 := relayAll_led t2 es1 (SetTable.grown es1.size)
    generalize relayAll t2 es1 (SetTable.grown es1.size) = Z at pm hf3 hr3 hl3 ⊢
    obtain ⟨es2, t3, gave⟩ := Z
    dsimp only at pm hf3 hr3 hl3 ⊢
    have hsz : es2.size = es1.size := by rw [← Array.length_toList, pm.length_eq, Array.length_toList]
    have hb2 : es2.size < scanBound := by rw [hsz]; exact hb1
    refine wpAny_bind (hg _ _ _ ?_)
    refine wpAny_bind (wpAny_storeSet_of ho1 rfl ?_ (fits_of_scanBound hb2))
    have ho2 := storeT_at (es' := es2) (t' := t3) ho1 rfl
    refine wpAny_pure (hR _ (sb1.trans (Heap.SameBut.update _ a _)) ?_)
    exact ⟨_, es2, _, t3, ho2, hex, rfl, fun e he => g1 e (pm.mem_iff.mp he), (pm.map keyT).nodup_iff.mpr nd1, fun k => (m1 k).trans (pm.map keyT).mem_iff.symm, hb2, hf3, hsz, hr3,
      hl.imp id fun z => by rw [hl3]; exact z⟩
  · exact wpAny_pure (hR _ sb1 ⟨_, es1, _, t2, ho1, hex, rfl, g1, nd1, m1, hb1, hf2, rfl, hr, hl⟩)

theorem setT_add_hashed {k : Str} {tk : Tok} {Q : Bool → Shared → Prop} (R : SetT w s.heap a S n) (room : n + 1 < scanBound)
    (hQ : ∀ h', Heap.SameBut a s.heap h' → SetT w h' a (fun j => S j || decide (j = k)) (if S k = true then n else n + 1) → Q (!S k) { s with heap := h' }) :
    wpAny (model P w) A (setAddHashed a (.str k tk) ((PySem.strKind P w).hash k)) Q E s := by
  obtain ⟨o, es, ep, t, ho, hex, hd, g, nd, hm, hb, hf, hn, hr, hl⟩ := R
  have hkey : (PySem.strKind P w).is k (.str k tk) = true := strIs P w k tk
  have hsc : (Value.str k tk).scannable = true := rfl
  have hel : ElemsOf (PySem.strKind P w) es.toList := goodT_elems g
  unfold setAddHashed setAddHashedIn
  refine wpAny_holding (wpAny_bind (wpAny_setState_of ho hd hf ?_))
  dsimp only
  rw [byScan_of hsc hb hel]
  simp only [↓reduceIte]
  unfold setAddByScan
  refine wpAny_bind ?_
  refine wpAny_bind (wpAny_rule ?_)
  refine wpAny_bind (wpAny_setScan_of hkey ho hd hf hel ?_)
  cases hfi : List.findIdx? (fun e => (PySem.strKind P w).is k e.2) es.toList with
  | some j =>
    dsimp only
    obtain ⟨hj, pj, _⟩ := List.findIdx?_eq_some_iff_getElem.mp hfi
    have hSk : S k = true := (hm k).2 ((goodT_mem (P := P) (w := w) g k).2 ⟨es.toList[j], List.getElem_mem hj, pj⟩)
    refine wpAny_pure (wpAny_pure ?_)
    have q := hQ s.heap (Heap.SameBut.refl a s.heap) ⟨o, es, ep, t, ho, hex, hd, g, nd, fun i => by
      rw [Bool.or_eq_true, decide_eq_true_eq, ← hm i]
      exact ⟨fun z => z.elim id (fun e => e ▸ hSk), .inl⟩, hb, hf, by rw [if_pos hSk]; exact hn, hr, hl⟩
    rw [hSk] at q
    exact q
  | none =>
    dsimp only
    have hnk : k ∉ es.toList.map keyT := fun z => by
      obtain ⟨e, he, q⟩ := (goodT_mem (P := P) (w := w) g k).1 z
      have c := List.findIdx?_eq_none_iff.mp hfi e he
      rw [q] at c
      cases c
    have hSk : S k = false := by
      cases q : S k with
      | false => rfl
      | true => exact absurd ((hm k).1 q) hnk
    have hgw : ∀ (b : Bool) {s₁ : Shared} {Q' : Unit → Shared → Prop}, Q' () s₁ → wpAny (model P w) A (match b with | true => rule "set.scan.the-table-gave-way" | false => pure ()) Q' E s₁ :=
      fun b s₁ Q' q => by cases b <;> first | exact wpAny_pure q | exact wpAny_rule q
    have pm := layNew_perm t es ((PySem.strKind P w).hash k) (.str k tk)
    have hf1 := layNew_fits t es ((PySem.strKind P w).hash k) (.str k tk)
    have hr1 := layNew_ris t es ((PySem.strKind P w).hash k) (.str k tk) hr
    have hl1 := layNew_led t es ((PySem.strKind P w).hash k) (.str k tk)
    generalize layNew t es ((PySem.strKind P w).hash k) (.str k tk) = Z at pm hf1 hr1 hl1 ⊢
    obtain ⟨es1, t1, wasDummy, gave⟩ := Z
    dsimp only at pm hf1 hr1 hl1 ⊢
    rw [Array.toList_push] at pm
    have pc : es1.toList.Perm (((PySem.strKind P w).hash k, Value.str k tk) :: es.toList) := pm.trans (List.perm_append_singleton _ _)
    have pk : (es1.toList.map keyT).Perm (k :: es.toList.map keyT) := pc.map keyT
    have g1 : ∀ e ∈ es1.toList, GoodT w e := fun e he => by
      rcases List.mem_cons.mp (pc.mem_iff.mp he) with z | z
      · rw [z]; exact ⟨k, tk, rfl, rfl⟩
      · exact g e z
    have nd1 : (es1.toList.map keyT).Nodup := pk.nodup_iff.mpr (List.nodup_cons.mpr ⟨hnk, nd⟩)
    have m1 : ∀ i, (S i || decide (i = k)) = true ↔ i ∈ es1.toList.map keyT := fun i => by
      rw [Bool.or_eq_true, decide_eq_true_eq, hm i, pk.mem_iff, List.mem_cons]
      exact Or.comm
    have hsz : es1.size = n + 1 := by rw [← Array.length_toList, pc.length_eq, List.length_cons, Array.length_toList, hn]
    have hb1 : es1.size < scanBound := by rw [hsz]; exact room
    have hled : w.params.followText "set-order" = true ∨ t1.led = true := hl.imp id fun z => by rw [hl1]; exact z
    have fin : ∀ h', Heap.SameBut a s.heap h' → SetT w h' a (fun j => S j || decide (j = k)) es1.size → Q true { s with heap := h' } := fun h' sb r => by
      have q := hQ h' sb
      rw [hSk] at q
      rw [hsz] at r
      exact q r
    refine wpAny_bind (hgw _ ?_)
    split
    · refine wpAny_bind ?_
      rw [hashByValue_scannable 8 hsc]
      refine wpAny_pure ?_
      refine setT_add_tail ?_ ho hex hd g1 nd1 m1 hb1 ?_ ?_ ?_ ?_
      · intro b s₁ Q' q; cases b <;> first | exact wpAny_pure q | exact wpAny_rule q
      · first | (split <;> first | exact hf1 | exact SetTable.fits_plain_off hf1) | exact hf1
      · first | (split <;> exact hr1) | exact hr1
      · first | (split <;> exact hled) | exact hled
      · intro h' sb r; dsimp only; exact wpAny_pure (fin h' sb r)
    · refine wpAny_bind (wpAny_pure ?_)
      simp only [↓reduceIte]
      refine setT_add_tail ?_ ho hex hd g1 nd1 m1 hb1 hf1 hr1 hled ?_
      · intro b s₁ Q' q; cases b <;> first | exact wpAny_pure q | exact wpAny_rule q
      · intro h' sb r; dsimp only; exact wpAny_pure (fin h' sb r)

end
theorem setT_new_at {w : World} {h : Heap} {a : Addr} {ns : List Str} (ho : h.get? a = some { cls := .type "set", dict := none, data := .set #[] 0 (.fresh 0 0 (!w.params.followText "set-order")) }) : SetT w h a (fun j => decide (j ∈ ns.take 0)) 0 :=
  ⟨_, #[], 0, _, ho, ⟨rfl, rfl, rfl⟩, rfl, (fun e he => by simp at he), (by simp), (fun k => by simp), (by decide), (by rfl), rfl, List.Pairwise.nil, by
    show _ ∨ (!w.params.followText "set-order") = true
    cases w.params.followText "set-order"
    · exact .inr rfl
    · exact .inl rfl⟩
section
variable {P : Program} {w : World} {A : Around} {E : Value → Shared → Prop} {s : Shared}
theorem set_update_strs {I : Addr} {fp wr : List Addr} {G : Array GenState → Array GenState → Prop} {n : Nat} {Pv : Nat → Value → Prop} {St : Nat → Shared → Prop} {R : Result → Shared → Prop}
    (W : WalksS P w A.in1 I fp wr G n Pv St) (S : Addr) (hSf : S ∉ fp) (ns : List Str) (hn : n = ns.length) (hb : ns.length + 1 < scanBound) (hval : ∀ i v, Pv i v → ∃ k t, ns[i]? = some k ∧ v = .str k t) :
    ∀ (k i : Nat) (s : Shared), n - i = k → i ≤ n → St i s → (∃ c, c ≤ i ∧ SetT w s.heap S (fun j => decide (j ∈ ns.take i)) c) →
      (∀ s' c, Moved (S :: wr) G s s' → c ≤ n → SetT w s'.heap S (fun j => decide (j ∈ ns)) c → R (.ok (.ret .none)) s') →
      codeAny (model P w) A (.builtin "set.update.loop" ⟨[.ref S, .ref I], []⟩) R s := by
  have hSw : S ∉ wr := fun h => hSf (W.sub _ h)
  have hsub : ∀ b ∈ wr, b ∈ S :: wr := fun b hb => List.mem_cons_of_mem _ hb
  intro k
  induction k with
  | zero =>
    intro i s hk' hi hst ⟨c, hc, hS⟩ hR
    have hin : i = n := by omega
    subst hin
    refine codeAny_builtin F.entry_set_update_loop ?_
    rw [Around.under_plainId F.plain_set_update_loop _]
    show wpAny _ A.in1 (pyNext (.ref I) >>= _) _ _ s
    refine wpAny_bind (W.done s _ _ hst fun s' hm => ?_)
    show wpAny _ A.in1 (ret Value.none) _ _ s'
    have e : ns.take i = ns := List.take_of_length_le (by omega)
    rw [e] at hS
    exact wpAny_pure (hR s' c (hm.mono hsub) hc (hS.at fun o e => hm.heap S o hSw e))
  | succ k ih =>
    intro i s hk' hi hst ⟨c, hc, hS⟩ hR
    have hlt : i < n := by omega
    refine codeAny_builtin F.entry_set_update_loop ?_
    rw [Around.under_plainId F.plain_set_update_loop _]
    show wpAny _ A.in1 (pyNext (.ref I) >>= _) _ _ s
    refine wpAny_bind (W.item i s _ _ hlt hst fun v s' hP hst' hm => ?_)
    obtain ⟨z, t, hz, rfl⟩ := hval i v hP
    have hS' : SetT w s'.heap S (fun j => decide (j ∈ ns.take i)) c := hS.at fun o e => hm.heap S o hSw e
    show wpAny _ A.in1 (holding [Value.str z t] (setAdd S (.str z t)) >>= _) _ _ s'
    refine wpAny_bind (wpAny_holding ?_)
    unfold setAdd
    refine wpAny_holding ?_
    refine wpAny_bind ((PySem.strKind P w).pyHash (k := z) (strIs _ _ _ _) ?_)
    refine setT_add_hashed (s := { s' with toks := s'.toks + 1 }) hS' (by omega) fun h' hsb hS2 => ?_
    have hS3 : SetT w h' S (fun j => decide (j ∈ ns.take (i + 1))) (if decide (z ∈ ns.take i) = true then c else c + 1) := hS2.congr fun j => by
      rw [List.take_add_one, hz]
      simp [List.mem_append]
    have hc3 : (if decide (z ∈ ns.take i) = true then c else c + 1) ≤ i + 1 := by
      split <;> omega
    refine wpAny_pure ⟨plainId_quiet F.plain_set_update_loop _, ih (i + 1) _ (by omega) hlt (W.frame _ s' _ _ hst' (Nat.le_succ _) fun b hb o e => ?_) ⟨_, hc3, hS3⟩ fun s'' c2 hm'' hc'' hS'' => ?_⟩
    · rw [hsb.2 b (fun h : b = S => hSf (by rw [← h]; exact hb))]; exact e
    · refine hR s'' c2 (Moved.trans W.gtrans ((hm.mono hsub).then_heap (Nat.le_succ _) fun b o hb e => ?_) hm'') hc'' hS''
      rw [hsb.2 b (fun h : b = S => hb (by rw [h]; exact List.mem_cons_self))]; exact e

theorem call_set_lstT {l : Addr} {items : Array Value} (ns : List Str) {Q : Value → Shared → Prop} (hh : A.handled = none) (hl : s.heap.IsList l items) (hit : StrsAre items.toList ns) (hb : ns.length + 1 < scanBound)
    (h : ∀ (h' : Heap) (tk c : Nat), SetT w h' s.heap.objs.size (fun j => decide (j ∈ ns)) c → c ≤ ns.length → (∀ b o, s.heap.get? b = some o → h'.get? b = some o) → Q (.ref s.heap.objs.size) { s with heap := h', toks := tk }) :
    wpAny (model P w) A (call (.type "set") [.ref l]) Q E s := by
  have hisz : items.size = ns.length := by
    have q := StrsAre.length hit
    rw [Array.length_toList] at q
    exact q
  obtain ⟨c, tl, hmro⟩ := F.called_set.mro
  have hmade := F.called_set.made
  have hsub := F.called_set.sub
  refine wpAny_call (codeAny_of_tree ?_)
  show wpAny _ _ (callAny (.type "set") _) _ _ _
  refine wpAny_pure ⟨Code.quiet_builtin _ (by decide +kernel), codeAny_builtin F.entry_type_call ?_⟩
  rw [Around.under_plain (weight_type_call_type "set" [.ref l] []) rfl]
  have h1 := F.called_set.notType
  have h2 := F.called_set.canCreate
  have hct := F.typeCall_set_1 (.ref l)
  repeat (any_goals (first | assumption | wp_step))

  refine codeAny_mono (code_set_led1 (.ref l) (E := E) (Q₁ := fun obj s₁ => obj = .ref s.heap.objs.size ∧ s₁ = { s with heap := s.heap.push { cls := .type "set", dict := none, data := .set #[] 0 (.fresh 0 0 (!w.params.followText "set-order")) } }) ⟨rfl, rfl⟩) fun r s₁ hr => ?_
  cases r with
  | error e => exact hr
  | ok fl =>
    cases fl with
    | ret obj =>
      obtain ⟨rfl, rfl⟩ := hr
      have hS : (s.heap.push { cls := .type "set", dict := none, data := .set #[] 0 (.fresh 0 0 (!w.params.followText "set-order")) }).get? s.heap.objs.size = some { cls := .type "set", dict := none, data := .set #[] 0 (.fresh 0 0 (!w.params.followText "set-order")) } := Heap.get?_push_size _ rfl
      have hT : Shared.TypeIs { s with heap := s.heap.push { cls := .type "set", dict := none, data := .set #[] 0 (.fresh 0 0 (!w.params.followText "set-order")) } } (.ref s.heap.objs.size) "set" := ⟨_, hS, rfl⟩
      have hli := F.called_set.init.lookup
      have hbi := F.called_set.init.bind (.ref s.heap.objs.size)
      repeat (any_goals (first | assumption | wp_step))

      refine codeAny_mono (codeAny_call_builtin (R := wants (fun r s₂ => r = .none ∧ ∃ h' tk c, s₂ = { s with heap := h', toks := tk } ∧ SetT w h' s.heap.objs.size (fun j => decide (j ∈ ns)) c ∧ c ≤ ns.length ∧
          (∀ b o, s.heap.get? b = some o → h'.get? b = some o)) E) F.called_set.init.plain F.entry_set_init (check_set_init_1 hT ?_)) fun r₂ s₂ hr₂ => ?_
      · obtain ⟨ol, hol, hcl, nl, hdl⟩ := hl
        obtain ⟨ocls, odict, odata, oslots⟩ := ol
        simp only at hcl hdl
        subst hcl; subst hdl
        have hol' : (s.heap.push { cls := .type "set", dict := none, data := .set #[] 0 (.fresh 0 0 (!w.params.followText "set-order")) }).get? l = some { cls := .type "list", dict := odict, data := .seq items nl, slots := oslots } := Heap.get?_push_of_some _ hol
        have hsls := F.sub_list_set
        have hslf := F.sub_list_frozenset
        have hne : (Value.type "list" == Value.type "dict") = false := by decide
        have hl1 : (s.heap.push { cls := .type "set", dict := none, data := .set #[] 0 (.fresh 0 0 (!w.params.followText "set-order")) }).IsList l items := ⟨_, hol', rfl, nl, rfl⟩
        unfold Builtin.«set.__init__» noKeywords Builtin.Frozenset.updateFrom
        generalize hPI : pyIter = PI
        wp_walk
        subst hPI

        refine wpAny_pyIter_list hl1 ?_
        refine wpAny_bind (wpAny_runValue ?_)
        have hlS : l < s.heap.objs.size := Heap.lt_size hol
        have hh3 : A.in1.in1.in1.handled = none := by simp [hh]
        have hz1 : (s.heap.push { cls := .type "set", dict := none, data := .set #[] 0 (.fresh 0 0 (!w.params.followText "set-order")) }).objs.size = s.heap.objs.size + 1 := Heap.size_push ..
        have hneI : l ≠ (s.heap.push { cls := .type "set", dict := none, data := .set #[] 0 (.fresh 0 0 (!w.params.followText "set-order")) }).objs.size := by
          rw [Heap.size_push]; exact Nat.ne_of_lt (Nat.lt_succ_of_lt hlS)
        have hSf : s.heap.objs.size ∉ [(s.heap.push { cls := .type "set", dict := none, data := .set #[] 0 (.fresh 0 0 (!w.params.followText "set-order")) }).objs.size, l] := by
          rw [Heap.size_push]; simp only [List.mem_cons, List.mem_singleton, List.not_mem_nil, or_false, not_or]
          exact ⟨Nat.ne_of_lt (Nat.lt_succ_self _), Nat.ne_of_gt hlS⟩
        have hval : ∀ (i : Nat) (v : Value), items[i]? = some v → ∃ k t, ns[i]? = some k ∧ v = .str k t := fun i v hv => by
          have hi : i < ns.length := by rw [← hisz]; exact (Array.getElem?_eq_some_iff.mp hv).1
          obtain ⟨t, e⟩ := SS.strs_at hit i v (by rw [Array.getElem?_toList]; exact hv)
          refine ⟨ns[i], t, List.getElem?_eq_getElem hi, ?_⟩
          rw [e, List.getD_eq_getElem?_getD, List.getElem?_eq_getElem hi] <;> rfl
        refine set_update_strs ((Walks.list hh3 _ l hneI items).toS) s.heap.objs.size
          hSf ns hisz hb hval (items.size - 0) 0 _ (by omega) (Nat.zero_le _)
          ⟨⟨_, Heap.get?_push_size _ rfl, rfl, rfl⟩, (hl1.push _)⟩ ?hS0 ?hR
        case hS0 =>
          have hget : ((s.heap.push { cls := .type "set", dict := none, data := .set #[] 0 (.fresh 0 0 (!w.params.followText "set-order")) }).push { cls := .type "list_iterator", data := .fields #[.ref l, .int 0 0] }).get? s.heap.objs.size
              = some { cls := .type "set", dict := none, data := .set #[] 0 (.fresh 0 0 (!w.params.followText "set-order")) } := Heap.get?_push_of_some _ hS
          exact ⟨0, Nat.le_refl 0, setT_new_at hget⟩
        case hR =>
          intro s' c' hm hc' hS'
          obtain ⟨h', g2, d', tk', os'⟩ := s'
          have eg : g2 = s.gens := hm.gens
          have ed : d' = s.drawn := hm.drawn
          have eo : os' = s.os := hm.os
          subst eg; subst ed; subst eo
          show wpAny _ _ _ _ _ _
          refine wpAny_pure ?_
          show wpAny _ _ (ret Value.none) _ _ _
          rw [hisz] at hc'
          refine wpAny_pure ⟨rfl, h', tk', c', rfl, hS', hc', fun b o e => ?_⟩
          have hb0 : b < s.heap.objs.size := Heap.lt_size e
          have hb1 : b ≠ s.heap.objs.size := Nat.ne_of_lt hb0
          have hb2 : b ≠ (s.heap.push { cls := .type "set", dict := none, data := .set #[] 0 (.fresh 0 0 (!w.params.followText "set-order")) }).objs.size := by
            rw [Heap.size_push]; exact Nat.ne_of_lt (Nat.lt_succ_of_lt hb0)
          exact hm.heap b o (by simp only [List.mem_cons, List.mem_singleton, List.not_mem_nil, or_false, not_or]; exact ⟨hb1, hb2⟩) (Heap.get?_push_of_some _ (Heap.get?_push_of_some _ e))

      · cases r₂ with
        | error e => exact hr₂
        | ok fl₂ =>
          cases fl₂ with
          | ret r =>
            obtain ⟨rfl, h', tk, c', rfl, hS', hc', hk'⟩ := hr₂
            repeat (any_goals (first | assumption | wp_step))
            exact h _ _ _ hS' hc' hk'
          | _ => exact hr₂.elim
    | _ => exact hr.elim

end



/-! ### sorted(set) -/
section
variable {P : Program} {w : World} {A : Around} {E : Value → Shared → Prop} {s : Shared} {a : Addr}
theorem strs_of : ∀ (l : List (Int × Value)) (w : World), (∀ e ∈ l, GoodT w e) → StrsAre (l.map (·.2)) (l.map keyT)
  | [], _, _ => .nil
  | e :: l, w, h => by
    obtain ⟨k, tk, h1, _⟩ := h e List.mem_cons_self
    have hk : keyT e = k := by unfold keyT; rw [h1]
    rw [List.map_cons, List.map_cons, h1, hk]
    exact .cons k tk (strs_of l w fun u hu => h u (List.mem_cons_of_mem _ hu))
def rawT : Value → Str
  | .str k _ => k
  | _ => Str.empty
theorem strs_raw : ∀ (l : List Value), (∀ v ∈ l, ∃ k tk, v = Value.str k tk) → StrsAre l (l.map rawT)
  | [], _ => .nil
  | v :: l, h => by
    obtain ⟨k, tk, rfl⟩ := h v List.mem_cons_self
    exact .cons k tk (strs_raw l fun u hu => h u (List.mem_cons_of_mem _ hu))
theorem sorted_setT {S : Str → Bool} {n : Nat} {Q : Value → Shared → Prop} (R : SetT w s.heap a S n) (hh : A.handled = none)
    (hQ : ∀ s' p (out : Array Value) (c : Nat) (ns : List Str), (∀ b o, s.heap.get? b = some o → s'.heap.get? b = some o) → s'.gens = s.gens → s'.os = s.os → s.heap.objs.size ≤ p →
      s'.heap.get? p = some (seqObj "list" out c) → StrsAre out.toList ns → sortedS ns = true → ns.Nodup → (∀ k, k ∈ ns ↔ S k = true) → ns.length = n → Q (.ref p) s') :
    wpAny (model P w) A (call (.builtin "sorted") [.ref a]) Q E s := by
  obtain ⟨o, es, ep, t, ho, hex, hd, g, nd, hm, hb, hf, hn, hr, hl⟩ := R
  refine Calls.call_function_entry kind_sorted plain_sorted entry_sorted (args_sorted1 _) ?_
  unfold Builtin.«sorted»
  refine wpAny_bind (m := checkCount "sorted" 1 1 _) (wpAny_pure ?_)
  refine wpAny_bind (collect_set (A := A.in1) hh ⟨o, ho, hex.1, hd⟩ hf hb hr hl fun s1 vs k1 hz g1 o1 pm => ?_)
  have hvl : vs.length = n := by rw [pm.length_eq, List.length_map, Array.length_toList]; exact hn
  have hvs : vs.length ≤ sizeLine := by rw [hvl, ← hn]; exact fits_of_scanBound hb
  have hI : StrsAre vs (vs.map rawT) := strs_raw vs fun v hv => by
    obtain ⟨e, he, q⟩ := List.mem_map.mp (pm.mem_iff.mp hv)
    obtain ⟨k, tk, h1, _⟩ := g e he
    exact ⟨k, tk, by rw [← q]; exact h1⟩
  have pk : (vs.map rawT).Perm (es.toList.map keyT) := by
    have q := pm.map rawT
    rw [List.map_map] at q
    exact q
  refine wpAny_bind (wpAny_newList ?_ hvs)
  have hoL : (s1.heap.push (seqObj "list" vs.toArray 0)).get? s1.heap.objs.size = some (seqObj "list" vs.toArray 0) := Heap.get?_push_size _ rfl
  refine wpAny_bind (wpAny_holding (wpAny_call_entry slot_list_sort ⟨_, hoL, rfl⟩ entry_list_sort (list_sort_treeKAny strKind_oneLt hoL hI.keysOf (fun v₁ v₂ rest e => keyKind_strs (by rw [← e]; exact hI)) hvs fun st' a1 a2 => ⟨_, rfl, ?_⟩) (args_list_sort _)))
  obtain ⟨ns', b1, b2, b3⟩ := sorted_out_str hI a1 a2
  obtain ⟨c, hc⟩ := sortedHeap_at (vs := vs) (out := (arrOf st').map (·.2)) hoL
  have pn : ns'.Perm (es.toList.map keyT) := b2.trans pk
  refine wpAny_pure ⟨_, rfl, hQ _ s1.heap.objs.size _ c ns' (fun b u e => ?_) g1 o1 hz hc b1 b3 (pn.nodup_iff.mpr nd) (fun k => by rw [pn.mem_iff, ← hm k]) ?_⟩
  · have q := k1 b u e
    have hlt := Heap.lt_size q
    show (sortedHeap (s1.heap.push (seqObj "list" vs.toArray 0)) s1.heap.objs.size vs _).get? b = some u
    rw [sortedHeap_old (Nat.ne_of_lt hlt) (by rw [size_push']; exact Nat.lt_succ_of_lt hlt)]
    exact Heap.get?_push_of_some _ q
  · rw [pn.length_eq, List.length_map, Array.length_toList]; exact hn
end
end DX

/-! Texts in order; sorting by insertion; what is sorted is told by its members. -/
namespace DM
open PySem PySem.Spec PyProof.Rows

/-- a is not behind b -/
def leS (a b : Str) : Prop := a.cps.toList ≤ b.cps.toList
instance : DecidableRel leS := fun a b => inferInstanceAs (Decidable (a.cps.toList ≤ b.cps.toList))
theorem str_ext {a b : Str} (h : a.cps.toList = b.cps.toList) : a = b := by
  cases a; cases b
  simp at h
  rw [h]
theorem leS_refl (a : Str) : leS a a := List.le_refl _
theorem leS_trans {a b c : Str} (h1 : leS a b) (h2 : leS b c) : leS a c := List.le_trans h1 h2
theorem leS_total (a b : Str) : leS a b ∨ leS b a := List.le_total _ _
theorem leS_antisymm {a b : Str} (h1 : leS a b) (h2 : leS b a) : a = b := str_ext (List.le_antisymm h1 h2)
theorem rising_iff : ∀ (l : List Str) (p : Str), risingS p l = true ↔ (p :: l).Pairwise leS
  | [], p => by simp [risingS]
  | x :: r, p => by
    have e : (!ltCps x.cps.toList p.cps.toList) = decide (leS p x) := by
      rw [ltCps_eq]
      unfold leS
      by_cases h : x.cps.toList < p.cps.toList
      · have h2 : ¬ p.cps.toList ≤ x.cps.toList := fun z => absurd h (List.not_lt.mpr z)
        simp [h, h2]
      · have h2 : p.cps.toList ≤ x.cps.toList := List.not_lt.mp h
        simp [h, h2]
    unfold risingS
    rw [e, Bool.and_eq_true, decide_eq_true_eq, rising_iff r x]
    constructor
    · rintro ⟨h1, h2⟩
      refine List.pairwise_cons.mpr ⟨fun y hy => ?_, h2⟩
      rcases List.mem_cons.mp hy with rfl | hy
      · exact h1
      · exact leS_trans h1 ((List.pairwise_cons.mp h2).1 y hy)
    · intro h
      exact ⟨(List.pairwise_cons.mp h).1 x List.mem_cons_self, (List.pairwise_cons.mp h).2⟩
theorem sorted_iff : ∀ l : List Str, sortedS l = true ↔ l.Pairwise leS
  | [] => by simp [sortedS]
  | x :: r => rising_iff r x
/-- two arrangements of the same texts, both in order, are one -/
theorem sorted_uniq : ∀ {l l' : List Str}, l.Perm l' → l.Pairwise leS → l'.Pairwise leS → l = l'
  | [], l', p, _, _ => (List.nil_perm.mp p).symm
  | x :: r, [], p, _, _ => absurd p.length_eq (by simp)
  | x :: r, y :: r', p, h1, h2 => by
    have hx : x ∈ y :: r' := p.mem_iff.mp List.mem_cons_self
    have hy : y ∈ x :: r := p.mem_iff.mpr List.mem_cons_self
    have e : x = y := by
      have a : leS x y := by
        rcases List.mem_cons.mp hy with z | z
        · rw [z]; exact leS_refl _
        · exact (List.pairwise_cons.mp h1).1 y z
      have b : leS y x := by
        rcases List.mem_cons.mp hx with z | z
        · rw [z]; exact leS_refl _
        · exact (List.pairwise_cons.mp h2).1 x z
      exact leS_antisymm a b
    subst e
    rw [sorted_uniq (List.perm_cons x |>.mp p) (List.pairwise_cons.mp h1).2 (List.pairwise_cons.mp h2).2]
def insS (x : Str) : List Str → List Str
  | [] => [x]
  | y :: r => if leS x y then x :: y :: r else y :: insS x r
def sortS : List Str → List Str
  | [] => []
  | x :: r => insS x (sortS r)
theorem insS_perm (x : Str) : ∀ l : List Str, (insS x l).Perm (x :: l)
  | [] => List.Perm.refl _
  | y :: r => by
    unfold insS
    split
    · exact List.Perm.refl _
    · exact ((insS_perm x r).cons y).trans (List.Perm.swap x y r)
theorem insS_sorted (x : Str) : ∀ {l : List Str}, l.Pairwise leS → (insS x l).Pairwise leS
  | [], _ => List.pairwise_singleton _ _
  | y :: r, h => by
    unfold insS
    split
    · rename_i hxy
      refine List.pairwise_cons.mpr ⟨fun z hz => ?_, h⟩
      rcases List.mem_cons.mp hz with e | hz
      · rw [e]; exact hxy
      · exact leS_trans hxy ((List.pairwise_cons.mp h).1 z hz)
    · rename_i hxy
      have hyx : leS y x := (leS_total x y).resolve_left hxy
      refine List.pairwise_cons.mpr ⟨fun z hz => ?_, insS_sorted x (List.pairwise_cons.mp h).2⟩
      rcases List.mem_cons.mp ((insS_perm x r).mem_iff.mp hz) with e | hz
      · rw [e]; exact hyx
      · exact (List.pairwise_cons.mp h).1 z hz
theorem sortS_perm : ∀ l : List Str, (sortS l).Perm l
  | [] => List.Perm.refl _
  | x :: r => (insS_perm x (sortS r)).trans ((sortS_perm r).cons x)
theorem sortS_sorted : ∀ l : List Str, (sortS l).Pairwise leS
  | [] => List.Pairwise.nil
  | x :: r => insS_sorted x (sortS_sorted r)
theorem sortS_eq {l l' : List Str} (p : l'.Perm l) (h : sortedS l' = true) : l' = sortS l :=
  sorted_uniq (p.trans (sortS_perm l).symm) ((sorted_iff l').mp h) (sortS_sorted l)
theorem sortS_congr {l l' : List Str} (p : l.Perm l') : sortS l = sortS l' :=
  sorted_uniq ((sortS_perm l).trans (p.trans (sortS_perm l').symm)) (sortS_sorted l) (sortS_sorted l')
theorem sortS_of {l : List Str} (h : l.Pairwise leS) : sortS l = l := sorted_uniq (sortS_perm l) (sortS_sorted l) h
theorem sortS_len (l : List Str) : (sortS l).length = l.length := (sortS_perm l).length_eq
theorem sortS_mem {l : List Str} {x : Str} : x ∈ sortS l ↔ x ∈ l := (sortS_perm l).mem_iff
theorem sortS_nodup {l : List Str} : (sortS l).Nodup ↔ l.Nodup := (sortS_perm l).nodup_iff
/-- each member once -/
def ddS : List Str → List Str
  | [] => []
  | x :: r => if x ∈ r then ddS r else x :: ddS r
theorem mem_dd : ∀ {l : List Str} {x : Str}, x ∈ ddS l ↔ x ∈ l
  | [], x => Iff.rfl
  | y :: r, x => by
    unfold ddS
    split
    · rename_i h
      rw [mem_dd, List.mem_cons]
      exact ⟨.inr, fun z => z.elim (fun e => by rw [e]; exact h) id⟩
    · rw [List.mem_cons, List.mem_cons, mem_dd]
theorem dd_nodup : ∀ l : List Str, (ddS l).Nodup
  | [] => List.nodup_nil
  | y :: r => by
    unfold ddS
    split
    · exact dd_nodup r
    · rename_i h
      exact List.nodup_cons.mpr ⟨fun z => h (mem_dd.mp z), dd_nodup r⟩
/-- the members of a list, each once, in order -/
def uniS (l : List Str) : List Str := sortS (ddS l)
theorem nodup_perm {l l' : List Str} (h : l.Nodup) (h' : l'.Nodup) (e : ∀ x, x ∈ l ↔ x ∈ l') : l.Perm l' := by
  rw [List.perm_ext_iff_of_nodup h h']
  exact e
/-- the number of unlike members -/
def cardS (l : List Str) : Nat := (ddS l).length
theorem card_of {l ys : List Str} (h : ys.Nodup) (e : ∀ x, x ∈ ys ↔ x ∈ l) : ys.length = cardS l :=
  (nodup_perm h (dd_nodup l) fun x => (e x).trans mem_dd.symm).length_eq
theorem uni_of {l ys : List Str} (h : ys.Nodup) (e : ∀ x, x ∈ ys ↔ x ∈ l) (s : sortedS ys = true) : ys = uniS l :=
  sortS_eq (nodup_perm h (dd_nodup l) fun x => (e x).trans mem_dd.symm) s
theorem card_nodup {l : List Str} (h : l.Nodup) : cardS l = l.length := (card_of h fun _ => Iff.rfl).symm
theorem uni_congr {l l' : List Str} (e : ∀ x, x ∈ l ↔ x ∈ l') : uniS l = uniS l' :=
  sortS_congr (nodup_perm (dd_nodup l) (dd_nodup l') fun x => mem_dd.trans ((e x).trans mem_dd.symm))
end DM

/-! More built-ins over data: sets of texts, sorting, membership, ==, len, methods of lists. -/
namespace DL
open PySem L2 DM

/-- a new tracked thing that nobody knows -/
theorem step_junk {K : PySem.W.Frag} {W : Wd} {m : Mu} {H : Hp} (h : Held K W m H) {p : Addr} (hp : H p = none) (o : HO) : Stp K W m H W m (upd H p o) := by
  have hh2 : Held K W m (upd H p o) := ⟨fun a u e => by rw [upd_ne (ne_of_none (h.G a u e) hp)]; exact h.G a u e, fun k u e => by
    obtain ⟨g1, g2, ho, g3, g4⟩ := h.ob k u e
    exact ⟨g1, g2, ho, by rw [upd_ne (ne_of_none g3 hp)]; exact g3, g4⟩, h.inj⟩
  exact ⟨.refl _, hh2, fun a u e _ => by rw [upd_ne (ne_of_none e hp)]; exact e, fun _ e => .inl e, fun _ e => .inl e, fun a e => by
    by_cases ha : a = p
    · rw [ha, upd_same]; exact fun y => nomatch y
    · rw [upd_ne ha]; exact e⟩

/-! ### sets of texts -/
def SetTO (w : World) (a : Addr) (S : Str → Bool) (n : Nat) : HO := .ext fun h => DX.SetT w h a S n
section
variable {X : Cx}
theorem setTO_new {P : Program} {w : World} {H : Hp} {h : Heap} {a : Addr} {S : Str → Bool} {n : Nat} (R : DX.SetT w h a S n) : ObjOk P w H h a (SetTO w a S n) := by
  have ⟨o, _, _, _, ho, _⟩ := R
  exact ⟨R, ⟨o, ho⟩, fun h1 h2 p k => p.at k⟩
theorem setTO_get {pins : List (Addr × Obj)} {σ : L2.St} {H : Hp} {s : Shared} {a : Addr} {S : Str → Bool} {n : Nat} (I : Inv X pins σ H s) (ha : H a = some (SetTO X.w a S n)) : DX.SetT X.w s.heap a S n := (I.hok a _ ha).1
def rSetT (K : PySem.W.Frag) (w : World) : List V → Hp → VK → Prop := fun vs H Q => ∃ (l : Addr) (xs : List Str), vs = [.ref l] ∧ SqL K H l (xs.map V.str) ∧ xs.length + 1 < scanBound ∧ ∀ p c, H p = none → Q (.ref p) (upd H p (SetTO w p (fun k => decide (k ∈ xs)) c))
theorem cr_setT (hc : X.calm = true) : CallR X (.type "set") (rSetT X.K X.w) := by
  intro pins s σ H vs us Q I r h
  obtain ⟨l, xs, rfl, hs, hb, q⟩ := h
  obtain ⟨its, rv, hl, _⟩ := I.list hs
  rw [Vals.ref1 r]
  refine DX.call_set_lstT xs (I.ok.hd hc) hl.isList (by simpa using rv.strs) hb fun h' tk c hS _ hk => ?_
  exact ⟨.ref _, upd H s.heap.objs.size (SetTO X.w s.heap.objs.size (fun k => decide (k ∈ xs)) c), I.laid (t' := tk) hk (Nat.le_refl _) (setTO_new hS), rfl, q _ c (I.hok.fresh (Nat.le_refl _))⟩
def rLenT (w : World) : List V → Hp → VK → Prop := fun vs H Q => ∃ (a : Addr) (S : Str → Bool) (n : Nat), vs = [.ref a] ∧ H a = some (SetTO w a S n) ∧ ∀ ys : List Str, ys.Nodup → (∀ k, k ∈ ys ↔ S k = true) → Q (.int ys.length) H
theorem cr_lenT : CallR X (.builtin "len") (rLenT X.w) := by
  intro pins s σ H vs us Q I r h
  obtain ⟨a, S, n, rfl, ha, q⟩ := h
  rw [Vals.ref1 r]
  obtain ⟨o, es, ep, t, ho, hex, hd, g, nd, hm, hb, hf, hn, _⟩ := setTO_get I ha
  have q2 := q (es.toList.map DX.keyT) nd fun k => (hm k).symm
  rw [List.length_map, Array.length_toList] at q2
  exact call_len_set ho hex hd hf (by have h4 : scanBound = 4096 := rfl; omega) ⟨.int es.size, H, I.tok _, ⟨_, rfl⟩, q2⟩
def rSortedT (w : World) : List V → Hp → VK → Prop := fun vs H Q => ∃ (a : Addr) (S : Str → Bool) (n : Nat), vs = [.ref a] ∧ H a = some (SetTO w a S n) ∧ ∀ (ys : List Str) (p : Addr), ys.Nodup → (∀ k, k ∈ ys ↔ S k = true) → PyProof.Rows.sortedS ys = true → H p = none → Q (.ref p) (upd H p (.lst (ys.map V.str)))
theorem cr_sortedT (hc : X.calm = true) : CallR X (.builtin "sorted") (rSortedT X.w) := by
  intro pins s σ H vs us Q I r h
  obtain ⟨a, S, n, rfl, ha, q⟩ := h
  have R := setTO_get I ha
  rw [Vals.ref1 r]
  have hn4 : n < 4096 := by
    obtain ⟨o, es, ep, t, ho, hex, hd, g, nd, hm, hb, hf, hn, _⟩ := R
    rw [← hn]; exact hb
  refine DX.sorted_setT R (I.ok.hd hc) fun s' p out c ns k g o hp hg hi hs hnd hm hl => ?_
  have hlen : (ns.map V.str).length ≤ sizeLine := by rw [List.length_map, hl]; exact Nat.le_trans (Nat.le_of_lt hn4) (by decide)
  have hn : H p = none := I.hok.fresh hp
  have J : Inv X pins σ (upd H p (.lst (ns.map V.str))) { s with heap := s'.heap, gens := s'.gens, drawn := s'.drawn, toks := s'.toks } :=
    I.call (ch := []) (Un.laid k hp hn) (I.hok.laid k hp ⟨hlen, out.toList, c, vals_of_strs hi, hg⟩) (by rw [g]; exact I.bare) (fun _ z => nomatch z)
  have e : s' = { s with heap := s'.heap, gens := s'.gens, drawn := s'.drawn, toks := s'.toks } := by
    cases s'
    cases s
    cases o
    rfl
  rw [e]
  exact ⟨.ref p, _, J, rfl, q ns p hnd hm hs hn⟩
end
def setLenR (d : D) (m : Mu) (F : DK) : Prop := withL d m fun xs => ∃ ss : List Str, xs = ss.map D.str ∧ ss.length + 1 < scanBound ∧ F (.int (cardS ss)) m
def setSortR (d : D) (m : Mu) (F : DK) : Prop := withL d m fun xs => ∃ ss : List Str, xs = ss.map D.str ∧ ss.length + 1 < scanBound ∧ New (.lst ((uniS ss).map D.str)) m F
section
variable {X : Cx} {K : PySem.W.Frag} {a : Expr} {ta : TE} {da : TD} {p1 p2 q pos : Pos}
theorem de_lenSet (hg : Gl X "len") (hm : X.mg "len" = none) (hg2 : Gl X "set") (hm2 : X.mg "set" = none) (ha : DE X a ta da) (hc : X.calm = true := by rfl) (na : starEach [a] X.env = (false, eval a X.env) :: starEach [] X.env := by rfl)
    (nb : starEach [.Call (.Name "set" p2) [a] [] q] X.env = (false, eval (.Call (.Name "set" p2) [a] [] q) X.env) :: starEach [] X.env := by rfl) :
    DE X (.Call (.Name "len" p1) [.Call (.Name "set" p2) [a] [] q] [] pos) (tCB (rLenT X.w) (tCons (tCB (rSetT X.K X.w) (tCons ta tNil)) tNil)) (dUn setLenR da) :=
  ⟨pe_callB cr_lenT hg hm PySem.boot_len (pa_cons (pe_callTy (cr_setT hc) hg2 hm2 (by decide +kernel) (pa_cons ha.pe pa_nil na) (by decide) (by decide) na rfl) pa_nil nb) (by decide) (by decide) nb rfl, fun σ H W ρ m F Q hh re h q =>
    ha.up σ H W ρ m _ _ hh re h fun v H1 d W1 m1 s1 r1 h1 => by
      obtain ⟨xs, e, ss, rfl, hb, hf⟩ := withL_ex h1
      obtain ⟨p, vs, rfl, hp, rl⟩ := lst_at s1.held r1 e
      have ev := rl.strs_of
      subst ev
      refine ⟨p, ss, rfl, SqL.of hp, hb, fun a c ha2 => ⟨a, _, c, rfl, upd_same, fun ys nd hm => ?_⟩⟩
      have hl : ys.length = cardS ss := card_of nd fun k => (hm k).trans decide_eq_true_iff
      rw [hl]
      exact q _ _ _ _ _ (s1.trans hh (step_junk s1.held ha2 _)) (.int _) hf⟩
theorem de_sortSet (hg : Gl X "sorted") (hm : X.mg "sorted" = none) (hg2 : Gl X "set") (hm2 : X.mg "set" = none) (ha : DE X a ta da) (hc : X.calm = true := by rfl) (na : starEach [a] X.env = (false, eval a X.env) :: starEach [] X.env := by rfl)
    (nb : starEach [.Call (.Name "set" p2) [a] [] q] X.env = (false, eval (.Call (.Name "set" p2) [a] [] q) X.env) :: starEach [] X.env := by rfl) :
    DE X (.Call (.Name "sorted" p1) [.Call (.Name "set" p2) [a] [] q] [] pos) (tCB (rSortedT X.w) (tCons (tCB (rSetT X.K X.w) (tCons ta tNil)) tNil)) (dUn setSortR da) :=
  ⟨pe_callB (cr_sortedT hc) hg hm (by decide +kernel) (pa_cons (pe_callTy (cr_setT hc) hg2 hm2 (by decide +kernel) (pa_cons ha.pe pa_nil na) (by decide) (by decide) na rfl) pa_nil nb) (by decide) (by decide) nb rfl, fun σ H W ρ m F Q hh re h q =>
    ha.up σ H W ρ m _ _ hh re h fun v H1 d W1 m1 s1 r1 h1 => by
      obtain ⟨xs, e, ss, rfl, hb, hf⟩ := withL_ex h1
      obtain ⟨p, vs, rfl, hp, rl⟩ := lst_at s1.held r1 e
      have ev := rl.strs_of
      subst ev
      refine ⟨p, ss, rfl, SqL.of hp, hb, fun a c ha2 => ⟨a, _, c, rfl, upd_same, fun ys p3 nd hm hs hp3 => ?_⟩⟩
      have hl : ys = uniS ss := uni_of nd (fun k => (hm k).trans decide_eq_true_iff) hs
      subst hl
      have s2 := s1.trans hh (step_junk s1.held ha2 (SetTO X.w a (fun k => decide (k ∈ ss)) c))
      exact new_ok s2.held (o := .lst ((uniS ss).map D.str)) (ho := .lst ((uniS ss).map V.str)) ⟨_, rfl, .strs _⟩ hf (fun v4 H4 d4 W4 m4 s4 r4 f => q v4 H4 d4 W4 m4 (s2.trans hh s4) r4 f) hp3⟩
/-! ### sorted of a list of texts -/
def sortR (d : D) (m : Mu) (F : DK) : Prop := withL d m fun xs => ∃ ss : List Str, xs = ss.map D.str ∧ ss.length < 64 ∧ New (.lst ((sortS ss).map D.str)) m F
theorem lr_sort : LRA K (rSortedS K) (fun ds m F => match ds with | [d] => sortR d m F | _ => False) := fun H W m xs vs F Q hh r h q => by
  match xs, r, h with
  | [d], .cons r1 .nil, h =>
    obtain ⟨xs, e, ss, rfl, hl, hf⟩ := withL_ex (d := d) h
    obtain ⟨p, vs, rfl, hp, rl⟩ := lst_at hh r1 e
    have ev := rl.strs_of
    subst ev
    refine ⟨p, ss, rfl, SqL.of hp, hl, fun ys a pm hs ha => ?_⟩
    have ey := sortS_eq pm hs
    subst ey
    exact new_ok hh (o := .lst ((sortS ss).map D.str)) (ho := .lst ((sortS ss).map V.str)) ⟨_, rfl, .strs _⟩ hf q ha
end
/-! ### membership -/
def flatD : D → Bool
  | .non => true
  | .bl _ => true
  | .int _ => true
  | .str _ => true
  | _ => false
def eqF : D → D → Bool
  | .non, .non => true
  | .bl a, .bl b => a == b
  | .bl a, .int b => (if a then 1 else 0) == b
  | .int a, .bl b => a == (if b then 1 else 0)
  | .int a, .int b => a == b
  | .str a, .str b => a == b
  | _, _ => false
def inD (x : D) (xs : List D) : Bool := xs.any fun y => eqF y x
section
variable {X : Cx} {K : PySem.W.Frag} {W : Wd}
theorem flat_rep {d : D} {v : V} (h : flatD d = true) (r : Rep K W d v) : flatV v = true := by
  cases r with
  | non => rfl
  | bl b => rfl
  | int i => rfl
  | str x => rfl
  | _ => cases h
theorem eqF_rep {d e : D} {v u : V} (hd : flatD d = true) (he : flatD e = true) (r : Rep K W d v) (r2 : Rep K W e u) : eqV v u = eqF d e := by
  cases r with
  | non => cases r2 with
    | non => rfl
    | bl b => rfl
    | int i => rfl
    | str x => rfl
    | _ => cases he
  | bl b => cases r2 with
    | non => rfl
    | bl b => rfl
    | int i => rfl
    | str x => rfl
    | _ => cases he
  | int i => cases r2 with
    | non => rfl
    | bl b => rfl
    | int i => rfl
    | str x => rfl
    | _ => cases he
  | str x => cases r2 with
    | non => rfl
    | bl b => rfl
    | int i => rfl
    | str x => rfl
    | _ => cases he
  | _ => cases hd
theorem flats_rep : ∀ {ds : List D} {vs : List V}, ds.all flatD = true → RepL K W ds vs → vs.all flatV = true
  | [], _, _, .nil => rfl
  | d :: ds, _, h, .cons r t => by
    rw [List.all_cons, Bool.and_eq_true] at h
    rw [List.all_cons, flat_rep h.1 r, flats_rep h.2 t]; rfl
theorem in_rep {x : D} {v : V} (hx : flatD x = true) (rx : Rep K W x v) : ∀ {ds : List D} {vs : List V}, ds.all flatD = true → RepL K W ds vs → inV v vs = inD x ds
  | [], _, _, .nil => rfl
  | d :: ds, _, h, .cons r t => by
    rw [List.all_cons, Bool.and_eq_true] at h
    have ih := in_rep hx rx h.2 t
    unfold inV inD at ih ⊢
    rw [List.any_cons, List.any_cons, eqF_rep h.1 hx r rx, ih]
theorem in_strs (x : Str) (ss : List Str) : inD (.str x) (ss.map D.str) = decide (x ∈ ss) := by
  unfold inD
  rw [Bool.eq_iff_iff, List.any_eq_true, decide_eq_true_iff]
  constructor
  · rintro ⟨y, hy, e⟩
    obtain ⟨z, hz, rfl⟩ := List.mem_map.mp hy
    have e2 : (z == x) = true := e
    rw [← beq_iff_eq.mp e2]; exact hz
  · intro h
    exact ⟨.str x, List.mem_map.mpr ⟨x, h, rfl⟩, beq_self_eq_true x⟩
theorem flat_strs' (ss : List Str) : (ss.map D.str).all flatD = true := by
  rw [List.all_eq_true]
  intro d hd
  obtain ⟨z, _, rfl⟩ := List.mem_map.mp hd
  rfl
/-- x in y: a sign in a text, or a flat thing in a list or tuple of such -/
def inR (neg : Bool) : RD2 := fun x y m F => match y with
  | .str z => onS x fun s => (match s.cps.toList with
    | [c] => F (.bl (if neg then !decide (c ∈ z.cps.toList) else decide (c ∈ z.cps.toList))) m
    | _ => False)
  | y => withS y m fun ys => (flatD x = true ∧ ys.all flatD = true) ∧ F (.bl (if neg then !inD x ys else inD x ys)) m
def rInU (K : PySem.W.Frag) (neg : Bool) : R2 := fun x y H Q => (∃ (c : Nat) (z : Str), x = .str ⟨#[c]⟩ ∧ y = .str z ∧ Q (.bl (if neg then !decide (c ∈ z.cps.toList) else decide (c ∈ z.cps.toList))) H) ∨ rIn K neg x y H Q
theorem op_inU : OpR X (compareOp .In) (rInU X.K false) := op_in_sign.or op_in_seq
theorem op_notInU : OpR X (compareOp .NotIn) (rInU X.K true) := op_notIn_sign.or op_notIn_seq
theorem lr_in {neg : Bool} : LR2 K (rInU K neg) (inR neg) := fun H W m x y v u F Q hh rx ry h q => by
  have seq : (withS y m fun ys => (flatD x = true ∧ ys.all flatD = true) ∧ F (.bl (if neg then !inD x ys else inD x ys)) m) → rInU K neg v u H Q := fun h => by
    rcases withS_ex h with ⟨ys, e, ⟨h1, h2⟩, hf⟩ | ⟨ys, rfl, ⟨h1, h2⟩, hf⟩
    · obtain ⟨p, vs, rfl, hp, rl⟩ := lst_at hh ry e
      refine .inr ⟨p, vs, rfl, .inl (SqL.of hp), flat_rep h1 rx, flats_rep h2 rl, ?_⟩
      rw [in_rep h1 rx h2 rl]
      exact q _ _ _ _ _ (.refl hh) (.bl _) hf
    · obtain ⟨p, vs, rfl, hp, rl⟩ := tup_at hh ry rfl
      refine .inr ⟨p, vs, rfl, .inr (SqT.of hp), flat_rep h1 rx, flats_rep h2 rl, ?_⟩
      rw [in_rep h1 rx h2 rl]
      exact q _ _ _ _ _ (.refl hh) (.bl _) hf
  cases y with
  | str z =>
    obtain ⟨s, rfl, h⟩ := onS_ex (d := x) h
    obtain ⟨⟨l⟩⟩ := s
    match l, h with
    | [c], h => exact .inl ⟨c, z, rep_str rx, rep_str ry, q _ _ _ _ _ (.refl hh) (.bl _) h⟩
  | _ => exact seq h
end
end DL

/-! == of plain data and of own instances, len, isinstance, conversions, methods of lists. -/
namespace DL
open PySem L2 DM

/-! ### plain data -/
mutual
def toP : D → PyData
  | .bl b => .bool b
  | .int i => .int i
  | .str x => .str x
  | .lst xs => .list (toPs xs)
  | .tup xs => .tuple (toPs xs)
  | _ => .none
def toPs : List D → List PyData
  | [] => []
  | d :: ds => toP d :: toPs ds
end
mutual
def isP : D → Bool
  | .non => true
  | .bl _ => true
  | .int _ => true
  | .str x => PyData.strOk x
  | .lst xs => isPs xs
  | .tup xs => isPs xs
  | _ => false
def isPs : List D → Bool
  | [] => true
  | d :: ds => isP d && isPs ds
end
section
variable {X : Cx} {K : PySem.W.Frag} {W : Wd} {m : Mu} {H : Hp}
mutual
theorem rep_dp (hh : Held K W m H) : ∀ {d : D} {v : V}, isP d = true → Rep K W d v → Dp K H v (toP d)
  | _, _, _, .non => .non
  | _, _, _, .bl b => .bl b
  | _, _, _, .int i => .int i
  | _, _, _, .str x => .str x
  | _, _, h, .lst hp r => .lst (SqL.of (hh.G _ _ hp)) (repL_dp hh (by simpa [isP] using h) r)
  | _, _, h, .tup hp r => .tup (SqT.of (hh.G _ _ hp)) (repL_dp hh (by simpa [isP] using h) r)
  | _, _, h, .dK _ _ => by simp [isP] at h
  | _, _, h, .dT _ _ => by simp [isP] at h
  | _, _, h, .ins _ _ => by simp [isP] at h
  | _, _, h, .ref _ => by simp [isP] at h
  | _, _, h, .scr _ => by simp [isP] at h
  | _, _, h, .opq _ => by simp [isP] at h
theorem repL_dp (hh : Held K W m H) : ∀ {ds : List D} {vs : List V}, isPs ds = true → RepL K W ds vs → DpAll K H vs (toPs ds)
  | _, _, _, .nil => .nil
  | _, _, h, .cons r t => by
    rw [isPs, Bool.and_eq_true] at h
    exact .cons (rep_dp hh h.1 r) (repL_dp hh h.2 t)
end
mutual
theorem isP_lay : ∀ d : D, isP d = true → (toP d).canLay0 = true
  | .non, _ => by simp [toP, PyData.canLay0]
  | .bl _, _ => by simp [toP, PyData.canLay0]
  | .int _, _ => by simp [toP, PyData.canLay0]
  | .str x, h => by simpa [toP, PyData.canLay0, isP] using h
  | .lst xs, h => by simpa [toP, PyData.canLay0] using isPs_lay xs (by simpa [isP] using h)
  | .tup xs, h => by simpa [toP, PyData.canLay0] using isPs_lay xs (by simpa [isP] using h)
  | .dK _ _, h => by simp [isP] at h
  | .dT _ _, h => by simp [isP] at h
  | .ins _ _ _, h => by simp [isP] at h
  | .ref _, h => by simp [isP] at h
  | .scr _, h => by simp [isP] at h
  | .opq _, h => by simp [isP] at h
theorem isPs_lay : ∀ ds : List D, isPs ds = true → PyData.canLayAll0 (toPs ds) = true
  | [], _ => by simp [toPs, PyData.canLayAll0]
  | d :: ds, h => by
    rw [isPs, Bool.and_eq_true] at h
    simp [toPs, PyData.canLayAll0, isP_lay d h.1, isPs_lay ds h.2]
end
/-- data that == tells apart by its content: plain, not too deep -/
def okP (d : D) : Prop := isP d = true ∧ (toP d).depth ≤ 64
theorem okP_shaped {d : D} (h : okP d) : SeqAt.shaped (toP d) = true := by
  unfold SeqAt.shaped
  rw [isP_lay d h.1, decide_eq_true h.2]; rfl
/-- the datum as it stands now -/
def vwE (d : D) (m : Mu) (B : D → Prop) : Prop := match d with
  | .ref k => ∃ xs, m k = some (.lst xs) ∧ B (.lst xs)
  | d => B d
theorem vw_dp (hh : Held K W m H) {d : D} {v : V} {B : D → Prop} (h : vwE d m B) (r : Rep K W d v) : ∃ d', B d' ∧ (okP d' → Dp K H v (toP d')) := by
  cases d with
  | ref k =>
    obtain ⟨xs, e, h⟩ := h
    refine ⟨_, h, fun hp => ?_⟩
    obtain ⟨p, vs, rfl, hp2, rl⟩ := lst_at hh r (lstOf_ref e)
    have h2 : isPs xs = true := by simpa [isP] using hp.1
    show Dp K H (.ref p) (toP (.lst xs))
    rw [toP]
    exact .lst (SqL.of hp2) (repL_dp hh h2 rl)
  | _ => exact ⟨_, h, fun hp => rep_dp hh hp.1 r⟩
def eqD (x y : D) : Bool := PyData.eqv (toP x) (toP y)
def eqR (neg : Bool) : RD2 := fun x y m F => vwE x m fun x' => vwE y m fun y' => (okP x' ∧ okP y') ∧ F (.bl (if neg then !eqD x' y' else eqD x' y')) m
theorem lr_eq : LR2 K (rEqD K) (eqR false) := fun H W m x y v u F Q hh rx ry h q => by
  obtain ⟨x', h, hx⟩ := vw_dp hh h rx
  obtain ⟨y', ⟨⟨ox, oy⟩, h⟩, hy⟩ := vw_dp hh h ry
  exact ⟨_, _, hx ox, hy oy, okP_shaped ox, okP_shaped oy, q _ _ _ _ _ (.refl hh) (.bl _) h⟩
theorem lr_ne : LR2 K (rNeD K) (eqR true) := fun H W m x y v u F Q hh rx ry h q => by
  obtain ⟨x', h, hx⟩ := vw_dp hh h rx
  obtain ⟨y', ⟨⟨ox, oy⟩, h⟩, hy⟩ := vw_dp hh h ry
  exact ⟨_, _, hx ox, hy oy, okP_shaped ox, okP_shaped oy, q _ _ _ _ _ (.refl hh) (.bl _) h⟩
/-! ### own instances -/
-- data without mutable or unknown parts: it is told by its place
mutual
def solid : D → Bool
  | .non => true
  | .bl _ => true
  | .int _ => true
  | .str _ => true
  | .lst xs => solids xs
  | .tup xs => solids xs
  | .ins _ _ xs => solids xs
  | _ => false
def solids : List D → Bool
  | [] => true
  | d :: ds => solid d && solids ds
end
mutual
theorem rep_inj : ∀ {d e : D} {v : V}, solid d = true → solid e = true → Rep K W d v → Rep K W e v → d = e
  | _, _, _, _, _, .non, .non => rfl
  | _, _, _, _, _, .bl _, .bl _ => rfl
  | _, _, _, _, _, .int _, .int _ => rfl
  | _, _, _, _, _, .str _, .str _ => rfl
  | _, _, _, hd, he, .lst hp r, .lst hp2 r2 => by
    rw [hp] at hp2; cases hp2
    rw [repL_inj (by simpa [solid] using hd) (by simpa [solid] using he) r r2]
  | _, _, _, hd, he, .tup hp r, .tup hp2 r2 => by
    rw [hp] at hp2; cases hp2
    rw [repL_inj (by simpa [solid] using hd) (by simpa [solid] using he) r r2]
  | _, _, _, hd, he, .ins hp r, .ins hp2 r2 => by
    rw [hp] at hp2; cases hp2
    rw [repL_inj (by simpa [solid] using hd) (by simpa [solid] using he) r r2]
  | _, _, _, _, _, .lst hp _, .tup hp2 _ => by rw [hp] at hp2; cases hp2
  | _, _, _, _, _, .lst hp _, .ins hp2 _ => by rw [hp] at hp2; cases hp2
  | _, _, _, _, _, .tup hp _, .lst hp2 _ => by rw [hp] at hp2; cases hp2
  | _, _, _, _, _, .tup hp _, .ins hp2 _ => by rw [hp] at hp2; cases hp2
  | _, _, _, _, _, .ins hp _, .lst hp2 _ => by rw [hp] at hp2; cases hp2
  | _, _, _, _, _, .ins hp _, .tup hp2 _ => by rw [hp] at hp2; cases hp2
  | _, _, _, hd, _, .dK _ _, _ => by simp [solid] at hd
  | _, _, _, hd, _, .dT _ _, _ => by simp [solid] at hd
  | _, _, _, hd, _, .ref _, _ => by simp [solid] at hd
  | _, _, _, hd, _, .scr _, _ => by simp [solid] at hd
  | _, _, _, hd, _, .opq _, _ => by simp [solid] at hd
  | _, _, _, _, he, _, .dK _ _ => by simp [solid] at he
  | _, _, _, _, he, _, .dT _ _ => by simp [solid] at he
  | _, _, _, _, he, _, .ref _ => by simp [solid] at he
  | _, _, _, _, he, _, .scr _ => by simp [solid] at he
  | _, _, _, _, he, _, .opq _ => by simp [solid] at he
theorem repL_inj : ∀ {ds es : List D} {vs : List V}, solids ds = true → solids es = true → RepL K W ds vs → RepL K W es vs → ds = es
  | _, _, _, _, _, .nil, .nil => rfl
  | _, _, _, hd, he, .cons r t, .cons r2 t2 => by
    rw [solids, Bool.and_eq_true] at hd he
    rw [rep_inj hd.1 he.1 r r2, repL_inj hd.2 he.2 t t2]
end
/-- two instances by the own __eq__ -/
def ownR (C : Addr) (S : SpD) (neg : Bool) : RD2 := fun x y m F => ∃ fs xs gs ys, insOf m x = some (C, fs, xs) ∧ insOf m y = some (C, gs, ys) ∧ S [x, y] m fun r m' => onB r fun b => F (.bl (b == !neg)) m'
theorem lr_own {C : Addr} {S : SpD} {neg : Bool} : LR2 K (rOwnQ C (spD K S) (!neg)) (ownR C S neg) := fun H W m x y v u F Q hh rx ry h q => by
  obtain ⟨fs, xs, gs, ys, ex, ey, h⟩ := h
  obtain ⟨p, dx, fvs, rfl, hp, rfl, rl⟩ := ins_at hh rx ex
  obtain ⟨p2, dx2, fvs2, rfl, hp2, rfl, rl2⟩ := ins_at hh ry ey
  refine ⟨p, p2, dx, dx2, fvs, fvs2, rfl, rfl, hp, hp2, W, m, [x, y], _, hh, .cons rx (.cons ry .nil), h, fun v' H' d W' m' s' r' h' => ?_⟩
  obtain ⟨b, rfl, h'⟩ := onB_ex h'
  exact ⟨b, rep_bl r', q _ _ _ _ _ s' (.bl _) h'⟩
theorem op_own {C f : Addr} {k : Nat} {fd : FuncData} {ps : List Str} {sp : Sp} (q : Bool) (F : FnOk X.prog X.w X.K X.mg X.base CX0 k f fd ps sp) (O : OwnQ X.K C f) (hb : Binds X.K fd ps []) (hr : Room (k + 1) X.A) : OpR X (compareOp (DQ.opOf q)) (rOwnQ C sp q) := by
  intro pins s σ H x y v u Q I rx ry h
  have cmp : compareOp (DQ.opOf q) v u = richCompare (DQ.opOf q) v u := by cases q <;> rfl
  rw [cmp]
  exact rc_ownQ q F O hb ⟨hr, rfl⟩ I rx ry h
/-- two lists of instances; e: the own ==, as a function -/
def allQ (e : D → D → Bool) : List D → List D → Bool
  | [], [] => true
  | x :: xs, y :: ys => e x y && allQ e xs ys
  | _, _ => false
theorem allQ_len {e : D → D → Bool} : ∀ {xs ys : List D}, xs.length ≠ ys.length → allQ e xs ys = false
  | [], [], h => absurd rfl h
  | [], _ :: _, _ => rfl
  | _ :: _, [], _ => rfl
  | x :: xs, y :: ys, h => by
    unfold allQ
    rw [allQ_len (xs := xs) (ys := ys) (fun z => h (by rw [List.length_cons, List.length_cons, z])), Bool.and_false]
theorem allQ_take {e : D → D → Bool} : ∀ {xs ys : List D} {i : Nat} {x y : D}, xs[i]? = some x → ys[i]? = some y → allQ e (xs.take i) (ys.take i) = true → e x y = true → allQ e (xs.take (i + 1)) (ys.take (i + 1)) = true
  | _ :: _, _ :: _, 0, _, _, hx, hy, _, h => by
    cases hx; cases hy
    simp [allQ, h]
  | x0 :: xs, y0 :: ys, i + 1, x, y, hx, hy, h1, h => by
    simp only [List.take_succ_cons, allQ, Bool.and_eq_true] at h1 ⊢
    exact ⟨h1.1, allQ_take (by simpa using hx) (by simpa using hy) h1.2 h⟩
theorem allQ_no {e : D → D → Bool} : ∀ {xs ys : List D} {i : Nat} {x y : D}, xs[i]? = some x → ys[i]? = some y → e x y = false → allQ e xs ys = false
  | _ :: _, _ :: _, 0, _, _, hx, hy, h => by
    cases hx; cases hy
    simp [allQ, h]
  | x0 :: xs, y0 :: ys, i + 1, x, y, hx, hy, h => by
    simp only [allQ]
    rw [allQ_no (xs := xs) (ys := ys) (i := i) (by simpa using hx) (by simpa using hy) h, Bool.and_false]
structure EqBy (C : Addr) (S : SpD) (e : D → D → Bool) (P : D → Prop) : Prop where
  ins : ∀ d, P d → ∃ fs xs, d = .ins C fs xs
  solid : ∀ d, P d → solid d = true
  refl : ∀ d, P d → e d d = true
  sp : ∀ d d' m F, P d → P d' → F (.bl (e d d')) m → S [d, d'] m F
def ownLR (P : D → Prop) (e : D → D → Bool) (neg : Bool) : RD2 := fun x y m F => match x with
  | .lst xs => (match y with
    | .lst ys => ((∀ d ∈ xs, P d) ∧ ∀ d ∈ ys, P d) ∧ F (.bl (allQ e xs ys == !neg)) m
    | _ => False)
  | _ => False
theorem lr_ownL {C : Addr} {S : SpD} {e : D → D → Bool} {P : D → Prop} {neg : Bool} (E : EqBy C S e P) : LR2 K (rOwnL C (spD K S) (!neg)) (ownLR P e neg) := fun H W m x y v u F Q hh rx ry h q => by
  cases x with
  | lst xs => ?_
  | _ => exact h.elim
  cases y with
  | lst ys => ?_
  | _ => exact h.elim
  obtain ⟨⟨px, py⟩, h⟩ := h
  cases rx with
  | lst hg rl => ?_
  cases ry with
  | lst hg2 rl2 => ?_
  refine ⟨_, _, _, _, rfl, rfl, hh.G _ _ hg, hh.G _ _ hg2, ?_⟩
  rw [← rl.length, ← rl2.length]
  by_cases hl : xs.length = ys.length
  · refine .inr ⟨hl, fun i H' => ∃ W', Stp K W m H W' m H' ∧ allQ e (xs.take i) (ys.take i) = true, ⟨W, .refl hh, by simp [allQ]⟩, ?_, ?_, ?_⟩
    · rintro i H' ⟨W', s', _⟩
      exact ⟨s'.held.G _ _ (s'.le.G _ _ hg), s'.held.G _ _ (s'.le.G _ _ hg2)⟩
    · rintro i x y H' hx hy ⟨W', s', ha⟩
      obtain ⟨d, hd, rd⟩ := rl.get hx
      obtain ⟨d2, hd2, rd2⟩ := rl2.get hy
      have pd := px d (List.mem_of_getElem? hd)
      have pd2 := py d2 (List.mem_of_getElem? hd2)
      obtain ⟨fs, zs, ed⟩ := E.ins d pd
      obtain ⟨fs2, zs2, ed2⟩ := E.ins d2 pd2
      have rd' := rd.mono s'.le
      have rd2' := rd2.mono s'.le
      refine ⟨?_, fun hxy => ?_, fun hne => ?_⟩
      · subst ed
        cases rd with
        | ins _ _ => exact ⟨_, rfl⟩
      · subst hxy
        have e2 := rep_inj (E.solid d pd) (E.solid d2 pd2) rd rd2
        subst e2
        exact ⟨W', s', allQ_take hd hd2 ha (E.refl d pd)⟩
      · obtain ⟨a1, dx, fvs, e1, h1, f1, r1⟩ := ins_at s'.held rd' (show insOf m d = some (C, fs, zs) by rw [ed]; rfl)
        obtain ⟨a2, dx2, fvs2, e2, h2, f2, r2⟩ := ins_at s'.held rd2' (show insOf m d2 = some (C, fs2, zs2) by rw [ed2]; rfl)
        refine ⟨a1, a2, dx, dx2, fvs, fvs2, e1, e2, h1, h2, W', m, [d, d2], fun r m' => r = .bl (e d d2) ∧ m' = m, s'.held, .cons rd' (.cons rd2' .nil), E.sp d d2 m _ pd pd2 ⟨rfl, rfl⟩, fun v' H2 d3 W2 m2 s2 r3 h3 => ?_⟩
        obtain ⟨rfl, rfl⟩ := h3
        refine ⟨e d d2, rep_bl r3, _, rfl, fun hr => ?_, fun hr => ?_⟩
        · have hr : e d d2 = true := by simpa using hr
          exact ⟨W2, s'.trans hh s2, allQ_take hd hd2 ha hr⟩
        · have hr : e d d2 = false := by simpa using hr
          have s02 := s'.trans hh s2
          refine ⟨s02.held.G _ _ (s02.le.G _ _ hg), s02.held.G _ _ (s02.le.G _ _ hg2), ?_⟩
          rw [allQ_no hd hd2 hr] at h
          refine q _ _ _ _ _ s02 (.bl _) ?_
          cases neg <;> exact h
    · rintro H' ⟨W', s', ha⟩
      rw [List.take_length, hl, List.take_length] at ha
      rw [ha] at h
      refine q _ _ _ _ _ s' (.bl _) ?_
      cases neg <;> exact h
  · refine .inl ⟨hl, ?_⟩
    rw [allQ_len (e := e) hl] at h
    refine q _ _ _ _ _ (.refl hh) (.bl _) ?_
    cases neg <;> exact h
end
end DL

/-! len, isinstance, conversions, methods of lists. -/
namespace DL
open PySem L2 DM

abbrev RDA := List D → Mu → DK → Prop
section
variable {X : Cx} {K : PySem.W.Frag} {W : Wd} {m : Mu} {H : Hp}
def on1 (ds : List D) (B : D → Prop) : Prop := match ds with
  | [d] => B d
  | _ => False
theorem on1_ex {ds : List D} {B : D → Prop} (h : on1 ds B) : ∃ d, ds = [d] ∧ B d := by
  match ds, h with
  | [d], h => exact ⟨d, rfl, h⟩
def on2 (ds : List D) (B : D → D → Prop) : Prop := match ds with
  | [d, e] => B d e
  | _ => False
theorem on2_ex {ds : List D} {B : D → D → Prop} (h : on2 ds B) : ∃ d e, ds = [d, e] ∧ B d e := by
  match ds, h with
  | [d, e], h => exact ⟨d, e, rfl, h⟩
/-! ### len -/
def lenR : RDA := fun ds m F => on1 ds fun d => match d with
  | .str z => z.length ≤ sizeLine ∧ F (.int z.length) m
  | .scr ns => F (.int ns.length) m
  | d => withS d m fun xs => F (.int xs.length) m
theorem lr_len : LRA K (fun xs H Q => ∃ x n, xs = [x] ∧ LenV K x H n ∧ Q (.int n) H) lenR := fun H W m xs vs F Q hh r h q => by
  obtain ⟨d, rfl, h⟩ := on1_ex h
  obtain ⟨v, rfl, rv⟩ := repL_one r
  have seq : (withS d m fun xs => F (.int xs.length) m) → ∃ x n, [v] = [x] ∧ LenV K x H n ∧ Q (.int n) H := fun h => by
    rcases withS_ex h with ⟨xs, e, h⟩ | ⟨xs, rfl, h⟩
    · obtain ⟨p, us, rfl, hp, rl⟩ := lst_at hh rv e
      exact ⟨_, us.length, rfl, .inl ⟨us, SqL.of hp, rfl⟩, by rw [← rl.length]; exact q _ _ _ _ _ (.refl hh) (.int _) h⟩
    · obtain ⟨p, us, rfl, hp, rl⟩ := tup_at hh rv rfl
      exact ⟨_, us.length, rfl, .inr ⟨us, SqT.of hp, rfl⟩, by rw [← rl.length]; exact q _ _ _ _ _ (.refl hh) (.int _) h⟩
  cases d with
  | str z =>
    rw [rep_str rv]
    exact ⟨_, z.length, rfl, ⟨h.1, rfl⟩, q _ _ _ _ _ (.refl hh) (.int _) h.2⟩
  | scr ns =>
    cases rv with
    | scr hs => exact ⟨_, (ns.map V.int).length, rfl, .inl ⟨_, sqL_le hh.G hs, rfl⟩, by rw [List.length_map]; exact q _ _ _ _ _ (.refl hh) (.int _) h⟩
  | _ => exact seq h
/-- len of an own instance, by its __len__ -/
def rLenO (C : Addr) (sp : Sp) : List V → Hp → VK → Prop := fun xs H Q => ∃ a dx fs, xs = [.ref a] ∧ H a = some (.ins C dx fs) ∧ sp [.ref a] H (fun v H' => ∃ n : Nat, v = .int n ∧ n < 2 ^ 62 ∧ Q (.int n) H') E0
theorem cr_lenO {C f : Addr} {k : Nat} {fd : FuncData} {ps : List Str} {sp : Sp} (F : FnOk X.prog X.w X.K X.mg X.base CX0 k f fd ps sp) (hs : PySem.W.findIn X.K (.ref C) "__len__" = some (some (.ref f))) (hf : PySem.W.isFn X.K (.ref f) = true) (hb : Binds X.K fd ps []) (hr : Room (k + 1) X.A) : CallR X (.builtin "len") (rLenO C sp) := by
  intro pins s σ H xs us Q I r h
  obtain ⟨a, dx, fs, rfl, ha, h⟩ := h
  rw [Vals.ref1 r]
  obtain ⟨mA, J, _⟩ := ins_get I.hok ha
  obtain ⟨od, J, _⟩ := J.look
  obtain ⟨m, hF⟩ := I.fr
  have e0 : Env0 X.prog X.w X.K X.mg X.base X.A.in1 X.stack s H := I.env0.in1
  have hl := F.len _ _ _ _ h
  refine PySem.W.len_K hF I.ok.mod.kin J hs hf (wpAny_call (codeAny_mono (F.run X.A.in1 X.stack s H ⟨[.ref a], []⟩ [.ref a] [.ref a] _ E0 hr.in1 e0 (by
    have := hb s [.ref a] I.kIn (by simpa using hl)
    simpa using this) (.cons rfl .nil) h) fun r s' hq => ?_))
  cases r with
  | error e => exact hq.elim
  | ok fl =>
    cases fl with
    | ret w =>
      obtain ⟨z, H', I', rz, n, ez, hn, qz⟩ := I.after hq
      subst ez
      obtain ⟨t, rfl⟩ := rz
      exact ⟨⟨by omega, by have : (n : Int) < 2 ^ 62 := by exact_mod_cast hn
                           omega⟩, .int n, H', I'.tok _, ⟨_, rfl⟩, qz⟩
    | next => exact False.elim hq
    | brk => exact False.elim hq
    | cont => exact False.elim hq
def lenOR (C : Addr) (S : SpD) : RDA := fun ds m F => on1 ds fun d => ∃ fs xs, insOf m d = some (C, fs, xs) ∧ S [d] m fun r m' => onI r fun n => (0 ≤ n ∧ n < 2 ^ 62) ∧ F (.int n) m'
theorem lr_lenO {C : Addr} {S : SpD} : LRA K (rLenO C (spD K S)) (lenOR C S) := fun H W m xs vs F Q hh r h q => by
  obtain ⟨d, rfl, fs, ys, e, h⟩ := on1_ex h
  obtain ⟨v, rfl, rv⟩ := repL_one r
  obtain ⟨p, dx, fvs, rfl, hp, rfl, rl⟩ := ins_at hh rv e
  refine ⟨p, dx, fvs, rfl, hp, W, m, [d], _, hh, .cons rv .nil, h, fun v' H' d' W' m' s' r' h' => ?_⟩
  obtain ⟨n, rfl, ⟨h0, h1⟩, hf⟩ := onI_ex h'
  refine ⟨n.toNat, by rw [rep_int r', Int.toNat_of_nonneg h0], by omega, ?_⟩
  rw [Int.toNat_of_nonneg h0]
  exact q _ _ _ _ _ s' (.int _) hf
/-! ### isinstance -/
def tyN (m : Mu) : D → Option String
  | .non => some "NoneType"
  | .bl _ => some "bool"
  | .int _ => some "int"
  | .str _ => some "str"
  | .lst _ => some "list"
  | .tup _ => some "tuple"
  | .ref k => (match m k with
    | some (.lst _) => some "list"
    | some (.dK _) => some "dict"
    | some (.dT _) => some "dict"
    | _ => none)
  | _ => none
def isiT (a b : String) : Bool := a == b || (a == "bool" && b == "int")
def tys : List String := ["NoneType", "bool", "int", "str", "list", "tuple", "dict"]
theorem kit_tab : (tys.all fun a => (tys.tail).all fun b => kitB a b == some (isiT a b)) = true := by decide +kernel
theorem kit_of_tab {a b : String} (ha : a ∈ tys) (hb : b ∈ tys.tail) : kitB a b = some (isiT a b) := by
  have h := List.all_eq_true.mp (List.all_eq_true.mp kit_tab a ha) b hb
  exact eq_of_beq h
/-- what isinstance asks of an own class -/
structure InsTy (K : PySem.W.Frag) (C : Addr) : Prop where
  cl : Cls K C
  ha : PySem.W.findIn K (.ref C) "__class__" = some (some (.builtin "object.__class__"))
  hn : PySem.W.specialIn K (.builtin "object.__class__") "__get__" = some (some (.builtin "getset_descriptor.__get__"))
  htk : PySem.W.takesIn K (.builtin "object.__class__") = some true
  hm : PySem.W.mroIn K C (.type "object") = some true
theorem tyN_mem {m : Mu} {d : D} {t : String} (h : tyN m d = some t) : t ∈ tys := by
  unfold tyN at h
  split at h <;> first
    | (cases h; decide)
    | (split at h <;> first | (cases h; decide) | cases h)
    | cases h
theorem tyN_rep (hh : Held K W m H) {d : D} {v : V} {t : String} (h : tyN m d = some t) (r : Rep K W d v) : TyOf K H v (.type t) := by
  cases r with
  | non => cases h; exact .non
  | bl b => cases h; exact .bl b
  | int i => cases h; exact .int i
  | str x => cases h; exact .str x
  | lst hp _ => cases h; exact .lst (hh.G _ _ hp)
  | tup hp _ => cases h; exact .tup (hh.G _ _ hp)
  | ref hk =>
    rename_i k
    cases q : m k with
    | none => simp [tyN, q] at h
    | some o =>
      obtain ⟨_, _, ho, h3, ro⟩ := hh.ob k o q
      cases o with
      | lst xs =>
        simp [tyN, q] at h
        subst h
        obtain ⟨vs, rfl, _⟩ := ro
        exact .lst h3
      | dK ks =>
        simp [tyN, q] at h
        subst h
        obtain ⟨vs, rfl, _⟩ := ro
        exact .dK h3
      | dT ks =>
        simp [tyN, q] at h
        subst h
        obtain ⟨vs, rfl, _⟩ := ro
        exact .dT h3
      | lk _ _ _ => simp [tyN, q] at h
      | lkT _ _ _ => simp [tyN, q] at h
      | ins _ _ _ => simp [tyN, q] at h
  | _ => cases h
/-- isinstance(d, c): c a built-in class or an own one -/
def isiR (K : PySem.W.Frag) : RDA := fun ds m F => on2 ds fun d c => match c with
  | .opq (.ty n) => (match d with
    | .ins C _ _ => ∃ b, (InsTy K C ∧ PySem.W.kitOne K (.ref C) (.type n) = some b) ∧ F (.bl b) m
    | d => onO (tyN m d) fun t => n ∈ tys.tail ∧ F (.bl (isiT t n)) m)
  | .opq (.ref C') => (match d with
    | .ins C _ _ => ∃ b, (InsTy K C ∧ PySem.W.kitOne K (.ref C) (.ref C') = some b) ∧ F (.bl b) m
    | d => onO (tyN m d) fun t => PySem.W.kitOne K (.type t) (.ref C') = some false ∧ F (.bl false) m)
  | _ => False
theorem rep_opq {d v u : V} (r : Rep K W (.opq v) u) : u = v := by cases r; rfl
theorem lr_isi : LRA K (rIsi K) (isiR K) := fun H W m xs vs F Q hh r h q => by
  obtain ⟨d, c, rfl, h⟩ := on2_ex h
  obtain ⟨v, u, rfl, rv, ru⟩ := repL_two r
  cases c with
  | opq w =>
    have eu : u = w := by cases ru; rfl
    subst eu
    have insC : ∀ {C : Addr} {fs : List Str} {xs : List D}, d = .ins C fs xs → InsTy K C → TyOf K H v (.ref C) := fun {C fs xs} e T => by
      subst e
      cases rv with
      | ins hp _ => exact .ins (hh.G _ _ hp) T.cl T.ha T.hn T.htk T.hm
    cases u with
    | ty n =>
      have gen : (onO (tyN m d) fun t => n ∈ tys.tail ∧ F (.bl (isiT t n)) m) → rIsi K [v, .ty n] H Q := fun h => by
        obtain ⟨t, et, hn, hf⟩ := onO_ex h
        exact ⟨v, .ty n, .type t, .type n, isiT t n, rfl, .ty n, .base (tyN_rep hh et rv), kit_ty (kit_of_tab (tyN_mem et) hn), q _ _ _ _ _ (.refl hh) (.bl _) hf⟩
      cases d with
      | ins C fs xs =>
        obtain ⟨b, ⟨T, hk⟩, hf⟩ := h
        exact ⟨v, .ty n, .ref C, .type n, b, rfl, .ty n, .base (insC rfl T), hk, q _ _ _ _ _ (.refl hh) (.bl _) hf⟩
      | _ => exact gen h
    | ref C' =>
      have gen : (onO (tyN m d) fun t => PySem.W.kitOne K (.type t) (.ref C') = some false ∧ F (.bl false) m) → rIsi K [v, .ref C'] H Q := fun h => by
        obtain ⟨t, et, hn, hf⟩ := onO_ex h
        exact ⟨v, .ref C', .type t, .ref C', false, rfl, .own C', .base (tyN_rep hh et rv), hn, q _ _ _ _ _ (.refl hh) (.bl _) hf⟩
      cases d with
      | ins C fs xs =>
        obtain ⟨b, ⟨T, hk⟩, hf⟩ := h
        exact ⟨v, .ref C', .ref C, .ref C', b, rfl, .own C', .base (insC rfl T), hk, q _ _ _ _ _ (.refl hh) (.bl _) hf⟩
      | _ => exact gen h
    | _ => exact h.elim
  | _ => exact h.elim
/-! ### list(x), tuple(x), sum, max, min, int -/
def listR : RDA := fun ds m F => on1 ds fun d => withS d m fun xs => New (.lst xs) m F
theorem lr_list : LRA K (fun xs H Q => ∃ p ys, xs = [.ref p] ∧ (SqL K H p ys ∨ SqT K H p ys) ∧ ∀ l, H l = none → Q (.ref l) (upd H l (.lst ys))) listR := fun H W m xs vs F Q hh r h q => by
  obtain ⟨d, rfl, h⟩ := on1_ex h
  obtain ⟨v, rfl, rv⟩ := repL_one r
  rcases withS_ex h with ⟨xs, e, h⟩ | ⟨xs, rfl, h⟩
  · obtain ⟨p, us, rfl, hp, rl⟩ := lst_at hh rv e
    exact ⟨p, us, rfl, .inl (SqL.of hp), fun a ha => new_ok hh (o := .lst xs) (ho := .lst us) ⟨_, rfl, rl⟩ h q ha⟩
  · obtain ⟨p, us, rfl, hp, rl⟩ := tup_at hh rv rfl
    exact ⟨p, us, rfl, .inr (SqT.of hp), fun a ha => new_ok hh (o := .lst xs) (ho := .lst us) ⟨_, rfl, rl⟩ h q ha⟩
def tupleR : RDA := fun ds m F => on1 ds fun d => withS d m fun xs => F (.tup xs) m
theorem lr_tuple : LRA K (fun xs H Q => ∃ p ys, xs = [.ref p] ∧ ((SqL K H p ys ∧ ∀ l, H l = none → Q (.ref l) (upd H l (.tup ys))) ∨ (SqT K H p ys ∧ Q (.ref p) H))) tupleR := fun H W m xs vs F Q hh r h q => by
  obtain ⟨d, rfl, h⟩ := on1_ex h
  obtain ⟨v, rfl, rv⟩ := repL_one r
  rcases withS_ex h with ⟨xs, e, h⟩ | ⟨xs, rfl, h⟩
  · obtain ⟨p, us, rfl, hp, rl⟩ := lst_at hh rv e
    exact ⟨p, us, rfl, .inl ⟨SqL.of hp, fun a ha => q _ _ _ _ _ (tup_new hh rl ha).1 (tup_new hh rl ha).2 h⟩⟩
  · obtain ⟨p, us, rfl, hp, rl⟩ := tup_at hh rv rfl
    exact ⟨p, us, rfl, .inr ⟨SqT.of hp, q _ _ _ _ _ (.refl hh) rv h⟩⟩
def sumR : RDA := fun ds m F => on1 ds fun d => withL d m fun xs => ∃ ns : List Int, xs = ns.map D.int ∧ F (.int ns.sum) m
theorem lr_sum : LRA K (rSum K) sumR := fun H W m xs vs F Q hh r h q => by
  obtain ⟨d, rfl, h⟩ := on1_ex h
  obtain ⟨v, rfl, rv⟩ := repL_one r
  obtain ⟨xs, e, ns, rfl, h⟩ := withL_ex h
  obtain ⟨p, us, rfl, hp, rl⟩ := lst_at hh rv e
  have ev := rl.ints_of
  subst ev
  exact ⟨p, ns, rfl, SqL.of hp, q _ _ _ _ _ (.refl hh) (.int _) h⟩
def max2R : RDA := fun ds m F => on2 ds fun a b => onI a fun i => onI b fun j => F (.int (if j > i then j else i)) m
def min2R : RDA := fun ds m F => on2 ds fun a b => onI a fun i => onI b fun j => F (.int (if j < i then j else i)) m
theorem lr_max2 : LRA K (fun xs H Q => ∃ i j, xs = [.int i, .int j] ∧ Q (.int (if j > i then j else i)) H) max2R := fun H W m xs vs F Q hh r h q => by
  obtain ⟨a, b, rfl, h⟩ := on2_ex h
  obtain ⟨i, rfl, h⟩ := onI_ex (d := a) h
  obtain ⟨j, rfl, h⟩ := onI_ex (d := b) h
  obtain ⟨v, u, rfl, rv, ru⟩ := repL_two r
  exact ⟨i, j, by rw [rep_int rv, rep_int ru], q _ _ _ _ _ (.refl hh) (.int _) h⟩
theorem lr_min2 : LRA K (fun xs H Q => ∃ i j, xs = [.int i, .int j] ∧ Q (.int (if j < i then j else i)) H) min2R := fun H W m xs vs F Q hh r h q => by
  obtain ⟨a, b, rfl, h⟩ := on2_ex h
  obtain ⟨i, rfl, h⟩ := onI_ex (d := a) h
  obtain ⟨j, rfl, h⟩ := onI_ex (d := b) h
  obtain ⟨v, u, rfl, rv, ru⟩ := repL_two r
  exact ⟨i, j, by rw [rep_int rv, rep_int ru], q _ _ _ _ _ (.refl hh) (.int _) h⟩
def int1R : RDA := fun ds m F => on1 ds fun a => match a with
  | .int i => F (.int i) m
  | .bl k => F (.int (if k then 1 else 0)) m
  | _ => False
theorem lr_int1 : LRA K (fun xs H Q => (∃ i, xs = [.int i] ∧ Q (.int i) H) ∨ ∃ k, xs = [.bl k] ∧ Q (.int (if k then 1 else 0)) H) int1R := fun H W m xs vs F Q hh r h q => by
  obtain ⟨a, rfl, h⟩ := on1_ex h
  obtain ⟨v, rfl, rv⟩ := repL_one r
  cases a with
  | int i => exact .inl ⟨i, by rw [rep_int rv], q _ _ _ _ _ (.refl hh) (.int _) h⟩
  | bl k => exact .inr ⟨k, by rw [rep_bl rv], q _ _ _ _ _ (.refl hh) (.int _) h⟩
  | _ => exact h.elim
/-! ### methods of lists -/
def dBm (r : D → List D → Mu → DK → Prop) (t : TD) (ta : TDA) : TD := fun ρ m F => t ρ m fun d m1 => (∃ xs, lstOf m1 d = some xs) ∧ ta ρ m1 fun ds m2 => r d ds m2 F
def withM (d : D) (m : Mu) (B : Nat → List D → Prop) : Prop := match d with
  | .ref k => ∃ xs, m k = some (.lst xs) ∧ B k xs
  | _ => False
theorem withM_ex {d : D} {m : Mu} {B : Nat → List D → Prop} (h : withM d m B) : ∃ k xs, d = .ref k ∧ m k = some (.lst xs) ∧ B k xs := by
  cases d with
  | ref k => obtain ⟨xs, e, h⟩ := h; exact ⟨k, xs, rfl, e, h⟩
  | _ => exact h.elim
theorem mut_at (hh : Held K W m H) {k : Nat} {xs : List D} {v : V} (e : m k = some (.lst xs)) (r : Rep K W (.ref k) v) : v = .ref (W.th k) ∧ ∃ vs, H (W.th k) = some (.lst vs) ∧ RepL K W xs vs := by
  cases r
  obtain ⟨_, _, ho, h3, vs, rfl, rl⟩ := hh.ob k _ e
  exact ⟨rfl, vs, h3, rl⟩
def appR : D → List D → Mu → DK → Prop := fun d ds m F => on1 ds fun y => withM d m fun k xs => xs.length < sizeLine ∧ F .non (mset m k (.lst (xs ++ [y])))
theorem lr_app : LRM K rAppend appR := fun H W m x v xs vs F Q hh rx r h q => by
  obtain ⟨y, rfl, h⟩ := on1_ex h
  obtain ⟨k, zs, rfl, e, hl, h⟩ := withM_ex h
  obtain ⟨u, rfl, ru⟩ := repL_one r
  obtain ⟨rfl, ws, hw, rl⟩ := mut_at hh e rx
  exact ⟨_, ws, u, rfl, rfl, hw, by rw [← rl.length]; exact hl, q _ _ _ _ _ (step_mut hh e (o' := .lst (zs ++ [y])) (ho := .lst (ws ++ [u])) ⟨_, rfl, rl.append (.one ru)⟩) .non h⟩
def insR : D → List D → Mu → DK → Prop := fun d ds m F => on2 ds fun a y => onI a fun i => withM d m fun k xs => (xs.length < sizeLine ∧ 0 ≤ i ∧ i < 2 ^ 63) ∧ F .non (mset m k (.lst (xs.take i.toNat ++ [y] ++ xs.drop i.toNat)))
theorem lr_insert : LRM K (fun x vs H Q => ∃ (l : Addr) (xs : List V) (i : Int) (y : V), x = .ref l ∧ vs = [.int i, y] ∧ H l = some (.lst xs) ∧ xs.length < sizeLine ∧ 0 ≤ i ∧ i < 2 ^ 63 ∧
    Q .non (upd H l (.lst (xs.take i.toNat ++ [y] ++ xs.drop i.toNat)))) insR := fun H W m x v xs vs F Q hh rx r h q => by
  obtain ⟨a, y, rfl, h⟩ := on2_ex h
  obtain ⟨i, rfl, h⟩ := onI_ex (d := a) h
  obtain ⟨k, zs, rfl, e, ⟨hl, h0, h1⟩, h⟩ := withM_ex h
  obtain ⟨u0, u, rfl, r0, ru⟩ := repL_two r
  obtain ⟨rfl, ws, hw, rl⟩ := mut_at hh e rx
  exact ⟨_, ws, i, u, rfl, by rw [rep_int r0], hw, by rw [← rl.length]; exact hl, h0, h1, q _ _ _ _ _ (step_mut hh e (o' := .lst (zs.take i.toNat ++ [y] ++ zs.drop i.toNat)) (ho := .lst (ws.take i.toNat ++ [u] ++ ws.drop i.toNat)) ⟨_, rfl, ((rl.take _).append (.one ru)).append (rl.drop _)⟩) .non h⟩
def clrR : D → List D → Mu → DK → Prop := fun d ds m F => ds = [] ∧ withM d m fun k xs => F .non (mset m k (.lst []))
theorem lr_clear : LRM K rClear clrR := fun H W m x v xs vs F Q hh rx r h q => by
  obtain ⟨rfl, h⟩ := h
  obtain ⟨k, zs, rfl, e, h⟩ := withM_ex h
  cases r
  obtain ⟨rfl, ws, hw, rl⟩ := mut_at hh e rx
  exact ⟨_, ws, rfl, rfl, hw, q _ _ _ _ _ (step_mut hh e (o' := .lst []) (ho := .lst []) ⟨_, rfl, .nil⟩) .non h⟩
def revR : D → List D → Mu → DK → Prop := fun d ds m F => ds = [] ∧ withM d m fun k xs => F .non (mset m k (.lst xs.reverse))
theorem lr_reverse : LRM K rReverse revR := fun H W m x v xs vs F Q hh rx r h q => by
  obtain ⟨rfl, h⟩ := h
  obtain ⟨k, zs, rfl, e, h⟩ := withM_ex h
  cases r
  obtain ⟨rfl, ws, hw, rl⟩ := mut_at hh e rx
  exact ⟨_, ws, rfl, rfl, hw, q _ _ _ _ _ (step_mut hh e (o' := .lst zs.reverse) (ho := .lst ws.reverse) ⟨_, rfl, rl.reverse⟩) .non h⟩
/-- xs.index(y), texts -/
def idxS (y : Str) : List Str → Option Nat
  | [] => none
  | x :: r => if x = y then some 0 else (idxS y r).map (· + 1)
theorem idxS_some {y : Str} : ∀ {l : List Str} {j : Nat}, idxS y l = some j → l[j]? = some y ∧ ∀ (i : Nat) z, i < j → l[i]? = some z → z ≠ y
  | [], _, h => by cases h
  | x :: r, j, h => by
    unfold idxS at h
    split at h
    · rename_i e
      cases h
      exact ⟨by rw [e]; rfl, fun i z hi => absurd hi (Nat.not_lt_zero _)⟩
    · rename_i e
      cases q : idxS y r with
      | none => rw [q] at h; cases h
      | some k =>
        rw [q] at h
        have hj : j = k + 1 := (Option.some.inj h).symm
        subst hj
        obtain ⟨a, b⟩ := idxS_some q
        refine ⟨by simpa using a, fun i z hi hz => ?_⟩
        cases i with
        | zero =>
          have : x = z := by simpa using hz
          rw [← this]; exact e
        | succ i => exact b i z (by omega) (by simpa using hz)
def idxR : D → List D → Mu → DK → Prop := fun d ds m F => on1 ds fun y => onS y fun y => withL d m fun xs => ∃ ss : List Str, xs = ss.map D.str ∧ onO (idxS y ss) fun j => F (.int (j : Nat)) m
theorem lr_index : LRM K (rIndex K) idxR := fun H W m x v xs vs F Q hh rx r h q => by
  obtain ⟨y, rfl, h⟩ := on1_ex h
  obtain ⟨y, rfl, h⟩ := onS_ex (d := y) h
  obtain ⟨zs, e, ss, rfl, h⟩ := withL_ex h
  obtain ⟨j, hj, h⟩ := onO_ex h
  obtain ⟨u, rfl, ru⟩ := repL_one r
  obtain ⟨p, us, rfl, hp, rl⟩ := lst_at hh rx e
  have ev := rl.strs_of
  subst ev
  obtain ⟨a, b⟩ := idxS_some hj
  refine ⟨p, ss.map V.str, .str y, j, .str y, rfl, by rw [rep_str ru], SqL.of hp, rfl, L2.flat_strs ss, by rw [List.getElem?_map, a]; rfl, beq_self_eq_true y, fun i z hi hz => ?_, q _ _ _ _ _ (.refl hh) (.int _) h⟩
  rw [List.getElem?_map] at hz
  cases hq : ss[i]? with
  | none => rw [hq] at hz; cases hz
  | some z0 =>
    rw [hq] at hz
    have : V.str z0 = z := by simpa using hz
    subst this
    show (z0 == y) = false
    exact beq_eq_false_iff_ne.mpr (b i z0 hi hq)
variable {o e : Expr} {es : List Expr} {to : TE} {dto : TD} {t : TA} {dt : TDA} {name : Str} {apos cpos : Pos} {id : String} {r : V → List V → Hp → VK → Prop} {rd : D → List D → Mu → DK → Prop}
theorem tyV_lst (hh : Held K W m H) {d : D} {v : V} {xs : List D} (r : Rep K W d v) (e : lstOf m d = some xs) : tyV K "list" v H := by
  obtain ⟨p, vs, rfl, hp, _⟩ := lst_at hh r e
  exact .inl ⟨rfl, vs, SqL.of hp⟩
theorem de_bm (slot : Slot "list" name id) (hty : typeOf (.builtin id) = pure (.type "method_descriptor")) (hm : MtR X id r) (hr : LRM X.K r rd) (ho : DE X o to dto) (ha : DA X (e :: es) t dt)
    (hbase : attributeBase o name X.env (eval o X.env) = eval o X.env := by rfl)
    (hfew : ((backTo cpos (starEach (e :: es) X.env)).all (fun x => !x.1) && (backToKw cpos (keywordEach [] X.env)).all (fun x => x.1.isSome)
      && decide ((e :: es).length + ([] : List Keyword).length + (if ([] : List Keyword).isEmpty then 0 else 1) < 30)) = true := by rfl)
    (hline : (apos.endLine == cpos.line) = true := by rfl) (hs : starEach (e :: es) X.env = (false, eval e X.env) :: starEach es X.env := by rfl) (hplain : (backTo cpos (starEach es X.env)).any (·.1) = false := by rfl) :
    DE X (.Call (.Attribute o name apos) (e :: es) [] cpos) (tBM X.K "list" r to t) (dBm rd dto dt) := ⟨pe_bm PySem.F.plainAttrs_list slot hty hm ho.pe ha.pa hbase hfew hline hs hplain, fun σ H W ρ m F Q hh re h q =>
  ho.up σ H W ρ m _ _ hh re h fun v H1 d W1 m1 s1 r1 ⟨⟨xs, ex⟩, h1⟩ => ⟨tyV_lst s1.held r1 ex, ha.up σ H1 W1 ρ m1 _ _ s1.held (re.mono s1.le) h1 fun vs H2 ds W2 m2 s2 r2 h2 =>
    hr H2 W2 m2 d v ds vs F Q s2.held (r1.mono s2.le) r2 h2 fun v3 H3 d3 W3 m3 s3 r3 f => q _ _ _ _ _ ((s1.trans hh s2).trans hh s3) r3 f⟩⟩
theorem de_bm0 (slot : Slot "list" name id) (hty : typeOf (.builtin id) = pure (.type "method_descriptor")) (hm : MtR X id r) (hr : LRM X.K r rd) (ho : DE X o to dto)
    (hbase : attributeBase o name X.env (eval o X.env) = eval o X.env := by rfl) (hline : (apos.endLine == cpos.line) = true := by rfl) : DE X (.Call (.Attribute o name apos) [] [] cpos) (tBM0 X.K "list" r to) (dBm rd dto dNil) := ⟨pe_bm0 PySem.F.plainAttrs_list slot hty hm ho.pe hbase hline, fun σ H W ρ m F Q hh re h q =>
  ho.up σ H W ρ m _ _ hh re h fun v H1 d W1 m1 s1 r1 ⟨⟨xs, ex⟩, h1⟩ => ⟨tyV_lst s1.held r1 ex, hr H1 W1 m1 d v [] [] F Q s1.held r1 .nil h1 fun v3 H3 d3 W3 m3 s3 r3 f => q _ _ _ _ _ (s1.trans hh s3) r3 f⟩⟩
/-- xs[i] = e -/
def gSet (to ti : TD) : TDG := fun y ρ m F => to ρ m fun d m1 => ti ρ m1 fun i m2 => onI i fun i => withM d m2 fun k xs => onO (ixN xs.length i) fun j => F ρ (mset m2 k (.lst (xs.set j y)))
theorem dg_set {i : Expr} {ti : TE} {dti : TD} {pos : Pos} (ho : DE X o to dto) (hi : DE X i ti dti)
    (ha : ∀ v, assign (.Subscript o i pos) X.env v = (do
      let ov ← holding [v] (eval o X.env)
      let iv ← holding [v, ov] (eval i X.env)
      standAt pos
      holding [v, ov, iv] (setItem ov iv v)
      release [v, ov, iv] []) := by intro _; rfl) : DG X (.Subscript o i pos) (gSub to ti rSetL) (gSet dto dti) := ⟨pg_sub ho.pe hi.pe set_list ha, fun σ H W ρ m y w F Q hh re ry h q =>
  ho.up σ H W ρ m _ _ hh re h fun v H1 d W1 m1 s1 r1 h1 => hi.up σ H1 W1 ρ m1 _ _ s1.held (re.mono s1.le) h1 fun u H2 i2 W2 m2 s2 r2 h2 => by
    obtain ⟨i, rfl, h2⟩ := onI_ex (d := i2) h2
    obtain ⟨k, zs, rfl, e, h2⟩ := withM_ex h2
    obtain ⟨j, hj, h2⟩ := onO_ex h2
    obtain ⟨rfl, ws, hw, rl⟩ := mut_at s2.held e (r1.mono s2.le)
    have s02 := s1.trans hh s2
    have s3 := step_mut s2.held e (o' := .lst (zs.set j y)) (ho := .lst (ws.set j w)) ⟨_, rfl, RepL.set (ry.mono s02.le) j rl⟩
    exact ⟨_, ws, i, j, rfl, rep_int r2, hw, by rw [← rl.length]; exact hj, q _ _ _ _ _ (s02.trans hh s3) (re.mono (s02.le.trans s3.le)) h2⟩⟩
/-- n.bit_length() -/
def dBits (t : TD) : TD := fun ρ m F => t ρ m fun d m1 => onI d fun i => F (.int (Builtin.Int.intBits i : Nat)) m1
theorem de_bits {pos : Pos} (ho : DE X o to dto) (hbase : attributeBase o "bit_length" X.env (eval o X.env) = eval o X.env := by rfl) (hline : (apos.endLine == pos.line) = true := by rfl) : DE X (.Call (.Attribute o "bit_length" apos) [] [] pos) (tBits to) (dBits dto) := ⟨pe_bits ho.pe hbase hline, fun σ H W ρ m F Q hh re h q =>
  ho.up σ H W ρ m _ _ hh re h fun v H1 d W1 m1 s1 r1 h1 => by
    obtain ⟨i, rfl, h1⟩ := onI_ex (d := d) h1
    exact ⟨i, rep_int r1, q _ _ _ _ _ s1 (.int _) h1⟩⟩
/-- xs[::-1] -/
def dRev (t : TD) : TD := fun ρ m F => t ρ m fun d m1 => withL d m1 fun xs => New (.lst xs.reverse) m1 F
theorem de_rev {k : Nat} {p1 p2 p3 pos : Pos} (ho : DE X o to dto) : DE X (.Subscript o (.Slice none none (some (.UnaryOp .USub (.Constant (.int 1) k p1) p2)) p3) pos) (tRevL X.K to) (dRev dto) := ⟨pe_revL ho.pe, fun σ H W ρ m F Q hh re h q =>
  ho.up σ H W ρ m _ _ hh re h fun v H1 d W1 m1 s1 r1 h1 => by
    obtain ⟨xs, e, h1⟩ := withL_ex h1
    obtain ⟨p, us, rfl, hp, rl⟩ := lst_at s1.held r1 e
    exact ⟨p, us, rfl, SqL.of hp, fun a ha => new_ok s1.held (o := .lst xs.reverse) (ho := .lst us.reverse) ⟨_, rfl, rl.reverse⟩ h1 (fun v4 H4 d4 W4 m4 s4 r4 f => q v4 H4 d4 W4 m4 (s1.trans hh s4) r4 f) ha⟩⟩
end
end DL

/-! Dicts: always mutable objects under their numbers; walked while locked. -/
namespace DL
open PySem L2
/-! ### what a dict holds -/
section
variable {κ : Type} [DecidableEq κ]
def dval {β : Type} (kvs : List (κ × β)) (k : κ) : Option β := (kvs.find? fun kv => decide (kv.1 = k)).map (·.2)
def dput {β : Type} (kvs : List (κ × β)) (k : κ) (v : β) : List (κ × β) := if kvs.any (fun kv => decide (kv.1 = k)) then kvs.map (fun kv => if kv.1 = k then (kv.1, v) else kv) else kvs ++ [(k, v)]
end
def keyD : Key → D
  | .inl i => .int i
  | .inr x => .str x
def keyOf : D → Option Key
  | .int i => some (.inl i)
  | .str x => some (.inr x)
  | _ => none
def keysOf : List D → Option (List Key)
  | [] => some []
  | d :: r => match keyOf d, keysOf r with
    | some k, some ks => some (k :: ks)
    | _, _ => none
def tkeyOf : D → Option (List Key)
  | .tup xs => keysOf xs
  | _ => none
def moK : Option MO → Option (List (Key × D))
  | some (.dK kvs) => some kvs
  | some (.lk _ _ kvs) => some kvs
  | _ => none
def moT : Option MO → Option (List (List Key × D))
  | some (.dT kvs) => some kvs
  | some (.lkT _ _ kvs) => some kvs
  | _ => none
def dkOf (m : Mu) : D → Option (List (Key × D))
  | .ref k => moK (m k)
  | _ => none
def dtOf (m : Mu) : D → Option (List (List Key × D))
  | .ref k => moT (m k)
  | _ => none
/-- the look-up of a key in a dict -/
def look (m : Mu) (x y : D) : Option (Option D) := match dkOf m x, keyOf y with
  | some kvs, some k => some (dval kvs k)
  | _, _ => match dtOf m x, tkeyOf y with
    | some kvs, some k => some (dval kvs k)
    | _, _ => none
section
variable {K : PySem.W.Frag} {W : Wd} {m : Mu} {H : Hp}
theorem key_rep {y : D} {u : V} {k : Key} (r : Rep K W y u) (h : keyOf y = some k) : u = kV k := by
  cases r with
  | int i => cases h; rfl
  | str x => cases h; rfl
  | _ => cases h
theorem keyD_rep (k : Key) : Rep K W (keyD k) (kV k) := by
  cases k with
  | inl i => exact .int i
  | inr x => exact .str x
theorem keys_rep : ∀ {xs : List D} {vs : List V} {ks : List Key}, RepL K W xs vs → keysOf xs = some ks → vs = ks.map kV
  | _, _, _, .nil, h => by cases h; rfl
  | d :: ds, _, ks, .cons r t, h => by
    rw [keysOf] at h
    cases h1 : keyOf d with
    | none => rw [h1] at h; cases h
    | some k =>
      cases h2 : keysOf ds with
      | none => rw [h1, h2] at h; cases h
      | some ks2 =>
        rw [h1, h2] at h
        cases h
        rw [List.map_cons, key_rep r h1, keys_rep t h2]
theorem tkey_rep (hh : Held K W m H) {y : D} {u : V} {k : List Key} (r : Rep K W y u) (h : tkeyOf y = some k) : ∃ b, u = .ref b ∧ H b = some (.tup (k.map kV)) := by
  cases r with
  | tup hp r => exact ⟨_, rfl, by rw [hh.G _ _ hp, keys_rep r h]⟩
  | _ => cases h
theorem val_rep {κ : Type} [DecidableEq κ] {k : κ} : ∀ {kvs : List (κ × D)} {vs : List (κ × V)}, vs.map (·.1) = kvs.map (·.1) → RepL K W (kvs.map (·.2)) (vs.map (·.2)) → (dval kvs k = none ∧ valV vs k = none) ∨ ∃ d v, dval kvs k = some d ∧ valV vs k = some v ∧ Rep K W d v
  | [], [], _, _ => .inl ⟨rfl, rfl⟩
  | [], _ :: _, e, _ => by cases e
  | _ :: _, [], e, _ => by cases e
  | p :: kvs, q :: vs, e, r => by
    simp only [List.map_cons, List.cons.injEq] at e
    cases r with
    | cons r t =>
      unfold dval valV
      rw [List.find?_cons, List.find?_cons, e.1]
      by_cases h : p.1 = k
      · simp only [h, decide_true]
        exact .inr ⟨_, _, rfl, rfl, r⟩
      · simp only [h, decide_false]
        exact val_rep e.2 t
theorem dk_at (hh : Held K W m H) {x : D} {v : V} {kvs : List (Key × D)} (r : Rep K W x v) (h : dkOf m x = some kvs) : ∃ a vs, v = .ref a ∧ Rd H a (.dK vs) ∧ vs.map (·.1) = kvs.map (·.1) ∧ RepL K W (kvs.map (·.2)) (vs.map (·.2)) := by
  cases r with
  | ref hk =>
    rename_i k
    have h : moK (m k) = some kvs := h
    cases q : m k with
    | none => rw [q] at h; cases h
    | some o =>
      rw [q] at h
      obtain ⟨_, _, ho, h3, ro⟩ := hh.ob k o q
      cases o with
      | dK ks =>
        obtain rfl := Option.some.inj h
        obtain ⟨vs, rfl, e, r⟩ := ro
        exact ⟨_, vs, rfl, .inl h3, e, r⟩
      | lk od vs ks =>
        obtain rfl := Option.some.inj h
        obtain ⟨rfl, e, r⟩ := ro
        exact ⟨_, vs, rfl, .inr ⟨_, h3⟩, e, r⟩
      | _ => cases h
  | _ => cases h
theorem dt_at (hh : Held K W m H) {x : D} {v : V} {kvs : List (List Key × D)} (r : Rep K W x v) (h : dtOf m x = some kvs) : ∃ a vs, v = .ref a ∧ Rd H a (.dT vs) ∧ vs.map (·.1) = kvs.map (·.1) ∧ RepL K W (kvs.map (·.2)) (vs.map (·.2)) := by
  cases r with
  | ref hk =>
    rename_i k
    have h : moT (m k) = some kvs := h
    cases q : m k with
    | none => rw [q] at h; cases h
    | some o =>
      rw [q] at h
      obtain ⟨_, _, ho, h3, ro⟩ := hh.ob k o q
      cases o with
      | dT ks =>
        obtain rfl := Option.some.inj h
        obtain ⟨vs, rfl, e, r⟩ := ro
        exact ⟨_, vs, rfl, .inl h3, e, r⟩
      | lkT od vs ks =>
        obtain rfl := Option.some.inj h
        obtain ⟨rfl, e, r⟩ := ro
        exact ⟨_, vs, rfl, .inr ⟨_, h3⟩, e, r⟩
      | _ => cases h
  | _ => cases h
/-- the look-up, as the heap has it -/
theorem look_rep (hh : Held K W m H) {x y : D} {v u : V} {o : Option D} (rx : Rep K W x v) (ry : Rep K W y u) (h : look m x y = some o) : ∃ a, v = .ref a ∧ IsD H a ∧ ((o = none ∧ DGet H a u none) ∨ ∃ d z, o = some d ∧ DGet H a u (some z) ∧ Rep K W d z) := by
  have go2 : (match dtOf m x, tkeyOf y with
    | some kvs, some k => some (dval kvs k)
    | _, _ => none) = some o → ∃ a, v = .ref a ∧ IsD H a ∧ ((o = none ∧ DGet H a u none) ∨ ∃ d z, o = some d ∧ DGet H a u (some z) ∧ Rep K W d z) := fun h => by
    cases h1 : dtOf m x with
    | none => rw [h1] at h; cases h
    | some kvs =>
      cases h2 : tkeyOf y with
      | none => rw [h1, h2] at h; cases h
      | some k =>
        rw [h1, h2] at h
        have h := Option.some.inj h
        obtain ⟨a, vs, rfl, rd, e, r⟩ := dt_at hh rx h1
        obtain ⟨b, rfl, hb⟩ := tkey_rep hh ry h2
        refine ⟨a, rfl, .inr ⟨_, rd⟩, ?_⟩
        rcases val_rep (k := k) e r with ⟨z1, z2⟩ | ⟨d, z, z1, z2, rr⟩
        · exact .inl ⟨h.symm.trans z1, .inr ⟨vs, k, b, rd, rfl, hb, z2.symm⟩⟩
        · exact .inr ⟨d, z, h.symm.trans z1, .inr ⟨vs, k, b, rd, rfl, hb, z2.symm⟩, rr⟩
  unfold look at h
  cases h1 : dkOf m x with
  | none => rw [h1] at h; exact go2 h
  | some kvs =>
    cases h2 : keyOf y with
    | none => rw [h1, h2] at h; exact go2 h
    | some k =>
      rw [h1, h2] at h
      have h := Option.some.inj h
      obtain ⟨a, vs, rfl, rd, e, r⟩ := dk_at hh rx h1
      have eu := key_rep ry h2
      refine ⟨a, rfl, .inl ⟨_, rd⟩, ?_⟩
      rcases val_rep (k := k) e r with ⟨z1, z2⟩ | ⟨d, z, z1, z2, rr⟩
      · exact .inl ⟨h.symm.trans z1, .inl ⟨vs, k, rd, eu, z2.symm⟩⟩
      · exact .inr ⟨d, z, h.symm.trans z1, .inl ⟨vs, k, rd, eu, z2.symm⟩, rr⟩
end
/-! ### d[k], k in d, d.get(k), d.get(k, x) -/
def dDGet (td ty : TD) : TD := fun ρ m F => td ρ m fun x m1 => ty ρ m1 fun y m2 => onO (look m2 x y) fun o => onO o fun v => F v m2
def dDIn (neg : Bool) (ty td : TD) : TD := fun ρ m F => ty ρ m fun y m1 => td ρ m1 fun x m2 => onO (look m2 x y) fun o => F (.bl (if neg then !o.isSome else o.isSome)) m2
def isDic (m : Mu) (d : D) : Bool := (dkOf m d).isSome || (dtOf m d).isSome
def dDGet2 (td ty tx : TD) : TD := fun ρ m F => td ρ m fun x m1 => isDic m1 x = true ∧ ty ρ m1 fun y m2 => tx ρ m2 fun z m3 => onO (look m3 x y) fun o => F (o.getD z) m3
def dDGet1 (td ty : TD) : TD := fun ρ m F => td ρ m fun x m1 => isDic m1 x = true ∧ ty ρ m1 fun y m2 => onO (look m2 x y) fun o => F (o.getD .non) m2
section
variable {X : Cx} {K : PySem.W.Frag} {o i e f : Expr} {pos apos cpos : Pos} {td ty tx : TE} {dd dy dx : TD}
theorem isDic_rep {W : Wd} {m : Mu} {H : Hp} (hh : Held K W m H) {x : D} {v : V} (r : Rep K W x v) (h : isDic m x = true) : ∃ a, v = .ref a ∧ IsD H a := by
  unfold isDic at h
  rcases (Bool.or_eq_true _ _).mp h with h | h
  · obtain ⟨kvs, h⟩ := Option.isSome_iff_exists.mp h
    obtain ⟨a, vs, rfl, rd, _⟩ := dk_at hh r h
    exact ⟨a, rfl, .inl ⟨_, rd⟩⟩
  · obtain ⟨kvs, h⟩ := Option.isSome_iff_exists.mp h
    obtain ⟨a, vs, rfl, rd, _⟩ := dt_at hh r h
    exact ⟨a, rfl, .inr ⟨_, rd⟩⟩
theorem le_dget (ho : LE K td dd) (hi : LE K ty dy) : LE K (tDGet td ty) (dDGet dd dy) := fun σ H W ρ m F Q hh re h q =>
  ho σ H W ρ m _ _ hh re h fun v H1 x W1 m1 s1 r1 h1 => hi σ H1 W1 ρ m1 _ _ s1.held (re.mono s1.le) h1 fun u H2 y W2 m2 s2 r2 h2 => by
    obtain ⟨oo, e1, h3⟩ := onO_ex h2
    obtain ⟨d, rfl, h4⟩ := onO_ex h3
    obtain ⟨a, rfl, _, ⟨z, _⟩ | ⟨d', z, e, g, rr⟩⟩ := look_rep s2.held (r1.mono s2.le) r2 e1
    · cases z
    · cases e
      exact ⟨a, z, rfl, g, q _ _ _ _ _ (s1.trans hh s2) rr h4⟩
theorem de_dget (hu : X.A.units + 1 < cLine) (ho : DE X o td dd) (hi : DE X i ty dy) (hs : NoSl i := by exact fun _ _ => rfl) : DE X (.Subscript o i pos) (tDGet td ty) (dDGet dd dy) := ⟨pe_dget hu ho.pe hi.pe hs, le_dget ho.up hi.up⟩
theorem le_din (hi : LE K ty dy) (ho : LE K td dd) : LE K (tDIn ty td) (dDIn false dy dd) := fun σ H W ρ m F Q hh re h q =>
  hi σ H W ρ m _ _ hh re h fun u H1 y W1 m1 s1 r1 h1 => ho σ H1 W1 ρ m1 _ _ s1.held (re.mono s1.le) h1 fun v H2 x W2 m2 s2 r2 h2 => by
    obtain ⟨oo, e1, h3⟩ := onO_ex h2
    obtain ⟨a, rfl, _, ⟨z, g⟩ | ⟨d', z, e, g, rr⟩⟩ := look_rep s2.held r2 (r1.mono s2.le) e1
    · subst z
      exact ⟨a, none, rfl, g, q _ _ _ _ _ (s1.trans hh s2) (.bl _) h3⟩
    · subst e
      exact ⟨a, _, rfl, g, q _ _ _ _ _ (s1.trans hh s2) (.bl _) h3⟩
theorem le_dnotin (hi : LE K ty dy) (ho : LE K td dd) : LE K (tDNotIn ty td) (dDIn true dy dd) := fun σ H W ρ m F Q hh re h q =>
  hi σ H W ρ m _ _ hh re h fun u H1 y W1 m1 s1 r1 h1 => ho σ H1 W1 ρ m1 _ _ s1.held (re.mono s1.le) h1 fun v H2 x W2 m2 s2 r2 h2 => by
    obtain ⟨oo, e1, h3⟩ := onO_ex h2
    obtain ⟨a, rfl, _, ⟨z, g⟩ | ⟨d', z, e, g, rr⟩⟩ := look_rep s2.held r2 (r1.mono s2.le) e1
    · subst z
      exact ⟨a, none, rfl, g, q _ _ _ _ _ (s1.trans hh s2) (.bl _) h3⟩
    · subst e
      exact ⟨a, _, rfl, g, q _ _ _ _ _ (s1.trans hh s2) (.bl _) h3⟩
theorem le_dget2 (ho : LE K td dd) (hi : LE K ty dy) (hx : LE K tx dx) : LE K (tDGet2 td ty tx) (dDGet2 dd dy dx) := fun σ H W ρ m F Q hh re h q =>
  ho σ H W ρ m _ _ hh re h fun v H1 x W1 m1 s1 r1 ⟨hd, h1⟩ => by
    obtain ⟨a, rfl, ia⟩ := isDic_rep s1.held r1 hd
    refine ⟨a, rfl, ia, ?_⟩
    exact hi σ H1 W1 ρ m1 _ _ s1.held (re.mono s1.le) h1 fun u H2 y W2 m2 s2 r2 h2 => hx σ H2 W2 ρ m2 _ _ s2.held (re.mono (s1.le.trans s2.le)) h2 fun w H3 z W3 m3 s3 r3 h3 => by
      obtain ⟨oo, e1, h4⟩ := onO_ex h3
      obtain ⟨b, eb, _, ⟨y1, g⟩ | ⟨d', y1, e, g, rr⟩⟩ := look_rep s3.held (r1.mono (s2.le.trans s3.le)) (r2.mono s3.le) e1
      · cases eb
        subst y1
        exact ⟨none, g, q _ _ _ _ _ ((s1.trans hh s2).trans hh s3) r3 h4⟩
      · cases eb
        subst e
        exact ⟨_, g, q _ _ _ _ _ ((s1.trans hh s2).trans hh s3) rr h4⟩
theorem le_dget1 (ho : LE K td dd) (hi : LE K ty dy) : LE K (tDGet1 td ty) (dDGet1 dd dy) := fun σ H W ρ m F Q hh re h q =>
  ho σ H W ρ m _ _ hh re h fun v H1 x W1 m1 s1 r1 ⟨hd, h1⟩ => by
    obtain ⟨a, rfl, ia⟩ := isDic_rep s1.held r1 hd
    refine ⟨a, rfl, ia, ?_⟩
    exact hi σ H1 W1 ρ m1 _ _ s1.held (re.mono s1.le) h1 fun u H2 y W2 m2 s2 r2 h2 => by
      obtain ⟨oo, e1, h4⟩ := onO_ex h2
      obtain ⟨b, eb, _, ⟨y1, g⟩ | ⟨d', y1, e, g, rr⟩⟩ := look_rep s2.held (r1.mono s2.le) r2 e1
      · cases eb
        subst y1
        exact ⟨none, g, q _ _ _ _ _ (s1.trans hh s2) .non h4⟩
      · cases eb
        subst e
        exact ⟨_, g, q _ _ _ _ _ (s1.trans hh s2) rr h4⟩
theorem de_dget2 (hu : X.A.units + 1 < cLine) (ho : DE X o td dd) (he : DE X e ty dy) (hf : DE X f tx dx) (m : M2 X o "get" apos e f cpos := by exact ⟨rfl, rfl, rfl, rfl⟩) : DE X (.Call (.Attribute o "get" apos) [e, f] [] cpos) (tDGet2 td ty tx) (dDGet2 dd dy dx) := ⟨pe_dget2 hu ho.pe he.pe hf.pe m, le_dget2 ho.up he.up hf.up⟩
theorem de_dget1 (hu : X.A.units + 1 < cLine) (ho : DE X o td dd) (he : DE X e ty dy) (m : M1 X o "get" apos e cpos := by exact ⟨rfl, rfl, rfl, rfl⟩) : DE X (.Call (.Attribute o "get" apos) [e] [] cpos) (tDGet1 td ty) (dDGet1 dd dy) := ⟨pe_dget1 hu ho.pe he.pe m, le_dget1 ho.up he.up⟩
end
end DL

/-! Dicts: stores, new ones, comprehensions, walks, calls. -/
namespace DL
open PySem L2
section
variable {K : PySem.W.Frag} {W : Wd} {m : Mu} {H : Hp}
theorem any_keys {κ β γ : Type} [DecidableEq κ] {k : κ} : ∀ {kvs : List (κ × β)} {vs : List (κ × γ)}, vs.map (·.1) = kvs.map (·.1) → (vs.any fun kv => decide (kv.1 = k)) = kvs.any fun kv => decide (kv.1 = k)
  | [], [], _ => rfl
  | [], _ :: _, e => by cases e
  | _ :: _, [], e => by cases e
  | p :: kvs, q :: vs, e => by
    simp only [List.map_cons, List.cons.injEq] at e
    rw [List.any_cons, List.any_cons, e.1, any_keys e.2]
theorem put_rep {κ : Type} [DecidableEq κ] {k : κ} {kvs : List (κ × D)} {vs : List (κ × V)} {y : D} {v : V} (e : vs.map (·.1) = kvs.map (·.1)) (r : RepL K W (kvs.map (·.2)) (vs.map (·.2))) (ry : Rep K W y v) :
    (putK vs k v).map (·.1) = (dput kvs k y).map (·.1) ∧ RepL K W ((dput kvs k y).map (·.2)) ((putK vs k v).map (·.2)) := by
  unfold putK dput
  rw [any_keys e]
  split
  · have go : ∀ {kvs : List (κ × D)} {vs : List (κ × V)}, vs.map (·.1) = kvs.map (·.1) → RepL K W (kvs.map (·.2)) (vs.map (·.2)) →
        (vs.map (fun kv => if kv.1 = k then (kv.1, v) else kv)).map (·.1) = (kvs.map (fun kv => if kv.1 = k then (kv.1, y) else kv)).map (·.1) ∧ RepL K W ((kvs.map (fun kv => if kv.1 = k then (kv.1, y) else kv)).map (·.2)) ((vs.map (fun kv => if kv.1 = k then (kv.1, v) else kv)).map (·.2)) := by
      intro kvs
      induction kvs with
      | nil => intro vs e r; cases vs with | nil => exact ⟨rfl, .nil⟩ | cons _ _ => cases e
      | cons p kvs ih =>
        intro vs e r
        cases vs with
        | nil => cases e
        | cons q vs =>
          simp only [List.map_cons, List.cons.injEq] at e
          cases r with
          | cons r t =>
            obtain ⟨i1, i2⟩ := ih e.2 t
            simp only [List.map_cons]
            by_cases h : p.1 = k
            · rw [if_pos h, if_pos (e.1.trans h)]
              exact ⟨by rw [i1, e.1], .cons ry i2⟩
            · rw [if_neg h, if_neg (fun z => h (e.1.symm.trans z))]
              exact ⟨by rw [i1, e.1], .cons r i2⟩
    exact go e r
  · simp only [List.map_append, List.map_cons, List.map_nil, e]
    exact ⟨trivial, r.append (.cons ry .nil)⟩
end
/-! ### d[k] = v -/
def dstore (d i y : D) (m : Mu) (P : Mu → Prop) : Prop := match d with
  | .ref k => match m k with
    | some (.dK kvs) => onO (keyOf i) fun key => kvs.length < sizeLine ∧ P (mset m k (.dK (dput kvs key y)))
    | some (.dT kvs) => onO (tkeyOf i) fun key => kvs.length < sizeLine ∧ P (mset m k (.dT (dput kvs key y)))
    | _ => False
  | _ => False
def dDPut (td ty tv : TD) : TDS := fun F ρ m => tv ρ m fun y m1 => td ρ m1 fun d m2 => ty ρ m2 fun i m3 => dstore d i y m3 fun m4 => F.nx ρ m4
section
variable {X : Cx} {K : PySem.W.Frag} {o i e value : Expr} {pos pos' apos cpos : Pos} {td ty tv : TE} {dd dy dv : TD}
theorem store_at {W : Wd} {m : Mu} {H : Hp} (hh : Held K W m H) {d i y : D} {x u v : V} {P : Mu → Prop} (rd : Rep K W d x) (ri : Rep K W i u) (ry : Rep K W y v) (h : dstore d i y m P) : ∃ a H' m', x = .ref a ∧ DPut H a u v H' ∧ Stp K W m H W m' H' ∧ P m' := by
  cases rd with
  | ref hk =>
    rename_i k
    unfold dstore at h
    simp only at h
    cases q : m k with
    | none => rw [q] at h; exact h.elim
    | some ob =>
      rw [q] at h
      obtain ⟨_, _, ho, h3, ro⟩ := hh.ob k ob q
      cases ob with
      | dK ks =>
        obtain ⟨key, ek, hl, hp⟩ := onO_ex h
        obtain ⟨vs, rfl, e, r⟩ := ro
        obtain ⟨e2, r2⟩ := put_rep (k := key) e r ry
        have lv : vs.length = ks.length := by have := congrArg List.length e; simpa using this
        exact ⟨_, _, _, rfl, .inl ⟨vs, key, h3, key_rep ri ek, by omega, rfl⟩, step_mut hh q (o' := .dK (dput ks key y)) ⟨_, rfl, e2, r2⟩, hp⟩
      | dT ks =>
        obtain ⟨key, ek, hl, hp⟩ := onO_ex h
        obtain ⟨vs, rfl, e, r⟩ := ro
        obtain ⟨e2, r2⟩ := put_rep (k := key) e r ry
        obtain ⟨b, rfl, hb⟩ := tkey_rep hh ri ek
        have lv : vs.length = ks.length := by have := congrArg List.length e; simpa using this
        exact ⟨_, _, _, rfl, .inr ⟨vs, key, b, h3, rfl, hb, by omega, rfl⟩, step_mut hh q (o' := .dT (dput ks key y)) ⟨_, rfl, e2, r2⟩, hp⟩
      | _ => exact h.elim
  | _ => exact h.elim
theorem ds_dput (hu : X.A.units + 1 < cLine) (ho : DE X o td dd) (hi : DE X i ty dy) (hv : DE X value tv dv) (hs : swapsWith value (some (.Subscript o i pos')) pos.line X.env = pure false := by rfl) :
    DS X (.Assign [.Subscript o i pos'] value pos) (sDPut td ty tv) (dDPut dd dy dv) := ⟨ps_dput hu ho.pe hi.pe hv.pe hs, fun σ H W ρ m F E hh re h n r b c =>
  hv.up σ H W ρ m _ _ hh re h fun v H1 y W1 m1 s1 r1 h1 => ho.up σ H1 W1 ρ m1 _ _ s1.held (re.mono s1.le) h1 fun x H2 d W2 m2 s2 r2 h2 => hi.up σ H2 W2 ρ m2 _ _ s2.held (re.mono (s1.le.trans s2.le)) h2 fun u H3 i W3 m3 s3 r3 h3 => by
    obtain ⟨a, H4, m4, rfl, dp, s4, hp⟩ := store_at s3.held (r2.mono s3.le) r3 (r1.mono (s2.le.trans s3.le)) h3
    have s14 := ((s1.trans hh s2).trans hh s3).trans hh s4
    exact ⟨a, H4, rfl, dp, n σ H4 W3 ρ m4 s14 (re.mono s14.le) hp⟩⟩
/-! ### {} -/
def dNewK : TD := fun _ m F => New (.dK []) m F
def dNewT : TD := fun _ m F => New (.dT []) m F
theorem de_newK : DE X (.Dict [] [] pos) tDNewK dNewK := ⟨pe_dnewK, fun σ H W ρ m F Q hh re hd q p hp => new_ok hh (o := .dK []) (ho := .dK []) ⟨[], rfl, rfl, .nil⟩ hd q hp⟩
theorem de_newT : DE X (.Dict [] [] pos) tDNewT dNewT := ⟨pe_dnewT, fun σ H W ρ m F Q hh re hd q p hp => new_ok hh (o := .dT []) (ho := .dT []) ⟨[], rfl, rfl, .nil⟩ hd q hp⟩
end
/-! ### a dict is locked while an expression or a statement runs -/
def dLkE (t : TD) : TD := fun ρ m F => ∃ k, (∃ kvs, m k = some (.dK kvs) ∧ ∀ od vs, t ρ (mset m k (.lk od vs kvs)) fun d m' => m' k = some (.lk od vs kvs) ∧ F d (mset m' k (.dK kvs))) ∨
  (∃ kvs, m k = some (.dT kvs) ∧ ∀ od vs, t ρ (mset m k (.lkT od vs kvs)) fun d m' => m' k = some (.lkT od vs kvs) ∧ F d (mset m' k (.dT kvs)))
def lkEn (F : DEn) (k : Nat) (o u : MO) : DEn where
  nx := fun ρ m' => m' k = some o ∧ F.nx ρ (mset m' k u)
  rt := fun d m' => m' k = some o ∧ F.rt d (mset m' k u)
  bk := fun ρ m' => m' k = some o ∧ F.bk ρ (mset m' k u)
  ct := fun ρ m' => m' k = some o ∧ F.ct ρ (mset m' k u)
def dLkS (t : TDS) : TDS := fun F ρ m => ∃ k, (∃ kvs, m k = some (.dK kvs) ∧ ∀ od vs, t (lkEn F k (.lk od vs kvs) (.dK kvs)) ρ (mset m k (.lk od vs kvs))) ∨
  (∃ kvs, m k = some (.dT kvs) ∧ ∀ od vs, t (lkEn F k (.lkT od vs kvs) (.dT kvs)) ρ (mset m k (.lkT od vs kvs)))
section
variable {X : Cx} {K : PySem.W.Frag} {e : Expr} {st : Stmt} {te : TE} {de : TD} {ts : TS} {ds : TDS}
/-- what a lock needs: an object under a number, locked and unlocked again -/
theorem lock_at {W : Wd} {m : Mu} {H : Hp} (hh : Held K W m H) {k : Nat} {kvs : List (Key × D)} (q : m k = some (.dK kvs)) : ∃ vs, H (W.th k) = some (.dK vs) ∧ (∀ od, Stp K W m H W (mset m k (.lk od vs kvs)) (upd H (W.th k) (.frz od (.dK vs)))) ∧
    ∀ od W' m' H', Stp K W (mset m k (.lk od vs kvs)) (upd H (W.th k) (.frz od (.dK vs))) W' m' H' → m' k = some (.lk od vs kvs) → H' (W.th k) = some (.frz od (.dK vs)) ∧ Stp K W' m' H' W' (mset m' k (.dK kvs)) (upd H' (W.th k) (.dK vs)) := by
  obtain ⟨hk, _, ho, h3, vs, rfl, e, r⟩ := hh.ob k _ q
  refine ⟨vs, h3, fun od => step_mut hh q (o' := .lk od vs kvs) ⟨rfl, e, r⟩, fun od W' m' H' s hm => ?_⟩
  obtain ⟨_, _, ho2, h4, rfl, e2, r2⟩ := s.held.ob k _ hm
  rw [s.le.th k hk] at h4
  refine ⟨h4, ?_⟩
  have := step_mut s.held hm (o' := .dK kvs) (ho := .dK vs) ⟨vs, rfl, e2, r2⟩
  rw [s.le.th k hk] at this
  exact this
theorem lock_atT {W : Wd} {m : Mu} {H : Hp} (hh : Held K W m H) {k : Nat} {kvs : List (List Key × D)} (q : m k = some (.dT kvs)) : ∃ vs, H (W.th k) = some (.dT vs) ∧ (∀ od, Stp K W m H W (mset m k (.lkT od vs kvs)) (upd H (W.th k) (.frz od (.dT vs)))) ∧
    ∀ od W' m' H', Stp K W (mset m k (.lkT od vs kvs)) (upd H (W.th k) (.frz od (.dT vs))) W' m' H' → m' k = some (.lkT od vs kvs) → H' (W.th k) = some (.frz od (.dT vs)) ∧ Stp K W' m' H' W' (mset m' k (.dT kvs)) (upd H' (W.th k) (.dT vs)) := by
  obtain ⟨hk, _, ho, h3, vs, rfl, e, r⟩ := hh.ob k _ q
  refine ⟨vs, h3, fun od => step_mut hh q (o' := .lkT od vs kvs) ⟨rfl, e, r⟩, fun od W' m' H' s hm => ?_⟩
  obtain ⟨_, _, ho2, h4, rfl, e2, r2⟩ := s.held.ob k _ hm
  rw [s.le.th k hk] at h4
  refine ⟨h4, ?_⟩
  have := step_mut s.held hm (o' := .dT kvs) (ho := .dT vs) ⟨vs, rfl, e2, r2⟩
  rw [s.le.th k hk] at this
  exact this
theorem le_lk (he : LE K te de) : LE K (tLockE te) (dLkE de) := fun σ H W ρ m F Q hh re h q => by
  obtain ⟨k, ⟨kvs, hk, h⟩ | ⟨kvs, hk, h⟩⟩ := h
  · obtain ⟨vs, hd, s0, un⟩ := lock_at hh hk
    refine ⟨W.th k, .dK vs, hd, trivial, fun od => ?_⟩
    refine he σ _ W ρ _ _ _ (s0 od).held re (h od vs) fun v H' d W' m' s' r' ⟨hm, f⟩ => ?_
    obtain ⟨h4, s2⟩ := un od W' m' H' s' hm
    exact ⟨h4, q _ _ _ _ _ (((s0 od).trans hh s').trans hh s2) r' f⟩
  · obtain ⟨vs, hd, s0, un⟩ := lock_atT hh hk
    refine ⟨W.th k, .dT vs, hd, trivial, fun od => ?_⟩
    refine he σ _ W ρ _ _ _ (s0 od).held re (h od vs) fun v H' d W' m' s' r' ⟨hm, f⟩ => ?_
    obtain ⟨h4, s2⟩ := un od W' m' H' s' hm
    exact ⟨h4, q _ _ _ _ _ (((s0 od).trans hh s').trans hh s2) r' f⟩
theorem de_lk (h : DE X e te de) : DE X e (tLockE te) (dLkE de) := ⟨pe_lock h.pe, le_lk h.up⟩
theorem ls_lk (hs : LS K ts ds) : LS K (tLock ts) (dLkS ds) := fun σ H W ρ m F E hh re h n r b c => by
  obtain ⟨k, ⟨kvs, hk, h⟩ | ⟨kvs, hk, h⟩⟩ := h
  · obtain ⟨vs, hd, s0, un⟩ := lock_at hh hk
    refine ⟨W.th k, .dK vs, hd, trivial, fun od => ?_⟩
    refine hs σ _ W ρ _ _ _ (s0 od).held re (h od vs) (fun σ' H' W' ρ' m' s' r' ⟨hm, f⟩ => ?_) (fun v H' d W' m' s' r' ⟨hm, f⟩ => ?_) (fun σ' H' W' ρ' m' s' r' ⟨hm, f⟩ => ?_) (fun σ' H' W' ρ' m' s' r' ⟨hm, f⟩ => ?_)
    all_goals obtain ⟨h4, s2⟩ := un od W' m' H' s' hm
    · exact ⟨h4, n _ _ _ _ _ (((s0 od).trans hh s').trans hh s2) r' f⟩
    · exact ⟨h4, r _ _ _ _ _ (((s0 od).trans hh s').trans hh s2) r' f⟩
    · exact ⟨h4, b _ _ _ _ _ (((s0 od).trans hh s').trans hh s2) r' f⟩
    · exact ⟨h4, c _ _ _ _ _ (((s0 od).trans hh s').trans hh s2) r' f⟩
  · obtain ⟨vs, hd, s0, un⟩ := lock_atT hh hk
    refine ⟨W.th k, .dT vs, hd, trivial, fun od => ?_⟩
    refine hs σ _ W ρ _ _ _ (s0 od).held re (h od vs) (fun σ' H' W' ρ' m' s' r' ⟨hm, f⟩ => ?_) (fun v H' d W' m' s' r' ⟨hm, f⟩ => ?_) (fun σ' H' W' ρ' m' s' r' ⟨hm, f⟩ => ?_) (fun σ' H' W' ρ' m' s' r' ⟨hm, f⟩ => ?_)
    all_goals obtain ⟨h4, s2⟩ := un od W' m' H' s' hm
    · exact ⟨h4, n _ _ _ _ _ (((s0 od).trans hh s').trans hh s2) r' f⟩
    · exact ⟨h4, r _ _ _ _ _ (((s0 od).trans hh s').trans hh s2) r' f⟩
    · exact ⟨h4, b _ _ _ _ _ (((s0 od).trans hh s').trans hh s2) r' f⟩
    · exact ⟨h4, c _ _ _ _ _ (((s0 od).trans hh s').trans hh s2) r' f⟩
theorem ds_lk (h : DS X st ts ds) : DS X st (tLock ts) (dLkS ds) := ⟨ps_lock h.ps, ls_lk h.up⟩
/-! ### for k in d (locked) -/
def iK (t : TD) : TDI := fun ρ m F => t ρ m fun d m1 => match d with
  | .ref k => ∃ od vs kvs, m1 k = some (.lk od vs kvs) ∧ F (kvs.map fun kv => keyD kv.1) (fun m2 => m2 k = some (.lk od vs kvs)) m1
  | _ => False
theorem di_keys {tg : Expr} (h : DE X e te de) : DI X tg e (iKeys te) (iK de) := ⟨pi_keys h.pe, fun σ H W ρ m F R hh re hd q =>
  h.up σ H W ρ m _ _ hh re hd fun v H1 d W1 m1 s1 r1 h1 => by
    cases r1 with
    | ref hk =>
      rename_i k
      obtain ⟨od, vs, kvs, hm, hF⟩ := h1
      obtain ⟨hk2, _, ho, h3, rfl, e2, r2⟩ := s1.held.ob k _ hm
      refine ⟨W1.th k, od, rfl, .inl ⟨vs, h3, ?_⟩⟩
      refine q _ H1 W1 m1 _ _ s1 (fun i H2 W2 m2 le2 hh2 hst => ?_) hF
      obtain ⟨_, _, ho2, h4, rfl, _, _⟩ := hh2.ob k _ hst
      rw [le2.th k hk2] at h4
      have lv : vs.length = kvs.length := by have := congrArg List.length e2; simpa using this
      refine ⟨fun hi => ⟨h4, by rw [List.length_map] at hi; omega⟩, fun d hd => ?_⟩
      have hi := (List.getElem?_eq_some_iff.mp hd).1
      rw [List.length_map] at hi
      refine ⟨⟨h4, by omega⟩, fun x H3 y => ?_⟩
      obtain ⟨rfl, key, val, ek, rfl⟩ := y
      refine ⟨W2, .refl hh2, ?_⟩
      have e3 := congrArg (fun l => l[i]?) e2
      simp only [List.getElem?_map, ek, Option.map_some] at e3
      rw [List.getElem?_map] at hd
      cases q2 : kvs[i]? with
      | none => rw [q2] at hd; cases hd
      | some p =>
        rw [q2] at hd e3
        simp only [Option.map_some, Option.some.injEq] at hd e3
        subst hd e3
        exact keyD_rep _
    | _ => exact h1.elim⟩
/-! ### calls -/
def dicOf (ds : List D) (m : Mu) (B : List (Key × D) → Prop) : Prop := on1 ds fun d => onO (dkOf m d) B
def dictDR : RDA := fun ds m F => dicOf ds m fun kvs => New (.dK kvs) m F
def listDR : RDA := fun ds m F => dicOf ds m fun kvs => New (.lst (kvs.map fun kv => keyD kv.1)) m F
theorem dic_at {W : Wd} {m : Mu} {H : Hp} (hh : Held K W m H) {xs : List D} {vs : List V} {B : List (Key × D) → Prop} (r : RepL K W xs vs) (h : dicOf xs m B) : ∃ a kvs ws, vs = [.ref a] ∧ Rd H a (.dK ws) ∧ ws.map (·.1) = kvs.map (·.1) ∧ RepL K W (kvs.map (·.2)) (ws.map (·.2)) ∧ B kvs := by
  obtain ⟨d, rfl, h⟩ := on1_ex h
  obtain ⟨v, rfl, rv⟩ := repL_one r
  obtain ⟨kvs, e, h⟩ := onO_ex h
  obtain ⟨a, ws, rfl, rd, e2, r2⟩ := dk_at hh rv e
  exact ⟨a, kvs, ws, rfl, rd, e2, r2, h⟩
theorem lr_dictD : LRA K (fun xs H Q => ∃ (a : Addr) (kvs : List (Key × V)), xs = [.ref a] ∧ Rd H a (.dK kvs) ∧ ∀ p, H p = none → Q (.ref p) (upd H p (.dK kvs))) dictDR := fun H W m xs vs F Q hh r h q => by
  obtain ⟨a, kvs, ws, rfl, rd, e, rr, h⟩ := dic_at hh r h
  exact ⟨a, ws, rfl, rd, fun p hp => new_ok hh (o := .dK kvs) (ho := .dK ws) ⟨ws, rfl, e, rr⟩ h q hp⟩
theorem keys_list {W : Wd} : ∀ {kvs : List (Key × D)} {ws : List (Key × V)}, ws.map (·.1) = kvs.map (·.1) → RepL K W (kvs.map fun kv => keyD kv.1) (ws.map fun kv => kV kv.1)
  | [], [], _ => .nil
  | [], _ :: _, e => by cases e
  | _ :: _, [], e => by cases e
  | p :: kvs, q :: ws, e => by
    simp only [List.map_cons, List.cons.injEq] at e
    simp only [List.map_cons, e.1]
    exact .cons (keyD_rep _) (keys_list e.2)
theorem lr_listD : LRA K (fun xs H Q => ∃ (a : Addr) (kvs : List (Key × V)), xs = [.ref a] ∧ Rd H a (.dK kvs) ∧ ∀ p, H p = none → Q (.ref p) (upd H p (.lst (kvs.map fun kv => kV kv.1)))) listDR := fun H W m xs vs F Q hh r h q => by
  obtain ⟨a, kvs, ws, rfl, rd, e, rr, h⟩ := dic_at hh r h
  exact ⟨a, ws, rfl, rd, fun p hp => new_ok hh (o := .lst (kvs.map fun kv => keyD kv.1)) (ho := .lst (ws.map fun kv => kV kv.1)) ⟨_, rfl, keys_list e⟩ h q hp⟩
end
/-! ### min, max of a list of ints -/
def minL (ns : List Int) : Int := ns.foldl min (ns.headD 0)
def maxL (ns : List Int) : Int := ns.foldl max (ns.headD 0)
def intsOf : List D → Option (List Int)
  | [] => some []
  | .int i :: r => (intsOf r).map (i :: ·)
  | _ :: _ => none
theorem intsOf_map (ns : List Int) : intsOf (ns.map D.int) = some ns := by
  induction ns with
  | nil => rfl
  | cons n ns ih => rw [List.map_cons, intsOf, ih]; rfl
theorem intsOf_eq : ∀ {xs : List D} {ns : List Int}, intsOf xs = some ns → xs = ns.map D.int
  | [], _, h => by cases h; rfl
  | .int i :: r, ns, h => by
    rw [intsOf] at h
    cases q : intsOf r with
    | none => rw [q] at h; cases h
    | some l => rw [q] at h; cases h; rw [List.map_cons, intsOf_eq q]
  | .non :: r, ns, h => by cases h
  | .bl _ :: r, ns, h => by cases h
  | .str _ :: r, ns, h => by cases h
  | .lst _ :: r, ns, h => by cases h
  | .tup _ :: r, ns, h => by cases h
  | .dK _ _ :: r, ns, h => by cases h
  | .dT _ _ :: r, ns, h => by cases h
  | .ins _ _ _ :: r, ns, h => by cases h
  | .ref _ :: r, ns, h => by cases h
  | .scr _ :: r, ns, h => by cases h
  | .opq _ :: r, ns, h => by cases h
theorem foldl_min (a : Int) : ∀ (ns : List Int) , ns.foldl min a ≤ a ∧ (∀ y ∈ ns, ns.foldl min a ≤ y) ∧ (ns.foldl min a = a ∨ ns.foldl min a ∈ ns)
  | [] => ⟨Int.le_refl _, by simp, .inl rfl⟩
  | n :: ns => by
    obtain ⟨h1, h2, h3⟩ := foldl_min (min a n) ns
    rw [List.foldl_cons]
    refine ⟨by omega, fun y hy => ?_, ?_⟩
    · rcases List.mem_cons.mp hy with rfl | hy
      · omega
      · exact h2 y hy
    · rcases h3 with h3 | h3
      · rw [h3]
        by_cases q : a ≤ n
        · exact .inl (by omega)
        · exact .inr (List.mem_cons.mpr (.inl (by omega)))
      · exact .inr (List.mem_cons_of_mem _ h3)
theorem minL_spec {ns : List Int} (h : ns ≠ []) : minL ns ∈ ns ∧ ∀ y ∈ ns, minL ns ≤ y := by
  cases ns with
  | nil => exact absurd rfl h
  | cons n ns =>
    obtain ⟨h1, h2, h3⟩ := foldl_min n (n :: ns)
    refine ⟨?_, h2⟩
    show (n :: ns).foldl min n ∈ n :: ns
    rcases h3 with h3 | h3
    · rw [h3]; exact List.mem_cons_self
    · exact h3
def minLR : RDA := fun ds m F => on1 ds fun d => withL d m fun xs => onO (intsOf xs) fun ns => ns ≠ [] ∧ F (.int (minL ns)) m
theorem sqL_at {K : PySem.W.Frag} {W : Wd} {m : Mu} {H : Hp} (hh : Held K W m H) {d : D} {v : V} {xs : List D} (r : Rep K W d v) (e : lstOf m d = some xs) : ∃ p vs, v = .ref p ∧ SqL K H p vs ∧ RepL K W xs vs := by
  obtain ⟨p, vs, rfl, h, rr⟩ := lst_at hh r e
  exact ⟨p, vs, rfl, .inl (.inl h), rr⟩
theorem lr_minL {K : PySem.W.Frag} : LRA K (rMin K) minLR := fun H W m xs vs F Q hh r h q => by
  obtain ⟨d, rfl, h⟩ := on1_ex h
  obtain ⟨v, rfl, rv⟩ := repL_one r
  obtain ⟨ys, e, h⟩ := withL_ex h
  obtain ⟨ns, e2, ne, f⟩ := onO_ex h
  obtain ⟨p, ws, rfl, sq, rr⟩ := sqL_at hh rv e
  rw [intsOf_eq e2] at rr
  rw [rr.ints_of] at sq
  refine ⟨p, ns, rfl, sq, List.length_pos_iff.mpr ne, fun mm h1 h2 => ?_⟩
  obtain ⟨g1, g2⟩ := minL_spec ne
  have e : mm = minL ns := Int.le_antisymm (h2 _ g1) (g2 _ h1)
  subst e
  exact q _ _ _ _ _ (.refl hh) (.int _) f
end DL

/-! enumerate over a tuple; enumerate and zip as they are read; dict comprehensions. -/
namespace DN
open PySem L2 PySem.Spec PyProof.Rows
theorem meets_enum1 {v : Value} {o : Obj} {H : Heap → Prop} (B : Begins v o H) :
    Meets (Builtin.«enumerate.__new__» ⟨[.type "enumerate", v], []⟩) (fun _ R s => H s.heap ∧
      R (.ok (.ret (.ref (s.heap.push o).objs.size))) { s with heap := (s.heap.push o).push { cls := .type "enumerate", data := .fields #[.none, .bool false, .ref s.heap.objs.size, rawInt 0, .none, .none] } }) :=
  .of_wp fun prog w A R s h => by
    obtain ⟨hp, g, d, tk, os⟩ := s; obtain ⟨h1, h⟩ := h
    have hsub := sub_enumerate
    have q1 : ∀ {A' : Around} {E : Value → Shared → Prop} {Q : Value → Shared → Prop}, Q (.ref hp.objs.size) ⟨hp.push o, g, d, tk, os⟩ → wpAny (model prog w) A' (pyIter v) Q E ⟨hp, g, d, tk, os⟩ :=
      fun q => B.iter prog w _ _ ⟨hp, g, d, tk, os⟩ _ h1 q
    wp_walk using q1
    refine wpAny_stack_any fun st => wpAny_pure ?_
    split
    · rename_i c _ _ _ _ _
      cases (c == Value.type "enumerate")
      · wp_walk using q1
        exact ⟨_, rfl, h⟩
      · wp_walk using q1
        exact ⟨_, rfl, h⟩
    · wp_walk using q1
      exact ⟨_, rfl, h⟩
section
variable {prog : Program} {w : World} {A : Around} {E : Value → Shared → Prop} {s : Shared}
theorem call_enum1 {v : Value} {o : Obj} {H : Heap → Prop} {Q : Value → Shared → Prop} (B : Begins v o H) (h1 : H s.heap)
    (h : ∀ h', IsEnum h' (s.heap.objs.size + 1) s.heap.objs.size 0 .none → h'.get? s.heap.objs.size = some o → h'.objs.size = s.heap.objs.size + 2 →
      (∀ b o, s.heap.get? b = some o → h'.get? b = some o) → Q (.ref (s.heap.objs.size + 1)) { s with heap := h' }) :
    wpAny (model prog w) A (call (.type "enumerate") [v]) Q E s := by
  refine callType_new F.called_enumerate (by decide) (F.typeCall_enumerate_1 _) (F.newCall_enumerate_1 _) (fun obj => F.args_object_init_2 obj _) F.entry_enumerate_new
    (meets_enum1 B) ⟨h1, ?_⟩
  have hz : (s.heap.push o).objs.size = s.heap.objs.size + 1 := Heap.size_push ..
  show _ ∧ _
  rw [hz]
  have he : IsEnum ((s.heap.push o).push { cls := .type "enumerate", data := .fields #[.none, .bool false, .ref s.heap.objs.size, rawInt 0, .none, .none] }) (s.heap.objs.size + 1) s.heap.objs.size 0 .none := by
    have := Heap.get?_push_size (s.heap.push o) (o := { cls := .type "enumerate", data := .fields #[.none, .bool false, .ref s.heap.objs.size, rawInt 0, .none, .none] }) rfl
    rw [hz] at this; exact this
  refine ⟨⟨_, he, rfl⟩, h _ he (Heap.get?_push_of_some _ (Heap.get?_push_size _ B.free)) (by rw [Heap.size_push, hz]) fun b o x => Heap.get?_push_of_some _ (Heap.get?_push_of_some _ x)⟩
end
/-- the tuple at a, each item in a new pair -/
def IteT (K : PySem.W.Frag) (a : Addr) : It :=
  ⟨fun i H => ∃ (xs : List V) (x : V), SqT K H a xs ∧ xs[i]? = some x, fun i H v H' => ∃ T x, v = .ref T ∧ H T = none ∧ H' = upd H T (.tup [.int (i : Nat), x]) ∧ ∀ xs, SqT K H a xs → xs[i]? = some x, fun i H => ∃ xs : List V, SqT K H a xs ∧ xs.length ≤ i⟩
theorem turn_enumT {P : Program} {w : World} {K : PySem.W.Frag} {elts : List Expr} {kk : Nat} {tpos : Pos} (a e it : Addr) (items : Array Value) (hai : a ≠ it) (hae : e ≠ a) :
    Turn P w K (.Tuple elts kk tpos) (IteT K a) [e, it] e (fun i h => (∃ old, IsEnum h e it ((i : Nat) : Int) old) ∧ h.IsTupleIter it a i ∧ e ≠ it) where
  mem := by simp
  obj := fun i h st b hb => by
    obtain ⟨⟨old, he⟩, ⟨o, ho, hc, hd⟩, _⟩ := st
    have e' : b = e ∨ b = it := by simpa using hb
    rcases e' with z | z
    · rw [z]; exact ⟨_, he, fun v q => nomatch q⟩
    · rw [z]; exact ⟨o, ho, fun v q => by rw [hd] at q; cases q⟩
  keep := fun i h h' st k => let ⟨⟨old, he⟩, hi, hne⟩ := st; ⟨⟨old, k e (by simp) _ he⟩, hi.at fun o q => k it (by simp) o q, hne⟩
  item := by
    intro X hP hw hK hc i pins s σ H E I hf st hg
    subst hP hw hK
    obtain ⟨⟨old, he⟩, hit, hne⟩ := st
    obtain ⟨xs, x, hq, hx⟩ := hg
    obtain ⟨its, rv, p, hz⟩ := I.tuple hq
    obtain ⟨u, hu, ru⟩ := rv.get hx
    have hel : e < s.heap.objs.size := Heap.lt_size he
    have hil : it < s.heap.objs.size := by obtain ⟨_, q, _⟩ := hit; exact Heap.lt_size q
    have hd : X.A.in1.handled = none := I.ok.hd hc
    have D := Draws.tuple (prog := X.prog) (w := X.w) (A := X.A.in1) hd it a hai its.toArray
    have hlt : i < its.toArray.size := by
      have := (List.getElem?_eq_some_iff.mp hu).1
      simpa using this
    refine wpAny_pyNext_enum_itemD D he ⟨hit, p⟩ hlt hne (by simp [hne, hae]) fun x2 h' tk hP2 ho hit' hT hsz hk => ?_
    have ex : x2 = u := by
      have : its[i]? = some x2 := by simpa using hP2
      rw [hu] at this; cases this; rfl
    subst ex
    refine ⟨_, rfl, wpAny_letOwnedTupleGo_enum (s := { s with heap := h', toks := tk + 1 }) ho fun h'' he' sb => ?_⟩
    have hT2 : h''.get? s.heap.objs.size = some { cls := .type "tuple", data := .seq #[.int i tk, x2] } := (sb.2 _ (Nat.ne_of_gt hel)).trans hT
    have new : ObjOk X.prog X.w (upd H s.heap.objs.size (.tup [.int (i : Nat), x])) h'' s.heap.objs.size (.tup [.int (i : Nat), x]) :=
      ⟨by show 2 ≤ sizeLine; decide, [.int i tk, x2], .cons ⟨_, rfl⟩ (.cons ru .nil), ⟨_, hT2, rfl, _, rfl⟩⟩
    have I1 : Inv X pins σ (upd H s.heap.objs.size (.tup [.int (i : Nat), x])) { s with heap := h'', toks := tk + 1 } :=
      I.turnedNew (ch := [e, it]) (fun b ob hb q => (sb.2 b (fun z => hb (by simp [z]))).trans (hk b ob (fun z => hb (by simp [z])) (fun z => hb (by simp [z])) q)) hf (Nat.le_refl _) new
    refine ⟨.ref s.heap.objs.size, _, I1, rfl, ⟨_, x, rfl, I.hok.fresh (Nat.le_refl _), rfl, fun ys hy => by rw [I.tuple_inj hy hq]; exact hx⟩, ⟨⟨x2, ?_⟩, hit'.1.at fun o q => (sb.2 it (Ne.symm hne)).trans q, hne⟩, fun b hb => ?_⟩
    · have e1 : ((i + 1 : Nat) : Int) = (i : Int) + 1 := by omega
      rw [e1]; exact he'
    · have hb' : b < s.heap.objs.size := by
        have e' : b = e ∨ b = it := by simpa using hb
        rcases e' with z | z
        · rw [z]; exact hel
        · rw [z]; exact hil
      rw [upd_ne (Nat.ne_of_lt hb')]
      exact (hf b hb).1
  done := by
    intro X hP hw hK hc i pins s σ H E I hf st hg
    subst hP hw hK
    obtain ⟨⟨old, he⟩, hit, hne⟩ := st
    obtain ⟨xs, hq, hx⟩ := hg
    obtain ⟨its, rv, p, hz⟩ := I.tuple hq
    obtain ⟨f0, f1, f2, f3, f4, f5⟩ := hf it (by simp)
    have hl := rv.length
    have hT : s.TypeIs (.ref e) "enumerate" := ⟨_, he, rfl⟩
    unfold pyNext
    refine wpAny_bind (wpAny_attempt (wpAny_callSpecial?_slot (name := Str.ofString "__next__") hT F.slot_enumerate_next
      (wpAny_call_entry F.slot_enumerate_next hT F.entry_enumerate_next ?_ (F.args_enumerate_next_1 _))))
    show wpAny _ _ (field (.ref e) 2 >>= _) _ _ _
    refine wpAny_bind (wpAny_field he rfl (x := .ref it) rfl ?_)
    refine wpAny_bind (wpAny_nextOf_tuple_end (I.ok.hd hc) hit (show s.heap.IsTuple a its.toArray from p) (by simp; omega) fun h' x he' hx' => ?_)
    obtain ⟨o, ho, hc2⟩ := hx'
    refine wpAny_bind (wpAny_isInstance (T := "StopIteration") (b := true) ⟨o, ho, hc2⟩ isSubtype_stop ?_)
    exact wpAny_pure ⟨rfl, I.turned (t' := s.toks) (fun b o hb q => he' b o hb q) f0 f1 f3 f4 f5⟩
  self := fun A i s Q E st h => let ⟨⟨_, he⟩, _⟩ := st; wpAny_pyIter_enum he h
def iEnumA (K : PySem.W.Frag) (ta : TA) : TI := fun σ H R => ta σ H fun vs H1 => (∃ a xs, vs = [.ref a] ∧ SqL K H1 a xs ∧ R (Ite K a) H1) ∨ ∃ a xs, vs = [.ref a] ∧ SqT K H1 a xs ∧ R (IteT K a) H1
theorem pi_enumA {X : Cx} {e : Expr} {ta : TA} {p pos tpos : Pos} {elts : List Expr} {kk : Nat} (hg : Gl X "enumerate") (hm : X.mg "enumerate" = none) (ha : PA X [e] ta) (hs : starEach [e] X.env = [(false, eval e X.env)] := by rfl) :
    PI X (.Tuple elts kk tpos) (.Call (.Name "enumerate" p) [e] [] pos) (iEnumA X.K ta) := by
  refine ⟨fun pins s σ H R I h => ?_⟩
  refine Call_ (ld_blt I hg hm boot_enumerate (PyProof.Rows.callWith_type1 (thn (ha.run pos pins s σ H _ I h) fun us s1 ⟨vs, H1, I1, r1, q1⟩ => ?_) hs rfl))
  rcases q1 with ⟨a, xs, ex, hq, q⟩ | ⟨a, xs, ex, hq, q⟩
  · subst ex
    cases r1 with
    | cons r rr =>
      cases rr
      cases r
      obtain ⟨its, rv, p', hz⟩ := I1.list hq
      refine call_enumerate_list p'.isList fun h' he hit hsz hk => wpAny_pyIter_enum he ?_
      have I2 : Inv X pins σ H1 { s1 with heap := h' } := I1.kept (t' := s1.toks) hk
      refine ⟨s1.heap.objs.size + 1, [s1.heap.objs.size + 1, s1.heap.objs.size], _, _, H1, rfl, I2, turn_enum a (s1.heap.objs.size + 1) s1.heap.objs.size, ⟨⟨.none, he⟩, hit, Nat.succ_ne_self _⟩, fun b hb => ?_, q⟩
      have e' : b = s1.heap.objs.size + 1 ∨ b = s1.heap.objs.size := by simpa using hb
      have hle : s1.heap.objs.size ≤ b := by
        rcases e' with z | z
        · rw [z]; exact Nat.le_add_right _ _
        · rw [z]; exact Nat.le_refl _
      exact I1.fpOk hle (I1.hok.fresh hle)
  · subst ex
    cases r1 with
    | cons r rr =>
      cases rr
      cases r
      obtain ⟨its, rv, p', hz⟩ := I1.tuple hq
      have hal : a < s1.heap.objs.size := by obtain ⟨o, q, _⟩ := p'; exact Heap.lt_size q
      refine call_enum1 (begins_tuple a its.toArray) p' fun h' he hit hsz hk => wpAny_pyIter_enum he ?_
      have I2 : Inv X pins σ H1 { s1 with heap := h' } := I1.kept (t' := s1.toks) hk
      refine ⟨s1.heap.objs.size + 1, [s1.heap.objs.size + 1, s1.heap.objs.size], _, _, H1, rfl, I2, turn_enumT a (s1.heap.objs.size + 1) s1.heap.objs.size its.toArray (Nat.ne_of_lt hal) (Nat.ne_of_gt (Nat.lt_succ_of_lt hal)), ⟨⟨.none, he⟩, ⟨_, hit, rfl, rfl⟩, Nat.succ_ne_self _⟩, fun b hb => ?_, q⟩
      have e' : b = s1.heap.objs.size + 1 ∨ b = s1.heap.objs.size := by simpa using hb
      have hle : s1.heap.objs.size ≤ b := by
        rcases e' with z | z
        · rw [z]; exact Nat.le_add_right _ _
        · rw [z]; exact Nat.le_refl _
      exact I1.fpOk hle (I1.hok.fresh hle)
end DN

/-! The head's facts for the data logic: defs at addresses found by paths of one's own, any Bool of the written part. -/
namespace DL
open PySem L2
/-- one def: where it stands, its name, qualified name, parameters, body, scope, defaults -/
structure DD where
  at_ : PySem.W.Frag → Addr
  name : Str
  qual : Str
  st : Stmt
  dfl : List He.Dv := []
def fnA (K : PySem.W.Frag) (a : Addr) : He.FnW := match K.lookup a with
  | some ⟨_, _, .func fd, _⟩ => some (fd.name, fd.qualname, fd.params, fd.body, fd.scope, fd.globals, fd.closure, fd.builtins)
  | _ => none
def DD.val (d : DD) : He.FnW := some (d.name, d.qual, defArgs d.st, .stmts (defBody d.st), defScope d.st, mainGlobals, [], builtinsNs)
def DD.dvs (K : PySem.W.Frag) (d : DD) : List V := d.dfl.map (He.Dv.v K)
def DD.ok (K : PySem.W.Frag) (d : DD) : Bool := PySem.W.keepIn K (.ref (d.at_ K)) && (match K.lookup (d.at_ K) with
  | some ⟨_, _, .func fd, _⟩ => PySem.W.codeIn K fd.code d.qual && He.dflB K fd.defaults (d.dvs K)
  | _ => false)
theorem DD.funD {K : PySem.W.Frag} {d : DD} (e : fnA K (d.at_ K) = d.val) (c : d.ok K = true) : ∃ fd, FunD K d.name d.qual (defArgs d.st) (defBody d.st) (defScope d.st) (d.dvs K) [] (d.at_ K) fd := by
  obtain ⟨kp, c2⟩ := He.ba c
  unfold fnA at e
  cases q : K.lookup (d.at_ K) with
  | none => rw [q] at c2; cases c2
  | some o =>
    obtain ⟨oc, od, dt, osl⟩ := o
    rw [q] at c2 e
    cases dt with
    | func fd =>
      obtain ⟨n1, n2, n3, n4, n5, n6, n7, n8, n9, n10, n11, n12, n13, n14, n15⟩ := fd
      have e2 : (some (n1, n2, n3, n4, n5, n6, n7, n15) : He.FnW) = some (d.name, d.qual, defArgs d.st, .stmts (defBody d.st), defScope d.st, mainGlobals, [], builtinsNs) := e
      simp only [Option.some.injEq, Prod.mk.injEq] at e2
      obtain ⟨h1, h2, h3, h4, h5, h6, h7, h8⟩ := e2
      subst h1 h2 h3 h4 h5 h6 h7 h8
      obtain ⟨k1, k2⟩ := He.ba (show (PySem.W.codeIn K n13 d.qual && He.dflB K n8 (d.dvs K)) = true from c2)
      exact ⟨_, ⟨oc, od, n8, n9, n10, n11, n12, n13, n14, osl, rfl, q, k1, He.dflB_ok k2, .inl rfl⟩, kp⟩
    | _ => cases c2
abbrev Alw : Type := Bool × List He.FnW
def obsW (ex : List (PySem.W.Frag → Bool)) (fn : List DD) (K : PySem.W.Frag) : Alw := ((ex.all fun f => f K) && fn.all fun d => d.ok K, fn.map fun d => fnA K (d.at_ K))
def valW (fn : List DD) : Alw := (true, fn.map DD.val)
def Says (ex : List (PySem.W.Frag → Bool)) (fn : List DD) (K : PySem.W.Frag) : Prop := obsW ex fn K = valW fn
def obsWG (n : Nat) (ex : List (PySem.W.Frag → Bool)) (fn : List DD) (g : Addr → Option Obj) : Alw := obsW ex fn (He.frG g (He.asD g n))
def hookW (n : Nat) (ex : List (PySem.W.Frag → Bool)) (fn : List DD) : PySem.W.Hook where
  α := Alw
  obs := fun s => obsWG n ex fn s.heap.get?
  val := fun _ => valW fn
  says := fun _ h => ∃ K : PySem.W.Frag, K.In h ∧ Says ex fn K
  of := fun _ _ e => ⟨_, He.frG_in, e⟩
  keeps := fun _ _ _ ⟨K, hK, c⟩ k => ⟨K, PySem.W.Frag.In.keeps hK k, c⟩
theorem obsWG_eq {n : Nat} {ex : List (PySem.W.Frag → Bool)} {fn : List DD} {g : Addr → Option Obj} {s : Shared} (h : ∀ a, g a = s.heap.get? a) : obsWG n ex fn g = (hookW n ex fn).obs s := by
  have e : g = s.heap.get? := funext h
  rw [e] <;> rfl
section
variable {ex : List (PySem.W.Frag → Bool)} {fn : List DD} {K : PySem.W.Frag}
theorem Says.fact (c : Says ex fn K) (i : Nat) {f : PySem.W.Frag → Bool} (h : ex[i]? = some f := by rfl) : f K = true := by
  have c1 := (He.ba (show ((ex.all fun f => f K) && fn.all fun d => d.ok K) = true from congrArg (fun z : Alw => z.1) c)).1
  exact List.all_eq_true.mp c1 f (List.mem_of_getElem? h)
theorem Says.def_ (c : Says ex fn K) (i : Nat) {d : DD} (h : fn[i]? = some d := by rfl) : ∃ fd, FunD K d.name d.qual (defArgs d.st) (defBody d.st) (defScope d.st) (d.dvs K) [] (d.at_ K) fd := by
  have c2 := (He.ba (show ((ex.all fun f => f K) && fn.all fun d => d.ok K) = true from congrArg (fun z : Alw => z.1) c)).2
  have e : fn.map (fun d => fnA K (d.at_ K)) = fn.map DD.val := congrArg (fun z : Alw => z.2) c
  have e2 : (fn.map fun d => fnA K (d.at_ K))[i]? = (fn.map DD.val)[i]? := by rw [e]
  rw [List.getElem?_map, List.getElem?_map, h] at e2
  exact DD.funD (Option.some.inj e2) (List.all_eq_true.mp c2 d (List.mem_of_getElem? h))
end
/-! ### more facts of a class -/
abbrev ga := He.ga
abbrev ma := He.ma
/-- a property's getter -/
def pg (K : PySem.W.Frag) (C : Addr) (n : Str) : Addr := match PySem.W.recIn K (ma K C n) "property" with
  | some (.ref g :: _) => g
  | _ => 0
def oB (a : Option Bool) (b : Bool) : Bool := decide (a = some b)
theorem oB_ok {a : Option Bool} {b : Bool} (h : oB a b = true) : a = some b := of_decide_eq_true h
def recB (K : PySem.W.Frag) (C : Addr) (n : Str) : Bool := match PySem.W.recIn K (ma K C n) "property" with
  | some (.ref _ :: _) => true
  | _ => false
def propB (x n : Str) (K : PySem.W.Frag) : Bool := He.eqO (PySem.W.findIn K (.ref (ga K x)) n) (some (some (.ref (ma K (ga K x) n)))) && (He.eqO (PySem.W.specialIn K (.ref (ma K (ga K x) n)) "__get__") (some (some (.builtin "property.__get__"))) &&
  (oB (PySem.W.takesIn K (.ref (ma K (ga K x) n))) true && recB K (ga K x) n))
theorem prop_ok {x n : Str} {K : PySem.W.Frag} (c : propB x n K = true) : PropOf K (ga K x) n (ma K (ga K x) n) (pg K (ga K x) n) := by
  obtain ⟨c1, c⟩ := He.ba c
  obtain ⟨c2, c⟩ := He.ba c
  obtain ⟨c3, c4⟩ := He.ba c
  refine ⟨He.eqO_ok c1, He.eqO_ok c2, oB_ok c3, ?_⟩
  unfold recB at c4
  unfold pg
  cases q : PySem.W.recIn K (ma K (ga K x) n) "property" with
  | none => rw [q] at c4; cases c4
  | some l =>
    rw [q] at c4
    cases l with
    | nil => cases c4
    | cons v r =>
      cases v with
      | ref g => exact ⟨r, rfl⟩
      | _ => cases c4
def ownB (x : Str) (K : PySem.W.Frag) : Bool := He.eqO (PySem.W.findIn K (.ref (ga K x)) "__eq__") (some (some (.ref (ma K (ga K x) "__eq__")))) && (He.eqO (PySem.W.findIn K (.ref (ga K x)) "__ne__") (some (some (.builtin "object.__ne__"))) &&
  (PySem.W.isFn K (.ref (ma K (ga K x) "__eq__")) && oB (PySem.W.mroIn K (ga K x) (.type "object")) true))
theorem own_ok {x : Str} {K : PySem.W.Frag} (c : ownB x K = true) : OwnQ K (ga K x) (ma K (ga K x) "__eq__") := by
  obtain ⟨c1, c⟩ := He.ba c
  obtain ⟨c2, c⟩ := He.ba c
  obtain ⟨c3, c4⟩ := He.ba c
  exact ⟨He.eqO_ok c1, He.eqO_ok c2, c3, oB_ok c4⟩
def slenB (x : Str) (K : PySem.W.Frag) : Bool := He.eqO (PySem.W.findIn K (.ref (ga K x)) "__len__") (some (some (.ref (ma K (ga K x) "__len__")))) && PySem.W.isFn K (.ref (ma K (ga K x) "__len__"))
theorem slen_ok {x : Str} {K : PySem.W.Frag} (c : slenB x K = true) : PySem.W.findIn K (.ref (ga K x)) "__len__" = some (some (.ref (ma K (ga K x) "__len__"))) ∧ PySem.W.isFn K (.ref (ma K (ga K x) "__len__")) = true := by
  obtain ⟨c1, c⟩ := He.ba c
  exact ⟨He.eqO_ok c1, c⟩
def instB (x : Str) (K : PySem.W.Frag) : Bool := (He.Fa.cls x).ok K && (He.eqO (PySem.W.findIn K (.ref (ga K x)) "__class__") (some (some (.builtin "object.__class__"))) && (He.eqO (PySem.W.specialIn K (.builtin "object.__class__") "__get__") (some (some (.builtin "getset_descriptor.__get__"))) &&
  (oB (PySem.W.takesIn K (.builtin "object.__class__")) true && oB (PySem.W.mroIn K (ga K x) (.type "object")) true)))
theorem inst_ok {x : Str} {K : PySem.W.Frag} (c : instB x K = true) : InsTy K (ga K x) := by
  obtain ⟨c0, c⟩ := He.ba c
  obtain ⟨c1, c⟩ := He.ba c
  obtain ⟨c2, c⟩ := He.ba c
  obtain ⟨c3, c4⟩ := He.ba c
  exact ⟨He.cls_ok c0, He.eqO_ok c1, He.eqO_ok c2, oB_ok c3, oB_ok c4⟩
def kit1B (x y : Str) (b : Bool) (K : PySem.W.Frag) : Bool := oB (PySem.W.kitOne K (.ref (ga K x)) (.ref (ga K y))) b
def kitTB (t : String) (y : Str) (b : Bool) (K : PySem.W.Frag) : Bool := oB (PySem.W.kitOne K (.type t) (.ref (ga K y))) b
def kitRB (x : Str) (t : String) (b : Bool) (K : PySem.W.Frag) : Bool := oB (PySem.W.kitOne K (.ref (ga K x)) (.type t)) b

/-! ### a def, its derivation up to the inner reading -/
section
variable {P : Program} {w : World} {K : PySem.W.Frag} {mg : Str → Option Value} {base : Heap} {x qual : Str} {params : Arguments} {body : List Stmt} {scope : Scope} {dvs : List V} {kws : List (Str × V)} {f : Addr} {fd : FuncData}
theorem ok_by {N ps : List Str} {k : Nat} {S : SpD} {t : TDS} (F : FunD K x qual params body scope dvs kws f fd) (sc : FnScope N ps scope) (len : ∀ ds m G, S ds m G → ds.length = ps.length)
    (der : ∀ (cdv : Value) (A : Around) (outer : List Env) (s : Shared) (H : Hp) (E : XK), Room k (A.deeper (PyProof.Rows.envOfC qual scope s.heap.objs.size f cdv)) → ∃ ts, DSs (cxOf CX0 P w K mg base N qual scope f cdv A outer s H E).nox body ts t)
    (pure_ : ∀ ds m G, S ds m G → t { nx := fun _ m' => Fin G .non m', rt := Fin G } (startD N.length ds) m) : FnOk P w K mg base CX0 (k + 1) f fd ps (spD K S) := by
  refine F.ok sc (fun vs H Q E h => ?_) (fun cdv A outer s H vs Q E hr h => ?_)
  · obtain ⟨W, m, ds, G, _, r, hs, _⟩ := h
    rw [← r.length, len ds m G hs]
  · obtain ⟨W, m, ds, G, hh, r, hs, q⟩ := h
    obtain ⟨ts, d⟩ := der cdv A outer s H E hr
    have fi : ∀ (v : V) (H' : Hp) (d : D) (W' : Wd) (m' : Mu), Stp K W m H W' m' H' → Rep K W' d v → Fin G d m' → Q v H' := fun v H' d W' m' s' r' hf => by
      rcases hf with ⟨m2, hsub, hf⟩ | ⟨k2, o, m2, rfl, hk, hk2, hsub, hf⟩
      · exact q v H' d W' m2 (s'.trans hh (step_drop s'.held hsub)) r' hf
      · obtain ⟨W2, s2, r2⟩ := step_settle s'.held hk hk2 hsub
        cases r'
        exact q _ H' _ W2 m2 (s'.trans hh s2) r2 hf
    exact ⟨ts, d.ps.nox, d.up (L2.start N vs) H W (startD N.length ds) m _ _ hh (start_rep r) (pure_ ds m G hs) (fun σ' H' W' ρ' m' s' _ hf => fi _ _ _ _ _ s' .non hf) fi (fun _ _ _ _ _ _ _ z => z.elim) fun _ _ _ _ _ _ _ z => z.elim⟩
end
/-- a, b = x, y, plain local names -/
def dPar (i j : Nat) (ta : TDA) : TDS := fun F ρ m => ta ρ m fun ds m1 => on2 ds fun a b => F.nx ((ρ.set i (some a)).set j (some b)) m1
theorem ds_par {X : Cx} {i j : Nat} {x y : Str} {a b : Expr} {ta : TA} {da : TDA} {px py pt pos : Pos} {kt k2 pt2} (hN : X.N.Nodup) (hi : X.N[i]? = some x) (hj : X.N[j]? = some y) (hij : i ≠ j)
    (hx : X.env.scope.names.lookup x = some .local) (hy : X.env.scope.names.lookup y = some .local) (ha : DA X [a, b] ta da)
    (hw : swappedStores [.Tuple [.Name x px, .Name y py] kt pt] (.Tuple [a, b] k2 pt2) X.env = pure (some [x, y])) (hc : X.calm = true := by rfl)
    (hs : swapsWithSole [.Tuple [.Name x px, .Name y py] kt pt] (.Tuple [a, b] k2 pt2) pos.line X.env = pure false := by rfl) :
    DS X (.Assign [.Tuple [.Name x px, .Name y py] kt pt] (.Tuple [a, b] k2 pt2) pos) (tPar i j ta) (dPar i j da) :=
  ⟨ps_par hc hN hi hj hij hx hy ha.pa hw hs, fun σ H W ρ m F E hh re h n r b c => ha.up σ H W ρ m _ _ hh re h fun vs H1 ds W1 m1 s1 r1 h1 => by
    cases r1 with
    | nil => exact h1.elim
    | cons ra rr =>
      cases rr with
      | nil => exact h1.elim
      | cons rb rr =>
        cases rr with
        | cons _ _ => exact h1.elim
        | nil => exact ⟨_, _, rfl, n _ _ _ _ _ s1 (((re.mono s1.le).set ra i).set rb j) h1⟩⟩
end DL

/-! Small words that the printed derivations use. -/
namespace DL
open PySem L2
theorem bt_len : bootBuiltins "len" = some (.builtin "len") := by decide +kernel
theorem bt_isinstance : bootBuiltins "isinstance" = some (.builtin "isinstance") := by decide +kernel
theorem bt_sum : bootBuiltins "sum" = some (.builtin "sum") := by decide +kernel
theorem bt_max : bootBuiltins "max" = some (.builtin "max") := by decide +kernel
theorem bt_min : bootBuiltins "min" = some (.builtin "min") := by decide +kernel
theorem bt_sorted : bootBuiltins "sorted" = some (.builtin "sorted") := by decide +kernel
theorem bt_int : bootBuiltins "int" = some (.type "int") := by decide +kernel
theorem bt_str : bootBuiltins "str" = some (.type "str") := by decide +kernel
theorem bt_bool : bootBuiltins "bool" = some (.type "bool") := by decide +kernel
theorem bt_list : bootBuiltins "list" = some (.type "list") := by decide +kernel
theorem bt_tuple : bootBuiltins "tuple" = some (.type "tuple") := by decide +kernel
theorem bt_dict : bootBuiltins "dict" = some (.type "dict") := by decide +kernel
theorem bt_set : bootBuiltins "set" = some (.type "set") := by decide +kernel
def sort1R : RDA := fun ds m F => on1 ds fun d => sortR d m F
theorem lr_sort1 {K : PySem.W.Frag} : LRA K (rSortedS K) sort1R := fun H W m xs vs F Q hh r h q => lr_sort H W m xs vs F Q hh r (by
  match xs, h with
  | [d], h => exact h) q
theorem bind_full {K : PySem.W.Frag} {x qual : Str} {params : Arguments} {body : List Stmt} {scope : Scope} {dvs : List V} {f : Addr} {fd : FuncData} {ps : List Str} (F : FunD K x qual params body scope dvs [] f fd) (hd : dvs ≠ []) (hl : ps.length = ps.length)
    (h : ∀ (T : Addr) (kV doc pm : Value) (an : Option Addr) (cdv ct : Value) (us its : List Value), us.length = ps.length → its.length = dvs.length →
      ∃ k, bindArgs (PySem.W.fnOf x qual params body scope (.ref T) kV doc pm an cdv ct) ⟨us, []⟩ = seqItems? (.ref T) >>= k ∧ k (some its.toArray) = pure (ps.zip (us ++ its.drop dvs.length))) : Binds K fd ps [] := by
  obtain ⟨ds, v, b⟩ := F.binds1 (ps := ps) ps.length dvs.length hd (by omega) h
  rw [List.drop_length] at v
  cases v
  exact b
end DL

/-! The rules once more with the written part as a name of its own (inside a comprehension the readings may not speak of its context). -/
namespace DL
open PySem L2
section
variable {X : Cx} {K : PySem.W.Frag} {a b o e tg : Expr} {es : List Expr} {ta tb te : TE} {da db de : TD} {t : TA} {dt : TDA} {pos apos p1 p2 p3 : Pos} {k : Nat} {f C : Addr} {fd : FuncData} {ps : List Str} {S : SpD} {x mn fn pn : Str}
theorem de_addK (hK : X.K = K) (ha : DE X a ta da) (hb : DE X b tb db) : DE X (.BinOp a .Add b pos) (tOp (rAddU K) ta tb) (dOp addR da db) := by subst hK; exact de_add ha hb
theorem de_itemK (hK : X.K = K) (ha : DE X a ta da) (hb : DE X b tb db) (hs : PlainIx b := by exact fun _ _ => rfl) : DE X (.Subscript a b pos) (tOp (rIx K) ta tb) (dOp ixR da db) := by subst hK; exact de_item ha hb hs
theorem de_sliceK {lo hi : Option Expr} {tl th : TO} {dl dh : TDO} (hK : X.K = K) (he : DE X e te de) (hl : DO X lo tl dl) (hu : DO X hi th dh) : DE X (.Subscript e (.Slice lo hi none p2) pos) (tSl (rSlU K) te tl th) (dSl de dl dh) := by subst hK; exact de_slice he hl hu
theorem de_revK {j : Nat} (hK : X.K = K) (ho : DE X o te de) : DE X (.Subscript o (.Slice none none (some (.UnaryOp .USub (.Constant (.int 1) j p1) p2)) p3) pos) (tRevL K te) (dRev de) := by subst hK; exact de_rev ho
theorem de_callK (hK : X.K = K) (F : FnOk X.prog X.w K X.mg X.base CX0 k f fd ps (spD K S)) (hr : Room k X.A) (hg : Gl X x) (hm : X.mg x = some (.ref f)) (hk : PySem.W.keepIn K (.ref f) = true) (hb : Binds K fd ps [])
    (ha : DA X (e :: es) t dt) (hdb : (x == ("__debug__" : Str)) = false := by decide) (he : starEach (e :: es) X.env = (false, eval e X.env) :: starEach es X.env := by rfl) (hpl : (backTo pos (starEach es X.env)).any (·.1) = false := by rfl) :
    DE X (.Call (.Name x p1) (e :: es) [] pos) (tCall (spD K S) [] E0 t) (dCall S dt) := by subst hK; exact de_call F hr hg hm hk hb ha hdb he hpl
theorem de_call0K (hK : X.K = K) (F : FnOk X.prog X.w K X.mg X.base CX0 k f fd ps (spD K S)) (hr : Room k X.A) (hg : Gl X x) (hm : X.mg x = some (.ref f)) (hk : PySem.W.keepIn K (.ref f) = true) (hb : Binds K fd ps [])
    (hdb : (x == ("__debug__" : Str)) = false := by decide) : DE X (.Call (.Name x p1) [] [] pos) (tCall (spD K S) [] E0 tNil) (dCall S dNil) := by subst hK; exact de_call0 F hr hg hm hk hb hdb
theorem de_fldK (hK : X.K = K) (he : DE X o te de) (hb : attributeBase o fn X.env (eval o X.env) = eval o X.env := by rfl) : DE X (.Attribute o fn pos) (tFld K te fn) (dFld K de fn) := by subst hK; exact de_fld he hb
theorem de_methK {pl : Sem Bool} (hK : X.K = K) (he : DE X o te de) (c : Cls K C) (hm : Meth K C mn f) (F : FnOk X.prog X.w K X.mg X.base CX0 k f fd ps (spD K S)) (hr : Room k X.A) (hb : Binds K fd ps []) (ha : DA X (e :: es) t dt)
    (hst : starEach (e :: es) X.env = (false, eval e X.env) :: starEach es X.env := by rfl) (hpl : (backTo pos (starEach es X.env)).any (·.1) = false := by rfl)
    (ht : eval (.Call (.Attribute o mn apos) (e :: es) [] pos) X.env = (do
      let ov ← eval o X.env
      standAt apos.atName
      let (f, first) ← holding [ov] (getMethod ov mn pl)
      callWith pos f first (backTo pos (starEach (e :: es) X.env)) (backToKw pos (keywordEach [] X.env))) := by rfl) :
    DE X (.Call (.Attribute o mn apos) (e :: es) [] pos) (tMeth C mn (spD K S) [] E0 te t) (dMeth C mn S de dt) := by subst hK; exact de_meth he c hm F hr hb ha hst hpl ht
theorem de_meth0K {pl : Sem Bool} (hK : X.K = K) (he : DE X o te de) (c : Cls K C) (hm : Meth K C mn f) (F : FnOk X.prog X.w K X.mg X.base CX0 k f fd ps (spD K S)) (hr : Room k X.A) (hb : Binds K fd ps [])
    (ht : eval (.Call (.Attribute o mn apos) [] [] pos) X.env = (do
      let ov ← eval o X.env
      standAt apos.atName
      let (f, first) ← holding [ov] (getMethod ov mn pl)
      callWith pos f first (backTo pos (starEach [] X.env)) (backToKw pos (keywordEach [] X.env))) := by rfl) :
    DE X (.Call (.Attribute o mn apos) [] [] pos) (tMeth C mn (spD K S) [] E0 te tNil) (dMeth C mn S de dNil) := by subst hK; exact de_meth0 he c hm F hr hb ht
theorem de_propK {pa : Addr} (hK : X.K = K) (he : DE X o te de) (c : Cls K C) (hp : PropOf K C pn pa f) (F : FnOk X.prog X.w K X.mg X.base CX0 k f fd ps (spD K S)) (hr : Room (k + 1) X.A) (hb : Binds K fd ps [])
    (hab : attributeBase o pn X.env (eval o X.env) = eval o X.env := by rfl) : DE X (.Attribute o pn pos) (tProp C (spD K S) [] E0 te) (dProp C S de) := by subst hK; exact de_prop he c hp F hr hb hab
theorem de_makeK (hK : X.K = K) (M : Mk K C f) (F : FnOk X.prog X.w K X.mg X.base CX0 k f fd ps (spD K S)) (hr : Room (k + 1) X.A) (hg : Gl X x) (hm : X.mg x = some (.ref C)) (hb : Binds K fd ps [])
    (ha : DA X (e :: es) t dt) (hdb : (x == ("__debug__" : Str)) = false := by decide) (he : starEach (e :: es) X.env = (false, eval e X.env) :: starEach es X.env := by rfl) (hpl : (backTo pos (starEach es X.env)).any (·.1) = false := by rfl) :
    DE X (.Call (.Name x p1) (e :: es) [] pos) (tMake C (spD K S) [] E0 t) (dMake C S dt) := by subst hK; exact de_make (f1 := 0) M F hr hg hm hb ha hdb he hpl
theorem di_listK (hK : X.K = K) (h : DE X e te de) : DI X tg e (iListA K te) (iL de) := by subst hK; exact di_list h
theorem di_tupK (hK : X.K = K) (h : DE X e te de) : DI X tg e (iTup K te) (iT de) := by subst hK; exact di_tup h
theorem dg_tupK {j : Nat} {gs : TGs} {dgs : TDGs} {n : Nat} (hK : X.K = K) (hc : X.calm = true) (h : DGs X es gs dgs) (hn : (assignEach es X.env).length = n := by rfl) (hst : (assignEach es X.env).findIdx? (·.1) = none := by rfl) : DG X (.Tuple es j pos) (gTup K n gs) (gTup' n dgs) := by subst hK; exact dg_tup hc h hn hst
theorem op_inK (hK : X.K = K) : OpR X (compareOp .In) (rInU K false) := by subst hK; exact op_inU
theorem op_notInK (hK : X.K = K) : OpR X (compareOp .NotIn) (rInU K true) := by subst hK; exact op_notInU
theorem op_eqK (hK : X.K = K) (hu : X.A.units + 64 < cLine) : OpR X (compareOp .Eq) (rEqD K) := by subst hK; exact op_eqD hu
theorem op_neK (hK : X.K = K) (hu : X.A.units + 64 < cLine) : OpR X (compareOp .NotEq) (rNeD K) := by subst hK; exact op_neD hu
theorem op_ownK (q : Bool) (hK : X.K = K) (F : FnOk X.prog X.w K X.mg X.base CX0 k f fd ps (spD K S)) (O : OwnQ K C f) (hb : Binds K fd ps []) (hr : Room (k + 1) X.A) : OpR X (compareOp (DQ.opOf q)) (rOwnQ C (spD K S) q) := by subst hK; exact op_own q F O hb hr
theorem op_ownLK (q : Bool) (hK : X.K = K) (F : FnOk X.prog X.w K X.mg X.base CX0 k f fd ps (spD K S)) (O : OwnQ K C f) (hb : Binds K fd ps []) (hr : Room (k + 2) X.A) : OpR X (compareOp (DQ.opOf q)) (rOwnL C (spD K S) q) := by subst hK; exact op_ownL q F O hb hr
theorem op_ownE (hK : X.K = K) (F : FnOk X.prog X.w K X.mg X.base CX0 k f fd ps (spD K S)) (O : OwnQ K C f) (hb : Binds K fd ps []) (hr : Room (k + 1) X.A) : OpR X (compareOp .Eq) (rOwnQ C (spD K S) true) := op_ownK true hK F O hb hr
theorem op_ownN (hK : X.K = K) (F : FnOk X.prog X.w K X.mg X.base CX0 k f fd ps (spD K S)) (O : OwnQ K C f) (hb : Binds K fd ps []) (hr : Room (k + 1) X.A) : OpR X (compareOp .NotEq) (rOwnQ C (spD K S) false) := op_ownK false hK F O hb hr
theorem op_ownLE (hK : X.K = K) (F : FnOk X.prog X.w K X.mg X.base CX0 k f fd ps (spD K S)) (O : OwnQ K C f) (hb : Binds K fd ps []) (hr : Room (k + 2) X.A) : OpR X (compareOp .Eq) (rOwnL C (spD K S) true) := op_ownLK true hK F O hb hr
theorem op_ownLN (hK : X.K = K) (F : FnOk X.prog X.w K X.mg X.base CX0 k f fd ps (spD K S)) (O : OwnQ K C f) (hb : Binds K fd ps []) (hr : Room (k + 2) X.A) : OpR X (compareOp .NotEq) (rOwnL C (spD K S) false) := op_ownLK false hK F O hb hr
theorem lr_ownE {S : SpD} : LR2 K (rOwnQ C (spD K S) true) (ownR C S false) := lr_own (neg := false)
theorem lr_ownN {S : SpD} : LR2 K (rOwnQ C (spD K S) false) (ownR C S true) := lr_own (neg := true)
theorem lr_ownLE {S : SpD} {e : D → D → Bool} {P : D → Prop} (E : EqBy C S e P) : LR2 K (rOwnL C (spD K S) true) (ownLR P e false) := lr_ownL (neg := false) E
theorem lr_ownLN {S : SpD} {e : D → D → Bool} {P : D → Prop} (E : EqBy C S e P) : LR2 K (rOwnL C (spD K S) false) (ownLR P e true) := lr_ownL (neg := true) E
theorem call_lenK (hK : X.K = K) : CallR X (.builtin "len") (fun xs H Q => ∃ x n, xs = [x] ∧ LenV K x H n ∧ Q (.int n) H) := by subst hK; exact call_len
theorem call_isiK' (hK : X.K = K) : CallR X (.builtin "isinstance") (rIsi K) := by subst hK; exact call_isi
theorem call_listK (hK : X.K = K) : CallR X (.type "list") (fun xs H Q => ∃ p ys, xs = [.ref p] ∧ (SqL K H p ys ∨ SqT K H p ys) ∧ ∀ l, H l = none → Q (.ref l) (upd H l (.lst ys))) := by subst hK; exact call_list_of
theorem call_tupleK (hK : X.K = K) : CallR X (.type "tuple") (fun xs H Q => ∃ p ys, xs = [.ref p] ∧ ((SqL K H p ys ∧ ∀ l, H l = none → Q (.ref l) (upd H l (.tup ys))) ∨ (SqT K H p ys ∧ Q (.ref p) H))) := by subst hK; exact call_tuple_of
theorem cr_sumK (hK : X.K = K) (hc : X.calm = true) : CallR X (.builtin "sum") (rSum K) := by subst hK; exact cr_sum hc
theorem cr_sortK (hK : X.K = K) : CallR X (.builtin "sorted") (rSortedS K) := by subst hK; exact cr_sortedS
theorem cr_lenOK (hK : X.K = K) (F : FnOk X.prog X.w K X.mg X.base CX0 k f fd ps (spD K S)) (hs : PySem.W.findIn K (.ref C) "__len__" = some (some (.ref f)) ∧ PySem.W.isFn K (.ref f) = true) (hb : Binds K fd ps []) (hr : Room (k + 1) X.A) : CallR X (.builtin "len") (rLenO C (spD K S)) := by subst hK; exact cr_lenO F hs.1 hs.2 hb hr
theorem mt_indexK (hK : X.K = K) : MtR X "list.index" (rIndex K) := by subst hK; exact mt_index
theorem de_bmK {name : Str} {id : String} {r : V → List V → Hp → VK → Prop} {rd : D → List D → Mu → DK → Prop} (hK : X.K = K) (slot : Slot "list" name id) (hty : typeOf (.builtin id) = pure (.type "method_descriptor")) (hm : MtR X id r) (hr : LRM K r rd) (ho : DE X o te de) (ha : DA X (e :: es) t dt)
    (hbase : attributeBase o name X.env (eval o X.env) = eval o X.env := by rfl)
    (hfew : ((backTo pos (starEach (e :: es) X.env)).all (fun x => !x.1) && (backToKw pos (keywordEach [] X.env)).all (fun x => x.1.isSome)
      && decide ((e :: es).length + ([] : List Keyword).length + (if ([] : List Keyword).isEmpty then 0 else 1) < 30)) = true := by rfl)
    (hline : (apos.endLine == pos.line) = true := by rfl) (hs : starEach (e :: es) X.env = (false, eval e X.env) :: starEach es X.env := by rfl) (hplain : (backTo pos (starEach es X.env)).any (·.1) = false := by rfl) :
    DE X (.Call (.Attribute o name apos) (e :: es) [] pos) (tBM K "list" r te t) (dBm rd de dt) := by subst hK; exact de_bm slot hty hm hr ho ha hbase hfew hline hs hplain
theorem de_bm0K {name : Str} {id : String} {r : V → List V → Hp → VK → Prop} {rd : D → List D → Mu → DK → Prop} (hK : X.K = K) (slot : Slot "list" name id) (hty : typeOf (.builtin id) = pure (.type "method_descriptor")) (hm : MtR X id r) (hr : LRM K r rd) (ho : DE X o te de)
    (hbase : attributeBase o name X.env (eval o X.env) = eval o X.env := by rfl) (hline : (apos.endLine == pos.line) = true := by rfl) : DE X (.Call (.Attribute o name apos) [] [] pos) (tBM0 K "list" r te) (dBm rd de dNil) := by subst hK; exact de_bm0 slot hty hm hr ho hbase hline
end
section
variable {X : Cx} {elt tg iter tg1 iter1 : Expr} {ifs ifs1 : List Expr} {scope : Scope} {pos : Pos} {wi wi1 : TI} {ti ti1 : TDI} {g g1 : TG} {dg dg1 : TDG} {tt tt1 : TT} {dt dt1 : TDT} {te : TE} {de : TD} {vs vs1 : List Nat}
theorem de_lcV (own : List (Str × Nat)) (hv : own.map (·.2) = vs) (hi : DI X tg iter wi ti) (ok : BlkOk X.N X.env.scope scope own) (hw : GW g vs)
    (hg : ∀ (s : Shared) (H : Hp) (C : Addr) (cl : List (Str × Addr)) (fp : List Addr), DG (X.blk s H scope (compEnvC scope cl C X.env) fp) tg g dg) (ht : ∀ (s : Shared) (H : Hp) (C : Addr) (cl : List (Str × Addr)) (fp : List Addr), DTs (X.blk s H scope (compEnvC scope cl C X.env) fp) ifs tt dt)
    (he : ∀ (s : Shared) (H : Hp) (C : Addr) (cl : List (Str × Addr)) (fp : List Addr), DE (X.blk s H scope (compEnvC scope cl C X.env) fp) elt te de) (hN : X.N.Nodup) (hc : X.calm = true := by rfl) (hs : ∀ x, foldedSetIterable iter X.env x = pure x := by intro _; rfl) :
    DE X (.ListComp elt [⟨tg, iter, ifs, 0⟩] scope pos) (tLc wi g tt te vs) (dLc ti dg dt de vs) := by subst hv; exact de_lc own hi ok hw hg ht he hN hc hs
theorem ds_setLcV {i : Nat} {y : Str} {py spos : Pos} (own : List (Str × Nat)) (hv : own.map (·.2) = vs) (hi : DI X tg iter wi ti) (ok : BlkOk X.N X.env.scope scope own) (hw : GW g vs)
    (hg : ∀ (s : Shared) (H : Hp) (C : Addr) (cl : List (Str × Addr)) (fp : List Addr), DG (X.blk s H scope (compEnvC scope cl C X.env) fp) tg g dg) (ht : ∀ (s : Shared) (H : Hp) (C : Addr) (cl : List (Str × Addr)) (fp : List Addr), DTs (X.blk s H scope (compEnvC scope cl C X.env) fp) ifs tt dt)
    (he : ∀ (s : Shared) (H : Hp) (C : Addr) (cl : List (Str × Addr)) (fp : List Addr), DE (X.blk s H scope (compEnvC scope cl C X.env) fp) elt te de) (hN : X.N.Nodup) (hy : X.N[i]? = some y) (hyl : X.env.scope.names.lookup y = some .local)
    (hsw : swapsWith (.ListComp elt [⟨tg, iter, ifs, 0⟩] scope pos) (some (.Name y py)) spos.line X.env = pure true) (hc : X.calm = true := by rfl) (hs : ∀ x, foldedSetIterable iter X.env x = pure x := by intro _; rfl) :
    DS X (.Assign [.Name y py] (.ListComp elt [⟨tg, iter, ifs, 0⟩] scope pos) spos) (tAsg (tLc wi g tt te vs) (gName i)) (dAsg (dLc ti dg dt de vs) (gN i)) := by subst hv; exact ds_setLc own hi ok hw hg ht he hN hy hyl hsw hc hs
theorem de_lc2V (own : List (Str × Nat)) (hv : own.map (·.2) = vs) (hi : DI X tg iter wi ti) (ok : BlkOk X.N X.env.scope scope own) (hv1 : ∀ i ∈ vs1, i ∈ vs) (hw : GW g vs) (hw1 : GW g1 vs1)
    (hg : ∀ (s : Shared) (H : Hp) (C : Addr) (cl : List (Str × Addr)) (fp : List Addr), DG (X.blk s H scope (compEnvC scope cl C X.env) fp) tg g dg) (ht : ∀ (s : Shared) (H : Hp) (C : Addr) (cl : List (Str × Addr)) (fp : List Addr), DTs (X.blk s H scope (compEnvC scope cl C X.env) fp) ifs tt dt)
    (hi1 : ∀ (s : Shared) (H : Hp) (C : Addr) (cl : List (Str × Addr)) (fp : List Addr), DI (X.blk s H scope (compEnvC scope cl C X.env) fp) tg1 iter1 wi1 ti1)
    (hg1 : ∀ (s : Shared) (H : Hp) (C : Addr) (cl : List (Str × Addr)) (fp : List Addr), DG (X.blk s H scope (compEnvC scope cl C X.env) fp) tg1 g1 dg1) (ht1 : ∀ (s : Shared) (H : Hp) (C : Addr) (cl : List (Str × Addr)) (fp : List Addr), DTs (X.blk s H scope (compEnvC scope cl C X.env) fp) ifs1 tt1 dt1)
    (he : ∀ (s : Shared) (H : Hp) (C : Addr) (cl : List (Str × Addr)) (fp : List Addr), DE (X.blk s H scope (compEnvC scope cl C X.env) fp) elt te de) (hN : X.N.Nodup) (hc : X.calm = true := by rfl) (hs : ∀ x, foldedSetIterable iter X.env x = pure x := by intro _; rfl) (hs1 : ∀ env x, foldedSetIterable iter1 env x = pure x := by intro _ _; rfl) :
    DE X (.ListComp elt [⟨tg, iter, ifs, 0⟩, ⟨tg1, iter1, ifs1, 0⟩] scope pos) (tLc2 wi g tt wi1 g1 tt1 te vs vs1) (dLc2 ti dg dt ti1 dg1 dt1 de vs vs1) := by subst hv; exact de_lc2 own vs1 hi ok hv1 hw hw1 hg ht hi1 hg1 ht1 he hN hc hs hs1
end
end DL

namespace DL
open PySem L2
/-! ### enumerate, zip -/
def enumD (xs : List D) : List D := xs.mapIdx fun i x => .tup [.int (i : Nat), x]
def iEn (t : TDA) : TDI := fun ρ m F => t ρ m fun ds m1 => on1 ds fun d => match d with
  | .tup xs => F (enumD xs) (fun _ => True) m1
  | .lst xs => F (enumD xs) (fun _ => True) m1
  | .ref k => ∃ xs, m1 k = some (.lst xs) ∧ F (enumD xs) (fun m2 => m2 k = some (.lst xs)) m1
  | _ => False
section
variable {X : Cx} {K : PySem.W.Frag}
theorem pair_new {W : Wd} {m : Mu} {H : Hp} {T : Addr} {i : Nat} {x : D} {v : V} (h : Held K W m H) (r : Rep K W x v) (hp : H T = none) : ∃ W2, Stp K W m H W2 m (upd H T (.tup [.int (i : Nat), v])) ∧ Rep K W2 (.tup [.int (i : Nat), x]) (.ref T) :=
  ⟨_, (tup_new h (.cons (.int _) (.cons r .nil)) hp).1, (tup_new h (.cons (.int _) (.cons r .nil)) hp).2⟩
theorem enum_get {xs : List D} {i : Nat} {d : D} (h : (enumD xs)[i]? = some d) : ∃ x, xs[i]? = some x ∧ d = .tup [.int (i : Nat), x] := by
  unfold enumD at h
  rw [List.getElem?_mapIdx] at h
  cases q : xs[i]? with
  | none => rw [q] at h; cases h
  | some x => rw [q] at h; exact ⟨x, rfl, (Option.some.inj h).symm⟩
theorem enum_len (xs : List D) : (enumD xs).length = xs.length := List.length_mapIdx
theorem di_en {e : Expr} {ta : TA} {da : TDA} {p pos tpos : Pos} {elts : List Expr} {kk : Nat} (hK : X.K = K) (hg : Gl X "enumerate") (hm : X.mg "enumerate" = none) (ha : DA X [e] ta da) (hs : starEach [e] X.env = [(false, eval e X.env)] := by rfl) :
    DI X (.Tuple elts kk tpos) (.Call (.Name "enumerate" p) [e] [] pos) (DN.iEnumA K ta) (iEn da) := by
  subst hK
  refine ⟨DN.pi_enumA hg hm ha.pa hs, fun σ H W ρ m F R hh re hd q => ha.up σ H W ρ m _ _ hh re hd fun vs H1 ds W1 m1 s1 r1 h1 => ?_⟩
  obtain ⟨d, rfl, h1⟩ := on1_ex h1
  obtain ⟨v, rfl, rv⟩ := repL_one r1
  cases rv with
  | @tup xs p vs hp rr =>
    have hp1 := s1.held.G _ _ hp
    refine .inr ⟨p, vs, rfl, .inl (.inl hp1), q _ H1 W1 m1 _ _ s1 (fun i H2 W2 m2 le2 hh2 _ => ?_) h1⟩
    have hp2 := hh2.G _ _ (le2.G _ _ hp)
    have sq2 : SqT X.K H2 p vs := .inl (.inl hp2)
    have rl := rr.length
    refine ⟨fun hi => ⟨vs, sq2, by rw [enum_len] at hi; omega⟩, fun d hd => ?_⟩
    obtain ⟨x, hx, rfl⟩ := enum_get hd
    obtain ⟨v, hv, rx⟩ := rr.get' hx
    refine ⟨⟨vs, v, sq2, hv⟩, fun y H3 ⟨T, v2, e1, e2, e3, e4⟩ => ?_⟩
    subst e1 e3
    have := e4 vs sq2
    rw [hv] at this; cases this
    exact pair_new hh2 (rx.mono le2) e2
  | @lst xs p vs hp rr =>
    have hp1 := s1.held.G _ _ hp
    refine .inl ⟨p, vs, rfl, .inl (.inl hp1), q _ H1 W1 m1 _ _ s1 (fun i H2 W2 m2 le2 hh2 _ => ?_) h1⟩
    have hp2 := hh2.G _ _ (le2.G _ _ hp)
    have sq2 : SqL X.K H2 p vs := .inl (.inl hp2)
    have rl := rr.length
    refine ⟨fun hi => ⟨vs, sq2, by rw [enum_len] at hi; omega⟩, fun d hd => ?_⟩
    obtain ⟨x, hx, rfl⟩ := enum_get hd
    obtain ⟨v, hv, rx⟩ := rr.get' hx
    refine ⟨⟨vs, v, sq2, hv⟩, fun y H3 ⟨T, v2, e1, e2, e3, e4⟩ => ?_⟩
    subst e1 e3
    have := e4 vs sq2
    rw [hv] at this; cases this
    exact pair_new hh2 (rx.mono le2) e2
  | @ref k hk =>
    obtain ⟨xs, hm1, h1⟩ := h1
    obtain ⟨hk1, _, ho, h3, vs, rfl, rr⟩ := s1.held.ob k _ hm1
    refine .inl ⟨W1.th k, vs, rfl, .inl (.inl h3), q _ H1 W1 m1 _ _ s1 (fun i H2 W2 m2 le2 hh2 hst => ?_) h1⟩
    obtain ⟨_, _, ho2, h4, vs2, rfl, rr2⟩ := hh2.ob k _ hst
    rw [le2.th k hk1] at h4
    have sq2 : SqL X.K H2 (W1.th k) vs2 := .inl (.inl h4)
    have rl := rr2.length
    refine ⟨fun hi => ⟨vs2, sq2, by rw [enum_len] at hi; omega⟩, fun d hd => ?_⟩
    obtain ⟨x, hx, rfl⟩ := enum_get hd
    obtain ⟨v, hv, rx⟩ := rr2.get' hx
    refine ⟨⟨vs2, v, sq2, hv⟩, fun y H3 ⟨T, v2, e1, e2, e3, e4⟩ => ?_⟩
    subst e1 e3
    have := e4 vs2 sq2
    rw [hv] at this; cases this
    exact pair_new hh2 rx e2
  | _ => exact h1.elim
end
/-! ### {k: v for ..} -/
def dcRun (stay : Mu → Prop) (body : D → List (Key × D) → Mu → (List (Key × D) → Mu → Prop) → Prop) : List D → List (Key × D) → Mu → (List (Key × D) → Mu → Prop) → Prop
  | [], acc, m, k => stay m ∧ k acc m
  | d :: r, acc, m, k => stay m ∧ body d acc m fun acc2 m2 => dcRun stay body r acc2 m2 k
theorem dc_st {stay : Mu → Prop} {body : D → List (Key × D) → Mu → (List (Key × D) → Mu → Prop) → Prop} {ds : List D} {acc : List (Key × D)} {m : Mu} {k : List (Key × D) → Mu → Prop} (h : dcRun stay body ds acc m k) : stay m := by
  cases ds with
  | nil => exact h.1
  | cons _ _ => exact h.1
def dcBody (g : TDG) (tt : TDT) (tk tv : TD) (ρ : REnv) (d : D) (acc : List (Key × D)) (m : Mu) (k : List (Key × D) → Mu → Prop) : Prop := g d ρ m fun ρ2 m2 => tt ρ2 m2 fun b m3 => Br b (tk ρ2 m3 fun y m4 => tv ρ2 m4 fun z m5 => onO (keyOf y) fun key => acc.length < sizeLine ∧ k (dput acc key z) m5) (k acc m3)
def dDc (ti : TDI) (g : TDG) (tt : TDT) (tk tv : TD) (vs : List Nat) : TD := fun ρ m F => ti ρ m fun ds stay m1 => dcRun stay (dcBody g tt tk tv (wipeD ρ vs)) ds [] m1 fun acc m2 => New (.dK acc) m2 F
theorem le_dc {K : PySem.W.Frag} {wi : TI} {ti : TDI} {g : TG} {dg : TDG} {tt : TT} {dt : TDT} {tk tv : TE} {dk dv : TD} {vs : List Nat} (hi : LI K wi ti) (hg : LG K g dg) (hw : GW g vs) (ht : LT K tt dt) (hk : LE K tk dk) (he : LE K tv dv) : LE K (tDc wi g tt tk tv vs) (dDc ti dg dt dk dv vs) :=
  fun σ H W ρ m F Q hh re h q => hi σ H W ρ m _ _ hh re h fun J H1 W1 m1 ds stay s1 ok h0 => by
    let P : Nat → List (Key × D) → Mu → Prop := fun i acc m' => dcRun stay (dcBody dg dt dk dv (wipeD ρ vs)) (ds.drop i) acc m' fun acc m2 => New (.dK acc) m2 F
    have p0 : P 0 [] m1 := h0
    have pst : ∀ i acc m', P i acc m' → stay m' := fun i acc m' p => dc_st p
    have turn : ∀ i d acc m', ds[i]? = some d → P i acc m' → dcBody dg dt dk dv (wipeD ρ vs) d acc m' (P (i + 1)) := fun i d acc m' e p => by
      have p : dcRun stay _ (ds.drop i) acc m' _ := p
      obtain ⟨hl, e⟩ := List.getElem?_eq_some_iff.mp e
      rw [List.drop_eq_getElem_cons hl, e] at p
      exact p.2
    have fin : ∀ acc m', P ds.length acc m' → New (.dK acc) m' F := fun acc m' p => by
      have p : dcRun stay _ (ds.drop ds.length) acc m' _ := p
      rw [List.drop_of_length_le (Nat.le_refl _)] at p
      exact p.2
    intro A hA
    refine ⟨fun i k H' => k = ds.length - i ∧ i ≤ ds.length ∧ ∃ W' m' acc avs, Stp K W m H W' m' (hide H' A) ∧ Le W1 W' ∧ H' A = some (.dK avs) ∧ (avs.map (·.1) = acc.map (·.1) ∧ RepL K W' (acc.map (·.2)) (avs.map (·.2))) ∧ P i acc m', ⟨ds.length, by simp, Nat.zero_le _, W1, m1, [], [], ?_, .refl _, upd_same, ⟨rfl, .nil⟩, p0⟩, ?_⟩
    · rw [hide_upd, hide_none hA]; exact s1
    rintro i k H' ⟨rfl, hil, W', m', acc, avs, s', le', hA', ⟨ek, ra⟩, p'⟩
    have hh' := s'.held.unhide
    obtain ⟨stp, go⟩ := ok i H' W' m' le' hh' (pst i acc m' p')
    by_cases hlt : i < ds.length
    · obtain ⟨hgo, hy⟩ := go _ (List.getElem?_eq_getElem hlt)
      refine .inr ⟨hgo, fun H2 => ∃ W2 m2 acc2 avs2, Stp K W m H W2 m2 (hide H2 A) ∧ Le W1 W2 ∧ H2 A = some (.dK avs2) ∧ (avs2.map (·.1) = acc2.map (·.1) ∧ RepL K W2 (acc2.map (·.2)) (avs2.map (·.2))) ∧ P (i + 1) acc2 m2, fun H2 z => ⟨ds.length - (i + 1), by omega, rfl, hlt, z⟩, fun x H2 y => ?_⟩
      obtain ⟨W2, s2, rx⟩ := hy x H2 y
      obtain ⟨hA2, t2⟩ := s2.aside s'.held hA'
      have s02 := s'.trans hh t2
      refine hw x σ H2 _ (hg (wipe σ vs) H2 W2 (wipeD ρ vs) m' _ x _ _ s2.held (wipe_rep (re.mono s02.le) vs) rx (turn i _ acc m' (List.getElem?_eq_getElem hlt) p') fun σ3 H3 W3 ρ3 m3 s3 re3 f3 => ?_)
      obtain ⟨hA3, t3⟩ := s3.aside t2.held hA2
      have s03 := s02.trans hh t3
      refine ht σ3 H3 W3 ρ3 m3 _ _ s3.held re3 f3 fun b H4 W4 m4 s4 f4 => ?_
      obtain ⟨hA4, t4⟩ := s4.aside t3.held hA3
      have s04 := s03.trans hh t4
      have le4 := ((le'.trans s2.le).trans s3.le).trans s4.le
      have le24 := (s2.le.trans s3.le).trans s4.le
      cases b with
      | false =>
        show ∃ W2 m2 acc2 avs2, _
        exact ⟨W4, m4, acc, avs, s04, le4, hA4, ⟨ek, ra.mono le24⟩, f4.2 rfl⟩
      | true =>
        show tk σ3 H4 _
        refine hk σ3 H4 W4 ρ3 m4 _ _ s4.held (re3.mono s4.le) (f4.1 rfl) fun yv H5 y W5 m5 s5 r5 f5 => ?_
        obtain ⟨hA5, t5⟩ := s5.aside t4.held hA4
        have s05 := s04.trans hh t5
        refine he σ3 H5 W5 ρ3 m5 _ _ s5.held (re3.mono (s4.le.trans s5.le)) f5 fun zv H6 z W6 m6 s6 r6 f6 => ?_
        obtain ⟨hA6, t6⟩ := s6.aside t5.held hA5
        obtain ⟨key, ekey, hl, f7⟩ := onO_ex f6
        have eyv := key_rep (r5.mono s6.le) ekey
        obtain ⟨e2, r2⟩ := put_rep (k := key) ek (ra.mono ((le24.trans s5.le).trans s6.le)) r6
        have lv : avs.length = acc.length := by have := congrArg List.length ek; simpa using this
        refine ⟨avs, key, eyv, hA6, by omega, W6, m6, dput acc key z, putK avs key zv, ?_, (le4.trans s5.le).trans s6.le, upd_same, ⟨e2, r2⟩, f7⟩
        rw [hide_upd]; exact s05.trans hh t6
    · have e : i = ds.length := by omega
      subst e
      refine .inl ⟨stp (Nat.le_refl _), ?_⟩
      have fq := new_ok s'.held (o := .dK acc) (ho := .dK avs) ⟨avs, rfl, ek, ra⟩ (fin acc m' p') (fun v H' d W' m' s2 r2 f => q v H' d W' m' (s'.trans hh s2) r2 f) (p := A) hide_same
      rw [upd_hide hA'] at fq
      exact fq
section
variable {X : Cx} {kx vx tg iter : Expr} {ifs : List Expr} {scope : Scope} {pos : Pos} {wi : TI} {ti : TDI} {g : TG} {dg : TDG} {tt : TT} {dt : TDT} {tk tv : TE} {dk dv : TD} {vs : List Nat}
theorem de_dcV (own : List (Str × Nat)) (hv : own.map (·.2) = vs) (hi : DI X tg iter wi ti) (ok : BlkOk X.N X.env.scope scope own) (hw : GW g vs)
    (hg : ∀ (s : Shared) (H : Hp) (C : Addr) (cl : List (Str × Addr)) (fp : List Addr), DG (X.blk s H scope (compEnvC scope cl C X.env) fp) tg g dg) (ht : ∀ (s : Shared) (H : Hp) (C : Addr) (cl : List (Str × Addr)) (fp : List Addr), DTs (X.blk s H scope (compEnvC scope cl C X.env) fp) ifs tt dt)
    (hk : ∀ (s : Shared) (H : Hp) (C : Addr) (cl : List (Str × Addr)) (fp : List Addr), DE (X.blk s H scope (compEnvC scope cl C X.env) fp) kx tk dk)
    (he : ∀ (s : Shared) (H : Hp) (C : Addr) (cl : List (Str × Addr)) (fp : List Addr), DE (X.blk s H scope (compEnvC scope cl C X.env) fp) vx tv dv) (hN : X.N.Nodup) (hc : X.calm = true := by rfl) (hs : ∀ x, foldedSetIterable iter X.env x = pure x := by intro _; rfl) :
    DE X (.DictComp kx vx [⟨tg, iter, ifs, 0⟩] scope pos) (tDc wi g tt tk tv vs) (dDc ti dg dt dk dv vs) := by
  subst hv
  exact ⟨pe_dc hc hN hi.pi ok (fun s H C cl fp => (hg s H C cl fp).pg) (fun s H C cl fp => (ht s H C cl fp).pt) (fun s H C cl fp => (hk s H C cl fp).pe) (fun s H C cl fp => (he s H C cl fp).pe) hs, le_dc hi.up (hg X.s_0 X.H_0 0 [] []).up hw (ht X.s_0 X.H_0 0 [] []).up (hk X.s_0 X.H_0 0 [] []).up (he X.s_0 X.H_0 0 [] []).up⟩
end
end DL

/-! Plain facts of data: likeness, slices, fresh numbers, ends of defs. -/
namespace DL
open PySem L2 DM
mutual
def tidy : D → Bool
  | .non => true
  | .int _ => true
  | .str _ => true
  | .lst xs => tidys xs
  | .tup xs => tidys xs
  | _ => false
def tidys : List D → Bool
  | [] => true
  | d :: ds => tidy d && tidys ds
end
theorem tidys_all : ∀ {xs : List D}, tidys xs = true ↔ ∀ x ∈ xs, tidy x = true
  | [] => by simp [tidys]
  | x :: xs => by
    rw [tidys, Bool.and_eq_true, tidys_all (xs := xs)]
    simp
mutual
theorem eqv_iff : ∀ (x y : D), tidy x = true → tidy y = true → (PyData.eqv (toP x) (toP y) = true ↔ x = y)
  | .non, y, _, hy => by cases y <;> simp_all [tidy, toP, PyData.eqv]
  | .int i, y, _, hy => by cases y <;> simp_all [tidy, toP, PyData.eqv]
  | .str i, y, _, hy => by cases y <;> simp_all [tidy, toP, PyData.eqv]
  | .lst xs, y, hx, hy => by
    cases y with
    | lst ys =>
      have h := eqvs_iff xs ys (by simpa [tidy] using hx) (by simpa [tidy] using hy)
      simpa [toP, PyData.eqv] using h
    | _ => simp_all [tidy, toP, PyData.eqv]
  | .tup xs, y, hx, hy => by
    cases y with
    | tup ys =>
      have h := eqvs_iff xs ys (by simpa [tidy] using hx) (by simpa [tidy] using hy)
      simpa [toP, PyData.eqv] using h
    | _ => simp_all [tidy, toP, PyData.eqv]
  | .bl _, _, h, _ => by simp [tidy] at h
  | .dK _ _, _, h, _ => by simp [tidy] at h
  | .dT _ _, _, h, _ => by simp [tidy] at h
  | .ins _ _ _, _, h, _ => by simp [tidy] at h
  | .ref _, _, h, _ => by simp [tidy] at h
  | .scr _, _, h, _ => by simp [tidy] at h
  | .opq _, _, h, _ => by simp [tidy] at h
theorem eqvs_iff : ∀ (xs ys : List D), tidys xs = true → tidys ys = true → (PyData.eqvAll (toPs xs) (toPs ys) = true ↔ xs = ys)
  | [], [], _, _ => by simp [toPs, PyData.eqvAll]
  | [], _ :: _, _, _ => by simp [toPs, PyData.eqvAll]
  | _ :: _, [], _, _ => by simp [toPs, PyData.eqvAll]
  | x :: xs, y :: ys, hx, hy => by
    rw [tidys, Bool.and_eq_true] at hx hy
    rw [toPs, toPs, PyData.eqvAll, Bool.and_eq_true, eqv_iff x y hx.1 hy.1, eqvs_iff xs ys hx.2 hy.2, List.cons.injEq]
end
theorem eqD_t {x y : D} (h : x = y) (hx : tidy x = true) : eqD x y = true := by subst h; exact (eqv_iff x x hx hx).mpr rfl
theorem eqD_f {x y : D} (h : x ≠ y) (hx : tidy x = true) (hy : tidy y = true) : eqD x y = false := by
  cases e : eqD x y with
  | false => rfl
  | true => exact absurd ((eqv_iff x y hx hy).mp e) h
/-- within a depth -/
def Ok (n : Nat) (d : D) : Prop := isP d = true ∧ (toP d).depth ≤ n
theorem Ok.P {n : Nat} {d : D} (h : Ok n d) (hn : n ≤ 64 := by decide) : okP d := ⟨h.1, Nat.le_trans h.2 hn⟩
theorem ok_int {n : Nat} {i : Int} : Ok n (.int i) := ⟨rfl, Nat.zero_le _⟩
theorem ok_str {n : Nat} {s : Str} (h : PyData.strOk s = true) : Ok n (.str s) := ⟨h, Nat.zero_le _⟩
theorem oks_all {n : Nat} : ∀ {xs : List D}, (∀ x ∈ xs, Ok n x) → isPs xs = true ∧ PyData.depthAll (toPs xs) ≤ n
  | [], _ => ⟨rfl, Nat.zero_le _⟩
  | x :: xs, h => by
    obtain ⟨a, b⟩ := oks_all (xs := xs) fun y hy => h y (List.mem_cons_of_mem _ hy)
    have c := h x List.mem_cons_self
    refine ⟨by rw [isPs, c.1, a]; rfl, ?_⟩
    rw [toPs, PyData.depthAll]
    exact Nat.max_le.mpr ⟨c.2, b⟩
theorem ok_lst {n : Nat} {xs : List D} (h : ∀ x ∈ xs, Ok n x) : Ok (n + 1) (.lst xs) := by
  obtain ⟨a, b⟩ := oks_all h
  exact ⟨by rw [isP]; exact a, by rw [toP, PyData.depth]; omega⟩
theorem ok_tup {n : Nat} {xs : List D} (h : ∀ x ∈ xs, Ok n x) : Ok (n + 1) (.tup xs) := by
  obtain ⟨a, b⟩ := oks_all h
  exact ⟨by rw [isP]; exact a, by rw [toP, PyData.depth]; omega⟩
theorem tidy_strs (ss : List Str) : tidys (ss.map D.str) = true := tidys_all.mpr fun x hx => by
  obtain ⟨s, _, rfl⟩ := List.mem_map.mp hx
  rfl
theorem ok_strs {n : Nat} {ss : List Str} (h : ∀ s ∈ ss, PyData.strOk s = true) : ∀ x ∈ ss.map D.str, Ok n x := fun x hx => by
  obtain ⟨s, hs, rfl⟩ := List.mem_map.mp hx
  exact ok_str (h s hs)
theorem strs_inj {a b : List Str} : a.map D.str = b.map D.str ↔ a = b := by
  constructor
  · intro h
    exact List.map_inj_right (f := D.str) (fun x y e => D.str.inj e) |>.mp h
  · intro h; rw [h]
/-! ### the places of a slice -/
theorem sIx_n {n d k : Nat} (h : k ≤ n) : HT.sIx n d (some (k : Int)) = k := by rw [HT.sIx_nat]; omega
theorem cut_lo {xs : List D} {k : Nat} (h : k ≤ xs.length) : cutD xs (some (k : Int)) none = xs.drop k := by
  unfold cutD
  rw [sIx_n h, HT.sIx_none]
  rw [List.take_of_length_le (by rw [List.length_drop]; omega)]
theorem cut_hi {xs : List D} {k : Nat} : cutD xs none (some (k : Int)) = xs.take k := by
  unfold cutD
  rw [HT.sIx_none, HT.sIx_nat, List.drop_zero, Nat.sub_zero]
  by_cases h : k ≤ xs.length
  · rw [Nat.min_eq_left h]
  · rw [Nat.min_eq_right (by omega), List.take_length, List.take_of_length_le (by omega)]
theorem cut_mid {xs : List D} {i j : Nat} : cutD xs (some (i : Int)) (some (j : Int)) = (xs.drop i).take (j - i) := by
  unfold cutD
  rw [HT.sIx_nat, HT.sIx_nat]
  by_cases h : i ≤ xs.length
  · rw [Nat.min_eq_left h]
    by_cases h2 : j ≤ xs.length
    · rw [Nat.min_eq_left h2]
    · rw [Nat.min_eq_right (by omega), List.take_of_length_le (by rw [List.length_drop]; omega), List.take_of_length_le (by rw [List.length_drop]; omega)]
  · rw [List.drop_of_length_le (by omega), List.drop_of_length_le (by omega), List.take_nil, List.take_nil]
theorem atI_n {α : Type} {xs : List α} {k : Nat} {x : α} (h : xs[k]? = some x) : atI xs (k : Int) = some x := by
  obtain ⟨hl, _⟩ := List.getElem?_eq_some_iff.mp h
  unfold atI ixN
  rw [if_pos (by omega), if_pos (by omega)]
  exact h
/-! ### ends -/
theorem sub_mset {m : Mu} {k : Nat} {o : MO} (h : m k = none) : Sub m (mset m k o) := fun j u e => by
  rw [mset_ne (fun z => by rw [z, h] at e; cases e)]; exact e
theorem mset_comm {m : Mu} {j k : Nat} {a b : MO} (h : j ≠ k) : mset (mset m j a) k b = mset (mset m k b) j a := by
  funext i
  unfold mset
  by_cases h1 : i = k
  · by_cases h2 : i = j
    · exact absurd (h2.symm.trans h1) h
    · simp [h1, Ne.symm h]
  · by_cases h2 : i = j
    · subst h2; simp [h]
    · simp [h1, h2]
/-- an object of one's own is forgotten at the end -/
theorem fin_drop {F : DK} {d : D} {m m' : Mu} (hs : Sub m' m) (h : F d m') : Fin F d m := .inl ⟨m', hs, h⟩
/-- an object of one's own is handed back settled, the others are forgotten -/
theorem fin_set {F : DK} {k : Nat} {o : MO} {m m' : Mu} (hk : m k = some o) (h0 : m' k = none) (hs : Sub m' m) (h : F (settle o) m') : Fin F (.ref k) m := .inr ⟨k, o, m', rfl, hk, h0, hs, h⟩
/-! ### instances made: behind __init__ the new one is settled -/
theorem make_settled {F : DK} {m : Mu} {j : Nat} {o : MO} (hj : m j = none) (h : F (settle o) m) : Fin F (.ref j) (mset m j o) := .inr ⟨j, o, m, rfl, mset_same, hj, sub_mset hj, h⟩
end DL

/-! Promises for defs that show things: no container is being shown around them. -/
namespace DL
open PySem PySem.Spec PyProof.Rows L2
/-- FnOk where no repr is under way -/
structure FnG (P : Program) (w : World) (K : PySem.W.Frag) (mg : Str → Option Value) (base : Heap) (k : Nat) (f : Addr) (fd : FuncData) (ps : List Str) (sp : Sp) : Prop where
  len : ∀ vs H Q E, sp vs H Q E → vs.length = ps.length
  run : ∀ (A : Around) (outer : List Env) (s : Shared) (H : Hp) (args : Args) (us : List Value) (vs : List V) (Q : VK) (E : XK), A.guards = some [] → Room k A → Env0 P w K mg base A outer s H → BindsTo s fd args (ps.zip us) → Vals vs us → sp vs H Q E →
    codeAny (model P w) A (.call (.ref f) args) (CR CX0 outer P w H s Q E) s
theorem deeper_guards {A : Around} {env : Env} (h : A.guards = some []) : (A.deeper env).guards = some [] := h
section
variable {P : Program} {w : World} {K : PySem.W.Frag} {mg : Str → Option Value} {base : Heap} {x qual : Str} {params : Arguments} {body : List Stmt} {scope : Scope} {dvs : List V} {kws : List (Str × V)} {f : Addr} {fd : FuncData}
/-- the body's derivation under the guard's knowledge -/
theorem okG {N ps : List Str} {k : Nat} {sp : Sp} (F : FunD K x qual params body scope dvs kws f fd) (S : FnScope N ps scope) (len : ∀ vs H Q E, sp vs H Q E → vs.length = ps.length)
    (hbody : ∀ (cdv : Value) (A : Around) (outer : List Env) (s : Shared) (H : Hp) (vs : List V) (Q : VK) (E : XK), (A.deeper (envOfC qual scope s.heap.objs.size f cdv)).guards = some [] → Room k (A.deeper (envOfC qual scope s.heap.objs.size f cdv)) → sp vs H Q E →
      ∃ t, PSs (cxOf CX0 P w K mg base N qual scope f cdv A outer s H E) body t ∧ t { nx := fun _ H' => Q .non H', rt := Q } (L2.start N vs) H) : FnG P w K mg base (k + 1) f fd ps sp := by
  obtain ⟨oc, od, dV, kV, doc, pm, an, cdv, ct, osl, rfl, lk, hcd, _, _⟩ := F.ex
  refine ⟨len, fun A outer s H args us vs Q E hg hr e0 hb r hsp => ?_⟩
  -- the one Around at hand: a promise over it alone is enough for the rule that is there, asked at a world of one Around
  have one : ∀ (A' : Around) (outer' : List Env) (s' : Shared) (H' : Hp) (vs' : List V) (Q' : VK) (E' : XK), A'.guards = some [] → Room k (A'.deeper (envOfC qual scope s'.heap.objs.size f cdv)) → sp vs' H' Q' E' →
      ∃ t, PSs (cxOf CX0 P w K mg base N qual scope f cdv A' outer' s' H' E') body t ∧ t { nx := fun _ H'' => Q' .non H'', rt := Q' } (L2.start N vs') H' := fun A' outer' s' H' vs' Q' E' g' r' h' => hbody cdv A' outer' s' H' vs' Q' E' (deeper_guards g') r' h'
  have hl := len _ _ _ _ hsp
  have KX : K.In s.heap := e0.mod.kin.keeps fun b o e => (e0.bs b o e).1
  have lim : s.heap.NoLimit := e0.mod.nolimit.keeps fun b o e => (e0.bs b o e).1
  have kinds : ∀ y ∈ ps.zip us, scope.names.lookup y.1 = some .local ∨ (scope.names.lookup y.1 = some .cell ∧ ((cellsFrom (s.heap.objs.size + 1) scope.names []).lookup y.1).isSome = true) := fun y hy => by
    obtain ⟨n, v⟩ := y
    exact (S.par n (List.of_mem_zip hy).1).imp id fun q => ⟨q, PySem.W.cellsFrom_some _ _ _ (.inl q)⟩
  refine codeAny_call_function hr.depth (KX _ _ lk) rfl S.co S.gen rfl (PySem.W.codeRec_of KX hcd) (hb _ _ _ _ (wpAny_newFunctionEnv_cells S.kind kinds fun env he s1 x => ?_))
  subst he
  obtain ⟨t, ht, hq⟩ := one A outer s H vs Q E hg (hr.deeper _) hsp
  have I : Inv (cxOf CX0 P w K mg base N qual scope f cdv A outer s H E) [] (L2.start N vs) H s1 := inv_start S hr.hd e0 hl r x
  refine ⟨lim.keeps x.toInCall.keep, codeAny_func (wpAny_mono (ht.run [] s1 (L2.start N vs) H _ I hq) (fun fl s' hs => ?_) fun e s' hs => hs)⟩
  cases fl with
  | ret u =>
    obtain ⟨v, σ', H', J, rv, q⟩ := hs
    exact ⟨v, H', J.os, J.bare, J.base, J.hok, rv, q⟩
  | next =>
    obtain ⟨σ', H', J, q⟩ := hs
    exact ⟨V.non, H', J.os, J.bare, J.base, J.hok, rfl, q⟩
  | brk => exact hs.elim fun _ h => h.elim fun _ h => h.2.elim
  | cont => exact hs.elim fun _ h => h.elim fun _ h => h.2.elim
/-- a plain promise is one of these -/
theorem FnG.of {k : Nat} {ps : List Str} {sp : Sp} (F : FnOk P w K mg base CX0 k f fd ps sp) : FnG P w K mg base k f fd ps sp := ⟨F.len, fun A outer s H args us vs Q E _ => F.run A outer s H args us vs Q E⟩
end
section
variable {X : Cx} {k : Nat} {f : Addr} {fd : FuncData} {ps : List Str} {sp : Sp} {x : Str} {p pos : Pos} {e : Expr} {es : List Expr} {t : TA} {ds : List Value} {dvs : List V} {E : XK}
theorem run_fnG {pins : List (Addr × Obj)} {σ : L2.St} {H : Hp} {s : Shared} {Q : VK} {us : List Value} {vs : List V} (F : FnG X.prog X.w X.K X.mg X.base k f fd ps sp) (hg : X.A.guards = some []) (hr : Room k X.A) (hb : Binds X.K fd ps ds) (hd : Vals dvs ds) (hx : Passes CX0 X E)
    (I : Inv X pins σ H s) (r : Vals vs us) (h : sp (vs ++ dvs) H Q E) : wpAny (model X.prog X.w) X.A (call (.ref f) us) (EP X pins σ Q) X.xe s := by
  have r2 : Vals (vs ++ dvs) (us ++ ds) := r.append hd
  refine wpAny_call (codeAny_mono (F.run X.A X.stack s H ⟨us, []⟩ (us ++ ds) (vs ++ dvs) Q E hg hr I.env0 (hb s us I.kIn (by rw [← r2.length]; exact F.len _ _ _ _ h)) r2 h) fun r s' hq => ?_)
  cases r with
  | error e => exact hx pins σ H s e s' I hq
  | ok fl => cases fl with
    | ret u => exact I.after hq
    | _ => exact False.elim hq
theorem pe_callG (F : FnG X.prog X.w X.K X.mg X.base k f fd ps sp) (hgu : X.A.guards = some []) (hr : Room k X.A) (hg : Gl X x) (hm : X.mg x = some (.ref f)) (hk : PySem.W.keepIn X.K (.ref f) = true) (hb : Binds X.K fd ps ds) (hd : Vals dvs ds) (hx : Passes CX0 X E)
    (ha : PA X (e :: es) t) (hdb : (x == ("__debug__" : Str)) = false := by decide) (he : starEach (e :: es) X.env = (false, eval e X.env) :: starEach es X.env := by rfl) (hpl : (backTo pos (starEach es X.env)).any (·.1) = false := by rfl) :
    PE X (.Call (.Name x p) (e :: es) [] pos) (tCall sp dvs E t) :=
  ⟨fun pins s σ H Q I h => wpAny_Call_Name_kw (ld_glob I hg hm (PySem.W.callWith_K (h₀ := X.base) I.ok.mod.kin hk (thn (ha.run pos pins s σ H _ I h) fun us s1 ⟨vs, H1, I1, r, q⟩ => ⟨I1.kIn, run_fnG F hgu hr hb hd hx I1 r q⟩) he hpl) hdb)⟩
end
end DL

/-! The law's end over a promise with guards. -/
namespace DL
open PySem PySem.Spec PyProof.Rows L2
section
variable {P : Program} {w : World} {K : PySem.W.Frag} {mg mb : Str → Option Value} {k : Nat} {fa a : Addr} {fd : FuncData} {x : Str} {sp : Sp} {s₁ : Shared} {vs : List Value} {ns : List Int}
/-- the law's def called on the script, where H tracks nothing but the script -/
theorem law_at (KX : K.In s₁.heap) (hns : s₁.heap.Ns mainGlobals mg) (hb : s₁.heap.Ns builtinsNs mb) (hbb : ∀ x : Str, x ≠ "__name__" → mb x = bootBuiltins x) (hlim : s₁.heap.NoLimit) (hg : s₁.gens = #[])
    (ha : s₁.heap.get? a = some { cls := .type "list", data := .seq vs.toArray }) (hr : Room k callerA)
    (F : ∀ base : Heap, K.In base → base.Ns mainGlobals mg → FnG P w K mg base k fa fd [x] sp) (hbind : ∀ (s : Shared) (u : Value), BindsTo s fd ⟨[u], []⟩ [(x, u)])
    (H : Hp) (hO : Only H) (hsp : sp [.ref a] H (fun v _ => v = .bl true) fun _ _ _ => False) (hok : HOk P w H s₁.heap) (hA : ∀ b, H b ≠ none → b = a) (hK : H a ≠ none → K.lookup a = none) :
    codeAny (model P w) callerA (.call (.ref fa) ⟨[.ref a], []⟩) (fun r s' => r = .ok (.ret (.bool true)) ∧ OldK s₁.heap s'.heap ∧ s'.os = s₁.os ∧ AllBare s'.gens) s₁ := by
  have only_a : ∀ {b : Addr} {u : HO}, H b = some u → b = a := fun {b u} e => hA b (by rw [e]; exact fun z => nomatch z)
  -- a dict is not the script
  have free : ∀ {b : Addr} {o : Obj} {es : Array DictEntry} {ep : Nat}, s₁.heap.get? b = some o → o.data = .dict es ep → H b = none := fun {b o es ep} e d => by
    cases q : H b with
    | none => rfl
    | some u =>
      rw [only_a q, ha] at e
      cases e
      cases d
  have nsT : ∀ {b : Addr} {m : Str → Option Value}, s₁.heap.Ns b m → (hidT s₁.heap H).Ns b m := fun {b m} ⟨o, es, ep, e, d, r⟩ => ⟨o, es, ep, hidT_get e (free e d), d, r⟩
  have kT : K.In (hidT s₁.heap H) := fun b o e => hidT_get (KX b o e) (by
    cases q : H b with
    | none => rfl
    | some u =>
      have hb2 := only_a q
      rw [hb2] at e q
      rw [hK (by rw [q]; exact fun z => nomatch z)] at e
      cases e)
  obtain ⟨mc, l1, l2⟩ := hlim
  have e0 : Env0 P w K mg (hidT s₁.heap H) callerA [] s₁ H := ⟨rfl, ⟨kT, nsT hns, ⟨mb, nsT hb, hbb⟩, mc, nsT l1, l2⟩, fun b o e => of_hidT e, Nat.le_of_eq (hidT_size _ _), trivial, (fun b hb => nomatch (show b ∈ ([] : List Addr) from hb)), hok, .of_eq hg⟩
  refine codeAny_mono ((F _ kT (nsT hns)).run callerA [] s₁ H ⟨[.ref a], []⟩ [.ref a] [.ref a] _ _ rfl hr e0 (hbind s₁ (.ref a)) (.cons rfl .nil) hsp) fun r s' h => ?_
  cases r with
  | error e => exact (show False by simpa [CR, CX0] using h).elim
  | ok fl => cases fl with
    | ret u =>
      obtain ⟨v, H', os, bare, un, hok', r', q⟩ := h
      obtain rfl : v = .bl true := q
      obtain rfl : u = Value.bool true := r'
      refine ⟨rfl, OldK.of_keep fun b o e => ?_, os, bare⟩
      cases q : H b with
      | none => exact un.keep b o e q (fun z => nomatch (show b ∈ ([] : List Addr) from z)) (by simp)
      | some u =>
        rcases hO b with z | ⟨ob, xs, z⟩
        · rw [q] at z; cases z
        · obtain ⟨e1, _⟩ := hok b _ z
          obtain ⟨e2, _⟩ := hok' b _ (un.frzs b ob _ z)
          rw [e] at e1; cases e1
          exact e2
    | _ => exact False.elim h
/-- the same, H chosen: the script is tracked, or it is an object of the module -/
theorem law_callG (KX : K.In s₁.heap) (hns : s₁.heap.Ns mainGlobals mg) (hb : s₁.heap.Ns builtinsNs mb) (hbb : ∀ x : Str, x ≠ "__name__" → mb x = bootBuiltins x) (hlim : s₁.heap.NoLimit) (hg : s₁.gens = #[])
    (ha : s₁.heap.get? a = some { cls := .type "list", data := .seq vs.toArray }) (hi : IntsAre vs ns) (hl : ns.length ≤ sizeLine) (hr : Room k callerA)
    (F : ∀ base : Heap, K.In base → base.Ns mainGlobals mg → FnG P w K mg base k fa fd [x] sp) (hbind : ∀ (s : Shared) (u : Value), BindsTo s fd ⟨[u], []⟩ [(x, u)])
    (hsp : ∀ H : Hp, SqL K H a (ns.map V.int) → sp [.ref a] H (fun v _ => v = .bl true) fun _ _ _ => False) :
    codeAny (model P w) callerA (.call (.ref fa) ⟨[.ref a], []⟩) (fun r s' => r = .ok (.ret (.bool true)) ∧ OldK s₁.heap s'.heap ∧ s'.os = s₁.os ∧ AllBare s'.gens) s₁ := by
  have rv := vals_ints hi
  have lv := hi.length
  cases hk : K.lookup a with
  | some o =>
    have e := KX a o hk
    rw [ha] at e
    cases e
    exact law_at KX hns hb hbb hlim hg ha hr F hbind (fun _ => none) (fun _ => .inl rfl) (hsp _ (.inr ⟨_, vs.toArray, _, hk, rfl, rfl, rfl, by rw [List.size_toArray, lv]; exact hl, by simpa using rv⟩)) (fun b u z => nomatch z) (fun b z => absurd rfl z) fun z => absurd rfl z
  | none =>
    let H0 : Hp := fun b => if b = a then some (.frz { cls := .type "list", data := .seq vs.toArray } (.lst (ns.map V.int))) else none
    have h1 : ∀ {b : Addr}, b = a → H0 b = some (.frz { cls := .type "list", data := .seq vs.toArray } (.lst (ns.map V.int))) := fun e => if_pos e
    have h2 : ∀ {b : Addr}, b ≠ a → H0 b = none := fun e => if_neg e
    refine law_at KX hns hb hbb hlim hg ha hr F hbind H0 (fun b => ?_) (hsp _ (.inl (.inr ⟨_, h1 rfl⟩))) (fun b u z => ?_) (fun b z => ?_) fun _ => hk
    · by_cases e : b = a
      · exact .inr ⟨_, _, h1 e⟩
      · exact .inl (h2 e)
    · by_cases e : b = a
      · subst e
        have z' := (h1 rfl).symm.trans z
        cases z'
        exact ⟨ha, by rw [List.length_map]; exact hl, vs, _, rv, ha⟩
      · have z' := (h2 e).symm.trans z
        cases z'
    · exact Classical.byContradiction fun e => z (h2 e)
end
/-- the end of a law by such a promise -/
theorem walkG {l : PySem.W.OpenLaw} {n k : Nat} {q : Program} {loose : List Str} {XP : (Str → Option Value) → Heap → Prop} {YP : World → Heap → Prop} {d : DefRec} {x : Str}
    (hn : l.most = some n) (hn2 : n ≤ sizeLine) (hdf : d.params.defaults = []) (hr : Room k callerA)
    (F : ∀ (w : World) (mg : Str → Option Value) (fa : Addr) (h : Heap), YP w h → h.Ns mainGlobals mg → mg d.name = some (.ref fa) →
      ∃ (K : PySem.W.Frag) (fd : FuncData) (sp : Sp), K.In h ∧ (∀ (s : Shared) (u : Value), BindsTo s fd ⟨[u], []⟩ [(x, u)]) ∧
        (∀ (H : Hp) (a : Addr) (ns : List Int), ns.length ≤ n → SqL K H a (ns.map V.int) → sp [.ref a] H (fun v _ => v = .bl true) fun _ _ _ => False) ∧
        ∀ base : Heap, K.In base → base.Ns mainGlobals mg → FnG l.prog w K mg base k fa fd [x] sp) :
    PySem.W.WalkO q loose XP YP l.row.toRowW d [] (fun f vs => PySem.call f vs) :=
  Att.attach_call hn hdf fun w s₀ s₁ mg mb fa o pm cd doc a vs ns G Y ho hd hcd hmg hobj hints hlen hg => by
    obtain ⟨K, fd, sp, KX, hb, hsp, hF⟩ := F w mg fa _ Y G.T.g hmg
    exact law_callG KX G.T.g G.T.b G.T.builtins G.T.nolimit hg hobj hints (Nat.le_trans hlen hn2) hr hF hb fun H hS => hsp H a ns hlen hS
end DL

/-! repr of plain data where no repr is under way. -/
namespace DL
open PySem PySem.Spec PyProof.Rows L2
mutual
theorem no_dict : ∀ d : D, (toP d).hasDict = false
  | .non => rfl
  | .bl _ => rfl
  | .int _ => rfl
  | .str _ => rfl
  | .lst xs => by rw [toP, PyData.hasDict]; exact no_dicts xs
  | .tup xs => by rw [toP, PyData.hasDict]; exact no_dicts xs
  | .dK _ _ => rfl
  | .dT _ _ => rfl
  | .ins _ _ _ => rfl
  | .ref _ => rfl
  | .scr _ => rfl
  | .opq _ => rfl
theorem no_dicts : ∀ ds : List D, PyData.hasDictAll (toPs ds) = false
  | [] => rfl
  | d :: ds => by rw [toPs, PyData.hasDictAll, no_dict d, no_dicts ds]; rfl
end
def rRepr (K : PySem.W.Frag) : List V → Hp → VK → Prop := fun xs H Q => ∃ x d, xs = [x] ∧ Dp K H x d ∧ (d.showable = true ∧ d.hasDict = false ∧ d.depth ≤ 64 ∧ d.shown.length ≤ sizeLine) ∧ Q (.str d.shown) H
theorem cr_repr {X : Cx} (hg : X.A.guards = some []) (hu : X.A.units + 66 < cLine) : CallR X (.builtin "repr") (rRepr X.K) := by
  intro pins s σ H xs us Q I r h
  obtain ⟨x, d, rfl, hd, ⟨h1, h2, h3, h4⟩, q⟩ := h
  obtain ⟨u, rfl, ru⟩ := vals1 r
  obtain ⟨as, rd⟩ := Dp.reads I d x u hd ru
  have fin : ∀ (h' : Heap) (tk tk' : Nat), (∀ b o, s.heap.get? b = some o → h'.get? b = some o) → EP X pins σ Q (.str d.shown tk) { s with heap := h', toks := tk' } := fun h' tk tk' k => ⟨.str d.shown, H, I.kept k, ⟨_, rfl⟩, q⟩
  cases hd with
  | non => cases ru; exact PySem.P.repr_of_none (fin s.heap _ _ fun _ _ e => e)
  | bl b => cases ru; exact PySem.P.repr_of_bool (fin s.heap _ _ fun _ _ e => e)
  | int i =>
    obtain ⟨t, rfl⟩ := ru
    exact PySem.P.repr_of_int (of_decide_eq_true (by simpa only [PyData.showable] using h1)) (fin s.heap _ _ fun _ _ e => e)
  | str z =>
    obtain ⟨t, rfl⟩ := ru
    exact PySem.P.repr_of_str (fin s.heap _ _ fun _ _ e => e) (hsz := h4)
  | lst hs ha =>
    cases ru
    exact repr_of_reads' rd h1 (fun z => by rw [h2] at z; cases z) hg (by omega) (fun _ _ e => e) (fun h' u tk k => fin h' u tk k) h4
  | tup hs ha =>
    cases ru
    exact repr_of_reads' rd h1 (fun z => by rw [h2] at z; cases z) hg (by omega) (fun _ _ e => e) (fun h' u tk k => fin h' u tk k) h4
def reprR : RDA := fun ds m F => on1 ds fun d => vwE d m fun d' => (okP d' ∧ (toP d').showable = true ∧ (toP d').shown.length ≤ sizeLine) ∧ F (.str (toP d').shown) m
theorem lr_repr {K : PySem.W.Frag} : LRA K (rRepr K) reprR := fun H W m xs vs F Q hh r h q => by
  match xs, r, h with
  | [d], .cons r1 .nil, h =>
    obtain ⟨d', ⟨⟨o, s, l⟩, hf⟩, hd⟩ := vw_dp (d := d) (B := fun d' => (okP d' ∧ (toP d').showable = true ∧ (toP d').shown.length ≤ sizeLine) ∧ F (.str (toP d').shown) m) hh h r1
    exact ⟨_, _, rfl, hd o, ⟨s, no_dict d', o.2, l⟩, q _ _ _ _ _ (.refl hh) (.str _) hf⟩
theorem cr_reprK {X : Cx} {K : PySem.W.Frag} (hK : X.K = K) (hg : X.A.guards = some []) (hu : X.A.units + 66 < cLine) : CallR X (.builtin "repr") (rRepr K) := by subst hK; exact cr_repr hg hu
end DL

/-! defs and calls with guards, in the data logic. -/
namespace DL
open PySem L2
section
variable {P : Program} {w : World} {K : PySem.W.Frag} {mg : Str → Option Value} {base : Heap} {x qual : Str} {params : Arguments} {body : List Stmt} {scope : Scope} {dvs : List V} {kws : List (Str × V)} {f : Addr} {fd : FuncData}
theorem ok_byG {N ps : List Str} {k : Nat} {S : SpD} {t : TDS} (F : FunD K x qual params body scope dvs kws f fd) (sc : FnScope N ps scope) (len : ∀ ds m G, S ds m G → ds.length = ps.length)
    (der : ∀ (cdv : Value) (A : Around) (outer : List Env) (s : Shared) (H : Hp) (E : XK), (A.deeper (PyProof.Rows.envOfC qual scope s.heap.objs.size f cdv)).guards = some [] → Room k (A.deeper (PyProof.Rows.envOfC qual scope s.heap.objs.size f cdv)) → ∃ ts, DSs (cxOf CX0 P w K mg base N qual scope f cdv A outer s H E).nox body ts t)
    (pure_ : ∀ ds m G, S ds m G → t { nx := fun _ m' => Fin G .non m', rt := Fin G } (startD N.length ds) m) : FnG P w K mg base (k + 1) f fd ps (spD K S) := by
  refine okG F sc (fun vs H Q E h => ?_) (fun cdv A outer s H vs Q E hg hr h => ?_)
  · obtain ⟨W, m, ds, G, _, r, hs, _⟩ := h
    rw [← r.length, len ds m G hs]
  · obtain ⟨W, m, ds, G, hh, r, hs, q⟩ := h
    obtain ⟨ts, d⟩ := der cdv A outer s H E hg hr
    have fi : ∀ (v : V) (H' : Hp) (d : D) (W' : Wd) (m' : Mu), Stp K W m H W' m' H' → Rep K W' d v → Fin G d m' → Q v H' := fun v H' d W' m' s' r' hf => by
      rcases hf with ⟨m2, hsub, hf⟩ | ⟨k2, o, m2, rfl, hk, hk2, hsub, hf⟩
      · exact q v H' d W' m2 (s'.trans hh (step_drop s'.held hsub)) r' hf
      · obtain ⟨W2, s2, r2⟩ := step_settle s'.held hk hk2 hsub
        cases r'
        exact q _ H' _ W2 m2 (s'.trans hh s2) r2 hf
    exact ⟨ts, d.ps.nox, d.up (L2.start N vs) H W (startD N.length ds) m _ _ hh (start_rep r) (pure_ ds m G hs) (fun σ' H' W' ρ' m' s' _ hf => fi _ _ _ _ _ s' .non hf) fi (fun _ _ _ _ _ _ _ z => z.elim) fun _ _ _ _ _ _ _ z => z.elim⟩
end
theorem room66 {k : Nat} {A : Around} (r : Room k A) : A.units + 66 < cLine := by have := r.un; omega
section
variable {X : Cx} {K : PySem.W.Frag} {e : Expr} {es : List Expr} {t : TA} {dt : TDA} {pos p1 : Pos} {k : Nat} {f : Addr} {fd : FuncData} {ps : List Str} {S : SpD} {x : Str}
theorem de_callGK (hK : X.K = K) (F : FnG X.prog X.w K X.mg X.base k f fd ps (spD K S)) (hgu : X.A.guards = some []) (hr : Room k X.A) (hg : Gl X x) (hm : X.mg x = some (.ref f)) (hk : PySem.W.keepIn K (.ref f) = true) (hb : Binds K fd ps [])
    (ha : DA X (e :: es) t dt) (hdb : (x == ("__debug__" : Str)) = false := by decide) (he : starEach (e :: es) X.env = (false, eval e X.env) :: starEach es X.env := by rfl) (hpl : (backTo pos (starEach es X.env)).any (·.1) = false := by rfl) :
    DE X (.Call (.Name x p1) (e :: es) [] pos) (tCall (spD K S) [] E0 t) (dCall S dt) := by subst hK; exact ⟨pe_callG F hgu hr hg hm hk hb .nil pass0 ha.pa hdb he hpl, le_call ha.up⟩
end
theorem bt_repr : bootBuiltins "repr" = some (.builtin "repr") := by decide +kernel
/-- == and != of texts -/
def streqR (neg : Bool) : RD2 := fun x y m F => onS x fun a => onS y fun b => F (.bl (if neg then !decide (a = b) else decide (a = b))) m
theorem lr_streq {K : PySem.W.Frag} : LR2 K rEq (streqR false) := fun H W m x y v u F Q hh rx ry h q => by
  obtain ⟨a, rfl, h⟩ := onS_ex (d := x) h
  obtain ⟨b, rfl, h⟩ := onS_ex (d := y) h
  cases rx; cases ry
  refine ⟨rfl, q _ _ _ _ _ (.refl hh) (.bl _) ?_⟩
  have e : decide (V.str a = V.str b) = decide (a = b) := by rw [Bool.eq_iff_iff]; simp
  rw [e]; exact h
theorem lr_strne {K : PySem.W.Frag} : LR2 K rNe (streqR true) := fun H W m x y v u F Q hh rx ry h q => by
  obtain ⟨a, rfl, h⟩ := onS_ex (d := x) h
  obtain ⟨b, rfl, h⟩ := onS_ex (d := y) h
  cases rx; cases ry
  refine ⟨rfl, q _ _ _ _ _ (.refl hh) (.bl _) ?_⟩
  have e : decide (V.str a = V.str b) = decide (a = b) := by rw [Bool.eq_iff_iff]; simp
  rw [e]; exact h
end DL

/-! own == and != beside things of any type. -/
namespace DL
open PySem L2 DM
section
variable {X : Cx} {k : Nat} {C f : Addr} {fd : FuncData} {ps : List Str} {sp : Sp}
theorem ty_looks {pins : List (Addr × Obj)} {s : Shared} {σ : L2.St} {H : Hp} {x : V} {u t : Value} (I : Inv X pins σ H s) (rx : RelV x u) (ty : TyOf X.K H x t) : PySem.W.Looks (model X.prog X.w) s.heap (typeOf u) t := by
  cases ty with
  | non => cases (show u = Value.none from rx); exact PySem.W.Looks.of_pure rfl
  | bl y => cases (show u = Value.bool y from rx); exact PySem.W.Looks.of_pure rfl
  | int i => obtain ⟨t, q⟩ := (show ∃ t, u = Value.int i t from rx); cases q; exact PySem.W.Looks.of_pure rfl
  | str y => obtain ⟨t, q⟩ := (show ∃ t, u = Value.str y t from rx); cases q; exact PySem.W.Looks.of_pure rfl
  | flt y => obtain ⟨t, q⟩ := (show ∃ t, u = Value.float y t from rx); cases q; exact PySem.W.Looks.of_pure rfl
  | @lst a xs ea =>
    cases (show u = Value.ref a from rx)
    obtain ⟨_, _, n, _, h1⟩ := (show ObjOk X.prog X.w H s.heap a (.lst xs) from I.hok a _ ea)
    exact fun A Q E s k q => wpAny_typeOf_ref (k _ _ h1) q
  | @frz a ob xs ea =>
    cases (show u = Value.ref a from rx)
    obtain ⟨_, _, _, n, _, h1⟩ := (show ObjOk X.prog X.w H s.heap a (.frz ob (.lst xs)) from I.hok a _ ea)
    exact fun A Q E s k q => wpAny_typeOf_ref (k _ _ h1) q
  | @tup a xs ea =>
    cases (show u = Value.ref a from rx)
    obtain ⟨_, _, _, o, h1, h2, _⟩ := (show ObjOk X.prog X.w H s.heap a (.tup xs) from I.hok a _ ea)
    exact fun A Q E s k q => wpAny_typeOf_ref (k _ _ h1) (by rw [h2]; exact q)
  | @dK a kvs ea =>
    cases (show u = Value.ref a from rx)
    obtain ⟨_, _, vs, _, o, es, ep, h1, h2, _⟩ := (show ObjOk X.prog X.w H s.heap a (.dK kvs) from I.hok a _ ea)
    exact fun A Q E s k q => wpAny_typeOf_ref (k _ _ h1) (by rw [h2.1]; exact q)
  | @dT a kvs ea =>
    cases (show u = Value.ref a from rx)
    obtain ⟨_, _, xs, _, o, es, ep, h1, h2, _⟩ := (show ObjOk X.prog X.w H s.heap a (.dT kvs) from I.hok a _ ea)
    exact fun A Q E s k q => wpAny_typeOf_ref (k _ _ h1) (by rw [h2.1]; exact q)
  | @ins a C dx fs ea cl ha hn htk hm =>
    cases (show u = Value.ref a from rx)
    obtain ⟨mA, O, _⟩ := ins_get I.hok ea
    obtain ⟨od, J, _⟩ := O.look
    exact J.type
/-- an instance of the class beside anything whose type does not go first -/
def rOwnX (K : PySem.W.Frag) (C : Addr) (sp : Sp) (q : Bool) : R2 := fun x y H Q => ∃ a dx fs tb, x = .ref a ∧ H a = some (.ins C dx fs) ∧ ((TyOf K H y tb ∨ ∃ b C' dy gs, y = .ref b ∧ H b = some (.ins C' dy gs) ∧ tb = .ref C') ∧ PySem.W.notFirst K C tb = true) ∧ sp [x, y] H (fun v H' => ∃ r, v = .bl r ∧ Q (.bl (r == q)) H') E0
theorem op_ownX (q : Bool) (F : FnOk X.prog X.w X.K X.mg X.base CX0 k f fd ps sp) (O : OwnQ X.K C f) (hb : Binds X.K fd ps []) (hr : Room (k + 1) X.A) : OpR X (compareOp (DQ.opOf q)) (rOwnX X.K C sp q) := by
  intro pins s σ H x y u v Q I rx ry h
  obtain ⟨a, dx, fs, tb, rfl, ha, ⟨hty, hn⟩, hs⟩ := h
  have cmp : compareOp (DQ.opOf q) u v = richCompare (DQ.opOf q) u v := by cases q <;> rfl
  rw [cmp]
  cases rx
  obtain ⟨mA, J, _⟩ := ins_get I.hok ha
  obtain ⟨od, J, _⟩ := J.look
  obtain ⟨m, hF⟩ := I.fr
  have lk : PySem.W.Looks (model X.prog X.w) s.heap (typeOf v) tb := by
    rcases hty with hty | ⟨b, C', dy, gs, rfl, hb', rfl⟩
    · exact ty_looks I ry hty
    · cases ry
      obtain ⟨mB, J', _⟩ := ins_get I.hok hb'
      obtain ⟨od', J', _⟩ := J'.look
      exact J'.type
  have sb : L2.Sub X (k + 1) X.A := ⟨hr, rfl⟩
  cases q with
  | true =>
    refine PySem.W.cmp_K (op := .Eq) (tb := tb) sb.room.units0 hF I.ok.mod.kin J lk hn O.eq O.fn (thn (run_eq (x := .ref a) (y := y) F (sb.mono (Nat.le_succ k)) hb I rfl ry hs) fun w s' ⟨z, H', I', rz, r, ez, qz⟩ => ?_)
    subst ez
    cases rz
    refine ⟨.bl r, H', I', rfl, ?_⟩
    cases r <;> exact qz
  | false =>
    refine DQ.ne_own (C := C) (tb := tb) (Nat.lt_of_le_of_lt (Nat.add_le_add_left (by decide) _) sb.room.units) hF I.ok.mod.kin J lk hn O.ne O.ob O.eq O.fn (thn (run_eq (x := .ref a) (y := y) F sb.in1 hb I rfl ry hs) fun w s' ⟨z, H', I', rz, r, ez, qz⟩ => ?_)
    subst ez
    cases rz
    refine ⟨r, rfl, .bl (!r), H', I', rfl, ?_⟩
    cases r <;> exact qz
end
/-- over data -/
def ownXR (K : PySem.W.Frag) (C : Addr) (S : SpD) (neg : Bool) : RD2 := fun x y m F => ∃ fs xs, insOf m x = some (C, fs, xs) ∧ ((∃ t, tyN m y = some t ∧ PySem.W.notFirst K C (.type t) = true) ∨ ∃ C' gs ys, insOf m y = some (C', gs, ys) ∧ PySem.W.notFirst K C (.ref C') = true) ∧ S [x, y] m fun r m' => onB r fun b => F (.bl (b == !neg)) m'
theorem lr_ownX {K : PySem.W.Frag} {C : Addr} {S : SpD} {neg : Bool} : LR2 K (rOwnX K C (spD K S) (!neg)) (ownXR K C S neg) := fun H W m x y v u F Q hh rx ry h q => by
  obtain ⟨fs, xs, ex, hty, h⟩ := h
  obtain ⟨p, dx, fvs, rfl, hp, rfl, rl⟩ := ins_at hh rx ex
  have ht : ∃ tb, (TyOf K H u tb ∨ ∃ b C' dy gs, u = .ref b ∧ H b = some (.ins C' dy gs) ∧ tb = .ref C') ∧ PySem.W.notFirst K C tb = true := by
    rcases hty with ⟨t, e, hn⟩ | ⟨C', gs, ys, e, hn⟩
    · exact ⟨_, .inl (tyN_rep hh e ry), hn⟩
    · obtain ⟨p2, dx2, fvs2, rfl, hp2, rfl, rl2⟩ := ins_at hh ry e
      exact ⟨_, .inr ⟨_, _, _, _, rfl, hp2, rfl⟩, hn⟩
  obtain ⟨tb, ht⟩ := ht
  refine ⟨p, dx, fvs, tb, rfl, hp, ht, W, m, [x, y], _, hh, .cons rx (.cons ry .nil), h, fun v' H' d W' m' s' r' h' => ?_⟩
  obtain ⟨b, rfl, h'⟩ := onB_ex h'
  exact ⟨b, rep_bl r', q _ _ _ _ _ s' (.bl _) h'⟩
section
variable {X : Cx} {K : PySem.W.Frag} {k : Nat} {C f : Addr} {fd : FuncData} {ps : List Str} {S : SpD}
theorem op_ownXE (hK : X.K = K) (F : FnOk X.prog X.w K X.mg X.base CX0 k f fd ps (spD K S)) (O : OwnQ K C f) (hb : Binds K fd ps []) (hr : Room (k + 1) X.A) : OpR X (compareOp .Eq) (rOwnX K C (spD K S) true) := by subst hK; exact op_ownX true F O hb hr
theorem op_ownXN (hK : X.K = K) (F : FnOk X.prog X.w K X.mg X.base CX0 k f fd ps (spD K S)) (O : OwnQ K C f) (hb : Binds K fd ps []) (hr : Room (k + 1) X.A) : OpR X (compareOp .NotEq) (rOwnX K C (spD K S) false) := by subst hK; exact op_ownX false F O hb hr
theorem lr_ownXE {S : SpD} : LR2 K (rOwnX K C (spD K S) true) (ownXR K C S false) := lr_ownX (neg := false)
theorem lr_ownXN {S : SpD} : LR2 K (rOwnX K C (spD K S) false) (ownXR K C S true) := lr_ownX (neg := true)
end
def nfTB (t : String) (x : Str) (K : PySem.W.Frag) : Bool := PySem.W.notFirst K (ga K x) (.type t)
def nfCB (x y : Str) (K : PySem.W.Frag) : Bool := PySem.W.notFirst K (ga K x) (.ref (ga K y))
end DL

/-! repr (and ==) of data that hold mutable lists: each is taken as it stands now. -/
namespace DL
open PySem L2
mutual
/-- mutable lists replaced by what they hold -/
def res (m : Mu) : D → D
  | .ref k => (match m k with
    | some (.lst xs) => .lst xs
    | _ => .ref k)
  | .lst xs => .lst (ress m xs)
  | .tup xs => .tup (ress m xs)
  | d => d
def ress (m : Mu) : List D → List D
  | [] => []
  | d :: ds => res m d :: ress m ds
end
section
variable {K : PySem.W.Frag} {W : Wd} {m : Mu} {H : Hp}
mutual
theorem res_dp (hh : Held K W m H) : ∀ {d : D} {v : V}, isP (res m d) = true → Rep K W d v → Dp K H v (toP (res m d))
  | _, _, _, .non => by rw [res]; exact .non; all_goals simp
  | _, _, _, .bl b => by rw [res]; exact .bl b; all_goals simp
  | _, _, _, .int i => by rw [res]; exact .int i; all_goals simp
  | _, _, _, .str x => by rw [res]; exact .str x; all_goals simp
  | _, _, h, .lst hp r => by
    rw [res] at h ⊢
    rw [isP] at h
    rw [toP]
    exact .lst (SqL.of (hh.G _ _ hp)) (ress_dp hh h r)
  | _, _, h, .tup hp r => by
    rw [res] at h ⊢
    rw [isP] at h
    rw [toP]
    exact .tup (SqT.of (hh.G _ _ hp)) (ress_dp hh h r)
  | _, _, h, .dK _ _ => by rw [res] at h; simp [isP] at h; all_goals simp
  | _, _, h, .dT _ _ => by rw [res] at h; simp [isP] at h; all_goals simp
  | _, _, h, .ins _ _ => by rw [res] at h; simp [isP] at h; all_goals simp
  | .ref k, v, h, r => by
    have r0 := r
    rw [res] at h ⊢
    cases q : m k with
    | none => rw [q] at h; simp [isP] at h
    | some o =>
      rw [q] at h
      cases o with
      | lst xs =>
        obtain ⟨ev, vs, hv, rl⟩ := mut_at hh q r0
        subst ev
        have h : isPs xs = true := by simpa [isP] using h
        show Dp K H _ (toP (.lst xs))
        rw [toP]
        exact .lst (SqL.of hv) (repL_dp hh h rl)
      | _ => simp [isP] at h
  | _, _, h, .scr _ => by rw [res] at h; simp [isP] at h; all_goals simp
  | _, _, h, .opq _ => by rw [res] at h; simp [isP] at h; all_goals simp
theorem ress_dp (hh : Held K W m H) : ∀ {ds : List D} {vs : List V}, isPs (ress m ds) = true → RepL K W ds vs → DpAll K H vs (toPs (ress m ds))
  | _, _, _, .nil => by rw [ress]; exact .nil
  | _, _, h, .cons r t => by
    rw [ress, isPs, Bool.and_eq_true] at h
    rw [ress, toPs]
    exact .cons (res_dp hh h.1 r) (ress_dp hh h.2 t)
end
end
def reprD : RDA := fun ds m F => on1 ds fun d => (okP (res m d) ∧ (toP (res m d)).showable = true ∧ (toP (res m d)).shown.length ≤ sizeLine) ∧ F (.str (toP (res m d)).shown) m
theorem lr_reprD {K : PySem.W.Frag} : LRA K (rRepr K) reprD := fun H W m xs vs F Q hh r h q => by
  match xs, r, h with
  | [d], .cons r1 .nil, ⟨⟨o, s, l⟩, hf⟩ => exact ⟨_, _, rfl, res_dp hh o.1 r1, ⟨s, no_dict _, o.2, l⟩, q _ _ _ _ _ (.refl hh) (.str _) hf⟩
end DL

namespace DL
open PySem L2
/-! ### x in a list of nested data -/
def inDR (neg : Bool) : RD2 := fun x y m F => vwE y m fun y' => match y' with
  | .lst xs => (okP x ∧ okP (.lst xs)) ∧ F (.bl (if neg then !xs.any (fun z => eqD z x) else xs.any fun z => eqD z x)) m
  | _ => False
section
variable {X : Cx} {K : PySem.W.Frag}
theorem any_toPs (x : D) : ∀ xs : List D, ((toPs xs).any fun z => PyData.eqv z (toP x)) = xs.any fun z => eqD z x
  | [] => rfl
  | y :: xs => by rw [toPs, List.any_cons, List.any_cons, any_toPs x xs]; rfl
theorem lr_inD : LR2 K (rInD K) (inDR false) := fun H W m x y v u F Q hh rx ry h q => by
  obtain ⟨y', h, hd⟩ := vw_dp hh h ry
  cases y' with
  | lst xs =>
    obtain ⟨⟨ox, oy⟩, f⟩ := h
    have dy := hd oy
    rw [toP] at dy
    have sy := okP_shaped oy
    rw [toP] at sy
    refine ⟨toP x, toPs xs, rep_dp hh ox.1 rx, dy, okP_shaped ox, sy, ?_⟩
    rw [any_toPs]
    exact q _ _ _ _ _ (.refl hh) (.bl _) f
  | _ => exact h.elim
theorem lr_notInD : LR2 K (rNotInD K) (inDR true) := fun H W m x y v u F Q hh rx ry h q => by
  obtain ⟨y', h, hd⟩ := vw_dp hh h ry
  cases y' with
  | lst xs =>
    obtain ⟨⟨ox, oy⟩, f⟩ := h
    have dy := hd oy
    rw [toP] at dy
    have sy := okP_shaped oy
    rw [toP] at sy
    refine ⟨toP x, toPs xs, rep_dp hh ox.1 rx, dy, okP_shaped ox, sy, ?_⟩
    rw [any_toPs]
    exact q _ _ _ _ _ (.refl hh) (.bl _) f
  | _ => exact h.elim
theorem op_inDK (hK : X.K = K) (hu : X.A.units + 65 < cLine) : OpR X (compareOp .In) (rInD K) := by subst hK; exact op_inD hu
theorem op_notInDK (hK : X.K = K) (hu : X.A.units + 65 < cLine) : OpR X (compareOp .NotIn) (rNotInD K) := by subst hK; exact op_notInD hu
/-! ### [..] * n -/
def repR : RD2 := fun x y m F => onI y fun k => withL x m fun xs => ((-(2 ^ 63) ≤ k ∧ k < 2 ^ 63) ∧ xs.length * k.toNat ≤ sizeLine) ∧ New (.lst (List.replicate k.toNat xs).flatten) m F
theorem repL_rep {W : Wd} {xs : List D} {vs : List V} (r : RepL K W xs vs) : ∀ n : Nat, RepL K W (List.replicate n xs).flatten (List.replicate n vs).flatten
  | 0 => .nil
  | n + 1 => by
    rw [List.replicate_succ, List.replicate_succ, List.flatten_cons, List.flatten_cons]
    exact r.append (repL_rep r n)
end
/-! ### a, b, c = x, y, z -/
def dPar3 (i j l : Nat) (ta : TDA) : TDS := fun F ρ m => ta ρ m fun ds m1 => match ds with
  | [a, b, c] => F.nx (((ρ.set i (some a)).set j (some b)).set l (some c)) m1
  | _ => False
theorem ds_par3 {X : Cx} {i j l : Nat} {x y z : Str} {a b c : Expr} {ta : TA} {da : TDA} {px py pz pt pos : Pos} {kt k2 pt2} (hN : X.N.Nodup) (hi : X.N[i]? = some x) (hj : X.N[j]? = some y) (hl : X.N[l]? = some z) (hij : i ≠ j) (hil : i ≠ l) (hjl : j ≠ l)
    (hx : X.env.scope.names.lookup x = some .local) (hy : X.env.scope.names.lookup y = some .local) (hz : X.env.scope.names.lookup z = some .local) (ha : DA X [a, b, c] ta da)
    (hw : swappedStores [.Tuple [.Name x px, .Name y py, .Name z pz] kt pt] (.Tuple [a, b, c] k2 pt2) X.env = pure (some [x, y, z])) (hc : X.calm = true := by rfl)
    (hs : swapsWithSole [.Tuple [.Name x px, .Name y py, .Name z pz] kt pt] (.Tuple [a, b, c] k2 pt2) pos.line X.env = pure false := by rfl) :
    DS X (.Assign [.Tuple [.Name x px, .Name y py, .Name z pz] kt pt] (.Tuple [a, b, c] k2 pt2) pos) (tPar3 i j l ta) (dPar3 i j l da) :=
  ⟨ps_par3 hc hN hi hj hl hij hil hjl hx hy hz ha.pa hw hs, fun σ H W ρ m F E hh re h n r b c => ha.up σ H W ρ m _ _ hh re h fun vs H1 ds W1 m1 s1 r1 h1 => by
    match ds, r1, h1 with
    | [x, y, z], .cons ra (.cons rb (.cons rc .nil)), h1 => exact ⟨_, _, _, rfl, n _ _ _ _ _ s1 ((((re.mono s1.le).set ra i).set rb j).set rc l) h1⟩⟩
/-! ### repr of a flat dict -/
def flatP : D → Bool
  | .int _ => true
  | .str _ => true
  | .bl _ => true
  | .non => true
  | _ => false
def keyP : Key → PyData
  | .inl i => .int i
  | .inr x => .str x
def dicP (kvs : List (Key × D)) : PyData := .dict (kvs.map fun kv => (keyP kv.1, toP kv.2))
inductive FlatR : V → PyData → Prop where
  | non : FlatR .non .none
  | bl (b : Bool) : FlatR (.bl b) (.bool b)
  | int (i : Int) : FlatR (.int i) (.int i)
  | str (s : Str) : FlatR (.str s) (.str s)
inductive FlatRs : List (Key × V) → List (PyData × PyData) → Prop where
  | nil : FlatRs [] []
  | cons {k : Key} {v : V} {p : PyData} {kvs : List (Key × V)} {ps : List (PyData × PyData)} (r : FlatR v p) (t : FlatRs kvs ps) : FlatRs ((k, v) :: kvs) ((keyP k, p) :: ps)
def rReprX : List V → Hp → VK → Prop := fun xs H Q => ∃ a kvs ps, xs = [.ref a] ∧ Rd H a (.dK kvs) ∧ FlatRs kvs ps ∧ ((PyData.dict ps).showable = true ∧ (PyData.dict ps).depth ≤ 64 ∧ (PyData.dict ps).shown.length ≤ sizeLine) ∧ Q (.str (PyData.dict ps).shown) H
theorem flat_reads {h : Heap} {v : V} {u : Value} {p : PyData} (f : FlatR v p) (r : RelV v u) : Reads h u p [] := by
  cases f with
  | non => cases r; exact .none
  | bl b => cases r; exact .bool b
  | int i => obtain ⟨t, rfl⟩ := r; exact .int i t
  | str s => obtain ⟨t, rfl⟩ := r; exact .str s t
theorem key_reads {h : Heap} {k : Key} {u : Value} (r : keyIs k u = true) : Reads h u (keyP k) [] := by
  rcases keyIs_shape r with ⟨i, t, rfl, rfl⟩ | ⟨x, t, rfl, rfl⟩
  · exact .int i t
  · exact .str x t
theorem pairs_reads {P : Program} {w : World} {h : Heap} {es : List DictEntry} {vs : List (Key × Value)} (pr : Pairs (mixKind P w) es vs) : ∀ {kvs : List (Key × V)} {ps : List (PyData × PyData)}, KV kvs vs → FlatRs kvs ps → ReadsAll h (es.map (·.key)) (ps.map (·.1)) [] ∧ ReadsAll h (es.map (·.val)) (ps.map (·.2)) [] := by
  induction pr with
  | nil =>
    intro kvs ps kv fl
    cases kv
    cases fl
    exact ⟨.nil, .nil⟩
  | @cons e q es vs hk hv t ih =>
    intro kvs ps kv fl
    cases kv with
    | @cons a _ _ _ r s =>
      cases fl with
      | @cons k v p _ ps f g =>
        obtain ⟨i1, i2⟩ := ih s g
        have e1 : k = q.1 := r.1
        refine ⟨?_, ?_⟩
        · show ReadsAll h (e.key :: es.map (·.key)) (keyP k :: ps.map (·.1)) ([] ++ [])
          exact .cons (key_reads (by rw [e1]; exact hk)) i1
        · show ReadsAll h (e.val :: es.map (·.val)) (p :: ps.map (·.2)) ([] ++ [])
          exact .cons (flat_reads f (by rw [hv]; exact r.2)) i2
theorem cr_reprX {X : Cx} (hg : X.A.guards = some []) (hu : X.A.units + 66 < cLine) : CallR X (.builtin "repr") rReprX := by
  intro pins s σ H xs us Q I r h
  obtain ⟨a, kvs, ps, rfl, rd, fl, ⟨h1, h2, h3⟩, q⟩ := h
  obtain ⟨u, rfl, ru⟩ := vals1 r
  cases ru
  obtain ⟨z, hsm, vs, kv, o, es, ep, ho, hx, hd, _, pr, _⟩ := dk_rd I.hok rd
  obtain ⟨r1, r2⟩ := pairs_reads (h := s.heap) pr kv fl
  have rds : Reads s.heap (.ref a) (.dict ps) (a :: [] ++ []) := .dict ho hx.1 hd r1 r2
  exact repr_of_reads' rds h1 (fun _ hm => by
    have : sysModules = a := by simpa using hm
    rw [this] at hsm; simp at hsm) hg (by omega) (fun _ _ e => e) (fun h' u tk k => ⟨.str _, H, I.kept k, ⟨_, rfl⟩, q⟩) h3
def reprXR : RDA := fun ds m F => dicOf ds m fun kvs => kvs.all (fun kv => flatP kv.2) = true ∧ ((dicP kvs).showable = true ∧ (dicP kvs).shown.length ≤ sizeLine) ∧ F (.str (dicP kvs).shown) m
theorem flats_of {K : PySem.W.Frag} {W : Wd} : ∀ {kvs : List (Key × D)} {ws : List (Key × V)}, ws.map (·.1) = kvs.map (·.1) → RepL K W (kvs.map (·.2)) (ws.map (·.2)) → kvs.all (fun kv => flatP kv.2) = true → FlatRs ws (kvs.map fun kv => (keyP kv.1, toP kv.2))
  | [], [], _, _, _ => .nil
  | [], _ :: _, e, _, _ => by cases e
  | _ :: _, [], e, _, _ => by cases e
  | (k, d) :: kvs, (k2, v) :: ws, e, r, f => by
    simp only [List.map_cons, List.cons.injEq] at e
    simp only [List.all_cons, Bool.and_eq_true] at f
    obtain ⟨e1, e2⟩ := e
    subst e1
    cases r with
    | cons r t =>
      refine .cons ?_ (flats_of e2 t f.2)
      cases r with
      | non => exact .non
      | bl b => exact .bl b
      | int i => exact .int i
      | str s => exact .str s
      | _ => cases f.1
theorem depth_dict {kvs : List (Key × D)} (f : kvs.all (fun kv => flatP kv.2) = true) : (dicP kvs).depth ≤ 64 := by
  have go : ∀ kvs : List (Key × D), kvs.all (fun kv => flatP kv.2) = true → PyData.depthKv (kvs.map fun kv => (keyP kv.1, toP kv.2)) = 0 := by
    intro kvs
    induction kvs with
    | nil => intro _; rfl
    | cons p kvs ih =>
      intro f
      simp only [List.all_cons, Bool.and_eq_true] at f
      obtain ⟨k, d⟩ := p
      rw [List.map_cons, PyData.depthKv, ih f.2]
      cases k <;> cases d <;> first | rfl | cases f.1
  unfold dicP
  rw [PyData.depth, go kvs f]; decide
theorem lr_reprX {K : PySem.W.Frag} : LRA K rReprX reprXR := fun H W m xs vs F Q hh r h q => by
  obtain ⟨a, kvs, ws, rfl, rd, e, rr, f, ⟨s1, s2⟩, h⟩ := dic_at hh r h
  exact ⟨a, ws, _, rfl, rd, flats_of e rr f, ⟨s1, depth_dict f, s2⟩, q _ _ _ _ _ (.refl hh) (.str _) h⟩
end DL

namespace DL
open PySem L2
theorem room1 {k : Nat} {A : Around} (r : Room k A) : A.units + 1 < cLine := by have := r.un; omega
theorem room65 {k : Nat} {A : Around} (r : Room k A) : A.units + 65 < cLine := by have := r.un; omega
section
variable {X : Cx} {K : PySem.W.Frag} {o i : Expr} {pos : Pos} {td ty : TE} {dd dy : TD}
theorem de_din (hu : X.A.units + 1 < cLine) (hi : DE X i ty dy) (ho : DE X o td dd) (h1 : behindInMarks .In o = false := by rfl) : DE X (.Compare i [.In] [o] pos) (tDIn ty td) (dDIn false dy dd) := ⟨pe_cmp (pc_din hu hi.pe ho.pe) h1, le_din hi.up ho.up⟩
theorem de_dnotin (hu : X.A.units + 1 < cLine) (hi : DE X i ty dy) (ho : DE X o td dd) (h1 : behindInMarks .NotIn o = false := by rfl) : DE X (.Compare i [.NotIn] [o] pos) (tDNotIn ty td) (dDIn true dy dd) := ⟨pe_cmp (pc_dnotin hu hi.pe ho.pe) h1, le_dnotin hi.up ho.up⟩
theorem dt_din (hu : X.A.units + 1 < cLine) (hi : DE X i ty dy) (ho : DE X o td dd) (h1 : behindInMarks .In o = false := by rfl) : DT X (.Compare i [.In] [o] pos) (tB (tDIn ty td)) (dTest (dDIn false dy dd)) := ⟨pt_cmp (pc_din hu hi.pe ho.pe) h1, lt_test (le_din hi.up ho.up)⟩
theorem dt_dnotin (hu : X.A.units + 1 < cLine) (hi : DE X i ty dy) (ho : DE X o td dd) (h1 : behindInMarks .NotIn o = false := by rfl) : DT X (.Compare i [.NotIn] [o] pos) (tB (tDNotIn ty td)) (dTest (dDIn true dy dd)) := ⟨pt_cmp (pc_dnotin hu hi.pe ho.pe) h1, lt_test (le_dnotin hi.up ho.up)⟩
theorem lr_rep : LR2 K rRep repR := fun H W m x y v u F Q hh rx ry h q => by
  obtain ⟨k, rfl, h⟩ := onI_ex h
  obtain ⟨xs, e, ⟨⟨h1, h2⟩, h3⟩, hN⟩ := withL_ex h
  obtain ⟨p, vs, rfl, hp, r⟩ := lst_at hh rx e
  have eu := rep_int ry
  subst eu
  refine ⟨p, k, vs, rfl, rfl, hp, h1, h2, by rw [← r.length]; exact h3, fun l hl => ?_⟩
  exact new_ok hh (o := .lst (List.replicate k.toNat xs).flatten) (ho := .lst (List.replicate k.toNat vs).flatten) ⟨_, rfl, repL_rep r _⟩ hN q hl
theorem cr_minK0 (hK : X.K = K) (hc : X.calm = true) : CallR X (.builtin "min") (rMin K) := by subst hK; exact cr_min hc
end
theorem onO_some {α : Type} {a : α} {F : α → Prop} : onO (some a) F = F a := rfl
theorem bt_enumerate : bootBuiltins "enumerate" = some (.type "enumerate") := by decide +kernel
end DL

/-! Bags handed to askers one behind the other: the plain theory (sums, least sums over lots, augmenting ways). -/
namespace GV
/-! ### sums -/
def sumL {α : Type} : List α → (α → Int) → Int
  | [], _ => 0
  | x :: l, f => f x + sumL l f
theorem sumL_app {α : Type} (f : α → Int) : ∀ a b : List α, sumL (a ++ b) f = sumL a f + sumL b f
  | [], b => by simp [sumL]
  | x :: a, b => by simp only [List.cons_append, sumL, sumL_app f a b]; omega
theorem sumL_congr {α : Type} {f g : α → Int} : ∀ {l : List α}, (∀ x ∈ l, f x = g x) → sumL l f = sumL l g
  | [], _ => rfl
  | x :: l, h => by
    simp only [sumL]
    rw [h x List.mem_cons_self, sumL_congr fun y hy => h y (List.mem_cons_of_mem _ hy)]
theorem sumL_le {α : Type} {f g : α → Int} : ∀ {l : List α}, (∀ x ∈ l, f x ≤ g x) → sumL l f ≤ sumL l g
  | [], _ => Int.le_refl _
  | x :: l, h => by
    simp only [sumL]
    have := h x List.mem_cons_self
    have := sumL_le (f := f) (g := g) (l := l) fun y hy => h y (List.mem_cons_of_mem _ hy)
    omega
theorem sumL_add {α : Type} (f g : α → Int) : ∀ l : List α, sumL l (fun x => f x + g x) = sumL l f + sumL l g
  | [] => rfl
  | x :: l => by simp only [sumL, sumL_add f g l]; omega
theorem sumL_zero {α : Type} : ∀ l : List α, sumL l (fun _ => 0) = 0
  | [] => rfl
  | x :: l => by simp only [sumL, sumL_zero l]; omega
theorem sumL_nn {α : Type} {f : α → Int} {l : List α} (h : ∀ x ∈ l, 0 ≤ f x) : 0 ≤ sumL l f := by
  have := sumL_le (f := fun _ => 0) (g := f) h
  rw [sumL_zero] at this; exact this
theorem sumL_one {α : Type} [DecidableEq α] (a : α) (v : Int) : ∀ {l : List α}, l.Nodup → sumL l (fun x => if x = a then v else 0) = if a ∈ l then v else 0
  | [], _ => by simp [sumL]
  | x :: l, h => by
    obtain ⟨h1, h2⟩ := List.nodup_cons.mp h
    simp only [sumL, sumL_one a v h2, List.mem_cons]
    by_cases e : x = a
    · subst e; simp [h1]
    · by_cases q : a ∈ l <;> simp [e, q, Ne.symm e]
theorem sumL_comm {α β : Type} (f : α → β → Int) : ∀ (a : List α) (b : List β), sumL a (fun x => sumL b (f x)) = sumL b (fun y => sumL a (fun x => f x y))
  | [], b => by simp only [sumL, sumL_zero]
  | x :: a, b => by simp only [sumL, sumL_comm f a b, sumL_add]
theorem sumL_perm {α : Type} {f : α → Int} {a b : List α} (h : a.Perm b) : sumL a f = sumL b f := by
  induction h with
  | nil => rfl
  | cons x _ ih => simp only [sumL, ih]
  | swap x y l => simp only [sumL]; omega
  | trans _ _ i1 i2 => exact i1.trans i2
theorem sumL_map {α β : Type} (g : β → α) (f : α → Int) : ∀ l : List β, sumL (l.map g) f = sumL l (fun x => f (g x))
  | [] => rfl
  | x :: l => by simp only [List.map_cons, sumL, sumL_map g f l]
theorem sumL_filter {α : Type} (p : α → Bool) (f : α → Int) : ∀ l : List α, sumL (l.filter p) f = sumL l (fun x => if p x then f x else 0)
  | [] => rfl
  | x :: l => by
    simp only [List.filter_cons, sumL]
    by_cases q : p x = true
    · simp only [q, if_true, sumL, sumL_filter p f l]
    · have := sumL_filter p f l
      simp [q, this]
theorem sumL_mul {α : Type} (c : Int) (f : α → Int) : ∀ l : List α, sumL l (fun x => c * f x) = c * sumL l f
  | [] => by simp [sumL]
  | x :: l => by simp only [sumL, sumL_mul c f l, Int.mul_add]
/-- a sum over a list without doubles is one over another list that has all its items -/
theorem sumL_sub {α : Type} [DecidableEq α] {f : α → Int} {a u : List α} (ha : a.Nodup) (hu : u.Nodup) (h : ∀ x ∈ a, x ∈ u) : sumL a f = sumL u (fun x => if x ∈ a then f x else 0) := by
  have p : (u.filter fun x => decide (x ∈ a)).Perm a := by
    rw [List.perm_ext_iff_of_nodup (hu.sublist List.filter_sublist) ha]
    intro x
    simp only [List.mem_filter, decide_eq_true_eq]
    exact ⟨fun q => q.2, fun q => ⟨h x q, q⟩⟩
  rw [← sumL_perm p, sumL_filter]
  exact sumL_congr fun x _ => by simp
abbrev sumN (n : Nat) (f : Nat → Int) : Int := sumL (List.range n) f
theorem sumN_zero (f : Nat → Int) : sumN 0 f = 0 := rfl
theorem sumN_succ (n : Nat) (f : Nat → Int) : sumN (n + 1) f = sumN n f + f n := by
  unfold sumN
  rw [List.range_succ, sumL_app]; simp [sumL]
theorem sumN_congr {n : Nat} {f g : Nat → Int} (h : ∀ i, i < n → f i = g i) : sumN n f = sumN n g := sumL_congr fun i hi => h i (List.mem_range.mp hi)
theorem sumN_le {n : Nat} {f g : Nat → Int} (h : ∀ i, i < n → f i ≤ g i) : sumN n f ≤ sumN n g := sumL_le fun i hi => h i (List.mem_range.mp hi)
/-! ### how often -/
theorem count_fst {α β : Type} [DecidableEq α] [DecidableEq β] (i : α) (U : List β) (hU : U.Nodup) : ∀ (l : List (α × β)), (∀ p ∈ l, p.1 = i → p.2 ∈ U) → sumL U (fun x => ((l.count (i, x) : Nat) : Int)) = ((l.map (·.1)).count i : Nat)
  | [], _ => by simp only [List.count_nil, List.map_nil]; exact sumL_zero U
  | p :: l, h => by
    obtain ⟨a, b⟩ := p
    have ih := count_fst i U hU l fun q hq => h q (List.mem_cons_of_mem _ hq)
    by_cases e : a = i
    · subst e
      have hb : b ∈ U := h (a, b) List.mem_cons_self rfl
      have e1 : ∀ x, (((List.count (a, x) ((a, b) :: l)) : Nat) : Int) = ((l.count (a, x) : Nat) : Int) + (if x = b then 1 else 0) := fun x => by
        by_cases q : x = b
        · subst q; simp
        · rw [List.count_cons_of_ne (by simp; exact fun z => q z.symm)]; simp [q]
      rw [sumL_congr fun x _ => e1 x, sumL_add, ih, sumL_one b 1 hU, if_pos hb]
      simp
    · have e1 : ∀ x, (((List.count (i, x) ((a, b) :: l)) : Nat) : Int) = ((l.count (i, x) : Nat) : Int) := fun x => by
        rw [List.count_cons_of_ne (by simp [e])]
      rw [sumL_congr fun x _ => e1 x, ih, List.map_cons, List.count_cons_of_ne (by simpa using e)]
theorem count_snd {α β : Type} [DecidableEq α] [DecidableEq β] (x : β) (U : List α) (hU : U.Nodup) : ∀ (l : List (α × β)), (∀ p ∈ l, p.2 = x → p.1 ∈ U) → sumL U (fun i => ((l.count (i, x) : Nat) : Int)) = ((l.map (·.2)).count x : Nat)
  | [], _ => by simp only [List.count_nil, List.map_nil]; exact sumL_zero U
  | p :: l, h => by
    obtain ⟨a, b⟩ := p
    have ih := count_snd x U hU l fun q hq => h q (List.mem_cons_of_mem _ hq)
    by_cases e : b = x
    · subst e
      have hb : a ∈ U := h (a, b) List.mem_cons_self rfl
      have e1 : ∀ i, (((List.count (i, b) ((a, b) :: l)) : Nat) : Int) = ((l.count (i, b) : Nat) : Int) + (if i = a then 1 else 0) := fun i => by
        by_cases q : i = a
        · subst q; simp
        · rw [List.count_cons_of_ne (by simp; exact fun z => q z.symm)]; simp [q]
      rw [sumL_congr fun i _ => e1 i, sumL_add, ih, sumL_one a 1 hU, if_pos hb]
      simp
    · have e1 : ∀ i, (((List.count (i, x) ((a, b) :: l)) : Nat) : Int) = ((l.count (i, x) : Nat) : Int) := fun i => by
        rw [List.count_cons_of_ne (by simp [e])]
      rw [sumL_congr fun i _ => e1 i, ih, List.map_cons, List.count_cons_of_ne (by simpa using e)]

/-! ### givings -/
structure GS (κ : Type) where
  free : κ → Int
  hold : Nat → κ → Int
  got : Nat → Int
section
variable {κ : Type} [DecidableEq κ]
/-- what a giving to n askers keeps -/
structure Good (n : Nat) (fits : Nat → List κ) (st : κ → Int) (g : GS κ) : Prop where
  h0 : ∀ i x, 0 ≤ g.hold i x
  f0 : ∀ x, 0 ≤ g.free x
  inn : ∀ i x, g.hold i x ≠ 0 → i < n ∧ x ∈ fits i
  bal : ∀ x, g.free x + sumN n (fun i => g.hold i x) = st x
  got : ∀ i, g.got i = sumL (fits i) (g.hold i)
/-- along a way: the steps get, the given ones lose -/
def GS.along (g : GS κ) (steps given : List (Nat × κ)) (last : κ) (start : Nat) (v : Int) : GS κ where
  free := fun x => g.free x - (if x = last then v else 0)
  hold := fun i x => g.hold i x + v * (steps.count (i, x) : Nat) - v * (given.count (i, x) : Nat)
  got := fun i => g.got i + (if i = start then v else 0)
/-- the askers and kinds of a way: (a0,k0), (a1,k1) ..; each next one gives the kind ahead -/
def givenOf : List (Nat × κ) → List (Nat × κ)
  | (_, k) :: (b, l) :: r => (b, k) :: givenOf ((b, l) :: r)
  | _ => []
theorem given_fst : ∀ (a : Nat) (k : κ) (r : List (Nat × κ)), ((a, k) :: r).map (·.1) = a :: (givenOf ((a, k) :: r)).map (·.1)
  | a, k, [] => rfl
  | a, k, (b, l) :: r => by
    have := given_fst b l r
    rw [List.map_cons, this]; rfl
theorem given_snd : ∀ (a : Nat) (k : κ) (r : List (Nat × κ)), ((a, k) :: r).map (·.2) = (givenOf ((a, k) :: r)).map (·.2) ++ [(((a, k) :: r).getLast (by simp)).2]
  | a, k, [] => rfl
  | a, k, (b, l) :: r => by
    have := given_snd b l r
    rw [List.map_cons, this]
    simp [givenOf]
theorem good_along {n : Nat} {fits : Nat → List κ} {st : κ → Int} {g : GS κ} (G : Good n fits st g) (fn : ∀ i, (fits i).Nodup) {start : Nat} {steps given : List (Nat × κ)} {last : κ} {v : Int}
    (cf : steps.map (·.1) = start :: given.map (·.1)) (cs : steps.map (·.2) = given.map (·.2) ++ [last]) (hs : ∀ p ∈ steps, p.1 < n ∧ p.2 ∈ fits p.1) (nd : given.Nodup) (hg : ∀ p ∈ given, p.1 < n ∧ p.2 ∈ fits p.1 ∧ v ≤ g.hold p.1 p.2) (v0 : 0 ≤ v) (vf : v ≤ g.free last) :
    Good n fits st (g.along steps given last start v) := by
  refine ⟨fun i x => ?_, fun x => ?_, fun i x h => ?_, fun x => ?_, fun i => ?_⟩
  · show 0 ≤ g.hold i x + v * (steps.count (i, x) : Nat) - v * (given.count (i, x) : Nat)
    have h1 := G.h0 i x
    have h2 : 0 ≤ v * (steps.count (i, x) : Nat) := Int.mul_nonneg v0 (by omega)
    by_cases q : (i, x) ∈ given
    · have c1 : given.count (i, x) = 1 := by
        have := List.nodup_iff_count.mp nd (i, x)
        have := List.count_pos_iff.mpr q
        omega
      have := (hg _ q).2.2
      rw [c1]; simp only at this; omega
    · rw [List.count_eq_zero_of_not_mem q]; simp; omega
  · show 0 ≤ g.free x - (if x = last then v else 0)
    have := G.f0 x
    by_cases q : x = last
    · subst q; rw [if_pos rfl]; omega
    · rw [if_neg q]; omega
  · have h : g.hold i x + v * (steps.count (i, x) : Nat) - v * (given.count (i, x) : Nat) ≠ 0 := h
    by_cases q : g.hold i x = 0
    · by_cases q1 : (i, x) ∈ steps
      · exact hs _ q1
      · by_cases q2 : (i, x) ∈ given
        · exact ⟨(hg _ q2).1, (hg _ q2).2.1⟩
        · rw [q, List.count_eq_zero_of_not_mem q1, List.count_eq_zero_of_not_mem q2] at h
          simp at h
    · exact G.inn i x q
  · show g.free x - (if x = last then v else 0) + sumN n (fun i => g.hold i x + v * (steps.count (i, x) : Nat) - v * (given.count (i, x) : Nat)) = st x
    have e1 : sumN n (fun i => g.hold i x + v * (steps.count (i, x) : Nat) - v * (given.count (i, x) : Nat)) = sumN n (fun i => g.hold i x) + v * ((steps.map (·.2)).count x : Nat) - v * ((given.map (·.2)).count x : Nat) := by
      rw [← count_snd x (List.range n) List.nodup_range steps (fun p hp _ => List.mem_range.mpr (hs p hp).1), ← count_snd x (List.range n) List.nodup_range given (fun p hp _ => List.mem_range.mpr (hg p hp).1)]
      rw [← sumL_mul, ← sumL_mul, ← sumL_add]
      have : ∀ a b c : Int, a = b + c → b = a - c := fun a b c h => by omega
      refine this _ _ _ ?_
      rw [← sumL_add]
      exact sumL_congr fun i _ => by omega
    rw [e1, cs, List.count_append]
    have b := G.bal x
    by_cases q : x = last
    · subst q
      have : List.count x [x] = 1 := by simp
      rw [this, if_pos rfl]
      have : v * (((given.map (·.2)).count x + 1 : Nat) : Int) = v * ((given.map (·.2)).count x : Nat) + v := by
        rw [Int.natCast_add, Int.mul_add]; simp
      omega
    · have : List.count x [last] = 0 := by simp [Ne.symm q]
      rw [this, if_neg q]
      simp only [Nat.add_zero]; omega
  · show g.got i + (if i = start then v else 0) = sumL (fits i) (fun x => g.hold i x + v * (steps.count (i, x) : Nat) - v * (given.count (i, x) : Nat))
    have e1 : sumL (fits i) (fun x => g.hold i x + v * (steps.count (i, x) : Nat) - v * (given.count (i, x) : Nat)) = sumL (fits i) (g.hold i) + v * ((steps.map (·.1)).count i : Nat) - v * ((given.map (·.1)).count i : Nat) := by
      rw [← count_fst i (fits i) (fn i) steps (fun p hp e => by have := (hs p hp).2; rw [e] at this; exact this), ← count_fst i (fits i) (fn i) given (fun p hp e => by have := (hg p hp).2.1; rw [e] at this; exact this)]
      rw [← sumL_mul, ← sumL_mul, ← sumL_add]
      have : ∀ a b c : Int, a = b + c → b = a - c := fun a b c h => by omega
      refine this _ _ _ ?_
      rw [← sumL_add]
      exact sumL_congr fun i _ => by omega
    rw [e1, cf, G.got i]
    by_cases q : i = start
    · subst q
      rw [List.count_cons_self, if_pos rfl]
      have : v * (((given.map (·.1)).count i + 1 : Nat) : Int) = v * ((given.map (·.1)).count i : Nat) + v := by
        rw [Int.natCast_add, Int.mul_add]; simp
      omega
    · rw [List.count_cons_of_ne (Ne.symm q), if_neg q]; omega
/-! ### who is full, and why the others are not -/
/-- a lot that holds all that fits it, all others ahead of k being full -/
structure Tight (k : Nat) (fits : Nat → List κ) (wants : Nat → Int) (g : GS κ) (L : Nat → Bool) : Prop where
  lt : ∀ i, L i = true → i < k
  full : ∀ i, i < k → L i = false → g.got i = wants i
  free : ∀ i x, L i = true → x ∈ fits i → g.free x = 0
  held : ∀ i x j, L i = true → x ∈ fits i → 0 < g.hold j x → L j = true
/-- the bags of the kinds that fit a lot -/
def heldL (U : List κ) (st : κ → Int) (P : κ → Bool) : Int := sumL U (fun x => if P x then st x else 0)
def fitP (n : Nat) (fits : Nat → List κ) (L : Nat → Bool) (x : κ) : Bool := (List.range n).any fun i => L i && decide (x ∈ fits i)
theorem fitP_iff {n : Nat} {fits : Nat → List κ} {L : Nat → Bool} {x : κ} : fitP n fits L x = true ↔ ∃ i, i < n ∧ L i = true ∧ x ∈ fits i := by
  unfold fitP
  rw [List.any_eq_true]
  simp only [List.mem_range, Bool.and_eq_true, decide_eq_true_eq]
/-- the mosts outside of a lot and all bags that fit it -/
def totN (n : Nat) (fits : Nat → List κ) (wants : Nat → Int) (U : List κ) (st : κ → Int) (L : Nat → Bool) : Int :=
  sumN n (fun i => if L i then 0 else wants i) + heldL U st (fitP n fits L)
variable {n k : Nat} {fits : Nat → List κ} {wants : Nat → Int} {st : κ → Int} {g : GS κ} {U : List κ}
theorem part_le (hk : k ≤ n) {f : Nat → Int} (h : ∀ i, 0 ≤ f i) : sumN k f ≤ sumN n f := by
  induction n with
  | zero => have : k = 0 := by omega
            subst this; exact Int.le_refl _
  | succ n ih =>
    by_cases q : k = n + 1
    · subst q; exact Int.le_refl _
    · have := ih (by omega)
      rw [sumN_succ]
      have := h n
      omega
theorem hold_fits (G : Good n fits st g) (fn : ∀ i, (fits i).Nodup) (hU : U.Nodup) (hF : ∀ i x, x ∈ fits i → x ∈ U) (i : Nat) : g.got i = sumL U (g.hold i) := by
  rw [G.got i, sumL_sub (fn i) hU (hF i)]
  refine sumL_congr fun x _ => ?_
  by_cases q : x ∈ fits i
  · rw [if_pos q]
  · rw [if_neg q]
    by_cases z : g.hold i x = 0
    · exact z.symm
    · exact absurd (G.inn i x z).2 q
/-- no lot gets more than this -/
theorem got_le (G : Good n fits st g) (fn : ∀ i, (fits i).Nodup) (hU : U.Nodup) (hF : ∀ i x, x ∈ fits i → x ∈ U) (hw : ∀ i, i < k → g.got i ≤ wants i) (hk : k ≤ n) (L : Nat → Bool) : sumN k g.got ≤ totN k fits wants U st L := by
  have e1 : sumN k g.got = sumN k (fun i => if L i then 0 else g.got i) + sumN k (fun i => if L i then g.got i else 0) := by
    rw [← sumL_add]
    exact sumL_congr fun i _ => by by_cases q : L i = true <;> simp [q]
  have e2 : sumN k (fun i => if L i then 0 else g.got i) ≤ sumN k (fun i => if L i then 0 else wants i) := sumN_le fun i hi => by
    by_cases q : L i = true
    · simp [q]
    · simp [q]; exact hw i hi
  have e3 : sumN k (fun i => if L i then g.got i else 0) ≤ heldL U st (fitP k fits L) := by
    have a1 : sumN k (fun i => if L i then g.got i else 0) = sumN k (fun i => sumL U (fun x => if L i then g.hold i x else 0)) := sumL_congr fun i _ => by
      by_cases q : L i = true
      · simp only [q, if_true]; exact hold_fits G fn hU hF i
      · simp only [q]; simp [sumL_zero]
    rw [a1]
    have cm := sumL_comm (fun i x => if L i then g.hold i x else 0) (List.range k) U
    unfold sumN
    rw [cm]
    refine sumL_le fun x _ => ?_
    show sumN k (fun i => if L i then g.hold i x else 0) ≤ _
    by_cases q : fitP k fits L x = true
    · rw [if_pos q]
      have b := G.bal x
      have f := G.f0 x
      have : sumN k (fun i => if L i then g.hold i x else 0) ≤ sumN k (fun i => g.hold i x) := sumN_le fun i _ => by
        have := G.h0 i x
        by_cases q : L i = true <;> simp [q] <;> omega
      have := part_le (f := fun i => g.hold i x) hk (fun i => G.h0 i x)
      omega
    · rw [if_neg q]
      have : sumN k (fun i => if L i then g.hold i x else 0) = sumN k (fun _ => 0) := sumN_congr fun i hi => by
        by_cases p : L i = true
        · simp only [p, if_true]
          by_cases z : g.hold i x = 0
          · exact z
          · exact absurd (fitP_iff.mpr ⟨i, hi, p, (G.inn i x z).2⟩) q
        · simp [p]
      rw [this]; exact Int.le_of_eq (sumL_zero _)
  unfold totN
  omega
theorem got_eq (G : Good n fits st g) (fn : ∀ i, (fits i).Nodup) (hU : U.Nodup) (hF : ∀ i x, x ∈ fits i → x ∈ U) (hk : k ≤ n) {L : Nat → Bool} (T : Tight k fits wants g L) : sumN k g.got = totN k fits wants U st L := by
  have e1 : sumN k g.got = sumN k (fun i => if L i then 0 else g.got i) + sumN k (fun i => if L i then g.got i else 0) := by
    rw [← sumL_add]
    exact sumL_congr fun i _ => by by_cases q : L i = true <;> simp [q]
  have e2 : sumN k (fun i => if L i then 0 else g.got i) = sumN k (fun i => if L i then 0 else wants i) := sumN_congr fun i hi => by
    by_cases q : L i = true
    · simp [q]
    · simp [q]; exact T.full i hi (by simpa using q)
  have e3 : sumN k (fun i => if L i then g.got i else 0) = heldL U st (fitP k fits L) := by
    have a1 : sumN k (fun i => if L i then g.got i else 0) = sumN k (fun i => sumL U (fun x => if L i then g.hold i x else 0)) := sumL_congr fun i _ => by
      by_cases q : L i = true
      · simp only [q, if_true]; exact hold_fits G fn hU hF i
      · simp only [q]; simp [sumL_zero]
    rw [a1]
    have cm := sumL_comm (fun i x => if L i then g.hold i x else 0) (List.range k) U
    unfold sumN
    rw [cm]
    refine sumL_congr fun x _ => ?_
    show sumN k (fun i => if L i then g.hold i x else 0) = _
    by_cases q : fitP k fits L x = true
    · rw [if_pos q]
      obtain ⟨i, hi, hL, hx⟩ := fitP_iff.mp q
      have b := G.bal x
      rw [T.free i x hL hx] at b
      rw [← b, Int.zero_add]
      have c : sumN n (fun i => g.hold i x) = sumN n (fun i => if L i then g.hold i x else 0) := sumN_congr fun j _ => by
        by_cases p : L j = true
        · simp [p]
        · have := G.h0 j x
          have : ¬ 0 < g.hold j x := fun z => p (T.held i x j hL hx z)
          simp [p]; omega
      rw [c]
      -- beyond k nobody is in the lot
      have d : ∀ n', k ≤ n' → sumN n' (fun i => if L i then g.hold i x else 0) = sumN k (fun i => if L i then g.hold i x else 0) := by
        intro n' h
        induction n' with
        | zero => have : k = 0 := by omega
                  subst this; rfl
        | succ n' ih =>
          by_cases z : k = n' + 1
          · subst z; rfl
          · rw [sumN_succ, ih (by omega)]
            have : L n' ≠ true := fun y => by have := T.lt n' y; omega
            simp [this]
      rw [d n hk]
    · rw [if_neg q]
      have : sumN k (fun i => if L i then g.hold i x else 0) = sumN k (fun _ => 0) := sumN_congr fun i hi => by
        by_cases p : L i = true
        · simp only [p, if_true]
          by_cases z : g.hold i x = 0
          · exact z
          · exact absurd (fitP_iff.mpr ⟨i, hi, p, (G.inn i x z).2⟩) q
        · simp [p]
      rw [this]; exact sumL_zero _
  unfold totN
  omega

/-! ### a way -/
def IsWay (fits : Nat → List κ) (g : GS κ) : List (Nat × κ) → Prop
  | [] => False
  | [(a, x)] => x ∈ fits a ∧ 0 < g.free x
  | (a, x) :: (b, y) :: r => x ∈ fits a ∧ 0 < g.hold b x ∧ IsWay fits g ((b, y) :: r)
theorem way_fits : ∀ {l : List (Nat × κ)}, IsWay fits g l → ∀ p ∈ l, p.2 ∈ fits p.1
  | [], h, _, _ => h.elim
  | [(a, x)], h, p, hp => by rw [List.mem_singleton.mp hp]; exact h.1
  | (a, x) :: (b, y) :: r, h, p, hp => by
    rcases List.mem_cons.mp hp with rfl | hp
    · exact h.1
    · exact way_fits h.2.2 p hp
theorem way_given : ∀ {l : List (Nat × κ)}, IsWay fits g l → ∀ p ∈ givenOf l, 0 < g.hold p.1 p.2
  | [], h, _, _ => h.elim
  | [(a, x)], h, p, hp => by cases hp
  | (a, x) :: (b, y) :: r, h, p, hp => by
    rcases List.mem_cons.mp hp with rfl | hp
    · exact h.2.1
    · exact way_given h.2.2 p hp
theorem way_off {L : Nat → Bool} (T : Tight k fits wants g L) : ∀ {l : List (Nat × κ)}, IsWay fits g l → ∀ p ∈ l, ∀ i, L i = true → p.2 ∉ fits i
  | [], h, _, _ => h.elim
  | [(a, x)], h, p, hp => by
    rw [List.mem_singleton.mp hp]
    intro i hi hx
    have := T.free i x hi hx
    have := h.2
    omega
  | (a, x) :: (b, y) :: r, h, p, hp => by
    have ih := way_off T h.2.2
    rcases List.mem_cons.mp hp with rfl | hp
    · intro i hi hx
      have hb := T.held i x b hi hx h.2.1
      exact ih (b, y) List.mem_cons_self b hb (way_fits h.2.2 (b, y) List.mem_cons_self)
    · exact ih p hp
theorem given_snd_mem : ∀ {l : List (Nat × κ)} {p : Nat × κ}, p ∈ givenOf l → ∃ q ∈ l, q.2 = p.2
  | [], _, h => by cases h
  | [_], _, h => by cases h
  | (a, x) :: (b, y) :: r, p, h => by
    rcases List.mem_cons.mp h with rfl | h
    · exact ⟨(a, x), List.mem_cons_self, rfl⟩
    · obtain ⟨q, h1, h2⟩ := given_snd_mem h
      exact ⟨q, List.mem_cons_of_mem _ h1, h2⟩
theorem tight_along {L : Nat → Bool} (T : Tight k fits wants g L) {steps given : List (Nat × κ)} {last : κ} {start : Nat} {v : Int} (hs : start = k) (hw : IsWay fits g steps) (hg : given = givenOf steps) (hl : ∃ p ∈ steps, p.2 = last) :
    Tight k fits wants (g.along steps given last start v) L := by
  have off := way_off T hw
  subst hg
  refine ⟨T.lt, fun i hi h => ?_, fun i x hi hx => ?_, fun i x j hi hx h => ?_⟩
  · show g.got i + (if i = start then v else 0) = wants i
    rw [if_neg (by omega), T.full i hi h]; omega
  · show g.free x - (if x = last then v else 0) = 0
    obtain ⟨p, hp, rfl⟩ := hl
    rw [if_neg (fun z : x = p.2 => off p hp i hi (z ▸ hx)), T.free i x hi hx]; omega
  · have h : 0 < g.hold j x + v * (steps.count (j, x) : Nat) - v * ((givenOf steps).count (j, x) : Nat) := h
    have c1 : steps.count (j, x) = 0 := List.count_eq_zero.mpr fun z => off _ z i hi hx
    have c2 : (givenOf steps).count (j, x) = 0 := List.count_eq_zero.mpr fun z => by
      obtain ⟨q, h1, h2⟩ := given_snd_mem z
      exact off q h1 i hi (h2 ▸ hx)
    rw [c1, c2] at h
    exact T.held i x j hi hx (by simpa using h)
/-- handed to one more, who is full -/
theorem tight_full {L : Nat → Bool} (T : Tight k fits wants g L) (h : g.got k = wants k) : Tight (k + 1) fits wants g L :=
  ⟨fun i hi => by have := T.lt i hi; omega, fun i hi hL => by
    by_cases q : i = k
    · rw [q]; exact h
    · exact T.full i (by omega) hL, T.free, T.held⟩
/-- no way from one more: all that is reached -/
theorem tight_stuck {L : Nat → Bool} (T : Tight k fits wants g L) (G : Good (k + 1) fits st g) {R : Nat → Bool} (hk : R k = true) (hlt : ∀ i, R i = true → i < k + 1) (hf : ∀ i x, R i = true → x ∈ fits i → g.free x ≤ 0) (hh : ∀ i x j, R i = true → x ∈ fits i → 0 < g.hold j x → R j = true) :
    Tight (k + 1) fits wants g (fun i => L i || R i) := by
  refine ⟨fun i hi => ?_, fun i hi h => ?_, fun i x hi hx => ?_, fun i x j hi hx h => ?_⟩
  · rcases (Bool.or_eq_true _ _).mp hi with q | q
    · have := T.lt i q; omega
    · exact hlt i q
  · obtain ⟨h1, h2⟩ := (Bool.or_eq_false_iff).mp h
    have : i ≠ k := fun z => by rw [z, hk] at h2; cases h2
    exact T.full i (by omega) h1
  · rcases (Bool.or_eq_true _ _).mp hi with q | q
    · exact T.free i x q hx
    · have := hf i x q hx
      have := G.f0 x
      omega
  · rcases (Bool.or_eq_true _ _).mp hi with q | q
    · exact (Bool.or_eq_true _ _).mpr (.inl (T.held i x j q hx h))
    · exact (Bool.or_eq_true _ _).mpr (.inr (hh i x j q hx h))
theorem good_more (G : Good k fits st g) : Good (k + 1) fits st g := by
  refine ⟨G.h0, G.f0, fun i x h => ⟨by have := (G.inn i x h).1; omega, (G.inn i x h).2⟩, fun x => ?_, G.got⟩
  rw [sumN_succ]
  have : g.hold k x = 0 := Classical.byContradiction fun z => by have := (G.inn k x z).1; omega
  rw [this]
  have := G.bal x
  omega
/-- behind k askers -/
structure Dealt (k : Nat) (fits : Nat → List κ) (wants : Nat → Int) (U : List κ) (st : κ → Int) (g : GS κ) : Prop where
  good : Good k fits st g
  le : ∀ i, i < k → g.got i ≤ wants i
  tight : ∃ L, Tight k fits wants g L
  sums : ∀ j, j ≤ k → ∃ L, sumN j g.got = totN j fits wants U st L
theorem dealt_zero (h : ∀ x, 0 ≤ st x) : Dealt 0 fits wants U st ⟨st, fun _ _ => 0, fun _ => 0⟩ := by
  refine ⟨⟨fun _ _ => Int.le_refl _, h, fun _ _ z => absurd rfl z, fun x => ?_, fun i => (sumL_zero _).symm⟩, fun i hi => by omega, ⟨fun _ => false, ⟨fun i h => (nomatch h), fun i hi => absurd hi (Nat.not_lt_zero _), fun _ _ h => (nomatch h), fun _ _ _ h => (nomatch h)⟩⟩, fun j hj => ?_⟩
  · show st x + sumN 0 (fun _ => 0) = st x
    rw [sumN_zero]; omega
  · have : j = 0 := by omega
    subst this
    refine ⟨fun _ => false, ?_⟩
    show (0 : Int) = sumN 0 _ + heldL U st _
    have e : heldL U st (fitP 0 fits fun _ => false) = 0 := by
      unfold heldL
      rw [sumL_congr (g := fun _ => 0) fun x _ => by simp [fitP]]
      exact sumL_zero U
    rw [e, sumN_zero]; omega
/-! ### the least sum, one behind the other -/
def mo (U : List κ) (st : κ → Int) : List (List κ × Int) → (κ → Bool) → Int
  | [], P => heldL U st P
  | r :: rs, P => min (r.2 + mo U st rs P) (mo U st rs (fun x => P x || decide (x ∈ r.1)))
def totR (U : List κ) (st : κ → Int) : List (List κ × Int) → (κ → Bool) → (Nat → Bool) → Int
  | [], P, _ => heldL U st P
  | r :: rs, P, L => if L 0 then totR U st rs (fun x => P x || decide (x ∈ r.1)) (fun i => L (i + 1)) else r.2 + totR U st rs P (fun i => L (i + 1))
theorem mo_le : ∀ (rs : List (List κ × Int)) (P : κ → Bool) (L : Nat → Bool), mo U st rs P ≤ totR U st rs P L
  | [], P, L => Int.le_refl _
  | r :: rs, P, L => by
    have h1 := mo_le rs P (fun i => L (i + 1))
    have h2 := mo_le rs (fun x => P x || decide (x ∈ r.1)) (fun i => L (i + 1))
    unfold mo totR
    by_cases q : L 0 = true
    · rw [if_pos q]; omega
    · rw [if_neg q]; omega
theorem mo_ex : ∀ (rs : List (List κ × Int)) (P : κ → Bool), ∃ L, mo U st rs P = totR U st rs P L
  | [], P => ⟨fun _ => false, rfl⟩
  | r :: rs, P => by
    obtain ⟨L1, h1⟩ := mo_ex rs P
    obtain ⟨L2, h2⟩ := mo_ex rs (fun x => P x || decide (x ∈ r.1))
    by_cases q : r.2 + mo U st rs P ≤ mo U st rs (fun x => P x || decide (x ∈ r.1))
    · refine ⟨fun i => match i with | 0 => false | i + 1 => L1 i, ?_⟩
      unfold mo totR
      simp only [Bool.false_eq_true, if_false]
      rw [← h1]; omega
    · refine ⟨fun i => match i with | 0 => true | i + 1 => L2 i, ?_⟩
      unfold mo totR
      simp only [if_true]
      rw [← h2]; omega
theorem sumN_first (n : Nat) (f : Nat → Int) : sumN (n + 1) f = f 0 + sumN n (fun i => f (i + 1)) := by
  unfold sumN
  rw [List.range_succ_eq_map]
  simp only [sumL, sumL_map]
def fitsAt (rs : List (List κ × Int)) (i : Nat) : List κ := ((rs[i]?).map (·.1)).getD []
def wantAt (rs : List (List κ × Int)) (i : Nat) : Int := ((rs[i]?).map (·.2)).getD 0
theorem tot_eq : ∀ (rs : List (List κ × Int)) (P : κ → Bool) (L : Nat → Bool), totR U st rs P L = sumN rs.length (fun i => if L i then 0 else wantAt rs i) + heldL U st (fun x => P x || fitP rs.length (fitsAt rs) L x)
  | [], P, L => by simp [totR, fitP, sumN_zero]
  | r :: rs, P, L => by
    unfold totR
    rw [tot_eq rs, tot_eq rs, List.length_cons, sumN_first]
    have ef : ∀ x, fitP (rs.length + 1) (fitsAt (r :: rs)) L x = ((L 0 && decide (x ∈ r.1)) || fitP rs.length (fitsAt rs) (fun i => L (i + 1)) x) := fun x => by
      unfold fitP
      rw [List.range_succ_eq_map, List.any_cons, List.any_map]
      rfl
    have ew : sumN rs.length (fun i => if L (i + 1) then 0 else wantAt (r :: rs) (i + 1)) = sumN rs.length (fun i => if L (i + 1) then 0 else wantAt rs i) := rfl
    have e0 : wantAt (r :: rs) 0 = r.2 := rfl
    rw [ew, e0]
    by_cases q : L 0 = true
    · rw [if_pos q, if_pos q, Int.zero_add]
      congr 1
      unfold heldL
      refine sumL_congr fun x _ => ?_
      simp only [ef, q, Bool.true_and, Bool.or_assoc]
    · rw [if_neg q, if_neg q]
      have : heldL U st (fun x => P x || fitP rs.length (fitsAt rs) (fun i => L (i + 1)) x) = heldL U st (fun x => P x || fitP (rs.length + 1) (fitsAt (r :: rs)) L x) := by
        unfold heldL
        refine sumL_congr fun x _ => ?_
        simp only [ef]
        have : L 0 = false := by simpa using q
        simp [this]
      rw [this]; omega
/-- how many bags rows can get together -/
def most (U : List κ) (st : κ → Int) (rs : List (List κ × Int)) : Int := mo U st rs (fun _ => false)
theorem most_le (rs : List (List κ × Int)) (L : Nat → Bool) : most U st rs ≤ totN rs.length (fitsAt rs) (wantAt rs) U st L := by
  have := mo_le (U := U) (st := st) rs (fun _ => false) L
  rw [tot_eq] at this
  simpa [most, totN] using this
theorem most_ex (rs : List (List κ × Int)) : ∃ L, most U st rs = totN rs.length (fitsAt rs) (wantAt rs) U st L := by
  obtain ⟨L, h⟩ := mo_ex (U := U) (st := st) rs (fun _ => false)
  rw [tot_eq] at h
  exact ⟨L, by simpa [most, totN] using h⟩
theorem totN_congr {n : Nat} {f f' : Nat → List κ} {w w' : Nat → Int} {L : Nat → Bool} (hf : ∀ i, i < n → f i = f' i) (hw : ∀ i, i < n → w i = w' i) : totN n f w U st L = totN n f' w' U st L := by
  unfold totN
  congr 1
  · exact sumN_congr fun i hi => by rw [hw i hi]
  · unfold heldL
    refine sumL_congr fun x _ => ?_
    have : fitP n f L x = fitP n f' L x := by
      unfold fitP
      rw [Bool.eq_iff_iff, List.any_eq_true, List.any_eq_true]
      constructor
      · rintro ⟨i, hi, h⟩
        exact ⟨i, hi, by rw [← hf i (List.mem_range.mp hi)]; exact h⟩
      · rintro ⟨i, hi, h⟩
        exact ⟨i, hi, by rw [hf i (List.mem_range.mp hi)]; exact h⟩
    rw [this]
/-- what is dealt: each beginning gets as much as it can -/
theorem dealt_most {rs : List (List κ × Int)} (Dl : Dealt rs.length (fitsAt rs) (wantAt rs) U st g) (fn : ∀ i, (fitsAt rs i).Nodup) (hU : U.Nodup) (hF : ∀ i x, x ∈ fitsAt rs i → x ∈ U) {j : Nat} (hj : j ≤ rs.length) : sumN j g.got = most U st (rs.take j) := by
  have cf : ∀ i, i < j → fitsAt rs i = fitsAt (rs.take j) i := fun i hi => by unfold fitsAt; rw [List.getElem?_take, if_pos hi]
  have cw : ∀ i, i < j → wantAt rs i = wantAt (rs.take j) i := fun i hi => by unfold wantAt; rw [List.getElem?_take, if_pos hi]
  have hl : (rs.take j).length = j := by rw [List.length_take]; omega
  refine Int.le_antisymm ?_ ?_
  · obtain ⟨L, h⟩ := most_ex (U := U) (st := st) (rs.take j)
    rw [h, hl, ← totN_congr cf cw]
    exact got_le Dl.good fn hU hF (fun i hi => Dl.le i (by omega)) hj L
  · obtain ⟨L, h⟩ := Dl.sums j hj
    rw [h, totN_congr cf cw]
    have := most_le (U := U) (st := st) (rs.take j) L
    rw [hl] at this; exact this
end
end GV

namespace HL
open PySem L2 DL DM
/-- what is known of the classes Asker and Line -/
structure HF (K : PySem.W.Frag) : Prop where
  c_Asker : Cls K (ga K "Asker")
  i_Asker : InsTy K (ga K "Asker")
  f_Asker_row : NoAttr K (ga K "Asker") "row"
  t_Asker_Asker : PySem.W.kitOne K (.ref (ga K "Asker")) (.ref (ga K "Asker")) = some true
  t_Asker_Line : PySem.W.kitOne K (.ref (ga K "Asker")) (.ref (ga K "Line")) = some false
  t_Line_Asker : PySem.W.kitOne K (.ref (ga K "Line")) (.ref (ga K "Asker")) = some false
  c_Line : Cls K (ga K "Line")
  i_Line : InsTy K (ga K "Line")
  f_Line_all : NoAttr K (ga K "Line") "all"
  f_Line_every : NoAttr K (ga K "Line") "every"
  t_Line_Line : PySem.W.kitOne K (.ref (ga K "Line")) (.ref (ga K "Line")) = some true
-- BEGIN is_name
def t_is_name_0 (K : PySem.W.Frag) : TDS :=
  dRet (dOp (eqR false) (dLc (iS (dVar 0)) (gN 1) (dTest (dOp (inR true) (dVar 1) (dC (.str "abcdefghijklmnopqrstuvwxyz")))) (dVar 1) [1]) (dLst (dNil)))
def t_is_name_1 (K : PySem.W.Frag) : TDS :=
  dIfS (dOr (dNot (dTest (dCB (isiR K) (dCons (dVar 0) (dCons (dC (.opq (.ty "str"))) (dNil)))))) (dNot (dTest (dChain leR leR (dC (.int 1)) (dCB lenR (dCons (dVar 0) (dNil))) (dC (.int 10)))))) (dRet (dC (.bl false))) (dNext)
def t_is_name (K : PySem.W.Frag) : TDS :=
  dSeq ((t_is_name_1 K))
  ((t_is_name_0 K))
-- END
-- BEGIN are_names
def t_are_names_0 (K : PySem.W.Frag) (S_is_name : SpD) : TDS :=
  dRet (dOp (eqR false) (dUn setLenR (dVar 0)) (dCB lenR (dCons (dVar 0) (dNil))))
def t_are_names_1 (K : PySem.W.Frag) (S_is_name : SpD) : TDS :=
  dIfS (dOr (dNot (dTest (dCB (isiR K) (dCons (dVar 0) (dCons (dC (.opq (.ty "list"))) (dNil)))))) (dTest (dOp (eqR true) (dLc (iL (dVar 0)) (gN 1) (dNot (dTest (dCall S_is_name (dCons (dVar 1) (dNil))))) (dVar 1) [1]) (dLst (dNil))))) (dRet (dC (.bl false))) (dNext)
def t_are_names (K : PySem.W.Frag) (S_is_name : SpD) : TDS :=
  dSeq ((t_are_names_1 K S_is_name))
  ((t_are_names_0 K S_is_name))
-- END
-- BEGIN is_count
def t_is_count_0 (K : PySem.W.Frag) : TDS :=
  dRet (dAndV (dCB (isiR K) (dCons (dVar 0) (dCons (dC (.opq (.ty "int"))) (dNil)))) (dAndV (dNotV (dCB (isiR K) (dCons (dVar 0) (dCons (dC (.opq (.ty "bool"))) (dNil))))) (dOp geR (dVar 0) (dC (.int 0)))))
def t_is_count (K : PySem.W.Frag) : TDS :=
  (t_is_count_0 K)
-- END
-- BEGIN Asker___init__
def t_Asker___init___0 (K : PySem.W.Frag) (S_is_count : SpD) (S_are_names : SpD) (S_is_name : SpD) : TDS :=
  dSetF K (dVar 0) (dTup (dCons (dVar 1) (dCons (dCB tupleR (dCons (dCB sort1R (dCons (dVar 2) (dNil))) (dNil))) (dCons (dVar 3) (dNil))))) "row"
def t_Asker___init___1 (K : PySem.W.Frag) (S_is_count : SpD) (S_are_names : SpD) (S_is_name : SpD) : TDS :=
  dIfS (dOr (dNot (dTest (dCall S_is_count (dCons (dVar 3) (dNil))))) (dTest (dOp (eqR false) (dVar 3) (dC (.int 0))))) (dNever) (dNext)
def t_Asker___init___2 (K : PySem.W.Frag) (S_is_count : SpD) (S_are_names : SpD) (S_is_name : SpD) : TDS :=
  dIfS (dOr (dNot (dTest (dCall S_are_names (dCons (dVar 2) (dNil))))) (dTest (dOp (eqR false) (dVar 2) (dLst (dNil))))) (dNever) (dNext)
def t_Asker___init___3 (K : PySem.W.Frag) (S_is_count : SpD) (S_are_names : SpD) (S_is_name : SpD) : TDS :=
  dIfS (dNot (dTest (dCall S_is_name (dCons (dVar 1) (dNil))))) (dNever) (dNext)
def t_Asker___init__ (K : PySem.W.Frag) (S_is_count : SpD) (S_are_names : SpD) (S_is_name : SpD) : TDS :=
  dSeq ((t_Asker___init___3 K S_is_count S_are_names S_is_name))
  (dSeq ((t_Asker___init___2 K S_is_count S_are_names S_is_name))
  (dSeq ((t_Asker___init___1 K S_is_count S_are_names S_is_name))
  ((t_Asker___init___0 K S_is_count S_are_names S_is_name))))
-- END
-- BEGIN Asker_fits
def t_Asker_fits_0 (K : PySem.W.Frag) : TDS :=
  dRet (dCB listR (dCons (dOp ixR (dFld K (dVar 0) "row") (dC (.int 1))) (dNil)))
def t_Asker_fits (K : PySem.W.Frag) : TDS :=
  (t_Asker_fits_0 K)
-- END
-- BEGIN Asker_name
def t_Asker_name_0 (K : PySem.W.Frag) : TDS :=
  dRet (dOp ixR (dFld K (dVar 0) "row") (dC (.int 0)))
def t_Asker_name (K : PySem.W.Frag) : TDS :=
  (t_Asker_name_0 K)
-- END
-- BEGIN Asker_most
def t_Asker_most_0 (K : PySem.W.Frag) : TDS :=
  dRet (dOp ixR (dFld K (dVar 0) "row") (dC (.int 2)))
def t_Asker_most (K : PySem.W.Frag) : TDS :=
  (t_Asker_most_0 K)
-- END
-- BEGIN Asker___eq__
def t_Asker___eq___0 (K : PySem.W.Frag) : TDS :=
  dRet (dAndV (dCB (isiR K) (dCons (dVar 1) (dCons (dC (.opq (.ref (ga K "Asker")))) (dNil)))) (dOp (eqR false) (dFld K (dVar 0) "row") (dFld K (dVar 1) "row")))
def t_Asker___eq__ (K : PySem.W.Frag) : TDS :=
  (t_Asker___eq___0 K)
-- END
-- BEGIN Line___eq__
def t_Line___eq___0 (K : PySem.W.Frag) : TDS :=
  dRet (dAndV (dCB (isiR K) (dCons (dVar 1) (dCons (dC (.opq (.ref (ga K "Line")))) (dNil)))) (dOp (eqR false) (dFld K (dVar 0) "every") (dFld K (dVar 1) "every")))
def t_Line___eq__ (K : PySem.W.Frag) : TDS :=
  (t_Line___eq___0 K)
-- END
-- BEGIN Line___init__
def t_Line___init___0 (K : PySem.W.Frag) : TDS :=
  dSetF K (dVar 0) (dCB tupleR (dCons (dLc (iL (dVar 1)) (gN 3) (dYes) (dFld K (dVar 3) "row") [3]) (dNil))) "every"
def t_Line___init___1 (K : PySem.W.Frag) : TDS :=
  dSetF K (dVar 0) (dCB tupleR (dCons (dVar 1) (dNil))) "all"
def t_Line___init___2 (K : PySem.W.Frag) : TDS :=
  dIfS (dTest (dOp (eqR true) (dUn setLenR (dVar 2)) (dCB lenR (dCons (dVar 2) (dNil))))) (dNever) (dNext)
def t_Line___init___3 (K : PySem.W.Frag) : TDS :=
  dAsg (dLc (iL (dVar 1)) (gN 3) (dYes) (dOp ixR (dFld K (dVar 3) "row") (dC (.int 0))) [3]) (gN 2)
def t_Line___init___4 (K : PySem.W.Frag) : TDS :=
  dIfS (dOr (dNot (dTest (dCB (isiR K) (dCons (dVar 1) (dCons (dC (.opq (.ty "list"))) (dNil)))))) (dTest (dOp (eqR true) (dLc (iL (dVar 1)) (gN 3) (dNot (dTest (dCB (isiR K) (dCons (dVar 3) (dCons (dC (.opq (.ref (ga K "Asker")))) (dNil)))))) (dVar 3) [3]) (dLst (dNil))))) (dNever) (dNext)
def t_Line___init__ (K : PySem.W.Frag) : TDS :=
  dSeq ((t_Line___init___4 K))
  (dSeq ((t_Line___init___3 K))
  (dSeq ((t_Line___init___2 K))
  (dSeq ((t_Line___init___1 K))
  ((t_Line___init___0 K)))))
-- END
-- BEGIN Line_askers
def t_Line_askers_0 (K : PySem.W.Frag) : TDS :=
  dRet (dCB listR (dCons (dFld K (dVar 0) "all") (dNil)))
def t_Line_askers (K : PySem.W.Frag) : TDS :=
  (t_Line_askers_0 K)
-- END
-- BEGIN Line_names
def t_Line_names_0 (K : PySem.W.Frag) : TDS :=
  dRet (dLc (iL (dFld K (dVar 0) "every")) (gN 1) (dYes) (dOp ixR (dVar 1) (dC (.int 0))) [1])
def t_Line_names (K : PySem.W.Frag) : TDS :=
  (t_Line_names_0 K)
-- END
-- BEGIN Line___len__
def t_Line___len___0 (K : PySem.W.Frag) : TDS :=
  dRet (dCB lenR (dCons (dFld K (dVar 0) "every") (dNil)))
def t_Line___len__ (K : PySem.W.Frag) : TDS :=
  (t_Line___len___0 K)
-- END
-- BEGIN Line_kinds
def t_Line_kinds_0 (K : PySem.W.Frag) : TDS :=
  dRet (dUn setSortR (dLc2 (iL (dFld K (dVar 0) "every")) (gN 1) (dYes) (iL (dOp ixR (dVar 1) (dC (.int 1)))) (gN 2) (dYes) (dVar 2) [1, 2] [2]))
def t_Line_kinds (K : PySem.W.Frag) : TDS :=
  (t_Line_kinds_0 K)
-- END
-- BEGIN check_known
def t_check_known_0 (K : PySem.W.Frag) (S_Line_names : SpD) : TDS :=
  dIfS (dOr (dNot (dTest (dCB (isiR K) (dCons (dVar 1) (dCons (dC (.opq (.ty "str"))) (dNil)))))) (dTest (dOp (inR true) (dVar 1) (dMeth (ga K "Line") "names" S_Line_names (dVar 0) dNil)))) (dNever) (dNext)
def t_check_known (K : PySem.W.Frag) (S_Line_names : SpD) : TDS :=
  (t_check_known_0 K S_Line_names)
-- END
-- BEGIN Line_place
def t_Line_place_0 (K : PySem.W.Frag) (S_Line_names : SpD) (S_check_known : SpD) : TDS :=
  dRet (dBm idxR (dMeth (ga K "Line") "names" S_Line_names (dVar 0) dNil) (dCons (dVar 1) (dNil)))
def t_Line_place_1 (K : PySem.W.Frag) (S_Line_names : SpD) (S_check_known : SpD) : TDS :=
  dDrop (dCall S_check_known (dCons (dVar 0) (dCons (dVar 1) (dNil))))
def t_Line_place (K : PySem.W.Frag) (S_Line_names : SpD) (S_check_known : SpD) : TDS :=
  dSeq ((t_Line_place_1 K S_Line_names S_check_known))
  ((t_Line_place_0 K S_Line_names S_check_known))
-- END
-- BEGIN Line_asker
def t_Line_asker_0 (K : PySem.W.Frag) (S_Line_place : SpD) : TDS :=
  dRet (dOp ixR (dFld K (dVar 0) "all") (dMeth (ga K "Line") "place" S_Line_place (dVar 0) (dCons (dVar 1) (dNil))))
def t_Line_asker (K : PySem.W.Frag) (S_Line_place : SpD) : TDS :=
  (t_Line_asker_0 K S_Line_place)
-- END
-- BEGIN _law_purse
def t__law_purse_0 (K : PySem.W.Frag) : TDS :=
  dRet (dLst (dCons (dOp (intRc (fun _ j => 0 < j) fun i j => .int (i % j)) (dCB max2R (dCons (dOp (intR fun i j => .int (i - j)) (dVar 2) (dOp (intRc CPowW fun i j => .int (i ^ j.toNat)) (dC (.int 10)) (dC (.int 18)))) (dCons (dC (.int 0)) (dNil)))) (dOp (intRc CPowW fun i j => .int (i ^ j.toNat)) (dOp (intRc CPowW fun i j => .int (i ^ j.toNat)) (dC (.int 10)) (dC (.int 60))) (dC (.int 8)))) (dCons (dOp (intRc (fun _ j => 0 < j) fun i j => .int (i % j)) (dVar 2) (dC (.int 2147483629))) (dCons (dC (.int 0)) (dCons (dVar 1) (dNil))))))
def t__law_purse_1 (K : PySem.W.Frag) : TDS :=
  dAsg (dCB sumR (dCons (dSl (dVar 0) (dPart (dVar 1)) (dPart (dOp addR (dVar 1) (dC (.int 1))))) (dNil))) (gN 2)
def t__law_purse (K : PySem.W.Frag) : TDS :=
  dSeq ((t__law_purse_1 K))
  ((t__law_purse_0 K))
-- END
-- BEGIN _law_purses
def t__law_purses_0 (K : PySem.W.Frag) (S__law_purse : SpD) : TDS :=
  dRet (dLc (iR1 (dCons (dCB max2R (dCons (dC (.int 1)) (dCons (dCB min2R (dCons (dVar 1) (dCons (dCB lenR (dCons (dVar 0) (dNil))) (dNil)))) (dNil)))) (dNil))) (gN 2) (dYes) (dCall S__law_purse (dCons (dVar 0) (dCons (dVar 2) (dNil)))) [2])
def t__law_purses (K : PySem.W.Frag) (S__law_purse : SpD) : TDS :=
  (t__law_purses_0 K S__law_purse)
-- END
-- BEGIN _law_mixed
def t__law_mixed_0 (K : PySem.W.Frag) : TDS :=
  dRet (dOp (intRc (fun _ j => 0 < j) fun i j => .int (i % j)) (dOp (intRc CMulX fun i j => .int (i * j)) (dVar 3) (dC (.int 48271))) (dC (.int 2147483587)))
def t__law_mixed_1 (K : PySem.W.Frag) : TDS :=
  dAsg (dOp (intRc (fun _ j => 0 < j) fun i j => .int (i % j)) (dOp addR (dOp (intRc CMulX fun i j => .int (i * j)) (dVar 3) (dVar 3)) (dC (.int 40503))) (dC (.int 2147483629))) (gN 3)
def t__law_mixed_2 (K : PySem.W.Frag) : TDS :=
  dAsg (dOp (intRc (fun _ j => 0 < j) fun i j => .int (i % j)) (dOp addR (dOp addR (dVar 3) (dOp (intRc CMulX fun i j => .int (i * j)) (dC (.int 7919)) (dVar 2))) (dVar 1)) (dC (.int 2147483647))) (gN 3)
def t__law_mixed_3 (K : PySem.W.Frag) : TDS :=
  dAsg (dOp addR (dOp (intRc CMulX fun i j => .int (i * j)) (dVar 0) (dC (.int 69069))) (dOp (intRc CMulX fun i j => .int (i * j)) (dOp (intRc CMulX fun i j => .int (i * j)) (dC (.int 104729)) (dVar 1)) (dVar 1))) (gN 3)
def t__law_mixed (K : PySem.W.Frag) : TDS :=
  dSeq ((t__law_mixed_3 K))
  (dSeq ((t__law_mixed_2 K))
  (dSeq ((t__law_mixed_1 K))
  ((t__law_mixed_0 K))))
-- END
-- BEGIN _law_draw
def t__law_draw_0 (K : PySem.W.Frag) (S__law_mixed : SpD) : TDS :=
  dRet (dOp (intRc (fun _ j => 0 < j) fun i j => .int (i % j)) (dVar 2) (dVar 1))
def t__law_draw_1 (K : PySem.W.Frag) (S__law_mixed : SpD) : TDS :=
  dAsg (dOp addR (dOp (intRc CMulX fun i j => .int (i * j)) (dVar 2) (dC (.int 2147483587))) (dCall S__law_mixed (dCons (dOp ixR (dVar 0) (dC (.int 1))) (dCons (dOp ixR (dVar 0) (dC (.int 2))) (dCons (dOp ixR (dVar 0) (dC (.int 3))) (dNil)))))) (gN 2)
def t__law_draw_2 (K : PySem.W.Frag) (S__law_mixed : SpD) : TDS :=
  dAsg (dOp addR (dOp ixR (dVar 0) (dC (.int 2))) (dC (.int 1))) (gSet (dVar 0) (dC (.int 2)))
def t__law_draw_3 (K : PySem.W.Frag) (S__law_mixed : SpD) : TDS :=
  dFor (iR1 (dCons (dOp addR (dC (.int 1)) (dOp (intRc CDivW fun i j => .int (i / j)) (dBits (dVar 1)) (dC (.int 28)))) (dNil))) (gN 3) (dSeq ((t__law_draw_2 K S__law_mixed))
  ((t__law_draw_1 K S__law_mixed)))
def t__law_draw_4 (K : PySem.W.Frag) (S__law_mixed : SpD) : TDS :=
  dAsg (dC (.int 0)) (gN 2)
def t__law_draw_5 (K : PySem.W.Frag) (S__law_mixed : SpD) : TDS :=
  dAsg (dOp (intRc CDivW fun i j => .int (i / j)) (dOp ixR (dVar 0) (dC (.int 0))) (dVar 1)) (gSet (dVar 0) (dC (.int 0)))
def t__law_draw_6 (K : PySem.W.Frag) (S__law_mixed : SpD) : TDS :=
  dAsg (dOp (intRc (fun _ j => 0 < j) fun i j => .int (i % j)) (dOp ixR (dVar 0) (dC (.int 0))) (dVar 1)) (gN 4)
def t__law_draw_7 (K : PySem.W.Frag) (S__law_mixed : SpD) : TDS :=
  dIfS (dTest (dOp gtR (dOp ixR (dVar 0) (dC (.int 0))) (dC (.int 0)))) (dSeq ((t__law_draw_6 K S__law_mixed))
  (dSeq ((t__law_draw_5 K S__law_mixed))
  (dRet (dVar 4)))) (dNext)
def t__law_draw (K : PySem.W.Frag) (S__law_mixed : SpD) : TDS :=
  dSeq ((t__law_draw_7 K S__law_mixed))
  (dSeq ((t__law_draw_4 K S__law_mixed))
  (dSeq ((t__law_draw_3 K S__law_mixed))
  ((t__law_draw_0 K S__law_mixed))))
-- END
-- BEGIN _law_word
def t__law_word_0 (K : PySem.W.Frag) (S__law_draw : SpD) : TDS :=
  dAsg (dOp addR (dVar 1) (dOp ixR (dC (.str "abcdefghijklmnopqrstuvwxyz")) (dCall S__law_draw (dCons (dVar 0) (dCons (dC (.int 26)) (dNil)))))) (gN 1)
def t__law_word_1 (K : PySem.W.Frag) (S__law_draw : SpD) : TDS :=
  dFor (iR1 (dCons (dOp addR (dC (.int 1)) (dCall S__law_draw (dCons (dVar 0) (dCons (dC (.int 10)) (dNil))))) (dNil))) (gN 2) ((t__law_word_0 K S__law_draw))
def t__law_word_2 (K : PySem.W.Frag) (S__law_draw : SpD) : TDS :=
  dAsg (dC (.str "")) (gN 1)
def t__law_word (K : PySem.W.Frag) (S__law_draw : SpD) : TDS :=
  dSeq ((t__law_word_2 K S__law_draw))
  (dSeq ((t__law_word_1 K S__law_draw))
  (dRet (dVar 1)))
-- END
-- BEGIN _law_shuffled
def t__law_shuffled_0 (K : PySem.W.Frag) (S__law_draw : SpD) : TDS :=
  dDrop (dBm insR (dVar 2) (dCons (dCall S__law_draw (dCons (dVar 0) (dCons (dOp addR (dCB lenR (dCons (dVar 2) (dNil))) (dC (.int 1))) (dNil)))) (dCons (dVar 3) (dNil))))
def t__law_shuffled_1 (K : PySem.W.Frag) (S__law_draw : SpD) : TDS :=
  dFor (iL (dVar 1)) (gN 3) ((t__law_shuffled_0 K S__law_draw))
def t__law_shuffled_2 (K : PySem.W.Frag) (S__law_draw : SpD) : TDS :=
  dAsg (dLst (dNil)) (gN 2)
def t__law_shuffled (K : PySem.W.Frag) (S__law_draw : SpD) : TDS :=
  dSeq ((t__law_shuffled_2 K S__law_draw))
  (dSeq ((t__law_shuffled_1 K S__law_draw))
  (dRet (dVar 2)))
-- END
-- BEGIN _law_kinds
def t__law_kinds_0 (K : PySem.W.Frag) (S__law_shuffled : SpD) (S__law_word : SpD) : TDS :=
  dRet (dSl (dCall S__law_shuffled (dCons (dVar 0) (dCons (dOp addR (dVar 2) (dLc (iL (dLst (dCons (dVar 3) (dNil)))) (gN 4) (dTest (dOp (inR true) (dVar 4) (dVar 2))) (dVar 4) [4])) (dNil)))) (dNoPart) (dPart (dVar 1)))
def t__law_kinds_1 (K : PySem.W.Frag) (S__law_shuffled : SpD) (S__law_word : SpD) : TDS :=
  dAsg (dTup (dCons (dLst (dCons (dC (.str "a")) (dCons (dC (.str "ab")) (dCons (dC (.str "b")) (dCons (dC (.str "o")) (dCons (dC (.str "none")) (dCons (dC (.str "ann")) (dCons (dC (.str "aaaaaaaaaa")) (dNil))))))))) (dCons (dCall S__law_word (dCons (dVar 0) (dNil))) (dNil)))) (gTup' 2 (gCons' (gN 2) (gCons' (gN 3) (gNil'))))
def t__law_kinds (K : PySem.W.Frag) (S__law_shuffled : SpD) (S__law_word : SpD) : TDS :=
  dSeq ((t__law_kinds_1 K S__law_shuffled S__law_word))
  ((t__law_kinds_0 K S__law_shuffled S__law_word))
-- END
-- BEGIN _law_one_of
def t__law_one_of_0 (K : PySem.W.Frag) (S__law_draw : SpD) : TDS :=
  dRet (dOp ixR (dVar 1) (dCall S__law_draw (dCons (dVar 0) (dCons (dCB lenR (dCons (dVar 1) (dNil))) (dNil)))))
def t__law_one_of (K : PySem.W.Frag) (S__law_draw : SpD) : TDS :=
  (t__law_one_of_0 K S__law_draw)
-- END
-- BEGIN _law_names
def t__law_names_0 (K : PySem.W.Frag) (S__law_shuffled : SpD) (S__law_word : SpD) : TDS :=
  dRet (dSl (dCall S__law_shuffled (dCons (dVar 0) (dCons (dOp addR (dVar 2) (dLc (iL (dLst (dCons (dVar 3) (dNil)))) (gN 4) (dTest (dOp (inR true) (dVar 4) (dVar 2))) (dVar 4) [4])) (dNil)))) (dNoPart) (dPart (dVar 1)))
def t__law_names_1 (K : PySem.W.Frag) (S__law_shuffled : SpD) (S__law_word : SpD) : TDS :=
  dAsg (dTup (dCons (dLst (dCons (dC (.str "ann")) (dCons (dC (.str "a")) (dCons (dC (.str "ab")) (dCons (dC (.str "b")) (dCons (dC (.str "none")) (dCons (dC (.str "nobody")) (dCons (dC (.str "end")) (dCons (dC (.str "zzzzzzzzzz")) (dNil)))))))))) (dCons (dCall S__law_word (dCons (dVar 0) (dNil))) (dNil)))) (gTup' 2 (gCons' (gN 2) (gCons' (gN 3) (gNil'))))
def t__law_names (K : PySem.W.Frag) (S__law_shuffled : SpD) (S__law_word : SpD) : TDS :=
  dSeq ((t__law_names_1 K S__law_shuffled S__law_word))
  ((t__law_names_0 K S__law_shuffled S__law_word))
-- END
-- BEGIN _law_most
def t__law_most_0 (K : PySem.W.Frag) (S__law_one_of : SpD) (S__law_draw : SpD) : TDS :=
  dRet (dCall S__law_one_of (dCons (dVar 0) (dCons (dSl (dVar 1) (dNoPart) (dPart (dOp addR (dC (.int 4)) (dCall S__law_draw (dCons (dVar 0) (dCons (dC (.int 4)) (dNil))))))) (dNil))))
def t__law_most_1 (K : PySem.W.Frag) (S__law_one_of : SpD) (S__law_draw : SpD) : TDS :=
  dAsg (dLst (dCons (dC (.int 1)) (dCons (dC (.int 1)) (dCons (dC (.int 2)) (dCons (dC (.int 3)) (dCons (dOp addR (dC (.int 1)) (dCall S__law_draw (dCons (dVar 0) (dCons (dC (.int 9)) (dNil))))) (dCons (dOp addR (dC (.int 1)) (dCall S__law_draw (dCons (dVar 0) (dCons (dOp (intRc CPowW fun i j => .int (i ^ j.toNat)) (dC (.int 10)) (dC (.int 9))) (dNil))))) (dCons (dOp addR (dOp (intRc CPowW fun i j => .int (i ^ j.toNat)) (dC (.int 10)) (dC (.int 29))) (dCall S__law_draw (dCons (dVar 0) (dCons (dC (.int 9)) (dNil))))) (dNil))))))))) (gN 1)
def t__law_most (K : PySem.W.Frag) (S__law_one_of : SpD) (S__law_draw : SpD) : TDS :=
  dSeq ((t__law_most_1 K S__law_one_of S__law_draw))
  ((t__law_most_0 K S__law_one_of S__law_draw))
-- END
-- BEGIN _law_free
def t__law_free_0 (K : PySem.W.Frag) : TDS :=
  dRet (dOp ixR (dLc (iL (dVar 1)) (gN 2) (dTest (dOp (inR true) (dVar 2) (dVar 0))) (dVar 2) [2]) (dC (.int 0)))
def t__law_free_1 (K : PySem.W.Frag) : TDS :=
  dAsg (dLst (dCons (dC (.str "sparename")) (dCons (dC (.str "otherspare")) (dCons (dC (.str "thirdone")) (dCons (dC (.str "fourthone")) (dCons (dC (.str "fifthone")) (dCons (dC (.str "sixthone")) (dCons (dC (.str "seventhone")) (dNil))))))))) (gN 1)
def t__law_free (K : PySem.W.Frag) : TDS :=
  dSeq ((t__law_free_1 K))
  ((t__law_free_0 K))
-- END
-- BEGIN _law_kinds_of
def t__law_kinds_of_0 (K : PySem.W.Frag) (S_Asker_fits : SpD) : TDS :=
  dAsg (dOp addR (dVar 1) (dLc (iL (dProp (ga K "Asker") S_Asker_fits (dVar 2))) (gN 3) (dTest (dOp (inR true) (dVar 3) (dVar 1))) (dVar 3) [3])) (gN 1)
def t__law_kinds_of_1 (K : PySem.W.Frag) (S_Asker_fits : SpD) : TDS :=
  dFor (iL (dVar 0)) (gN 2) ((t__law_kinds_of_0 K S_Asker_fits))
def t__law_kinds_of_2 (K : PySem.W.Frag) (S_Asker_fits : SpD) : TDS :=
  dAsg (dLst (dNil)) (gN 1)
def t__law_kinds_of (K : PySem.W.Frag) (S_Asker_fits : SpD) : TDS :=
  dSeq ((t__law_kinds_of_2 K S_Asker_fits))
  (dSeq ((t__law_kinds_of_1 K S_Asker_fits))
  (dRet (dVar 1)))
-- END
-- BEGIN _law_asker
def t__law_asker_0 (K : PySem.W.Frag) (S_Asker___init__ : SpD) (S__law_draw : SpD) (S__law_most : SpD) (S__law_shuffled : SpD) : TDS :=
  dRet (dMake (ga K "Asker") S_Asker___init__ (dCons (dVar 1) (dCons (dSl (dVar 3) (dNoPart) (dPart (dOp addR (dC (.int 1)) (dCall S__law_draw (dCons (dVar 0) (dCons (dCB min2R (dCons (dCB lenR (dCons (dVar 3) (dNil))) (dCons (dC (.int 3)) (dNil)))) (dNil))))))) (dCons (dCall S__law_most (dCons (dVar 0) (dNil))) (dNil)))))
def t__law_asker_1 (K : PySem.W.Frag) (S_Asker___init__ : SpD) (S__law_draw : SpD) (S__law_most : SpD) (S__law_shuffled : SpD) : TDS :=
  dAsg (dCall S__law_shuffled (dCons (dVar 0) (dCons (dVar 2) (dNil)))) (gN 3)
def t__law_asker (K : PySem.W.Frag) (S_Asker___init__ : SpD) (S__law_draw : SpD) (S__law_most : SpD) (S__law_shuffled : SpD) : TDS :=
  dSeq ((t__law_asker_1 K S_Asker___init__ S__law_draw S__law_most S__law_shuffled))
  ((t__law_asker_0 K S_Asker___init__ S__law_draw S__law_most S__law_shuffled))
-- END
-- BEGIN _law_line
def t__law_line_0 (K : PySem.W.Frag) (S_Line___init__ : SpD) (S__law_asker : SpD) (S__law_names : SpD) (S__law_draw : SpD) : TDS :=
  dRet (dMake (ga K "Line") S_Line___init__ (dCons (dLc (iL (dVar 3)) (gN 4) (dYes) (dCall S__law_asker (dCons (dVar 0) (dCons (dVar 4) (dCons (dVar 1) (dNil))))) [4]) (dNil)))
def t__law_line_1 (K : PySem.W.Frag) (S_Line___init__ : SpD) (S__law_asker : SpD) (S__law_names : SpD) (S__law_draw : SpD) : TDS :=
  dAsg (dCall S__law_names (dCons (dVar 0) (dCons (dOp addR (dC (.int 1)) (dCall S__law_draw (dCons (dVar 0) (dCons (dVar 2) (dNil))))) (dNil)))) (gN 3)
def t__law_line (K : PySem.W.Frag) (S_Line___init__ : SpD) (S__law_asker : SpD) (S__law_names : SpD) (S__law_draw : SpD) : TDS :=
  dSeq ((t__law_line_1 K S_Line___init__ S__law_asker S__law_names S__law_draw))
  ((t__law_line_0 K S_Line___init__ S__law_asker S__law_names S__law_draw))
-- END
end HL

namespace HL
open PySem L2 DL DM
/-! ### words -/
/-- a list walked -/
def withI (d : D) (m : Mu) (F : List D → (Mu → Prop) → Mu → Prop) : Prop := iL (dC d) [] m F
theorem iL_eq {t : TD} {ρ : REnv} {m : Mu} {F : List D → (Mu → Prop) → Mu → Prop} : iL t ρ m F = t ρ m fun d m1 => withI d m1 F := rfl
local macro_rules | `(tactic| walk_at "nf") => `(tactic| simp only [dSeq, dIfS, dOr, dAnd, dNot, dTest, dCB, dCons, dNil, dVar, dC, dRet, dNext, dAsg, gN, dOp, dUn, dAndV, dNotV, dLst, dTup, dCall, dMeth, dProp, dMake, dFld, dSl, dPart, dNoPart, dDrop, dPar, dBm, iL_eq, iT, iR1, dLc, dFor, lcBody, dYes, wipeD, atE, startD, List.map_cons, List.map_nil, List.length_cons, List.length_nil, List.cons_append, List.nil_append, List.replicate, List.getElem?_cons_zero, List.getElem?_cons_succ, List.set_cons_zero, List.set_cons_succ, Nat.reduceSub, Nat.reduceAdd])
theorem withI_of {d : D} {m : Mu} {xs : List D} {F : List D → (Mu → Prop) → Mu → Prop} (h : lstOf m d = some xs) (hF : ∀ stay : Mu → Prop, stay m → F xs stay m) : withI d m F := by
  cases d with
  | lst ys => cases h; exact hF _ trivial
  | ref k =>
    have h : moLst (m k) = some xs := h
    cases q : m k with
    | none => rw [q] at h; cases h
    | some o =>
      rw [q] at h
      cases o with
      | lst ys =>
        obtain rfl : ys = xs := Option.some.inj h
        exact ⟨ys, q, hF (fun m2 => m2 k = some (.lst ys)) q⟩
      | _ => cases h
  | _ => cases h
theorem withL_of {d : D} {m : Mu} {xs : List D} {B : List D → Prop} (h : lstOf m d = some xs) (b : B xs) : withL d m B := by
  cases d with
  | lst ys => cases h; exact b
  | ref k =>
    have h : moLst (m k) = some xs := h
    cases q : m k with
    | none => rw [q] at h; cases h
    | some o =>
      rw [q] at h
      cases o with
      | lst ys =>
        obtain rfl : ys = xs := Option.some.inj h
        exact ⟨ys, q, b⟩
      | _ => cases h
  | _ => cases h
theorem lstOf_ref {m : Mu} {k : Nat} {xs : List D} (h : m k = some (.lst xs)) : lstOf m (.ref k) = some xs := by
  show moLst (m k) = _
  rw [h] <;> rfl
theorem lstOf_cases {m : Mu} {d : D} {xs : List D} (h : lstOf m d = some xs) : d = .lst xs ∨ ∃ k, d = .ref k ∧ m k = some (.lst xs) := by
  cases d with
  | lst ys => cases h; exact .inl rfl
  | ref k =>
    have h : moLst (m k) = some xs := h
    cases q : m k with
    | none => rw [q] at h; cases h
    | some o =>
      rw [q] at h
      cases o with
      | lst ys => cases h; exact .inr ⟨k, rfl, q⟩
      | _ => cases h
  | _ => cases h
theorem isi_list {K : PySem.W.Frag} {d : D} {m : Mu} {xs : List D} {F : DK} (h : lstOf m d = some xs) (hF : F (.bl true) m) : isiR K [d, .opq (.ty "list")] m F := by
  rcases lstOf_cases h with rfl | ⟨k, rfl, q⟩
  · exact ⟨by decide, hF⟩
  · show onO (match m k with
      | some (.lst _) => some "list"
      | some (.dK _) => some "dict"
      | some (.dT _) => some "dict"
      | _ => none) _
    rw [q]
    exact ⟨by decide, hF⟩
theorem lenR_of {d : D} {m : Mu} {xs : List D} {F : DK} (h : lstOf m d = some xs) (hF : F (.int xs.length) m) : lenR [d] m F := by
  rcases lstOf_cases h with rfl | ⟨k, rfl, q⟩
  · exact hF
  · exact ⟨xs, q, hF⟩
theorem vwE_of {d : D} {m : Mu} {xs : List D} {B : D → Prop} (h : lstOf m d = some xs) (b : B (.lst xs)) : vwE d m B := by
  rcases lstOf_cases h with rfl | ⟨k, rfl, q⟩
  · exact b
  · exact ⟨xs, q, b⟩

/-! ### names -/
abbrev lower : Str := "abcdefghijklmnopqrstuvwxyz"
def lowC (c : Nat) : Bool := decide (c ∈ lower.cps.toList)
def nameB (s : Str) : Bool := (decide (1 ≤ s.length) && decide (s.length ≤ 10)) && s.cps.toList.all lowC
theorem lower_ok : ∀ c ∈ lower.cps.toList, c < 0x110000 := by decide
theorem nameB_ok {s : Str} (h : nameB s = true) : PyData.strOk s = true := by
  unfold nameB at h
  rw [Bool.and_eq_true] at h
  unfold PyData.strOk
  rw [Array.all_eq_true_iff_forall_mem]
  intro c hc
  have h2 := List.all_eq_true.mp h.2 c (Array.mem_toList_iff.mpr hc)
  exact decide_eq_true (lower_ok c (of_decide_eq_true h2))
theorem nameB_len {s : Str} (h : nameB s = true) : s.length ≤ 10 := by
  unfold nameB at h
  rw [Bool.and_eq_true, Bool.and_eq_true] at h
  exact of_decide_eq_true h.1.2
def S_is_name : SpD := fun ds m F => ∃ s, ds = [.str s] ∧ (s.length ≤ sizeLine ∧ PyData.strOk s = true) ∧ F (.bl (nameB s)) m
theorem pure_is_name {K : PySem.W.Frag} (ds : List D) (m : Mu) (G : DK) (h : S_is_name ds m G) : t_is_name K { nx := fun _ m' => Fin G .non m', rt := Fin G } (startD 2 ds) m := by
  obtain ⟨s, rfl, ⟨hl, ho⟩, h⟩ := h
  refine And.intro (by decide) ?_
  refine br_f rfl ?_
  refine And.intro hl ?_
  have e0 : ((s.length : Nat) : Int) = s.length := rfl
  refine And.intro (fun h1 => ?_) (fun h1 => ?_)
  · -- at least one sign
    refine And.intro (fun h2 => ?_) (fun h2 => ?_)
    · refine fin ?_
      have h2 : (!decide ((s.length : Int) ≤ 10)) = true := h2
      have e : nameB s = false := by
        unfold nameB
        have : ¬ s.length ≤ 10 := by
          have := of_decide_eq_false (by simpa using h2 : decide ((s.length : Int) ≤ 10) = false)
          omega
        simp [this]
      rw [e] at h; exact h
    · have h2 : (!decide ((s.length : Int) ≤ 10)) = false := h2
      have h1 : decide ((1 : Int) ≤ s.length) = true := h1
      have l1 : 1 ≤ s.length := by have := of_decide_eq_true h1; omega
      have l2 : s.length ≤ 10 := by
        have := of_decide_eq_true (by simpa using h2 : decide ((s.length : Int) ≤ 10) = true)
        omega
      let f : D → Option D := fun d => match d with
        | .str ⟨#[c]⟩ => if lowC c then none else some (.str ⟨#[c]⟩)
        | _ => none
      refine lc_pure (ds := signs s) f trivial ?_ (fun d a k2 hd ha hk => ?_) ?_
      · unfold signs
        rw [List.length_map]
        have : s.cps.toList.length = s.length := rfl
        unfold sizeLine; omega
      · obtain ⟨c, hc, rfl⟩ := List.mem_map.mp hd
        show Br (!decide (c ∈ lower.cps.toList)) (a.length < sizeLine ∧ k2 (a ++ [.str ⟨#[c]⟩]) m) (k2 a m)
        by_cases hcl : c ∈ lower.cps.toList
        · refine br_f (by simp [hcl]) ?_
          have e : f (.str ⟨#[c]⟩) = none := by show (if lowC c then none else some (D.str ⟨#[c]⟩)) = none; rw [if_pos (show lowC c = true from decide_eq_true hcl)]
          rw [e] at hk
          simpa using hk
        · refine br_t (by simp [hcl]) ⟨ha, ?_⟩
          have e : f (.str ⟨#[c]⟩) = some (.str ⟨#[c]⟩) := by show (if lowC c then none else some (D.str ⟨#[c]⟩)) = _; rw [if_neg (by simpa [lowC] using hcl)]
          rw [e] at hk
          exact hk
      · refine Or.inl ?_
        refine And.intro (by decide) (Or.inl ?_)
        have hok : ∀ x ∈ (signs s).filterMap f, Ok 0 x := fun x hx => by
          obtain ⟨d, hd, e⟩ := List.mem_filterMap.mp hx
          obtain ⟨c, hc, rfl⟩ := List.mem_map.mp hd
          have e : (if lowC c then none else some (D.str ⟨#[c]⟩)) = some x := e
          by_cases q : lowC c = true
          · rw [if_pos q] at e; cases e
          · rw [if_neg q] at e; cases e
            refine ok_str ?_
            unfold PyData.strOk at ho ⊢
            rw [Array.all_eq_true_iff_forall_mem] at ho
            have := ho c (Array.mem_toList_iff.mp hc)
            simpa using this
        refine And.intro ⟨(ok_lst hok).P, (ok_lst (n := 0) (xs := []) (by simp)).P⟩ (fin ?_)
        have e : eqD (.lst ((signs s).filterMap f)) (.lst []) = nameB s := by
          have el : ((signs s).filterMap f = []) ↔ s.cps.toList.all lowC = true := by
            rw [List.filterMap_eq_nil_iff, List.all_eq_true]
            constructor
            · intro h c hc
              have h2 := h (.str ⟨#[c]⟩) (List.mem_map.mpr ⟨c, hc, rfl⟩)
              have h2 : (if lowC c then none else some (D.str ⟨#[c]⟩)) = none := h2
              by_cases q : lowC c = true
              · exact q
              · rw [if_neg q] at h2; cases h2
            · intro h d hd
              obtain ⟨c, hc, rfl⟩ := List.mem_map.mp hd
              show (if lowC c then none else some (D.str ⟨#[c]⟩)) = none
              rw [if_pos (h c hc)]
          have tl : tidy (.lst ((signs s).filterMap f)) = true := by
            rw [tidy, tidys_all]
            intro x hx
            obtain ⟨d, hd, e⟩ := List.mem_filterMap.mp hx
            obtain ⟨c, hc, rfl⟩ := List.mem_map.mp hd
            have e : (if lowC c then none else some (D.str ⟨#[c]⟩)) = some x := e
            by_cases q : lowC c = true
            · rw [if_pos q] at e; cases e
            · rw [if_neg q] at e; cases e; rfl
          unfold nameB
          rw [decide_eq_true l1, decide_eq_true l2]
          by_cases q : (signs s).filterMap f = []
          · rw [eqD_t (by rw [q]) tl, el.mp q]; rfl
          · rw [eqD_f (fun z => q (D.lst.inj z)) tl rfl]
            cases w : s.cps.toList.all lowC with
            | true => exact absurd (el.mpr w) q
            | false => rfl
        show G (.bl (eqD (.lst ((signs s).filterMap f)) (.lst []))) m
        rw [e]; exact h
  · refine br_t rfl (fin ?_)
    have h1 : decide ((1 : Int) ≤ s.length) = false := h1
    have e : nameB s = false := by
      unfold nameB
      have : ¬ 1 ≤ s.length := by
        have := of_decide_eq_false h1
        omega
      simp [this]
    rw [e] at h; exact h

theorem dd_len : ∀ l : List Str, (ddS l).length ≤ l.length
  | [] => Nat.le_refl _
  | y :: r => by
    have := dd_len r
    unfold ddS
    split <;> simp only [List.length_cons] <;> omega
theorem nodup_of_card : ∀ {l : List Str}, cardS l = l.length → l.Nodup
  | [], _ => List.nodup_nil
  | y :: r, h => by
    unfold cardS ddS at h
    have := dd_len r
    split at h
    · simp only [List.length_cons] at h; omega
    · rename_i q
      simp only [List.length_cons] at h
      exact List.nodup_cons.mpr ⟨q, nodup_of_card (by unfold cardS; omega)⟩
/-- an empty display beside a list -/
theorem empty_ne {x : D} {m : Mu} {F : DK} (hx : x = .lst []) (h : F (.bl false) m) : eqR true x (.lst []) m F := by
  subst hx
  exact ⟨⟨(ok_lst (n := 0) (xs := []) (by simp)).P, (ok_lst (n := 0) (xs := []) (by simp)).P⟩, h⟩
def S_are_names : SpD := fun ds m F => ∃ (d : D) (ss : List Str), ds = [d] ∧ lstOf m d = some (ss.map D.str) ∧ (ss.length < 1000 ∧ ∀ s ∈ ss, nameB s = true) ∧ F (.bl (decide ss.Nodup)) m
theorem pure_are_names {K : PySem.W.Frag} (ds : List D) (m : Mu) (G : DK) (h : S_are_names ds m G) : t_are_names K S_is_name { nx := fun _ m' => Fin G .non m', rt := Fin G } (startD 2 ds) m := by
  obtain ⟨d, ss, rfl, hd, ⟨hl, hn⟩, h⟩ := h
  have hl2 : (ss.map D.str).length < sizeLine := by rw [List.length_map]; unfold sizeLine; omega
  unfold t_are_names t_are_names_1 t_are_names_0
  walk_at "nf"
  refine isi_list hd ?_
  refine br_f rfl ?_
  refine withI_of hd fun stay hst => ?_
  refine lc_pure (fun _ => none) hst hl2 (fun x a k2 hx ha hk => ?_) ?_
  · obtain ⟨s, hs, rfl⟩ := List.mem_map.mp hx
    refine ⟨s, rfl, ⟨?_, nameB_ok (hn s hs)⟩, ?_⟩
    · have := nameB_len (hn s hs); unfold sizeLine; omega
    · refine br_f (by rw [hn s hs]; rfl) ?_
      simpa using hk
  · refine Or.inl ?_
    refine And.intro (by decide) (Or.inl ?_)
    refine empty_ne (by show D.lst (List.filterMap (fun _ => none) (ss.map D.str)) = _; rw [List.filterMap_eq_nil_iff.mpr (fun _ _ => rfl)]) ?_
    refine br_f rfl ?_
    refine withL_of hd ⟨ss, rfl, by unfold scanBound; omega, ?_⟩
    refine lenR_of hd ?_
    refine And.intro ⟨ok_int.P (n := 0), ok_int.P (n := 0)⟩ (fin ?_)
    have e : eqD (.int (cardS ss)) (.int ((ss.map D.str).length)) = decide ss.Nodup := by
      by_cases nd : ss.Nodup
      · rw [decide_eq_true nd]
        exact eqD_t (by rw [card_nodup nd, List.length_map]) rfl
      · rw [decide_eq_false nd]
        refine eqD_f (fun z => nd ?_) rfl rfl
        have z := D.int.inj z
        rw [List.length_map] at z
        have z2 : cardS ss = ss.length := by exact_mod_cast z
        exact nodup_of_card z2
    show G (.bl (eqD (.int (cardS ss)) (.int ((ss.map D.str).length)))) m
    rw [e]; exact h
def S_is_count : SpD := fun ds m F => ∃ i, ds = [.int i] ∧ F (.bl (decide (0 ≤ i))) m
theorem pure_is_count {K : PySem.W.Frag} (ds : List D) (m : Mu) (G : DK) (h : S_is_count ds m G) : t_is_count K { nx := fun _ m' => Fin G .non m', rt := Fin G } (startD 1 ds) m := by
  obtain ⟨i, rfl, h⟩ := h
  refine And.intro (by decide) ?_
  refine br_t (by decide) ?_
  refine And.intro (by decide) ?_
  refine br_t (by decide) ?_
  exact fin h
/-! ### askers -/
structure Ak where
  name : Str
  fits : List Str
  most : Int
def Ak.row (a : Ak) : D := .tup [.str a.name, .tup (a.fits.map D.str), .int a.most]
def Ak.d (K : PySem.W.Frag) (a : Ak) : D := .ins (ga K "Asker") ["row"] [a.row]
structure Ak.ok (a : Ak) : Prop where
  nm : nameB a.name = true
  ft : ∀ s ∈ a.fits, nameB s = true
  nd : a.fits.Nodup
  ne : a.fits ≠ []
  ms : 1 ≤ a.most
  so : a.fits.Pairwise leS
  ln : a.fits.length < 60
theorem Ak.ext' {a b : Ak} (h1 : a.name = b.name) (h2 : a.fits = b.fits) (h3 : a.most = b.most) : a = b := by
  cases a; cases b; simp_all
theorem Ak.row_inj {a b : Ak} (h : a.row = b.row) : a = b := by
  unfold Ak.row at h
  simp only [D.tup.injEq, List.cons.injEq, D.str.injEq, D.int.injEq, and_true] at h
  exact Ak.ext' h.1 (strs_inj.mp h.2.1) h.2.2
theorem Ak.d_inj {K : PySem.W.Frag} {a b : Ak} (h : a.d K = b.d K) : a = b := by
  unfold Ak.d at h
  simp only [D.ins.injEq, List.cons.injEq, and_true, true_and] at h
  exact Ak.row_inj h
theorem Ak.row_tidy (a : Ak) : tidy a.row = true := by
  unfold Ak.row
  rw [tidy, tidys, tidys, tidys, tidys, tidy, tidy, tidy, tidy_strs]; rfl
theorem Ak.row_ok {a : Ak} (h : a.ok) : Ok 2 a.row := ok_tup fun x hx => by
  rcases List.mem_cons.mp hx with rfl | hx
  · exact ok_str (nameB_ok h.nm)
  · rcases List.mem_cons.mp hx with rfl | hx
    · exact ok_tup (ok_strs fun s hs => nameB_ok (h.ft s hs))
    · rcases List.mem_cons.mp hx with rfl | hx
      · exact ok_int
      · cases hx
def S_Asker___init__ (K : PySem.W.Frag) : SpD := fun ds m F => ∃ (j : Nat) (n : Str) (d : D) (ss : List Str) (k : Int), ds = [.ref j, .str n, d, .int k] ∧ m j = some (.ins (ga K "Asker") [] []) ∧ lstOf m d = some (ss.map D.str) ∧ (nameB n = true ∧ (∀ s ∈ ss, nameB s = true) ∧ ss.Nodup ∧ ss ≠ [] ∧ 1 ≤ k ∧ ss.length < 60) ∧
  F .non (mset m j (.ins (ga K "Asker") ["row"] [Ak.row ⟨n, sortS ss, k⟩]))
theorem pure_Asker___init__ {K : PySem.W.Frag} (T : HF K) (ds : List D) (m : Mu) (G : DK) (h : S_Asker___init__ K ds m G) : t_Asker___init__ K S_is_count S_are_names S_is_name { nx := fun _ m' => Fin G .non m', rt := Fin G } (startD 4 ds) m := by
  obtain ⟨j, n, d, ss, k, rfl, hj, hd, ⟨hn, hf, nd, ne, hk, hl⟩, h⟩ := h
  refine ⟨n, rfl, ⟨?_, nameB_ok hn⟩, ?_⟩
  · have := nameB_len hn; unfold sizeLine; omega
  refine br_f (by rw [hn]; rfl) ?_
  refine ⟨d, ss, rfl, hd, ⟨by omega, hf⟩, ?_⟩
  refine br_f (by rw [decide_eq_true nd]; rfl) ?_
  refine And.intro (by decide) (Or.inl ?_)
  refine vwE_of hd ?_
  refine And.intro ⟨(ok_lst (ok_strs (n := 0) fun s hs => nameB_ok (hf s hs))).P, (ok_lst (n := 0) (xs := []) (by simp)).P⟩ ?_
  refine br_f (eqD_f (fun z => ne (by simpa using D.lst.inj z)) (by rw [tidy]; exact tidy_strs ss) rfl) ?_
  refine ⟨k, rfl, ?_⟩
  refine br_f (by rw [decide_eq_true (by omega)]; rfl) ?_
  refine And.intro ⟨ok_int.P (n := 0), ok_int.P (n := 0)⟩ ?_
  refine br_f (eqD_f (fun z => by have := D.int.inj z; omega) rfl rfl) ?_
  refine withL_of hd ⟨ss, rfl, by omega, Or.inl ?_⟩
  refine And.intro (show 3 ≤ sizeLine by decide) ?_
  exact ⟨j, _, [], [], rfl, hj, T.c_Asker, T.f_Asker_row, by decide, fin h⟩
/-- Asker(..) -/
theorem mkA {K : PySem.W.Frag} {n : Str} {d : D} {ss : List Str} {k : Int} {m : Mu} {F : DK} (hd : lstOf m d = some (ss.map D.str)) (hn : nameB n = true) (hf : ∀ s ∈ ss, nameB s = true) (nd : ss.Nodup) (ne : ss ≠ []) (hk : 1 ≤ k) (hl : ss.length < 60)
    (h : (Ak.ok ⟨n, sortS ss, k⟩) → F (Ak.d K ⟨n, sortS ss, k⟩) m) : ∀ j, m j = none → S_Asker___init__ K (.ref j :: [.str n, d, .int k]) (mset m j (.ins (ga K "Asker") [] [])) fun r m2 => r = .non ∧ Fin F (.ref j) m2 := fun j hj =>
  ⟨j, n, d, ss, k, rfl, mset_same, by
    rcases lstOf_cases hd with rfl | ⟨i, rfl, q⟩
    · rfl
    · exact lstOf_ref (by rw [mset_ne (ne_of_mu q hj)]; exact q), ⟨hn, hf, nd, ne, hk, hl⟩, rfl, by
    rw [mset_mset]
    refine make_settled hj (h ⟨hn, fun s hs => hf s (sortS_mem.mp hs), sortS_nodup.mpr nd, fun z => ne ?_, hk, sortS_sorted ss, ?_⟩)
    · have := sortS_len ss; rw [show sortS ss = [] from z] at this; exact List.eq_nil_of_length_eq_zero this.symm
    · show (sortS ss).length < 60; rw [sortS_len]; exact hl⟩
def S_Asker_name (K : PySem.W.Frag) : SpD := fun ds m F => ∃ a : Ak, ds = [a.d K] ∧ F (.str a.name) m
theorem new_fin {o : MO} {m : Mu} {F : DK} (h : New o m F) : New o m (Fin F) := h.imp fin fun h k hk => fin (h k hk)
def S_Asker_fits (K : PySem.W.Frag) : SpD := fun ds m F => ∃ a : Ak, ds = [a.d K] ∧ New (.lst (a.fits.map D.str)) m F
def S_Asker_most (K : PySem.W.Frag) : SpD := fun ds m F => ∃ a : Ak, ds = [a.d K] ∧ F (.int a.most) m
section
variable {K : PySem.W.Frag} (T : HF K) (ds : List D) (m : Mu) (G : DK)
include T
theorem pure_Asker_name (h : S_Asker_name K ds m G) : t_Asker_name K { nx := fun _ m' => Fin G .non m', rt := Fin G } (startD 1 ds) m := by
  obtain ⟨a, rfl, h⟩ := h
  exact ⟨_, _, _, _, rfl, T.c_Asker, T.f_Asker_row, rfl, fin h⟩
theorem pure_Asker_fits (h : S_Asker_fits K ds m G) : t_Asker_fits K { nx := fun _ m' => Fin G .non m', rt := Fin G } (startD 1 ds) m := by
  obtain ⟨a, rfl, h⟩ := h
  exact ⟨_, _, _, _, rfl, T.c_Asker, T.f_Asker_row, rfl, new_fin h⟩
theorem pure_Asker_most (h : S_Asker_most K ds m G) : t_Asker_most K { nx := fun _ m' => Fin G .non m', rt := Fin G } (startD 1 ds) m := by
  obtain ⟨a, rfl, h⟩ := h
  exact ⟨_, _, _, _, rfl, T.c_Asker, T.f_Asker_row, rfl, fin h⟩
end
/-- likeness of askers as data -/
noncomputable def eqA (x y : D) : Bool := @decide (x = y) (Classical.propDecidable _)
theorem eqA_t {x : D} : eqA x x = true := @decide_eq_true _ (Classical.propDecidable _) rfl
theorem eqA_f {x y : D} (h : x ≠ y) : eqA x y = false := @decide_eq_false _ (Classical.propDecidable _) h
def IsA (K : PySem.W.Frag) (d : D) : Prop := ∃ a : Ak, a.ok ∧ d = a.d K
/-- a thing of a built-in type -/
def OtherT (K : PySem.W.Frag) (C : Addr) (m : Mu) (y : D) : Prop := ∃ t, tyN m y = some t ∧ PySem.W.kitOne K (.type t) (.ref C) = some false
theorem isi_other {K : PySem.W.Frag} {C : Addr} {m : Mu} {y : D} {F : DK} (h : OtherT K C m y) (f : F (.bl false) m) : isiR K [y, .opq (.ref C)] m F := by
  obtain ⟨t, e, hk⟩ := h
  cases y with
  | ins c fs xs => cases e
  | scr ns => cases e
  | opq v => cases e
  | dK _ _ => cases e
  | dT _ _ => cases e
  | ref k =>
    show onO (tyN m (.ref k)) fun t => _ ∧ _
    rw [e]; exact ⟨hk, f⟩
  | _ => cases e; exact ⟨hk, f⟩
noncomputable def S_Asker___eq__ (K : PySem.W.Frag) : SpD := fun ds m F => ∃ x y, ds = [x, y] ∧ IsA K x ∧ ((IsA K y ∧ F (.bl (eqA x y)) m) ∨ (OtherT K (ga K "Asker") m y ∧ F (.bl false) m))
theorem pure_Asker___eq__ {K : PySem.W.Frag} (T : HF K) (ds : List D) (m : Mu) (G : DK) (h : S_Asker___eq__ K ds m G) : t_Asker___eq__ K { nx := fun _ m' => Fin G .non m', rt := Fin G } (startD 2 ds) m := by
  obtain ⟨x, y, rfl, ⟨a, ha, rfl⟩, ⟨⟨b, hb, rfl⟩, h⟩ | ⟨ho, h⟩⟩ := h
  · refine ⟨true, ⟨T.i_Asker, T.t_Asker_Asker⟩, ?_⟩
    refine br_t rfl ?_
    refine ⟨_, _, _, _, rfl, T.c_Asker, T.f_Asker_row, rfl, ?_⟩
    refine ⟨_, _, _, _, rfl, T.c_Asker, T.f_Asker_row, rfl, ?_⟩
    refine And.intro ⟨(a.row_ok ha).P, (b.row_ok hb).P⟩ (fin ?_)
    have e : eqD a.row b.row = eqA (a.d K) (b.d K) := by
      by_cases q : a = b
      · subst q
        rw [eqA_t]
        exact eqD_t rfl a.row_tidy
      · rw [eqA_f (fun z => q (Ak.d_inj z))]
        exact eqD_f (fun z => q (Ak.row_inj z)) a.row_tidy b.row_tidy
    show G (.bl (eqD a.row b.row)) m
    rw [e]; exact h
  · unfold t_Asker___eq__ t_Asker___eq___0
    simp only [dRet, dAndV, dCB, dCons, dNil, dVar, dC, atE, startD, List.map_cons, List.map_nil, List.cons_append, List.nil_append, List.getElem?_cons_zero, List.getElem?_cons_succ, List.length_cons, List.length_nil, List.replicate]
    refine isi_other ho ?_
    exact br_f rfl (fin h)
theorem solid_A {K : PySem.W.Frag} (a : Ak) : solid (a.d K) = true := by
  have h : ∀ ss : List Str, solids (ss.map D.str) = true := fun ss => by
    induction ss with
    | nil => rfl
    | cons s ss ih => rw [List.map_cons, solids, ih]; rfl
  simp [Ak.d, Ak.row, solid, solids, h]
theorem eqBy_A (K : PySem.W.Frag) : EqBy (ga K "Asker") (S_Asker___eq__ K) eqA (IsA K) :=
  ⟨fun d ⟨a, _, e⟩ => ⟨_, _, e⟩, fun d ⟨a, _, e⟩ => by rw [e]; exact solid_A a, fun d _ => eqA_t, fun d d' m F h h' f => ⟨d, d', rfl, h, .inl ⟨h', f⟩⟩⟩
end HL

namespace HL
open PySem L2 DL DM
theorem addI {i j : Int} {m : Mu} {F : DK} : addR (.int i) (.int j) m F = F (.int (i + j)) m := rfl
theorem subI {i j : Int} {m : Mu} {F : DK} : intR (fun i j => .int (i - j)) (.int i) (.int j) m F = F (.int (i - j)) m := rfl
theorem onI_i {i : Int} {B : Int → Prop} : onI (.int i) B = B i := rfl
theorem onS_s {i : Str} {B : Str → Prop} : onS (.str i) B = B i := rfl
theorem onB_b {i : Bool} {B : Bool → Prop} : onB (.bl i) B = B i := rfl
local macro_rules | `(tactic| walk_at "nf") => `(tactic| simp only [dSeq, dIfS, dOr, dAnd, dNot, dTest, dCB, dCons, dNil, dVar, dC, dRet, dNext, dAsg, gN, dOp, dUn, dAndV, dNotV, dLst, dTup, dCall, dMeth, dProp, dMake, dFld, dSl, dPart, dNoPart, dDrop, dPar, dBm, dSetF, iL_eq, addI, subI, onI_i, onS_s, onB_b, iT, iR1, dLc, dFor, lcBody, dYes, wipeD, atE, startD, List.map_cons, List.map_nil, List.length_cons, List.length_nil, List.cons_append, List.nil_append, List.replicate, List.getElem?_cons_zero, List.getElem?_cons_succ, List.set_cons_zero, List.set_cons_succ, Nat.reduceSub, Nat.reduceAdd])
theorem sl_tup {xs ys : List D} {lo hi : Option Int} {m : Mu} {F : DK} (e : cutD xs lo hi = ys) (h : F (.tup ys) m) : slR (.tup xs) lo hi m F := by subst e; exact h
theorem sl_lst {xs ys : List D} {lo hi : Option Int} {m : Mu} {F : DK} (e : cutD xs lo hi = ys) (h : F (.lst ys) m) : slR (.lst xs) lo hi m F := by subst e; exact Or.inl h
theorem add_tup {xs ys : List D} {m : Mu} {F : DK} (e : xs.length + ys.length ≤ sizeLine) (h : F (.tup (xs ++ ys)) m) : addR (.tup xs) (.tup ys) m F := ⟨e, h⟩
theorem add_lst {xs ys : List D} {m : Mu} {F : DK} (e : xs.length + ys.length ≤ sizeLine) (h : F (.lst (xs ++ ys)) m) : addR (.lst xs) (.lst ys) m F := ⟨e, Or.inl h⟩
theorem lst_t {xs : List D} {m : Mu} {F : DK} (h : F (.lst xs) m) : listR [.tup xs] m F := Or.inl h
theorem lst_l {xs : List D} {m : Mu} {F : DK} (h : F (.lst xs) m) : listR [.lst xs] m F := Or.inl h
theorem new_l {xs : List D} {m : Mu} {F : DK} (h : F (.lst xs) m) : New (.lst xs) m F := Or.inl h
theorem lc_over {α : Type} {stay : Mu → Prop} {body : D → List D → Mu → (List D → Mu → Prop) → Prop} {m : Mu} {k : List D → Mu → Prop} (l : List α) (e : α → D) (g : α → Option D) (hst : stay m) (hl : l.length < sizeLine)
    (hs : ∀ a ∈ l, ∀ (acc : List D) (k2 : List D → Mu → Prop), acc.length < sizeLine → k2 (acc ++ (g a).toList) m → body (e a) acc m k2) (hd : k (l.filterMap g) m) : lcRun stay body (l.map e) [] m k := by
  refine lc_inv (fun i a m' => m' = m ∧ a = (l.take i).filterMap g) ⟨rfl, rfl⟩ (fun i a m' p => by rw [p.1]; exact hst) (fun i d a m' ei p k2 hk => ?_) fun a m' p => ?_
  · obtain ⟨rfl, rfl⟩ := p
    rw [List.getElem?_map] at ei
    cases q : l[i]? with
    | none => rw [q] at ei; cases ei
    | some x =>
      rw [q] at ei
      obtain rfl : e x = d := Option.some.inj ei
      refine hs x (List.mem_of_getElem? q) _ k2 (Nat.lt_of_le_of_lt (Nat.le_trans (List.length_filterMap_le _ _) (by rw [List.length_take]; exact Nat.min_le_right _ _)) hl) (hk _ _ ⟨rfl, ?_⟩)
      rw [List.take_succ, q, List.filterMap_append]
      cases hf : g x with
      | none => simp [hf]
      | some y => simp [hf]
  · obtain ⟨rfl, rfl⟩ := p
    rw [List.length_map, List.take_length]; exact hd
theorem fm_some {α : Type} (l : List α) (g : α → D) : l.filterMap (fun a => some (g a)) = l.map g := by
  rw [show (fun a => some (g a)) = some ∘ g from rfl, List.filterMap_eq_map]
theorem fm_none {α : Type} (l : List α) : l.filterMap (fun _ => (none : Option D)) = [] := List.filterMap_eq_nil_iff.mpr fun _ _ => rfl
/-! ### lines -/
def LnD (K : PySem.W.Frag) (l : List Ak) : D := .ins (ga K "Line") ["all", "every"] [.tup (l.map (Ak.d K)), .tup (l.map Ak.row)]
def nms (l : List Ak) : List Str := l.map Ak.name
structure LnOk (l : List Ak) : Prop where
  ok : ∀ a ∈ l, a.ok
  nd : (nms l).Nodup
  ln : l.length < 60
theorem LnOk.sl {l : List Ak} (h : LnOk l) : l.length < sizeLine := by have := h.ln; unfold sizeLine; omega
theorem rows_ok {l : List Ak} (h : LnOk l) : Ok 3 (.tup (l.map Ak.row)) := ok_tup fun x hx => by
  obtain ⟨a, ha, rfl⟩ := List.mem_map.mp hx
  exact a.row_ok (h.ok a ha)
theorem rows_tidy (l : List Ak) : tidy (.tup (l.map Ak.row)) = true := by
  rw [tidy, tidys_all]
  intro x hx
  obtain ⟨a, ha, rfl⟩ := List.mem_map.mp hx
  exact a.row_tidy
theorem map_inj {α β : Type} {f : α → β} (hf : ∀ a b, f a = f b → a = b) : ∀ {l l' : List α}, l.map f = l'.map f → l = l'
  | [], [], _ => rfl
  | [], _ :: _, h => by cases h
  | _ :: _, [], h => by cases h
  | a :: l, b :: l', h => by
    rw [List.map_cons, List.map_cons, List.cons.injEq] at h
    rw [hf a b h.1, map_inj hf h.2]
theorem rows_inj {l l' : List Ak} (h : l.map Ak.row = l'.map Ak.row) : l = l' := map_inj (fun _ _ => Ak.row_inj) h
theorem nms_ok {l : List Ak} (h : LnOk l) : ∀ s ∈ nms l, nameB s = true := fun s hs => by
  obtain ⟨a, ha, rfl⟩ := List.mem_map.mp hs
  exact (h.ok a ha).nm
def S_Line___init__ (K : PySem.W.Frag) : SpD := fun ds m F => ∃ (j : Nat) (d : D) (l : List Ak), ds = [.ref j, d] ∧ m j = some (.ins (ga K "Line") [] []) ∧ lstOf m d = some (l.map (Ak.d K)) ∧ LnOk l ∧
  F .non (mset m j (.ins (ga K "Line") ["all", "every"] [.tup (l.map (Ak.d K)), .tup (l.map Ak.row)]))
theorem withS_of {d : D} {m : Mu} {xs : List D} {B : List D → Prop} (h : lstOf m d = some xs) (b : B xs) : withS d m B := by
  rcases lstOf_cases h with rfl | ⟨k, rfl, q⟩
  · exact b
  · exact ⟨xs, q, b⟩
section
variable {K : PySem.W.Frag} (T : HF K) (ds : List D) (m : Mu) (G : DK)
include T
theorem pure_Line___init__ (h : S_Line___init__ K ds m G) : t_Line___init__ K { nx := fun _ m' => Fin G .non m', rt := Fin G } (startD 4 ds) m := by
  obtain ⟨j, d, l, rfl, hj, hd, ok, h⟩ := h
  unfold t_Line___init__ t_Line___init___4 t_Line___init___3 t_Line___init___2 t_Line___init___1 t_Line___init___0
  walk_at "nf"
  refine isi_list hd ?_
  refine br_f rfl ?_
  refine withI_of hd fun stay hst => ?_
  refine lc_over l _ (fun _ => none) hst ok.sl (fun a ha acc k2 hacc hk => ?_) ?_
  · refine ⟨true, ⟨T.i_Asker, T.t_Asker_Asker⟩, ?_⟩
    refine br_f rfl ?_
    simpa using hk
  refine Or.inl (And.intro (by decide) (Or.inl (empty_ne (by rw [fm_none]; rfl) ?_)))
  refine br_f rfl ?_
  refine withI_of hd fun stay hst => ?_
  refine lc_over l _ (fun a => some (.str a.name)) hst ok.sl (fun a ha acc k2 hacc hk => ?_) ?_
  · refine br_t rfl ?_
    exact ⟨_, _, _, _, rfl, T.c_Asker, T.f_Asker_row, rfl, hacc, hk⟩
  rw [fm_some]
  refine Or.inl ?_
  refine ⟨nms l, by unfold nms; rw [List.map_map]; rfl, by unfold nms scanBound; rw [List.length_map]; have := ok.ln; omega, ?_⟩
  refine And.intro ⟨ok_int.P (n := 0), ok_int.P (n := 0)⟩ ?_
  refine br_f ?_ ?_
  · show (!eqD _ _) = false
    rw [eqD_t (by rw [card_nodup ok.nd]; unfold nms; rw [List.length_map, List.length_map]) rfl]; rfl
  refine withS_of hd ?_
  refine ⟨j, _, [], [], rfl, hj, T.c_Line, T.f_Line_all, by decide, ?_⟩
  have hd2 : lstOf (mset m j (.ins (ga K "Line") (putN "all" []) (putD "all" (.tup (l.map (Ak.d K))) [] []))) d = some (l.map (Ak.d K)) := by
    rcases lstOf_cases hd with rfl | ⟨i, rfl, q⟩
    · rfl
    · refine lstOf_ref ?_
      rw [mset_ne (fun z => by rw [z, hj] at q; cases q)]; exact q
  refine withI_of hd2 fun stay hst => ?_
  refine lc_over l _ (fun a => some a.row) hst ok.sl (fun a ha acc k2 hacc hk => ?_) ?_
  · refine br_t rfl ?_
    exact ⟨_, _, _, _, rfl, T.c_Asker, T.f_Asker_row, rfl, hacc, hk⟩
  rw [fm_some]
  refine Or.inl ?_
  refine ⟨j, _, _, _, rfl, mset_same, T.c_Line, T.f_Line_every, by decide, fin ?_⟩
  rw [mset_mset]
  exact h
end
/-- Line(..) -/
theorem mkL {K : PySem.W.Frag} {d : D} {l : List Ak} {m : Mu} {F : DK} (hd : lstOf m d = some (l.map (Ak.d K))) (ok : LnOk l) (h : F (LnD K l) m) :
    ∀ j, m j = none → S_Line___init__ K (.ref j :: [d]) (mset m j (.ins (ga K "Line") [] [])) fun r m2 => r = .non ∧ Fin F (.ref j) m2 := fun j hj =>
  ⟨j, d, l, rfl, mset_same, by
    rcases lstOf_cases hd with rfl | ⟨i, rfl, q⟩
    · rfl
    · exact lstOf_ref (by rw [mset_ne (ne_of_mu q hj)]; exact q), ok, rfl, by
    rw [mset_mset]
    exact make_settled hj h⟩
def S_Line_askers (K : PySem.W.Frag) : SpD := fun ds m F => ∃ l, ds = [LnD K l] ∧ New (.lst (l.map (Ak.d K))) m F
def S_Line_names (K : PySem.W.Frag) : SpD := fun ds m F => ∃ l, ds = [LnD K l] ∧ LnOk l ∧ New (.lst ((nms l).map D.str)) m F
def S_Line___len__ (K : PySem.W.Frag) : SpD := fun ds m F => ∃ l : List Ak, ds = [LnD K l] ∧ F (.int l.length) m
def kds (l : List Ak) : List Str := l.flatMap Ak.fits
def S_Line_kinds (K : PySem.W.Frag) : SpD := fun ds m F => ∃ l, ds = [LnD K l] ∧ LnOk l ∧ (kds l).length < 4000 ∧ New (.lst ((uniS (kds l)).map D.str)) m F
noncomputable def eqL (l l' : List Ak) : Bool := @decide (l = l') (Classical.propDecidable _)
theorem eqL_t {l l' : List Ak} (h : l = l') : eqL l l' = true := @decide_eq_true _ (Classical.propDecidable _) h
theorem eqL_f {l l' : List Ak} (h : l ≠ l') : eqL l l' = false := @decide_eq_false _ (Classical.propDecidable _) h
noncomputable def S_Line___eq__ (K : PySem.W.Frag) : SpD := fun ds m F => ∃ l y, ds = [LnD K l, y] ∧ LnOk l ∧ ((∃ l', y = LnD K l' ∧ LnOk l' ∧ F (.bl (eqL l l')) m) ∨ ((OtherT K (ga K "Line") m y ∨ IsA K y) ∧ F (.bl false) m))
def S_check_known (K : PySem.W.Frag) : SpD := fun ds m F => ∃ l s, ds = [LnD K l, .str s] ∧ LnOk l ∧ s ∈ nms l ∧ F .non m
/-- the asker at a place -/
def S_Line_place (K : PySem.W.Frag) : SpD := fun ds m F => ∃ (l : List Ak) (i : Nat) (a : Ak), ds = [LnD K l, .str a.name] ∧ LnOk l ∧ l[i]? = some a ∧ F (.int i) m
def S_Line_asker (K : PySem.W.Frag) : SpD := fun ds m F => ∃ (l : List Ak) (i : Nat) (a : Ak), ds = [LnD K l, .str a.name] ∧ LnOk l ∧ l[i]? = some a ∧ F (a.d K) m
def outL (l : List Ak) (i : Nat) : List Ak := l.take i ++ l.drop (i + 1)
def inL (l : List Ak) (a : Ak) (p : Nat) : List Ak := l.take p ++ [a] ++ l.drop p
def setL (l : List Ak) (a : Ak) (i : Nat) : List Ak := l.take i ++ [a] ++ l.drop (i + 1)
def S_Line_without (K : PySem.W.Frag) : SpD := fun ds m F => ∃ (l : List Ak) (i : Nat) (a : Ak), ds = [LnD K l, .str a.name] ∧ LnOk l ∧ l[i]? = some a ∧ F (LnD K (outL l i)) m
def S_Line_put_in (K : PySem.W.Frag) : SpD := fun ds m F => ∃ (l : List Ak) (a : Ak) (p : Nat), ds = [LnD K l, a.d K, .int p] ∧ LnOk l ∧ LnOk (inL l a p) ∧ p ≤ l.length ∧ F (LnD K (inL l a p)) m
def S_Line_moved (K : PySem.W.Frag) : SpD := fun ds m F => ∃ (l : List Ak) (i : Nat) (a : Ak) (p : Nat), ds = [LnD K l, .str a.name, .int p] ∧ LnOk l ∧ l[i]? = some a ∧ p < l.length ∧ F (LnD K (inL (outL l i) a p)) m
def S_Line_changed (K : PySem.W.Frag) : SpD := fun ds m F => ∃ (l : List Ak) (i : Nat) (a b : Ak), ds = [LnD K l, b.d K] ∧ LnOk l ∧ l[i]? = some a ∧ a.name = b.name ∧ b.ok ∧ F (LnD K (setL l b i)) m
def S_Line_ordered (K : PySem.W.Frag) : SpD := fun ds m F => ∃ (d : D) (l l' : List Ak), ds = [LnD K l, d] ∧ lstOf m d = some ((nms l').map D.str) ∧ LnOk l ∧ l'.Perm l ∧ F (LnD K l') m
/-! ### what lists stay good -/
theorem outL_sub (l : List Ak) (i : Nat) : (outL l i).Sublist l := by
  unfold outL
  have h : (l.take i ++ l.drop (i + 1)).Sublist (l.take i ++ l.drop i) := by
    refine List.Sublist.append (List.Sublist.refl _) ?_
    rw [← List.drop_drop]
    exact List.drop_sublist _ _
  rw [List.take_append_drop] at h
  exact h
theorem LnOk.sub {l l' : List Ak} (h : LnOk l) (s : l'.Sublist l) : LnOk l' := ⟨fun a ha => h.ok a (s.subset ha), h.nd.sublist (s.map _), Nat.lt_of_le_of_lt s.length_le h.ln⟩
theorem LnOk.perm {l l' : List Ak} (h : LnOk l) (s : l'.Perm l) : LnOk l' := ⟨fun a ha => h.ok a (s.subset ha), ((s.map Ak.name).nodup_iff).mpr h.nd, by rw [s.length_eq]; exact h.ln⟩
theorem LnOk.out {l : List Ak} (h : LnOk l) (i : Nat) : LnOk (outL l i) := h.sub (outL_sub l i)
theorem inL_perm (l : List Ak) (a : Ak) (p : Nat) : (inL l a p).Perm (a :: l) := by
  unfold inL
  have h : (l.take p ++ [a] ++ l.drop p).Perm (a :: (l.take p ++ l.drop p)) := by
    rw [List.append_assoc]
    exact List.perm_middle
  rw [List.take_append_drop] at h
  exact h
theorem out_perm {l : List Ak} {i : Nat} {a : Ak} (h : l[i]? = some a) : (a :: outL l i).Perm l := by
  unfold outL
  obtain ⟨hl, e⟩ := List.getElem?_eq_some_iff.mp h
  have q : l = l.take i ++ a :: l.drop (i + 1) := by
    have := List.take_append_drop i l
    rw [List.drop_eq_getElem_cons hl, e] at this
    exact this.symm
  exact (List.perm_middle.symm).trans (by rw [← q])
theorem setL_eq {l : List Ak} {i : Nat} {a b : Ak} (h : l[i]? = some a) : setL l b i = inL (outL l i) b i := by
  unfold setL inL outL
  obtain ⟨hl, e⟩ := List.getElem?_eq_some_iff.mp h
  have h1 : (l.take i).length = i := by rw [List.length_take]; omega
  rw [List.take_left' h1, List.drop_left' h1]
theorem LnOk.ins {l : List Ak} (h : LnOk l) {a : Ak} (ha : a.ok) (hn : a.name ∉ nms l) (hl : l.length < 59) (p : Nat) : LnOk (inL l a p) :=
  LnOk.perm (l := a :: l) ⟨fun b hb => by
    rcases List.mem_cons.mp hb with rfl | hb
    · exact ha
    · exact h.ok b hb, by
    unfold nms
    rw [List.map_cons]
    exact List.nodup_cons.mpr ⟨hn, h.nd⟩, by rw [List.length_cons]; omega⟩ (inL_perm l a p)
theorem LnOk.set {l : List Ak} (h : LnOk l) {i : Nat} {a b : Ak} (e : l[i]? = some a) (hb : b.ok) (hn : a.name = b.name) : LnOk (setL l b i) := by
  rw [setL_eq e]
  have p := out_perm e
  have q : LnOk (a :: outL l i) := h.perm p
  have nd := q.nd
  unfold nms at nd
  rw [List.map_cons, hn] at nd
  have := q.ln
  rw [List.length_cons] at this
  exact (h.out i).ins hb (List.nodup_cons.mp nd).1 (by omega) i
section
variable {K : PySem.W.Frag} (T : HF K) (ds : List D) (m : Mu) (G : DK)
include T
theorem pure_Line_askers (h : S_Line_askers K ds m G) : t_Line_askers K { nx := fun _ m' => Fin G .non m', rt := Fin G } (startD 1 ds) m := by
  obtain ⟨l, rfl, h⟩ := h
  exact ⟨_, _, _, _, rfl, T.c_Line, T.f_Line_all, rfl, new_fin h⟩
theorem pure_Line_names (h : S_Line_names K ds m G) : t_Line_names K { nx := fun _ m' => Fin G .non m', rt := Fin G } (startD 2 ds) m := by
  obtain ⟨l, rfl, ok, h⟩ := h
  refine ⟨_, _, _, _, rfl, T.c_Line, T.f_Line_every, rfl, ?_⟩
  refine lc_over l _ (fun a => some (.str a.name)) trivial ok.sl (fun a ha acc k2 hacc hk => ?_) ?_
  · refine br_t rfl ?_
    exact ⟨hacc, hk⟩
  rw [fm_some]
  have e : (nms l).map D.str = l.map fun a => D.str a.name := by unfold nms; rw [List.map_map]; rfl
  rw [e] at h
  exact new_fin h
theorem pure_Line___len__ (h : S_Line___len__ K ds m G) : t_Line___len__ K { nx := fun _ m' => Fin G .non m', rt := Fin G } (startD 1 ds) m := by
  obtain ⟨l, rfl, h⟩ := h
  refine ⟨_, _, _, _, rfl, T.c_Line, T.f_Line_every, rfl, fin ?_⟩
  show G (.int ((l.map Ak.row).length)) m
  rw [List.length_map]; exact h
theorem pure_Line___eq__ (h : S_Line___eq__ K ds m G) : t_Line___eq__ K { nx := fun _ m' => Fin G .non m', rt := Fin G } (startD 2 ds) m := by
  obtain ⟨l, y, rfl, ok, ⟨l', rfl, ok', h⟩ | ⟨ho | ⟨a, ha, rfl⟩, h⟩⟩ := h
  · refine ⟨true, ⟨T.i_Line, T.t_Line_Line⟩, ?_⟩
    refine br_t rfl ?_
    refine ⟨_, _, _, _, rfl, T.c_Line, T.f_Line_every, rfl, ?_⟩
    refine ⟨_, _, _, _, rfl, T.c_Line, T.f_Line_every, rfl, ?_⟩
    refine And.intro ⟨(rows_ok ok).P, (rows_ok ok').P⟩ (fin ?_)
    have e : eqD (.tup (l.map Ak.row)) (.tup (l'.map Ak.row)) = eqL l l' := by
      by_cases q : l = l'
      · subst q
        rw [eqL_t rfl]
        exact eqD_t rfl (rows_tidy l)
      · rw [eqL_f q]
        exact eqD_f (fun z => q (rows_inj (D.tup.inj z))) (rows_tidy l) (rows_tidy l')
    show G (.bl (eqD (.tup (l.map Ak.row)) (.tup (l'.map Ak.row)))) m
    rw [e]; exact h
  · unfold t_Line___eq__ t_Line___eq___0
    walk_at "nf"
    refine isi_other ho ?_
    exact br_f rfl (fin h)
  · refine ⟨false, ⟨T.i_Asker, T.t_Asker_Line⟩, ?_⟩
    exact br_f rfl (fin h)
theorem pure_check_known (h : S_check_known K ds m G) : t_check_known K (S_Line_names K) { nx := fun _ m' => Fin G .non m', rt := Fin G } (startD 2 ds) m := by
  obtain ⟨l, s, rfl, ok, hs, h⟩ := h
  refine And.intro (by decide) ?_
  refine br_f rfl ?_
  refine ⟨_, _, rfl, by decide, l, rfl, ok, Or.inl ?_⟩
  refine And.intro ⟨rfl, flat_strs' _⟩ ?_
  refine br_f ?_ (fin h)
  show (!inD (.str s) ((nms l).map D.str)) = false
  rw [in_strs, decide_eq_true hs]; rfl
theorem idx_of {l : List Ak} {i : Nat} {a : Ak} (ok : LnOk l) (h : l[i]? = some a) : idxS a.name (nms l) = some i := by
  have go : ∀ (ss : List Str) (i : Nat) (x : Str), ss.Nodup → ss[i]? = some x → idxS x ss = some i := by
    intro ss
    induction ss with
    | nil => intro i x _ h; cases h
    | cons y r ih =>
      intro i x nd h
      obtain ⟨n1, n2⟩ := List.nodup_cons.mp nd
      unfold idxS
      cases i with
      | zero =>
        have h : some y = some x := h
        rw [if_pos (Option.some.inj h)]
      | succ i =>
        have h : r[i]? = some x := h
        rw [if_neg (fun z => n1 (by rw [z]; exact List.mem_of_getElem? h)), ih i x n2 h]; rfl
  exact go (nms l) i a.name ok.nd (by unfold nms; rw [List.getElem?_map, h]; rfl)
theorem pure_Line_place (h : S_Line_place K ds m G) : t_Line_place K (S_Line_names K) (S_check_known K) { nx := fun _ m' => Fin G .non m', rt := Fin G } (startD 2 ds) m := by
  obtain ⟨l, i, a, rfl, ok, e, h⟩ := h
  refine ⟨l, a.name, rfl, ok, List.mem_map.mpr ⟨a, List.mem_of_getElem? e, rfl⟩, ?_⟩
  refine ⟨_, _, rfl, by decide, l, rfl, ok, Or.inl ?_⟩
  refine ⟨⟨_, rfl⟩, nms l, rfl, ?_⟩
  refine onO_of (idx_of T ok e) (fin h)
theorem pure_Line_asker (h : S_Line_asker K ds m G) : t_Line_asker K (S_Line_place K) { nx := fun _ m' => Fin G .non m', rt := Fin G } (startD 2 ds) m := by
  obtain ⟨l, i, a, rfl, ok, e, h⟩ := h
  refine ⟨_, _, _, _, rfl, T.c_Line, T.f_Line_all, rfl, ?_⟩
  refine ⟨_, _, rfl, by decide, l, i, a, rfl, ok, e, ?_⟩
  refine onO_of (atI_n (x := a.d K) (by rw [List.getElem?_map, e]; rfl)) (fin h)
theorem cutM_hi {α : Type} {f : α → D} {l : List α} {k : Nat} : cutD (l.map f) none (some (k : Int)) = (l.take k).map f := by rw [cut_hi, List.map_take]
theorem cutM_lo {α : Type} {f : α → D} {l : List α} {k : Nat} (h : k ≤ l.length) : cutD (l.map f) (some (k : Int)) none = (l.drop k).map f := by rw [cut_lo (by rw [List.length_map]; exact h), List.map_drop]
end
end HL

namespace HL
open PySem L2 DL DM
theorem dLc2_eq {ti : TDI} {g : TDG} {tt : TDT} {ti1 : TDI} {g1 : TDG} {tt1 : TDT} {te : TD} {vs vs1 : List Nat} {ρ : REnv} {m : Mu} {F : DK} : dLc2 ti g tt ti1 g1 tt1 te vs vs1 ρ m F = ti ρ m fun ds stay m1 => lcRun stay (lcBody2 g tt ti1 g1 tt1 te vs1 (wipeD ρ vs)) ds [] m1 fun acc m2 => New (.lst acc) m2 F := rfl
local macro_rules | `(tactic| walk_at "nf") => `(tactic| try simp only [dSeq, dIfS, dOr, dAnd, dNot, dTest, dCB, dCons, dNil, dVar, dC, dRet, dNext, dAsg, gN, dOp, dUn, dAndV, dNotV, dLst, dTup, dCall, dMeth, dProp, dMake, dFld, dSl, dPart, dNoPart, dDrop, dPar, dBm, dSetF, iL_eq, addI, subI, onI_i, onS_s, onB_b, iT, iR1, dLc, dFor, lcBody, dLc2_eq, lcBody2, dYes, wipeD, atE, startD, List.map_cons, List.map_nil, List.length_cons, List.length_nil, List.cons_append, List.nil_append, List.replicate, List.getElem?_cons_zero, List.getElem?_cons_succ, List.set_cons_zero, List.set_cons_succ, Nat.reduceSub, Nat.reduceAdd])
theorem lc_from {α : Type} {stay : Mu → Prop} {body : D → List D → Mu → (List D → Mu → Prop) → Prop} {m : Mu} {k : List D → Mu → Prop} (l : List α) (e : α → D) (g : α → Option D) (acc0 : List D) (hst : stay m) (hl : acc0.length + l.length < sizeLine)
    (hs : ∀ a ∈ l, ∀ (acc : List D) (k2 : List D → Mu → Prop), acc.length < sizeLine → k2 (acc ++ (g a).toList) m → body (e a) acc m k2) (hd : k (acc0 ++ l.filterMap g) m) : lcRun stay body (l.map e) acc0 m k := by
  refine lc_inv (fun i a m' => m' = m ∧ a = acc0 ++ (l.take i).filterMap g) ⟨rfl, by simp⟩ (fun i a m' p => by rw [p.1]; exact hst) (fun i d a m' ei p k2 hk => ?_) fun a m' p => ?_
  · obtain ⟨rfl, rfl⟩ := p
    rw [List.getElem?_map] at ei
    cases q : l[i]? with
    | none => rw [q] at ei; cases ei
    | some x =>
      rw [q] at ei
      obtain rfl : e x = d := Option.some.inj ei
      refine hs x (List.mem_of_getElem? q) _ k2 ?_ (hk _ _ ⟨rfl, ?_⟩)
      · have h1 := List.length_filterMap_le g (l.take i)
        rw [List.length_take] at h1
        rw [List.length_append]; omega
      · rw [List.take_succ, q, List.filterMap_append, List.append_assoc]
        cases hf : g x with
        | none => simp [hf]
        | some y => simp [hf]
  · obtain ⟨rfl, rfl⟩ := p
    rw [List.length_map, List.take_length]; exact hd
theorem kds_len {l : List Ak} (h : ∀ a ∈ l, a.ok) : (kds l).length ≤ l.length * 60 := by
  unfold kds
  induction l with
  | nil => simp
  | cons a l ih =>
    have h1 := (h a List.mem_cons_self).ln
    have h2 := ih fun b hb => h b (List.mem_cons_of_mem _ hb)
    rw [List.flatMap_cons, List.length_append, List.length_cons]
    omega
theorem kds_lt {l : List Ak} (h : LnOk l) : (kds l).length < 4000 := by
  have := kds_len h.ok
  have := h.ln
  omega
theorem kds_take {l : List Ak} {i : Nat} {a : Ak} (h : l[i]? = some a) : kds (l.take (i + 1)) = kds (l.take i) ++ a.fits := by
  unfold kds
  rw [List.take_succ, h, List.flatMap_append]
  simp
theorem kds_take_len (l : List Ak) (i : Nat) : (kds (l.take i)).length ≤ (kds l).length := by
  unfold kds
  conv => rhs; rw [← List.take_append_drop i l]
  rw [List.flatMap_append, List.length_append]; omega
theorem allQ_refl {e : D → D → Bool} : ∀ {xs : List D}, (∀ x ∈ xs, e x x = true) → allQ e xs xs = true
  | [], _ => rfl
  | x :: xs, h => by
    rw [allQ, h x List.mem_cons_self, allQ_refl fun y hy => h y (List.mem_cons_of_mem _ hy)]; rfl
theorem strs_ok {ss : List Str} (h : ∀ s ∈ ss, nameB s = true) : okP (.lst (ss.map D.str)) := (ok_lst (n := 0) (ok_strs fun s hs => nameB_ok (h s hs))).P
theorem strs_t {ss ss' : List Str} (h : ss = ss') : eqD (.lst (ss.map D.str)) (.lst (ss'.map D.str)) = true := eqD_t (by rw [h]) (by rw [tidy]; exact tidy_strs ss)
theorem kds_nm {l : List Ak} (h : LnOk l) : ∀ s ∈ kds l, nameB s = true := fun s hs => by
  obtain ⟨a, ha, q⟩ := List.mem_flatMap.mp hs
  exact (h.ok a ha).ft s q
theorem uni_nm {ss : List Str} (h : ∀ s ∈ ss, nameB s = true) : ∀ s ∈ uniS ss, nameB s = true := fun s hs => h s (mem_dd.mp (sortS_mem.mp hs))
def S_law_kinds_of (K : PySem.W.Frag) : SpD := fun ds m F => ∃ l : List Ak, ds = [.lst (l.map (Ak.d K))] ∧ LnOk l ∧ ∀ ss : List Str, (∀ x, x ∈ ss ↔ x ∈ kds l) → ss.length < 4000 → F (.lst (ss.map D.str)) m
section
variable {K : PySem.W.Frag} (T : HF K) (ds : List D) (m : Mu) (G : DK)
include T
theorem pure_Line_kinds (h : S_Line_kinds K ds m G) : t_Line_kinds K { nx := fun _ m' => Fin G .non m', rt := Fin G } (startD 3 ds) m := by
  obtain ⟨l, rfl, ok, hl, h⟩ := h
  unfold t_Line_kinds t_Line_kinds_0
  walk_at "nf"
  refine ⟨_, _, _, _, rfl, T.c_Line, T.f_Line_every, rfl, ?_⟩
  refine lc_inv (fun i acc m' => m' = m ∧ acc = (kds (l.take i)).map D.str) ⟨rfl, rfl⟩ (fun _ _ _ _ => trivial) (fun i d acc m' ei p k2 hk => ?_) fun acc m' p => ?_
  · obtain ⟨rfl, rfl⟩ := p
    rw [List.getElem?_map] at ei
    cases q : l[i]? with
    | none => rw [q] at ei; cases ei
    | some a =>
      rw [q] at ei
      obtain rfl : a.row = d := Option.some.inj ei
      refine br_t rfl ?_
      have hk := hk _ _ ⟨rfl, rfl⟩
      rw [kds_take q, List.map_append] at hk
      refine lc_from a.fits D.str (fun s => some (.str s)) _ trivial ?_ (fun s hs acc k3 ha hk3 => br_t rfl ⟨ha, hk3⟩) ?_
      · have h1 := kds_take_len l i
        have h2 := (ok.ok a (List.mem_of_getElem? q)).ln
        rw [List.length_map]; unfold sizeLine; omega
      · rw [fm_some]; exact hk
  · obtain ⟨rfl, rfl⟩ := p
    rw [List.length_map, List.take_length]
    refine Or.inl ⟨kds l, rfl, by unfold scanBound; omega, new_fin h⟩
theorem pure_law_kinds_of (h : S_law_kinds_of K ds m G) : t__law_kinds_of K (S_Asker_fits K) { nx := fun _ m' => Fin G .non m', rt := Fin G } (startD 4 ds) m := by
  obtain ⟨l, rfl, ok, h⟩ := h
  unfold t__law_kinds_of t__law_kinds_of_2 t__law_kinds_of_1 t__law_kinds_of_0
  walk_at "nf"
  refine And.intro (by decide) (new_l ?_)
  refine for_inv (fun i ρ m' => m' = m ∧ ∃ (ss : List Str) (x : Option D), (∀ x, x ∈ ss ↔ x ∈ kds (l.take i)) ∧ ss.length ≤ 60 * i ∧ ρ = [some (.lst (l.map (Ak.d K))), some (.lst (ss.map D.str)), x, none]) ⟨rfl, [], none, by simp [kds], by simp, rfl⟩ (fun _ _ _ _ => trivial) (fun i d ρ m' ei p k2 hk => ?_) fun ρ m' p => ?_
  · obtain ⟨rfl, ss, x, hm, hl, rfl⟩ := p
    rw [List.getElem?_map] at ei
    cases q : l[i]? with
    | none => rw [q] at ei; cases ei
    | some a =>
      rw [q] at ei
      obtain rfl : a.d K = d := Option.some.inj ei
      have ha := ok.ok a (List.mem_of_getElem? q)
      have hln := ha.ln
      have hi : i < 60 := by
        have := (List.getElem?_eq_some_iff.mp q).1
        have := ok.ln
        omega
      walk_at "nf"
      refine ⟨_, _, rfl, a, rfl, Or.inl ?_⟩
      refine lc_over a.fits D.str (fun s => if s ∈ ss then none else some (.str s)) trivial (by unfold sizeLine; omega) (fun s hs acc k3 hacc hk3 => ?_) ?_
      · refine And.intro ⟨rfl, flat_strs' _⟩ ?_
        walk_at "nf"
        by_cases hin : s ∈ ss
        · refine br_f ?_ ?_
          · show (!inD (.str s) (ss.map D.str)) = false
            rw [in_strs, decide_eq_true hin]; rfl
          · rw [if_pos hin] at hk3
            simpa using hk3
        · refine br_t ?_ ⟨hacc, ?_⟩
          · show (!inD (.str s) (ss.map D.str)) = true
            rw [in_strs, decide_eq_false hin]; rfl
          · rw [if_neg hin] at hk3
            exact hk3
      · have e : a.fits.filterMap (fun s => if s ∈ ss then none else some (D.str s)) = (a.fits.filter fun s => decide (s ∉ ss)).map D.str := by
          induction a.fits with
          | nil => rfl
          | cons s r ih =>
            by_cases hin : s ∈ ss
            · simp [hin, ih]
            · simp [hin, ih]
        rw [e]
        refine new_l ?_
        have hfl := List.length_filter_le (fun s => decide (s ∉ ss)) a.fits
        refine add_lst (by rw [List.length_map, List.length_map]; unfold sizeLine; omega) ?_
        refine hk _ _ ⟨rfl, ss ++ a.fits.filter (fun s => decide (s ∉ ss)), some (a.d K), fun x => ?_, ?_, ?_⟩
        · rw [kds_take q, List.mem_append, List.mem_append, List.mem_filter, ← hm x]
          by_cases hx : x ∈ ss
          · simp [hx]
          · simp [hx]
        · rw [List.length_append]; omega
        · rw [List.map_append]
  · obtain ⟨rfl, ss, x, hm, hl, rfl⟩ := p
    rw [List.length_map, List.take_length] at hm
    rw [List.length_map] at hl
    have := ok.ln
    refine fin (h ss hm (by omega))
end
/-! ### the law's own words on lines -/
def spares : List Str := ["sparename", "otherspare", "thirdone", "fourthone", "fifthone", "sixthone", "seventhone"]
def S_law_free : SpD := fun ds m F => ∃ ss : List Str, ds = [.lst (ss.map D.str)] ∧ (∃ w ∈ spares, w ∉ ss) ∧ ∀ w ∈ spares, w ∉ ss → F (.str w) m
theorem spares_ok : ∀ w ∈ spares, nameB w = true := by decide +kernel
theorem pure_law_free {K : PySem.W.Frag} (ds : List D) (m : Mu) (G : DK) (h : S_law_free ds m G) : t__law_free K { nx := fun _ m' => Fin G .non m', rt := Fin G } (startD 3 ds) m := by
  obtain ⟨ss, rfl, ⟨w, hw, hn⟩, h⟩ := h
  unfold t__law_free t__law_free_1 t__law_free_0
  walk_at "nf"
  refine And.intro (by decide) (new_l ?_)
  refine withI_of (xs := spares.map D.str) rfl fun stay hst => ?_
  refine lc_over spares D.str (fun s => if s ∈ ss then none else some (.str s)) hst (by decide) (fun s hs acc k3 hacc hk3 => ?_) ?_
  · refine And.intro ⟨rfl, flat_strs' _⟩ ?_
    walk_at "nf"
    by_cases hin : s ∈ ss
    · refine br_f ?_ ?_
      · show (!inD (.str s) (ss.map D.str)) = false
        rw [in_strs, decide_eq_true hin]; rfl
      · rw [if_pos hin] at hk3
        simpa using hk3
    · refine br_t ?_ ⟨hacc, ?_⟩
      · show (!inD (.str s) (ss.map D.str)) = true
        rw [in_strs, decide_eq_false hin]; rfl
      · rw [if_neg hin] at hk3
        exact hk3
  refine new_l ?_
  have e : ∀ l : List Str, l.filterMap (fun s => if s ∈ ss then none else some (D.str s)) = (l.filter fun s => decide (s ∉ ss)).map D.str := fun l => by
    induction l with
    | nil => rfl
    | cons s r ih =>
      by_cases hin : s ∈ ss
      · simp [hin, ih]
      · simp [hin, ih]
  have hw2 : w ∈ spares.filter fun s => decide (s ∉ ss) := List.mem_filter.mpr ⟨hw, by simp [hn]⟩
  cases q : spares.filter fun s => decide (s ∉ ss) with
  | nil => rw [q] at hw2; cases hw2
  | cons x r =>
    have hx : x ∈ spares.filter fun s => decide (s ∉ ss) := by rw [q]; exact List.mem_cons_self
    obtain ⟨h1, h2⟩ := List.mem_filter.mp hx
    have eq : List.filterMap (fun s => if s ∈ ss then none else some (D.str s)) spares = D.str x :: r.map D.str := by rw [e, q, List.map_cons]
    refine onO_of (d := D.str x) ?_ (fin (h x h1 (by simpa using h2)))
    rw [eq]
    exact atI_n (k := 0) rfl
theorem keep_all {l : List Ak} {x : Str} (h : x ∉ nms l) : (l.filter fun b => decide (b.name ≠ x)) = l ∧ (l.filter fun b => decide (b.name = x)) = [] := by
  constructor
  · rw [List.filter_eq_self]
    intro b hb
    exact decide_eq_true fun z => h (z ▸ List.mem_map.mpr ⟨b, hb, rfl⟩)
  · rw [List.filter_eq_nil_iff]
    intro b hb
    simp only [decide_eq_true_eq]
    exact fun z => h (z ▸ List.mem_map.mpr ⟨b, hb, rfl⟩)
theorem keep_out {l : List Ak} {i : Nat} {a : Ak} (ok : LnOk l) (h : l[i]? = some a) : (l.filter fun b => decide (b.name ≠ a.name)) = outL l i ∧ (l.filter fun b => decide (b.name = a.name)) = [a] := by
  obtain ⟨hl, e⟩ := List.getElem?_eq_some_iff.mp h
  have q : l = l.take i ++ a :: l.drop (i + 1) := by
    have := List.take_append_drop i l
    rw [List.drop_eq_getElem_cons hl, e] at this
    exact this.symm
  have nd := ok.nd
  rw [q] at nd
  unfold nms at nd
  rw [List.map_append, List.map_cons] at nd
  obtain ⟨n1, n2, n3⟩ := List.nodup_append.mp nd
  obtain ⟨n4, n5⟩ := List.nodup_cons.mp n2
  have k1 : a.name ∉ nms (l.take i) := fun z => n3 _ z _ List.mem_cons_self rfl
  have k2 : a.name ∉ nms (l.drop (i + 1)) := n4
  constructor
  · conv => lhs; rw [q]
    rw [List.filter_append, (keep_all k1).1, List.filter_cons_of_neg (by simp), (keep_all k2).1]; rfl
  · conv => lhs; rw [q]
    rw [List.filter_append, (keep_all k1).2, List.filter_cons_of_pos (by simp), (keep_all k2).2]; rfl
section
variable {K : PySem.W.Frag} (T : HF K) (ds : List D) (m : Mu) (G : DK)
include T
end
end HL

namespace HL
open PySem L2 DL DM
theorem intC {C : Int → Int → Prop} {g : Int → Int → D} {i j : Int} {m : Mu} {F : DK} : intRc C g (.int i) (.int j) m F = (C i j ∧ F (g i j) m) := rfl
local macro_rules | `(tactic| walk_at "nf") => `(tactic| try simp only [dSeq, dIfS, dOr, dAnd, dNot, dTest, dCB, dCons, dNil, dVar, dC, dRet, dNext, dAsg, gN, dOp, dUn, dAndV, dNotV, dLst, dTup, dCall, dMeth, dProp, dMake, dFld, dSl, dPart, dNoPart, dDrop, dPar, dBm, dSetF, dBits, gSet, iL_eq, addI, subI, intC, onI_i, onS_s, onB_b, iT, iR1, dLc, dFor, lcBody, dLc2_eq, lcBody2, dYes, wipeD, atE, startD, List.map_cons, List.map_nil, List.length_cons, List.length_nil, List.cons_append, List.nil_append, List.replicate, List.getElem?_cons_zero, List.getElem?_cons_succ, List.set_cons_zero, List.set_cons_succ, Nat.reduceSub, Nat.reduceAdd])
/-! ### purses -/
def PurO (B : Nat) (o : MO) : Prop := ∃ a b c t : Int, o = .lst [.int a, .int b, .int c, .int t] ∧ (0 ≤ a ∧ a < 10 ^ 480) ∧ (0 ≤ b ∧ b < 2 ^ 31) ∧ (0 ≤ c ∧ c ≤ B) ∧ (0 ≤ t ∧ t < 2 ^ 20)
theorem PurO.mono {B B' : Nat} {o : MO} (h : PurO B o) (hb : B ≤ B') : PurO B' o := by
  obtain ⟨a, b, c, t, e, h1, h2, h3, h4⟩ := h
  exact ⟨a, b, c, t, e, h1, h2, ⟨h3.1, by omega⟩, h4⟩
theorem ix_ref {k : Nat} {m : Mu} {xs : List D} {i : Int} {x : D} {F : DK} (e : m k = some (.lst xs)) (h : atI xs i = some x) (f : F x m) : ixR (.ref k) (.int i) m F := ⟨xs, e, onO_of h f⟩
theorem wM {k : Nat} {m : Mu} {xs : List D} {B : Nat → List D → Prop} (e : m k = some (.lst xs)) (h : B k xs) : withM (.ref k) m B := ⟨xs, e, h⟩
theorem mulx {i j : Int} (a b : Nat) (h0 : 0 ≤ i) (ha : i < 2 ^ a) (h1 : 0 ≤ j) (hb : j < 2 ^ b) (h : a + b ≤ 134217728) : CMulX i j := by
  refine mulx_ok (a := a) (b := b) ?_ ?_ h
  · have : (i.natAbs : Int) < 2 ^ a := by rw [Int.natAbs_of_nonneg h0]; exact ha
    exact_mod_cast this
  · have : (j.natAbs : Int) < 2 ^ b := by rw [Int.natAbs_of_nonneg h1]; exact hb
    exact_mod_cast this
def S_law_mixed : SpD := fun ds m F => ∃ a b c : Int, ds = [.int a, .int b, .int c] ∧ ((0 ≤ a ∧ a < 2 ^ 31) ∧ (0 ≤ b ∧ b < 2 ^ 62) ∧ (0 ≤ c ∧ c < 2 ^ 20)) ∧ ∀ r : Int, 0 ≤ r → r < 2147483587 → F (.int r) m
theorem pure_law_mixed {K : PySem.W.Frag} (ds : List D) (m : Mu) (G : DK) (h : S_law_mixed ds m G) : t__law_mixed K { nx := fun _ m' => Fin G .non m', rt := Fin G } (startD 4 ds) m := by
  obtain ⟨a, b, c, rfl, ⟨ha, hb, hc⟩, h⟩ := h
  have p1 : (0 : Int) ≤ 104729 * b := by omega
  have p2 : 104729 * b < 2 ^ 80 := by have := hb.2; omega
  refine And.intro (mulx 31 20 ha.1 ha.2 (by omega) (by omega) (by omega)) ?_
  refine And.intro (mulx 20 62 (by omega) (by omega) hb.1 hb.2 (by omega)) ?_
  refine And.intro (mulx 80 62 p1 p2 hb.1 hb.2 (by omega)) ?_
  refine And.intro (mulx 20 20 (by omega) (by omega) hc.1 hc.2 (by omega)) ?_
  refine And.intro (show (0 : Int) < 2147483647 by omega) ?_
  have q1 := Int.emod_nonneg (a * 69069 + 104729 * b * b + 7919 * c + b) (b := 2147483647) (by omega)
  have q2 := Int.emod_lt_of_pos (a * 69069 + 104729 * b * b + 7919 * c + b) (b := 2147483647) (by omega)
  refine And.intro (mulx 31 31 q1 (by omega) q1 (by omega) (by omega)) ?_
  refine And.intro (show (0 : Int) < 2147483629 by omega) ?_
  generalize (a * 69069 + 104729 * b * b + 7919 * c + b) % 2147483647 = Y
  have r1 := Int.emod_nonneg (Y * Y + 40503) (b := 2147483629) (by omega)
  have r2 := Int.emod_lt_of_pos (Y * Y + 40503) (b := 2147483629) (by omega)
  refine And.intro (mulx 31 20 r1 (by omega) (by omega) (by omega) (by omega)) ?_
  refine And.intro (show (0 : Int) < 2147483587 by omega) ?_
  exact fin (h _ (Int.emod_nonneg _ (by omega)) (Int.emod_lt_of_pos _ (by omega)))
def S_law_draw : SpD := fun ds m F => ∃ (k : Nat) (o : MO) (B : Nat) (n : Int), ds = [.ref k, .int n] ∧ m k = some o ∧ PurO B o ∧ B ≤ 2 ^ 60 ∧ (1 ≤ n ∧ n < 2 ^ 256) ∧ ∀ (r : Int) (o' : MO), 0 ≤ r → r < n → PurO (B + 10) o' → F (.int r) (mset m k o')
theorem pure_law_draw {K : PySem.W.Frag} (ds : List D) (m : Mu) (G : DK) (h : S_law_draw ds m G) : t__law_draw K S_law_mixed { nx := fun _ m' => Fin G .non m', rt := Fin G } (startD 5 ds) m := by
  obtain ⟨k, o, B, n, rfl, hk, ⟨a, b, c, t, rfl, ha, hb, hc, ht⟩, hB, ⟨hn0, hn⟩, h⟩ := h
  unfold t__law_draw t__law_draw_7 t__law_draw_6 t__law_draw_5 t__law_draw_4 t__law_draw_3 t__law_draw_2 t__law_draw_1 t__law_draw_0
  walk_at "nf"
  have n1 : n.natAbs < 2 ^ 256 := by
    have : (n.natAbs : Int) < 2 ^ 256 := by rw [Int.natAbs_of_nonneg (by omega)]; exact hn
    exact_mod_cast this
  refine ix_ref hk (atI_n (k := 0) rfl) ?_
  refine And.intro (fun h0 => ?_) (fun h0 => ?_)
  · have h0 : decide (0 < a) = true := h0
    refine ix_ref hk (atI_n (k := 0) rfl) ?_
    walk_at "nf"
    refine ⟨by omega, ?_⟩
    refine ix_ref hk (atI_n (k := 0) rfl) ?_
    walk_at "nf"
    have lg : n.natAbs.log2 < 9000 := by
      have := (Nat.log2_lt (by omega)).mpr n1
      omega
    refine ⟨⟨by omega, lg⟩, ?_⟩
    refine wM hk (onO_of (d := 0) rfl ?_)
    refine fin (h _ _ (Int.emod_nonneg _ (by omega)) (Int.emod_lt_of_pos _ (by omega)) ⟨a / n, b, c, t, rfl, ⟨Int.ediv_nonneg ha.1 (by omega), Int.lt_of_le_of_lt (Int.ediv_le_self _ ha.1) ha.2⟩, hb, ⟨hc.1, by omega⟩, ht⟩)
  · have bt : Builtin.Int.intBits n ≤ 256 := PyProof.Rows.intBits_le n1
    have d28 : ((28 : Int).natAbs.log2 < 9000) := by decide
    refine ⟨⟨by decide, d28⟩, ?_⟩
    have pc : ((Builtin.Int.intBits n : Int) / 28) ≤ 9 := by omega
    have pc0 : 0 ≤ ((Builtin.Int.intBits n : Int) / 28) := by omega
    refine And.intro ⟨by omega, by omega⟩ ?_
    generalize hN : (1 + (Builtin.Int.intBits n : Int) / 28).toNat = N
    have hN10 : N ≤ 10 := by omega
    refine for_inv (fun i ρ m' => ∃ (f : Int) (x : Option D) (c' : Int), (0 ≤ f ∧ f < 2 ^ (32 * i)) ∧ (0 ≤ c' ∧ c' ≤ B + i) ∧ m' = mset m k (.lst [.int a, .int b, .int c', .int t]) ∧ ρ = [some (.ref k), some (.int n), some (.int f), x, none]) ?_ (fun _ _ _ _ => trivial) (fun i d ρ m' ei p k2 hk2 => ?_) fun ρ m' p => ?_
    · exact ⟨0, none, c, ⟨by decide, by decide⟩, ⟨hc.1, by omega⟩, (mset_id hk).symm, rfl⟩
    · obtain ⟨f, x, c', hf, hc', rfl, rfl⟩ := p
      have hi : i < 10 := by
        have := (List.getElem?_eq_some_iff.mp ei).1
        unfold rangeD at this
        rw [List.length_map, List.length_range] at this
        omega
      walk_at "nf"
      refine ix_ref mset_same (atI_n (k := 2) rfl) ?_
      walk_at "nf"
      refine wM mset_same (onO_of (d := 2) rfl ?_)
      rw [mset_mset]
      walk_at "nf"
      refine ⟨mulx (32 * i) 31 hf.1 hf.2 (by decide) (by decide) (by omega), ?_⟩
      refine ix_ref mset_same (atI_n (k := 1) rfl) ?_
      refine ix_ref mset_same (atI_n (k := 2) rfl) ?_
      refine ix_ref mset_same (atI_n (k := 3) rfl) ?_
      refine ⟨b, c' + 1, t, rfl, ⟨hb, ⟨by omega, by omega⟩, ht⟩, fun r hr0 hr => ?_⟩
      refine hk2 _ _ ⟨f * 2147483587 + r, some d, c' + 1, ⟨by omega, ?_⟩, ⟨by omega, by omega⟩, rfl, rfl⟩
      have e : (2 : Int) ^ (32 * (i + 1)) = 2 ^ (32 * i) * 2 ^ 32 := by rw [show 32 * (i + 1) = 32 * i + 32 by omega, Int.pow_add]
      rw [e]
      have := hf.2
      omega
    · obtain ⟨f, x, c', hf, hc', rfl, rfl⟩ := p
      have hl : (rangeD 0 N).length = N := by unfold rangeD; rw [List.length_map, List.length_range]
      rw [hl] at hc'
      walk_at "nf"
      refine ⟨by omega, fin (h _ _ (Int.emod_nonneg _ (by omega)) (Int.emod_lt_of_pos _ (by omega)) ⟨a, b, c', t, rfl, ha, hb, ⟨hc'.1, by omega⟩, ht⟩)⟩
end HL

namespace HL
open PySem L2 DL DM
local macro_rules | `(tactic| walk_at "nf") => `(tactic| try simp only [dSeq, dIfS, dOr, dAnd, dNot, dTest, dCB, dCons, dNil, dVar, dC, dRet, dNext, dAsg, gN, dOp, dUn, dAndV, dNotV, dLst, dTup, dCall, dMeth, dProp, dMake, dFld, dSl, dPart, dNoPart, dDrop, dPar, dBm, dSetF, dBits, gSet, iL_eq, addI, subI, intC, onI_i, onS_s, onB_b, iT, iR1, dLc, dFor, lcBody, dLc2_eq, lcBody2, dYes, wipeD, atE, startD, List.map_cons, List.map_nil, List.length_cons, List.length_nil, List.cons_append, List.nil_append, List.replicate, List.getElem?_cons_zero, List.getElem?_cons_succ, List.set_cons_zero, List.set_cons_succ, Nat.reduceSub, Nat.reduceAdd])
/-- a purse at a number -/
structure Pu (m : Mu) (k : Nat) (B : Nat) (o : MO) : Prop where
  at_ : m k = some o
  ok : PurO B o
  le : B ≤ 2 ^ 59
theorem Pu.set {m : Mu} {k B B' : Nat} {o o' : MO} (p : Pu m k B o) (h : PurO B' o') (hb : B' ≤ 2 ^ 59) : Pu (mset m k o') k B' o' := ⟨mset_same, h, hb⟩
/-- a draw from a purse -/
theorem drw {m : Mu} {k B : Nat} {o : MO} {n : Int} {F : DK} (p : Pu m k B o) (h1 : 1 ≤ n) (h2 : n < 2 ^ 256) (h : ∀ (r : Nat) (o' : MO), (r : Int) < n → PurO (B + 10) o' → F (.int r) (mset m k o')) : S_law_draw [.ref k, .int n] m F :=
  ⟨k, o, B, n, rfl, p.at_, p.ok, by have := p.le; omega, ⟨h1, h2⟩, fun r o' h0 hr ho => by
    have e : ((r.toNat : Nat) : Int) = r := Int.toNat_of_nonneg h0
    rw [← e]
    exact h r.toNat o' (by rw [e]; exact hr) ho⟩
theorem range_len (n : Nat) : (rangeD 0 n).length = n := by unfold rangeD; rw [List.length_map, List.length_range]
def S_law_word : SpD := fun ds m F => ∃ (k : Nat) (o : MO) (B : Nat), ds = [.ref k] ∧ Pu m k B o ∧ B + 1000 ≤ 2 ^ 59 ∧ ∀ (s : Str) (o' : MO), nameB s = true → PurO (B + 200) o' → F (.str s) (mset m k o')
theorem app_len (a b : Str) : (a ++ b).length = a.length + b.length := by
  show (a.cps ++ b.cps).size = _
  rw [Array.size_append]; rfl
theorem app_cps (a b : Str) : (a ++ b).cps.toList = a.cps.toList ++ b.cps.toList := by
  show (a.cps ++ b.cps).toList = _
  rw [Array.toList_append]
theorem pure_law_word {K : PySem.W.Frag} (ds : List D) (m : Mu) (G : DK) (h : S_law_word ds m G) : t__law_word K S_law_draw { nx := fun _ m' => Fin G .non m', rt := Fin G } (startD 3 ds) m := by
  obtain ⟨k, o, B, rfl, p, hB, h⟩ := h
  unfold t__law_word t__law_word_2 t__law_word_1 t__law_word_0
  walk_at "nf"
  refine drw p (by omega) (by omega) fun r o1 hr ho1 => ?_
  walk_at "nf"
  refine And.intro ⟨by omega, by omega⟩ ?_
  have eN : ((1 : Int) + r).toNat = r + 1 := by omega
  rw [eN]
  refine for_inv (fun i ρ m' => ∃ (s : Str) (x : Option D) (o' : MO), s.length = i ∧ s.cps.toList.all lowC = true ∧ PurO (B + 10 + 10 * i) o' ∧ m' = mset m k o' ∧ ρ = [some (.ref k), some (.str s), x]) ?_ (fun _ _ _ _ => trivial) (fun i d ρ m' ei q k2 hk2 => ?_) fun ρ m' q => ?_
  · exact ⟨"", none, o1, rfl, rfl, ho1, rfl, rfl⟩
  · obtain ⟨s, x, o', hs, hl, ho', rfl, rfl⟩ := q
    have hi : i < 10 := by
      have := (List.getElem?_eq_some_iff.mp ei).1
      rw [range_len] at this
      omega
    walk_at "nf"
    refine drw (p.set ho' (by omega)) (by omega) (by omega) fun r2 o2 hr2 ho2 => ?_
    rw [mset_mset]
    refine And.intro (show lower.length ≤ sizeLine by decide) ?_
    have hr3 : r2 < 26 := by omega
    have hx : ∃ c, lower.cps.toList[r2]? = some c := by
      have : r2 < lower.cps.toList.length := by
        have e : lower.cps.toList.length = 26 := by decide
        omega
      exact ⟨_, List.getElem?_eq_getElem this⟩
    obtain ⟨c, hc⟩ := hx
    refine onO_of (d := c) (atI_n hc) ?_
    refine And.intro ?_ ?_
    · show s.length + 1 ≤ sizeLine
      unfold sizeLine; omega
    refine hk2 _ _ ⟨s ++ ⟨#[c]⟩, some d, o2, ?_, ?_, ?_, rfl, rfl⟩
    · rw [app_len, hs]; rfl
    · rw [app_cps, List.all_append, hl]
      have : lowC c = true := decide_eq_true (List.mem_of_getElem? hc)
      simp [this]
    · exact ho2.mono (by omega)
  · obtain ⟨s, x, o', hs, hl, ho', rfl, rfl⟩ := q
    rw [range_len] at hs ho'
    refine fin (h s o' ?_ (ho'.mono (by omega)))
    unfold nameB
    rw [hl, decide_eq_true (by omega), decide_eq_true (by omega)]; rfl
def S_law_one_of : SpD := fun ds m F => ∃ (k : Nat) (o : MO) (B : Nat) (xs : List D), ds = [.ref k, .lst xs] ∧ Pu m k B o ∧ (xs ≠ [] ∧ xs.length < 1000) ∧ ∀ (x : D) (o' : MO), x ∈ xs → PurO (B + 10) o' → F x (mset m k o')
theorem pure_law_one_of {K : PySem.W.Frag} (ds : List D) (m : Mu) (G : DK) (h : S_law_one_of ds m G) : t__law_one_of K S_law_draw { nx := fun _ m' => Fin G .non m', rt := Fin G } (startD 2 ds) m := by
  obtain ⟨k, o, B, xs, rfl, p, ⟨hx, hl⟩, h⟩ := h
  have hl1 : 1 ≤ xs.length := by
    cases xs with
    | nil => exact absurd rfl hx
    | cons a r => simp
  unfold t__law_one_of t__law_one_of_0
  walk_at "nf"
  refine lenR_of (xs := xs) rfl ?_
  walk_at "nf"
  refine drw p (by omega) (by omega) fun r o1 hr ho1 => ?_
  have hr2 : r < xs.length := by omega
  refine onO_of (atI_n (List.getElem?_eq_getElem hr2)) (fin (h _ o1 (List.getElem_mem hr2) ho1))
def S_law_shuffled : SpD := fun ds m F => ∃ (k : Nat) (o : MO) (B : Nat) (xs : List D), ds = [.ref k, .lst xs] ∧ Pu m k B o ∧ B + 10000 ≤ 2 ^ 59 ∧ xs.length < 60 ∧ ∀ (ys : List D) (o' : MO), ys.Perm xs → PurO (B + 600) o' → F (.lst ys) (mset m k o')
theorem pure_law_shuffled {K : PySem.W.Frag} (ds : List D) (m : Mu) (G : DK) (h : S_law_shuffled ds m G) : t__law_shuffled K S_law_draw { nx := fun _ m' => Fin G .non m', rt := Fin G } (startD 4 ds) m := by
  obtain ⟨k, o, B, xs, rfl, p, hB, hl, h⟩ := h
  unfold t__law_shuffled t__law_shuffled_2 t__law_shuffled_1 t__law_shuffled_0
  walk_at "nf"
  refine And.intro (by decide) (Or.inr fun j hj => ?_)
  have hjk : k ≠ j := ne_of_mu p.at_ hj
  refine for_inv (fun i ρ m' => ∃ (ys : List D) (x : Option D) (o' : MO), ys.Perm (xs.take i) ∧ PurO (B + 10 * i) o' ∧ m' = mset (mset m k o') j (.lst ys) ∧ ρ = [some (.ref k), some (.lst xs), some (.ref j), x]) ?_ (fun _ _ _ _ => trivial) (fun i d ρ m' ei q k2 hk2 => ?_) fun ρ m' q => ?_
  · exact ⟨[], none, o, .nil, p.ok, by rw [mset_id p.at_], rfl⟩
  · obtain ⟨ys, x, o', hp, ho', rfl, rfl⟩ := q
    have hi := (List.getElem?_eq_some_iff.mp ei).1
    have ly : ys.length = i := by rw [hp.length_eq, List.length_take]; omega
    have hjm : mset (mset m k o') j (.lst ys) j = some (.lst ys) := mset_same
    walk_at "nf"
    refine And.intro ⟨ys, lstOf_ref hjm⟩ ?_
    refine lenR_of (lstOf_ref hjm) ?_
    walk_at "nf"
    have pu : Pu (mset (mset m k o') j (.lst ys)) k (B + 10 * i) o' := ⟨by rw [mset_ne hjk]; exact mset_same, ho', by omega⟩
    refine drw pu (by omega) (by omega) fun r o2 hr ho2 => ?_
    rw [mset_comm hjk.symm, mset_mset]
    have hjm2 : mset (mset m k o2) j (.lst ys) j = some (.lst ys) := mset_same
    have hrl : r ≤ ys.length := by omega
    refine ⟨ys, hjm2, ⟨by unfold sizeLine; omega, by omega, by omega⟩, ?_⟩
    rw [mset_mset]
    refine hk2 _ _ ⟨ys.take r ++ [d] ++ ys.drop r, some d, o2, ?_, ho2.mono (by omega), ?_, rfl⟩
    · rw [List.take_succ, ei]
      have h1 : (ys.take r ++ [d] ++ ys.drop r).Perm (d :: ys) := by
        have e : ys.take r ++ [d] ++ ys.drop r = ys.take r ++ d :: ys.drop r := by simp
        rw [e]
        exact List.perm_middle.trans (by rw [List.take_append_drop])
      exact h1.trans ((hp.cons d).trans (List.perm_append_singleton d _).symm)
    · rw [Int.toNat_natCast]
  · obtain ⟨ys, x, o', hp, ho', rfl, rfl⟩ := q
    rw [List.take_length] at hp
    walk_at "nf"
    refine fin_set (m' := mset m k o') mset_same ?_ ?_ (h ys o' hp (ho'.mono (by omega)))
    · rw [mset_ne hjk.symm]; exact hj
    · exact sub_mset (by rw [mset_ne hjk.symm]; exact hj)
def S_law_most : SpD := fun ds m F => ∃ (k : Nat) (o : MO) (B : Nat), ds = [.ref k] ∧ Pu m k B o ∧ B + 1000 ≤ 2 ^ 59 ∧ ∀ (i : Int) (o' : MO), 1 ≤ i → i < 2 ^ 97 → PurO (B + 60) o' → F (.int i) (mset m k o')
theorem pure_law_most {K : PySem.W.Frag} (ds : List D) (m : Mu) (G : DK) (h : S_law_most ds m G) : t__law_most K S_law_one_of S_law_draw { nx := fun _ m' => Fin G .non m', rt := Fin G } (startD 2 ds) m := by
  obtain ⟨k, o, B, rfl, p, hB, h⟩ := h
  unfold t__law_most t__law_most_1 t__law_most_0
  walk_at "nf"
  refine drw p (by omega) (by omega) fun r1 o1 hr1 ho1 => ?_
  walk_at "nf"
  refine And.intro ⟨by decide, by decide⟩ ?_
  refine drw (p.set ho1 (by omega)) (by decide) (by decide) fun r2 o2 hr2 ho2 => ?_
  rw [mset_mset]
  walk_at "nf"
  refine And.intro ⟨by decide, by decide⟩ ?_
  refine drw (p.set ho2 (by omega)) (by omega) (by omega) fun r3 o3 hr3 ho3 => ?_
  rw [mset_mset]
  walk_at "nf"
  refine And.intro (show 7 ≤ sizeLine by decide) (new_l ?_)
  walk_at "nf"
  refine drw (p.set ho3 (by omega)) (by omega) (by omega) fun r4 o4 hr4 ho4 => ?_
  rw [mset_mset]
  walk_at "nf"
  let xs : List D := [.int 1, .int 1, .int 2, .int 3, .int (1 + r1), .int (1 + r2), .int (10 ^ (29 : Int).toNat + r3)]
  have e4 : (4 : Int) + r4 = ((4 + r4 : Nat) : Int) := by omega
  rw [e4]
  refine sl_lst (ys := xs.take (4 + r4)) cut_hi ?_
  refine ⟨k, o4, B + 40, xs.take (4 + r4), rfl, ⟨mset_same, ho4, by omega⟩, ⟨?_, ?_⟩, fun x o5 hx ho5 => ?_⟩
  · rw [show 4 + r4 = (3 + r4) + 1 by omega]
    exact List.cons_ne_nil _ _
  · rw [List.length_take]; show min (4 + r4) 7 < 1000; omega
  · rw [mset_mset]
    have hx2 := List.mem_of_mem_take hx
    have : ∃ i : Int, x = .int i ∧ 1 ≤ i ∧ i < 2 ^ 97 := by
      simp only [xs, List.mem_cons, List.not_mem_nil, or_false] at hx2
      have hp29 : (0 : Int) < 10 ^ (29 : Int).toNat := by decide
      have hq29 : (10 : Int) ^ (29 : Int).toNat + 9 < 2 ^ 97 := by decide
      have hr2' : (r2 : Int) < 2 ^ 40 := Int.lt_trans hr2 (by decide)
      have h40 : (2 : Int) ^ 40 + 10 < 2 ^ 97 := by decide
      rcases hx2 with rfl | rfl | rfl | rfl | rfl | rfl | rfl
      · exact ⟨_, rfl, by omega, by omega⟩
      · exact ⟨_, rfl, by omega, by omega⟩
      · exact ⟨_, rfl, by omega, by omega⟩
      · exact ⟨_, rfl, by omega, by omega⟩
      · exact ⟨_, rfl, by omega, by omega⟩
      · exact ⟨_, rfl, by omega, by omega⟩
      · exact ⟨_, rfl, by omega, by omega⟩
    obtain ⟨i, rfl, hi, hi2⟩ := this
    exact fin (h i o5 hi hi2 (ho5.mono (by omega)))
end HL

namespace HL
open PySem L2 DL DM
theorem min2E {i j : Int} {m : Mu} {F : DK} : min2R [.int i, .int j] m F = F (.int (if j < i then j else i)) m := rfl
theorem max2E {i j : Int} {m : Mu} {F : DK} : max2R [.int i, .int j] m F = F (.int (if j > i then j else i)) m := rfl
theorem withI_l {xs : List D} {m : Mu} {F : List D → (Mu → Prop) → Mu → Prop} : withI (.lst xs) m F = F xs (fun _ => True) m := rfl
theorem gt2 {g1 g2 : TDG} {a b : D} {ρ : REnv} {m : Mu} {F : REnv → Mu → Prop} : gTup' 2 (gCons' g1 (gCons' g2 gNil')) (.tup [a, b]) ρ m F = (([a, b] : List D).length = 2 ∧ g1 a ρ m fun ρ1 m1 => g2 b ρ1 m1 F) := rfl
local macro_rules | `(tactic| walk_at "nf") => `(tactic| try simp only [dSeq, dIfS, dOr, dAnd, dNot, dTest, dCB, dCons, dNil, dVar, dC, dRet, dNext, dAsg, gN, gt2, dOp, dUn, dAndV, dNotV, dLst, dTup, dCall, dMeth, dProp, dMake, dFld, dSl, dPart, dNoPart, dDrop, dPar, dBm, dSetF, dBits, gSet, iL_eq, addI, subI, intC, onI_i, onS_s, onB_b, iT, iR1, dLc, dFor, lcBody, dLc2_eq, lcBody2, dYes, wipeD, atE, startD, List.map_cons, List.map_nil, List.length_cons, List.length_nil, List.cons_append, List.nil_append, List.replicate, List.getElem?_cons_zero, List.getElem?_cons_succ, List.set_cons_zero, List.set_cons_succ, Nat.reduceSub, Nat.reduceAdd])
def poolN : List Str := ["ann", "a", "ab", "b", "none", "nobody", "end", "zzzzzzzzzz"]
def poolK : List Str := ["a", "ab", "b", "o", "none", "ann", "aaaaaaaaaa"]
theorem poolN_ok : (∀ s ∈ poolN, nameB s = true) ∧ poolN.Nodup := by decide +kernel
theorem poolK_ok : (∀ s ∈ poolK, nameB s = true) ∧ poolK.Nodup := by decide +kernel
/-- the pool and a fresh word, if it is not of the pool -/
def poolW (pool : List Str) (w : Str) : List Str := pool ++ (if w ∈ pool then [] else [w])
theorem poolW_nd {pool : List Str} {w : Str} (h : pool.Nodup) : (poolW pool w).Nodup := by
  unfold poolW
  by_cases q : w ∈ pool
  · rw [if_pos q, List.append_nil]; exact h
  · rw [if_neg q]
    refine List.nodup_append.mpr ⟨h, by simp, fun a ha b hb => ?_⟩
    rw [List.mem_singleton.mp hb]
    exact fun z => q (z ▸ ha)
theorem poolW_mem {pool : List Str} {w s : Str} (h : s ∈ poolW pool w) : s ∈ pool ∨ s = w := by
  unfold poolW at h
  rcases List.mem_append.mp h with h | h
  · exact .inl h
  · by_cases q : w ∈ pool
    · rw [if_pos q] at h; cases h
    · rw [if_neg q] at h; exact .inr (List.mem_singleton.mp h)
theorem poolW_len {pool : List Str} {w : Str} : pool.length ≤ (poolW pool w).length ∧ (poolW pool w).length ≤ pool.length + 1 := by
  unfold poolW
  rw [List.length_append]
  split <;> simp
/-- n of the pool's words, in any order -/
structure Some_ (pool : List Str) (n : Nat) (ss : List Str) : Prop where
  nm : ∀ s ∈ ss, nameB s = true
  nd : ss.Nodup
  ln : ss.length = n
  of : ∃ w, ∀ s ∈ ss, s ∈ pool ∨ s = w
def S_law_some (pool : List Str) : SpD := fun ds m F => ∃ (k : Nat) (o : MO) (B : Nat) (n : Nat), ds = [.ref k, .int n] ∧ Pu m k B o ∧ B + 20000 ≤ 2 ^ 59 ∧ (0 ≤ n ∧ n ≤ pool.length) ∧ ∀ (ss : List Str) (o' : MO), Some_ pool n ss → PurO (B + 1000) o' → F (.lst (ss.map D.str)) (mset m k o')
theorem perm_strs {ys : List D} {ss : List Str} (h : ys.Perm (ss.map D.str)) : ∃ ts : List Str, ys = ts.map D.str ∧ ts.Perm ss := by
  have hm : ∀ y ∈ ys, ∃ s, y = D.str s := fun y hy => by
    obtain ⟨s, _, e⟩ := List.mem_map.mp (h.subset hy)
    exact ⟨s, e.symm⟩
  let f : D → Str := fun d => match d with
    | .str s => s
    | _ => ""
  refine ⟨ys.map f, ?_, ?_⟩
  · rw [List.map_map]
    conv => lhs; rw [← List.map_id ys]
    refine List.map_congr_left fun y hy => ?_
    obtain ⟨s, rfl⟩ := hm y hy
    rfl
  · have := h.map f
    rw [List.map_map] at this
    have e : (f ∘ D.str) = id := rfl
    rw [e, List.map_id] at this
    exact this
/-- the two words' common tail -/
theorem pool_tail {K : PySem.W.Frag} {G : DK} {m : Mu} {k B n : Nat} {o : MO} {pool : List Str} (hp : (∀ s ∈ pool, nameB s = true) ∧ pool.Nodup) (hl : pool.length < 50) (p : Pu m k B o) (hB : B + 20000 ≤ 2 ^ 59) (hn : 0 ≤ n ∧ n ≤ pool.length) (w : Str) (hw : nameB w = true) (o1 : MO) (ho1 : PurO (B + 200) o1)
    (h : ∀ (ss : List Str) (o' : MO), Some_ pool n ss → PurO (B + 1000) o' → G (.lst (ss.map D.str)) (mset m k o')) :
    (dSl (dCall S_law_shuffled (dCons (dVar 0) (dCons (dOp addR (dVar 2) (dLc (iL (dLst (dCons (dVar 3) (dNil)))) (gN 4) (dTest (dOp (inR true) (dVar 4) (dVar 2))) (dVar 4) [4])) (dNil)))) (dNoPart) (dPart (dVar 1))) [some (.ref k), some (.int n), some (.lst (pool.map D.str)), some (.str w), none] (mset m k o1) (Fin G) := by
  walk_at "nf"
  refine And.intro (by decide) (new_l ?_)
  refine withI_of (xs := [w].map D.str) rfl fun stay hst => ?_
  refine lc_over [w] D.str (fun s => if s ∈ pool then none else some (.str s)) hst (show 1 < sizeLine by decide) (fun s hs acc k3 hacc hk3 => ?_) ?_
  · refine And.intro ⟨rfl, flat_strs' _⟩ ?_
    walk_at "nf"
    by_cases hin : s ∈ pool
    · refine br_f ?_ ?_
      · show (!inD (.str s) (pool.map D.str)) = false
        rw [in_strs, decide_eq_true hin]; rfl
      · rw [if_pos hin] at hk3
        simpa using hk3
    · refine br_t ?_ ⟨hacc, ?_⟩
      · show (!inD (.str s) (pool.map D.str)) = true
        rw [in_strs, decide_eq_false hin]; rfl
      · rw [if_neg hin] at hk3
        exact hk3
  refine new_l ?_
  have e : [w].filterMap (fun s => if s ∈ pool then none else some (D.str s)) = (if w ∈ pool then [] else [w]).map D.str := by
    by_cases q : w ∈ pool
    · simp [q]
    · simp [q]
  rw [e]
  have pl := poolW_len (pool := pool) (w := w)
  refine add_lst ?_ ?_
  · rw [← List.length_append, ← List.map_append, List.length_map]
    show (poolW pool w).length ≤ sizeLine
    unfold sizeLine; omega
  rw [← List.map_append]
  show S_law_shuffled [.ref k, .lst ((poolW pool w).map D.str)] _ _
  refine ⟨k, o1, B + 200, _, rfl, ⟨mset_same, ho1, by omega⟩, by omega, by rw [List.length_map]; omega, fun ys o2 hy ho2 => ?_⟩
  obtain ⟨ts, rfl, ht⟩ := perm_strs hy
  rw [mset_mset]
  walk_at "nf"
  refine sl_lst (ys := (ts.take n).map D.str) (by rw [cut_hi, List.map_take]) ?_
  have hm : ∀ s ∈ ts.take n, s ∈ pool ∨ s = w := fun s hs => poolW_mem (ht.subset (List.mem_of_mem_take hs))
  refine fin (h _ o2 ⟨fun s hs => ?_, ?_, ?_, w, hm⟩ (ho2.mono (by omega)))
  · rcases hm s hs with q | rfl
    · exact hp.1 s q
    · exact hw
  · exact (ht.nodup_iff.mpr (poolW_nd hp.2)).sublist (List.take_sublist _ _)
  · rw [List.length_take, ht.length_eq]; omega
theorem pure_law_kinds {K : PySem.W.Frag} (ds : List D) (m : Mu) (G : DK) (h : S_law_some poolK ds m G) : t__law_kinds K S_law_shuffled S_law_word { nx := fun _ m' => Fin G .non m', rt := Fin G } (startD 5 ds) m := by
  obtain ⟨k, o, B, n, rfl, p, hB, hn, h⟩ := h
  refine And.intro (show 7 ≤ sizeLine by decide) (new_l ?_)
  refine ⟨k, o, B, rfl, p, by omega, fun w o1 hw ho1 => ?_⟩
  refine And.intro (show 2 ≤ sizeLine by decide) ?_
  refine And.intro rfl ?_
  exact pool_tail (K := K) poolK_ok (by decide) p hB hn w hw o1 ho1 h
theorem pure_law_names {K : PySem.W.Frag} (ds : List D) (m : Mu) (G : DK) (h : S_law_some poolN ds m G) : t__law_names K S_law_shuffled S_law_word { nx := fun _ m' => Fin G .non m', rt := Fin G } (startD 5 ds) m := by
  obtain ⟨k, o, B, n, rfl, p, hB, hn, h⟩ := h
  refine And.intro (show 8 ≤ sizeLine by decide) (new_l ?_)
  refine ⟨k, o, B, rfl, p, by omega, fun w o1 hw ho1 => ?_⟩
  refine And.intro (show 2 ≤ sizeLine by decide) ?_
  refine And.intro rfl ?_
  exact pool_tail (K := K) poolN_ok (by decide) p hB hn w hw o1 ho1 h
def S_law_asker (K : PySem.W.Frag) : SpD := fun ds m F => ∃ (k : Nat) (o : MO) (B : Nat) (n : Str) (ss : List Str), ds = [.ref k, .str n, .lst (ss.map D.str)] ∧ Pu m k B o ∧ B + 20000 ≤ 2 ^ 59 ∧ nameB n = true ∧ ((∀ s ∈ ss, nameB s = true) ∧ ss.Nodup ∧ ss ≠ [] ∧ ss.length < 50) ∧
  ∀ (a : Ak) (o' : MO), a.ok → a.name = n → a.fits.length ≤ 3 → PurO (B + 1000) o' → F (a.d K) (mset m k o')
theorem pure_law_asker {K : PySem.W.Frag} (ds : List D) (m : Mu) (G : DK) (h : S_law_asker K ds m G) : t__law_asker K (S_Asker___init__ K) S_law_draw S_law_most S_law_shuffled { nx := fun _ m' => Fin G .non m', rt := Fin G } (startD 4 ds) m := by
  obtain ⟨k, o, B, n, ss, rfl, p, hB, hn, ⟨hf, nd, ne, hl⟩, h⟩ := h
  unfold t__law_asker t__law_asker_1 t__law_asker_0
  walk_at "nf"
  refine ⟨k, o, B, ss.map D.str, rfl, p, by omega, by rw [List.length_map]; omega, fun ys o1 hy ho1 => ?_⟩
  obtain ⟨ts, rfl, ht⟩ := perm_strs hy
  have tl : 1 ≤ ts.length := by
    rw [ht.length_eq]
    cases ss with
    | nil => exact absurd rfl ne
    | cons a r => simp
  walk_at "nf"
  refine lenR_of (xs := ts.map D.str) rfl ?_
  have hmin : ∃ q : Int, q = (if (3 : Int) < ((ts.map D.str).length : Int) then 3 else ((ts.map D.str).length : Int)) ∧ 1 ≤ q ∧ q ≤ 3 := by
    refine ⟨_, rfl, ?_⟩
    rw [List.length_map]
    split <;> omega
  obtain ⟨q, eq, q1, q3⟩ := hmin
  rw [min2E, ← eq]
  refine drw (p.set ho1 (by omega)) q1 (by omega) fun r o2 hr ho2 => ?_
  rw [mset_mset]
  walk_at "nf"
  have e1 : (1 : Int) + r = ((1 + r : Nat) : Int) := by omega
  rw [e1]
  refine sl_lst (ys := (ts.take (1 + r)).map D.str) (by rw [cut_hi, List.map_take]) ?_
  refine ⟨k, o2, B + 600 + 10, rfl, ⟨mset_same, ho2, by omega⟩, by omega, fun i o3 hi _ ho3 => ?_⟩
  rw [mset_mset]
  walk_at "nf"
  have hlen : (ts.take (1 + r)).length ≤ 3 := by rw [List.length_take]; omega
  refine mkA (ss := ts.take (1 + r)) rfl hn (fun s hs => hf s (ht.subset (List.mem_of_mem_take hs))) ((ht.nodup_iff.mpr nd).sublist (List.take_sublist _ _)) ?_ hi (by omega) fun ok => fin (h _ o3 ok rfl ?_ (ho3.mono (by omega)))
  · intro z
    have := congrArg List.length z
    rw [List.length_take] at this
    have q0 : min (1 + r) ts.length = 0 := this
    omega
  · show (sortS _).length ≤ 3
    rw [sortS_len]; exact hlen
def S_law_line (K : PySem.W.Frag) : SpD := fun ds m F => ∃ (k : Nat) (o : MO) (B : Nat) (ss : List Str), ds = [.ref k, .lst (ss.map D.str), .int 8] ∧ Pu m k B o ∧ B + 100000 ≤ 2 ^ 59 ∧ ((∀ s ∈ ss, nameB s = true) ∧ ss.Nodup ∧ ss ≠ [] ∧ ss.length < 50) ∧
  ∀ (l : List Ak) (o' : MO), LnOk l → (1 ≤ l.length ∧ l.length ≤ 8) → (∀ a ∈ l, a.fits.length ≤ 3) → (∃ w, ∀ s ∈ nms l, s ∈ poolN ∨ s = w) → PurO (B + 20000) o' → F (LnD K l) (mset m k o')
theorem pure_law_line {K : PySem.W.Frag} (ds : List D) (m : Mu) (G : DK) (h : S_law_line K ds m G) : t__law_line K (S_Line___init__ K) (S_law_asker K) (S_law_some poolN) S_law_draw { nx := fun _ m' => Fin G .non m', rt := Fin G } (startD 5 ds) m := by
  obtain ⟨k, o, B, ks, rfl, p, hB, hks, h⟩ := h
  unfold t__law_line t__law_line_1 t__law_line_0
  walk_at "nf"
  refine drw p (by omega) (by omega) fun r o1 hr ho1 => ?_
  walk_at "nf"
  have e1 : (1 : Int) + r = ((1 + r : Nat) : Int) := by omega
  rw [e1]
  refine ⟨k, o1, B + 10, 1 + r, rfl, ⟨mset_same, ho1, by omega⟩, by omega, ⟨by omega, by show 1 + r ≤ 8; omega⟩, fun ss o2 hs ho2 => ?_⟩
  rw [mset_mset]
  walk_at "nf"
  rw [withI_l]
  refine lc_inv (fun i acc m' => ∃ (l : List Ak) (o' : MO), acc = l.map (Ak.d K) ∧ nms l = ss.take i ∧ (∀ a ∈ l, a.ok) ∧ (∀ a ∈ l, a.fits.length ≤ 3) ∧ PurO (B + 10 + 1000 + 1000 * i) o' ∧ m' = mset m k o') ?_ (fun _ _ _ _ => trivial) (fun i d acc m' ei q k2 hk2 => ?_) fun acc m' q => ?_
  · exact ⟨[], o2, rfl, rfl, by simp, by simp, ho2, rfl⟩
  · obtain ⟨l, o', rfl, hn, hok, hf, ho', rfl⟩ := q
    rw [List.getElem?_map] at ei
    cases q : ss[i]? with
    | none => rw [q] at ei; cases ei
    | some s =>
      rw [q] at ei
      obtain rfl : D.str s = d := Option.some.inj ei
      have hi := (List.getElem?_eq_some_iff.mp q).1
      have ln := hs.ln
      have ll : l.length = i := by
        have := congrArg List.length hn
        unfold nms at this
        rw [List.length_map, List.length_take] at this
        omega
      walk_at "nf"
      refine br_t rfl ?_
      refine ⟨k, o', B + 10 + 1000 + 1000 * i, s, ks, rfl, ⟨mset_same, ho', by omega⟩, by omega, hs.nm s (List.mem_of_getElem? q), hks, fun a o3 ha han haf ho3 => ?_⟩
      rw [mset_mset]
      refine ⟨by rw [List.length_map]; unfold sizeLine; omega, ?_⟩
      refine hk2 _ _ ⟨l ++ [a], o3, by simp, ?_, ?_, ?_, ho3.mono (by omega), rfl⟩
      · unfold nms at hn ⊢
        rw [List.map_append, hn, List.take_succ, q, List.map_cons, List.map_nil, han]; rfl
      · intro b hb
        rcases List.mem_append.mp hb with hb | hb
        · exact hok b hb
        · rw [List.mem_singleton.mp hb]; exact ha
      · intro b hb
        rcases List.mem_append.mp hb with hb | hb
        · exact hf b hb
        · rw [List.mem_singleton.mp hb]; exact haf
  · obtain ⟨l, o', rfl, hn, hok, hf, ho', rfl⟩ := q
    have ln := hs.ln
    rw [List.length_map] at hn ho'
    rw [List.take_length] at hn
    have ll : l.length = 1 + r := by
      have := congrArg List.length hn
      unfold nms at this
      rw [List.length_map] at this
      omega
    have lok : LnOk l := ⟨hok, by rw [hn]; exact hs.nd, by omega⟩
    refine new_l ?_
    refine mkL (l := l) rfl lok (fin (h l o' lok ⟨by omega, by omega⟩ hf ?_ (ho'.mono (by omega))))
    rw [hn]; exact hs.of
/-! ### the purses -/
def S_law_purse : SpD := fun ds m F => ∃ (ns : List Int) (t : Nat), ds = [.scr ns, .int t] ∧ t < 1000 ∧ ∀ o, PurO 0 o → ∀ k, m k = none → F (.ref k) (mset m k o)
theorem cut_ints (ns : List Int) (lo hi : Option Int) : ∃ ks : List Int, cutD (ns.map D.int) lo hi = ks.map D.int := by
  unfold cutD
  exact ⟨(ns.drop (HT.sIx (ns.map D.int).length 0 lo)).take (HT.sIx (ns.map D.int).length (ns.map D.int).length hi - HT.sIx (ns.map D.int).length 0 lo), by rw [List.map_take, List.map_drop]⟩
theorem pure_law_purse {K : PySem.W.Frag} (ds : List D) (m : Mu) (G : DK) (h : S_law_purse ds m G) : t__law_purse K { nx := fun _ m' => Fin G .non m', rt := Fin G } (startD 3 ds) m := by
  obtain ⟨ns, t, rfl, ht, h⟩ := h
  obtain ⟨ks, ek⟩ := cut_ints ns (some (t : Int)) (some ((t : Int) + 1))
  refine Or.inl ?_
  refine ⟨ks, ek, ?_⟩
  refine And.intro ⟨by decide, by decide⟩ ?_
  refine And.intro ⟨by decide, by decide⟩ ?_
  refine And.intro ⟨by decide, by decide +kernel⟩ ?_
  refine And.intro (show (0 : Int) < (10 ^ (60 : Int).toNat) ^ (8 : Int).toNat by decide +kernel) ?_
  refine And.intro (show (0 : Int) < 2147483629 by decide) ?_
  refine And.intro (show 4 ≤ sizeLine by decide) (Or.inr fun k hk => fin (h _ ?_ k hk))
  have hp : (0 : Int) < (10 ^ (60 : Int).toNat) ^ (8 : Int).toNat := by decide +kernel
  have he : ((10 : Int) ^ (60 : Int).toNat) ^ (8 : Int).toNat = 10 ^ 480 := by decide +kernel
  refine ⟨_, _, 0, t, rfl, ⟨Int.emod_nonneg _ (by omega), ?_⟩, ⟨Int.emod_nonneg _ (by decide), ?_⟩, ⟨by decide, by decide⟩, ⟨by omega, by omega⟩⟩
  · rw [← he]; exact Int.emod_lt_of_pos _ hp
  · exact Int.lt_trans (Int.emod_lt_of_pos _ (by decide)) (by decide)
def S_law_purses : SpD := fun ds m F => ∃ (ns : List Int) (c : Nat), ds = [.scr ns, .int (c : Nat)] ∧ (ns.length < 1000 ∧ 1 ≤ c ∧ c < 100) ∧ ∀ (ks : List Nat) (m' : Mu), ks.Nodup → (∀ k ∈ ks, ∃ o, m' k = some o ∧ PurO 0 o) → F (.lst (ks.map D.ref)) m'
theorem pure_law_purses {K : PySem.W.Frag} (ds : List D) (m : Mu) (G : DK) (h : S_law_purses ds m G) : t__law_purses K S_law_purse { nx := fun _ m' => Fin G .non m', rt := Fin G } (startD 3 ds) m := by
  obtain ⟨ns, c, rfl, ⟨hl, hc1, hc2⟩, h⟩ := h
  let n0 : Int := if (ns.length : Int) < (c : Nat) then ns.length else (c : Nat)
  let N : Int := if n0 > 1 then n0 else 1
  have hN : 1 ≤ N ∧ N ≤ 100 := by
    show 1 ≤ (if n0 > 1 then n0 else 1) ∧ (if n0 > 1 then n0 else 1) ≤ 100
    have : n0 ≤ 100 := by show (if (ns.length : Int) < (c : Nat) then (ns.length : Int) else (c : Nat)) ≤ 100; split <;> omega
    split <;> omega
  refine And.intro (show -(2 ^ 62) ≤ N ∧ N < 2 ^ 62 from ⟨by omega, by omega⟩) ?_
  show lcRun (fun _ => True) _ (rangeD 0 N.toNat) [] m _
  refine lc_inv (fun i acc m' => ∃ ks : List Nat, acc = ks.map D.ref ∧ ks.length = i ∧ ks.Nodup ∧ ∀ k ∈ ks, ∃ o, m' k = some o ∧ PurO 0 o) ⟨[], rfl, rfl, List.nodup_nil, by simp⟩ (fun _ _ _ _ => trivial) (fun i d acc m' ei q k2 hk2 => ?_) fun acc m' q => ?_
  · obtain ⟨ks, rfl, hk, nd, ho⟩ := q
    have hi := (List.getElem?_eq_some_iff.mp ei).1
    rw [range_len] at hi
    have ed : d = .int (i : Nat) := by
      unfold rangeD at ei
      rw [List.getElem?_map, List.getElem?_range hi] at ei
      have := Option.some.inj ei
      rw [← this]; simp
    subst ed
    refine br_t rfl ?_
    refine ⟨ns, i, rfl, by omega, fun o hpo k hkn => ?_⟩
    refine ⟨by rw [List.length_map]; unfold sizeLine; omega, ?_⟩
    refine hk2 _ _ ⟨ks ++ [k], by simp, by simp [hk], ?_, fun j hj => ?_⟩
    · refine List.nodup_append.mpr ⟨nd, by simp, fun a ha b hb => ?_⟩
      rw [List.mem_singleton.mp hb]
      intro z
      obtain ⟨o2, e2, _⟩ := ho a ha
      rw [z, hkn] at e2; cases e2
    · rcases List.mem_append.mp hj with hj | hj
      · obtain ⟨o2, e2, h2⟩ := ho j hj
        exact ⟨o2, by rw [mset_ne (ne_of_mu e2 hkn)]; exact e2, h2⟩
      · rw [List.mem_singleton.mp hj]
        exact ⟨o, mset_same, hpo⟩
  · obtain ⟨ks, rfl, hk, nd, ho⟩ := q
    exact Or.inl (fin (h ks m' nd ho))
end HL

namespace HL
open PySem L2 DL DM
/-! ### what can be shown -/
structure Shw (n : Nat) (d : D) : Prop where
  p : isP d = true
  sh : (toP d).showable = true
  lf : (toP d).leavesShort 110 = true
  wt : (toP d).weight ≤ n
  dp : (toP d).depth ≤ 64
theorem Shw.ok {n : Nat} {d : D} (h : Shw n d) (hn : n ≤ 140000 := by decide) : okP d ∧ (toP d).showable = true ∧ (toP d).shown.length ≤ sizeLine := by
  refine ⟨⟨h.p, h.dp⟩, h.sh, ?_⟩
  have := PyData.shown_le 110 (by decide) _ h.lf
  have := h.wt
  unfold sizeLine
  omega
theorem shw_str {s : Str} (h : nameB s = true) : Shw 10 (.str s) := by
  refine ⟨nameB_ok h, rfl, ?_, nameB_len h, Nat.zero_le _⟩
  rw [toP, PyData.leavesShort, List.all_eq_true]
  intro c hc
  have := nameB_ok h
  unfold PyData.strOk at this
  rw [Array.all_eq_true_iff_forall_mem] at this
  have := of_decide_eq_true (this c (Array.mem_toList_iff.mp hc))
  exact decide_eq_true (by omega)
theorem shw_int {i : Int} (h0 : 0 ≤ i) (h : i < 2 ^ 100) : Shw 101 (.int i) := by
  have hn : i.natAbs < 2 ^ 100 := by
    have : (i.natAbs : Int) < 2 ^ 100 := by rw [Int.natAbs_of_nonneg h0]; exact h
    exact_mod_cast this
  have hlog : i.natAbs.log2 < 101 := by
    by_cases z : i.natAbs = 0
    · rw [z]; decide
    · have := (Nat.log2_lt z).mpr hn; omega
  refine ⟨rfl, ?_, ?_, ?_, Nat.zero_le _⟩
  · rw [toP, PyData.showable]; exact decide_eq_true (by omega)
  · rw [toP, PyData.leavesShort]
    refine decide_eq_true ?_
    have h1 := PyProof.Rows.toString_length_le (v := i) h0 (k := 31) (by decide) (Int.lt_trans h (by decide))
    show (Str.ofString (toString i)).length ≤ 110
    omega
  · rw [toP, PyData.weight]
    split <;> omega
theorem shws {n : Nat} {k : Nat} : ∀ {xs : List D}, (∀ x ∈ xs, Shw n x ∧ (toP x).depth ≤ k) → isPs xs = true ∧ PyData.showableAll (toPs xs) = true ∧ PyData.leavesShortAll 110 (toPs xs) = true ∧ PyData.weightAll (toPs xs) ≤ xs.length * (n + 1) ∧ PyData.depthAll (toPs xs) ≤ k
  | [], _ => ⟨rfl, rfl, rfl, Nat.zero_le _, Nat.zero_le _⟩
  | x :: xs, h => by
    obtain ⟨a1, a2, a3, a4, a5⟩ := shws (xs := xs) fun y hy => h y (List.mem_cons_of_mem _ hy)
    obtain ⟨c, cd⟩ := h x List.mem_cons_self
    refine ⟨by rw [isPs, c.p, a1]; rfl, by rw [toPs, PyData.showableAll, c.sh, a2]; rfl, by rw [toPs, PyData.leavesShortAll, c.lf, a3]; rfl, ?_, ?_⟩
    · rw [toPs, PyData.weightAll, List.length_cons, Nat.add_mul]
      have := c.wt
      omega
    · rw [toPs, PyData.depthAll]
      exact Nat.max_le.mpr ⟨cd, a5⟩
theorem shw_lst {n k : Nat} {xs : List D} (h : ∀ x ∈ xs, Shw n x ∧ (toP x).depth ≤ k) (hk : k < 64 := by decide) : Shw (xs.length * (n + 1)) (.lst xs) := by
  obtain ⟨a1, a2, a3, a4, a5⟩ := shws h
  exact ⟨by rw [isP]; exact a1, by rw [toP, PyData.showable]; exact a2, by rw [toP, PyData.leavesShort]; exact a3, by rw [toP, PyData.weight]; exact a4, by rw [toP, PyData.depth]; omega⟩
theorem Shw.mono {n n' : Nat} {d : D} (h : Shw n d) (hn : n ≤ n') : Shw n' d := ⟨h.p, h.sh, h.lf, Nat.le_trans h.wt hn, h.dp⟩
theorem shw_strs {ss : List Str} (h : ∀ s ∈ ss, nameB s = true) : Shw (ss.length * 11) (.lst (ss.map D.str)) := by
  have := shw_lst (n := 10) (k := 0) (xs := ss.map D.str) fun x hx => by
    obtain ⟨s, hs, rfl⟩ := List.mem_map.mp hx
    exact ⟨shw_str (h s hs), Nat.le_refl _⟩
  rw [List.length_map] at this
  exact this
/-! ### other askers -/
local macro_rules | `(tactic| walk_at "nf") => `(tactic| try simp only [dSeq, dIfS, dOr, dAnd, dNot, dTest, dCB, dCons, dNil, dVar, dC, dRet, dNext, dAsg, gN, gt2, dOp, dUn, dAndV, dNotV, dLst, dTup, dCall, dMeth, dProp, dMake, dFld, dSl, dPart, dNoPart, dDrop, dPar, dBm, dRev, dSetF, dBits, gSet, iL_eq, addI, subI, intC, onI_i, onS_s, onB_b, iT, iR1, dLc, dFor, lcBody, dLc2_eq, lcBody2, dYes, wipeD, atE, startD, List.map_cons, List.map_nil, List.length_cons, List.length_nil, List.cons_append, List.nil_append, List.replicate, List.getElem?_cons_zero, List.getElem?_cons_succ, List.set_cons_zero, List.set_cons_succ, Nat.reduceSub, Nat.reduceAdd])
/-- askers, each unlike a given one -/
def S_law_other_askers (K : PySem.W.Frag) : SpD := fun ds m F => ∃ (n : Str) (ss : List Str) (i : Int), ds = [.str n, .lst (ss.map D.str), .int i] ∧ (nameB n = true ∧ (∀ s ∈ ss, nameB s = true) ∧ ss.Nodup ∧ ss ≠ [] ∧ ss.length < 7 ∧ 1 ≤ i) ∧
  ∀ l : List Ak, (∀ a ∈ l, a.ok ∧ a ≠ ⟨n, sortS ss, i⟩) → l.length < 100 → F (.lst (l.map (Ak.d K))) m
theorem free_few {ss : List Str} (h : ss.length < 7) : ∃ w ∈ spares, w ∉ ss := by
  refine Classical.byContradiction fun z => ?_
  have hs : ∀ w ∈ spares, w ∈ ss := fun w hw => Classical.byContradiction fun q => z ⟨w, hw, q⟩
  have len_le : ∀ (a b : List Str), a.Nodup → (∀ x ∈ a, x ∈ b) → a.length ≤ b.length := by
    intro a
    induction a with
    | nil => intro b _ _; exact Nat.zero_le _
    | cons x r ih =>
      intro b nd h
      obtain ⟨n1, n2⟩ := List.nodup_cons.mp nd
      have hx := h x List.mem_cons_self
      have i2 := ih (b.erase x) n2 fun y hy => (List.mem_erase_of_ne (a := y) (b := x) (fun z : y = x => n1 (z ▸ hy))).mpr (h y (List.mem_cons_of_mem _ hy))
      rw [List.length_erase_of_mem hx] at i2
      have := List.length_pos_of_mem hx
      rw [List.length_cons]; omega
  have := len_le spares ss (by decide +kernel) hs
  have l7 : spares.length = 7 := rfl
  omega
end HL

namespace HL
open PySem L2 DL DM
local macro_rules | `(tactic| walk_at "nf") => `(tactic| try simp only [dSeq, dIfS, dOr, dAnd, dNot, dTest, dCB, dCons, dNil, dVar, dC, dRet, dRetN, dNext, dAsg, gN, gt2, dOp, dUn, dAndV, dOrV, dNotV, dIf, dLst, dTup, dCall, dMeth, dProp, dMake, dFld, dSl, dPart, dNoPart, dDrop, dPar, dPar3, dBm, dRev, dSetF, dBits, gSet, gTup', gCons', gNil', dDGet, dDIn, dDGet2, dDGet1, dDPut, dNewK, dNewT, iL_eq, iEn, on1, on2, onO_some, addI, subI, intC, onI_i, onS_s, onB_b, iT, iR1, iR2, dLc, dFor, lcBody, dLc2_eq, lcBody2, dDc, dcBody, dYes, wipeD, atE, startD, List.map_cons, List.map_nil, List.length_cons, List.length_nil, List.cons_append, List.nil_append, List.replicate, List.getElem?_cons_zero, List.getElem?_cons_succ, List.set_cons_zero, List.set_cons_succ, Nat.reduceSub, Nat.reduceAdd, Nat.reduceEqDiff, if_true, if_false])
-- BEGIN check_line
def t_check_line_0 (K : PySem.W.Frag) : TDS :=
  dIfS (dNot (dTest (dCB (isiR K) (dCons (dVar 0) (dCons (dC (.opq (.ref (ga K "Line")))) (dNil)))))) (dNever) (dNext)
def t_check_line (K : PySem.W.Frag) : TDS :=
  (t_check_line_0 K)
-- END
-- BEGIN is_stock
def t_is_stock_0 (K : PySem.W.Frag) (S_is_name : SpD) (S_is_count : SpD) : TDS :=
  dRet (dOp (eqR false) (dLkE (dLc (iK (dVar 0)) (gN 1) (dOr (dNot (dTest (dCall S_is_name (dCons (dVar 1) (dNil))))) (dNot (dTest (dCall S_is_count (dCons (dDGet (dVar 0) (dVar 1)) (dNil)))))) (dVar 1) [1])) (dLst (dNil)))
def t_is_stock_1 (K : PySem.W.Frag) (S_is_name : SpD) (S_is_count : SpD) : TDS :=
  dIfS (dNot (dTest (dCB (isiR K) (dCons (dVar 0) (dCons (dC (.opq (.ty "dict"))) (dNil)))))) (dRet (dC (.bl false))) (dNext)
def t_is_stock (K : PySem.W.Frag) (S_is_name : SpD) (S_is_count : SpD) : TDS :=
  dSeq ((t_is_stock_1 K S_is_name S_is_count))
  ((t_is_stock_0 K S_is_name S_is_count))
-- END
-- BEGIN check_stock
def t_check_stock_0 (K : PySem.W.Frag) (S_is_stock : SpD) : TDS :=
  dIfS (dNot (dTest (dCall S_is_stock (dCons (dVar 0) (dNil))))) (dNever) (dNext)
def t_check_stock (K : PySem.W.Frag) (S_is_stock : SpD) : TDS :=
  (t_check_stock_0 K S_is_stock)
-- END
-- BEGIN mosts_of
def t_mosts_of_0 (K : PySem.W.Frag) : TDS :=
  dRet (dLc (iL (dVar 0)) (gN 1) (dYes) (dOp ixR (dVar 1) (dC (.int 2))) [1])
def t_mosts_of (K : PySem.W.Frag) : TDS :=
  (t_mosts_of_0 K)
-- END
-- BEGIN check_names
def t_check_names_0 (K : PySem.W.Frag) (S_Line_names : SpD) (S_are_names : SpD) : TDS :=
  dIfS (dTest (dOp (eqR true) (dLc (iL (dVar 1)) (gN 3) (dTest (dDIn true (dVar 3) (dVar 2))) (dVar 3) [3]) (dLst (dNil)))) (dNever) (dNext)
def t_check_names_1 (K : PySem.W.Frag) (S_Line_names : SpD) (S_are_names : SpD) : TDS :=
  dAsg (dDc (iL (dMeth (ga K "Line") "names" S_Line_names (dVar 0) dNil)) (gN 3) (dYes) (dVar 3) (dC (.bl true)) [3]) (gN 2)
def t_check_names_2 (K : PySem.W.Frag) (S_Line_names : SpD) (S_are_names : SpD) : TDS :=
  dIfS (dNot (dTest (dCall S_are_names (dCons (dVar 1) (dNil))))) (dNever) (dNext)
def t_check_names (K : PySem.W.Frag) (S_Line_names : SpD) (S_are_names : SpD) : TDS :=
  dSeq ((t_check_names_2 K S_Line_names S_are_names))
  (dSeq ((t_check_names_1 K S_Line_names S_are_names))
  ((t_check_names_0 K S_Line_names S_are_names)))
-- END
-- BEGIN rows_of
def t_rows_of_0 (K : PySem.W.Frag) (S_Line_place : SpD) : TDS :=
  dRet (dLc (iL (dVar 1)) (gN 2) (dYes) (dOp ixR (dFld K (dVar 0) "every") (dMeth (ga K "Line") "place" S_Line_place (dVar 0) (dCons (dVar 2) (dNil)))) [2])
def t_rows_of (K : PySem.W.Frag) (S_Line_place : SpD) : TDS :=
  (t_rows_of_0 K S_Line_place)
-- END
/-! ### dicts as lists of pairs -/
section
variable {κ : Type} [DecidableEq κ] {β : Type}
theorem dval_cons (p : κ × β) (l : List (κ × β)) (k : κ) : dval (p :: l) k = if p.1 = k then some p.2 else dval l k := by
  unfold dval
  rw [List.find?_cons]
  by_cases h : p.1 = k <;> simp [h]
theorem dval_none_iff {l : List (κ × β)} {k : κ} : dval l k = none ↔ k ∉ l.map (·.1) := by
  induction l with
  | nil => simp [dval]
  | cons p l ih =>
    rw [dval_cons]
    by_cases h : p.1 = k
    · simp [h]
    · simp only [h, if_false, ih, List.map_cons, List.mem_cons, not_or]
      exact ⟨fun z => ⟨fun e => h e.symm, z⟩, fun z => z.2⟩
theorem dval_mem {l : List (κ × β)} {k : κ} {v : β} (h : dval l k = some v) : (k, v) ∈ l := by
  induction l with
  | nil => cases h
  | cons p l ih =>
    rw [dval_cons] at h
    by_cases e : p.1 = k
    · rw [if_pos e] at h
      cases h
      subst e
      exact List.mem_cons_self
    · rw [if_neg e] at h
      exact List.mem_cons_of_mem _ (ih h)
theorem dval_of_mem {l : List (κ × β)} {k : κ} {v : β} (nd : (l.map (·.1)).Nodup) (h : (k, v) ∈ l) : dval l k = some v := by
  induction l with
  | nil => cases h
  | cons p l ih =>
    rw [dval_cons]
    rw [List.map_cons] at nd
    obtain ⟨n1, n2⟩ := List.nodup_cons.mp nd
    rcases List.mem_cons.mp h with rfl | h
    · rw [if_pos rfl]
    · rw [if_neg fun e => n1 (List.mem_map.mpr ⟨_, h, e.symm⟩)]
      exact ih n2 h
theorem dval_any (l : List (κ × β)) (k : κ) : (l.any fun kv => decide (kv.1 = k)) = (dval l k).isSome := by
  induction l with
  | nil => rfl
  | cons p l ih =>
    rw [List.any_cons, dval_cons, ih]
    by_cases h : p.1 = k <;> simp [h]
theorem dval_put (l : List (κ × β)) (k : κ) (v : β) (j : κ) : dval (dput l k v) j = if j = k then some v else dval l j := by
  unfold dput
  rw [dval_any]
  cases q : dval l k with
  | none =>
    simp only [Option.isSome_none, Bool.false_eq_true, if_false]
    have : ∀ l : List (κ × β), dval l k = none → dval (l ++ [(k, v)]) j = if j = k then some v else dval l j := by
      intro l
      induction l with
      | nil =>
        intro _
        rw [List.nil_append, dval_cons]
        by_cases e : j = k
        · subst e; simp
        · rw [if_neg (fun z => e z.symm), if_neg e]
      | cons p l ih =>
        intro h
        rw [dval_cons] at h
        by_cases e : p.1 = k
        · rw [if_pos e] at h; cases h
        · rw [if_neg e] at h
          rw [List.cons_append, dval_cons, dval_cons, ih h]
          by_cases e2 : p.1 = j
          · subst e2; simp [e]
          · simp [e2]
    exact this l q
  | some w =>
    simp only [Option.isSome_some, if_true]
    have : ∀ l : List (κ × β), dval l k = some w → dval (l.map fun kv => if kv.1 = k then (kv.1, v) else kv) j = if j = k then some v else dval l j := by
      intro l
      induction l with
      | nil => intro h; cases h
      | cons p l ih =>
        intro h
        rw [dval_cons] at h
        rw [List.map_cons, dval_cons, dval_cons]
        by_cases e : p.1 = k
        · rw [if_pos e]
          by_cases e2 : j = k
          · subst e2; simp [e]
          · have e3 : p.1 ≠ j := fun z => e2 (z.symm.trans e)
            simp only [e3, if_false, e2]
            -- the rest: j is not k
            have : ∀ l : List (κ × β), dval (l.map fun kv => if kv.1 = k then (kv.1, v) else kv) j = dval l j := by
              intro l
              induction l with
              | nil => rfl
              | cons p l ih =>
                rw [List.map_cons, dval_cons, dval_cons, ih]
                by_cases e4 : p.1 = k
                · have : p.1 ≠ j := fun z => e2 (z.symm.trans e4)
                  simp [e4, Ne.symm e2]
                · simp [e4]
            exact this l
        · rw [if_neg e] at h
          rw [if_neg e, ih h]
          by_cases e2 : p.1 = j
          · have : j ≠ k := fun z => e (e2.trans z)
            simp [e2, this]
          · simp [e2]
    exact this l q
theorem dput_keys (l : List (κ × β)) (k : κ) (v : β) : (dput l k v).map (·.1) = if k ∈ l.map (·.1) then l.map (·.1) else l.map (·.1) ++ [k] := by
  unfold dput
  rw [dval_any]
  cases q : dval l k with
  | none =>
    have := dval_none_iff.mp q
    simp [this]
  | some w =>
    have : k ∈ l.map (·.1) := List.mem_map.mpr ⟨_, dval_mem q, rfl⟩
    simp only [Option.isSome_some, if_true, if_pos this, List.map_map]
    refine List.map_congr_left fun p _ => ?_
    by_cases e : p.1 = k <;> simp [e]
theorem dput_nodup {l : List (κ × β)} {k : κ} {v : β} (nd : (l.map (·.1)).Nodup) : ((dput l k v).map (·.1)).Nodup := by
  rw [dput_keys]
  split
  · exact nd
  · rename_i h
    refine List.nodup_append.mpr ⟨nd, by simp, fun a ha b hb => ?_⟩
    rw [List.mem_singleton.mp hb]
    exact fun z => h (z ▸ ha)
theorem dput_len (l : List (κ × β)) (k : κ) (v : β) : (dput l k v).length ≤ l.length + 1 := by
  have := congrArg List.length (dput_keys l k v)
  rw [List.length_map] at this
  rw [this]
  split <;> simp
theorem dput_mem {l : List (κ × β)} {k : κ} {v : β} {p : κ × β} (h : p ∈ dput l k v) : p = (k, v) ∨ p ∈ l := by
  unfold dput at h
  split at h
  · obtain ⟨q, hq, e⟩ := List.mem_map.mp h
    by_cases z : q.1 = k
    · rw [if_pos z] at e; rw [← e, z]; exact .inl rfl
    · rw [if_neg z] at e; rw [← e]; exact .inr hq
  · rcases List.mem_append.mp h with h | h
    · exact .inr h
    · exact .inl (List.mem_singleton.mp h)
theorem dval_map {γ ι : Type} [DecidableEq ι] (f : κ → ι) (hf : ∀ a b, f a = f b → a = b) (g : β → γ) (l : List (κ × β)) (k : κ) : dval (l.map fun p => (f p.1, g p.2)) (f k) = (dval l k).map g := by
  induction l with
  | nil => rfl
  | cons p l ih =>
    rw [List.map_cons, dval_cons, dval_cons, ih]
    by_cases e : p.1 = k
    · simp [e]
    · have : f p.1 ≠ f k := fun z => e (hf _ _ z)
      simp [e, this]
theorem dput_map {γ ι : Type} [DecidableEq ι] (f : κ → ι) (hf : ∀ a b, f a = f b → a = b) (g : β → γ) (l : List (κ × β)) (k : κ) (v : β) : dput (l.map fun p => (f p.1, g p.2)) (f k) (g v) = (dput l k v).map fun p => (f p.1, g p.2) := by
  unfold dput
  rw [dval_any, dval_any, dval_map f hf]
  cases dval l k with
  | none => simp
  | some w =>
    simp only [Option.map_some, Option.isSome_some, if_true, List.map_map]
    refine List.map_congr_left fun p _ => ?_
    by_cases e : p.1 = k
    · simp [e]
    · have : f p.1 ≠ f k := fun z => e (hf _ _ z)
      simp [e, this]
end
/-! ### stocks -/
abbrev Stk := List (Str × Int)
def stk (s : Stk) : List (Key × D) := s.map fun p => (Sum.inr p.1, D.int p.2)
theorem inr_inj (a b : Str) (h : (Sum.inr a : Key) = Sum.inr b) : a = b := Sum.inr.inj h
theorem dval_stk (s : Stk) (x : Str) : dval (stk s) (Sum.inr x) = (dval s x).map D.int := dval_map _ inr_inj _ s x
theorem dput_stk (s : Stk) (x : Str) (v : Int) : dput (stk s) (Sum.inr x) (.int v) = stk (dput s x v) := dput_map _ inr_inj _ s x v
theorem stk_len (s : Stk) : (stk s).length = s.length := List.length_map _
structure StOk (s : Stk) : Prop where
  nm : ∀ p ∈ s, nameB p.1 = true
  nd : (s.map (·.1)).Nodup
  nn : ∀ p ∈ s, 0 ≤ p.2
  ln : s.length < 60
/-- how many bags of a kind -/
def sv (s : Stk) (x : Str) : Int := (dval s x).getD 0
theorem sv_nn {s : Stk} (h : ∀ p ∈ s, 0 ≤ p.2) (x : Str) : 0 ≤ sv s x := by
  unfold sv
  cases q : dval s x with
  | none => exact Int.le_refl _
  | some v => exact h _ (dval_mem q)
theorem look_str {m : Mu} {k : Nat} {l : List (Key × D)} {x : Str} (h : m k = some (.dK l)) : look m (.ref k) (.str x) = some (dval l (Sum.inr x)) := by
  show (match moK (m k), keyOf (.str x) with
    | some kvs, some k => some (dval kvs k)
    | _, _ => match moT (m k), tkeyOf (.str x) with
      | some kvs, some k => some (dval kvs k)
      | _, _ => none) = _
  rw [h] <;> rfl
theorem look_int {m : Mu} {k : Nat} {l : List (Key × D)} {i : Int} (h : m k = some (.dK l)) : look m (.ref k) (.int i) = some (dval l (Sum.inl i)) := by
  show (match moK (m k), keyOf (.int i) with
    | some kvs, some k => some (dval kvs k)
    | _, _ => match moT (m k), tkeyOf (.int i) with
      | some kvs, some k => some (dval kvs k)
      | _, _ => none) = _
  rw [h] <;> rfl
theorem look_lk {m : Mu} {k : Nat} {l : List (Key × D)} {od : Obj} {vs : List (Key × V)} {x : Str} (h : m k = some (.lk od vs l)) : look m (.ref k) (.str x) = some (dval l (Sum.inr x)) := by
  show (match moK (m k), keyOf (.str x) with
    | some kvs, some k => some (dval kvs k)
    | _, _ => match moT (m k), tkeyOf (.str x) with
      | some kvs, some k => some (dval kvs k)
      | _, _ => none) = _
  rw [h] <;> rfl
theorem look_tup {m : Mu} {k : Nat} {l : List (List Key × D)} {i : Int} {x : Str} (h : m k = some (.dT l)) : look m (.ref k) (.tup [.int i, .str x]) = some (dval l [Sum.inl i, Sum.inr x]) := by
  show (match moK (m k), keyOf (.tup [.int i, .str x]) with
    | some kvs, some k => some (dval kvs k)
    | _, _ => match moT (m k), tkeyOf (.tup [.int i, .str x]) with
      | some kvs, some k => some (dval kvs k)
      | _, _ => none) = _
  rw [h] <;> rfl
theorem isDic_dK {m : Mu} {k : Nat} {l : List (Key × D)} (h : m k = some (.dK l)) : isDic m (.ref k) = true := by
  show ((moK (m k)).isSome || (moT (m k)).isSome) = true
  rw [h] <;> rfl
theorem isDic_dT {m : Mu} {k : Nat} {l : List (List Key × D)} (h : m k = some (.dT l)) : isDic m (.ref k) = true := by
  show ((moK (m k)).isSome || (moT (m k)).isSome) = true
  rw [h] <;> rfl
theorem store_str {m : Mu} {k : Nat} {l : List (Key × D)} {x : Str} {y : D} {P : Mu → Prop} (h : m k = some (.dK l)) (hl : l.length < sizeLine) (p : P (mset m k (.dK (dput l (Sum.inr x) y)))) : dstore (.ref k) (.str x) y m P := by
  unfold dstore
  simp only [h]
  exact ⟨hl, p⟩
theorem store_int {m : Mu} {k : Nat} {l : List (Key × D)} {i : Int} {y : D} {P : Mu → Prop} (h : m k = some (.dK l)) (hl : l.length < sizeLine) (p : P (mset m k (.dK (dput l (Sum.inl i) y)))) : dstore (.ref k) (.int i) y m P := by
  unfold dstore
  simp only [h]
  exact ⟨hl, p⟩
theorem store_tup {m : Mu} {k : Nat} {l : List (List Key × D)} {i : Int} {x : Str} {y : D} {P : Mu → Prop} (h : m k = some (.dT l)) (hl : l.length < sizeLine) (p : P (mset m k (.dT (dput l [Sum.inl i, Sum.inr x] y)))) : dstore (.ref k) (.tup [.int i, .str x]) y m P := by
  unfold dstore
  simp only [h]
  exact ⟨hl, p⟩
def S_check_line (K : PySem.W.Frag) : SpD := fun ds m F => ∃ l : List Ak, ds = [LnD K l] ∧ F .non m
theorem pure_check_line {K : PySem.W.Frag} (T : HF K) (ds : List D) (m : Mu) (G : DK) (h : S_check_line K ds m G) : t_check_line K { nx := fun _ m' => Fin G .non m', rt := Fin G } (startD 1 ds) m := by
  obtain ⟨l, rfl, h⟩ := h
  exact ⟨true, ⟨T.i_Line, T.t_Line_Line⟩, br_f rfl (fin h)⟩
def S_is_stock : SpD := fun ds m F => ∃ (k : Nat) (s : Stk), ds = [.ref k] ∧ m k = some (.dK (stk s)) ∧ StOk s ∧ F (.bl true) m
theorem pure_is_stock {K : PySem.W.Frag} (ds : List D) (m : Mu) (G : DK) (h : S_is_stock ds m G) : t_is_stock K S_is_name S_is_count { nx := fun _ m' => Fin G .non m', rt := Fin G } (startD 2 ds) m := by
  obtain ⟨k, s, rfl, hk, ok, h⟩ := h
  have ln := ok.ln
  unfold t_is_stock t_is_stock_1 t_is_stock_0
  walk_at "nf"
  refine (show isiR K [.ref k, .opq (.ty "dict")] m _ from ?_)
  show onO (tyN m (.ref k)) _
  rw [show tyN m (.ref k) = some "dict" by simp [tyN, hk]]
  refine ⟨by decide, ?_⟩
  refine br_f rfl ?_
  refine ⟨k, .inl ⟨stk s, hk, fun od vs => ?_⟩⟩
  refine ⟨od, vs, stk s, mset_same, ?_⟩
  have e0 : (stk s).map (fun kv => keyD kv.1) = s.map (fun p => D.str p.1) := by unfold stk; rw [List.map_map]; rfl
  rw [e0]
  refine lc_over s (fun p => D.str p.1) (fun _ => none) mset_same (by unfold sizeLine; omega) (fun p hp acc k2 hacc hk2 => ?_) ?_
  · walk_at "nf"
    refine ⟨p.1, rfl, ⟨by have := nameB_len (ok.nm p hp); unfold sizeLine; omega, nameB_ok (ok.nm p hp)⟩, ?_⟩
    refine br_f (by rw [ok.nm p hp]; rfl) ?_
    rw [look_lk mset_same, dval_stk, dval_of_mem ok.nd (show (p.1, p.2) ∈ s from hp)]
    refine ⟨p.2, rfl, ?_⟩
    refine br_f (by rw [decide_eq_true (ok.nn p hp)]; rfl) ?_
    simpa using hk2
  · rw [fm_none]
    refine new_l ⟨mset_same, ?_⟩
    rw [mset_mset, mset_id hk]
    refine And.intro (by decide) (new_l ?_)
    refine And.intro ⟨(ok_lst (n := 0) (xs := []) (by simp)).P, (ok_lst (n := 0) (xs := []) (by simp)).P⟩ (fin ?_)
    exact h
def S_check_stock : SpD := fun ds m F => ∃ (k : Nat) (s : Stk), ds = [.ref k] ∧ m k = some (.dK (stk s)) ∧ StOk s ∧ F .non m
theorem pure_check_stock {K : PySem.W.Frag} (ds : List D) (m : Mu) (G : DK) (h : S_check_stock ds m G) : t_check_stock K S_is_stock { nx := fun _ m' => Fin G .non m', rt := Fin G } (startD 1 ds) m := by
  obtain ⟨k, s, rfl, hk, ok, h⟩ := h
  exact ⟨k, s, rfl, hk, ok, br_f rfl (fin h)⟩
/-- rows, as a tuple or a list -/
def seqOf (m : Mu) (d : D) : Option (List D) := match d with
  | .tup xs => some xs
  | _ => lstOf m d
theorem withI_seq {d : D} {m : Mu} {xs : List D} {F : List D → (Mu → Prop) → Mu → Prop} (h : seqOf m d = some xs) (hF : ∀ stay : Mu → Prop, stay m → F xs stay m) : withI d m F := by
  cases d with
  | tup ys => cases h; exact hF _ trivial
  | lst ys => exact withI_of h hF
  | ref k => exact withI_of h hF
  | _ => cases h
def S_mosts_of : SpD := fun ds m F => ∃ (d : D) (l : List Ak), ds = [d] ∧ seqOf m d = some (l.map Ak.row) ∧ l.length < 60 ∧ New (.lst (l.map fun a => D.int a.most)) m F
theorem pure_mosts_of {K : PySem.W.Frag} (ds : List D) (m : Mu) (G : DK) (h : S_mosts_of ds m G) : t_mosts_of K { nx := fun _ m' => Fin G .non m', rt := Fin G } (startD 2 ds) m := by
  obtain ⟨d, l, rfl, hd, hl, h⟩ := h
  unfold t_mosts_of t_mosts_of_0
  walk_at "nf"
  refine withI_seq hd fun stay hst => ?_
  refine lc_over l Ak.row (fun a => some (.int a.most)) hst (by unfold sizeLine; omega) (fun a ha acc k2 hacc hk2 => ?_) ?_
  · refine br_t rfl ?_
    exact ⟨hacc, hk2⟩
  · rw [fm_some]
    exact new_fin h
/-! ### dict comprehensions -/
theorem dc_inv {stay : Mu → Prop} {body : D → List (Key × D) → Mu → (List (Key × D) → Mu → Prop) → Prop} {ds : List D} {acc : List (Key × D)} {m : Mu} {k : List (Key × D) → Mu → Prop} (P : Nat → List (Key × D) → Mu → Prop) (h0 : P 0 acc m) (hst : ∀ i a m', P i a m' → stay m')
    (hs : ∀ i d a m', ds[i]? = some d → P i a m' → ∀ k2 : List (Key × D) → Mu → Prop, (∀ a2 m2, P (i + 1) a2 m2 → k2 a2 m2) → body d a m' k2) (hd : ∀ a m', P ds.length a m' → k a m') : dcRun stay body ds acc m k := by
  have go : ∀ (n i : Nat), n + i = ds.length → ∀ a m', P i a m' → dcRun stay body (ds.drop i) a m' k := by
    intro n
    induction n with
    | zero =>
      intro i e a m' p
      have : i = ds.length := by omega
      subst this
      rw [List.drop_of_length_le (Nat.le_refl _)]
      exact ⟨hst _ _ _ p, hd a m' p⟩
    | succ n ih =>
      intro i e a m' p
      have hl : i < ds.length := by omega
      rw [List.drop_eq_getElem_cons hl]
      exact ⟨hst _ _ _ p, hs i _ a m' (List.getElem?_eq_getElem hl) p _ fun a2 m2 p2 => ih (i + 1) (by omega) a2 m2 p2⟩
  exact go ds.length 0 rfl acc m h0
def putL {κ β : Type} [DecidableEq κ] (l : List (κ × β)) : List (κ × β) := l.foldl (fun acc p => dput acc p.1 p.2) []
theorem putL_nodup {κ β : Type} [DecidableEq κ] {l : List (κ × β)} (nd : (l.map (·.1)).Nodup) : putL l = l := by
  have go : ∀ (l acc : List (κ × β)), ((acc ++ l).map (·.1)).Nodup → l.foldl (fun acc p => dput acc p.1 p.2) acc = acc ++ l := by
    intro l
    induction l with
    | nil => intro acc _; simp
    | cons p l ih =>
      intro acc h
      rw [List.foldl_cons]
      have e : dput acc p.1 p.2 = acc ++ [p] := by
        unfold dput
        rw [dval_any, dval_none_iff.mpr]
        · rfl
        · rw [List.map_append, List.map_cons] at h
          exact fun z => (List.nodup_append.mp h).2.2 _ z _ List.mem_cons_self rfl
      rw [e, ih (acc ++ [p]) (by simpa using h)]
      simp
  have := go l [] (by simpa using nd)
  simpa [putL] using this
theorem dc_over {α : Type} {stay : Mu → Prop} {body : D → List (Key × D) → Mu → (List (Key × D) → Mu → Prop) → Prop} {m : Mu} {k : List (Key × D) → Mu → Prop} (l : List α) (e : α → D) (g : α → Option (Key × D)) (hst : stay m) (hl : l.length < sizeLine)
    (hs : ∀ a ∈ l, ∀ (acc : List (Key × D)) (k2 : List (Key × D) → Mu → Prop), acc.length < sizeLine → (∀ p, g a = some p → k2 (dput acc p.1 p.2) m) → (g a = none → k2 acc m) → body (e a) acc m k2) (hd : k (putL (l.filterMap g)) m) : dcRun stay body (l.map e) [] m k := by
  have len : ∀ (l acc : List (Key × D)), (l.foldl (fun acc p => dput acc p.1 p.2) acc).length ≤ acc.length + l.length := by
    intro l
    induction l with
    | nil => intro acc; simp
    | cons p l ih =>
      intro acc
      rw [List.foldl_cons, List.length_cons]
      have := ih (dput acc p.1 p.2)
      have := dput_len acc p.1 p.2
      omega
  refine dc_inv (fun i a m' => m' = m ∧ a = putL ((l.take i).filterMap g)) ⟨rfl, rfl⟩ (fun i a m' p => by rw [p.1]; exact hst) (fun i d a m' ei p k2 hk => ?_) fun a m' p => ?_
  · obtain ⟨rfl, rfl⟩ := p
    rw [List.getElem?_map] at ei
    cases q : l[i]? with
    | none => rw [q] at ei; cases ei
    | some x =>
      rw [q] at ei
      obtain rfl := Option.some.inj ei
      have hi := (List.getElem?_eq_some_iff.mp q).1
      have e1 : l.take (i + 1) = l.take i ++ [x] := by rw [List.take_succ, q]; rfl
      refine hs x (List.mem_of_getElem? q) _ k2 ?_ (fun p hp => hk _ _ ⟨rfl, ?_⟩) fun hn => hk _ _ ⟨rfl, ?_⟩
      · have h1 := len ((l.take i).filterMap g) []
        have h2 := List.length_filterMap_le g (l.take i)
        rw [List.length_take] at h2
        show (putL ((l.take i).filterMap g)).length < sizeLine
        unfold putL
        simp only [List.length_nil] at h1
        omega
      · rw [e1, List.filterMap_append]
        unfold putL
        rw [List.foldl_append]
        simp [List.filterMap_cons, hp]
      · rw [e1, List.filterMap_append]
        simp [List.filterMap_cons, hn]
  · obtain ⟨rfl, rfl⟩ := p
    rw [List.length_map, List.take_length]
    exact hd
def S_check_names (K : PySem.W.Frag) : SpD := fun ds m F => ∃ (l : List Ak) (d : D) (ss : List Str), ds = [LnD K l, d] ∧ lstOf m d = some (ss.map D.str) ∧ (LnOk l ∧ ss.Nodup ∧ ∀ s ∈ ss, s ∈ nms l) ∧ F .non m
theorem sub_len {a b : List Str} (nd : a.Nodup) (h : ∀ x ∈ a, x ∈ b) : a.length ≤ b.length := by
  induction a generalizing b with
  | nil => exact Nat.zero_le _
  | cons x r ih =>
    obtain ⟨n1, n2⟩ := List.nodup_cons.mp nd
    have hx := h x List.mem_cons_self
    have i2 := ih (b := b.erase x) n2 fun y hy => (List.mem_erase_of_ne (a := y) (b := x) (fun z : y = x => n1 (z ▸ hy))).mpr (h y (List.mem_cons_of_mem _ hy))
    rw [List.length_erase_of_mem hx] at i2
    have := List.length_pos_of_mem hx
    rw [List.length_cons]; omega
theorem nms_len (l : List Ak) : (nms l).length = l.length := List.length_map _
theorem pure_check_names {K : PySem.W.Frag} (ds : List D) (m : Mu) (G : DK) (h : S_check_names K ds m G) : t_check_names K (S_Line_names K) S_are_names { nx := fun _ m' => Fin G .non m', rt := Fin G } (startD 4 ds) m := by
  obtain ⟨l, d, ss, rfl, hd, ⟨ok, nd, hs⟩, h⟩ := h
  have ln := ok.ln
  have sl := sub_len nd hs
  rw [nms_len] at sl
  have snm : ∀ s ∈ ss, nameB s = true := fun s q => nms_ok ok s (hs s q)
  unfold t_check_names t_check_names_2 t_check_names_1 t_check_names_0
  walk_at "nf"
  refine ⟨d, ss, rfl, hd, ⟨by omega, snm⟩, ?_⟩
  refine br_f (by rw [decide_eq_true nd]; rfl) ?_
  refine ⟨_, _, rfl, by decide, l, rfl, ok, new_l ?_⟩
  refine withI_of (xs := (nms l).map D.str) rfl fun stay hst => ?_
  refine dc_over (nms l) D.str (fun s => some (Sum.inr s, .bl true)) hst (by rw [nms_len]; unfold sizeLine; omega) (fun s hs2 acc k2 hacc hk _ => ?_) ?_
  · refine br_t rfl ?_
    exact ⟨hacc, hk _ rfl⟩
  · refine Or.inr fun c hc => ?_
    have ec : mset m c (.dK (putL ((nms l).filterMap fun s => some ((Sum.inr s : Key), D.bl true)))) c = some (.dK (putL ((nms l).filterMap fun s => some ((Sum.inr s : Key), D.bl true)))) := mset_same
    have hd2 : lstOf (mset m c (.dK (putL ((nms l).filterMap fun s => some ((Sum.inr s : Key), D.bl true))))) d = some (ss.map D.str) := by
      rcases lstOf_cases hd with rfl | ⟨i, rfl, q⟩
      · rfl
      · exact lstOf_ref (by rw [mset_ne (ne_of_mu q hc)]; exact q)
    refine withI_of hd2 fun stay2 hst2 => ?_
    refine lc_over ss D.str (fun _ => none) hst2 (by unfold sizeLine; omega) (fun s hs2 acc k2 hacc hk => ?_) ?_
    · walk_at "nf"
      rw [look_str ec]
      refine br_f ?_ (by simpa using hk)
      have : (dval (putL ((nms l).filterMap fun s => some ((Sum.inr s : Key), D.bl true))) (Sum.inr s)).isSome = true := by
        have e1 : (nms l).filterMap (fun s => some ((Sum.inr s : Key), D.bl true)) = (nms l).map fun s => ((Sum.inr s : Key), D.bl true) := by
          rw [← List.filterMap_eq_map]; rfl
        rw [e1, putL_nodup (by
          rw [List.map_map]
          have : ((nms l).map (Sum.inr : Str → Key)).Nodup := List.Pairwise.map _ (fun a b z w => z (inr_inj _ _ w)) ok.nd
          exact this)]
        cases q : dval ((nms l).map fun s => ((Sum.inr s : Key), D.bl true)) (Sum.inr s) with
        | some v => rfl
        | none =>
          refine absurd ?_ (dval_none_iff.mp q)
          rw [List.map_map]
          exact List.mem_map.mpr ⟨s, hs s hs2, rfl⟩
      rw [this]; rfl
    · rw [fm_none]
      refine new_l ?_
      refine And.intro (by decide) (new_l (empty_ne rfl ?_))
      refine br_f rfl ?_
      exact fin_drop (sub_mset hc) h
def S_rows_of (K : PySem.W.Frag) : SpD := fun ds m F => ∃ (l l' : List Ak) (d : D), ds = [LnD K l, d] ∧ lstOf m d = some ((nms l').map D.str) ∧ (LnOk l ∧ (∀ a ∈ l', a ∈ l) ∧ l'.length < 60) ∧ New (.lst (l'.map Ak.row)) m F
theorem pure_rows_of {K : PySem.W.Frag} (T : HF K) (ds : List D) (m : Mu) (G : DK) (h : S_rows_of K ds m G) : t_rows_of K (S_Line_place K) { nx := fun _ m' => Fin G .non m', rt := Fin G } (startD 3 ds) m := by
  obtain ⟨l, l', d, rfl, hd, ⟨ok, hs, hl⟩, h⟩ := h
  unfold t_rows_of t_rows_of_0
  walk_at "nf"
  refine withI_of hd fun stay hst => ?_
  have e0 : (nms l').map D.str = l'.map fun a => D.str a.name := by unfold nms; rw [List.map_map]; rfl
  rw [e0]
  refine lc_over l' _ (fun a => some a.row) hst (by unfold sizeLine; omega) (fun a ha acc k2 hacc hk => ?_) ?_
  · obtain ⟨i, hi⟩ := List.getElem?_of_mem (hs a ha)
    refine br_t rfl ?_
    refine ⟨_, _, _, _, rfl, T.c_Line, T.f_Line_every, rfl, ?_⟩
    refine ⟨_, _, rfl, by decide, l, i, a, rfl, ok, hi, ?_⟩
    refine onO_of (atI_n (x := a.row) (by rw [List.getElem?_map, hi]; rfl)) ?_
    exact ⟨hacc, hk⟩
  · rw [fm_some]
    exact new_fin h
end HL

namespace HL
open PySem L2 DL DM
local macro_rules | `(tactic| walk_at "nf") => `(tactic| try simp only [dSeq, dIfS, dOr, dAnd, dNot, dTest, dCB, dCons, dNil, dVar, dC, dRet, dRetN, dNext, dAsg, gN, gt2, dOp, dUn, dAndV, dOrV, dNotV, dIf, dLst, dTup, dCall, dMeth, dProp, dMake, dFld, dSl, dPart, dNoPart, dDrop, dPar, dPar3, dBm, dRev, dSetF, dBits, gSet, gTup', gCons', gNil', dDGet, dDIn, dDGet2, dDGet1, dDPut, dNewK, dNewT, iL_eq, iEn, on1, on2, onO_some, addI, subI, intC, onI_i, onS_s, onB_b, iT, iR1, iR2, dLc, dFor, lcBody, dLc2_eq, lcBody2, dDc, dcBody, dYes, wipeD, atE, startD, List.map_cons, List.map_nil, List.length_cons, List.length_nil, List.cons_append, List.nil_append, List.replicate, List.getElem?_cons_zero, List.getElem?_cons_succ, List.set_cons_zero, List.set_cons_succ, Nat.reduceSub, Nat.reduceAdd, Nat.reduceEqDiff, if_true, if_false])
-- BEGIN Giving_holders
def t_Giving_holders_0 (K : PySem.W.Frag) : TDS :=
  dRet (dLc (iR1 (dCons (dCB lenR (dCons (dFld K (dVar 0) "rows") (dNil))) (dNil))) (gN 2) (dTest (dOp gtR (dDGet2 (dFld K (dVar 0) "holds") (dTup (dCons (dVar 2) (dCons (dVar 1) (dNil)))) (dC (.int 0))) (dC (.int 0)))) (dVar 2) [2])
def t_Giving_holders (K : PySem.W.Frag) : TDS :=
  (t_Giving_holders_0 K)
-- END
-- BEGIN Giving_reached
def t_Giving_reached_0 (K : PySem.W.Frag) (S_Giving_holders : SpD) : TDS :=
  dRet (dTup (dCons (dVar 2) (dCons (dVar 3) (dCons (dC .non) (dNil)))))
def t_Giving_reached_1 (K : PySem.W.Frag) (S_Giving_holders : SpD) : TDS :=
  dDrop (dBm appR (dVar 4) (dCons (dVar 8) (dNil)))
def t_Giving_reached_2 (K : PySem.W.Frag) (S_Giving_holders : SpD) : TDS :=
  dDPut (dVar 3) (dVar 8) (dVar 7)
def t_Giving_reached_3 (K : PySem.W.Frag) (S_Giving_holders : SpD) : TDS :=
  dIfS (dAnd (dTest (dOp (eqR true) (dVar 8) (dVar 1))) (dTest (dDIn true (dVar 8) (dVar 3)))) (dSeq ((t_Giving_reached_2 K S_Giving_holders))
  ((t_Giving_reached_1 K S_Giving_holders))) (dNext)
def t_Giving_reached_4 (K : PySem.W.Frag) (S_Giving_holders : SpD) : TDS :=
  dFor (iL (dMeth (ga K "Giving") "holders" S_Giving_holders (dVar 0) (dCons (dVar 7) (dNil)))) (gN 8) ((t_Giving_reached_3 K S_Giving_holders))
def t_Giving_reached_5 (K : PySem.W.Frag) (S_Giving_holders : SpD) : TDS :=
  dRet (dTup (dCons (dVar 2) (dCons (dVar 3) (dCons (dVar 7) (dNil)))))
def t_Giving_reached_6 (K : PySem.W.Frag) (S_Giving_holders : SpD) : TDS :=
  dIfS (dTest (dOp gtR (dDGet2 (dFld K (dVar 0) "free") (dVar 7) (dC (.int 0))) (dC (.int 0)))) ((t_Giving_reached_5 K S_Giving_holders)) (dNext)
def t_Giving_reached_7 (K : PySem.W.Frag) (S_Giving_holders : SpD) : TDS :=
  dDPut (dVar 2) (dVar 7) (dVar 6)
def t_Giving_reached_8 (K : PySem.W.Frag) (S_Giving_holders : SpD) : TDS :=
  dIfS (dTest (dDIn true (dVar 7) (dVar 2))) (dSeq ((t_Giving_reached_7 K S_Giving_holders))
  (dSeq ((t_Giving_reached_6 K S_Giving_holders))
  ((t_Giving_reached_4 K S_Giving_holders)))) (dNext)
def t_Giving_reached_9 (K : PySem.W.Frag) (S_Giving_holders : SpD) : TDS :=
  dFor (iL (dOp ixR (dOp ixR (dFld K (dVar 0) "rows") (dVar 6)) (dC (.int 1)))) (gN 7) ((t_Giving_reached_8 K S_Giving_holders))
def t_Giving_reached_10 (K : PySem.W.Frag) (S_Giving_holders : SpD) : TDS :=
  dAsg (dOp addR (dVar 5) (dC (.int 1))) (gN 5)
def t_Giving_reached_11 (K : PySem.W.Frag) (S_Giving_holders : SpD) : TDS :=
  dAsg (dOp ixR (dVar 4) (dVar 5)) (gN 6)
def t_Giving_reached_12 (K : PySem.W.Frag) (S_Giving_holders : SpD) : TDS :=
  dWhile (dTest (dOp ltR (dVar 5) (dCB lenR (dCons (dVar 4) (dNil))))) (dSeq ((t_Giving_reached_11 K S_Giving_holders))
  (dSeq ((t_Giving_reached_10 K S_Giving_holders))
  ((t_Giving_reached_9 K S_Giving_holders))))
def t_Giving_reached_13 (K : PySem.W.Frag) (S_Giving_holders : SpD) : TDS :=
  dAsg (dTup (dCons (dNewK) (dCons (dNewK) (dCons (dLst (dCons (dVar 1) (dNil))) (dCons (dC (.int 0)) (dNil)))))) (gTup' 4 (gCons' (gN 2) (gCons' (gN 3) (gCons' (gN 4) (gCons' (gN 5) (gNil'))))))
def t_Giving_reached (K : PySem.W.Frag) (S_Giving_holders : SpD) : TDS :=
  dSeq ((t_Giving_reached_13 K S_Giving_holders))
  (dSeq ((t_Giving_reached_12 K S_Giving_holders))
  ((t_Giving_reached_0 K S_Giving_holders)))
-- END
-- BEGIN Giving_steps
def t_Giving_steps_0 (K : PySem.W.Frag) (S_Giving_reached : SpD) : TDS :=
  dAsg (dOp addR (dLst (dCons (dTup (dCons (dDGet (dVar 3) (dVar 5)) (dCons (dVar 5) (dNil)))) (dNil))) (dVar 2)) (gN 2)
def t_Giving_steps_1 (K : PySem.W.Frag) (S_Giving_reached : SpD) : TDS :=
  dAsg (dDGet (dVar 4) (dOp ixR (dOp ixR (dVar 2) (dC (.int 0))) (dC (.int 0)))) (gN 5)
def t_Giving_steps_2 (K : PySem.W.Frag) (S_Giving_reached : SpD) : TDS :=
  dWhile (dTest (dOp (eqR true) (dOp ixR (dOp ixR (dVar 2) (dC (.int 0))) (dC (.int 0))) (dVar 1))) (dSeq ((t_Giving_steps_1 K S_Giving_reached))
  ((t_Giving_steps_0 K S_Giving_reached)))
def t_Giving_steps_3 (K : PySem.W.Frag) (S_Giving_reached : SpD) : TDS :=
  dAsg (dLst (dCons (dTup (dCons (dDGet (dVar 3) (dVar 5)) (dCons (dVar 5) (dNil)))) (dNil))) (gN 2)
def t_Giving_steps_4 (K : PySem.W.Frag) (S_Giving_reached : SpD) : TDS :=
  dIfS (dTest (dOp isNR (dVar 5) (dC .non))) (dRet (dC .non)) (dNext)
def t_Giving_steps_5 (K : PySem.W.Frag) (S_Giving_reached : SpD) : TDS :=
  dAsg (dMeth (ga K "Giving") "reached" S_Giving_reached (dVar 0) (dCons (dVar 1) (dNil))) (gTup' 3 (gCons' (gN 3) (gCons' (gN 4) (gCons' (gN 5) (gNil')))))
def t_Giving_steps (K : PySem.W.Frag) (S_Giving_reached : SpD) : TDS :=
  dSeq ((t_Giving_steps_5 K S_Giving_reached))
  (dSeq ((t_Giving_steps_4 K S_Giving_reached))
  (dSeq ((t_Giving_steps_3 K S_Giving_reached))
  (dSeq ((t_Giving_steps_2 K S_Giving_reached))
  (dRet (dVar 2)))))
-- END
-- BEGIN Giving_hand
def t_Giving_hand_0 (K : PySem.W.Frag) (S_Giving_steps : SpD) : TDS :=
  dAsg (dOp addR (dOp ixR (dFld K (dVar 0) "got") (dVar 1)) (dVar 5)) (gSet (dFld K (dVar 0) "got") (dVar 1))
def t_Giving_hand_1 (K : PySem.W.Frag) (S_Giving_steps : SpD) : TDS :=
  dDPut (dFld K (dVar 0) "free") (dVar 4) (dOp (intR fun i j => .int (i - j)) (dDGet (dFld K (dVar 0) "free") (dVar 4)) (dVar 5))
def t_Giving_hand_2 (K : PySem.W.Frag) (S_Giving_steps : SpD) : TDS :=
  dDPut (dFld K (dVar 0) "holds") (dVar 6) (dOp (intR fun i j => .int (i - j)) (dDGet (dFld K (dVar 0) "holds") (dVar 6)) (dVar 5))
def t_Giving_hand_3 (K : PySem.W.Frag) (S_Giving_steps : SpD) : TDS :=
  dFor (iL (dVar 3)) (gN 6) ((t_Giving_hand_2 K S_Giving_steps))
def t_Giving_hand_4 (K : PySem.W.Frag) (S_Giving_steps : SpD) : TDS :=
  dDPut (dFld K (dVar 0) "holds") (dVar 6) (dOp addR (dDGet2 (dFld K (dVar 0) "holds") (dVar 6) (dC (.int 0))) (dVar 5))
def t_Giving_hand_5 (K : PySem.W.Frag) (S_Giving_steps : SpD) : TDS :=
  dFor (iL (dVar 2)) (gN 6) ((t_Giving_hand_4 K S_Giving_steps))
def t_Giving_hand_6 (K : PySem.W.Frag) (S_Giving_steps : SpD) : TDS :=
  dAsg (dCB minLR (dCons (dOp addR (dLst (dCons (dOp (intR fun i j => .int (i - j)) (dOp ixR (dFld K (dVar 0) "wants") (dVar 1)) (dOp ixR (dFld K (dVar 0) "got") (dVar 1))) (dCons (dDGet (dFld K (dVar 0) "free") (dVar 4)) (dNil)))) (dLc (iL (dVar 3)) (gN 6) (dYes) (dDGet (dFld K (dVar 0) "holds") (dVar 6)) [6])) (dNil))) (gN 5)
def t_Giving_hand_7 (K : PySem.W.Frag) (S_Giving_steps : SpD) : TDS :=
  dAsg (dOp ixR (dOp ixR (dVar 2) (dUn (fun x m F => onI x fun i => F (.int (-i)) m) (dC (.int 1)))) (dC (.int 1))) (gN 4)
def t_Giving_hand_8 (K : PySem.W.Frag) (S_Giving_steps : SpD) : TDS :=
  dAsg (dLc (iR2 (dCons (dC (.int 1)) (dCons (dCB lenR (dCons (dVar 2) (dNil))) (dNil)))) (gN 7) (dYes) (dTup (dCons (dOp ixR (dOp ixR (dVar 2) (dVar 7)) (dC (.int 0))) (dCons (dOp ixR (dOp ixR (dVar 2) (dOp (intR fun i j => .int (i - j)) (dVar 7) (dC (.int 1)))) (dC (.int 1))) (dNil)))) [7]) (gN 3)
def t_Giving_hand_9 (K : PySem.W.Frag) (S_Giving_steps : SpD) : TDS :=
  dIfS (dTest (dOp isNR (dVar 2) (dC .non))) (dRetN) (dNext)
def t_Giving_hand_10 (K : PySem.W.Frag) (S_Giving_steps : SpD) : TDS :=
  dAsg (dMeth (ga K "Giving") "steps" S_Giving_steps (dVar 0) (dCons (dVar 1) (dNil))) (gN 2)
def t_Giving_hand_11 (K : PySem.W.Frag) (S_Giving_steps : SpD) : TDS :=
  dWhile (dTest (dOp ltR (dOp ixR (dFld K (dVar 0) "got") (dVar 1)) (dOp ixR (dFld K (dVar 0) "wants") (dVar 1)))) (dSeq ((t_Giving_hand_10 K S_Giving_steps))
  (dSeq ((t_Giving_hand_9 K S_Giving_steps))
  (dSeq ((t_Giving_hand_8 K S_Giving_steps))
  (dSeq ((t_Giving_hand_7 K S_Giving_steps))
  (dSeq ((t_Giving_hand_6 K S_Giving_steps))
  (dSeq ((t_Giving_hand_5 K S_Giving_steps))
  (dSeq ((t_Giving_hand_3 K S_Giving_steps))
  (dSeq ((t_Giving_hand_1 K S_Giving_steps))
  ((t_Giving_hand_0 K S_Giving_steps))))))))))
def t_Giving_hand (K : PySem.W.Frag) (S_Giving_steps : SpD) : TDS :=
  (t_Giving_hand_11 K S_Giving_steps)
-- END
-- BEGIN Giving___init__
def t_Giving___init___0 (K : PySem.W.Frag) (S_Giving_hand : SpD) : TDS :=
  dDrop (dMeth (ga K "Giving") "hand" S_Giving_hand (dVar 0) (dCons (dVar 4) (dNil)))
def t_Giving___init___1 (K : PySem.W.Frag) (S_Giving_hand : SpD) : TDS :=
  dFor (iR1 (dCons (dCB lenR (dCons (dVar 1) (dNil))) (dNil))) (gN 4) ((t_Giving___init___0 K S_Giving_hand))
def t_Giving___init___2 (K : PySem.W.Frag) (S_Giving_hand : SpD) : TDS :=
  dSetF K (dVar 0) (dLc (iL (dVar 1)) (gN 5) (dYes) (dC (.int 0)) [5]) "got"
def t_Giving___init___3 (K : PySem.W.Frag) (S_Giving_hand : SpD) : TDS :=
  dSetF K (dVar 0) (dNewT) "holds"
def t_Giving___init___4 (K : PySem.W.Frag) (S_Giving_hand : SpD) : TDS :=
  dSetF K (dVar 0) (dCB dictDR (dCons (dVar 3) (dNil))) "free"
def t_Giving___init___5 (K : PySem.W.Frag) (S_Giving_hand : SpD) : TDS :=
  dSetF K (dVar 0) (dVar 2) "wants"
def t_Giving___init___6 (K : PySem.W.Frag) (S_Giving_hand : SpD) : TDS :=
  dSetF K (dVar 0) (dVar 1) "rows"
def t_Giving___init__ (K : PySem.W.Frag) (S_Giving_hand : SpD) : TDS :=
  dSeq ((t_Giving___init___6 K S_Giving_hand))
  (dSeq ((t_Giving___init___5 K S_Giving_hand))
  (dSeq ((t_Giving___init___4 K S_Giving_hand))
  (dSeq ((t_Giving___init___3 K S_Giving_hand))
  (dSeq ((t_Giving___init___2 K S_Giving_hand))
  ((t_Giving___init___1 K S_Giving_hand))))))
-- END
-- BEGIN most_together
def t_most_together_0 (K : PySem.W.Frag) (S_Giving___init__ : SpD) (S_mosts_of : SpD) : TDS :=
  dRet (dCB sumR (dCons (dFld K (dMake (ga K "Giving") S_Giving___init__ (dCons (dVar 0) (dCons (dCall S_mosts_of (dCons (dVar 0) (dNil))) (dCons (dVar 1) (dNil))))) "got") (dNil)))
def t_most_together (K : PySem.W.Frag) (S_Giving___init__ : SpD) (S_mosts_of : SpD) : TDS :=
  (t_most_together_0 K S_Giving___init__ S_mosts_of)
-- END
-- BEGIN giving_of
def t_giving_of_0 (K : PySem.W.Frag) (S_Giving___init__ : SpD) (S_mosts_of : SpD) : TDS :=
  dRet (dMake (ga K "Giving") S_Giving___init__ (dCons (dCB listR (dCons (dFld K (dVar 0) "every") (dNil))) (dCons (dCall S_mosts_of (dCons (dFld K (dVar 0) "every") (dNil))) (dCons (dVar 1) (dNil)))))
def t_giving_of (K : PySem.W.Frag) (S_Giving___init__ : SpD) (S_mosts_of : SpD) : TDS :=
  (t_giving_of_0 K S_Giving___init__ S_mosts_of)
-- END
-- BEGIN dealt
def t_dealt_0 (K : PySem.W.Frag) (S_giving_of : SpD) : TDS :=
  dRet (dLc (iEn (dCons (dFld K (dVar 0) "every") (dNil))) (gTup' 2 (gCons' (gN 3) (gCons' (gN 4) (gNil')))) (dYes) (dTup (dCons (dOp ixR (dVar 4) (dC (.int 0))) (dCons (dOp ixR (dVar 2) (dVar 3)) (dNil)))) [3, 4])
def t_dealt_1 (K : PySem.W.Frag) (S_giving_of : SpD) : TDS :=
  dAsg (dFld K (dCall S_giving_of (dCons (dVar 0) (dCons (dVar 1) (dNil)))) "got") (gN 2)
def t_dealt (K : PySem.W.Frag) (S_giving_of : SpD) : TDS :=
  dSeq ((t_dealt_1 K S_giving_of))
  ((t_dealt_0 K S_giving_of))
-- END
-- BEGIN deal
def t_deal_0 (K : PySem.W.Frag) (S_dealt : SpD) (S_check_stock : SpD) (S_check_line : SpD) : TDS :=
  dRet (dCall S_dealt (dCons (dVar 0) (dCons (dVar 1) (dNil))))
def t_deal_1 (K : PySem.W.Frag) (S_dealt : SpD) (S_check_stock : SpD) (S_check_line : SpD) : TDS :=
  dDrop (dCall S_check_stock (dCons (dVar 1) (dNil)))
def t_deal_2 (K : PySem.W.Frag) (S_dealt : SpD) (S_check_stock : SpD) (S_check_line : SpD) : TDS :=
  dDrop (dCall S_check_line (dCons (dVar 0) (dNil)))
def t_deal (K : PySem.W.Frag) (S_dealt : SpD) (S_check_stock : SpD) (S_check_line : SpD) : TDS :=
  dSeq ((t_deal_2 K S_dealt S_check_stock S_check_line))
  (dSeq ((t_deal_1 K S_dealt S_check_stock S_check_line))
  ((t_deal_0 K S_dealt S_check_stock S_check_line)))
-- END
-- BEGIN together
def t_together_0 (K : PySem.W.Frag) (S_most_together : SpD) (S_rows_of : SpD) (S_check_stock : SpD) (S_check_names : SpD) (S_check_line : SpD) : TDS :=
  dRet (dCall S_most_together (dCons (dCall S_rows_of (dCons (dVar 0) (dCons (dVar 1) (dNil)))) (dCons (dVar 2) (dNil))))
def t_together_1 (K : PySem.W.Frag) (S_most_together : SpD) (S_rows_of : SpD) (S_check_stock : SpD) (S_check_names : SpD) (S_check_line : SpD) : TDS :=
  dDrop (dCall S_check_stock (dCons (dVar 2) (dNil)))
def t_together_2 (K : PySem.W.Frag) (S_most_together : SpD) (S_rows_of : SpD) (S_check_stock : SpD) (S_check_names : SpD) (S_check_line : SpD) : TDS :=
  dDrop (dCall S_check_names (dCons (dVar 0) (dCons (dVar 1) (dNil))))
def t_together_3 (K : PySem.W.Frag) (S_most_together : SpD) (S_rows_of : SpD) (S_check_stock : SpD) (S_check_names : SpD) (S_check_line : SpD) : TDS :=
  dDrop (dCall S_check_line (dCons (dVar 0) (dNil)))
def t_together (K : PySem.W.Frag) (S_most_together : SpD) (S_rows_of : SpD) (S_check_stock : SpD) (S_check_names : SpD) (S_check_line : SpD) : TDS :=
  dSeq ((t_together_3 K S_most_together S_rows_of S_check_stock S_check_names S_check_line))
  (dSeq ((t_together_2 K S_most_together S_rows_of S_check_stock S_check_names S_check_line))
  (dSeq ((t_together_1 K S_most_together S_rows_of S_check_stock S_check_names S_check_line))
  ((t_together_0 K S_most_together S_rows_of S_check_stock S_check_names S_check_line))))
-- END
-- BEGIN due
def t_due_0 (K : PySem.W.Frag) (S_Giving___init__ : SpD) (S_rows_of : SpD) (S_mosts_of : SpD) (S_check_stock : SpD) (S_check_names : SpD) (S_Line_place : SpD) (S_check_line : SpD) : TDS :=
  dRet (dOp ixR (dFld K (dMake (ga K "Giving") S_Giving___init__ (dCons (dCall S_rows_of (dCons (dVar 0) (dCons (dOp addR (dVar 2) (dLst (dCons (dVar 1) (dNil)))) (dNil)))) (dCons (dCall S_mosts_of (dCons (dCall S_rows_of (dCons (dVar 0) (dCons (dOp addR (dVar 2) (dLst (dCons (dVar 1) (dNil)))) (dNil)))) (dNil))) (dCons (dVar 3) (dNil))))) "got") (dUn (fun x m F => onI x fun i => F (.int (-i)) m) (dC (.int 1))))
def t_due_1 (K : PySem.W.Frag) (S_Giving___init__ : SpD) (S_rows_of : SpD) (S_mosts_of : SpD) (S_check_stock : SpD) (S_check_names : SpD) (S_Line_place : SpD) (S_check_line : SpD) : TDS :=
  dDrop (dCall S_check_stock (dCons (dVar 3) (dNil)))
def t_due_2 (K : PySem.W.Frag) (S_Giving___init__ : SpD) (S_rows_of : SpD) (S_mosts_of : SpD) (S_check_stock : SpD) (S_check_names : SpD) (S_Line_place : SpD) (S_check_line : SpD) : TDS :=
  dIfS (dTest (dOp (inR false) (dVar 1) (dVar 2))) (dNever) (dNext)
def t_due_3 (K : PySem.W.Frag) (S_Giving___init__ : SpD) (S_rows_of : SpD) (S_mosts_of : SpD) (S_check_stock : SpD) (S_check_names : SpD) (S_Line_place : SpD) (S_check_line : SpD) : TDS :=
  dDrop (dCall S_check_names (dCons (dVar 0) (dCons (dVar 2) (dNil))))
def t_due_4 (K : PySem.W.Frag) (S_Giving___init__ : SpD) (S_rows_of : SpD) (S_mosts_of : SpD) (S_check_stock : SpD) (S_check_names : SpD) (S_Line_place : SpD) (S_check_line : SpD) : TDS :=
  dDrop (dMeth (ga K "Line") "place" S_Line_place (dVar 0) (dCons (dVar 1) (dNil)))
def t_due_5 (K : PySem.W.Frag) (S_Giving___init__ : SpD) (S_rows_of : SpD) (S_mosts_of : SpD) (S_check_stock : SpD) (S_check_names : SpD) (S_Line_place : SpD) (S_check_line : SpD) : TDS :=
  dDrop (dCall S_check_line (dCons (dVar 0) (dNil)))
def t_due (K : PySem.W.Frag) (S_Giving___init__ : SpD) (S_rows_of : SpD) (S_mosts_of : SpD) (S_check_stock : SpD) (S_check_names : SpD) (S_Line_place : SpD) (S_check_line : SpD) : TDS :=
  dSeq ((t_due_5 K S_Giving___init__ S_rows_of S_mosts_of S_check_stock S_check_names S_Line_place S_check_line))
  (dSeq ((t_due_4 K S_Giving___init__ S_rows_of S_mosts_of S_check_stock S_check_names S_Line_place S_check_line))
  (dSeq ((t_due_3 K S_Giving___init__ S_rows_of S_mosts_of S_check_stock S_check_names S_Line_place S_check_line))
  (dSeq ((t_due_2 K S_Giving___init__ S_rows_of S_mosts_of S_check_stock S_check_names S_Line_place S_check_line))
  (dSeq ((t_due_1 K S_Giving___init__ S_rows_of S_mosts_of S_check_stock S_check_names S_Line_place S_check_line))
  ((t_due_0 K S_Giving___init__ S_rows_of S_mosts_of S_check_stock S_check_names S_Line_place S_check_line))))))
-- END
/-! ### a giving as it stands -/
structure HFG (K : PySem.W.Frag) : Prop where
  c_Giving : Cls K (ga K "Giving")
  f_rows : NoAttr K (ga K "Giving") "rows"
  f_wants : NoAttr K (ga K "Giving") "wants"
  f_free : NoAttr K (ga K "Giving") "free"
  f_holds : NoAttr K (ga K "Giving") "holds"
  f_got : NoAttr K (ga K "Giving") "got"
abbrev Hld := List ((Nat × Str) × Int)
def hkey (p : Nat × Str) : List Key := [Sum.inl (p.1 : Int), Sum.inr p.2]
theorem hkey_inj (a b : Nat × Str) (h : hkey a = hkey b) : a = b := by
  unfold hkey at h
  simp only [List.cons.injEq, Sum.inl.injEq, Sum.inr.injEq, and_true] at h
  exact Prod.ext (by omega) h.2
def hen (l : Hld) : List (List Key × D) := l.map fun p => (hkey p.1, D.int p.2)
theorem dval_hen (l : Hld) (p : Nat × Str) : dval (hen l) (hkey p) = (dval l p).map D.int := dval_map _ hkey_inj _ l p
theorem dput_hen (l : Hld) (p : Nat × Str) (v : Int) : dput (hen l) (hkey p) (.int v) = hen (dput l p v) := dput_map _ hkey_inj _ l p v
theorem hen_len (l : Hld) : (hen l).length = l.length := List.length_map _
def hv (l : Hld) (i : Nat) (x : Str) : Int := (dval l (i, x)).getD 0
theorem hv_put (l : Hld) (p : Nat × Str) (v : Int) (i : Nat) (x : Str) : hv (dput l p v) i x = if (i, x) = p then v else hv l i x := by
  unfold hv
  rw [dval_put]
  by_cases e : (i, x) = p <;> simp [e]
def gF : List Str := ["rows", "wants", "free", "holds", "got"]
structure GA (K : PySem.W.Frag) (m : Mu) (j f h g : Nat) (rows : List Ak) (wants : List Int) (fr : Stk) (hl : Hld) (got : List Int) : Prop where
  j : m j = some (.ins (ga K "Giving") gF [.lst (rows.map Ak.row), .lst (wants.map D.int), .ref f, .ref h, .ref g])
  f : m f = some (.dK (stk fr))
  h : m h = some (.dT (hen hl))
  g : m g = some (.lst (got.map D.int))
theorem GA.mono {K : PySem.W.Frag} {m m' : Mu} {j f h g : Nat} {rows : List Ak} {wants : List Int} {fr : Stk} {hl : Hld} {got : List Int} (a : GA K m j f h g rows wants fr hl got) (s : Sub m m') : GA K m' j f h g rows wants fr hl got :=
  ⟨s _ _ a.j, s _ _ a.f, s _ _ a.h, s _ _ a.g⟩
section
variable {K : PySem.W.Frag} (T : HFG K) {m : Mu} {j f h g : Nat} {rows : List Ak} {wants : List Int} {fr : Stk} {hl : Hld} {got : List Int} {F : D → Prop}
include T
theorem fld_rows (a : GA K m j f h g rows wants fr hl got) (hF : F (.lst (rows.map Ak.row))) : ∃ c fs xs v, insOf m (.ref j) = some (c, fs, xs) ∧ Cls K c ∧ NoAttr K c "rows" ∧ getF "rows" fs xs = some v ∧ F v :=
  ⟨_, _, _, _, insOf_ref a.j, T.c_Giving, T.f_rows, rfl, hF⟩
theorem fld_wants (a : GA K m j f h g rows wants fr hl got) (hF : F (.lst (wants.map D.int))) : ∃ c fs xs v, insOf m (.ref j) = some (c, fs, xs) ∧ Cls K c ∧ NoAttr K c "wants" ∧ getF "wants" fs xs = some v ∧ F v :=
  ⟨_, _, _, _, insOf_ref a.j, T.c_Giving, T.f_wants, rfl, hF⟩
theorem fld_free (a : GA K m j f h g rows wants fr hl got) (hF : F (.ref f)) : ∃ c fs xs v, insOf m (.ref j) = some (c, fs, xs) ∧ Cls K c ∧ NoAttr K c "free" ∧ getF "free" fs xs = some v ∧ F v :=
  ⟨_, _, _, _, insOf_ref a.j, T.c_Giving, T.f_free, rfl, hF⟩
theorem fld_holds (a : GA K m j f h g rows wants fr hl got) (hF : F (.ref h)) : ∃ c fs xs v, insOf m (.ref j) = some (c, fs, xs) ∧ Cls K c ∧ NoAttr K c "holds" ∧ getF "holds" fs xs = some v ∧ F v :=
  ⟨_, _, _, _, insOf_ref a.j, T.c_Giving, T.f_holds, rfl, hF⟩
theorem fld_got (a : GA K m j f h g rows wants fr hl got) (hF : F (.ref g)) : ∃ c fs xs v, insOf m (.ref j) = some (c, fs, xs) ∧ Cls K c ∧ NoAttr K c "got" ∧ getF "got" fs xs = some v ∧ F v :=
  ⟨_, _, _, _, insOf_ref a.j, T.c_Giving, T.f_got, rfl, hF⟩
end
theorem range_map (n : Nat) : rangeD 0 n = (List.range n).map fun i => D.int (i : Nat) := by
  unfold rangeD
  refine List.map_congr_left fun i _ => by simp
theorem fm_if {α : Type} (p : α → Prop) [DecidablePred p] (g : α → D) (l : List α) : l.filterMap (fun i => if p i then some (g i) else none) = (l.filter fun i => decide (p i)).map g := by
  induction l with
  | nil => rfl
  | cons a l ih =>
    by_cases q : p a
    · simp [List.filterMap_cons, List.filter_cons, q, ih]
    · simp [List.filterMap_cons, List.filter_cons, q, ih]
/-- who holds bags of a kind -/
def holdersOf (n : Nat) (hl : Hld) (x : Str) : List Nat := (List.range n).filter fun i => decide (0 < hv hl i x)
def S_Giving_holders (K : PySem.W.Frag) : SpD := fun ds m F => ∃ (j f h g : Nat) (rows : List Ak) (wants : List Int) (fr : Stk) (hl : Hld) (got : List Int) (x : Str), ds = [.ref j, .str x] ∧ GA K m j f h g rows wants fr hl got ∧ rows.length < 60 ∧ F (.lst ((holdersOf rows.length hl x).map fun i => D.int (i : Nat))) m
theorem pure_Giving_holders {K : PySem.W.Frag} (T : HFG K) (ds : List D) (m : Mu) (G : DK) (h : S_Giving_holders K ds m G) : t_Giving_holders K { nx := fun _ m' => Fin G .non m', rt := Fin G } (startD 3 ds) m := by
  obtain ⟨j, f, h', g, rows, wants, fr, hl, got, x, rfl, ga, hn, h⟩ := h
  unfold t_Giving_holders t_Giving_holders_0
  walk_at "nf"
  refine fld_rows T ga ?_
  refine lenR_of (xs := rows.map Ak.row) rfl ?_
  rw [List.length_map]
  refine And.intro ⟨by omega, by omega⟩ ?_
  rw [Int.toNat_natCast, range_map]
  refine lc_over (List.range rows.length) (fun i => D.int (i : Nat)) (fun i => if 0 < hv hl i x then some (.int (i : Nat)) else none) trivial (by rw [List.length_range]; unfold sizeLine; omega) (fun i hi acc k2 hacc hk => ?_) ?_
  · walk_at "nf"
    refine fld_holds T ga ?_
    refine And.intro (isDic_dT ga.h) ?_
    refine And.intro (by decide) ?_
    rw [look_tup ga.h]
    have e : dval (hen hl) [Sum.inl ((i : Nat) : Int), Sum.inr x] = (dval hl (i, x)).map D.int := dval_hen hl (i, x)
    rw [e]
    walk_at "nf"
    have e2 : ((dval hl (i, x)).map D.int).getD (.int 0) = .int (hv hl i x) := by unfold hv; cases dval hl (i, x) <;> rfl
    rw [e2]
    by_cases q : 0 < hv hl i x
    · rw [if_pos q] at hk
      exact br_t (decide_eq_true q) ⟨hacc, hk⟩
    · rw [if_neg q] at hk
      exact br_f (decide_eq_false q) (by simpa using hk)
  · refine new_l (fin ?_)
    have e : (List.range rows.length).filterMap (fun i => if 0 < hv hl i x then some (D.int (i : Nat)) else none) = (holdersOf rows.length hl x).map fun i => D.int (i : Nat) := by
      exact fm_if _ _ _
    rw [e]; exact h
end HL

namespace HL
open PySem L2 DL DM
local macro_rules | `(tactic| walk_at "nf") => `(tactic| try simp only [dSeq, dIfS, dOr, dAnd, dNot, dTest, dCB, dCons, dNil, dVar, dC, dRet, dRetN, dNext, dAsg, gN, gt2, dOp, dUn, dAndV, dOrV, dNotV, dIf, dLst, dTup, dCall, dMeth, dProp, dMake, dFld, dSl, dPart, dNoPart, dDrop, dPar, dPar3, dBm, dRev, dSetF, dBits, gSet, gTup', gCons', gNil', dDGet, dDIn, dDGet2, dDGet1, dDPut, dNewK, dNewT, iL_eq, iEn, on1, on2, onO_some, addI, subI, intC, onI_i, onS_s, onB_b, iT, iR1, iR2, dLc, dFor, lcBody, dLc2_eq, lcBody2, dDc, dcBody, dYes, wipeD, atE, startD, List.map_cons, List.map_nil, List.length_cons, List.length_nil, List.cons_append, List.nil_append, List.replicate, List.getElem?_cons_zero, List.getElem?_cons_succ, List.set_cons_zero, List.set_cons_succ, Nat.reduceSub, Nat.reduceAdd, Nat.reduceEqDiff, if_true, if_false])
/-! ### three new objects -/
def st3 (m : Mu) (c s q : Nat) (A B C : MO) : Mu := mset (mset (mset m c A) s B) q C
section
variable {m : Mu} {c s q : Nat} {A B C X : MO}
theorem st3_c (cs : c ≠ s) (cq : c ≠ q) : mset (st3 m c s q A B C) c X = st3 m c s q X B C := by
  unfold st3
  rw [mset_comm (Ne.symm cq), mset_comm (Ne.symm cs), mset_mset]
theorem st3_s (sq : s ≠ q) : mset (st3 m c s q A B C) s X = st3 m c s q A X C := by
  unfold st3
  rw [mset_comm (Ne.symm sq), mset_mset]
theorem st3_q : mset (st3 m c s q A B C) q X = st3 m c s q A B X := by
  unfold st3
  rw [mset_mset]
theorem st3_ac (cs : c ≠ s) (cq : c ≠ q) : st3 m c s q A B C c = some A := by
  unfold st3
  rw [mset_ne cq, mset_ne cs, mset_same]
theorem st3_as (sq : s ≠ q) : st3 m c s q A B C s = some B := by
  unfold st3
  rw [mset_ne sq, mset_same]
theorem st3_aq : st3 m c s q A B C q = some C := mset_same
theorem st3_sub (hc : m c = none) (hs : m s = none) (hq : m q = none) : Sub m (st3 m c s q A B C) := fun i o e => by
  unfold st3
  rw [mset_ne (ne_of_mu e hq), mset_ne (ne_of_mu e hs), mset_ne (ne_of_mu e hc)]; exact e
end
/-! ### what is reached from an asker -/
def cen (l : List (Str × Nat)) : List (Key × D) := l.map fun p => (Sum.inr p.1, D.int (p.2 : Nat))
def sen (l : List (Nat × Str)) : List (Key × D) := l.map fun p => (Sum.inl (p.1 : Int), D.str p.2)
theorem inl_inj (a b : Nat) (h : (Sum.inl (a : Int) : Key) = Sum.inl (b : Int)) : a = b := by have := Sum.inl.inj h; omega
theorem dval_cen (l : List (Str × Nat)) (x : Str) : dval (cen l) (Sum.inr x) = (dval l x).map fun i => D.int (i : Nat) := dval_map (Sum.inr : Str → Key) inr_inj (fun i : Nat => D.int (i : Nat)) l x
theorem dput_cen (l : List (Str × Nat)) (x : Str) (i : Nat) : dput (cen l) (Sum.inr x) (.int (i : Nat)) = cen (dput l x i) := dput_map (Sum.inr : Str → Key) inr_inj (fun i : Nat => D.int (i : Nat)) l x i
theorem dval_sen (l : List (Nat × Str)) (i : Nat) : dval (sen l) (Sum.inl ((i : Nat) : Int)) = (dval l i).map D.str := dval_map (fun a : Nat => (Sum.inl (a : Int) : Key)) inl_inj D.str l i
theorem dput_sen (l : List (Nat × Str)) (i : Nat) (x : Str) : dput (sen l) (Sum.inl ((i : Nat) : Int)) (.str x) = sen (dput l i x) := dput_map (fun a : Nat => (Sum.inl (a : Int) : Key)) inl_inj D.str l i x
theorem dput_new {κ β : Type} [DecidableEq κ] {l : List (κ × β)} {k : κ} {v : β} (h : k ∉ l.map (·.1)) : dput l k v = l ++ [(k, v)] := by
  unfold dput
  rw [dval_any, dval_none_iff.mpr h]; rfl
def lineOf (start : Nat) (src : List (Nat × Str)) : List Nat := start :: src.map (·.1)
theorem lineOf_snoc (start : Nat) (src : List (Nat × Str)) (p : Nat × Str) : lineOf start (src ++ [p]) = lineOf start src ++ [p.1] := by simp [lineOf]
structure RI (n : Nat) (fits : Nat → List Str) (hold : Nat → Str → Int) (start : Nat) (came : List (Str × Nat)) (src : List (Nat × Str)) : Prop where
  nd : (lineOf start src).Nodup
  lt : ∀ i ∈ lineOf start src, i < n
  cnd : (came.map (·.1)).Nodup
  cin : ∀ p ∈ came, p.1 ∈ fits p.2 ∧ p.2 ∈ lineOf start src
  sin : ∀ (i j : Nat) (x : Str), src[i]? = some (j, x) → 0 < hold j x ∧ ∃ a, (x, a) ∈ came ∧ a ∈ (lineOf start src).take (i + 1)
/-- a kind is done with -/
def Dn (free : Str → Int) (hold : Nat → Str → Int) (line : List Nat) (x : Str) : Prop := free x ≤ 0 ∧ ∀ j, 0 < hold j x → j ∈ line
theorem Dn.more {free : Str → Int} {hold : Nat → Str → Int} {line : List Nat} {x : Str} {i : Nat} (h : Dn free hold line x) : Dn free hold (line ++ [i]) x := ⟨h.1, fun j q => List.mem_append.mpr (.inl (h.2 j q))⟩
section
variable {n : Nat} {fits : Nat → List Str} {hold : Nat → Str → Int} {start : Nat} {came : List (Str × Nat)} {src : List (Nat × Str)}
theorem RI.kind (h : RI n fits hold start came src) {x : Str} {a : Nat} (hx : x ∉ came.map (·.1)) (hf : x ∈ fits a) (ha : a ∈ lineOf start src) : RI n fits hold start (came ++ [(x, a)]) src := by
  refine ⟨h.nd, h.lt, ?_, fun p hp => ?_, fun i j y e => ?_⟩
  · rw [List.map_append]
    refine List.nodup_append.mpr ⟨h.cnd, by simp, fun u hu v hv z => hx ?_⟩
    simp only [List.map_cons, List.map_nil, List.mem_singleton] at hv
    rw [← hv, ← z]; exact hu
  · rcases List.mem_append.mp hp with hp | hp
    · exact h.cin p hp
    · rw [List.mem_singleton.mp hp]; exact ⟨hf, ha⟩
  · obtain ⟨h1, b, h2, h3⟩ := h.sin i j y e
    exact ⟨h1, b, List.mem_append.mpr (.inl h2), h3⟩
theorem RI.near (h : RI n fits hold start came src) {x : Str} {a j : Nat} (hj : j ∉ lineOf start src) (hn : j < n) (hh : 0 < hold j x) (hc : (x, a) ∈ came) (ha : a ∈ lineOf start src) : RI n fits hold start came (src ++ [(j, x)]) := by
  refine ⟨?_, fun i hi => ?_, h.cnd, fun p hp => ?_, fun i k y e => ?_⟩
  · rw [lineOf_snoc]
    refine List.nodup_append.mpr ⟨h.nd, by simp, fun u hu v hv z => hj ?_⟩
    rw [List.mem_singleton.mp hv] at z
    have z : u = j := z
    rw [← z]; exact hu
  · rw [lineOf_snoc] at hi
    rcases List.mem_append.mp hi with hi | hi
    · exact h.lt i hi
    · rw [List.mem_singleton.mp hi]; exact hn
  · rw [lineOf_snoc]
    exact ⟨(h.cin p hp).1, List.mem_append.mpr (.inl (h.cin p hp).2)⟩
  · rw [lineOf_snoc]
    by_cases q : i < src.length
    · rw [List.getElem?_append_left q] at e
      obtain ⟨h1, b, h2, h3⟩ := h.sin i k y e
      refine ⟨h1, b, h2, ?_⟩
      rw [List.take_append_of_le_length (by simp [lineOf]; omega)]
      exact h3
    · have hi : i = src.length := by
        have := (List.getElem?_eq_some_iff.mp e).1
        simp at this; omega
      subst hi
      simp at e
      obtain ⟨rfl, rfl⟩ := e
      refine ⟨hh, a, hc, ?_⟩
      rw [List.take_append_of_le_length (by simp [lineOf])]
      rw [List.take_of_length_le (by simp [lineOf])]
      exact ha
end
/-- all that is told of a look around -/
structure Rch (n : Nat) (fits : Nat → List Str) (g : GV.GS Str) (start : Nat) (came : List (Str × Nat)) (src : List (Nat × Str)) (kd : Option Str) : Prop where
  ri : RI n fits g.hold start came src
  some_ : ∀ x, kd = some x → 0 < g.free x ∧ x ∈ came.map (·.1)
  none_ : kd = none → ∀ a ∈ lineOf start src, ∀ x ∈ fits a, Dn g.free g.hold (lineOf start src) x
def optS : Option Str → D
  | some x => .str x
  | none => .non
def fitsN (rows : List Ak) (i : Nat) : List Str := ((rows[i]?).map Ak.fits).getD []
def gsOf (fr : Stk) (hl : Hld) (got : List Int) : GV.GS Str := ⟨sv fr, hv hl, fun i => got.getD i 0⟩
/-- sizes, keys -/
structure GZ (rows : List Ak) (fr : Stk) (hl : Hld) : Prop where
  n : rows.length < 60
  fl : ∀ a ∈ rows, a.fits.length < 60
  fn : ∀ a ∈ rows, a.fits.Nodup
  fr : fr.length < 60
  nd : (hl.map (·.1)).Nodup
  inn : ∀ p ∈ hl, p.1.1 < rows.length ∧ p.1.2 ∈ fitsN rows p.1.1
def S_Giving_reached (K : PySem.W.Frag) : SpD := fun ds m F => ∃ (j f h g : Nat) (rows : List Ak) (wants : List Int) (fr : Stk) (hl : Hld) (got : List Int) (k : Nat), ds = [.ref j, .int (k : Nat)] ∧ GA K m j f h g rows wants fr hl got ∧ (GZ rows fr hl ∧ k < rows.length) ∧
  ∀ (c s : Nat) (came : List (Str × Nat)) (src : List (Nat × Str)) (kd : Option Str), m c = none → m s = none → c ≠ s → Rch rows.length (fitsN rows) (gsOf fr hl got) k came src kd → F (.tup [.ref c, .ref s, optS kd]) (mset (mset m c (.dK (cen came))) s (.dK (sen src)))
theorem hv_lt {rows : List Ak} {fr : Stk} {hl : Hld} (z : GZ rows fr hl) {i : Nat} {x : Str} (h : 0 < hv hl i x) : i < rows.length ∧ x ∈ fitsN rows i := by
  unfold hv at h
  cases q : dval hl (i, x) with
  | none => rw [q] at h; simp at h
  | some v => exact z.inn _ (dval_mem q)

theorem mem_holders {rows : List Ak} {fr : Stk} {hl : Hld} (z : GZ rows fr hl) {x : Str} {j : Nat} : j ∈ holdersOf rows.length hl x ↔ 0 < hv hl j x := by
  unfold holdersOf
  rw [List.mem_filter, List.mem_range, decide_eq_true_eq]
  exact ⟨fun h => h.2, fun h => ⟨(hv_lt z h).1, h⟩⟩
theorem nat_ne {a b : Nat} : eqD (.int (a : Nat)) (.int (b : Nat)) = decide (a = b) := by
  by_cases q : a = b
  · subst q; rw [decide_eq_true rfl]; exact eqD_t rfl rfl
  · rw [decide_eq_false q]; exact eqD_f (fun z => q (by have := D.int.inj z; omega)) rfl rfl
theorem okP_int (i : Int) : okP (.int i) := ok_int.P (n := 0)
theorem fits_row {rows : List Ak} {i : Nat} {a : Ak} (h : rows[i]? = some a) : fitsN rows i = a.fits := by unfold fitsN; rw [h]; rfl
theorem nodup_lt {l : List Nat} {n : Nat} (nd : l.Nodup) (h : ∀ i ∈ l, i < n) : l.length ≤ n := by
  have := (List.nodup_range (n := n))
  have sub : ∀ (a b : List Nat), a.Nodup → (∀ x ∈ a, x ∈ b) → a.length ≤ b.length := by
    intro a
    induction a with
    | nil => intro b _ _; exact Nat.zero_le _
    | cons x r ih =>
      intro b nd h
      obtain ⟨n1, n2⟩ := List.nodup_cons.mp nd
      have hx := h x List.mem_cons_self
      have i2 := ih (b.erase x) n2 fun y hy => (List.mem_erase_of_ne (a := y) (b := x) (fun z : y = x => n1 (z ▸ hy))).mpr (h y (List.mem_cons_of_mem _ hy))
      rw [List.length_erase_of_mem hx] at i2
      have := List.length_pos_of_mem hx
      rw [List.length_cons]; omega
  have := sub l (List.range n) nd fun x hx => List.mem_range.mpr (h x hx)
  simpa using this
section
variable {K : PySem.W.Frag} (T : HFG K) {m : Mu} {j f h g : Nat} {rows : List Ak} {wants : List Int} {fr : Stk} {hl : Hld} {got : List Int} {k c s q : Nat} (E : DEn)
abbrev lineD (k : Nat) (src : List (Nat × Str)) : MO := .lst ((lineOf k src).map fun i => D.int (i : Nat))
abbrev rst (m : Mu) (c s q k : Nat) (came : List (Str × Nat)) (src : List (Nat × Str)) : Mu := st3 m c s q (.dK (cen came)) (.dK (sen src)) (lineD k src)
/-- the innermost loop: those who hold a kind -/
theorem rch4 (a : GA K m j f h g rows wants fr hl got) (z : GZ rows fr hl) (hc : m c = none) (hs : m s = none) (hq : m q = none) (cs : c ≠ s) (cq : c ≠ q) (sq : s ≠ q) {came : List (Str × Nat)} {src : List (Nat × Str)} {at_ : Nat} {x : Str} {x5 x6 x8 : Option D}
    (ri : RI rows.length (fitsN rows) (hv hl) k came src) (hx : (x, at_) ∈ came) (hat : at_ ∈ lineOf k src)
    (fin_ : ∀ (src' : List (Nat × Str)) (x8 : Option D), RI rows.length (fitsN rows) (hv hl) k came src' → (∃ t, src' = src ++ t) → (∀ i, 0 < hv hl i x → i ∈ lineOf k src') → E.nx [some (.ref j), some (.int (k : Nat)), some (.ref c), some (.ref s), some (.ref q), x5, x6, some (.str x), x8] (rst m c s q k came src')) :
    t_Giving_reached_4 K (S_Giving_holders K) E [some (.ref j), some (.int (k : Nat)), some (.ref c), some (.ref s), some (.ref q), x5, x6, some (.str x), x8] (rst m c s q k came src) := by
  have a' : ∀ came src, GA K (rst m c s q k came src) j f h g rows wants fr hl got := fun came src => a.mono (st3_sub hc hs hq)
  unfold t_Giving_reached_4
  walk_at "nf"
  refine ⟨_, _, insOf_ref (a' came src).j, by decide, j, f, h, g, rows, wants, fr, hl, got, x, rfl, a' came src, z.n, ?_⟩

  simp only [withI_l]
  refine for_inv (fun i ρ m' => ∃ (src' : List (Nat × Str)) (x8 : Option D), m' = rst m c s q k came src' ∧ ρ = [some (.ref j), some (.int (k : Nat)), some (.ref c), some (.ref s), some (.ref q), x5, x6, some (.str x), x8] ∧ RI rows.length (fitsN rows) (hv hl) k came src' ∧ (∃ t, src' = src ++ t) ∧ ∀ u ∈ (holdersOf rows.length hl x).take i, u ∈ lineOf k src')
    ⟨src, x8, rfl, rfl, ri, ⟨[], by simp⟩, by simp⟩ (fun _ _ _ _ => trivial) (fun i d ρ m' ei p k2 hk2 => ?_) fun ρ m' p => ?_
  · obtain ⟨src', x8, rfl, rfl, ri', ⟨t, ht⟩, hu⟩ := p
    rw [List.getElem?_map] at ei
    cases e : (holdersOf rows.length hl x)[i]? with
    | none => rw [e] at ei; cases ei
    | some u =>
      rw [e] at ei
      obtain rfl := Option.some.inj ei
      have hu0 : 0 < hv hl u x := (mem_holders z).mp (List.mem_of_getElem? e)
      have ht1 : (holdersOf rows.length hl x).take (i + 1) = (holdersOf rows.length hl x).take i ++ [u] := by rw [List.take_succ, e]; rfl
      have hatl : at_ ∈ lineOf k src' := by
        rw [ht]
        unfold lineOf at hat ⊢
        rw [List.map_append]
        rcases List.mem_cons.mp hat with z | z
        · rw [z]; exact List.mem_cons_self
        · exact List.mem_cons_of_mem _ (List.mem_append.mpr (.inl z))
      unfold t_Giving_reached_3 t_Giving_reached_2 t_Giving_reached_1
      walk_at "nf"
      refine And.intro ⟨okP_int _, okP_int _⟩ ?_
      have done : u ∈ lineOf k src' → k2 [some (.ref j), some (.int (k : Nat)), some (.ref c), some (.ref s), some (.ref q), x5, x6, some (.str x), some (.int (u : Nat))] (rst m c s q k came src') := fun hm =>
        hk2 _ _ ⟨src', _, rfl, rfl, ri', ⟨t, ht⟩, fun v hv => by
          rw [ht1] at hv
          rcases List.mem_append.mp hv with hv | hv
          · exact hu v hv
          · rw [List.mem_singleton.mp hv]; exact hm⟩
      by_cases q1 : u = k
      · refine br_f (by rw [nat_ne, decide_eq_true q1]; rfl) ?_
        refine br_f rfl ?_
        exact done (by rw [q1]; exact List.mem_cons_self)
      · refine br_t (by rw [nat_ne, decide_eq_false q1]; rfl) ?_
        rw [look_int (st3_as sq), dval_sen]
        walk_at "nf"
        cases q2 : dval src' u with
        | some y =>
          refine br_f rfl ?_
          exact done (List.mem_cons_of_mem _ (List.mem_map.mpr ⟨_, dval_mem q2, rfl⟩))
        | none =>
          refine br_t rfl ?_
          have hnl : u ∉ lineOf k src' := fun hm => by
            rcases List.mem_cons.mp hm with w | w
            · exact q1 w
            · exact dval_none_iff.mp q2 w
          have lsz := nodup_lt ri'.nd ri'.lt
          have zn := z.n
          have l1 : (lineOf k src').length = src'.length + 1 := by simp [lineOf]
          refine store_int (st3_as sq) (by unfold sen; rw [List.length_map]; unfold sizeLine; omega) ?_
          rw [dput_sen, dput_new (dval_none_iff.mp q2), st3_s sq]
          refine And.intro ⟨_, lstOf_ref st3_aq⟩ ?_
          refine ⟨_, st3_aq, by rw [List.length_map]; unfold sizeLine; omega, ?_⟩
          rw [st3_q]
          have el : ((lineOf k src').map fun i => D.int (i : Nat)) ++ [D.int (u : Nat)] = (lineOf k (src' ++ [(u, x)])).map fun i => D.int (i : Nat) := by rw [lineOf_snoc, List.map_append]; rfl
          rw [el]
          refine hk2 _ _ ⟨src' ++ [(u, x)], _, rfl, rfl, ri'.near hnl (hv_lt z hu0).1 hu0 hx hatl, ⟨t ++ [(u, x)], by rw [ht]; simp⟩, fun v hv => ?_⟩
          rw [lineOf_snoc]
          rw [ht1] at hv
          rcases List.mem_append.mp hv with hv | hv
          · exact List.mem_append.mpr (.inl (hu v hv))
          · exact List.mem_append.mpr (.inr hv)
  · obtain ⟨src', x8, rfl, rfl, ri', ht, hu⟩ := p
    rw [List.length_map, List.take_length] at hu
    exact fin_ src' x8 ri' ht fun i hi => hu i ((mem_holders z).mpr hi)
end
end HL

namespace HL
open PySem L2 DL DM
local macro_rules | `(tactic| walk_at "nf") => `(tactic| try simp only [dSeq, dIfS, dOr, dAnd, dNot, dTest, dCB, dCons, dNil, dVar, dC, dRet, dRetN, dNext, dAsg, gN, gt2, dOp, dUn, dAndV, dOrV, dNotV, dIf, dLst, dTup, dCall, dMeth, dProp, dMake, dFld, dSl, dPart, dNoPart, dDrop, dPar, dPar3, dBm, dRev, dSetF, dBits, gSet, gTup', gCons', gNil', dDGet, dDIn, dDGet2, dDGet1, dDPut, dNewK, dNewT, iL_eq, iEn, on1, on2, onO_some, addI, subI, intC, onI_i, onS_s, onB_b, iT, iR1, iR2, dLc, dFor, lcBody, dLc2_eq, lcBody2, dDc, dcBody, dYes, wipeD, atE, startD, List.map_cons, List.map_nil, List.length_cons, List.length_nil, List.cons_append, List.nil_append, List.replicate, List.getElem?_cons_zero, List.getElem?_cons_succ, List.set_cons_zero, List.set_cons_succ, Nat.reduceSub, Nat.reduceAdd, Nat.reduceEqDiff, if_true, if_false])
section
variable {K : PySem.W.Frag} (T : HFG K) {m : Mu} {j f h g : Nat} {rows : List Ak} {wants : List Int} {fr : Stk} {hl : Hld} {got : List Int} {k c s q : Nat} (E : DEn)
theorem line_more {k : Nat} {src src' : List (Nat × Str)} (h : ∃ t, src' = src ++ t) {i : Nat} (hi : i ∈ lineOf k src) : i ∈ lineOf k src' := by
  obtain ⟨t, rfl⟩ := h
  unfold lineOf at hi ⊢
  rw [List.map_append]
  rcases List.mem_cons.mp hi with z | z
  · rw [z]; exact List.mem_cons_self
  · exact List.mem_cons_of_mem _ (List.mem_append.mpr (.inl z))
theorem line_pre {k : Nat} {src src' : List (Nat × Str)} (h : ∃ t, src' = src ++ t) : ∃ t, lineOf k src' = lineOf k src ++ t := by
  obtain ⟨t, rfl⟩ := h
  exact ⟨t.map (·.1), by simp [lineOf]⟩
theorem withI_t {xs : List D} {m : Mu} {F : List D → (Mu → Prop) → Mu → Prop} : withI (.tup xs) m F = F xs (fun _ => True) m := rfl
theorem ixT {xs : List D} {k : Nat} {x : D} {m : Mu} {F : DK} (h : xs[k]? = some x) (f : F x m) : ixR (.tup xs) (.int k) m F := onO_of (atI_n h) f
theorem ixL {xs : List D} {k : Nat} {x : D} {m : Mu} {F : DK} (h : xs[k]? = some x) (f : F x m) : ixR (.lst xs) (.int k) m F := onO_of (atI_n h) f
theorem came_len {n : Nat} {fits : Nat → List Str} {hold : Nat → Str → Int} {start : Nat} {came : List (Str × Nat)} {src : List (Nat × Str)} (ri : RI n fits hold start came src) (hn : n < 60) (hf : ∀ i, (fits i).length < 60) : came.length < 4000 := by
  have h1 : came.length ≤ ((List.range n).flatMap fits).length := by
    have h2 : ∀ x ∈ came.map (·.1), x ∈ (List.range n).flatMap fits := fun x hx => by
      obtain ⟨p, hp, rfl⟩ := List.mem_map.mp hx
      obtain ⟨h3, h4⟩ := ri.cin p hp
      exact List.mem_flatMap.mpr ⟨p.2, List.mem_range.mpr (ri.lt _ h4), h3⟩
    have := sub_len ri.cnd h2
    rw [List.length_map] at this; exact this
  have h2 : ∀ n, ((List.range n).flatMap fits).length ≤ n * 60 := by
    intro n
    induction n with
    | zero => simp
    | succ n ih =>
      rw [List.range_succ, List.flatMap_append, List.length_append]
      simp only [List.flatMap_cons, List.flatMap_nil, List.append_nil]
      have := hf n
      omega
  have := h2 n
  omega
theorem fitsN_len {rows : List Ak} {fr : Stk} {hl : Hld} (z : GZ rows fr hl) (i : Nat) : (fitsN rows i).length < 60 := by
  unfold fitsN
  cases e : rows[i]? with
  | none => decide
  | some a => exact z.fl a (List.mem_of_getElem? e)
include T in
/-- the kinds of one asker -/
theorem rch9 (a : GA K m j f h g rows wants fr hl got) (z : GZ rows fr hl) (hc : m c = none) (hs : m s = none) (hq : m q = none) (cs : c ≠ s) (cq : c ≠ q) (sq : s ≠ q) {came : List (Str × Nat)} {src : List (Nat × Str)} {at_ : Nat} {ak : Ak} {x5 x7 x8 : Option D}
    (hak : rows[at_]? = some ak) (ri : RI rows.length (fitsN rows) (hv hl) k came src) (hat : at_ ∈ lineOf k src) (dn : ∀ p ∈ came, Dn (sv fr) (hv hl) (lineOf k src) p.1)
    (ret : ∀ (came' : List (Str × Nat)) (src' : List (Nat × Str)) (x : Str), RI rows.length (fitsN rows) (hv hl) k came' src' → 0 < sv fr x → x ∈ came'.map (·.1) → E.rt (.tup [.ref c, .ref s, .str x]) (rst m c s q k came' src'))
    (fin_ : ∀ (came' : List (Str × Nat)) (src' : List (Nat × Str)) (x7 x8 : Option D), RI rows.length (fitsN rows) (hv hl) k came' src' → (∃ t, src' = src ++ t) → (∃ t, came' = came ++ t) → (∀ p ∈ came', Dn (sv fr) (hv hl) (lineOf k src') p.1) → (∀ x ∈ ak.fits, x ∈ came'.map (·.1)) →
      E.nx [some (.ref j), some (.int (k : Nat)), some (.ref c), some (.ref s), some (.ref q), x5, some (.int (at_ : Nat)), x7, x8] (rst m c s q k came' src')) :
    t_Giving_reached_9 K (S_Giving_holders K) E [some (.ref j), some (.int (k : Nat)), some (.ref c), some (.ref s), some (.ref q), x5, some (.int (at_ : Nat)), x7, x8] (rst m c s q k came src) := by
  have a' : ∀ came src, GA K (rst m c s q k came src) j f h g rows wants fr hl got := fun came src => a.mono (st3_sub hc hs hq)
  unfold t_Giving_reached_9
  walk_at "nf"
  refine fld_rows T (a' came src) ?_
  refine onO_of (atI_n (x := ak.row) (by rw [List.getElem?_map, hak]; rfl)) ?_
  refine ixT (k := 1) (x := .tup (ak.fits.map D.str)) rfl ?_
  simp only [withI_t]
  refine for_inv (fun i ρ m' => ∃ (came' : List (Str × Nat)) (src' : List (Nat × Str)) (x7 x8 : Option D), m' = rst m c s q k came' src' ∧ ρ = [some (.ref j), some (.int (k : Nat)), some (.ref c), some (.ref s), some (.ref q), x5, some (.int (at_ : Nat)), x7, x8] ∧ RI rows.length (fitsN rows) (hv hl) k came' src' ∧ (∃ t, src' = src ++ t) ∧ (∃ t, came' = came ++ t) ∧ (∀ p ∈ came', Dn (sv fr) (hv hl) (lineOf k src') p.1) ∧ ∀ x ∈ ak.fits.take i, x ∈ came'.map (·.1))
    ⟨came, src, x7, x8, rfl, rfl, ri, ⟨[], by simp⟩, ⟨[], by simp⟩, dn, by simp⟩ (fun _ _ _ _ => trivial) (fun i d ρ m' ei p k2 hk2 => ?_) fun ρ m' p => ?_
  · obtain ⟨came', src', x7, x8, rfl, rfl, ri', hsrc, hcame, dn', hx⟩ := p
    rw [List.getElem?_map] at ei
    cases e : ak.fits[i]? with
    | none => rw [e] at ei; cases ei
    | some x =>
      rw [e] at ei
      obtain rfl := Option.some.inj ei
      have ht1 : ak.fits.take (i + 1) = ak.fits.take i ++ [x] := by rw [List.take_succ, e]; rfl
      have hxf : x ∈ fitsN rows at_ := by rw [fits_row hak]; exact List.mem_of_getElem? e
      have hatl := line_more hsrc hat
      unfold t_Giving_reached_8
      walk_at "nf"
      rw [look_str (st3_ac cs cq), dval_cen]
      walk_at "nf"
      cases q2 : dval came' x with
      | some y =>
        refine br_f rfl ?_
        refine hk2 _ _ ⟨came', src', _, _, rfl, rfl, ri', hsrc, hcame, dn', fun v hv => ?_⟩
        rw [ht1] at hv
        rcases List.mem_append.mp hv with hv | hv
        · exact hx v hv
        · rw [List.mem_singleton.mp hv]; exact List.mem_map.mpr ⟨_, dval_mem q2, rfl⟩
      | none =>
        have hnew := dval_none_iff.mp q2
        refine br_t rfl ?_
        unfold t_Giving_reached_7 t_Giving_reached_6 t_Giving_reached_5
        walk_at "nf"
        refine store_str (st3_ac cs cq) (by
          have := came_len ri' z.n (fitsN_len z)
          unfold cen; rw [List.length_map]; unfold sizeLine; omega) ?_
        rw [dput_cen, dput_new hnew, st3_c cs cq]
        have ri2 := ri'.kind hnew hxf hatl
        refine fld_free T (a' _ _) ?_
        refine And.intro (isDic_dK (a' _ _).f) ?_
        rw [look_str (a' _ _).f, dval_stk]
        walk_at "nf"
        have e2 : ((dval fr x).map D.int).getD (.int 0) = .int (sv fr x) := by unfold sv; cases dval fr x <;> rfl
        rw [e2]
        by_cases q3 : 0 < sv fr x
        · refine br_t (decide_eq_true q3) ?_
          refine And.intro (by decide) ?_
          exact ret _ _ x ri2 q3 (by simp)
        · refine br_f (decide_eq_false q3) ?_
          refine rch4 _ a z hc hs hq cs cq sq ri2 (at_ := at_) (by simp) hatl fun src2 x8 ri3 hs2 hall => ?_
          refine hk2 _ _ ⟨came' ++ [(x, at_)], src2, _, _, rfl, rfl, ri3, ?_, ?_, fun p hp => ?_, fun v hv => ?_⟩
          · obtain ⟨t1, h1⟩ := hsrc; obtain ⟨t2, h2⟩ := hs2
            exact ⟨t1 ++ t2, by rw [h2, h1]; simp⟩
          · obtain ⟨t1, h1⟩ := hcame
            exact ⟨t1 ++ [(x, at_)], by rw [h1]; simp⟩
          · rcases List.mem_append.mp hp with hp | hp
            · exact ⟨(dn' p hp).1, fun i hi => line_more hs2 ((dn' p hp).2 i hi)⟩
            · rw [List.mem_singleton.mp hp]
              exact ⟨Int.not_lt.mp q3, hall⟩
          · rw [List.map_append]
            rw [ht1] at hv
            rcases List.mem_append.mp hv with hv | hv
            · exact List.mem_append.mpr (.inl (hx v hv))
            · rw [List.mem_singleton.mp hv]; simp
  · obtain ⟨came', src', x7, x8, rfl, rfl, ri', hsrc, hcame, dn', hx⟩ := p
    rw [List.length_map, List.take_length] at hx
    exact fin_ came' src' x7 x8 ri' hsrc hcame dn' hx
end
end HL

namespace HL
open PySem L2 DL DM
local macro_rules | `(tactic| walk_at "nf") => `(tactic| try simp only [dSeq, dIfS, dOr, dAnd, dNot, dTest, dCB, dCons, dNil, dVar, dC, dRet, dRetN, dNext, dAsg, gN, gt2, dOp, dUn, dAndV, dOrV, dNotV, dIf, dLst, dTup, dCall, dMeth, dProp, dMake, dFld, dSl, dPart, dNoPart, dDrop, dPar, dPar3, dBm, dRev, dSetF, dBits, gSet, gTup', gCons', gNil', dDGet, dDIn, dDGet2, dDGet1, dDPut, dNewK, dNewT, iL_eq, iEn, on1, on2, onO_some, addI, subI, intC, onI_i, onS_s, onB_b, iT, iR1, iR2, dLc, dFor, lcBody, dLc2_eq, lcBody2, dDc, dcBody, dYes, wipeD, atE, startD, List.map_cons, List.map_nil, List.length_cons, List.length_nil, List.cons_append, List.nil_append, List.replicate, List.getElem?_cons_zero, List.getElem?_cons_succ, List.set_cons_zero, List.set_cons_succ, Nat.reduceSub, Nat.reduceAdd, Nat.reduceEqDiff, if_true, if_false])
theorem seq_nx {t u : TDS} {F : DEn} {ρ : REnv} {m : Mu} (h : t { F with nx := u F } ρ m) : dSeq t u F ρ m := h
theorem take_succ_mem {l : List Nat} {p i a : Nat} (e : l[p]? = some a) (h : i ∈ l.take (p + 1)) : i ∈ l.take p ∨ i = a := by
  rw [List.take_succ, e] at h
  rcases List.mem_append.mp h with h | h
  · exact .inl h
  · exact .inr (by simpa using h)
theorem pure_Giving_reached {K : PySem.W.Frag} (T : HFG K) (ds : List D) (m : Mu) (G : DK) (h : S_Giving_reached K ds m G) : t_Giving_reached K (S_Giving_holders K) { nx := fun _ m' => Fin G .non m', rt := Fin G } (startD 9 ds) m := by
  obtain ⟨j, f, h', g, rows, wants, fr, hl, got, k, rfl, a, ⟨z, hk⟩, h⟩ := h
  unfold t_Giving_reached
  refine seq_nx ?_
  unfold t_Giving_reached_13
  walk_at "nf"
  refine Or.inr fun c hc => ?_
  refine Or.inr fun s hs => ?_
  refine And.intro (by decide) ?_
  refine Or.inr fun q hq => ?_
  have sc : s ≠ c := fun e => by rw [e, mset_same] at hs; cases hs
  have hs0 : m s = none := by rw [mset_ne sc] at hs; exact hs
  have qs : q ≠ s := fun e => by rw [e, mset_same] at hq; cases hq
  have hq1 : mset m c (.dK []) q = none := by rw [mset_ne qs] at hq; exact hq
  have qc : q ≠ c := fun e => by rw [e, mset_same] at hq1; cases hq1
  have hq0 : m q = none := by rw [mset_ne qc] at hq1; exact hq1
  have dropq : ∀ came src, Sub (mset (mset m c (.dK (cen came))) s (.dK (sen src))) (rst m c s q k came src) := fun came src => sub_mset (by rw [mset_ne qs, mset_ne qc]; exact hq0)
  refine And.intro (by decide) ?_
  refine And.intro trivial ?_
  show dSeq (t_Giving_reached_12 K (S_Giving_holders K)) (t_Giving_reached_0 K (S_Giving_holders K)) _ [some (.ref j), some (.int (k : Nat)), some (.ref c), some (.ref s), some (.ref q), some (.int ((0 : Nat) : Int)), none, none, none] (rst m c s q k [] [])
  refine seq_nx ?_
  unfold t_Giving_reached_12
  refine ⟨fun kk ρ m' => ∃ (came : List (Str × Nat)) (src : List (Nat × Str)) (p : Nat) (x6 x7 x8 : Option D), m' = rst m c s q k came src ∧ ρ = [some (.ref j), some (.int (k : Nat)), some (.ref c), some (.ref s), some (.ref q), some (.int (p : Nat)), x6, x7, x8] ∧
      RI rows.length (fitsN rows) (hv hl) k came src ∧ p ≤ (lineOf k src).length ∧ (∀ y ∈ came, Dn (sv fr) (hv hl) (lineOf k src) y.1) ∧ (∀ i ∈ (lineOf k src).take p, ∀ x ∈ fitsN rows i, x ∈ came.map (·.1)) ∧ kk = rows.length + 1 - p,
    ⟨_, [], [], 0, none, none, none, rfl, rfl, ⟨by simp [lineOf], fun i hi => by simp [lineOf] at hi; omega, by simp, by simp, fun i j x e => by simp at e⟩, Nat.zero_le _, by simp, by simp, rfl⟩, ?_⟩
  rintro kk ρ m' ⟨came, src, p, x6, x7, x8, rfl, rfl, ri, hp, dn, cov, rfl⟩
  have lsz := nodup_lt ri.nd ri.lt
  walk_at "nf"
  refine lenR_of (lstOf_ref st3_aq) ?_
  rw [List.length_map]
  walk_at "nf"
  by_cases q1 : p < (lineOf k src).length
  · refine br_t (decide_eq_true (by omega)) ?_
    obtain ⟨i, hi⟩ : ∃ i, (lineOf k src)[p]? = some i := ⟨_, List.getElem?_eq_getElem q1⟩
    have himem := List.mem_of_getElem? hi
    have hil := ri.lt i himem
    obtain ⟨ak, hak⟩ : ∃ ak, rows[i]? = some ak := ⟨_, List.getElem?_eq_getElem hil⟩
    unfold t_Giving_reached_11 t_Giving_reached_10
    walk_at "nf"
    refine ⟨_, st3_aq, onO_of (atI_n (x := D.int (i : Nat)) (by rw [List.getElem?_map, hi]; rfl)) ?_⟩
    rw [show ((p : Nat) : Int) + 1 = ((p + 1 : Nat) : Int) by omega]
    refine rch9 T _ a z hc hs0 hq0 (Ne.symm sc) (Ne.symm qc) (Ne.symm qs) hak ri himem dn (fun came' src' x ri' h1 h2 => ?_) (fun came' src' x7 x8 ri' hsrc hcame dn' hall => ?_)
    · exact fin_drop (dropq came' src') (h c s came' src' (some x) hc hs0 (Ne.symm sc) ⟨ri', fun y e => by cases e; exact ⟨h1, h2⟩, fun e => nomatch e⟩)
    · refine ⟨rows.length + 1 - (p + 1), by omega, came', src', p + 1, _, x7, x8, rfl, rfl, ri', ?_, dn', fun u hu x hx => ?_, rfl⟩
      · obtain ⟨t, ht⟩ := line_pre (k := k) hsrc
        rw [ht, List.length_append]; omega
      · obtain ⟨t, ht⟩ := line_pre (k := k) hsrc
        rw [ht, List.take_append_of_le_length (by omega)] at hu
        obtain ⟨t2, ht2⟩ := hcame
        rcases take_succ_mem hi hu with hu | rfl
        · rw [ht2, List.map_append]
          exact List.mem_append.mpr (.inl (cov u hu x hx))
        · rw [fits_row hak] at hx
          exact hall x hx
  · refine br_f (decide_eq_false (by omega)) ?_
    have ep : p = (lineOf k src).length := by omega
    unfold t_Giving_reached_0
    walk_at "nf"
    refine And.intro (by decide) ?_
    refine fin_drop (dropq came src) (h c s came src none hc hs0 (Ne.symm sc) ⟨ri, fun x e => (nomatch e), fun _ u hu x hx => ?_⟩)
    rw [ep, List.take_length] at cov
    obtain ⟨y, hy, e⟩ := List.mem_map.mp (cov u hu x hx)
    have := dn y hy
    rw [e] at this
    exact this
end HL

namespace HL
open PySem L2 DL DM
local macro_rules | `(tactic| walk_at "nf") => `(tactic| try simp only [dSeq, dIfS, dOr, dAnd, dNot, dTest, dCB, dCons, dNil, dVar, dC, dRet, dRetN, dNext, dAsg, gN, gt2, dOp, dUn, dAndV, dOrV, dNotV, dIf, dLst, dTup, dCall, dMeth, dProp, dMake, dFld, dSl, dPart, dNoPart, dDrop, dPar, dPar3, dBm, dRev, dSetF, dBits, gSet, gTup', gCons', gNil', dDGet, dDIn, dDGet2, dDGet1, dDPut, dNewK, dNewT, iL_eq, iEn, on1, on2, onO_some, addI, subI, intC, onI_i, onS_s, onB_b, iT, iR1, iR2, dLc, dFor, lcBody, dLc2_eq, lcBody2, dDc, dcBody, dYes, wipeD, atE, startD, List.map_cons, List.map_nil, List.length_cons, List.length_nil, List.cons_append, List.nil_append, List.replicate, List.getElem?_cons_zero, List.getElem?_cons_succ, List.set_cons_zero, List.set_cons_succ, Nat.reduceSub, Nat.reduceAdd, Nat.reduceEqDiff, if_true, if_false])
/-! ### the way to a free bag -/
def wd (p : Nat × Str) : D := .tup [.int (p.1 : Nat), .str p.2]
structure Wy (rows : List Ak) (g : GV.GS Str) (k : Nat) (way : List (Nat × Str)) : Prop where
  hd : ∃ x r, way = (k, x) :: r
  wy : GV.IsWay (fitsN rows) g way
  nd : (way.map (·.1)).Nodup
  lt : ∀ p ∈ way, p.1 < rows.length
structure Stuck (rows : List Ak) (g : GV.GS Str) (k : Nat) (line : List Nat) : Prop where
  kin : k ∈ line
  lt : ∀ i ∈ line, i < rows.length
  dn : ∀ i ∈ line, ∀ x ∈ fitsN rows i, Dn g.free g.hold line x
  hd : ∀ i ∈ line, i = k ∨ ∃ x, 0 < g.hold i x
def S_Giving_steps (K : PySem.W.Frag) : SpD := fun ds m F => ∃ (j f h g : Nat) (rows : List Ak) (wants : List Int) (fr : Stk) (hl : Hld) (got : List Int) (k : Nat), ds = [.ref j, .int (k : Nat)] ∧ GA K m j f h g rows wants fr hl got ∧ (GZ rows fr hl ∧ k < rows.length) ∧
  (∀ line, Stuck rows (gsOf fr hl got) k line → F .non m) ∧ ∀ way, Wy rows (gsOf fr hl got) k way → F (.lst (way.map wd)) m
theorem nodup_take {l : List Nat} {p : Nat} {b : Nat} (nd : l.Nodup) (h : l[p]? = some b) : b ∉ l.take p := fun hm => by
  obtain ⟨hl, e⟩ := List.getElem?_eq_some_iff.mp h
  obtain ⟨i, hi⟩ := List.getElem?_of_mem hm
  rw [List.getElem?_take] at hi
  split at hi
  · rename_i hip
    obtain ⟨hl2, e2⟩ := List.getElem?_eq_some_iff.mp hi
    have := (List.getElem_inj (h₀ := hl2) (h₁ := hl) nd).mp (e2.trans e.symm)
    omega
  · cases hi
theorem src_nodup {k : Nat} {src : List (Nat × Str)} (h : (lineOf k src).Nodup) : (src.map (·.1)).Nodup := (List.nodup_cons.mp h).2
theorem pure_Giving_steps {K : PySem.W.Frag} (ds : List D) (m : Mu) (G : DK) (h : S_Giving_steps K ds m G) : t_Giving_steps K (S_Giving_reached K) { nx := fun _ m' => Fin G .non m', rt := Fin G } (startD 6 ds) m := by
  obtain ⟨j, f, h', g, rows, wants, fr, hl, got, k, rfl, a, ⟨z, hk⟩, hstuck, hway⟩ := h
  unfold t_Giving_steps
  refine seq_nx ?_
  unfold t_Giving_steps_5
  walk_at "nf"
  refine ⟨_, _, insOf_ref a.j, by decide, j, f, h', g, rows, wants, fr, hl, got, k, rfl, a, ⟨z, hk⟩, fun c s came src kd hc hs cs R => ?_⟩
  have ri := R.ri
  have hs1 : mset m c (.dK (cen came)) s = none := by rw [mset_ne (Ne.symm cs)]; exact hs
  have sub : Sub m (mset (mset m c (.dK (cen came))) s (.dK (sen src))) := fun i o e => sub_mset hs1 i o (sub_mset hc i o e)
  have ec : mset (mset m c (.dK (cen came))) s (.dK (sen src)) c = some (.dK (cen came)) := by rw [mset_ne cs, mset_same]
  have es : mset (mset m c (.dK (cen came))) s (.dK (sen src)) s = some (.dK (sen src)) := mset_same
  generalize mset (mset m c (.dK (cen came))) s (.dK (sen src)) = M at sub ec es
  walk_at "nf"
  refine And.intro trivial ?_
  show dSeq (t_Giving_steps_4 K (S_Giving_reached K)) (dSeq (t_Giving_steps_3 K (S_Giving_reached K)) (dSeq (t_Giving_steps_2 K (S_Giving_reached K)) (dRet (dVar 2)))) _ [some (.ref j), some (.int (k : Nat)), none, some (.ref c), some (.ref s), some (optS kd)] M
  refine seq_nx ?_
  unfold t_Giving_steps_4
  cases kd with
  | none =>
    refine br_t rfl ?_
    exact fin_drop sub (hstuck (lineOf k src) ⟨List.mem_cons_self, ri.lt, R.none_ rfl, fun i hi => by
      rcases List.mem_cons.mp hi with w | w
      · exact .inl w
      · obtain ⟨p, hp, rfl⟩ := List.mem_map.mp w
        obtain ⟨u, hu⟩ := List.getElem?_of_mem hp
        exact .inr ⟨p.2, (ri.sin u p.1 p.2 hu).1⟩⟩)
  | some x =>
    obtain ⟨hfree, hxc⟩ := R.some_ x rfl
    refine br_f rfl ?_
    have look_came : ∀ {x : Str} {b : Nat}, (x, b) ∈ came → look M (.ref c) (.str x) = some (some (.int (b : Nat))) := fun {x b} hm => by
      rw [look_str ec, dval_cen, dval_of_mem ri.cnd hm]; rfl
    obtain ⟨⟨x', b⟩, hxb, rfl⟩ := List.mem_map.mp hxc
    obtain ⟨hfit, hbl⟩ := ri.cin _ hxb
    show dSeq (t_Giving_steps_3 K (S_Giving_reached K)) (dSeq (t_Giving_steps_2 K (S_Giving_reached K)) (dRet (dVar 2))) _ [some (.ref j), some (.int (k : Nat)), none, some (.ref c), some (.ref s), some (.str x')] M
    refine seq_nx ?_
    unfold t_Giving_steps_3
    walk_at "nf"
    rw [look_came hxb]
    walk_at "nf"
    refine And.intro (by decide) ?_
    refine And.intro (by decide) (new_l ?_)
    show dSeq (t_Giving_steps_2 K (S_Giving_reached K)) (dRet (dVar 2)) _ [some (.ref j), some (.int (k : Nat)), some (.lst ([(b, x')].map wd)), some (.ref c), some (.ref s), some (.str x')] M
    refine seq_nx ?_
    unfold t_Giving_steps_2
    obtain ⟨p0, hp0⟩ := List.getElem?_of_mem hbl
    refine ⟨fun kk ρ m' => m' = M ∧ ∃ (b : Nat) (y : Str) (r : List (Nat × Str)) (x5 : Option D), ρ = [some (.ref j), some (.int (k : Nat)), some (.lst (((b, y) :: r).map wd)), some (.ref c), some (.ref s), x5] ∧ (lineOf k src)[kk]? = some b ∧ GV.IsWay (fitsN rows) (gsOf fr hl got) ((b, y) :: r) ∧
        (((b, y) :: r).map (·.1)).Nodup ∧ (∀ p ∈ r, p.1 ∉ (lineOf k src).take (kk + 1)) ∧ (∀ p ∈ (b, y) :: r, p.1 < rows.length) ∧ r.length + kk < 60,
      ⟨p0, rfl, b, x', [], _, rfl, hp0, ⟨hfit, hfree⟩, by simp, by simp, fun p hp => by rw [List.mem_singleton.mp hp]; exact ri.lt b hbl, ?_⟩, ?_⟩
    · have := nodup_lt ri.nd ri.lt
      have := (List.getElem?_eq_some_iff.mp hp0).1
      have := z.n
      simp only [List.length_nil]; omega
    rintro kk ρ m' ⟨rfl, b, y, r, x5, rfl, hb, hw, nd, hr, hlt, hsz⟩
    walk_at "nf"
    refine ixL (k := 0) (x := wd (b, y)) rfl ?_
    refine ixT (k := 0) (x := .int (b : Nat)) rfl ?_
    refine And.intro ⟨okP_int _, okP_int _⟩ ?_
    by_cases q : b = k
    · refine br_f (by rw [nat_ne, decide_eq_true q]; rfl) ?_
      subst q
      exact fin_drop sub (hway ((b, y) :: r) ⟨⟨y, r, rfl⟩, hw, nd, hlt⟩)
    · refine br_t (by rw [nat_ne, decide_eq_false q]; rfl) ?_
      unfold t_Giving_steps_1 t_Giving_steps_0
      walk_at "nf"
      refine ixL (k := 0) (x := wd (b, y)) rfl ?_
      refine ixT (k := 0) (x := .int (b : Nat)) rfl ?_
      cases kk with
      | zero =>
        have e0 : some k = some b := hb
        exact absurd (Option.some.inj e0).symm q
      | succ i =>
        have hb2 : (src.map (·.1))[i]? = some b := hb
        rw [List.getElem?_map] at hb2
        cases e : src[i]? with
        | none => rw [e] at hb2; cases hb2
        | some pr =>
          rw [e] at hb2
          obtain ⟨b', x⟩ := pr
          obtain rfl : b' = b := Option.some.inj hb2
          obtain ⟨hh, a2, hc2, ha2⟩ := ri.sin i b' x e
          rw [look_int es, dval_sen, dval_of_mem (src_nodup ri.nd) (List.mem_of_getElem? e)]
          simp only [Option.map_some]
          walk_at "nf"
          rw [look_came hc2]
          walk_at "nf"
          refine And.intro (by decide) ?_
          refine And.intro (by decide) (new_l ?_)
          refine add_lst (by simp only [List.length_map, List.length_cons, List.length_nil]; unfold sizeLine; omega) ?_
          obtain ⟨p2, hp2⟩ := List.getElem?_of_mem ha2
          rw [List.getElem?_take] at hp2
          split at hp2
          · rename_i hlt2
            refine ⟨p2, hlt2, rfl, a2, x, (b', y) :: r, _, rfl, hp2, ⟨(ri.cin _ hc2).1, hh, hw⟩, ?_, ?_, ?_, ?_⟩
            · rw [List.map_cons]
              refine List.nodup_cons.mpr ⟨fun hm => ?_, nd⟩
              have hm : a2 ∈ ((b', y) :: r).map (·.1) := hm
              obtain ⟨p, hp, e2⟩ := List.mem_map.mp hm
              rcases List.mem_cons.mp hp with rfl | hp
              · have e2 : b' = a2 := e2
                exact nodup_take ri.nd hb (by rw [e2]; exact ha2)
              · refine hr p hp ?_
                rw [e2, List.take_succ]
                exact List.mem_append.mpr (.inl ha2)
            · intro p hp hm
              have hm2 : p.1 ∈ (lineOf k src).take (i + 1) := by
                have : (lineOf k src).take (p2 + 1) = ((lineOf k src).take (i + 1)).take (p2 + 1) := by rw [List.take_take, Nat.min_eq_left (by omega)]
                rw [this] at hm
                exact List.mem_of_mem_take hm
              rcases List.mem_cons.mp hp with rfl | hp
              · exact nodup_take ri.nd hb hm2
              · refine hr p hp ?_
                rw [List.take_succ]
                exact List.mem_append.mpr (.inl hm2)
            · intro p hp
              rcases List.mem_cons.mp hp with rfl | hp
              · exact ri.lt a2 (List.mem_of_mem_take ha2)
              · exact hlt p hp
            · rw [List.length_cons]; omega
          · cases hp2
end HL

namespace HL
open PySem L2 DL DM
local macro_rules | `(tactic| walk_at "nf") => `(tactic| try simp only [dSeq, dIfS, dOr, dAnd, dNot, dTest, dCB, dCons, dNil, dVar, dC, dRet, dRetN, dNext, dAsg, gN, gt2, dOp, dUn, dAndV, dOrV, dNotV, dIf, dLst, dTup, dCall, dMeth, dProp, dMake, dFld, dSl, dPart, dNoPart, dDrop, dPar, dPar3, dBm, dRev, dSetF, dBits, gSet, gTup', gCons', gNil', dDGet, dDIn, dDGet2, dDGet1, dDPut, dNewK, dNewT, iL_eq, iEn, on1, on2, onO_some, addI, subI, intC, onI_i, onS_s, onB_b, iT, iR1, iR2, dLc, dFor, lcBody, dLc2_eq, lcBody2, dDc, dcBody, dYes, wipeD, atE, startD, List.map_cons, List.map_nil, List.length_cons, List.length_nil, List.cons_append, List.nil_append, List.replicate, List.getElem?_cons_zero, List.getElem?_cons_succ, List.set_cons_zero, List.set_cons_succ, Nat.reduceSub, Nat.reduceAdd, Nat.reduceEqDiff, if_true, if_false])
/-! ### bags moved along a way -/
def addH (hl : Hld) (l : List (Nat × Str)) (v : Int) : Hld := l.foldl (fun acc p => dput acc p (hv acc p.1 p.2 + v)) hl
theorem addH_cons (hl : Hld) (p : Nat × Str) (l : List (Nat × Str)) (v : Int) : addH hl (p :: l) v = addH (dput hl p (hv hl p.1 p.2 + v)) l v := rfl
theorem hv_add (v : Int) (i : Nat) (x : Str) : ∀ (l : List (Nat × Str)) (hl : Hld), hv (addH hl l v) i x = hv hl i x + v * (l.count (i, x) : Nat)
  | [], hl => by simp [addH]
  | p :: l, hl => by
    rw [addH_cons, hv_add v i x l, hv_put]
    by_cases e : (i, x) = p
    · subst e
      rw [if_pos rfl, List.count_cons_self]
      have : v * (((l.count (i, x) + 1 : Nat)) : Int) = v * ((l.count (i, x) : Nat) : Int) + v := by rw [Int.natCast_add, Int.mul_add]; simp
      show hv hl i x + v + v * ((l.count (i, x) : Nat) : Int) = _
      omega
    · rw [if_neg e, List.count_cons_of_ne (fun z => e z.symm)]
theorem addH_keys (v : Int) : ∀ (l : List (Nat × Str)) (hl : Hld), (∀ q ∈ hl.map (·.1), q ∈ (addH hl l v).map (·.1)) ∧ (∀ q ∈ (addH hl l v).map (·.1), q ∈ hl.map (·.1) ∨ q ∈ l) ∧ ((hl.map (·.1)).Nodup → ((addH hl l v).map (·.1)).Nodup)
  | [], hl => ⟨fun _ h => h, fun _ h => .inl h, fun h => h⟩
  | p :: l, hl => by
    obtain ⟨h1, h2, h3⟩ := addH_keys v l (dput hl p (hv hl p.1 p.2 + v))
    rw [addH_cons]
    have k := dput_keys hl p (hv hl p.1 p.2 + v)
    refine ⟨fun q hq => h1 q ?_, fun q hq => ?_, fun nd => h3 (dput_nodup nd)⟩
    · rw [k]; split
      · exact hq
      · exact List.mem_append.mpr (.inl hq)
    · rcases h2 q hq with z | z
      · rw [k] at z
        split at z
        · exact .inl z
        · rcases List.mem_append.mp z with z | z
          · exact .inl z
          · exact .inr (by rw [List.mem_singleton.mp z]; exact List.mem_cons_self)
      · exact .inr (List.mem_cons_of_mem _ z)
theorem hld_len {rows : List Ak} {fr : Stk} {hl : Hld} (z : GZ rows fr hl) : hl.length < 4000 := by
  have h1 : hl.length ≤ ((List.range rows.length).flatMap fun i => (fitsN rows i).map fun x => (i, x)).length := by
    have sub : ∀ (a b : List (Nat × Str)), a.Nodup → (∀ x ∈ a, x ∈ b) → a.length ≤ b.length := by
      intro a
      induction a with
      | nil => intro b _ _; exact Nat.zero_le _
      | cons x r ih =>
        intro b nd h
        obtain ⟨n1, n2⟩ := List.nodup_cons.mp nd
        have hx := h x List.mem_cons_self
        have i2 := ih (b.erase x) n2 fun y hy => (List.mem_erase_of_ne (a := y) (b := x) (fun z : y = x => n1 (z ▸ hy))).mpr (h y (List.mem_cons_of_mem _ hy))
        rw [List.length_erase_of_mem hx] at i2
        have := List.length_pos_of_mem hx
        rw [List.length_cons]; omega
    have := sub (hl.map (·.1)) ((List.range rows.length).flatMap fun i => (fitsN rows i).map fun x => (i, x)) z.nd fun q hq => by
      obtain ⟨p, hp, rfl⟩ := List.mem_map.mp hq
      obtain ⟨h3, h4⟩ := z.inn p hp
      exact List.mem_flatMap.mpr ⟨p.1.1, List.mem_range.mpr h3, List.mem_map.mpr ⟨p.1.2, h4, rfl⟩⟩
    rw [List.length_map] at this; exact this
  have h2 : ∀ n, ((List.range n).flatMap fun i => (fitsN rows i).map fun x => (i, x)).length ≤ n * 60 := by
    intro n
    induction n with
    | zero => simp
    | succ n ih =>
      rw [List.range_succ, List.flatMap_append, List.length_append]
      simp only [List.flatMap_cons, List.flatMap_nil, List.append_nil, List.length_map]
      have := fitsN_len z n
      omega
  have := h2 rows.length
  have := z.n
  omega
theorem GZ.put {rows : List Ak} {fr : Stk} {hl : Hld} (z : GZ rows fr hl) {p : Nat × Str} {v : Int} (hp : p.1 < rows.length ∧ p.2 ∈ fitsN rows p.1) : GZ rows fr (dput hl p v) :=
  ⟨z.n, z.fl, z.fn, z.fr, dput_nodup z.nd, fun q hq => by
    rcases dput_mem hq with rfl | hq
    · exact hp
    · exact z.inn q hq⟩
theorem dval_some {hl : Hld} {p : Nat × Str} (h : p ∈ hl.map (·.1)) : dval hl p = some (hv hl p.1 p.2) := by
  have q : ∃ v, dval hl p = some v := by
    cases q : dval hl p with
    | none => exact absurd h (dval_none_iff.mp q)
    | some v => exact ⟨v, rfl⟩
  obtain ⟨v, q⟩ := q
  have e : hv hl p.1 p.2 = v := by
    show (dval hl p).getD 0 = v
    rw [q]; rfl
  rw [q, e]
theorem key_of_hv {hl : Hld} {i : Nat} {x : Str} (h : 0 < hv hl i x) : (i, x) ∈ hl.map (·.1) := by
  unfold hv at h
  cases q : dval hl (i, x) with
  | none => rw [q] at h; simp at h
  | some v => exact List.mem_map.mpr ⟨_, dval_mem q, rfl⟩
/-! ### what is handed back along a way -/
theorem givenOf_at : ∀ (way : List (Nat × Str)), GV.givenOf way = (List.range (way.length - 1)).map fun i => ((way.getD (i + 1) (0, "")).1, (way.getD i (0, "")).2)
  | [] => rfl
  | [_] => rfl
  | (a, x) :: (b, y) :: r => by
    rw [GV.givenOf, givenOf_at ((b, y) :: r)]
    simp only [List.length_cons, Nat.add_sub_cancel]
    rw [List.range_succ_eq_map, List.map_cons, List.map_map]
    rfl
theorem way_holds {fits : Nat → List Str} {g : GV.GS Str} : ∀ {a : Nat} {x : Str} {r : List (Nat × Str)}, GV.IsWay fits g ((a, x) :: r) → ∀ p ∈ r, ∃ y, 0 < g.hold p.1 y
  | a, x, [], _, p, hp => by cases hp
  | a, x, (b, y) :: r, h, p, hp => by
    rcases List.mem_cons.mp hp with rfl | hp
    · exact ⟨x, h.2.1⟩
    · exact way_holds h.2.2 p hp
theorem way_free {fits : Nat → List Str} {g : GV.GS Str} : ∀ {a : Nat} {x : Str} {r : List (Nat × Str)}, GV.IsWay fits g ((a, x) :: r) → 0 < g.free (((a, x) :: r).getLast (by simp)).2
  | a, x, [], h => h.2
  | a, x, (b, y) :: r, h => by
    have := way_free h.2.2
    rw [List.getLast_cons (by simp)]
    exact this
theorem nodup_of_map {α β : Type} (f : α → β) {l : List α} (h : (l.map f).Nodup) : l.Nodup := by
  induction l with
  | nil => exact List.nodup_nil
  | cons a l ih =>
    rw [List.map_cons] at h
    obtain ⟨h1, h2⟩ := List.nodup_cons.mp h
    exact List.nodup_cons.mpr ⟨fun z => h1 (List.mem_map.mpr ⟨a, z, rfl⟩), ih h2⟩
theorem given_nd {k : Nat} {x : Str} {r : List (Nat × Str)} (nd : (((k, x) :: r).map (·.1)).Nodup) : (GV.givenOf ((k, x) :: r)).Nodup := by
  rw [GV.given_fst] at nd
  exact nodup_of_map _ (List.nodup_cons.mp nd).2
theorem atI_last {α : Type} {xs : List α} (h : xs ≠ []) : atI xs (-1) = some (xs.getLast h) := by
  have hl : 0 < xs.length := List.length_pos_iff.mpr h
  unfold atI
  have e : ixN xs.length (-1) = some (xs.length - 1) := by
    unfold ixN
    rw [if_neg (by decide), if_pos (by omega)]
    congr 1
    omega
  rw [e]
  simp [List.getLast_eq_getElem, hl]
end HL

namespace HL
open PySem L2 DL DM
local macro_rules | `(tactic| walk_at "nf") => `(tactic| try simp only [dSeq, dIfS, dOr, dAnd, dNot, dTest, dCB, dCons, dNil, dVar, dC, dRet, dRetN, dNext, dAsg, gN, gt2, dOp, dUn, dAndV, dOrV, dNotV, dIf, dLst, dTup, dCall, dMeth, dProp, dMake, dFld, dSl, dPart, dNoPart, dDrop, dPar, dPar3, dBm, dRev, dSetF, dBits, gSet, gTup', gCons', gNil', dDGet, dDIn, dDGet2, dDGet1, dDPut, dNewK, dNewT, iL_eq, iEn, on1, on2, onO_some, addI, subI, intC, onI_i, onS_s, onB_b, iT, iR1, iR2, dLc, dFor, lcBody, dLc2_eq, lcBody2, dDc, dcBody, dYes, wipeD, atE, startD, List.map_cons, List.map_nil, List.length_cons, List.length_nil, List.cons_append, List.nil_append, List.replicate, List.getElem?_cons_zero, List.getElem?_cons_succ, List.set_cons_zero, List.set_cons_succ, Nat.reduceSub, Nat.reduceAdd, Nat.reduceEqDiff, if_true, if_false])
theorem addH_snoc (hl : Hld) (l : List (Nat × Str)) (p : Nat × Str) (v : Int) : addH hl (l ++ [p]) v = dput (addH hl l v) p (hv (addH hl l v) p.1 p.2 + v) := by
  unfold addH
  rw [List.foldl_append]; rfl
section
variable {K : PySem.W.Frag} {m : Mu} {j f h g : Nat} {rows : List Ak} {wants : List Int} {fr : Stk} {hl : Hld} {got : List Int}
theorem ne_obj {m : Mu} {i k : Nat} {o u : MO} (h1 : m i = some o) (h2 : m k = some u) (h : o ≠ u) : i ≠ k := fun e => by
  subst e; rw [h1] at h2; exact h (Option.some.inj h2)
theorem GA.jf (a : GA K m j f h g rows wants fr hl got) : j ≠ f := ne_obj a.j a.f (by intro z; cases z)
theorem GA.jh (a : GA K m j f h g rows wants fr hl got) : j ≠ h := ne_obj a.j a.h (by intro z; cases z)
theorem GA.jg (a : GA K m j f h g rows wants fr hl got) : j ≠ g := ne_obj a.j a.g (by intro z; cases z)
theorem GA.fh (a : GA K m j f h g rows wants fr hl got) : f ≠ h := ne_obj a.f a.h (by intro z; cases z)
theorem GA.fg (a : GA K m j f h g rows wants fr hl got) : f ≠ g := ne_obj a.f a.g (by intro z; cases z)
theorem GA.hg (a : GA K m j f h g rows wants fr hl got) : h ≠ g := ne_obj a.h a.g (by intro z; cases z)
theorem GA.putF (a : GA K m j f h g rows wants fr hl got) (fr' : Stk) : GA K (mset m f (.dK (stk fr'))) j f h g rows wants fr' hl got :=
  ⟨by rw [mset_ne a.jf]; exact a.j, mset_same, by rw [mset_ne (Ne.symm a.fh)]; exact a.h, by rw [mset_ne (Ne.symm a.fg)]; exact a.g⟩
theorem GA.putH (a : GA K m j f h g rows wants fr hl got) (hl' : Hld) : GA K (mset m h (.dT (hen hl'))) j f h g rows wants fr hl' got :=
  ⟨by rw [mset_ne a.jh]; exact a.j, by rw [mset_ne a.fh]; exact a.f, mset_same, by rw [mset_ne (Ne.symm a.hg)]; exact a.g⟩
theorem GA.putG (a : GA K m j f h g rows wants fr hl got) (got' : List Int) : GA K (mset m g (.lst (got'.map D.int))) j f h g rows wants fr hl got' :=
  ⟨by rw [mset_ne a.jg]; exact a.j, by rw [mset_ne a.fg]; exact a.f, by rw [mset_ne a.hg]; exact a.h, mset_same⟩
theorem GZ.add {l : List (Nat × Str)} {v : Int} (z : GZ rows fr hl) (h : ∀ p ∈ l, p.1 < rows.length ∧ p.2 ∈ fitsN rows p.1) : GZ rows fr (addH hl l v) := by
  induction l generalizing hl with
  | nil => exact z
  | cons p l ih => exact ih (z.put (h p List.mem_cons_self)) fun q hq => h q (List.mem_cons_of_mem _ hq)
variable (T : HFG K) (E : DEn) {k : Nat} {x2 x3 x4 x6 x7 : Option D} {v : Int}
include T
theorem hand5 (a : GA K m j f h g rows wants fr hl got) (z : GZ rows fr hl) {way : List (Nat × Str)} (hw : ∀ p ∈ way, p.1 < rows.length ∧ p.2 ∈ fitsN rows p.1)
    (fin_ : ∀ x6, E.nx [some (.ref j), some (.int (k : Nat)), some (.lst (way.map wd)), x3, x4, some (.int v), x6, x7] (mset m h (.dT (hen (addH hl way v))))) :
    t_Giving_hand_5 K (S_Giving_steps K) E [some (.ref j), some (.int (k : Nat)), some (.lst (way.map wd)), x3, x4, some (.int v), x6, x7] m := by
  unfold t_Giving_hand_5
  walk_at "nf"
  simp only [withI_l]
  refine for_inv (fun i ρ m' => ∃ x6, m' = mset m h (.dT (hen (addH hl (way.take i) v))) ∧ ρ = [some (.ref j), some (.int (k : Nat)), some (.lst (way.map wd)), x3, x4, some (.int v), x6, x7])
    ⟨x6, by rw [List.take_zero]; exact (mset_id a.h).symm, rfl⟩ (fun _ _ _ _ => trivial) (fun i d ρ m' ei p k2 hk2 => ?_) fun ρ m' p => ?_
  · obtain ⟨x6, rfl, rfl⟩ := p
    rw [List.getElem?_map] at ei
    cases e : way[i]? with
    | none => rw [e] at ei; cases ei
    | some p =>
      rw [e] at ei
      obtain rfl := Option.some.inj ei
      have ht1 : way.take (i + 1) = way.take i ++ [p] := by rw [List.take_succ, e]; rfl
      have a2 := a.putH (addH hl (way.take i) v)
      have z2 : GZ rows fr (addH hl (way.take i) v) := z.add fun q hq => hw q (List.mem_of_mem_take hq)
      have hsz := hld_len z2
      unfold t_Giving_hand_4
      walk_at "nf"
      refine fld_holds T a2 ?_
      refine And.intro (isDic_dT a2.h) ?_
      rw [show wd p = .tup [.int ((p.1 : Nat) : Int), .str p.2] from rfl, look_tup a2.h]
      have e1 : dval (hen (addH hl (way.take i) v)) [Sum.inl ((p.1 : Nat) : Int), Sum.inr p.2] = (dval (addH hl (way.take i) v) p).map D.int := dval_hen _ p
      rw [e1]
      walk_at "nf"
      have e2 : ((dval (addH hl (way.take i) v) p).map D.int).getD (.int 0) = .int (hv (addH hl (way.take i) v) p.1 p.2) := by
        show ((dval (addH hl (way.take i) v) p).map D.int).getD (.int 0) = .int ((dval (addH hl (way.take i) v) p).getD 0)
        cases dval (addH hl (way.take i) v) p <;> rfl
      rw [e2]
      walk_at "nf"
      refine fld_holds T a2 ?_
      refine store_tup a2.h (by rw [hen_len]; unfold sizeLine; omega) ?_
      have e3 : dput (hen (addH hl (way.take i) v)) [Sum.inl ((p.1 : Nat) : Int), Sum.inr p.2] (.int (hv (addH hl (way.take i) v) p.1 p.2 + v)) = hen (addH hl (way.take (i + 1)) v) := by
        rw [ht1, addH_snoc]; exact dput_hen _ p _
      rw [e3, mset_mset]
      exact hk2 _ _ ⟨_, rfl, rfl⟩
  · obtain ⟨x6, rfl, rfl⟩ := p
    rw [List.length_map, List.take_length]
    exact fin_ x6
theorem hand3 (a : GA K m j f h g rows wants fr hl got) (z : GZ rows fr hl) {way : List (Nat × Str)} (hw : ∀ p ∈ way, p.1 < rows.length ∧ p.2 ∈ fitsN rows p.1) (hk : ∀ p ∈ way, p ∈ hl.map (·.1))
    (fin_ : ∀ x6, E.nx [some (.ref j), some (.int (k : Nat)), x2, some (.lst (way.map wd)), x4, some (.int v), x6, x7] (mset m h (.dT (hen (addH hl way (-v)))))) :
    t_Giving_hand_3 K (S_Giving_steps K) E [some (.ref j), some (.int (k : Nat)), x2, some (.lst (way.map wd)), x4, some (.int v), x6, x7] m := by
  unfold t_Giving_hand_3
  walk_at "nf"
  simp only [withI_l]
  refine for_inv (fun i ρ m' => ∃ x6, m' = mset m h (.dT (hen (addH hl (way.take i) (-v)))) ∧ ρ = [some (.ref j), some (.int (k : Nat)), x2, some (.lst (way.map wd)), x4, some (.int v), x6, x7])
    ⟨x6, by rw [List.take_zero]; exact (mset_id a.h).symm, rfl⟩ (fun _ _ _ _ => trivial) (fun i d ρ m' ei p k2 hk2 => ?_) fun ρ m' p => ?_
  · obtain ⟨x6, rfl, rfl⟩ := p
    rw [List.getElem?_map] at ei
    cases e : way[i]? with
    | none => rw [e] at ei; cases ei
    | some p =>
      rw [e] at ei
      obtain rfl := Option.some.inj ei
      have ht1 : way.take (i + 1) = way.take i ++ [p] := by rw [List.take_succ, e]; rfl
      have a2 := a.putH (addH hl (way.take i) (-v))
      have z2 : GZ rows fr (addH hl (way.take i) (-v)) := z.add fun q hq => hw q (List.mem_of_mem_take hq)
      have hsz := hld_len z2
      unfold t_Giving_hand_2
      walk_at "nf"
      refine fld_holds T a2 ?_
      rw [show wd p = .tup [.int ((p.1 : Nat) : Int), .str p.2] from rfl, look_tup a2.h]
      have e1 : dval (hen (addH hl (way.take i) (-v))) [Sum.inl ((p.1 : Nat) : Int), Sum.inr p.2] = (dval (addH hl (way.take i) (-v)) p).map D.int := dval_hen _ p
      rw [e1, dval_some ((addH_keys (-v) (way.take i) hl).1 p (hk p (List.mem_of_getElem? e)))]
      simp only [Option.map_some]
      walk_at "nf"
      refine fld_holds T a2 ?_
      refine store_tup a2.h (by rw [hen_len]; unfold sizeLine; omega) ?_
      have e3 : dput (hen (addH hl (way.take i) (-v))) [Sum.inl ((p.1 : Nat) : Int), Sum.inr p.2] (.int (hv (addH hl (way.take i) (-v)) p.1 p.2 - v)) = hen (addH hl (way.take (i + 1)) (-v)) := by
        rw [ht1, addH_snoc]; exact dput_hen _ p _
      rw [e3, mset_mset]
      exact hk2 _ _ ⟨_, rfl, rfl⟩
  · obtain ⟨x6, rfl, rfl⟩ := p
    rw [List.length_map, List.take_length]
    exact fin_ x6
end
end HL

namespace HL
open PySem L2 DL DM
local macro_rules | `(tactic| walk_at "nf") => `(tactic| try simp only [dSeq, dIfS, dOr, dAnd, dNot, dTest, dCB, dCons, dNil, dVar, dC, dRet, dRetN, dNext, dAsg, gN, gt2, dOp, dUn, dAndV, dOrV, dNotV, dIf, dLst, dTup, dCall, dMeth, dProp, dMake, dFld, dSl, dPart, dNoPart, dDrop, dPar, dPar3, dBm, dRev, dSetF, dBits, gSet, gTup', gCons', gNil', dDGet, dDIn, dDGet2, dDGet1, dDPut, dNewK, dNewT, iL_eq, iEn, on1, on2, onO_some, addI, subI, intC, onI_i, onS_s, onB_b, iT, iR1, iR2, dLc, dFor, lcBody, dLc2_eq, lcBody2, dDc, dcBody, dYes, wipeD, atE, startD, List.map_cons, List.map_nil, List.length_cons, List.length_nil, List.cons_append, List.nil_append, List.replicate, List.getElem?_cons_zero, List.getElem?_cons_succ, List.set_cons_zero, List.set_cons_succ, Nat.reduceSub, Nat.reduceAdd, Nat.reduceEqDiff, if_true, if_false])
def wantN (wants : List Int) (i : Nat) : Int := wants.getD i 0
theorem fitsN_nd {rows : List Ak} {fr : Stk} {hl : Hld} (z : GZ rows fr hl) (i : Nat) : (fitsN rows i).Nodup := by
  unfold fitsN
  cases e : rows[i]? with
  | none => exact List.nodup_nil
  | some a => exact z.fn a (List.mem_of_getElem? e)
/-- sizes of what is told -/
structure GL (rows : List Ak) (wants got : List Int) : Prop where
  w : wants.length = rows.length
  g : got.length = rows.length
def S_Giving_hand (K : PySem.W.Frag) : SpD := fun ds m F => ∃ (j f h g : Nat) (rows : List Ak) (wants : List Int) (fr : Stk) (hl : Hld) (got : List Int) (k : Nat) (U : List Str) (st : Str → Int), ds = [.ref j, .int (k : Nat)] ∧ GA K m j f h g rows wants fr hl got ∧ (GZ rows fr hl ∧ GL rows wants got ∧ k < rows.length) ∧
  (U.Nodup ∧ (∀ i x, x ∈ fitsN rows i → x ∈ U) ∧ ∀ i, 0 ≤ wantN wants i) ∧ GV.Dealt k (fitsN rows) (wantN wants) U st (gsOf fr hl got) ∧
  ∀ (m' : Mu) (fr' : Stk) (hl' : Hld) (got' : List Int), (∀ i, i ≠ f → i ≠ h → i ≠ g → m' i = m i) → GA K m' j f h g rows wants fr' hl' got' → GZ rows fr' hl' → GL rows wants got' → fr'.map (·.1) = fr.map (·.1) →
    GV.Dealt (k + 1) (fitsN rows) (wantN wants) U st (gsOf fr' hl' got') → F .non m'
theorem got_at {got : List Int} {k n : Nat} (hl : got.length = n) (hk : k < n) : (got.map D.int)[k]? = some (.int (got.getD k 0)) := by
  rw [List.getElem?_map, List.getElem?_eq_getElem (by omega)]
  simp [List.getD_eq_getElem?_getD, List.getElem?_eq_getElem (show k < got.length by omega)]
theorem set_getD {got : List Int} {k : Nat} {v : Int} (hk : k < got.length) (i : Nat) : (got.set k v).getD i 0 = if i = k then v else got.getD i 0 := by
  simp only [List.getD_eq_getElem?_getD]
  by_cases e : i = k
  · subst e
    rw [List.getElem?_set_self hk, if_pos rfl]; rfl
  · rw [List.getElem?_set_ne (Ne.symm e), if_neg e]
theorem along_eq {fr : Stk} {hl : Hld} {got : List Int} {steps given : List (Nat × Str)} {last : Str} {k : Nat} {v : Int} (hk : k < got.length) :
    gsOf (dput fr last (sv fr last - v)) (addH (addH hl steps v) given (-v)) (got.set k (got.getD k 0 + v)) = (gsOf fr hl got).along steps given last k v := by
  unfold gsOf GV.GS.along
  congr 1
  · funext x
    show sv (dput fr last (sv fr last - v)) x = sv fr x - (if x = last then v else 0)
    unfold sv
    rw [dval_put]
    by_cases e : x = last
    · subst e; rw [if_pos rfl, if_pos rfl]; rfl
    · rw [if_neg e, if_neg e]; omega
  · funext i x
    show hv (addH (addH hl steps v) given (-v)) i x = hv hl i x + v * (steps.count (i, x) : Nat) - v * (given.count (i, x) : Nat)
    rw [hv_add, hv_add, Int.neg_mul]; omega
  · funext i
    show (got.set k (got.getD k 0 + v)).getD i 0 = got.getD i 0 + (if i = k then v else 0)
    rw [set_getD hk]
    by_cases e : i = k
    · subst e; rw [if_pos rfl, if_pos rfl]
    · rw [if_neg e, if_neg e]; omega
theorem minLR_of {d : D} {m : Mu} {ns : List Int} {F : DK} (h : lstOf m d = some (ns.map D.int)) (ne : ns ≠ []) (f : F (.int (minL ns)) m) : minLR [d] m F :=
  withL_of h (by rw [intsOf_map]; exact ⟨ne, f⟩)
theorem ints_of_map {α : Type} (f : α → Int) (l : List α) : intsOf (l.map fun a => D.int (f a)) = some (l.map f) := by
  have : (l.map fun a => D.int (f a)) = (l.map f).map D.int := by rw [List.map_map]; rfl
  rw [this]; exact intsOf_map _
def handP (K : PySem.W.Frag) (m : Mu) (j f h g : Nat) (rows : List Ak) (wants : List Int) (fr : Stk) (got : List Int) (k : Nat) (st : Str → Int) (kk : Nat) (ρ : REnv) (m' : Mu) : Prop := ∃ (fr' : Stk) (hl' : Hld) (got' : List Int) (x2 x3 x4 x5 x6 x7 : Option D), ρ = [some (.ref j), some (.int (k : Nat)), x2, x3, x4, x5, x6, x7] ∧ (∀ i, i ≠ f → i ≠ h → i ≠ g → m' i = m i) ∧ GA K m' j f h g rows wants fr' hl' got' ∧ GZ rows fr' hl' ∧ GL rows wants got' ∧ fr'.map (·.1) = fr.map (·.1) ∧
  GV.Good (k + 1) (fitsN rows) st (gsOf fr' hl' got') ∧ (∃ L, GV.Tight k (fitsN rows) (wantN wants) (gsOf fr' hl' got') L) ∧ got'.getD k 0 ≤ wantN wants k ∧ (∀ i, i ≠ k → got'.getD i 0 = got.getD i 0) ∧ kk = (wantN wants k - got'.getD k 0).toNat
/-- a way, what is handed back along it, the free kind at its end -/
structure WG (rows : List Ak) (g : GV.GS Str) (k : Nat) (way given : List (Nat × Str)) (last : Str) : Prop where
  cf : way.map (·.1) = k :: given.map (·.1)
  cs : way.map (·.2) = given.map (·.2) ++ [last]
  gat : given = (List.range (way.length - 1)).map fun i => ((way.getD (i + 1) (0, "")).1, (way.getD i (0, "")).2)
  ne : way ≠ []
  len : way.length < 60
  lst : ∃ al, atI (way.map wd) (-1) = some (wd (al, last))
  free : 0 < g.free last
  gnd : given.Nodup
  fit : ∀ p ∈ way, p.2 ∈ fitsN rows p.1
  giv : ∀ p ∈ given, 0 < g.hold p.1 p.2
  lt : ∀ p ∈ way, p.1 < rows.length
  hold : ∀ p ∈ way, p.1 = k ∨ ∃ y, 0 < g.hold p.1 y
theorem hand_way {K : PySem.W.Frag} (T : HFG K) {m : Mu} (E : DEn) {j f h g : Nat} {rows : List Ak} {wants : List Int} {fr : Stk} {hl : Hld} {got : List Int} {k : Nat} {x3 x4 x5 x6 x7 : Option D} {way given : List (Nat × Str)} {last : Str}
    (a : GA K m j f h g rows wants fr hl got) (z : GZ rows fr hl) (gl : GL rows wants got) (hk : k < rows.length) (q : got.getD k 0 < wantN wants k) (wg : WG rows (gsOf fr hl got) k way given last)
    (fin_ : ∀ (m2 : Mu) (fr2 : Stk) (hl2 : Hld) (got2 : List Int) (v : Int) (y3 y4 y5 y6 y7 : Option D), (∀ i, i ≠ f → i ≠ h → i ≠ g → m2 i = m i) → GA K m2 j f h g rows wants fr2 hl2 got2 → GZ rows fr2 hl2 → GL rows wants got2 → fr2.map (·.1) = fr.map (·.1) → 0 < v → v ≤ wantN wants k - got.getD k 0 → v ≤ (gsOf fr hl got).free last → (∀ p ∈ given, v ≤ (gsOf fr hl got).hold p.1 p.2) →
      gsOf fr2 hl2 got2 = (gsOf fr hl got).along way given last k v → E.nx [some (.ref j), some (.int (k : Nat)), some (.lst (way.map wd)), y3, y4, y5, y6, y7] m2) :
    dSeq (t_Giving_hand_9 K (S_Giving_steps K)) (dSeq (t_Giving_hand_8 K (S_Giving_steps K)) (dSeq (t_Giving_hand_7 K (S_Giving_steps K)) (dSeq (t_Giving_hand_6 K (S_Giving_steps K)) (dSeq (t_Giving_hand_5 K (S_Giving_steps K)) (dSeq (t_Giving_hand_3 K (S_Giving_steps K)) (dSeq (t_Giving_hand_1 K (S_Giving_steps K)) (t_Giving_hand_0 K (S_Giving_steps K)))))))) E [some (.ref j), some (.int (k : Nat)), some (.lst (way.map wd)), x3, x4, x5, x6, x7] m := by
  have wlen := wg.len
  have hlf : 0 < sv fr last := wg.free
  have hfk : last ∈ fr.map (·.1) := by
    unfold sv at hlf
    cases e : dval fr last with
    | none => rw [e] at hlf; simp at hlf
    | some u => exact List.mem_map.mpr ⟨_, dval_mem e, rfl⟩
  have hfd : dval fr last = some (sv fr last) := by
    unfold sv
    cases e : dval fr last with
    | none => exact absurd hfk (dval_none_iff.mp e)
    | some u => rfl
  have gw : ∀ p ∈ given, p.1 < rows.length ∧ p.2 ∈ fitsN rows p.1 := fun p hp => hv_lt z (wg.giv p hp)
  have ww : ∀ p ∈ way, p.1 < rows.length ∧ p.2 ∈ fitsN rows p.1 := fun p hp => ⟨wg.lt p hp, wg.fit p hp⟩
  have glen : given.length = way.length - 1 := by rw [wg.gat, List.length_map, List.length_range]
  have wl1 : 1 ≤ way.length := List.length_pos_iff.mpr wg.ne
  refine seq_nx ?_
  unfold t_Giving_hand_9
  refine br_f rfl ?_
  show dSeq (t_Giving_hand_8 K (S_Giving_steps K)) _ _ [some (.ref j), some (.int (k : Nat)), some (.lst (way.map wd)), x3, x4, x5, x6, x7] m
  refine seq_nx ?_
  unfold t_Giving_hand_8
  walk_at "nf"
  refine lenR_of (xs := way.map wd) rfl ?_
  rw [List.length_map]
  refine And.intro ⟨by omega, by omega, by omega, by omega⟩ ?_
  have er : rangeD 1 (((way.length : Nat) : Int) - 1).toNat = (List.range (way.length - 1)).map fun i => D.int ((i + 1 : Nat) : Int) := by
    unfold rangeD
    rw [show (((way.length : Nat) : Int) - 1).toNat = way.length - 1 by omega]
    refine List.map_congr_left fun i _ => ?_
    congr 1
    omega
  rw [er]
  refine lc_over (List.range (way.length - 1)) _ (fun i => some (wd ((way.getD (i + 1) (0, "")).1, (way.getD i (0, "")).2))) trivial (by rw [List.length_range]; unfold sizeLine; omega) (fun i hi acc k2 hacc hk2 => ?_) ?_
  · have hi := List.mem_range.mp hi
    have e1 : way[i + 1]? = some (way.getD (i + 1) (0, "")) := by rw [List.getD_eq_getElem?_getD, List.getElem?_eq_getElem (show i + 1 < way.length by omega)]; rfl
    have e2 : way[i]? = some (way.getD i (0, "")) := by rw [List.getD_eq_getElem?_getD, List.getElem?_eq_getElem (show i < way.length by omega)]; rfl
    walk_at "nf"
    refine br_t rfl ?_
    refine ixL (k := i + 1) (x := wd (way.getD (i + 1) (0, ""))) (by rw [List.getElem?_map, e1]; rfl) ?_
    refine ixT (k := 0) (x := .int ((way.getD (i + 1) (0, "")).1 : Nat)) rfl ?_
    rw [show ((i + 1 : Nat) : Int) - 1 = ((i : Nat) : Int) by omega]
    refine ixL (k := i) (x := wd (way.getD i (0, ""))) (by rw [List.getElem?_map, e2]; rfl) ?_
    refine ixT (k := 1) (x := .str (way.getD i (0, "")).2) rfl ?_
    refine And.intro (by decide) ?_
    exact ⟨hacc, hk2⟩
  rw [fm_some]
  refine new_l ?_
  have eg : ((List.range (way.length - 1)).map fun i => wd ((way.getD (i + 1) (0, "")).1, (way.getD i (0, "")).2)) = given.map wd := by rw [wg.gat, List.map_map]; rfl
  rw [eg]
  show dSeq (t_Giving_hand_7 K (S_Giving_steps K)) (dSeq (t_Giving_hand_6 K (S_Giving_steps K)) (dSeq (t_Giving_hand_5 K (S_Giving_steps K)) (dSeq (t_Giving_hand_3 K (S_Giving_steps K)) (dSeq (t_Giving_hand_1 K (S_Giving_steps K)) (t_Giving_hand_0 K (S_Giving_steps K)))))) E [some (.ref j), some (.int (k : Nat)), some (.lst (way.map wd)), some (.lst (given.map wd)), x4, x5, x6, x7] m
  refine seq_nx ?_
  unfold t_Giving_hand_7
  walk_at "nf"
  obtain ⟨al, hal⟩ := wg.lst
  refine onO_of hal ?_
  refine ixT (k := 1) (x := .str last) rfl ?_
  show dSeq (t_Giving_hand_6 K (S_Giving_steps K)) (dSeq (t_Giving_hand_5 K (S_Giving_steps K)) (dSeq (t_Giving_hand_3 K (S_Giving_steps K)) (dSeq (t_Giving_hand_1 K (S_Giving_steps K)) (t_Giving_hand_0 K (S_Giving_steps K))))) E [some (.ref j), some (.int (k : Nat)), some (.lst (way.map wd)), some (.lst (given.map wd)), some (.str last), x5, x6, x7] m
  refine seq_nx ?_
  unfold t_Giving_hand_6
  walk_at "nf"
  refine fld_wants T a ?_
  refine ixL (got_at gl.w hk) ?_
  refine fld_got T a ?_
  refine ⟨_, a.g, onO_of (atI_n (got_at gl.g hk)) ?_⟩
  walk_at "nf"
  refine fld_free T a ?_
  rw [look_str a.f, dval_stk, hfd]
  simp only [Option.map_some]
  walk_at "nf"
  refine And.intro (by decide) (new_l ?_)
  simp only [withI_l]
  refine lc_over given wd (fun p => some (.int (hv hl p.1 p.2))) trivial (by unfold sizeLine; omega) (fun p hp acc k2 hacc hk2 => ?_) ?_
  · walk_at "nf"
    refine br_t rfl ?_
    refine fld_holds T a ?_
    rw [show wd p = .tup [.int ((p.1 : Nat) : Int), .str p.2] from rfl, look_tup a.h]
    have e1 : dval (hen hl) [Sum.inl ((p.1 : Nat) : Int), Sum.inr p.2] = (dval hl p).map D.int := dval_hen _ p
    rw [e1, dval_some (key_of_hv (wg.giv p hp))]
    simp only [Option.map_some]
    walk_at "nf"
    exact ⟨hacc, hk2⟩
  rw [fm_some]
  refine new_l ?_
  refine add_lst (by simp only [List.length_map, List.length_cons, List.length_nil]; unfold sizeLine; omega) ?_
  have en : [D.int (wantN wants k - got.getD k 0), D.int (sv fr last)] ++ given.map (fun p => D.int (hv hl p.1 p.2)) = ((wantN wants k - got.getD k 0) :: sv fr last :: given.map (fun p => hv hl p.1 p.2)).map D.int := by
    simp only [List.map_cons, List.map_map, List.cons_append, List.nil_append]; rfl
  have en2 : [D.int (wants.getD k 0 - got.getD k 0), D.int (sv fr last)] ++ given.map (fun p => D.int (hv hl p.1 p.2)) = [D.int (wantN wants k - got.getD k 0), D.int (sv fr last)] ++ given.map (fun p => D.int (hv hl p.1 p.2)) := rfl
  rw [en2, en]
  refine minLR_of (ns := (wantN wants k - got.getD k 0) :: sv fr last :: given.map (fun p => hv hl p.1 p.2)) rfl (by simp) ?_
  have ms := minL_spec (ns := (wantN wants k - got.getD k 0) :: sv fr last :: given.map (fun p => hv hl p.1 p.2)) (by simp)
  generalize minL ((wantN wants k - got.getD k 0) :: sv fr last :: given.map (fun p => hv hl p.1 p.2)) = v at ms
  obtain ⟨min_, mle⟩ := ms
  have v1 : v ≤ wantN wants k - got.getD k 0 := mle _ (by simp)
  have v2 : v ≤ sv fr last := mle _ (by simp)
  have v3 : ∀ p ∈ given, v ≤ hv hl p.1 p.2 := fun p hp => mle _ (List.mem_cons_of_mem _ (List.mem_cons_of_mem _ (List.mem_map.mpr ⟨p, hp, rfl⟩)))
  have v0 : 0 < v := by
    rcases List.mem_cons.mp min_ with e | e
    · omega
    · rcases List.mem_cons.mp e with e | e
      · omega
      · obtain ⟨p, hp, e⟩ := List.mem_map.mp e
        have : 0 < hv hl p.1 p.2 := wg.giv p hp
        omega
  show dSeq (t_Giving_hand_5 K (S_Giving_steps K)) (dSeq (t_Giving_hand_3 K (S_Giving_steps K)) (dSeq (t_Giving_hand_1 K (S_Giving_steps K)) (t_Giving_hand_0 K (S_Giving_steps K)))) E [some (.ref j), some (.int (k : Nat)), some (.lst (way.map wd)), some (.lst (given.map wd)), some (.str last), some (.int v), x6, x7] m
  refine seq_nx ?_
  refine hand5 T _ a z ww fun x6 => ?_
  have a1 := a.putH (addH hl way v)
  have z1 : GZ rows fr (addH hl way v) := z.add ww
  refine seq_nx ?_
  refine hand3 T _ a1 z1 gw (fun p hp => (addH_keys v way hl).1 p (key_of_hv (wg.giv p hp))) fun x6 => ?_
  rw [mset_mset]
  have a2 := a.putH (addH (addH hl way v) given (-v))
  have z2 : GZ rows fr (addH (addH hl way v) given (-v)) := z1.add gw
  refine seq_nx ?_
  unfold t_Giving_hand_1
  walk_at "nf"
  refine fld_free T a2 ?_
  rw [look_str a2.f, dval_stk, hfd]
  simp only [Option.map_some]
  walk_at "nf"
  refine fld_free T a2 ?_
  have frl := z.fr
  refine store_str a2.f (by rw [stk_len]; unfold sizeLine; omega) ?_
  rw [dput_stk]
  have a3 := a2.putF (dput fr last (sv fr last - v))
  have ek : (dput fr last (sv fr last - v)).map (·.1) = fr.map (·.1) := by rw [dput_keys, if_pos hfk]
  have frl2 : (dput fr last (sv fr last - v)).length = fr.length := by have := congrArg List.length ek; simpa using this
  unfold t_Giving_hand_0
  walk_at "nf"
  refine fld_got T a3 ?_
  refine ⟨_, a3.g, onO_of (atI_n (got_at gl.g hk)) ?_⟩
  walk_at "nf"
  refine fld_got T a3 ?_
  refine ⟨_, a3.g, ?_⟩
  have ei : ixN (got.map D.int).length ((k : Nat) : Int) = some k := by
    unfold ixN
    rw [if_pos (by omega), if_pos (by rw [List.length_map, gl.g]; omega)]
    simp
  simp only [ei]
  walk_at "nf"
  have es : (got.map D.int).set k (.int (got.getD k 0 + v)) = (got.set k (got.getD k 0 + v)).map D.int := (List.map_set ..).symm
  rw [es]
  refine fin_ _ (dput fr last (sv fr last - v)) (addH (addH hl way v) given (-v)) (got.set k (got.getD k 0 + v)) v _ _ _ _ _ (fun i h1 h2 h3 => ?_) (a3.putG _) ⟨z.n, z.fl, z.fn, by omega, z2.nd, z2.inn⟩ ⟨gl.w, by rw [List.length_set]; exact gl.g⟩ ek v0 v1 v2 v3 (along_eq (by rw [gl.g]; exact hk))
  rw [mset_ne h3, mset_ne h1, mset_ne h2]
theorem pure_Giving_hand {K : PySem.W.Frag} (T : HFG K) (ds : List D) (m : Mu) (G : DK) (h : S_Giving_hand K ds m G) : t_Giving_hand K (S_Giving_steps K) { nx := fun _ m' => Fin G .non m', rt := Fin G } (startD 8 ds) m := by
  obtain ⟨j, f, h', g, rows, wants, fr, hl, got, k, U, st, rfl, a, ⟨z, gl, hk⟩, ⟨hU, hF, hw0⟩, D0, h⟩ := h
  unfold t_Giving_hand t_Giving_hand_11
  have g0 : got.getD k 0 = 0 := by
    have e1 := D0.good.got k
    have e2 : GV.sumL (fitsN rows k) ((gsOf fr hl got).hold k) = GV.sumL (fitsN rows k) (fun _ => 0) := GV.sumL_congr fun x _ => Classical.byContradiction fun q => by have := (D0.good.inn k x q).1; omega
    rw [e2, GV.sumL_zero] at e1
    exact e1
  refine ⟨handP K m j f h' g rows wants fr got k st,
    ⟨_, fr, hl, got, none, none, none, none, none, none, rfl, fun _ _ _ _ => rfl, a, z, gl, rfl, GV.good_more D0.good, D0.tight, by rw [g0]; exact hw0 k, fun _ _ => rfl, rfl⟩, ?_⟩
  rintro kk ρ m' ⟨fr', hl', got', x2, x3, x4, x5, x6, x7, rfl, fm, a', z', gl', ek, good, ⟨L, tight⟩, hle, oth, rfl⟩
  -- what is dealt, once no more can be handed
  have fin_ : (∃ L, GV.Tight (k + 1) (fitsN rows) (wantN wants) (gsOf fr' hl' got') L) → G .non m' := fun tt => by
    refine h m' fr' hl' got' fm a' z' gl' ek ⟨good, fun i hi => ?_, tt, fun i hi => ?_⟩
    · by_cases e : i = k
      · rw [e]; exact hle
      · have := D0.le i (by omega)
        show got'.getD i 0 ≤ _
        rw [oth i e]; exact this
    · by_cases e : i = k + 1
      · obtain ⟨L, tt⟩ := tt
        subst e
        exact ⟨L, GV.got_eq good (fitsN_nd z') hU hF (Nat.le_refl _) tt⟩
      · obtain ⟨L, hL⟩ := D0.sums i (by omega)
        refine ⟨L, ?_⟩
        rw [← hL]
        exact GV.sumN_congr fun u hu => oth u (by omega)
  walk_at "nf"
  refine fld_got T a' ?_
  refine ⟨_, a'.g, onO_of (atI_n (got_at gl'.g hk)) ?_⟩
  refine fld_wants T a' ?_
  refine ixL (got_at gl'.w hk) ?_
  walk_at "nf"
  by_cases q : got'.getD k 0 < wantN wants k
  · refine br_t (decide_eq_true q) ?_
    unfold t_Giving_hand_10
    walk_at "nf"
    refine ⟨_, _, insOf_ref a'.j, by decide, j, f, h', g, rows, wants, fr', hl', got', k, rfl, a', ⟨z', hk⟩, fun line stk_ => ?_, fun way W => ?_⟩
    · unfold t_Giving_hand_9
      refine br_t rfl ?_
      refine fin (fin_ ?_)
      refine ⟨_, GV.tight_stuck tight good (R := fun i => decide (i ∈ line)) (decide_eq_true stk_.kin) (fun i hi => ?_) (fun i x hi hx => (stk_.dn i (of_decide_eq_true hi) x hx).1) fun i x u hi hx hu => decide_eq_true ((stk_.dn i (of_decide_eq_true hi) x hx).2 u hu)⟩
      rcases stk_.hd i (of_decide_eq_true hi) with w | ⟨x, w⟩
      · omega
      · exact (good.inn i x (by omega)).1
    · obtain ⟨x0, r, rfl⟩ := W.hd
      have hlast : (((k, x0) :: r).map wd) ≠ [] := by simp
      have wg : WG rows (gsOf fr' hl' got') k ((k, x0) :: r) (GV.givenOf ((k, x0) :: r)) (((k, x0) :: r).getLast (by simp)).2 := by
        refine ⟨GV.given_fst k x0 r, GV.given_snd k x0 r, givenOf_at _, by simp, ?_, ⟨(((k, x0) :: r).getLast (by simp)).1, ?_⟩, way_free W.wy, given_nd W.nd, GV.way_fits W.wy, GV.way_given W.wy, W.lt, fun p hp => ?_⟩
        · have := nodup_lt W.nd fun i hi => by
            obtain ⟨p, hp, rfl⟩ := List.mem_map.mp hi
            exact W.lt p hp
          rw [List.length_map] at this
          have := z'.n
          omega
        · rw [atI_last hlast, List.getLast_map]
        · rcases List.mem_cons.mp hp with rfl | hp
          · exact .inl rfl
          · exact .inr (way_holds W.wy p hp)
      have ta : ∀ v, GV.Tight k (fitsN rows) (wantN wants) ((gsOf fr' hl' got').along ((k, x0) :: r) (GV.givenOf ((k, x0) :: r)) (((k, x0) :: r).getLast (by simp)).2 k v) L := fun v => GV.tight_along tight rfl W.wy rfl ⟨_, List.getLast_mem (l := (k, x0) :: r) (by simp), rfl⟩
      refine hand_way T (m := m') _ a' z' gl' hk q wg fun m2 fr2 hl2 got2 v y3 y4 y5 y6 y7 fm2 a2 z2 gl2 ek2 v0 vle vf vh eg => ?_
      refine ⟨(wantN wants k - got2.getD k 0).toNat, ?_, fr2, hl2, got2, _, y3, y4, y5, y6, y7, rfl, fun i h1 h2 h3 => ?_, a2, z2, gl2, ek2.trans ek, ?_, ⟨L, ?_⟩, ?_, fun i hi => ?_, rfl⟩
      · have : got2.getD k 0 = got'.getD k 0 + v := by
          have := congrArg (fun s => s.got k) eg
          simpa [gsOf, GV.GS.along] using this
        omega
      · rw [fm2 i h1 h2 h3, fm i h1 h2 h3]
      · rw [eg]
        refine GV.good_along good (fitsN_nd z') wg.cf wg.cs (fun p hp => ⟨?_, wg.fit p hp⟩) wg.gnd (fun p hp => ?_) (by omega) vf
        · rcases wg.hold p hp with w | ⟨y, w⟩
          · omega
          · exact (good.inn p.1 y (by omega)).1
        · have w := wg.giv p hp
          have := good.inn p.1 p.2 (by omega)
          exact ⟨this.1, this.2, vh p hp⟩
      · rw [eg]; exact ta v
      · have : got2.getD k 0 = got'.getD k 0 + v := by
          have := congrArg (fun s => s.got k) eg
          simpa [gsOf, GV.GS.along] using this
        omega
      · have : got2.getD i 0 = got'.getD i 0 := by
          have := congrArg (fun s => s.got i) eg
          simpa [gsOf, GV.GS.along, hi] using this
        rw [this]; exact oth i hi
  · refine br_f (decide_eq_false q) ?_
    refine fin (fin_ ⟨L, GV.tight_full tight ?_⟩)
    show got'.getD k 0 = wantN wants k
    omega
end HL

namespace HL
open PySem L2 DL DM
local macro_rules | `(tactic| walk_at "nf") => `(tactic| try simp only [dSeq, dIfS, dOr, dAnd, dNot, dTest, dCB, dCons, dNil, dVar, dC, dRet, dRetN, dNext, dAsg, gN, gt2, dOp, dUn, dAndV, dOrV, dNotV, dIf, dLst, dTup, dCall, dMeth, dProp, dMake, dFld, dSl, dPart, dNoPart, dDrop, dPar, dPar3, dBm, dRev, dSetF, dBits, gSet, gTup', gCons', gNil', dDGet, dDIn, dDGet2, dDGet1, dDPut, dNewK, dNewT, iL_eq, iEn, on1, on2, onO_some, addI, subI, intC, onI_i, onS_s, onB_b, iT, iR1, iR2, dLc, dFor, lcBody, dLc2_eq, lcBody2, dDc, dcBody, dYes, wipeD, atE, startD, List.map_cons, List.map_nil, List.length_cons, List.length_nil, List.cons_append, List.nil_append, List.replicate, List.getElem?_cons_zero, List.getElem?_cons_succ, List.set_cons_zero, List.set_cons_succ, Nat.reduceSub, Nat.reduceAdd, Nat.reduceEqDiff, if_true, if_false])
structure RowsOk (rows : List Ak) : Prop where
  n : rows.length < 60
  fl : ∀ a ∈ rows, a.fits.length < 60
  fn : ∀ a ∈ rows, a.fits.Nodup
def S_Giving___init__ (K : PySem.W.Frag) : SpD := fun ds m F => ∃ (j ks : Nat) (rows : List Ak) (wants : List Int) (s : Stk) (U : List Str), ds = [.ref j, .lst (rows.map Ak.row), .lst (wants.map D.int), .ref ks] ∧ m j = some (.ins (ga K "Giving") [] []) ∧ m ks = some (.dK (stk s)) ∧
  (StOk s ∧ RowsOk rows ∧ wants.length = rows.length ∧ ∀ i, 0 ≤ wantN wants i) ∧ (U.Nodup ∧ ∀ i x, x ∈ fitsN rows i → x ∈ U) ∧
  ∀ (m' : Mu) (f h g : Nat) (fr : Stk) (hl : Hld) (got : List Int), (∀ i, i ≠ j → m i ≠ none → m' i = m i) → (m f = none ∧ m h = none ∧ m g = none) → GA K m' j f h g rows wants fr hl got → GZ rows fr hl → GL rows wants got → fr.map (·.1) = s.map (·.1) →
    GV.Dealt rows.length (fitsN rows) (wantN wants) U (sv s) (gsOf fr hl got) → F .non m'
theorem ne_none {m : Mu} {i k : Nat} (h1 : m i ≠ none) (h2 : m k = none) : i ≠ k := fun e => h1 (e ▸ h2)
theorem pure_Giving___init__ {K : PySem.W.Frag} (T : HFG K) (ds : List D) (m : Mu) (G : DK) (h : S_Giving___init__ K ds m G) : t_Giving___init__ K (S_Giving_hand K) { nx := fun _ m' => Fin G .non m', rt := Fin G } (startD 6 ds) m := by
  obtain ⟨j, ks, rows, wants, s, U, rfl, hj, hks, ⟨ok, ro, wl, w0⟩, ⟨hU, hF⟩, h⟩ := h
  have rn := ro.n
  have jks : ks ≠ j := ne_obj hks hj (by intro z; cases z)
  unfold t_Giving___init__ t_Giving___init___6 t_Giving___init___5 t_Giving___init___4 t_Giving___init___3 t_Giving___init___2
  walk_at "nf"
  refine ⟨j, _, _, _, rfl, hj, T.c_Giving, T.f_rows, by decide, ?_⟩
  refine ⟨j, _, _, _, rfl, mset_same, T.c_Giving, T.f_wants, by decide, ?_⟩
  rw [mset_mset]
  have hks1 : ∀ o, mset m j o ks = some (.dK (stk s)) := fun o => by rw [mset_ne jks]; exact hks
  refine (show onO (dkOf _ (.ref ks)) _ from ?_)
  rw [show dkOf (mset m j _) (.ref ks) = some (stk s) from by show moK (mset m j _ ks) = _; rw [hks1]; rfl]
  refine Or.inr fun f hf => ?_
  have fj : f ≠ j := fun e => by rw [e, mset_same] at hf; cases hf
  have hf0 : m f = none := by rw [mset_ne fj] at hf; exact hf
  refine ⟨j, _, _, _, rfl, by rw [mset_ne (Ne.symm fj), mset_same], T.c_Giving, T.f_free, by decide, ?_⟩
  rw [mset_comm fj, mset_mset]
  refine Or.inr fun h' hh => ?_
  have hj1 : h' ≠ j := fun e => by rw [e, mset_ne (Ne.symm fj), mset_same] at hh; cases hh
  have hf1 : h' ≠ f := fun e => by rw [e, mset_same] at hh; cases hh
  have hh0 : m h' = none := by rw [mset_ne hf1, mset_ne hj1] at hh; exact hh
  refine ⟨j, _, _, _, rfl, by rw [mset_ne (Ne.symm hj1), mset_ne (Ne.symm fj), mset_same], T.c_Giving, T.f_holds, by decide, ?_⟩
  rw [mset_comm hj1, mset_comm fj, mset_mset]
  simp only [withI_l]
  refine lc_over rows Ak.row (fun _ => some (.int 0)) trivial (by unfold sizeLine; omega) (fun a ha acc k2 hacc hk2 => ?_) ?_
  · walk_at "nf"
    exact br_t rfl ⟨hacc, hk2⟩
  rw [fm_some]
  refine Or.inr fun g hg => ?_
  have gh1 : g ≠ h' := fun e => by rw [e, mset_same] at hg; cases hg
  have gf1 : g ≠ f := fun e => by rw [e, mset_ne (Ne.symm hf1), mset_same] at hg; cases hg
  have gj1 : g ≠ j := fun e => by rw [e, mset_ne (Ne.symm hj1), mset_ne (Ne.symm fj), mset_same] at hg; cases hg
  have hg0 : m g = none := by rw [mset_ne gh1, mset_ne gf1, mset_ne gj1] at hg; exact hg
  refine ⟨j, _, _, _, rfl, by rw [mset_ne (Ne.symm gj1), mset_ne (Ne.symm hj1), mset_ne (Ne.symm fj), mset_same], T.c_Giving, T.f_got, by decide, ?_⟩
  rw [mset_comm gj1, mset_comm hj1, mset_comm fj, mset_mset]
  have ez : rows.map (fun _ => D.int 0) = ((List.replicate rows.length (0 : Int)).map D.int) := by rw [List.map_const', List.map_replicate]
  rw [ez]
  generalize hM : mset (mset (mset (mset m j _) f _) h' _) g _ = M
  have A0 : GA K M j f h' g rows wants s [] (List.replicate rows.length 0) := by
    rw [← hM]
    refine ⟨?_, ?_, ?_, mset_same⟩
    · rw [mset_ne (Ne.symm gj1), mset_ne (Ne.symm hj1), mset_ne (Ne.symm fj), mset_same]; rfl
    · rw [mset_ne (Ne.symm gf1), mset_ne (Ne.symm hf1), mset_same]
    · rw [mset_ne (Ne.symm gh1), mset_same]; rfl
  have fM : ∀ i, i ≠ j → m i ≠ none → M i = m i := fun i h1 h2 => by
    rw [← hM, mset_ne (ne_none h2 hg0), mset_ne (ne_none h2 hh0), mset_ne (ne_none h2 hf0), mset_ne h1]
  have z0 : GZ rows s [] := ⟨ro.n, ro.fl, ro.fn, ok.ln, by simp, by simp⟩
  have e0 : gsOf s [] (List.replicate rows.length 0) = ⟨sv s, fun _ _ => 0, fun _ => 0⟩ := by
    unfold gsOf
    congr 1
    funext i
    rw [List.getD_eq_getElem?_getD, List.getElem?_replicate]
    split <;> rfl
  have D0 : GV.Dealt 0 (fitsN rows) (wantN wants) U (sv s) (gsOf s [] (List.replicate rows.length 0)) := by
    rw [e0]; exact GV.dealt_zero (sv_nn ok.nn)
  unfold t_Giving___init___1
  walk_at "nf"
  refine lenR_of (xs := rows.map Ak.row) rfl ?_
  rw [List.length_map]
  refine And.intro ⟨by omega, by omega⟩ ?_
  rw [Int.toNat_natCast, range_map]
  refine for_inv (fun i ρ m' => ∃ (fr : Stk) (hl : Hld) (got : List Int) (x4 : Option D), ρ = [some (.ref j), some (.lst (rows.map Ak.row)), some (.lst (wants.map D.int)), some (.ref ks), x4, none] ∧ (∀ i, i ≠ f → i ≠ h' → i ≠ g → m' i = M i) ∧ GA K m' j f h' g rows wants fr hl got ∧ GZ rows fr hl ∧ GL rows wants got ∧ fr.map (·.1) = s.map (·.1) ∧ GV.Dealt i (fitsN rows) (wantN wants) U (sv s) (gsOf fr hl got))
    ⟨s, [], _, none, rfl, fun _ _ _ _ => rfl, A0, z0, ⟨wl, by simp⟩, rfl, D0⟩ (fun _ _ _ _ => trivial) (fun i d ρ m' ei p k2 hk2 => ?_) fun ρ m' p => ?_
  · obtain ⟨fr, hl, got, x4, rfl, fm, A, z, gl, ek, Dl⟩ := p
    rw [List.getElem?_map] at ei
    cases e : (List.range rows.length)[i]? with
    | none => rw [e] at ei; cases ei
    | some u =>
      rw [e] at ei
      have hi := (List.getElem?_eq_some_iff.mp e).1
      rw [List.length_range] at hi
      rw [List.getElem?_range hi] at e
      cases e
      obtain rfl := Option.some.inj ei
      unfold t_Giving___init___0
      walk_at "nf"
      refine ⟨_, _, insOf_ref A.j, by decide, j, f, h', g, rows, wants, fr, hl, got, i, U, sv s, rfl, A, ⟨z, gl, hi⟩, ⟨hU, hF, w0⟩, Dl, fun m2 fr2 hl2 got2 fm2 A2 z2 gl2 ek2 D2 => ?_⟩
      exact hk2 _ _ ⟨fr2, hl2, got2, _, rfl, fun i h1 h2 h3 => by rw [fm2 i h1 h2 h3, fm i h1 h2 h3], A2, z2, gl2, ek2.trans ek, D2⟩
  · obtain ⟨fr, hl, got, x4, rfl, fm, A, z, gl, ek, Dl⟩ := p
    rw [List.length_map, List.length_range] at Dl
    refine fin (h m' f h' g fr hl got (fun i h1 h2 => ?_) ⟨hf0, hh0, hg0⟩ A z gl ek Dl)
    rw [fm i (ne_none h2 hf0) (ne_none h2 hh0) (ne_none h2 hg0)]
    exact fM i h1 h2
end HL

namespace HL
open PySem L2 DL DM
local macro_rules | `(tactic| walk_at "nf") => `(tactic| try simp only [dSeq, dIfS, dOr, dAnd, dNot, dTest, dCB, dCons, dNil, dVar, dC, dRet, dRetN, dNext, dAsg, gN, gt2, dOp, dUn, dAndV, dOrV, dNotV, dIf, dLst, dTup, dCall, dMeth, dProp, dMake, dFld, dSl, dPart, dNoPart, dDrop, dPar, dPar3, dBm, dRev, dSetF, dBits, gSet, gTup', gCons', gNil', dDGet, dDIn, dDGet2, dDGet1, dDPut, dNewK, dNewT, iL_eq, iEn, on1, on2, onO_some, addI, subI, intC, onI_i, onS_s, onB_b, iT, iR1, iR2, dLc, dFor, lcBody, dLc2_eq, lcBody2, dDc, dcBody, dYes, wipeD, atE, startD, List.map_cons, List.map_nil, List.length_cons, List.length_nil, List.cons_append, List.nil_append, List.replicate, List.getElem?_cons_zero, List.getElem?_cons_succ, List.set_cons_zero, List.set_cons_succ, Nat.reduceSub, Nat.reduceAdd, Nat.reduceEqDiff, if_true, if_false])
/-! ### how many bags rows can get together -/
def rsOf (rows : List Ak) (wants : List Int) : List (List Str × Int) := List.zipWith (fun a w => (a.fits, w)) rows wants
theorem rsOf_len {rows : List Ak} {wants : List Int} (h : wants.length = rows.length) : (rsOf rows wants).length = rows.length := by
  unfold rsOf; rw [List.length_zipWith, h, Nat.min_self]
theorem rsOf_take (rows : List Ak) (wants : List Int) (i : Nat) : (rsOf rows wants).take i = rsOf (rows.take i) (wants.take i) := by
  unfold rsOf; rw [List.take_zipWith]
theorem rsOf_get {rows : List Ak} {wants : List Int} (h : wants.length = rows.length) (i : Nat) : (rsOf rows wants)[i]? = (rows[i]?).map fun a => (a.fits, wantN wants i) := by
  unfold rsOf
  rw [List.getElem?_zipWith]
  cases e : rows[i]? with
  | none => rfl
  | some a =>
    have hi := (List.getElem?_eq_some_iff.mp e).1
    rw [List.getElem?_eq_getElem (show i < wants.length by omega)]
    simp [wantN, List.getD_eq_getElem?_getD, List.getElem?_eq_getElem (show i < wants.length by omega)]
theorem fitsAt_rs {rows : List Ak} {wants : List Int} (h : wants.length = rows.length) : GV.fitsAt (rsOf rows wants) = fitsN rows := by
  funext i
  unfold GV.fitsAt fitsN
  rw [rsOf_get h]
  cases rows[i]? <;> rfl
theorem wantAt_rs {rows : List Ak} {wants : List Int} (h : wants.length = rows.length) : GV.wantAt (rsOf rows wants) = wantN wants := by
  funext i
  unfold GV.wantAt
  rw [rsOf_get h]
  cases e : rows[i]? with
  | none =>
    have := List.getElem?_eq_none_iff.mp e
    simp [wantN, List.getD_eq_getElem?_getD, List.getElem?_eq_none (show wants.length ≤ i by omega)]
  | some a => rfl
/-- the kinds, each once -/
def kdU (rows : List Ak) : List Str := ddS (kds rows)
theorem ddS_nodup : ∀ l : List Str, (ddS l).Nodup
  | [] => List.nodup_nil
  | y :: r => by
    unfold ddS
    split
    · exact ddS_nodup r
    · rename_i q
      exact List.nodup_cons.mpr ⟨fun z => q (mem_dd.mp z), ddS_nodup r⟩
theorem kdU_nodup (rows : List Ak) : (kdU rows).Nodup := ddS_nodup _
theorem mem_kdU {rows : List Ak} {x : Str} : x ∈ kdU rows ↔ ∃ a ∈ rows, x ∈ a.fits := by
  unfold kdU
  rw [mem_dd]
  unfold kds
  rw [List.mem_flatMap]
theorem fitsN_mem {rows : List Ak} {i : Nat} {x : Str} (h : x ∈ fitsN rows i) : ∃ a, rows[i]? = some a ∧ x ∈ a.fits := by
  unfold fitsN at h
  cases e : rows[i]? with
  | none => rw [e] at h; cases h
  | some a => rw [e] at h; exact ⟨a, rfl, h⟩
theorem fits_U (rows : List Ak) (i : Nat) (x : Str) (h : x ∈ fitsN rows i) : x ∈ kdU rows := by
  obtain ⟨a, ha, hx⟩ := fitsN_mem h
  exact mem_kdU.mpr ⟨a, List.mem_of_getElem? ha, hx⟩
/-- as many bags as rows can get together, each at most what it wants -/
def mostW (rows : List Ak) (wants : List Int) (st : Str → Int) : Int := GV.most (kdU rows) st (rsOf rows wants)
theorem held_U {U V : List Str} {st : Str → Int} {P : Str → Bool} (hU : U.Nodup) (hV : V.Nodup) (h1 : ∀ x, P x = true → x ∈ U) (h2 : ∀ x, P x = true → x ∈ V) : GV.heldL U st P = GV.heldL V st P := by
  have go : ∀ U : List Str, U.Nodup → (∀ x, P x = true → x ∈ U) → GV.heldL U st P = GV.sumL (U.filter P) st := fun U _ _ => by unfold GV.heldL; rw [GV.sumL_filter]
  rw [go U hU h1, go V hV h2]
  refine GV.sumL_perm ?_
  rw [List.perm_ext_iff_of_nodup (hU.sublist List.filter_sublist) (hV.sublist List.filter_sublist)]
  intro x
  simp only [List.mem_filter]
  exact ⟨fun h => ⟨h2 x h.2, h.2⟩, fun h => ⟨h1 x h.2, h.2⟩⟩
theorem most_U {rs : List (List Str × Int)} {U V : List Str} {st : Str → Int} (hU : U.Nodup) (hV : V.Nodup) (h1 : ∀ i x, x ∈ GV.fitsAt rs i → x ∈ U) (h2 : ∀ i x, x ∈ GV.fitsAt rs i → x ∈ V) : GV.most U st rs = GV.most V st rs := by
  have e : ∀ L, GV.totN rs.length (GV.fitsAt rs) (GV.wantAt rs) U st L = GV.totN rs.length (GV.fitsAt rs) (GV.wantAt rs) V st L := fun L => by
    unfold GV.totN
    congr 1
    refine held_U hU hV (fun x hx => ?_) fun x hx => ?_
    · obtain ⟨i, _, _, h⟩ := GV.fitP_iff.mp hx; exact h1 i x h
    · obtain ⟨i, _, _, h⟩ := GV.fitP_iff.mp hx; exact h2 i x h
  refine Int.le_antisymm ?_ ?_
  · obtain ⟨L, h⟩ := GV.most_ex (U := V) (st := st) rs
    rw [h, ← e]; exact GV.most_le rs L
  · obtain ⟨L, h⟩ := GV.most_ex (U := U) (st := st) rs
    rw [h, e]; exact GV.most_le rs L
theorem fitsN_take {rows : List Ak} {i k : Nat} {x : Str} (h : x ∈ fitsN (rows.take k) i) : x ∈ fitsN rows i := by
  unfold fitsN at h ⊢
  rw [List.getElem?_take] at h
  split at h
  · exact h
  · cases h
theorem take_len' {rows : List Ak} {wants : List Int} (h : wants.length = rows.length) (i : Nat) : (wants.take i).length = (rows.take i).length := by rw [List.length_take, List.length_take, h]
/-- what each one gets, one behind the other -/
def gotW (rows : List Ak) (wants : List Int) (st : Str → Int) (i : Nat) : Int := mostW (rows.take (i + 1)) (wants.take (i + 1)) st - mostW (rows.take i) (wants.take i) st
theorem dealt_sum {rows : List Ak} {wants : List Int} {st : Str → Int} {g : GV.GS Str} {U : List Str} (hl : wants.length = rows.length) (fn : ∀ i, (fitsN rows i).Nodup) (hU : U.Nodup) (hF : ∀ i x, x ∈ fitsN rows i → x ∈ U) (Dl : GV.Dealt rows.length (fitsN rows) (wantN wants) U st g) {i : Nat} (hi : i ≤ rows.length) :
    GV.sumN i g.got = mostW (rows.take i) (wants.take i) st := by
  have ln := rsOf_len hl
  have Dl2 : GV.Dealt (rsOf rows wants).length (GV.fitsAt (rsOf rows wants)) (GV.wantAt (rsOf rows wants)) U st g := by rw [ln, fitsAt_rs hl, wantAt_rs hl]; exact Dl
  rw [GV.dealt_most Dl2 (by rw [fitsAt_rs hl]; exact fn) hU (by rw [fitsAt_rs hl]; exact hF) (by rw [ln]; exact hi), rsOf_take]
  unfold mostW
  have e := fitsAt_rs (take_len' hl i)
  refine most_U hU (kdU_nodup _) (fun u x h => ?_) fun u x h => ?_
  · rw [e] at h; exact hF u x (fitsN_take h)
  · rw [e] at h; exact fits_U _ u x h
theorem dealt_got {rows : List Ak} {wants : List Int} {st : Str → Int} {g : GV.GS Str} {U : List Str} (hl : wants.length = rows.length) (fn : ∀ i, (fitsN rows i).Nodup) (hU : U.Nodup) (hF : ∀ i x, x ∈ fitsN rows i → x ∈ U) (Dl : GV.Dealt rows.length (fitsN rows) (wantN wants) U st g) {i : Nat} (hi : i < rows.length) :
    g.got i = gotW rows wants st i := by
  have h1 := dealt_sum hl fn hU hF Dl (i := i + 1) (by omega)
  have h2 := dealt_sum hl fn hU hF Dl (i := i) (by omega)
  rw [GV.sumN_succ] at h1
  unfold gotW
  omega
/-- the mosts -/
def msts (rows : List Ak) : List Int := rows.map Ak.most
theorem msts_len (rows : List Ak) : (msts rows).length = rows.length := List.length_map _
theorem msts_nn {rows : List Ak} (h : ∀ a ∈ rows, 1 ≤ a.most) (i : Nat) : 0 ≤ wantN (msts rows) i := by
  unfold wantN msts
  rw [List.getD_eq_getElem?_getD, List.getElem?_map]
  cases e : rows[i]? with
  | none => exact Int.le_refl _
  | some a => have := h a (List.mem_of_getElem? e); simp; omega
theorem LnOk.rows {l : List Ak} (h : LnOk l) : RowsOk l := ⟨h.ln, fun a ha => (h.ok a ha).ln, fun a ha => (h.ok a ha).nd⟩
theorem sumN_list {got : List Int} : GV.sumN got.length (fun i => got.getD i 0) = got.sum := by
  have : ∀ l : List Int, GV.sumN l.length (fun i => l.getD i 0) = l.sum := by
    intro l
    induction l with
    | nil => rfl
    | cons a l ih =>
      rw [List.length_cons, GV.sumN_first, List.sum_cons, ← ih]
      rfl
  exact this got
/-- what is told of a giving behind its making -/
structure GvOk (K : PySem.W.Frag) (m m' : Mu) (j g : Nat) (rows : List Ak) (wants : List Int) (st : Str → Int) (got : List Int) : Prop where
  keep : ∀ i, m i ≠ none → m' i = m i
  len : got.length = rows.length
  val : ∀ i, i < rows.length → got.getD i 0 = gotW rows wants st i
  sum : got.sum = mostW rows wants st
theorem GvOk.sub {K : PySem.W.Frag} {m m' : Mu} {j g : Nat} {rows : List Ak} {wants : List Int} {st : Str → Int} {got : List Int} (h : GvOk K m m' j g rows wants st got) : Sub m m' := fun i o e => by
  rw [h.keep i (by rw [e]; exact fun z => nomatch z)]; exact e
/-- Giving(rows, wants, stock) -/
theorem mkG {K : PySem.W.Frag} {rows : List Ak} {wants : List Int} {s : Stk} {ks : Nat} {m : Mu} {F : DK} (hks : m ks = some (.dK (stk s))) (ok : StOk s) (ro : RowsOk rows) (wl : wants.length = rows.length) (w0 : ∀ i, 0 ≤ wantN wants i)
    (h : ∀ (m' : Mu) (j f h g : Nat) (fr : Stk) (hl : Hld) (got : List Int), GvOk K m m' j g rows wants (sv s) got → GA K m' j f h g rows wants fr hl got → (m j = none ∧ m f = none ∧ m h = none ∧ m g = none) → GZ rows fr hl → fr.map (·.1) = s.map (·.1) → GV.Dealt rows.length (fitsN rows) (wantN wants) (kdU rows) (sv s) (gsOf fr hl got) → F (.ref j) m') :
    ∀ j, m j = none → S_Giving___init__ K (.ref j :: [.lst (rows.map Ak.row), .lst (wants.map D.int), .ref ks]) (mset m j (.ins (ga K "Giving") [] [])) fun r m2 => r = .non ∧ Fin F (.ref j) m2 := fun j hj =>
  ⟨j, ks, rows, wants, s, kdU rows, rfl, mset_same, by rw [mset_ne (ne_of_mu hks hj)]; exact hks, ⟨ok, ro, wl, w0⟩, ⟨kdU_nodup rows, fits_U rows⟩, fun m' f h' g fr hl got fm hfr A z gl ek Dl => ⟨rfl, by
    have nj : ∀ {i}, mset m j (.ins (ga K "Giving") [] []) i = none → m i = none := fun {i} e => by
      by_cases q : i = j
      · rw [q, mset_same] at e; cases e
      · rw [mset_ne q] at e; exact e
    refine fin (h m' j f h' g fr hl got ⟨fun i hi => ?_, gl.g, fun i hi => ?_, ?_⟩ A ⟨hj, nj hfr.1, nj hfr.2.1, nj hfr.2.2⟩ z ek Dl)
    · have : i ≠ j := fun e => hi (e ▸ hj)
      rw [fm i this (by rw [mset_ne this]; exact hi), mset_ne this]
    · exact dealt_got wl (fitsN_nd z) (kdU_nodup rows) (fits_U rows) Dl hi
    · have e := dealt_sum wl (fitsN_nd z) (kdU_nodup rows) (fits_U rows) Dl (Nat.le_refl _)
      rw [List.take_length, ← wl, List.take_length, wl] at e
      rw [← e, ← sumN_list, gl.g]
      rfl⟩⟩
section
variable {K : PySem.W.Frag}
def S_most_together : SpD := fun ds m F => ∃ (rows : List Ak) (ks : Nat) (s : Stk), ds = [.lst (rows.map Ak.row), .ref ks] ∧ m ks = some (.dK (stk s)) ∧ (StOk s ∧ RowsOk rows ∧ ∀ a ∈ rows, 1 ≤ a.most) ∧ F (.int (mostW rows (msts rows) (sv s))) m
theorem msts_map (rows : List Ak) : rows.map (fun a => D.int a.most) = (msts rows).map D.int := by unfold msts; rw [List.map_map]; rfl
theorem pure_most_together (T : HFG K) (ds : List D) (m : Mu) (G : DK) (h : S_most_together ds m G) : t_most_together K (S_Giving___init__ K) S_mosts_of { nx := fun _ m' => Fin G .non m', rt := Fin G } (startD 2 ds) m := by
  obtain ⟨rows, ks, s, rfl, hks, ⟨ok, ro, h1⟩, h⟩ := h
  unfold t_most_together t_most_together_0
  walk_at "nf"
  refine ⟨_, rows, rfl, rfl, ro.n, new_l ?_⟩
  rw [msts_map]
  refine mkG hks ok ro (msts_len rows) (msts_nn h1) fun m' j f h' g fr hl got G1 A fresh z ek Dl => ?_
  refine fld_got T A ?_
  refine ⟨_, A.g, got, rfl, ?_⟩
  rw [G1.sum]
  exact fin_drop G1.sub h
def S_giving_of (K : PySem.W.Frag) : SpD := fun ds m F => ∃ (l : List Ak) (ks : Nat) (s : Stk), ds = [LnD K l, .ref ks] ∧ m ks = some (.dK (stk s)) ∧ (StOk s ∧ LnOk l) ∧
  ∀ (m' : Mu) (j f h g : Nat) (fr : Stk) (hl : Hld) (got : List Int), GvOk K m m' j g l (msts l) (sv s) got → GA K m' j f h g l (msts l) fr hl got → (m j = none ∧ m f = none ∧ m h = none ∧ m g = none) → GZ l fr hl → fr.map (·.1) = s.map (·.1) → GV.Dealt l.length (fitsN l) (wantN (msts l)) (kdU l) (sv s) (gsOf fr hl got) → F (.ref j) m'
theorem pure_giving_of (T : HF K) (ds : List D) (m : Mu) (G : DK) (h : S_giving_of K ds m G) : t_giving_of K (S_Giving___init__ K) S_mosts_of { nx := fun _ m' => Fin G .non m', rt := Fin G } (startD 2 ds) m := by
  obtain ⟨l, ks, s, rfl, hks, ⟨ok, lk⟩, h⟩ := h
  unfold t_giving_of t_giving_of_0
  walk_at "nf"
  refine ⟨_, _, _, _, rfl, T.c_Line, T.f_Line_every, rfl, ?_⟩
  refine lst_t ?_
  refine ⟨_, _, _, _, rfl, T.c_Line, T.f_Line_every, rfl, ?_⟩
  refine ⟨_, l, rfl, rfl, lk.ln, new_l ?_⟩
  rw [msts_map]
  refine mkG hks ok lk.rows (msts_len l) (msts_nn fun a ha => (lk.ok a ha).ms) fun m' j f h' g fr hl got G1 A fresh z ek Dl => ?_
  exact fin (h m' j f h' g fr hl got G1 A fresh z ek Dl)
/-- the deal -/
def dealL (l : List Ak) (st : Str → Int) : List (Str × Int) := l.mapIdx fun i a => (a.name, gotW l (msts l) st i)
def pairD (p : Str × Int) : D := .tup [.str p.1, .int p.2]
theorem enum_row (l : List Ak) : enumD (l.map Ak.row) = (List.range l.length).map fun i => D.tup [.int (i : Nat), (l.getD i ⟨"", [], 0⟩).row] := by
  refine List.ext_getElem? fun i => ?_
  unfold enumD
  rw [List.getElem?_mapIdx, List.getElem?_map, List.getElem?_map]
  by_cases hi : i < l.length
  · rw [List.getElem?_range hi, List.getElem?_eq_getElem hi]
    simp [List.getD_eq_getElem?_getD, List.getElem?_eq_getElem hi]
  · rw [List.getElem?_eq_none (by omega), List.getElem?_eq_none (by rw [List.length_range]; omega)]; rfl
theorem dealL_eq (l : List Ak) (st : Str → Int) : (dealL l st).map pairD = (List.range l.length).map fun i => pairD ((l.getD i ⟨"", [], 0⟩).name, gotW l (msts l) st i) := by
  refine List.ext_getElem? fun i => ?_
  unfold dealL
  rw [List.getElem?_map, List.getElem?_mapIdx, List.getElem?_map]
  by_cases hi : i < l.length
  · rw [List.getElem?_range hi, List.getElem?_eq_getElem hi]
    simp [List.getD_eq_getElem?_getD, List.getElem?_eq_getElem hi]
  · rw [List.getElem?_eq_none (by omega), List.getElem?_eq_none (by rw [List.length_range]; omega)]; rfl
def S_dealt (K : PySem.W.Frag) : SpD := fun ds m F => ∃ (l : List Ak) (ks : Nat) (s : Stk), ds = [LnD K l, .ref ks] ∧ m ks = some (.dK (stk s)) ∧ (StOk s ∧ LnOk l) ∧ New (.lst ((dealL l (sv s)).map pairD)) m F
theorem new_sub {o : MO} {m m' : Mu} {F : DK} (s : Sub m m') (h : New o m F) : New o m' (Fin F) := by
  rcases h with h | h
  · exact .inl (fin_drop s h)
  · refine .inr fun k hk => ?_
    have hk0 : m k = none := by
      cases e : m k with
      | none => rfl
      | some u => rw [s k u e] at hk; cases hk
    refine fin_drop (fun i u e => ?_) (h k hk0)
    by_cases q : i = k
    · rw [q, mset_same] at e ⊢; exact e
    · rw [mset_ne q] at e ⊢; exact s i u e
theorem pure_dealt (T : HF K) (TG : HFG K) (ds : List D) (m : Mu) (G : DK) (h : S_dealt K ds m G) : t_dealt K (S_giving_of K) { nx := fun _ m' => Fin G .non m', rt := Fin G } (startD 5 ds) m := by
  obtain ⟨l, ks, s, rfl, hks, ⟨ok, lk⟩, h⟩ := h
  have ln := lk.ln
  unfold t_dealt t_dealt_1
  refine seq_nx ?_
  walk_at "nf"
  refine ⟨l, ks, s, rfl, hks, ⟨ok, lk⟩, fun m' j f h' g fr hl got G1 A fresh z ek Dl => ?_⟩
  refine fld_got TG A ?_
  unfold t_dealt_0
  walk_at "nf"
  refine ⟨_, _, _, _, rfl, T.c_Line, T.f_Line_every, rfl, ?_⟩
  show lcRun _ _ (enumD (l.map Ak.row)) [] m' _
  rw [enum_row]
  refine lc_over (List.range l.length) _ (fun i => some (pairD ((l.getD i ⟨"", [], 0⟩).name, gotW l (msts l) (sv s) i))) trivial (by rw [List.length_range]; unfold sizeLine; omega) (fun i hi acc k2 hacc hk2 => ?_) ?_
  · have hi := List.mem_range.mp hi
    walk_at "nf"
    refine And.intro trivial ?_
    refine br_t rfl ?_
    refine ixT (k := 0) (x := .str (l.getD i ⟨"", [], 0⟩).name) rfl ?_
    refine ⟨_, A.g, onO_of (atI_n (got_at G1.len hi)) ?_⟩
    rw [G1.val i hi]
    refine And.intro (by decide) ?_
    exact ⟨hacc, hk2⟩
  · rw [fm_some, ← dealL_eq]
    exact new_sub G1.sub h
def S_deal (K : PySem.W.Frag) : SpD := S_dealt K
theorem pure_deal (ds : List D) (m : Mu) (G : DK) (h : S_deal K ds m G) : t_deal K (S_dealt K) S_check_stock (S_check_line K) { nx := fun _ m' => Fin G .non m', rt := Fin G } (startD 2 ds) m := by
  obtain ⟨l, ks, s, rfl, hks, ⟨ok, lk⟩, h⟩ := h
  unfold t_deal t_deal_2 t_deal_1 t_deal_0
  walk_at "nf"
  exact ⟨l, rfl, ks, s, rfl, hks, ok, l, ks, s, rfl, hks, ⟨ok, lk⟩, new_fin h⟩
def S_together (K : PySem.W.Frag) : SpD := fun ds m F => ∃ (l l' : List Ak) (d : D) (ks : Nat) (s : Stk), ds = [LnD K l, d, .ref ks] ∧ lstOf m d = some ((nms l').map D.str) ∧ m ks = some (.dK (stk s)) ∧ (StOk s ∧ LnOk l ∧ (∀ a ∈ l', a ∈ l) ∧ (nms l').Nodup) ∧ F (.int (mostW l' (msts l') (sv s))) m
theorem sub_lines {l l' : List Ak} (lk : LnOk l) (h1 : ∀ a ∈ l', a ∈ l) (nd : (nms l').Nodup) : LnOk l' := by
  refine ⟨fun a ha => lk.ok a (h1 a ha), nd, ?_⟩
  have := sub_len nd (b := nms l) fun x hx => by
    obtain ⟨a, ha, rfl⟩ := List.mem_map.mp hx
    exact List.mem_map.mpr ⟨a, h1 a ha, rfl⟩
  rw [nms_len, nms_len] at this
  have := lk.ln
  omega
theorem pure_together (ds : List D) (m : Mu) (G : DK) (h : S_together K ds m G) : t_together K S_most_together (S_rows_of K) S_check_stock (S_check_names K) (S_check_line K) { nx := fun _ m' => Fin G .non m', rt := Fin G } (startD 3 ds) m := by
  obtain ⟨l, l', d, ks, s, rfl, hd, hks, ⟨ok, lk, hs, nd⟩, h⟩ := h
  have lk' := sub_lines lk hs nd
  unfold t_together t_together_3 t_together_2 t_together_1 t_together_0
  walk_at "nf"
  refine ⟨l, rfl, l, d, nms l', rfl, hd, ⟨lk, nd, fun x hx => ?_⟩, ks, s, rfl, hks, ok, ?_⟩
  · obtain ⟨a, ha, rfl⟩ := List.mem_map.mp hx
    exact List.mem_map.mpr ⟨a, hs a ha, rfl⟩
  refine ⟨l, l', d, rfl, hd, ⟨lk, hs, lk'.ln⟩, new_l ?_⟩
  exact ⟨l', ks, s, rfl, hks, ⟨ok, lk'.rows, fun a ha => (lk'.ok a ha).ms⟩, fin h⟩
/-- what is due to the last one behind the others -/
def S_due (K : PySem.W.Frag) : SpD := fun ds m F => ∃ (l l' : List Ak) (a : Ak) (ks : Nat) (s : Stk), ds = [LnD K l, .str a.name, .lst ((nms l').map D.str), .ref ks] ∧ m ks = some (.dK (stk s)) ∧ (StOk s ∧ LnOk l ∧ (∀ b ∈ l' ++ [a], b ∈ l) ∧ (nms (l' ++ [a])).Nodup) ∧
  F (.int (mostW (l' ++ [a]) (msts (l' ++ [a])) (sv s) - mostW l' (msts l') (sv s))) m
theorem pure_due (TG : HFG K) (ds : List D) (m : Mu) (G : DK) (h : S_due K ds m G) : t_due K (S_Giving___init__ K) (S_rows_of K) S_mosts_of S_check_stock (S_check_names K) (S_Line_place K) (S_check_line K) { nx := fun _ m' => Fin G .non m', rt := Fin G } (startD 4 ds) m := by
  obtain ⟨l, l', a, ks, s, rfl, hks, ⟨ok, lk, hs, nd⟩, h⟩ := h
  have lk2 := sub_lines lk hs nd
  have hs' : ∀ b ∈ l', b ∈ l := fun b hb => hs b (List.mem_append.mpr (.inl hb))
  have en : nms (l' ++ [a]) = nms l' ++ [a.name] := by unfold nms; simp
  have nd2 : (nms l').Nodup ∧ a.name ∉ nms l' := by
    rw [en] at nd
    obtain ⟨h1, _, h3⟩ := List.nodup_append.mp nd
    exact ⟨h1, fun z => h3 _ z _ (by simp) rfl⟩
  have lk' := sub_lines lk hs' nd2.1
  have ln2 := lk2.ln
  rw [List.length_append, List.length_singleton] at ln2
  obtain ⟨i, hi⟩ := List.getElem?_of_mem (hs a (by simp))
  unfold t_due t_due_5 t_due_4 t_due_3 t_due_2 t_due_1 t_due_0
  walk_at "nf"
  refine ⟨l, rfl, ?_⟩
  refine ⟨_, _, rfl, by decide, l, i, a, rfl, lk, hi, ?_⟩
  refine ⟨l, _, nms l', rfl, rfl, ⟨lk, nd2.1, fun x hx => ?_⟩, ?_⟩
  · obtain ⟨b, hb, rfl⟩ := List.mem_map.mp hx
    exact List.mem_map.mpr ⟨b, hs' b hb, rfl⟩
  refine And.intro ⟨rfl, flat_strs' _⟩ ?_
  refine br_f (by rw [in_strs, decide_eq_false nd2.2]; rfl) ?_
  refine ⟨ks, s, rfl, hks, ok, ?_⟩
  refine And.intro (by decide) (new_l ?_)
  have eadd : ((nms l').map D.str) ++ [D.str a.name] = (nms (l' ++ [a])).map D.str := by rw [en, List.map_append]; rfl
  refine add_lst (by simp only [List.length_map, List.length_cons, List.length_nil, nms_len]; unfold sizeLine; omega) ?_
  rw [eadd]
  refine ⟨l, l' ++ [a], _, rfl, rfl, ⟨lk, hs, lk2.ln⟩, new_l ?_⟩
  refine And.intro (by decide) (new_l ?_)
  refine add_lst (by simp only [List.length_map, List.length_cons, List.length_nil, nms_len]; unfold sizeLine; omega) ?_
  rw [eadd]
  refine ⟨l, l' ++ [a], _, rfl, rfl, ⟨lk, hs, lk2.ln⟩, new_l ?_⟩
  refine ⟨_, l' ++ [a], rfl, rfl, lk2.ln, new_l ?_⟩
  rw [msts_map]
  refine mkG hks ok lk2.rows (msts_len _) (msts_nn fun a ha => (lk2.ok a ha).ms) fun m' j f h' g fr hl got G1 A fresh z ek Dl => ?_
  refine fld_got TG A ?_
  have gl := G1.len
  rw [List.length_append, List.length_singleton] at gl
  have hne : got.map D.int ≠ [] := fun e => by
    have := congrArg List.length e
    rw [List.length_map] at this
    simp at this; rw [this] at gl; simp at gl
  refine ⟨_, A.g, onO_of (atI_last hne) ?_⟩
  have hv_ : (got.map D.int).getLast hne = .int (mostW (l' ++ [a]) (msts (l' ++ [a])) (sv s) - mostW l' (msts l') (sv s)) := by
    have e1 := G1.val l'.length (by rw [List.length_append, List.length_singleton]; omega)
    unfold gotW at e1
    have t1 : (l' ++ [a]).take (l'.length + 1) = l' ++ [a] := List.take_of_length_le (by simp)
    have t2 : (msts (l' ++ [a])).take (l'.length + 1) = msts (l' ++ [a]) := List.take_of_length_le (by rw [msts_len]; simp)
    have t3 : (l' ++ [a]).take l'.length = l' := by simp
    have t4 : (msts (l' ++ [a])).take l'.length = msts l' := by unfold msts; rw [List.map_append]; simp
    rw [t1, t2, t3, t4] at e1
    rw [List.getLast_eq_getElem]
    simp only [List.getElem_map, List.length_map]
    congr 1
    rw [← e1, List.getD_eq_getElem?_getD, List.getElem?_eq_getElem (show l'.length < got.length by omega)]
    simp only [Option.getD_some]
    congr 1
    omega
  rw [hv_]
  exact fin_drop G1.sub h
end
end HL

namespace HL
open PySem L2 DL DM
local macro_rules | `(tactic| walk_at "nf") => `(tactic| try simp only [dSeq, dIfS, dOr, dAnd, dNot, dTest, dCB, dCons, dNil, dVar, dC, dRet, dRetN, dNext, dAsg, gN, gt2, dOp, dUn, dAndV, dOrV, dNotV, dIf, dLst, dTup, dCall, dMeth, dProp, dMake, dFld, dSl, dPart, dNoPart, dDrop, dPar, dPar3, dBm, dRev, dSetF, dBits, gSet, gTup', gCons', gNil', dDGet, dDIn, dDGet2, dDGet1, dDPut, dNewK, dNewT, iL_eq, iEn, on1, on2, onO_some, addI, subI, intC, onI_i, onS_s, onB_b, iT, iR1, iR2, dLc, dFor, lcBody, dLc2_eq, lcBody2, dDc, dcBody, dYes, wipeD, atE, startD, List.map_cons, List.map_nil, List.length_cons, List.length_nil, List.cons_append, List.nil_append, List.replicate, List.getElem?_cons_zero, List.getElem?_cons_succ, List.set_cons_zero, List.set_cons_succ, Nat.reduceSub, Nat.reduceAdd, Nat.reduceEqDiff, if_true, if_false])
/-! ### least sums over lots -/
theorem sumL_sum {α : Type} (f : α → Int) : ∀ l : List α, GV.sumL l f = (l.map f).sum
  | [] => rfl
  | a :: l => by rw [GV.sumL, List.map_cons, List.sum_cons, sumL_sum f l]
theorem sumN_get {α : Type} (d : α) (f : α → Int) : ∀ l : List α, GV.sumN l.length (fun i => f (l.getD i d)) = GV.sumL l f
  | [] => rfl
  | a :: l => by
    rw [List.length_cons, GV.sumN_first, GV.sumL, ← sumN_get d f l]
    rfl
def fitA (rows : List Ak) (P : Ak → Bool) (x : Str) : Bool := rows.any fun a => P a && decide (x ∈ a.fits)
theorem fitA_iff {rows : List Ak} {P : Ak → Bool} {x : Str} : fitA rows P x = true ↔ ∃ a ∈ rows, P a = true ∧ x ∈ a.fits := by
  unfold fitA
  rw [List.any_eq_true]
  simp only [Bool.and_eq_true, decide_eq_true_eq]
/-- the mosts outside of a lot and all bags that fit it -/
def totA (rows : List Ak) (st : Str → Int) (P : Ak → Bool) : Int := GV.sumL rows (fun a => if P a then 0 else a.most) + GV.heldL (kdU rows) st (fitA rows P)
def dA : Ak := ⟨"", [], 0⟩
theorem want_get {rows : List Ak} {i : Nat} (hi : i < rows.length) : wantN (msts rows) i = (rows.getD i dA).most := by
  unfold wantN msts
  rw [List.getD_eq_getElem?_getD, List.getElem?_map, List.getD_eq_getElem?_getD, List.getElem?_eq_getElem hi]; rfl
theorem fits_get {rows : List Ak} {i : Nat} (hi : i < rows.length) : fitsN rows i = (rows.getD i dA).fits := by
  unfold fitsN
  rw [List.getD_eq_getElem?_getD, List.getElem?_eq_getElem hi]; rfl
theorem get_mem {rows : List Ak} {i : Nat} (hi : i < rows.length) : rows.getD i dA ∈ rows := by
  rw [List.getD_eq_getElem?_getD, List.getElem?_eq_getElem hi]
  exact List.getElem_mem hi
theorem tot_A {rows : List Ak} {st : Str → Int} {P : Ak → Bool} {L : Nat → Bool} (h : ∀ i, i < rows.length → L i = P (rows.getD i dA)) : GV.totN rows.length (fitsN rows) (wantN (msts rows)) (kdU rows) st L = totA rows st P := by
  unfold GV.totN totA
  congr 1
  · rw [← sumN_get dA (fun a => if P a then 0 else a.most) rows]
    exact GV.sumN_congr fun i hi => by rw [h i hi, want_get hi]
  · unfold GV.heldL
    refine GV.sumL_congr fun x _ => ?_
    have : GV.fitP rows.length (fitsN rows) L x = fitA rows P x := by
      rw [Bool.eq_iff_iff, GV.fitP_iff, fitA_iff]
      constructor
      · rintro ⟨i, hi, hL, hx⟩
        exact ⟨_, get_mem hi, by rw [← h i hi]; exact hL, by rw [← fits_get hi]; exact hx⟩
      · rintro ⟨a, ha, hP, hx⟩
        obtain ⟨i, hi⟩ := List.getElem?_of_mem ha
        have hl := (List.getElem?_eq_some_iff.mp hi).1
        have e : rows.getD i dA = a := by rw [List.getD_eq_getElem?_getD, hi]; rfl
        exact ⟨i, hl, by rw [h i hl, e]; exact hP, by rw [fits_get hl, e]; exact hx⟩
    rw [this]
theorem most_le_A (rows : List Ak) (st : Str → Int) (P : Ak → Bool) : mostW rows (msts rows) st ≤ totA rows st P := by
  have := GV.most_le (U := kdU rows) (st := st) (rsOf rows (msts rows)) (fun i => P (rows.getD i dA))
  rw [rsOf_len (msts_len rows), fitsAt_rs (msts_len rows), wantAt_rs (msts_len rows), tot_A (P := P) fun i _ => rfl] at this
  exact this
theorem most_ex_A {rows : List Ak} (nd : rows.Nodup) (st : Str → Int) : ∃ P : Ak → Bool, mostW rows (msts rows) st = totA rows st P := by
  obtain ⟨L, hL⟩ := GV.most_ex (U := kdU rows) (st := st) (rsOf rows (msts rows))
  rw [rsOf_len (msts_len rows), fitsAt_rs (msts_len rows), wantAt_rs (msts_len rows)] at hL
  refine ⟨fun a => (List.range rows.length).any fun i => L i && @decide (rows.getD i dA = a) (Classical.propDecidable _), ?_⟩
  unfold mostW
  rw [hL]
  refine tot_A fun i hi => ?_
  rw [Bool.eq_iff_iff, List.any_eq_true]
  constructor
  · intro h
    exact ⟨i, List.mem_range.mpr hi, by rw [h]; simp⟩
  · rintro ⟨k, hk, h⟩
    rw [Bool.and_eq_true] at h
    have hk := List.mem_range.mp hk
    have e := @of_decide_eq_true _ (Classical.propDecidable _) h.2
    rw [List.getD_eq_getElem?_getD, List.getD_eq_getElem?_getD, List.getElem?_eq_getElem hk, List.getElem?_eq_getElem hi] at e
    have := (List.getElem_inj (h₀ := hk) (h₁ := hi) nd).mp e
    rw [← this]; exact h.1
theorem most_char {rows : List Ak} (nd : rows.Nodup) {st : Str → Int} {v : Int} (h1 : ∀ P, v ≤ totA rows st P) (h2 : ∃ P, totA rows st P ≤ v) : v = mostW rows (msts rows) st := by
  refine Int.le_antisymm ?_ ?_
  · obtain ⟨P, h⟩ := most_ex_A nd st
    rw [h]; exact h1 P
  · obtain ⟨P, h⟩ := h2
    exact Int.le_trans (most_le_A rows st P) h
theorem tot_perm {rows rows' : List Ak} (h : rows.Perm rows') (st : Str → Int) (P : Ak → Bool) : totA rows st P = totA rows' st P := by
  unfold totA
  rw [GV.sumL_perm h]
  congr 1
  have e : fitA rows P = fitA rows' P := by
    funext x
    rw [Bool.eq_iff_iff, fitA_iff, fitA_iff]
    exact ⟨fun ⟨a, ha, q⟩ => ⟨a, h.mem_iff.mp ha, q⟩, fun ⟨a, ha, q⟩ => ⟨a, h.mem_iff.mpr ha, q⟩⟩
  rw [e]
  refine held_U (kdU_nodup _) (kdU_nodup _) (fun x hx => ?_) fun x hx => ?_
  · obtain ⟨a, ha, _, hf⟩ := fitA_iff.mp hx
    exact mem_kdU.mpr ⟨a, h.mem_iff.mpr ha, hf⟩
  · obtain ⟨a, ha, _, hf⟩ := fitA_iff.mp hx
    exact mem_kdU.mpr ⟨a, ha, hf⟩
theorem most_perm {rows rows' : List Ak} (nd : rows.Nodup) (h : rows.Perm rows') (st : Str → Int) : mostW rows (msts rows) st = mostW rows' (msts rows') st := by
  refine most_char (h.nodup_iff.mp nd) (fun P => ?_) ?_
  · rw [← tot_perm h]; exact most_le_A rows st P
  · obtain ⟨P, e⟩ := most_ex_A nd st
    exact ⟨P, by rw [← tot_perm h, e]; exact Int.le_refl _⟩
/-- fits in ascending order -/
def srt (a : Ak) : Ak := ⟨a.name, sortS a.fits, a.most⟩
theorem msts_srt (rows : List Ak) : msts (rows.map srt) = msts rows := by unfold msts; rw [List.map_map]; rfl
theorem fitsN_srt (rows : List Ak) (i : Nat) (x : Str) : x ∈ fitsN (rows.map srt) i ↔ x ∈ fitsN rows i := by
  unfold fitsN
  rw [List.getElem?_map]
  cases rows[i]? with
  | none => exact Iff.rfl
  | some a => exact sortS_mem
theorem mostW_srt (rows : List Ak) (wants : List Int) (hl : wants.length = rows.length) (st : Str → Int) : mostW (rows.map srt) wants st = mostW rows wants st := by
  have hl' : wants.length = (rows.map srt).length := by rw [List.length_map]; exact hl
  have e : ∀ L, GV.totN rows.length (fitsN (rows.map srt)) (wantN wants) (kdU (rows.map srt)) st L = GV.totN rows.length (fitsN rows) (wantN wants) (kdU rows) st L := fun L => by
    unfold GV.totN
    congr 1
    have ep : GV.fitP rows.length (fitsN (rows.map srt)) L = GV.fitP rows.length (fitsN rows) L := by
      funext x
      rw [Bool.eq_iff_iff, GV.fitP_iff, GV.fitP_iff]
      exact ⟨fun ⟨i, h1, h2, h3⟩ => ⟨i, h1, h2, (fitsN_srt rows i x).mp h3⟩, fun ⟨i, h1, h2, h3⟩ => ⟨i, h1, h2, (fitsN_srt rows i x).mpr h3⟩⟩
    rw [ep]
    refine held_U (kdU_nodup _) (kdU_nodup _) (fun x hx => ?_) fun x hx => ?_
    · obtain ⟨i, _, _, h⟩ := GV.fitP_iff.mp hx
      exact fits_U _ i x ((fitsN_srt rows i x).mpr h)
    · obtain ⟨i, _, _, h⟩ := GV.fitP_iff.mp hx
      exact fits_U _ i x h
  have c : ∀ (rows : List Ak) (hl : wants.length = rows.length), (∀ L, mostW rows wants st ≤ GV.totN rows.length (fitsN rows) (wantN wants) (kdU rows) st L) ∧ ∃ L, mostW rows wants st = GV.totN rows.length (fitsN rows) (wantN wants) (kdU rows) st L := fun rows hl => by
    refine ⟨fun L => ?_, ?_⟩
    · have := GV.most_le (U := kdU rows) (st := st) (rsOf rows wants) L
      rw [rsOf_len hl, fitsAt_rs hl, wantAt_rs hl] at this
      exact this
    · obtain ⟨L, h⟩ := GV.most_ex (U := kdU rows) (st := st) (rsOf rows wants)
      rw [rsOf_len hl, fitsAt_rs hl, wantAt_rs hl] at h
      exact ⟨L, h⟩
  obtain ⟨a1, b1, a2⟩ := c (rows.map srt) hl'
  obtain ⟨c1, d1, c2⟩ := c rows hl
  rw [List.length_map] at a1 a2
  refine Int.le_antisymm ?_ ?_
  · rw [c2, ← e]; exact a1 d1
  · rw [a2, e]; exact c1 b1
theorem gotW_srt (rows : List Ak) (st : Str → Int) (i : Nat) : gotW (rows.map srt) (msts (rows.map srt)) st i = gotW rows (msts rows) st i := by
  unfold gotW
  rw [msts_srt, ← List.map_take, ← List.map_take, mostW_srt _ _ (take_len' (msts_len rows) _), mostW_srt _ _ (take_len' (msts_len rows) _)]
theorem dealL_srt (rows : List Ak) (st : Str → Int) : dealL (rows.map srt) st = dealL rows st := by
  unfold dealL
  refine List.ext_getElem? fun i => ?_
  rw [List.getElem?_mapIdx, List.getElem?_mapIdx, List.getElem?_map]
  cases rows[i]? with
  | none => rfl
  | some a => simp only [Option.map_some, gotW_srt]; rfl
/-! ### all lots -/
def lotsOf (rows : List Ak) : List (List Ak) := rows.foldl (fun lots r => lots ++ lots.map (· ++ [r])) [[]]
theorem lotsOf_snoc (rows : List Ak) (r : Ak) : lotsOf (rows ++ [r]) = lotsOf rows ++ (lotsOf rows).map (· ++ [r]) := by
  unfold lotsOf; rw [List.foldl_append]; rfl
theorem snoc_ind {α : Type} {C : List α → Prop} (h0 : C []) (hs : ∀ l a, C l → C (l ++ [a])) : ∀ l, C l := by
  have : ∀ n, ∀ l : List α, l.length = n → C l := by
    intro n
    induction n with
    | zero => intro l e; rw [List.eq_nil_of_length_eq_zero e]; exact h0
    | succ n ih =>
      intro l e
      rcases List.eq_nil_or_concat l with rfl | ⟨L, b, rfl⟩
      · exact h0
      · rw [List.concat_eq_append] at e ⊢
        refine hs L b (ih L ?_)
        rw [List.length_append, List.length_singleton] at e
        omega
  exact fun l => this l.length l rfl
theorem lots_sub : ∀ (rows : List Ak), ∀ lot ∈ lotsOf rows, lot.Sublist rows := by
  refine snoc_ind (fun lot h => ?_) fun l a ih lot h => ?_
  · have : lot ∈ [([] : List Ak)] := h
    rw [List.mem_singleton.mp this]; exact .slnil
  · rw [lotsOf_snoc] at h
    rcases List.mem_append.mp h with h | h
    · exact (ih lot h).trans (List.sublist_append_left _ _)
    · obtain ⟨t, ht, rfl⟩ := List.mem_map.mp h
      exact (ih t ht).append (List.Sublist.refl _)
theorem lots_filter (P : Ak → Bool) : ∀ (rows : List Ak), rows.filter P ∈ lotsOf rows := by
  refine snoc_ind (List.mem_singleton.mpr rfl) fun l a ih => ?_
  rw [lotsOf_snoc, List.filter_append]
  by_cases q : P a = true
  · refine List.mem_append.mpr (.inr (List.mem_map.mpr ⟨_, ih, ?_⟩))
    simp [q]
  · refine List.mem_append.mpr (.inl ?_)
    simp [q]; exact ih
theorem lots_len : ∀ (rows : List Ak), (lotsOf rows).length = 2 ^ rows.length := by
  refine snoc_ind rfl fun l a ih => ?_
  rw [lotsOf_snoc, List.length_append, List.length_map, ih, List.length_append, List.length_singleton, Nat.pow_succ]; omega
/-- the kinds of a lot, as they come -/
def fitsOf (lot : List Ak) : List Str := lot.foldl (fun acc a => acc ++ a.fits.filter fun x => decide (x ∉ acc)) []
theorem fitsOf_snoc (lot : List Ak) (a : Ak) : fitsOf (lot ++ [a]) = fitsOf lot ++ a.fits.filter fun x => decide (x ∉ fitsOf lot) := by
  unfold fitsOf; rw [List.foldl_append]; rfl
theorem mem_fitsOf {x : Str} : ∀ (lot : List Ak), x ∈ fitsOf lot ↔ ∃ a ∈ lot, x ∈ a.fits := by
  refine snoc_ind (by simp [fitsOf]) fun l a ih => ?_
  rw [fitsOf_snoc, List.mem_append, List.mem_filter]
  constructor
  · rintro (hx | ⟨hx, _⟩)
    · obtain ⟨b, hb, hx⟩ := ih.mp hx
      exact ⟨b, List.mem_append.mpr (.inl hb), hx⟩
    · exact ⟨a, by simp, hx⟩
  · rintro ⟨b, hb, hx⟩
    rcases List.mem_append.mp hb with hb | hb
    · exact .inl (ih.mpr ⟨b, hb, hx⟩)
    · rw [List.mem_singleton.mp hb] at hx
      by_cases q : x ∈ fitsOf l
      · exact .inl q
      · exact .inr ⟨hx, decide_eq_true q⟩
theorem fitsOf_len (n : Nat) : ∀ (lot : List Ak), (∀ a ∈ lot, a.fits.length ≤ n) → (fitsOf lot).length ≤ lot.length * n := by
  refine snoc_ind (fun _ => by simp [fitsOf]) fun l a ih h => ?_
  rw [fitsOf_snoc, List.length_append, List.length_append, List.length_singleton, Nat.add_mul]
  have h1 := ih fun b hb => h b (List.mem_append.mpr (.inl hb))
  have h2 := List.length_filter_le (fun x => decide (x ∉ fitsOf l)) a.fits
  have h3 := h a (by simp)
  omega
instance : DecidableEq Ak := fun a b =>
  decidable_of_iff (a.name = b.name ∧ a.fits = b.fits ∧ a.most = b.most) ⟨fun h => Ak.ext' h.1 h.2.1 h.2.2, fun h => by subst h; exact ⟨rfl, rfl, rfl⟩⟩
def lotT (rows : List Ak) (st : Str → Int) (lot : List Ak) : Int := ((rows.filter fun a => decide (a ∉ lot)).map Ak.most).sum + ((uniS (fitsOf lot)).map st).sum
theorem uniS_nodup (l : List Str) : (uniS l).Nodup := by unfold uniS; exact sortS_nodup.mpr (ddS_nodup l)
theorem mem_uniS {l : List Str} {x : Str} : x ∈ uniS l ↔ x ∈ l := by unfold uniS; rw [sortS_mem]; exact mem_dd
theorem lotT_eq {rows : List Ak} {st : Str → Int} {lot : List Ak} (h : ∀ a ∈ lot, a ∈ rows) : lotT rows st lot = totA rows st (fun a => decide (a ∈ lot)) := by
  unfold lotT totA
  rw [← sumL_sum, ← sumL_sum, GV.sumL_filter]
  congr 1
  · refine GV.sumL_congr fun a _ => ?_
    by_cases q : a ∈ lot <;> simp [q]
  · have e : GV.heldL (kdU rows) st (fitA rows fun a => decide (a ∈ lot)) = GV.heldL (uniS (fitsOf lot)) st (fitA rows fun a => decide (a ∈ lot)) := by
      refine held_U (kdU_nodup _) (uniS_nodup _) (fun x hx => ?_) fun x hx => ?_
      · obtain ⟨a, ha, _, hf⟩ := fitA_iff.mp hx
        exact mem_kdU.mpr ⟨a, ha, hf⟩
      · obtain ⟨a, ha, hd, hf⟩ := fitA_iff.mp hx
        exact mem_uniS.mpr ((mem_fitsOf lot).mpr ⟨a, of_decide_eq_true hd, hf⟩)
    rw [e]
    unfold GV.heldL
    refine GV.sumL_congr fun x hx => ?_
    obtain ⟨a, ha, hf⟩ := (mem_fitsOf lot).mp (mem_uniS.mp hx)
    rw [if_pos (fitA_iff.mpr ⟨a, h a ha, decide_eq_true ha, hf⟩)]
/-- the least of all lots -/
theorem lots_least {rows : List Ak} {st : Str → Int} {v : Int} (nd : rows.Nodup) (h1 : ∀ lot ∈ lotsOf rows, v ≤ lotT rows st lot) (h2 : ∃ lot ∈ lotsOf rows, v = lotT rows st lot) : v = mostW rows (msts rows) st := by
  refine most_char nd (fun P => ?_) ?_
  · have := h1 _ (lots_filter P rows)
    rw [lotT_eq fun a ha => (List.mem_filter.mp ha).1] at this
    have e : totA rows st (fun a => decide (a ∈ rows.filter P)) = totA rows st P := by
      unfold totA
      congr 1
      · refine GV.sumL_congr fun a ha => ?_
        by_cases q : P a = true <;> simp [List.mem_filter, ha, q]
      · congr 1
        funext x
        rw [Bool.eq_iff_iff, fitA_iff, fitA_iff]
        constructor
        · rintro ⟨a, ha, hd, hx⟩
          exact ⟨a, ha, (List.mem_filter.mp (of_decide_eq_true hd)).2, hx⟩
        · rintro ⟨a, ha, hd, hx⟩
          exact ⟨a, ha, decide_eq_true (List.mem_filter.mpr ⟨ha, hd⟩), hx⟩
    rw [← e]; exact this
  · obtain ⟨lot, hl, e⟩ := h2
    exact ⟨_, by rw [← lotT_eq fun a ha => (lots_sub rows lot hl).subset ha, e]; exact Int.le_refl _⟩
end HL

namespace HL
open PySem L2 DL DM
local macro_rules | `(tactic| walk_at "nf") => `(tactic| try simp only [dSeq, dIfS, dOr, dAnd, dNot, dTest, dCB, dCons, dNil, dVar, dC, dRet, dRetN, dNext, dAsg, gN, gt2, dOp, dUn, dAndV, dOrV, dNotV, dIf, dLst, dTup, dCall, dMeth, dProp, dMake, dFld, dSl, dPart, dNoPart, dDrop, dPar, dPar3, dBm, dRev, dSetF, dBits, gSet, gTup', gCons', gNil', dDGet, dDIn, dDGet2, dDGet1, dDPut, dNewK, dNewT, iL_eq, iEn, on1, on2, onO_some, addI, subI, intC, onI_i, onS_s, onB_b, iT, iR1, iR2, dLc, dFor, lcBody, dLc2_eq, lcBody2, dDc, dcBody, dYes, wipeD, atE, startD, List.map_cons, List.map_nil, List.length_cons, List.length_nil, List.cons_append, List.nil_append, List.replicate, List.getElem?_cons_zero, List.getElem?_cons_succ, List.set_cons_zero, List.set_cons_succ, Nat.reduceSub, Nat.reduceAdd, Nat.reduceEqDiff, if_true, if_false])
-- BEGIN _law_stock
def t__law_stock_0 (K : PySem.W.Frag) (S__law_one_of : SpD) (S__law_draw : SpD) (S__law_most : SpD) : TDS :=
  dDPut (dVar 2) (dVar 3) (dCall S__law_one_of (dCons (dVar 0) (dCons (dLst (dCons (dC (.int 0)) (dCons (dC (.int 1)) (dCons (dC (.int 1)) (dCons (dC (.int 2)) (dCons (dC (.int 3)) (dCons (dCall S__law_draw (dCons (dVar 0) (dCons (dC (.int 9)) (dNil)))) (dCons (dCall S__law_most (dCons (dVar 0) (dNil))) (dNil))))))))) (dNil))))
def t__law_stock_1 (K : PySem.W.Frag) (S__law_one_of : SpD) (S__law_draw : SpD) (S__law_most : SpD) : TDS :=
  dFor (iL (dVar 1)) (gN 3) ((t__law_stock_0 K S__law_one_of S__law_draw S__law_most))
def t__law_stock (K : PySem.W.Frag) (S__law_one_of : SpD) (S__law_draw : SpD) (S__law_most : SpD) : TDS :=
  dSeq (dAsg (dNewK) (gN 2))
  (dSeq ((t__law_stock_1 K S__law_one_of S__law_draw S__law_most))
  (dRet (dVar 2)))
-- END
-- BEGIN _law_held
def t__law_held_0 (K : PySem.W.Frag) : TDS :=
  dRet (dCB sumR (dCons (dLc (iL (dUn setSortR (dVar 1))) (gN 2) (dYes) (dCB int1R (dCons (dDGet2 (dVar 0) (dVar 2) (dC (.int 0))) (dNil))) [2]) (dNil)))
def t__law_held (K : PySem.W.Frag) : TDS :=
  (t__law_held_0 K)
-- END
-- BEGIN _law_rows
def t__law_rows_0 (K : PySem.W.Frag) (S__law_names : SpD) (S__law_draw : SpD) (S__law_most : SpD) (S__law_shuffled : SpD) : TDS :=
  dDrop (dBm appR (dVar 3) (dCons (dTup (dCons (dVar 4) (dCons (dSl (dVar 5) (dNoPart) (dPart (dOp addR (dC (.int 1)) (dCall S__law_draw (dCons (dVar 0) (dCons (dCB min2R (dCons (dCB lenR (dCons (dVar 5) (dNil))) (dCons (dC (.int 3)) (dNil)))) (dNil))))))) (dCons (dCall S__law_most (dCons (dVar 0) (dNil))) (dNil))))) (dNil)))
def t__law_rows_1 (K : PySem.W.Frag) (S__law_names : SpD) (S__law_draw : SpD) (S__law_most : SpD) (S__law_shuffled : SpD) : TDS :=
  dAsg (dCall S__law_shuffled (dCons (dVar 0) (dCons (dVar 1) (dNil)))) (gN 5)
def t__law_rows_2 (K : PySem.W.Frag) (S__law_names : SpD) (S__law_draw : SpD) (S__law_most : SpD) (S__law_shuffled : SpD) : TDS :=
  dFor (iL (dCall S__law_names (dCons (dVar 0) (dCons (dCall S__law_draw (dCons (dVar 0) (dCons (dOp addR (dVar 2) (dC (.int 1))) (dNil)))) (dNil))))) (gN 4) (dSeq ((t__law_rows_1 K S__law_names S__law_draw S__law_most S__law_shuffled))
  ((t__law_rows_0 K S__law_names S__law_draw S__law_most S__law_shuffled)))
def t__law_rows_3 (K : PySem.W.Frag) (S__law_names : SpD) (S__law_draw : SpD) (S__law_most : SpD) (S__law_shuffled : SpD) : TDS :=
  dAsg (dLst (dNil)) (gN 3)
def t__law_rows (K : PySem.W.Frag) (S__law_names : SpD) (S__law_draw : SpD) (S__law_most : SpD) (S__law_shuffled : SpD) : TDS :=
  dSeq ((t__law_rows_3 K S__law_names S__law_draw S__law_most S__law_shuffled))
  (dSeq ((t__law_rows_2 K S__law_names S__law_draw S__law_most S__law_shuffled))
  (dRet (dVar 3)))
-- END
-- BEGIN _law_line_of
def t__law_line_of_0 (K : PySem.W.Frag) (S_Line___init__ : SpD) (S_Asker___init__ : SpD) : TDS :=
  dRet (dMake (ga K "Line") S_Line___init__ (dCons (dLc (iL (dVar 0)) (gTup' 3 (gCons' (gN 1) (gCons' (gN 2) (gCons' (gN 3) (gNil'))))) (dYes) (dMake (ga K "Asker") S_Asker___init__ (dCons (dVar 1) (dCons (dCB listR (dCons (dVar 2) (dNil))) (dCons (dVar 3) (dNil))))) [1, 2, 3]) (dNil)))
def t__law_line_of (K : PySem.W.Frag) (S_Line___init__ : SpD) (S_Asker___init__ : SpD) : TDS :=
  (t__law_line_of_0 K S_Line___init__ S_Asker___init__)
-- END
-- BEGIN _law_fits_of
def t__law_fits_of_0 (K : PySem.W.Frag) : TDS :=
  dAsg (dOp addR (dVar 1) (dLc (iL (dOp ixR (dVar 2) (dC (.int 1)))) (gN 3) (dTest (dOp (inR true) (dVar 3) (dVar 1))) (dVar 3) [3])) (gN 1)
def t__law_fits_of_1 (K : PySem.W.Frag) : TDS :=
  dFor (iL (dVar 0)) (gN 2) ((t__law_fits_of_0 K))
def t__law_fits_of_2 (K : PySem.W.Frag) : TDS :=
  dAsg (dLst (dNil)) (gN 1)
def t__law_fits_of (K : PySem.W.Frag) : TDS :=
  dSeq ((t__law_fits_of_2 K))
  (dSeq ((t__law_fits_of_1 K))
  (dRet (dVar 1)))
-- END
-- BEGIN _law_most_of
def t__law_most_of_0 (K : PySem.W.Frag) (S__law_held : SpD) (S__law_fits_of : SpD) : TDS :=
  dAsg (dIf (dTest (dOp isNR (dVar 5) (dC .non))) (dVar 6) (dCB min2R (dCons (dCB int1R (dCons (dVar 5) (dNil))) (dCons (dCB int1R (dCons (dVar 6) (dNil))) (dNil))))) (gN 5)
def t__law_most_of_1 (K : PySem.W.Frag) (S__law_held : SpD) (S__law_fits_of : SpD) : TDS :=
  dAsg (dOp addR (dCB sumR (dCons (dLc (iL (dVar 0)) (gN 2) (dTest (dOp (inDR true) (dVar 2) (dVar 3))) (dOp ixR (dVar 2) (dC (.int 2))) [2]) (dNil))) (dCall S__law_held (dCons (dVar 1) (dCons (dCall S__law_fits_of (dCons (dVar 3) (dNil))) (dNil))))) (gN 6)
def t__law_most_of_2 (K : PySem.W.Frag) (S__law_held : SpD) (S__law_fits_of : SpD) : TDS :=
  dFor (iL (dVar 4)) (gN 3) (dSeq ((t__law_most_of_1 K S__law_held S__law_fits_of))
  ((t__law_most_of_0 K S__law_held S__law_fits_of)))
def t__law_most_of_3 (K : PySem.W.Frag) (S__law_held : SpD) (S__law_fits_of : SpD) : TDS :=
  dAsg (dOp addR (dVar 4) (dLc (iL (dVar 4)) (gN 3) (dYes) (dOp addR (dVar 3) (dLst (dCons (dVar 2) (dNil)))) [3])) (gN 4)
def t__law_most_of_4 (K : PySem.W.Frag) (S__law_held : SpD) (S__law_fits_of : SpD) : TDS :=
  dFor (iL (dVar 0)) (gN 2) ((t__law_most_of_3 K S__law_held S__law_fits_of))
def t__law_most_of_5 (K : PySem.W.Frag) (S__law_held : SpD) (S__law_fits_of : SpD) : TDS :=
  dPar 4 5 (dCons (dLst (dCons (dLst (dNil)) (dNil))) (dCons (dC .non) (dNil)))
def t__law_most_of (K : PySem.W.Frag) (S__law_held : SpD) (S__law_fits_of : SpD) : TDS :=
  dSeq ((t__law_most_of_5 K S__law_held S__law_fits_of))
  (dSeq ((t__law_most_of_4 K S__law_held S__law_fits_of))
  (dSeq ((t__law_most_of_2 K S__law_held S__law_fits_of))
  (dRet (dVar 5))))
-- END
-- BEGIN _law_dealt
def t__law_dealt_0 (K : PySem.W.Frag) (S__law_most_of : SpD) : TDS :=
  dDrop (dBm appR (dVar 3) (dCons (dTup (dCons (dOp ixR (dOp ixR (dVar 0) (dVar 2)) (dC (.int 0))) (dCons (dOp (intR fun i j => .int (i - j)) (dVar 5) (dVar 4)) (dNil)))) (dNil)))
def t__law_dealt_1 (K : PySem.W.Frag) (S__law_most_of : SpD) : TDS :=
  dAsg (dCall S__law_most_of (dCons (dSl (dVar 0) (dNoPart) (dPart (dOp addR (dVar 2) (dC (.int 1))))) (dCons (dVar 1) (dNil)))) (gN 5)
def t__law_dealt_2 (K : PySem.W.Frag) (S__law_most_of : SpD) : TDS :=
  dFor (iR1 (dCons (dCB lenR (dCons (dVar 0) (dNil))) (dNil))) (gN 2) (dSeq ((t__law_dealt_1 K S__law_most_of))
  (dSeq ((t__law_dealt_0 K S__law_most_of))
  (dAsg (dVar 5) (gN 4))))
def t__law_dealt_3 (K : PySem.W.Frag) (S__law_most_of : SpD) : TDS :=
  dPar 3 4 (dCons (dLst (dNil)) (dCons (dC (.int 0)) (dNil)))
def t__law_dealt (K : PySem.W.Frag) (S__law_most_of : SpD) : TDS :=
  dSeq ((t__law_dealt_3 K S__law_most_of))
  (dSeq ((t__law_dealt_2 K S__law_most_of))
  (dRet (dVar 3)))
-- END
/-! ### rows as the laws draw them -/
def rowL (a : Ak) : D := .tup [.str a.name, .lst (a.fits.map D.str), .int a.most]
structure RwOk (a : Ak) : Prop where
  nm : nameB a.name = true
  ft : ∀ s ∈ a.fits, nameB s = true
  nd : a.fits.Nodup
  ne : a.fits ≠ []
  ln : a.fits.length ≤ 8
  m1 : 1 ≤ a.most
  m2 : a.most < 2 ^ 97
structure LrOk (rows : List Ak) : Prop where
  ok : ∀ a ∈ rows, RwOk a
  nd : (nms rows).Nodup
  ln : rows.length ≤ 8
theorem LrOk.nodup {rows : List Ak} (h : LrOk rows) : rows.Nodup := nodup_of_map _ h.nd
theorem LrOk.sub {rows rows' : List Ak} (h : LrOk rows) (s : rows'.Sublist rows) : LrOk rows' := ⟨fun a ha => h.ok a (s.subset ha), h.nd.sublist (s.map _), Nat.le_trans s.length_le h.ln⟩
theorem LrOk.perm {rows rows' : List Ak} (h : LrOk rows) (s : rows'.Perm rows) : LrOk rows' := ⟨fun a ha => h.ok a (s.subset ha), ((s.map Ak.name).nodup_iff).mpr h.nd, by rw [s.length_eq]; exact h.ln⟩
theorem nms_srt (rows : List Ak) : nms (rows.map srt) = nms rows := by unfold nms; rw [List.map_map]; rfl
theorem srt_ok {a : Ak} (h : RwOk a) : (srt a).ok := ⟨h.nm, fun s hs => h.ft s (sortS_mem.mp hs), sortS_nodup.mpr h.nd, fun z => h.ne (by have := sortS_len a.fits; rw [show sortS a.fits = [] from z] at this; exact List.eq_nil_of_length_eq_zero this.symm), h.m1, sortS_sorted _, by show (sortS a.fits).length < 60; rw [sortS_len]; have := h.ln; omega⟩
theorem LrOk.line {rows : List Ak} (h : LrOk rows) : LnOk (rows.map srt) := ⟨fun a ha => by
  obtain ⟨b, hb, rfl⟩ := List.mem_map.mp ha
  exact srt_ok (h.ok b hb), by rw [nms_srt]; exact h.nd, by rw [List.length_map]; have := h.ln; omega⟩
theorem rowL_inj {a b : Ak} (h : rowL a = rowL b) : a = b := by
  unfold rowL at h
  simp only [D.tup.injEq, List.cons.injEq, D.str.injEq, D.lst.injEq, D.int.injEq, and_true] at h
  exact Ak.ext' h.1 (strs_inj.mp h.2.1) h.2.2
theorem rowL_tidy (a : Ak) : tidy (rowL a) = true := by
  unfold rowL
  rw [tidy, tidys, tidys, tidys, tidys, tidy, tidy, tidy, tidy_strs]; rfl
theorem rowL_ok {a : Ak} (h : RwOk a) : Ok 2 (rowL a) := ok_tup fun x hx => by
  rcases List.mem_cons.mp hx with rfl | hx
  · exact ok_str (nameB_ok h.nm)
  · rcases List.mem_cons.mp hx with rfl | hx
    · exact ok_lst (ok_strs fun s hs => nameB_ok (h.ft s hs))
    · rcases List.mem_cons.mp hx with rfl | hx
      · exact ok_int
      · cases hx
theorem rows_okP {rows : List Ak} (h : ∀ a ∈ rows, RwOk a) : okP (.lst (rows.map rowL)) := (ok_lst (n := 2) fun x hx => by
  obtain ⟨a, ha, rfl⟩ := List.mem_map.mp hx
  exact rowL_ok (h a ha)).P
theorem in_rows (a : Ak) (lot : List Ak) : ((lot.map rowL).any fun z => eqD z (rowL a)) = decide (a ∈ lot) := by
  rw [Bool.eq_iff_iff, List.any_eq_true, decide_eq_true_eq]
  constructor
  · rintro ⟨z, hz, e⟩
    obtain ⟨b, hb, rfl⟩ := List.mem_map.mp hz
    by_cases q : b = a
    · rw [← q]; exact hb
    · rw [eqD_f (fun z => q (rowL_inj z)) (rowL_tidy b) (rowL_tidy a)] at e; cases e
  · intro h
    exact ⟨rowL a, List.mem_map.mpr ⟨a, h, rfl⟩, eqD_t rfl (rowL_tidy a)⟩
/-! ### the line of rows -/
def S_law_line_of (K : PySem.W.Frag) : SpD := fun ds m F => ∃ rows : List Ak, ds = [.lst (rows.map rowL)] ∧ LrOk rows ∧ F (LnD K (rows.map srt)) m
theorem pure_law_line_of {K : PySem.W.Frag} (ds : List D) (m : Mu) (G : DK) (h : S_law_line_of K ds m G) : t__law_line_of K (S_Line___init__ K) (S_Asker___init__ K) { nx := fun _ m' => Fin G .non m', rt := Fin G } (startD 4 ds) m := by
  obtain ⟨rows, rfl, ok, h⟩ := h
  have ln := ok.ln
  unfold t__law_line_of t__law_line_of_0
  walk_at "nf"
  simp only [withI_l]
  refine lc_over rows rowL (fun a => some ((srt a).d K)) trivial (by unfold sizeLine; omega) (fun a ha acc k2 hacc hk => ?_) ?_
  · have ra := ok.ok a ha
    walk_at "nf"
    refine And.intro rfl ?_
    refine br_t rfl ?_
    refine lst_l ?_
    refine mkA (ss := a.fits) rfl ra.nm ra.ft ra.nd ra.ne ra.m1 (by have := ra.ln; omega) fun _ => ?_
    exact ⟨hacc, hk⟩
  · rw [fm_some]
    refine new_l ?_
    have e : rows.map (fun a => (srt a).d K) = (rows.map srt).map (Ak.d K) := by rw [List.map_map]; rfl
    rw [e]
    exact mkL (l := rows.map srt) rfl ok.line (fin h)
/-! ### the kinds of a lot, the bags of kinds -/
def S_law_fits_of : SpD := fun ds m F => ∃ lot : List Ak, ds = [.lst (lot.map rowL)] ∧ ((∀ a ∈ lot, RwOk a) ∧ lot.length ≤ 8) ∧ F (.lst ((fitsOf lot).map D.str)) m
theorem in_list {x : Str} {ss : List Str} {m : Mu} {F : DK} (h : F (.bl (!decide (x ∈ ss))) m) : inR true (.str x) (.lst (ss.map D.str)) m F := by
  refine ⟨⟨rfl, flat_strs' ss⟩, ?_⟩
  rw [in_strs]; exact h
theorem pure_law_fits_of {K : PySem.W.Frag} (ds : List D) (m : Mu) (G : DK) (h : S_law_fits_of ds m G) : t__law_fits_of K { nx := fun _ m' => Fin G .non m', rt := Fin G } (startD 4 ds) m := by
  obtain ⟨lot, rfl, ⟨ok, ln⟩, h⟩ := h
  unfold t__law_fits_of t__law_fits_of_2 t__law_fits_of_1
  walk_at "nf"
  refine And.intro (by decide) (new_l ?_)
  simp only [withI_l]
  refine for_inv (fun i ρ m' => m' = m ∧ ∃ x2 x3, ρ = [some (.lst (lot.map rowL)), some (.lst ((fitsOf (lot.take i)).map D.str)), x2, x3]) ⟨rfl, none, none, rfl⟩ (fun _ _ _ _ => trivial) (fun i d ρ m' ei p k2 hk2 => ?_) fun ρ m' p => ?_
  · obtain ⟨rfl, x2, x3, rfl⟩ := p
    rw [List.getElem?_map] at ei
    cases e : lot[i]? with
    | none => rw [e] at ei; cases ei
    | some a =>
      rw [e] at ei
      obtain rfl := Option.some.inj ei
      have ra := ok a (List.mem_of_getElem? e)
      have ht1 : lot.take (i + 1) = lot.take i ++ [a] := by rw [List.take_succ, e]; rfl
      have hsz : (fitsOf (lot.take i)).length ≤ 64 := by
        have := fitsOf_len 8 (lot.take i) fun b hb => (ok b (List.mem_of_mem_take hb)).ln
        rw [List.length_take] at this
        have : min i lot.length * 8 ≤ 64 := by omega
        omega
      have rl := ra.ln
      unfold t__law_fits_of_0
      walk_at "nf"
      refine ixT (k := 1) (x := .lst (a.fits.map D.str)) rfl ?_
      simp only [withI_l]
      refine lc_over a.fits D.str (fun x => if x ∉ fitsOf (lot.take i) then some (.str x) else none) trivial (by unfold sizeLine; omega) (fun x hx acc k3 hacc hk => ?_) ?_
      · walk_at "nf"
        refine in_list ?_
        by_cases q : x ∈ fitsOf (lot.take i)
        · rw [if_neg (not_not_intro q)] at hk
          exact br_f (by rw [decide_eq_true q]; rfl) (by simpa using hk)
        · rw [if_pos q] at hk
          exact br_t (by rw [decide_eq_false q]; rfl) ⟨hacc, hk⟩
      · rw [fm_if]
        refine new_l ?_
        have hsz2 := List.length_filter_le (fun x => decide (x ∉ fitsOf (lot.take i))) a.fits
        refine add_lst (by simp only [List.length_map]; unfold sizeLine; omega) ?_
        rw [← List.map_append, ← fitsOf_snoc, ← ht1]
        exact hk2 _ _ ⟨rfl, _, _, rfl⟩
  · obtain ⟨rfl, x2, x3, rfl⟩ := p
    rw [List.length_map, List.take_length]
    exact fin h
def S_law_held : SpD := fun ds m F => ∃ (ks : Nat) (s : Stk) (ss : List Str), ds = [.ref ks, .lst (ss.map D.str)] ∧ m ks = some (.dK (stk s)) ∧ ss.length < 1000 ∧ F (.int ((uniS ss).map (sv s)).sum) m
theorem sumR_of {d : D} {m : Mu} {ns : List Int} {F : DK} (h : lstOf m d = some (ns.map D.int)) (f : F (.int ns.sum) m) : sumR [d] m F := withL_of h ⟨ns, rfl, f⟩
theorem pure_law_held {K : PySem.W.Frag} (ds : List D) (m : Mu) (G : DK) (h : S_law_held ds m G) : t__law_held K { nx := fun _ m' => Fin G .non m', rt := Fin G } (startD 3 ds) m := by
  obtain ⟨ks, s, ss, rfl, hks, hl, h⟩ := h
  have ul : (uniS ss).length ≤ ss.length := by unfold uniS; rw [sortS_len]; exact dd_len ss
  unfold t__law_held t__law_held_0
  walk_at "nf"
  refine ⟨ss, rfl, by unfold scanBound; omega, new_l ?_⟩
  simp only [withI_l]
  refine lc_over (uniS ss) D.str (fun x => some (.int (sv s x))) trivial (by unfold sizeLine; omega) (fun x hx acc k2 hacc hk => ?_) ?_
  · walk_at "nf"
    refine br_t rfl ?_
    refine And.intro (isDic_dK hks) ?_
    rw [look_str hks, dval_stk]
    walk_at "nf"
    have e2 : ((dval s x).map D.int).getD (.int 0) = .int (sv s x) := by unfold sv; cases dval s x <;> rfl
    rw [e2]
    exact ⟨hacc, hk⟩
  · rw [fm_some]
    refine new_l ?_
    refine sumR_of (ns := (uniS ss).map (sv s)) (by rw [List.map_map]; rfl) (fin h)
/-! ### the least sum -/
def S_law_most_of : SpD := fun ds m F => ∃ (rows : List Ak) (ks : Nat) (s : Stk), ds = [.lst (rows.map rowL), .ref ks] ∧ m ks = some (.dK (stk s)) ∧ LrOk rows ∧ F (.int (mostW rows (msts rows) (sv s))) m
def lotD (lot : List Ak) : D := .lst (lot.map rowL)
theorem pow8 {n : Nat} (h : n ≤ 8) : 2 ^ n ≤ 256 := by
  have : 2 ^ n ≤ 2 ^ 8 := Nat.pow_le_pow_right (by decide) h
  exact this
def leastB (st : Str → Int) (rows : List Ak) : List (List Ak) → Option Int
  | [] => none
  | lot :: r => some (r.foldl (fun v l => min v (lotT rows st l)) (lotT rows st lot))
def optI : Option Int → D
  | some i => .int i
  | none => .non
theorem foldl_least (f : List Ak → Int) (a : Int) : ∀ (ls : List (List Ak)), (ls.foldl (fun v l => min v (f l)) a ≤ a ∧ ∀ l ∈ ls, ls.foldl (fun v l => min v (f l)) a ≤ f l) ∧ (ls.foldl (fun v l => min v (f l)) a = a ∨ ∃ l ∈ ls, ls.foldl (fun v l => min v (f l)) a = f l)
  | [] => ⟨⟨Int.le_refl _, by simp⟩, .inl rfl⟩
  | l :: ls => by
    obtain ⟨⟨h1, h2⟩, h3⟩ := foldl_least f (min a (f l)) ls
    rw [List.foldl_cons]
    refine ⟨⟨by omega, fun y hy => ?_⟩, ?_⟩
    · rcases List.mem_cons.mp hy with rfl | hy
      · omega
      · exact h2 y hy
    · rcases h3 with h3 | ⟨y, hy, h3⟩
      · by_cases q : a ≤ f l
        · exact .inl (by rw [h3]; omega)
        · exact .inr ⟨l, List.mem_cons_self, by rw [h3]; omega⟩
      · exact .inr ⟨y, List.mem_cons_of_mem _ hy, h3⟩
theorem leastB_snoc (st : Str → Int) (rows : List Ak) (ls : List (List Ak)) (l : List Ak) : leastB st rows (ls ++ [l]) = some (match leastB st rows ls with | none => lotT rows st l | some v => min v (lotT rows st l)) := by
  cases ls with
  | nil => rfl
  | cons a r => simp only [leastB, List.cons_append, List.foldl_append, List.foldl_cons, List.foldl_nil]
theorem pure_law_most_of {K : PySem.W.Frag} (ds : List D) (m : Mu) (G : DK) (h : S_law_most_of ds m G) : t__law_most_of K S_law_held S_law_fits_of { nx := fun _ m' => Fin G .non m', rt := Fin G } (startD 7 ds) m := by
  obtain ⟨rows, ks, s, rfl, hks, ok, h⟩ := h
  have ln := ok.ln
  unfold t__law_most_of
  refine seq_nx ?_
  unfold t__law_most_of_5
  walk_at "nf"
  refine And.intro (by decide) (new_l ?_)
  refine And.intro (by decide) (new_l ?_)
  show dSeq (t__law_most_of_4 K S_law_held S_law_fits_of) (dSeq (t__law_most_of_2 K S_law_held S_law_fits_of) (dRet (dVar 5))) _ [some (.lst (rows.map rowL)), some (.ref ks), none, none, some (.lst ((lotsOf []).map lotD)), some .non, none] m
  refine seq_nx ?_
  unfold t__law_most_of_4
  walk_at "nf"
  simp only [withI_l]
  refine for_inv (fun i ρ m' => m' = m ∧ ∃ x2 x3 x6, ρ = [some (.lst (rows.map rowL)), some (.ref ks), x2, x3, some (.lst ((lotsOf (rows.take i)).map lotD)), some .non, x6]) ⟨rfl, none, none, none, rfl⟩ (fun _ _ _ _ => trivial) (fun i d ρ m' ei p k2 hk2 => ?_) fun ρ m' p => ?_
  · obtain ⟨rfl, x2, x3, x6, rfl⟩ := p
    rw [List.getElem?_map] at ei
    cases e : rows[i]? with
    | none => rw [e] at ei; cases ei
    | some a =>
      rw [e] at ei
      obtain rfl := Option.some.inj ei
      have ht1 : rows.take (i + 1) = rows.take i ++ [a] := by rw [List.take_succ, e]; rfl
      have hll : (lotsOf (rows.take i)).length ≤ 256 := by rw [lots_len]; exact pow8 (by rw [List.length_take]; omega)
      unfold t__law_most_of_3
      walk_at "nf"
      simp only [withI_l]
      refine lc_over (lotsOf (rows.take i)) lotD (fun lot => some (lotD (lot ++ [a]))) trivial (by unfold sizeLine; omega) (fun lot hlot acc k3 hacc hk => ?_) ?_
      · have hl2 := (lots_sub _ lot hlot).length_le
        rw [List.length_take] at hl2
        walk_at "nf"
        refine br_t rfl ?_
        refine And.intro (by decide) (new_l ?_)
        refine add_lst (by simp only [List.length_map, List.length_cons, List.length_nil]; unfold sizeLine; omega) ?_
        refine ⟨hacc, ?_⟩
        have e3 : lot.map rowL ++ [rowL a] = (lot ++ [a]).map rowL := by simp
        rw [e3]
        exact hk
      · rw [fm_some]
        refine new_l ?_
        refine add_lst (by simp only [List.length_map]; unfold sizeLine; omega) ?_
        have e3 : (lotsOf (rows.take i)).map lotD ++ (lotsOf (rows.take i)).map (fun lot => lotD (lot ++ [a])) = (lotsOf (rows.take (i + 1))).map lotD := by
          rw [ht1, lotsOf_snoc, List.map_append, List.map_map]; rfl
        rw [e3]
        exact hk2 _ _ ⟨rfl, _, _, _, rfl⟩
  · obtain ⟨rfl, x2, x3, x6, rfl⟩ := p
    rw [List.length_map, List.take_length]
    have hll : (lotsOf rows).length ≤ 256 := by rw [lots_len]; exact pow8 ln
    refine seq_nx ?_
    unfold t__law_most_of_2
    walk_at "nf"
    simp only [withI_l]
    refine for_inv (fun i ρ m2 => m2 = m' ∧ ∃ x2 x3 x6, ρ = [some (.lst (rows.map rowL)), some (.ref ks), x2, x3, some (.lst ((lotsOf rows).map lotD)), some (optI (leastB (sv s) rows ((lotsOf rows).take i))), x6]) ⟨rfl, x2, x3, x6, rfl⟩ (fun _ _ _ _ => trivial) (fun i d ρ m2 ei p k2 hk2 => ?_) fun ρ m2 p => ?_
    · obtain ⟨rfl, x2, x3, x6, rfl⟩ := p
      rw [List.getElem?_map] at ei
      cases e : (lotsOf rows)[i]? with
      | none => rw [e] at ei; cases ei
      | some lot =>
        rw [e] at ei
        obtain rfl := Option.some.inj ei
        have hsub := lots_sub rows lot (List.mem_of_getElem? e)
        have hl2 := hsub.length_le
        have ht1 : (lotsOf rows).take (i + 1) = (lotsOf rows).take i ++ [lot] := by rw [List.take_succ, e]; rfl
        have rok : ∀ a ∈ lot, RwOk a := fun a ha => ok.ok a (hsub.subset ha)
        unfold t__law_most_of_1 t__law_most_of_0
        walk_at "nf"
        simp only [withI_l]
        refine lc_over rows rowL (fun a => if a ∉ lot then some (.int a.most) else none) trivial (by unfold sizeLine; omega) (fun a ha acc k3 hacc hk => ?_) ?_
        · walk_at "nf"
          refine And.intro ⟨(rowL_ok (ok.ok a ha)).P, rows_okP rok⟩ ?_
          rw [in_rows]
          by_cases q : a ∈ lot
          · rw [if_neg (not_not_intro q)] at hk
            exact br_f (by rw [decide_eq_true q]; rfl) (by simpa using hk)
          · rw [if_pos q] at hk
            refine br_t (by rw [decide_eq_false q]; rfl) ?_
            refine ixT (k := 2) (x := .int a.most) rfl ?_
            exact ⟨hacc, hk⟩
        · rw [fm_if]
          refine new_l ?_
          refine sumR_of (ns := (rows.filter fun a => decide (a ∉ lot)).map Ak.most) (by rw [List.map_map]; rfl) ?_
          refine ⟨lot, rfl, ⟨rok, by omega⟩, ?_⟩
          have fl : (fitsOf lot).length ≤ 64 := by
            have := fitsOf_len 8 lot fun b hb => (rok b hb).ln
            have : lot.length * 8 ≤ 64 := by omega
            omega
          refine ⟨ks, s, fitsOf lot, rfl, hks, by omega, ?_⟩
          walk_at "nf"
          have et : ((rows.filter fun a => decide (a ∉ lot)).map Ak.most).sum + ((uniS (fitsOf lot)).map (sv s)).sum = lotT rows (sv s) lot := rfl
          rw [et]
          have eb := leastB_snoc (sv s) rows ((lotsOf rows).take i) lot
          rw [← ht1] at eb
          cases q : leastB (sv s) rows ((lotsOf rows).take i) with
          | none =>
            rw [q] at eb
            refine br_t rfl ?_
            have := hk2 [some (.lst (rows.map rowL)), some (.ref ks), x2, some (lotD lot), some (.lst ((lotsOf rows).map lotD)), some (optI (leastB (sv s) rows ((lotsOf rows).take (i + 1)))), some (.int (lotT rows (sv s) lot))] m2 ⟨rfl, _, _, _, rfl⟩
            rw [eb] at this
            exact this
          | some v =>
            rw [q] at eb
            refine br_f rfl ?_
            have := hk2 [some (.lst (rows.map rowL)), some (.ref ks), x2, some (lotD lot), some (.lst ((lotsOf rows).map lotD)), some (optI (leastB (sv s) rows ((lotsOf rows).take (i + 1)))), some (.int (lotT rows (sv s) lot))] m2 ⟨rfl, _, _, _, rfl⟩
            rw [eb] at this
            have e6 : (if lotT rows (sv s) lot < v then lotT rows (sv s) lot else v) = min v (lotT rows (sv s) lot) := by split <;> omega
            show k2 [some (.lst (rows.map rowL)), some (.ref ks), x2, some (lotD lot), some (.lst ((lotsOf rows).map lotD)), some (.int (if lotT rows (sv s) lot < v then lotT rows (sv s) lot else v)), some (.int (lotT rows (sv s) lot))] m2
            rw [e6]
            exact this
    · obtain ⟨rfl, x2, x3, x6, rfl⟩ := p
      rw [List.length_map, List.take_length]
      have hv_ : leastB (sv s) rows (lotsOf rows) = some (mostW rows (msts rows) (sv s)) := by
        have hne : lotsOf rows ≠ [] := fun z => by have := lots_len rows; rw [z] at this; have h2 := Nat.two_pow_pos rows.length; simp at this; omega
        cases q : lotsOf rows with
        | nil => exact absurd q hne
        | cons a r =>
          obtain ⟨⟨h1, h2⟩, h3⟩ := foldl_least (lotT rows (sv s)) (lotT rows (sv s) a) r
          show some _ = some _
          congr 1
          refine lots_least ok.nodup (fun l hl => ?_) ?_
          · rw [q] at hl
            rcases List.mem_cons.mp hl with rfl | hl
            · exact h1
            · exact h2 l hl
          · rw [q]
            rcases h3 with h3 | ⟨l, hl, h3⟩
            · exact ⟨a, List.mem_cons_self, h3⟩
            · exact ⟨l, List.mem_cons_of_mem _ hl, h3⟩
      rw [hv_]
      exact fin h
end HL

namespace HL
open PySem L2 DL DM
local macro_rules | `(tactic| walk_at "nf") => `(tactic| try simp only [dSeq, dIfS, dOr, dAnd, dNot, dTest, dCB, dCons, dNil, dVar, dC, dRet, dRetN, dNext, dAsg, gN, gt2, dOp, dUn, dAndV, dOrV, dNotV, dIf, dLst, dTup, dCall, dMeth, dProp, dMake, dFld, dSl, dPart, dNoPart, dDrop, dPar, dPar3, dBm, dRev, dSetF, dBits, gSet, gTup', gCons', gNil', dDGet, dDIn, dDGet2, dDGet1, dDPut, dNewK, dNewT, iL_eq, iEn, on1, on2, onO_some, addI, subI, intC, onI_i, onS_s, onB_b, iT, iR1, iR2, dLc, dFor, lcBody, dLc2_eq, lcBody2, dDc, dcBody, dYes, wipeD, atE, startD, List.map_cons, List.map_nil, List.length_cons, List.length_nil, List.cons_append, List.nil_append, List.replicate, List.getElem?_cons_zero, List.getElem?_cons_succ, List.set_cons_zero, List.set_cons_succ, Nat.reduceSub, Nat.reduceAdd, Nat.reduceEqDiff, if_true, if_false])
theorem min2I {i j : Int} {m : Mu} {F : DK} : min2R [.int i, .int j] m F = F (.int (if j < i then j else i)) m := rfl
theorem Sub.trans' {a b c : Mu} (h : Sub a b) (h2 : Sub b c) : Sub a c := fun j o e => h2 j o (h j o e)
theorem dealL_take {rows : List Ak} {st : Str → Int} {i : Nat} {a : Ak} (h : rows[i]? = some a) : (dealL rows st).take (i + 1) = (dealL rows st).take i ++ [(a.name, gotW rows (msts rows) st i)] := by
  rw [List.take_succ]
  congr 1
  unfold dealL
  rw [List.getElem?_mapIdx, h]; rfl
theorem dealL_len (rows : List Ak) (st : Str → Int) : (dealL rows st).length = rows.length := List.length_mapIdx
def S_law_dealt : SpD := fun ds m F => ∃ (rows : List Ak) (ks : Nat) (s : Stk), ds = [.lst (rows.map rowL), .ref ks] ∧ m ks = some (.dK (stk s)) ∧ LrOk rows ∧ F (.lst ((dealL rows (sv s)).map pairD)) m
theorem pure_law_dealt {K : PySem.W.Frag} (ds : List D) (m : Mu) (G : DK) (h : S_law_dealt ds m G) : t__law_dealt K S_law_most_of { nx := fun _ m' => Fin G .non m', rt := Fin G } (startD 6 ds) m := by
  obtain ⟨rows, ks, s, rfl, hks, ok, h⟩ := h
  have ln := ok.ln
  unfold t__law_dealt
  refine seq_nx ?_
  unfold t__law_dealt_3
  walk_at "nf"
  refine And.intro (by decide) (Or.inr fun q hq => ?_)
  have e0 : (0 : Int) = mostW (rows.take 0) ((msts rows).take 0) (sv s) := rfl
  have hks1 : ∀ o, mset m q o ks = some (.dK (stk s)) := fun o => by rw [mset_ne (ne_of_mu hks hq)]; exact hks
  unfold t__law_dealt_2
  walk_at "nf"
  refine lenR_of (xs := rows.map rowL) rfl ?_
  rw [List.length_map]
  refine And.intro ⟨by omega, by omega⟩ ?_
  rw [Int.toNat_natCast, range_map]
  refine for_inv (fun i ρ m' => m' = mset m q (.lst (((dealL rows (sv s)).take i).map pairD)) ∧ ∃ x2 x5, ρ = [some (.lst (rows.map rowL)), some (.ref ks), x2, some (.ref q), some (.int (mostW (rows.take i) ((msts rows).take i) (sv s))), x5]) ⟨rfl, none, none, rfl⟩ (fun _ _ _ _ => trivial) (fun i d ρ m' ei p k2 hk2 => ?_) fun ρ m' p => ?_
  · obtain ⟨rfl, x2, x5, rfl⟩ := p
    rw [List.getElem?_map] at ei
    cases e : (List.range rows.length)[i]? with
    | none => rw [e] at ei; cases ei
    | some u =>
      rw [e] at ei
      have hi := (List.getElem?_eq_some_iff.mp e).1
      rw [List.length_range] at hi
      rw [List.getElem?_range hi] at e
      cases e
      obtain rfl := Option.some.inj ei
      obtain ⟨a, ha⟩ : ∃ a, rows[i]? = some a := ⟨_, List.getElem?_eq_getElem hi⟩
      unfold t__law_dealt_1 t__law_dealt_0
      walk_at "nf"
      rw [show ((i : Nat) : Int) + 1 = ((i + 1 : Nat) : Int) by omega]
      refine sl_lst (ys := (rows.take (i + 1)).map rowL) (by rw [cut_hi, List.map_take]) ?_
      have em : msts (rows.take (i + 1)) = (msts rows).take (i + 1) := by unfold msts; rw [List.map_take]
      refine ⟨rows.take (i + 1), ks, s, rfl, hks1 _, ok.sub (List.take_sublist _ _), ?_⟩
      rw [em]
      walk_at "nf"
      refine And.intro ⟨_, lstOf_ref mset_same⟩ ?_
      refine ixL (k := i) (x := rowL a) (by rw [List.getElem?_map, ha]; rfl) ?_
      refine ixT (k := 0) (x := .str a.name) rfl ?_
      walk_at "nf"
      refine And.intro (by decide) ?_
      refine ⟨_, mset_same, by simp only [List.length_map, List.length_take, dealL_len]; unfold sizeLine; omega, ?_⟩
      rw [mset_mset]
      have e4 : ((dealL rows (sv s)).take i).map pairD ++ [.tup [.str a.name, .int (mostW (rows.take (i + 1)) ((msts rows).take (i + 1)) (sv s) - mostW (rows.take i) ((msts rows).take i) (sv s))]] = ((dealL rows (sv s)).take (i + 1)).map pairD := by
        rw [dealL_take ha, List.map_append]; rfl
      rw [e4]
      exact hk2 _ _ ⟨rfl, _, _, rfl⟩
  · obtain ⟨rfl, x2, x5, rfl⟩ := p
    rw [List.length_map, List.length_range]
    have e5 : (dealL rows (sv s)).take rows.length = dealL rows (sv s) := List.take_of_length_le (by rw [dealL_len]; exact Nat.le_refl _)
    rw [e5]
    exact fin_set (m' := m) mset_same hq (sub_mset hq) h
/-! ### rows, stocks drawn -/
structure KdOk (kinds : List Str) : Prop where
  nm : ∀ s ∈ kinds, nameB s = true
  nd : kinds.Nodup
  ne : kinds ≠ []
  ln : kinds.length ≤ 8
def S_law_rows : SpD := fun ds m F => ∃ (k : Nat) (o : MO) (B : Nat) (kinds : List Str) (few : Nat), ds = [.ref k, .lst (kinds.map D.str), .int (few : Nat)] ∧ Pu m k B o ∧ B + 100000 ≤ 2 ^ 59 ∧ (KdOk kinds ∧ few ≤ 8) ∧
  ∀ (rows : List Ak) (o' : MO), LrOk rows → rows.length ≤ few → (∀ a ∈ rows, ∀ x ∈ a.fits, x ∈ kinds) → PurO (B + 10000) o' → F (.lst (rows.map rowL)) (mset m k o')
theorem pure_law_rows {K : PySem.W.Frag} (ds : List D) (m : Mu) (G : DK) (h : S_law_rows ds m G) : t__law_rows K (S_law_some poolN) S_law_draw S_law_most S_law_shuffled { nx := fun _ m' => Fin G .non m', rt := Fin G } (startD 6 ds) m := by
  obtain ⟨k, o, B, kinds, few, rfl, p, hB, ⟨kok, hf⟩, h⟩ := h
  have kl := kok.ln
  unfold t__law_rows
  refine seq_nx ?_
  unfold t__law_rows_3
  walk_at "nf"
  refine And.intro (by decide) (Or.inr fun q hq => ?_)
  have qk : k ≠ q := ne_of_mu p.at_ hq
  have p1 : Pu (mset m q (.lst [])) k B o := ⟨by rw [mset_ne qk]; exact p.at_, p.ok, p.le⟩
  unfold t__law_rows_2
  walk_at "nf"
  rw [show ((few : Nat) : Int) + 1 = ((few + 1 : Nat) : Int) by omega]
  refine drw p1 (by omega) (by omega) fun r o1 hr ho1 => ?_
  have hr2 : r ≤ few := by omega
  refine ⟨k, o1, B + 10, r, rfl, p1.set ho1 (by omega), by omega, ⟨by omega, by show r ≤ 8; omega⟩, fun ss o2 hs ho2 => ?_⟩
  rw [mset_mset]
  have sl := hs.ln
  simp only [withI_l]
  refine for_inv (fun i ρ m' => ∃ (rows : List Ak) (o' : MO) (x4 x5 : Option D), m' = mset (mset m q (.lst (rows.map rowL))) k o' ∧ ρ = [some (.ref k), some (.lst (kinds.map D.str)), some (.int (few : Nat)), some (.ref q), x4, x5] ∧ nms rows = ss.take i ∧ (∀ a ∈ rows, RwOk a) ∧ (∀ a ∈ rows, ∀ x ∈ a.fits, x ∈ kinds) ∧ PurO (B + 10 + 1000 + 700 * i) o') ?_ (fun _ _ _ _ => trivial) (fun i d ρ m' ei pp k2 hk2 => ?_) fun ρ m' pp => ?_
  · exact ⟨[], o2, none, none, rfl, rfl, rfl, by simp, by simp, ho2⟩
  · obtain ⟨rows, o', x4, x5, rfl, rfl, hn, hok, hkin, ho'⟩ := pp
    rw [List.getElem?_map] at ei
    cases e : ss[i]? with
    | none => rw [e] at ei; cases ei
    | some n =>
      rw [e] at ei
      obtain rfl := Option.some.inj ei
      have hi := (List.getElem?_eq_some_iff.mp e).1
      have ll : rows.length = i := by
        have := congrArg List.length hn
        rw [nms_len, List.length_take] at this
        omega
      have pu : Pu (mset (mset m q (.lst (rows.map rowL))) k o') k (B + 10 + 1000 + 700 * i) o' := ⟨mset_same, ho', by omega⟩
      unfold t__law_rows_1 t__law_rows_0
      walk_at "nf"
      refine ⟨k, o', _, kinds.map D.str, rfl, pu, by omega, by rw [List.length_map]; omega, fun ys o3 hy ho3 => ?_⟩
      obtain ⟨ts, rfl, ht⟩ := perm_strs hy
      have tl := ht.length_eq
      rw [mset_mset]
      have mq : ∀ o, mset (mset m q (.lst (rows.map rowL))) k o q = some (.lst (rows.map rowL)) := fun o => by rw [mset_ne (Ne.symm qk), mset_same]
      walk_at "nf"
      refine And.intro ⟨_, lstOf_ref (mq o3)⟩ ?_
      refine lenR_of (xs := ts.map D.str) rfl ?_
      rw [List.length_map]
      have kn : 1 ≤ kinds.length := List.length_pos_iff.mpr kok.ne
      have emin : (if (3 : Int) < (ts.length : Int) then (3 : Int) else (ts.length : Int)) = ((min ts.length 3 : Nat) : Int) := by split <;> omega
      rw [min2I, emin]
      refine drw (B := B + 10 + 1000 + 700 * i + 600) ⟨mset_same, ho3, by omega⟩ (by omega) (by omega) fun r2 o4 hr2 ho4 => ?_
      rw [mset_mset]
      walk_at "nf"
      rw [show (1 : Int) + ((r2 : Nat) : Int) = ((1 + r2 : Nat) : Int) by omega]
      refine sl_lst (ys := (ts.take (1 + r2)).map D.str) (by rw [cut_hi, List.map_take]) ?_
      refine ⟨k, o4, B + 10 + 1000 + 700 * i + 600 + 10, rfl, ⟨mset_same, ho4, by omega⟩, by omega, fun mo o5 h1 h2 ho5 => ?_⟩
      rw [mset_mset]
      refine And.intro (by decide) ?_
      refine ⟨_, mq o5, by rw [List.length_map]; unfold sizeLine; omega, ?_⟩
      rw [mset_comm qk, mset_mset]
      have e4 : rows.map rowL ++ [.tup [.str n, .lst ((ts.take (1 + r2)).map D.str), .int mo]] = (rows ++ [(⟨n, ts.take (1 + r2), mo⟩ : Ak)]).map rowL := by rw [List.map_append]; rfl
      rw [e4]
      refine hk2 _ _ ⟨rows ++ [⟨n, ts.take (1 + r2), mo⟩], o5, _, _, rfl, rfl, ?_, ?_, ?_, ho5.mono (by omega)⟩
      · unfold nms at hn ⊢
        rw [List.map_append, hn, List.take_succ, e]; rfl
      · intro b hb
        rcases List.mem_append.mp hb with hb | hb
        · exact hok b hb
        · rw [List.mem_singleton.mp hb]
          refine ⟨hs.nm n (List.mem_of_getElem? e), fun x hx => kok.nm x (ht.subset (List.mem_of_mem_take hx)), (ht.nodup_iff.mpr kok.nd).sublist (List.take_sublist _ _), fun z => ?_, ?_, h1, h2⟩
          · have := congrArg List.length z
            rw [List.length_take, List.length_nil] at this
            omega
          · show (ts.take (1 + r2)).length ≤ 8
            rw [List.length_take]; omega
      · intro b hb
        rcases List.mem_append.mp hb with hb | hb
        · exact hkin b hb
        · rw [List.mem_singleton.mp hb]
          exact fun x hx => ht.subset (List.mem_of_mem_take hx)
  · obtain ⟨rows, o', x4, x5, rfl, rfl, hn, hok, hkin, ho'⟩ := pp
    rw [List.length_map] at hn ho'
    rw [List.take_length] at hn
    have ll : rows.length = r := by
      have := congrArg List.length hn
      rw [nms_len] at this
      omega
    refine fin_set (o := .lst (rows.map rowL)) (m' := mset m k o') (by rw [mset_ne (Ne.symm qk), mset_same]) (by rw [mset_ne (Ne.symm qk)]; exact hq) ?_ (h rows o' ⟨hok, by rw [hn]; exact hs.nd, by omega⟩ (by omega) hkin (ho'.mono (by omega)))
    intro i u e
    by_cases z : i = k
    · rw [z, mset_same] at e ⊢; exact e
    · rw [mset_ne z] at e ⊢
      rw [mset_ne (ne_of_mu e hq)]; exact e
structure StB (s : Stk) : Prop where
  ok : StOk s
  lt : ∀ p ∈ s, p.2 < 2 ^ 98
def S_law_stock : SpD := fun ds m F => ∃ (k : Nat) (o : MO) (B : Nat) (kinds : List Str), ds = [.ref k, .lst (kinds.map D.str)] ∧ Pu m k B o ∧ B + 100000 ≤ 2 ^ 59 ∧ KdOk kinds ∧
  ∀ (s : Stk) (o' : MO) (ks : Nat), m ks = none → ks ≠ k → s.map (·.1) = kinds → StOk s → (∀ p ∈ s, p.2 < 2 ^ 97) → PurO (B + 1000) o' → F (.ref ks) (mset (mset m k o') ks (.dK (stk s)))
theorem pure_law_stock {K : PySem.W.Frag} (ds : List D) (m : Mu) (G : DK) (h : S_law_stock ds m G) : t__law_stock K S_law_one_of S_law_draw S_law_most { nx := fun _ m' => Fin G .non m', rt := Fin G } (startD 4 ds) m := by
  obtain ⟨k, o, B, kinds, rfl, p, hB, kok, h⟩ := h
  have kl := kok.ln
  unfold t__law_stock
  refine seq_nx ?_
  walk_at "nf"
  refine Or.inr fun q hq => ?_
  have qk : k ≠ q := ne_of_mu p.at_ hq
  unfold t__law_stock_1
  walk_at "nf"
  simp only [withI_l]
  refine for_inv (fun i ρ m' => ∃ (s : Stk) (o' : MO) (x3 : Option D), m' = mset (mset m k o') q (.dK (stk s)) ∧ ρ = [some (.ref k), some (.lst (kinds.map D.str)), some (.ref q), x3] ∧ s.map (·.1) = kinds.take i ∧ (∀ p ∈ s, 0 ≤ p.2 ∧ p.2 < 2 ^ 97) ∧ PurO (B + 100 * i) o') ?_ (fun _ _ _ _ => trivial) (fun i d ρ m' ei pp k2 hk2 => ?_) fun ρ m' pp => ?_
  · refine ⟨[], o, none, ?_, rfl, rfl, by simp, p.ok⟩
    rw [mset_id p.at_]; rfl
  · obtain ⟨s, o', x3, rfl, rfl, hsk, hv_, ho'⟩ := pp
    rw [List.getElem?_map] at ei
    cases e : kinds[i]? with
    | none => rw [e] at ei; cases ei
    | some x =>
      rw [e] at ei
      obtain rfl := Option.some.inj ei
      have hi := (List.getElem?_eq_some_iff.mp e).1
      have sl : s.length ≤ 8 := by
        have := congrArg List.length hsk
        rw [List.length_map, List.length_take] at this
        omega
      have comm : ∀ o2 s2, mset (mset (mset m k o') q (.dK (stk s2))) k o2 = mset (mset m k o2) q (.dK (stk s2)) := fun o2 s2 => by rw [mset_comm (Ne.symm qk), mset_mset]
      have pu : Pu (mset (mset m k o') q (.dK (stk s))) k (B + 100 * i) o' := ⟨by rw [mset_ne qk, mset_same], ho', by omega⟩
      unfold t__law_stock_0
      walk_at "nf"
      refine drw pu (by omega) (by omega) fun r o1 hr ho1 => ?_
      refine ⟨k, o1, _, rfl, pu.set ho1 (by omega), by omega, fun mo o2 h1 h2 ho2 => ?_⟩
      rw [mset_mset]
      refine And.intro (by decide) (new_l ?_)
      refine ⟨k, o2, _, [.int 0, .int 1, .int 1, .int 2, .int 3, .int (r : Nat), .int mo], rfl, pu.set ho2 (by omega), ⟨by simp, by simp⟩, fun v o3 hv3 ho3 => ?_⟩
      rw [mset_mset, comm]
      have hvi : ∃ w : Int, v = .int w ∧ 0 ≤ w ∧ w < 2 ^ 97 := by
        simp only [List.mem_cons, List.not_mem_nil, or_false] at hv3
        have h97 : (9 : Int) < 2 ^ 97 := by decide
        rcases hv3 with rfl | rfl | rfl | rfl | rfl | rfl | rfl
        · exact ⟨_, rfl, by omega, by omega⟩
        · exact ⟨_, rfl, by omega, by omega⟩
        · exact ⟨_, rfl, by omega, by omega⟩
        · exact ⟨_, rfl, by omega, by omega⟩
        · exact ⟨_, rfl, by omega, by omega⟩
        · exact ⟨_, rfl, by omega, by omega⟩
        · exact ⟨_, rfl, by omega, by omega⟩
      obtain ⟨w, rfl, w0, w1⟩ := hvi
      refine store_str mset_same (by rw [stk_len]; unfold sizeLine; omega) ?_
      have hnew : x ∉ s.map (·.1) := by
        rw [hsk]
        intro hm
        obtain ⟨u, hu⟩ := List.getElem?_of_mem hm
        rw [List.getElem?_take] at hu
        split at hu
        · rename_i hlt
          obtain ⟨hl1, e1⟩ := List.getElem?_eq_some_iff.mp hu
          obtain ⟨hl2, e2⟩ := List.getElem?_eq_some_iff.mp e
          have := (List.getElem_inj (h₀ := hl1) (h₁ := hl2) kok.nd).mp (e1.trans e2.symm)
          omega
        · cases hu
      rw [dput_stk, dput_new hnew, mset_mset]
      refine hk2 _ _ ⟨s ++ [(x, w)], o3, _, rfl, rfl, ?_, ?_, ho3.mono (by omega)⟩
      · rw [List.map_append, hsk, List.take_succ, e]; rfl
      · intro pr hpr
        rcases List.mem_append.mp hpr with z | z
        · exact hv_ pr z
        · rw [List.mem_singleton.mp z]; exact ⟨w0, w1⟩
  · obtain ⟨s, o', x3, rfl, rfl, hsk, hv_, ho'⟩ := pp
    rw [List.length_map] at hsk ho'
    rw [List.take_length] at hsk
    have sl : s.length < 60 := by
      have := congrArg List.length hsk
      rw [List.length_map] at this
      omega
    refine fin (h s o' q hq (Ne.symm qk) hsk ⟨fun pr hpr => kok.nm _ ?_, by rw [hsk]; exact kok.nd, fun pr hpr => (hv_ pr hpr).1, sl⟩ (fun pr hpr => (hv_ pr hpr).2) (ho'.mono (by omega)))
    rw [← hsk]; exact List.mem_map.mpr ⟨pr, hpr, rfl⟩
end HL

namespace HL
open PySem L2 DL DM
local macro_rules | `(tactic| walk_at "nf") => `(tactic| try simp only [dSeq, dIfS, dOr, dAnd, dNot, dTest, dCB, dCons, dNil, dVar, dC, dRet, dRetN, dNext, dAsg, gN, gt2, dOp, dUn, dAndV, dOrV, dNotV, dIf, dLst, dTup, dCall, dMeth, dProp, dMake, dFld, dSl, dPart, dNoPart, dDrop, dPar, dPar3, dBm, dRev, dSetF, dBits, gSet, gTup', gCons', gNil', dDGet, dDIn, dDGet2, dDGet1, dDPut, dNewK, dNewT, iL_eq, iEn, on1, on2, onO_some, addI, subI, intC, onI_i, onS_s, onB_b, iT, iR1, iR2, dLc, dFor, lcBody, dLc2_eq, lcBody2, dDc, dcBody, dYes, wipeD, atE, startD, List.map_cons, List.map_nil, List.length_cons, List.length_nil, List.cons_append, List.nil_append, List.replicate, List.getElem?_cons_zero, List.getElem?_cons_succ, List.set_cons_zero, List.set_cons_succ, Nat.reduceSub, Nat.reduceAdd, Nat.reduceEqDiff, if_true, if_false])
/-! ### bounds -/
theorem mostW_U {rows : List Ak} {wants : List Int} {st : Str → Int} (hl : wants.length = rows.length) (i : Nat) : mostW (rows.take i) (wants.take i) st = GV.most (kdU rows) st (rsOf (rows.take i) (wants.take i)) := by
  unfold mostW
  have e := fitsAt_rs (take_len' hl i)
  refine most_U (kdU_nodup _) (kdU_nodup _) (fun u x h => ?_) fun u x h => ?_
  · rw [e] at h; exact fits_U _ u x h
  · rw [e] at h; exact fits_U _ u x (fitsN_take h)
theorem most_tot {rows : List Ak} {wants : List Int} {st : Str → Int} (hl : wants.length = rows.length) {i : Nat} (hi : i ≤ rows.length) : (∀ L, mostW (rows.take i) (wants.take i) st ≤ GV.totN i (fitsN rows) (wantN wants) (kdU rows) st L) ∧ ∃ L, mostW (rows.take i) (wants.take i) st = GV.totN i (fitsN rows) (wantN wants) (kdU rows) st L := by
  have hl' := take_len' hl i
  have ln : (rsOf (rows.take i) (wants.take i)).length = i := by rw [rsOf_len hl', List.length_take]; omega
  have c : ∀ L, GV.totN i (fitsN (rows.take i)) (wantN (wants.take i)) (kdU rows) st L = GV.totN i (fitsN rows) (wantN wants) (kdU rows) st L := fun L => by
    refine GV.totN_congr (fun u hu => ?_) fun u hu => ?_
    · unfold fitsN; rw [List.getElem?_take, if_pos hu]
    · unfold wantN; rw [List.getD_eq_getElem?_getD, List.getD_eq_getElem?_getD, List.getElem?_take, if_pos hu]
  rw [mostW_U hl]
  refine ⟨fun L => ?_, ?_⟩
  · have := GV.most_le (U := kdU rows) (st := st) (rsOf (rows.take i) (wants.take i)) L
    rw [ln, fitsAt_rs hl', wantAt_rs hl', c] at this
    exact this
  · obtain ⟨L, h⟩ := GV.most_ex (U := kdU rows) (st := st) (rsOf (rows.take i) (wants.take i))
    rw [ln, fitsAt_rs hl', wantAt_rs hl', c] at h
    exact ⟨L, h⟩
theorem gotW_bd {rows : List Ak} {wants : List Int} {st : Str → Int} (hl : wants.length = rows.length) (w0 : ∀ i, 0 ≤ wantN wants i) (s0 : ∀ x, 0 ≤ st x) {i : Nat} (hi : i < rows.length) : 0 ≤ gotW rows wants st i ∧ gotW rows wants st i ≤ wantN wants i := by
  obtain ⟨a1, L1, a2⟩ := most_tot (st := st) hl (i := i) (by omega)
  obtain ⟨b1, L2, b2⟩ := most_tot (st := st) hl (i := i + 1) (by omega)
  unfold gotW
  constructor
  · have h1 := a1 L2
    have h2 : GV.totN i (fitsN rows) (wantN wants) (kdU rows) st L2 ≤ GV.totN (i + 1) (fitsN rows) (wantN wants) (kdU rows) st L2 := by
      unfold GV.totN
      rw [GV.sumN_succ]
      have h3 : 0 ≤ (if L2 i then 0 else wantN wants i) := by split; exact Int.le_refl _; exact w0 i
      have h4 : GV.heldL (kdU rows) st (GV.fitP i (fitsN rows) L2) ≤ GV.heldL (kdU rows) st (GV.fitP (i + 1) (fitsN rows) L2) := by
        unfold GV.heldL
        refine GV.sumL_le fun x _ => ?_
        by_cases q : GV.fitP i (fitsN rows) L2 x = true
        · obtain ⟨u, hu, h5, h6⟩ := GV.fitP_iff.mp q
          rw [if_pos q, if_pos (GV.fitP_iff.mpr ⟨u, by omega, h5, h6⟩)]; exact Int.le_refl _
        · rw [if_neg q]
          split
          · exact s0 x
          · exact Int.le_refl _
      omega
    omega
  · have h1 := b1 (fun u => if u = i then false else L1 u)
    have h2 : GV.totN (i + 1) (fitsN rows) (wantN wants) (kdU rows) st (fun u => if u = i then false else L1 u) = GV.totN i (fitsN rows) (wantN wants) (kdU rows) st L1 + wantN wants i := by
      unfold GV.totN
      rw [GV.sumN_succ]
      have e1 : GV.sumN i (fun u => if (if u = i then false else L1 u) then 0 else wantN wants u) = GV.sumN i (fun u => if L1 u then 0 else wantN wants u) := GV.sumN_congr fun u hu => by rw [if_neg (show ¬ u = i by omega)]
      have e2 : GV.fitP (i + 1) (fitsN rows) (fun u => if u = i then false else L1 u) = GV.fitP i (fitsN rows) L1 := by
        funext x
        rw [Bool.eq_iff_iff, GV.fitP_iff, GV.fitP_iff]
        constructor
        · rintro ⟨u, hu, h5, h6⟩
          by_cases z : u = i
          · rw [if_pos z] at h5; cases h5
          · rw [if_neg z] at h5; exact ⟨u, by omega, h5, h6⟩
        · rintro ⟨u, hu, h5, h6⟩
          exact ⟨u, by omega, by rw [if_neg (show ¬ u = i by omega)]; exact h5, h6⟩
      rw [e1, e2]
      simp; omega
    omega
theorem mostW_bd {rows : List Ak} {wants : List Int} {st : Str → Int} (hl : wants.length = rows.length) (w0 : ∀ i, 0 ≤ wantN wants i) (s0 : ∀ x, 0 ≤ st x) {b : Int} (hb : ∀ i, wantN wants i ≤ b) : ∀ i, i ≤ rows.length → 0 ≤ mostW (rows.take i) (wants.take i) st ∧ mostW (rows.take i) (wants.take i) st ≤ i * b
  | 0, _ => by
    have : mostW (rows.take 0) (wants.take 0) st = 0 := rfl
    rw [this]; simp
  | i + 1, hi => by
    obtain ⟨h1, h2⟩ := mostW_bd hl w0 s0 hb i (by omega)
    obtain ⟨h3, h4⟩ := gotW_bd (st := st) hl w0 s0 (i := i) (by omega)
    unfold gotW at h3 h4
    have := hb i
    have e : ((i + 1 : Nat) : Int) * b = (i : Int) * b + b := by rw [Int.natCast_add, Int.add_mul]; simp
    rw [e]
    constructor <;> omega
theorem mostW_bd' {rows : List Ak} {st : Str → Int} (ok : LrOk rows) (s0 : ∀ x, 0 ≤ st x) : 0 ≤ mostW rows (msts rows) st ∧ mostW rows (msts rows) st < 2 ^ 100 := by
  have w0 := msts_nn fun a ha => (ok.ok a ha).m1
  have hb : ∀ i, wantN (msts rows) i ≤ 2 ^ 97 - 1 := fun i => by
    unfold wantN msts
    rw [List.getD_eq_getElem?_getD, List.getElem?_map]
    cases e : rows[i]? with
    | none => simp
    | some a => have := (ok.ok a (List.mem_of_getElem? e)).m2; simp; omega
  have := mostW_bd (msts_len rows) w0 s0 hb rows.length (Nat.le_refl _)
  rw [List.take_length, ← msts_len rows, List.take_length, msts_len] at this
  have ln := ok.ln
  refine ⟨this.1, ?_⟩
  have h8 : (rows.length : Int) * (2 ^ 97 - 1) ≤ 8 * (2 ^ 97 - 1) := Int.mul_le_mul_of_nonneg_right (by omega) (by decide)
  have : (8 : Int) * (2 ^ 97 - 1) < 2 ^ 100 := by decide
  omega
theorem dealL_bd {rows : List Ak} {st : Str → Int} (ok : LrOk rows) (s0 : ∀ x, 0 ≤ st x) : ∀ p ∈ dealL rows st, nameB p.1 = true ∧ 0 ≤ p.2 ∧ p.2 < 2 ^ 100 := fun p hp => by
  obtain ⟨i, hi⟩ := List.getElem?_of_mem hp
  unfold dealL at hi
  rw [List.getElem?_mapIdx] at hi
  cases e : rows[i]? with
  | none => rw [e] at hi; cases hi
  | some a =>
    rw [e] at hi
    obtain rfl := Option.some.inj hi
    have hl := (List.getElem?_eq_some_iff.mp e).1
    have ra := ok.ok a (List.mem_of_getElem? e)
    obtain ⟨h1, h2⟩ := gotW_bd (st := st) (msts_len rows) (msts_nn fun a ha => (ok.ok a ha).m1) s0 hl
    refine ⟨ra.nm, h1, ?_⟩
    have e2 : wantN (msts rows) i = a.most := by unfold wantN msts; rw [List.getD_eq_getElem?_getD, List.getElem?_map, e]; rfl
    rw [e2] at h2
    have := ra.m2
    have : (2 : Int) ^ 97 < 2 ^ 100 := by decide
    show gotW rows (msts rows) st i < 2 ^ 100
    omega
/-! ### what is shown -/
theorem shw_tup {n k : Nat} {xs : List D} (h : ∀ x ∈ xs, Shw n x ∧ (toP x).depth ≤ k) (hk : k < 64 := by decide) : Shw (xs.length * (n + 1)) (.tup xs) := by
  obtain ⟨a1, a2, a3, a4, a5⟩ := shws h
  exact ⟨by rw [isP]; exact a1, by rw [toP, PyData.showable]; exact a2, by rw [toP, PyData.leavesShort]; exact a3, by rw [toP, PyData.weight]; exact a4, by rw [toP, PyData.depth]; omega⟩
theorem shw_pair {p : Str × Int} (h : nameB p.1 = true ∧ 0 ≤ p.2 ∧ p.2 < 2 ^ 100) : Shw 204 (pairD p) ∧ (toP (pairD p)).depth ≤ 1 := by
  have := shw_tup (n := 101) (k := 0) (xs := [.str p.1, .int p.2]) fun x hx => by
    rcases List.mem_cons.mp hx with rfl | hx
    · exact ⟨(shw_str h.1).mono (by decide), Nat.zero_le _⟩
    · rw [List.mem_singleton.mp hx]
      exact ⟨shw_int h.2.1 h.2.2, Nat.zero_le _⟩
  refine ⟨this, ?_⟩
  exact (ok_tup (n := 0) fun x hx => by
    rcases List.mem_cons.mp hx with rfl | hx
    · exact ok_str (nameB_ok h.1)
    · rw [List.mem_singleton.mp hx]; exact ok_int).2
theorem shw_pairs {l : List (Str × Int)} (h : ∀ p ∈ l, nameB p.1 = true ∧ 0 ≤ p.2 ∧ p.2 < 2 ^ 100) : Shw (l.length * 205) (.lst (l.map pairD)) := by
  have := shw_lst (n := 204) (k := 1) (xs := l.map pairD) fun x hx => by
    obtain ⟨p, hp, rfl⟩ := List.mem_map.mp hx
    exact shw_pair (h p hp)
  rw [List.length_map] at this
  exact this
theorem ress_pairs (m : Mu) : ∀ l : List (Str × Int), ress m (l.map pairD) = l.map pairD
  | [] => rfl
  | p :: l => by rw [List.map_cons, ress, ress_pairs m l]; rfl
theorem repr_int {i : Int} {m : Mu} {F : DK} (h0 : 0 ≤ i) (h1 : i < 2 ^ 100) (f : F (.str (toP (.int i)).shown) m) : reprD [.int i] m F := ⟨(shw_int h0 h1).ok, f⟩
theorem res_pairs {m : Mu} {d : D} {l : List (Str × Int)} (h : lstOf m d = some (l.map pairD)) : res m d = .lst (l.map pairD) := by
  rcases lstOf_cases h with rfl | ⟨k, rfl, q⟩
  · rw [res, ress_pairs]
  · simp [res, q, ress_pairs]
theorem repr_pairs {d : D} {l : List (Str × Int)} {m : Mu} {F : DK} (hd : lstOf m d = some (l.map pairD)) (h : ∀ p ∈ l, nameB p.1 = true ∧ 0 ≤ p.2 ∧ p.2 < 2 ^ 100) (hl : l.length ≤ 60) (f : F (.str (toP (.lst (l.map pairD))).shown) m) : reprD [d] m F := by
  have := ((shw_pairs h).mono (n' := 140000) (by omega)).ok
  show (okP (res m d) ∧ _ ∧ _) ∧ F (.str (toP (res m d)).shown) m
  rw [res_pairs hd]
  exact ⟨this, f⟩
theorem pairs_ok {l : List (Str × Int)} (h : ∀ p ∈ l, nameB p.1 = true ∧ 0 ≤ p.2 ∧ p.2 < 2 ^ 100) : okP (.lst (l.map pairD)) := by
  have := shw_pairs h
  exact ⟨this.p, this.dp⟩
theorem pairs_tidy (l : List (Str × Int)) : tidy (.lst (l.map pairD)) = true := by
  rw [tidy, tidys_all]
  intro x hx
  obtain ⟨p, hp, rfl⟩ := List.mem_map.mp hx
  rfl
theorem eq_same {neg : Bool} {x y : D} {m : Mu} {F : DK} {l : List (Str × Int)} (hx : lstOf m x = some (l.map pairD)) (hy : lstOf m y = some (l.map pairD)) (h : ∀ p ∈ l, nameB p.1 = true ∧ 0 ≤ p.2 ∧ p.2 < 2 ^ 100) (f : F (.bl (!neg)) m) : eqR neg x y m F := by
  refine vwE_of hx (vwE_of hy ⟨⟨pairs_ok h, pairs_ok h⟩, ?_⟩)
  rw [eqD_t rfl (pairs_tidy l)]
  cases neg <;> exact f
theorem str_same {neg : Bool} {s : Str} {m : Mu} {F : DK} (f : F (.bl (!neg)) m) : streqR neg (.str s) (.str s) m F := by
  show F (.bl (if neg then !decide (s = s) else decide (s = s))) m
  rw [decide_eq_true rfl]
  cases neg <;> exact f
/-- a stock is shown -/
theorem shownKv {s : Stk} (h : ∀ p ∈ s, nameB p.1 = true ∧ 0 ≤ p.2 ∧ p.2 < 2 ^ 100) : (dicP (stk s)).showable = true ∧ (dicP (stk s)).leavesShort 110 = true ∧ (dicP (stk s)).weight ≤ s.length * 300 := by
  have go : ∀ s : Stk, (∀ p ∈ s, nameB p.1 = true ∧ 0 ≤ p.2 ∧ p.2 < 2 ^ 100) → PyData.showableKv ((stk s).map fun kv => (keyP kv.1, toP kv.2)) = true ∧ PyData.leavesShortKv 110 ((stk s).map fun kv => (keyP kv.1, toP kv.2)) = true ∧ PyData.weightKv ((stk s).map fun kv => (keyP kv.1, toP kv.2)) ≤ s.length * 300 := by
    intro s
    induction s with
    | nil => intro _; exact ⟨rfl, rfl, Nat.zero_le _⟩
    | cons p s ih =>
      intro h
      obtain ⟨i1, i2, i3⟩ := ih fun q hq => h q (List.mem_cons_of_mem _ hq)
      obtain ⟨h1, h2, h3⟩ := h p List.mem_cons_self
      have a := shw_str h1
      have b := shw_int h2 h3
      have ea : toP (.str p.1) = .str p.1 := rfl
      have eb : toP (.int p.2) = .int p.2 := rfl
      have a1 := a.sh; have a2 := a.lf; have a3 := a.wt
      have b1 := b.sh; have b2 := b.lf; have b3 := b.wt
      rw [ea] at a1 a2 a3
      rw [eb] at b1 b2 b3
      refine ⟨?_, ?_, ?_⟩
      · show (PyData.showable (.str p.1) && PyData.showable (.int p.2) && _) = true
        rw [a1, b1]; exact i1
      · show PyData.leavesShortKv 110 ((PyData.str p.1, PyData.int p.2) :: (stk s).map fun kv => (keyP kv.1, toP kv.2)) = true
        rw [PyData.leavesShortKv, a2, b2, i2]; rfl
      · show PyData.weightKv ((PyData.str p.1, PyData.int p.2) :: (stk s).map fun kv => (keyP kv.1, toP kv.2)) ≤ _
        rw [PyData.weightKv, List.length_cons]
        omega
  obtain ⟨g1, g2, g3⟩ := go s h
  unfold dicP
  exact ⟨by rw [PyData.showable]; exact g1, by rw [PyData.leavesShort]; exact g2, by rw [PyData.weight]; exact g3⟩
theorem repr_stock {s : Stk} {ks : Nat} {m : Mu} {F : DK} (hks : m ks = some (.dK (stk s))) (h : ∀ p ∈ s, nameB p.1 = true ∧ 0 ≤ p.2 ∧ p.2 < 2 ^ 100) (hl : s.length < 60) (f : F (.str (dicP (stk s)).shown) m) : reprXR [.ref ks] m F := by
  obtain ⟨h1, h2, h3⟩ := shownKv h
  have hs := PyData.shown_le 110 (by decide) _ h2
  show onO (dkOf m (.ref ks)) _
  rw [show dkOf m (.ref ks) = some (stk s) from by show moK (m ks) = _; rw [hks]; rfl]
  refine ⟨?_, ⟨h1, by unfold sizeLine; omega⟩, f⟩
  rw [List.all_eq_true]
  intro kv hkv
  obtain ⟨p, hp, rfl⟩ := List.mem_map.mp hkv
  rfl
end HL

namespace HL
open PySem L2 DL DM
local macro_rules | `(tactic| walk_at "nf") => `(tactic| try simp only [dSeq, dIfS, dOr, dAnd, dNot, dTest, dCB, dCons, dNil, dVar, dC, dRet, dRetN, dNext, dAsg, gN, gt2, dOp, dUn, dAndV, dOrV, dNotV, dIf, dLst, dTup, dCall, dMeth, dProp, dMake, dFld, dSl, dPart, dNoPart, dDrop, dPar, dPar3, dBm, dRev, dSetF, dBits, gSet, gTup', gCons', gNil', dDGet, dDIn, dDGet2, dDGet1, dDPut, dNewK, dNewT, iL_eq, iEn, on1, on2, onO_some, addI, subI, intC, onI_i, onS_s, onB_b, iT, iR1, iR2, dLc, dFor, lcBody, dLc2_eq, lcBody2, dDc, dcBody, dYes, wipeD, atE, startD, List.map_cons, List.map_nil, List.length_cons, List.length_nil, List.cons_append, List.nil_append, List.replicate, List.getElem?_cons_zero, List.getElem?_cons_succ, List.set_cons_zero, List.set_cons_succ, Nat.reduceSub, Nat.reduceAdd, Nat.reduceEqDiff, if_true, if_false])
theorem perm_of_map {α β : Type} (f : α → β) {ys zs : List β} (h : ys.Perm zs) : ∀ xs : List α, zs = xs.map f → ∃ ws : List α, ys = ws.map f ∧ ws.Perm xs := by
  induction h with
  | nil =>
    intro xs e
    cases xs with
    | nil => exact ⟨[], rfl, .nil⟩
    | cons _ _ => cases e
  | cons x _ ih =>
    intro xs e
    cases xs with
    | nil => cases e
    | cons y ys =>
      rw [List.map_cons] at e
      obtain ⟨e1, e2⟩ := List.cons.inj e
      obtain ⟨ws, h1, h2⟩ := ih ys e2
      exact ⟨y :: ws, by rw [List.map_cons, h1, e1], h2.cons y⟩
  | swap x y l =>
    intro xs e
    cases xs with
    | nil => cases e
    | cons a xs =>
      cases xs with
      | nil => cases e
      | cons b xs =>
        rw [List.map_cons, List.map_cons] at e
        obtain ⟨e1, e2⟩ := List.cons.inj e
        obtain ⟨e2, e3⟩ := List.cons.inj e2
        exact ⟨b :: a :: xs, by rw [List.map_cons, List.map_cons, e1, e2, e3], .swap a b xs⟩
  | trans _ _ i1 i2 =>
    intro xs e
    obtain ⟨ws, h1, h2⟩ := i2 xs e
    obtain ⟨vs, h3, h4⟩ := i1 ws h1
    exact ⟨vs, h3, h4.trans h2⟩
theorem cut_init {α : Type} {f : α → D} {l : List α} {a : α} : cutD ((l ++ [a]).map f) none (some (-1)) = l.map f := by
  unfold cutD
  rw [HT.sIx_none]
  have e : HT.sIx ((l ++ [a]).map f).length ((l ++ [a]).map f).length (some (-1)) = l.length := by
    show (if (-1 : Int) < 0 then ((-1 : Int) + (((l ++ [a]).map f).length : Int)).toNat else min (-1 : Int).toNat ((l ++ [a]).map f).length) = l.length
    rw [if_pos (by decide), List.length_map, List.length_append, List.length_singleton]; omega
  rw [e]
  simp
theorem last_map {α : Type} {f : α → D} {l : List α} {a : α} : atI ((l ++ [a]).map f) (-1) = some (f a) := by
  rw [atI_last (by simp)]
  simp
theorem nms_okL {rows : List Ak} (h : LrOk rows) : ∀ s ∈ nms rows, nameB s = true := fun s hs => by
  obtain ⟨a, ha, rfl⟩ := List.mem_map.mp hs
  exact (h.ok a ha).nm
theorem most_snoc {st : Str → Int} {init : List Ak} {a : Ak} (ok : LrOk (init ++ [a])) (s0 : ∀ x, 0 ≤ st x) : 0 ≤ mostW (init ++ [a]) (msts (init ++ [a])) st - mostW init (msts init) st ∧ mostW (init ++ [a]) (msts (init ++ [a])) st - mostW init (msts init) st < 2 ^ 100 := by
  have h := gotW_bd (rows := init ++ [a]) (st := st) (msts_len _) (msts_nn fun a ha => (ok.ok a ha).m1) s0 (i := init.length) (by simp)
  unfold gotW at h
  have t1 : (init ++ [a]).take (init.length + 1) = init ++ [a] := List.take_of_length_le (by simp)
  have t2 : (msts (init ++ [a])).take (init.length + 1) = msts (init ++ [a]) := List.take_of_length_le (by rw [msts_len]; simp)
  have t3 : (init ++ [a]).take init.length = init := by simp
  have t4 : (msts (init ++ [a])).take init.length = msts init := by unfold msts; rw [List.map_append]; simp
  rw [t1, t2, t3, t4] at h
  refine ⟨h.1, ?_⟩
  have e : wantN (msts (init ++ [a])) init.length = a.most := by
    unfold wantN msts
    rw [List.getD_eq_getElem?_getD, List.getElem?_map]; simp
  rw [e] at h
  have := (ok.ok a (by simp)).m2
  have : (2 : Int) ^ 97 < 2 ^ 100 := by decide
  omega
theorem dval_none {s : Stk} {x : Str} (h : x ∉ s.map (·.1)) : dval s x = none := by
  cases e : dval s x with
  | none => rfl
  | some v => exact (h (List.mem_map.mpr ⟨_, dval_mem e, rfl⟩)).elim
theorem dict_of {m : Mu} {ks : Nat} {l : List (Key × D)} {F : DK} (h : m ks = some (.dK l)) (f : New (.dK l) m F) : dictDR [.ref ks] m F := by
  show onO (dkOf m (.ref ks)) _
  rw [show dkOf m (.ref ks) = some l from by show moK (m ks) = _; rw [h]; rfl]
  exact f
theorem look_is {m : Mu} {ks : Nat} {s : Stk} {x : Str} {P : Option D → Prop} (h : m ks = some (.dK (stk s))) (f : ∀ o : Option D, o.isSome = decide (x ∈ s.map (·.1)) → P o) : onO (look m (.ref ks) (.str x)) P := by
  refine onO_of (look_str h) (f _ ?_)
  rw [dval_stk, Option.isSome_map]
  by_cases z : x ∈ s.map (·.1)
  · rw [decide_eq_true z]
    cases q : dval s x with
    | none => exact (dval_none_iff.mp q z).elim
    | some v => rfl
  · rw [decide_eq_false z, dval_none z]; rfl
theorem sl_ref {k : Nat} {m : Mu} {xs ys : List D} {lo hi : Option Int} {F : DK} (hk : m k = some (.lst xs)) (e : cutD xs lo hi = ys) (f : New (.lst ys) m F) : slR (.ref k) lo hi m F := by
  subst e
  exact withL_of (HL.lstOf_ref hk) f
theorem sv_more {s : Stk} {w : Str} (h : w ∉ s.map (·.1)) : sv (dput s w 0) = sv s := by
  funext x
  unfold sv
  rw [dval_put]
  by_cases e : x = w
  · rw [if_pos e, e, dval_none h]; rfl
  · rw [if_neg e]
/-! ### the loop over the purses -/
/-- all but one object stay -/
def Keep (k : Nat) (m m' : Mu) : Prop := ∀ j o, j ≠ k → m j = some o → m' j = some o
theorem Keep.refl {k : Nat} {m : Mu} : Keep k m m := fun _ _ _ h => h
theorem Keep.trans {k : Nat} {a b c : Mu} (h : Keep k a b) (h2 : Keep k b c) : Keep k a c := fun j o n e => h2 j o n (h j o n e)
theorem Keep.set {k : Nat} {a b : Mu} {o : MO} (h : Keep k a b) : Keep k a (mset b k o) := fun j u n e => by rw [mset_ne n]; exact h j u n e
theorem Keep.new {k q : Nat} {a b : Mu} {o : MO} (h : Keep k a b) (hq : a q = none) : Keep k a (mset b q o) := fun j u n e => by rw [mset_ne (ne_of_mu e hq)]; exact h j u n e
theorem over_purses {stay : Mu → Prop} {body : D → REnv → Mu → (REnv → Mu → Prop) → Prop} {ks : List Nat} {ρ : REnv} {m : Mu} {kk : REnv → Mu → Prop} (nd : ks.Nodup) (ho : ∀ k ∈ ks, ∃ o, m k = some o ∧ PurO 0 o) (shape : REnv → Prop) (h0 : shape ρ) (hst : ∀ m, stay m)
    (hb : ∀ k o ρ' m', shape ρ' → m' k = some o → PurO 0 o → ∀ k2 : REnv → Mu → Prop, (∀ ρ2 m2, shape ρ2 → Keep k m' m2 → k2 ρ2 m2) → body (.ref k) ρ' m' k2) (hd : ∀ ρ' m', shape ρ' → kk ρ' m') : forRun stay body (ks.map D.ref) ρ m kk := by
  refine for_inv (fun i ρ m' => (∀ j k, i ≤ j → ks[j]? = some k → ∃ o, m' k = some o ∧ PurO 0 o) ∧ shape ρ) ⟨fun j k _ e => ho k (List.mem_of_getElem? e), h0⟩ (fun _ _ _ _ => hst _) (fun i d ρ m' ei q k2 hk2 => ?_) fun ρ m' q => hd ρ m' q.2
  obtain ⟨hp, sh⟩ := q
  rw [List.getElem?_map] at ei
  cases q : ks[i]? with
  | none => rw [q] at ei; cases ei
  | some k =>
    rw [q] at ei
    obtain rfl : D.ref k = d := Option.some.inj ei
    obtain ⟨o, hk, po⟩ := hp i k (Nat.le_refl _) q
    refine hb k o ρ m' sh hk po k2 fun ρ2 m2 s2 kp => hk2 _ _ ⟨fun j2 k' hj2 e => ?_, s2⟩
    obtain ⟨o', e1, e2⟩ := hp j2 k' (by omega) e
    have hkk : k' ≠ k := fun z => by
      subst z
      obtain ⟨a1, c1⟩ := List.getElem?_eq_some_iff.mp q
      obtain ⟨a2, c2⟩ := List.getElem?_eq_some_iff.mp e
      have := (List.getElem_inj (h₀ := a1) (h₁ := a2) nd).mp (c1.trans c2.symm)
      omega
    exact ⟨o', kp k' o' hkk e1, e2⟩
def S_law : SpD := fun ds m F => ∃ ns : List Int, ds = [.scr ns] ∧ ns.length < 1000 ∧ ∀ m', F (.bl true) m'
theorem Some_.kd {pool : List Str} {n : Nat} {ss : List Str} (h : Some_ pool n ss) (h0 : 0 < n) (h8 : n ≤ 8) : KdOk ss := ⟨h.nm, h.nd, fun z => by have := h.ln; rw [z] at this; simp at this; omega, by rw [h.ln]; exact h8⟩
/-- of two words beyond the pool one is not among those drawn -/
theorem Some_.two {n : Nat} {pool ss : List Str} (h : Some_ pool n ss) {a b : Str} (ha : a ∉ pool) (hb : b ∉ pool) (ne : a ≠ b) : a ∉ ss ∨ b ∉ ss := by
  obtain ⟨w, hw⟩ := h.of
  by_cases z : a ∈ ss
  · refine .inr fun z2 => ne ?_
    rcases hw a z with q | q
    · exact (ha q).elim
    · rcases hw b z2 with r | r
      · exact (hb r).elim
      · exact q.trans r.symm
  · exact .inl z
theorem dput_keys_in {s : Stk} {k : Str} {v : Int} (h : k ∈ s.map (·.1)) : (dput s k v).map (·.1) = s.map (·.1) := by rw [dput_keys, if_pos h]
theorem StOk.put {s : Stk} {k : Str} {v : Int} (h : StOk s) (hk : k ∈ s.map (·.1)) (hv : 0 ≤ v) : StOk (dput s k v) := by
  have e := dput_keys_in (v := v) hk
  refine ⟨fun p hp => ?_, dput_nodup h.nd, fun p hp => ?_, ?_⟩
  · have : p.1 ∈ s.map (·.1) := by rw [← e]; exact List.mem_map.mpr ⟨p, hp, rfl⟩
    obtain ⟨q, hq, e2⟩ := List.mem_map.mp this
    rw [← e2]; exact h.nm q hq
  · rcases dput_mem hp with rfl | hp
    · exact hv
    · exact h.nn p hp
  · have := congrArg List.length e
    rw [List.length_map, List.length_map] at this
    rw [this]; exact h.ln
end HL

namespace K10
open PySem L2 DL
def top (i : Nat) : Stmt := PySem.Challenge.pw_elderlink_k10_whole_deals.main.body.getD i (.Pass ⟨0, 0, 0, 0⟩)
def clsBody (s : Stmt) : List Stmt := match s with
  | .ClassDef _ _ _ b .. => b
  | _ => []
def inCls (i j : Nat) : Stmt := (clsBody (top i)).getD j (.Pass ⟨0, 0, 0, 0⟩)
def d__law_purse : DD := ⟨fun K => (ga K "_law_purse"), "_law_purse", "_law_purse", top 32, []⟩
def d__law_purses : DD := ⟨fun K => (ga K "_law_purses"), "_law_purses", "_law_purses", top 35, []⟩
def d__law_mixed : DD := ⟨fun K => (ga K "_law_mixed"), "_law_mixed", "_law_mixed", top 33, []⟩
def d__law_draw : DD := ⟨fun K => (ga K "_law_draw"), "_law_draw", "_law_draw", top 34, []⟩
def d__law_word : DD := ⟨fun K => (ga K "_law_word"), "_law_word", "_law_word", top 38, []⟩
def d__law_shuffled : DD := ⟨fun K => (ga K "_law_shuffled"), "_law_shuffled", "_law_shuffled", top 37, []⟩
def d__law_kinds : DD := ⟨fun K => (ga K "_law_kinds"), "_law_kinds", "_law_kinds", top 40, []⟩
def d__law_names : DD := ⟨fun K => (ga K "_law_names"), "_law_names", "_law_names", top 39, []⟩
def d__law_one_of : DD := ⟨fun K => (ga K "_law_one_of"), "_law_one_of", "_law_one_of", top 36, []⟩
def d__law_most : DD := ⟨fun K => (ga K "_law_most"), "_law_most", "_law_most", top 41, []⟩
def d__law_rows : DD := ⟨fun K => (ga K "_law_rows"), "_law_rows", "_law_rows", top 44, []⟩
def d__law_stock : DD := ⟨fun K => (ga K "_law_stock"), "_law_stock", "_law_stock", top 42, []⟩
def d_Line___init__ : DD := ⟨fun K => (ma K (ga K "Line") "__init__"), "__init__", "Line.__init__", inCls 18 0, []⟩
def d_is_name : DD := ⟨fun K => (ga K "is_name"), "is_name", "is_name", top 10, []⟩
def d_are_names : DD := ⟨fun K => (ga K "are_names"), "are_names", "are_names", top 12, []⟩
def d_is_count : DD := ⟨fun K => (ga K "is_count"), "is_count", "is_count", top 11, []⟩
def d_Asker___init__ : DD := ⟨fun K => (ma K (ga K "Asker") "__init__"), "__init__", "Asker.__init__", inCls 13 0, []⟩
def d__law_line_of : DD := ⟨fun K => (ga K "_law_line_of"), "_law_line_of", "_law_line_of", top 45, []⟩
def d_check_line : DD := ⟨fun K => (ga K "check_line"), "check_line", "check_line", top 15, []⟩
def d_is_stock : DD := ⟨fun K => (ga K "is_stock"), "is_stock", "is_stock", top 16, []⟩
def d_check_stock : DD := ⟨fun K => (ga K "check_stock"), "check_stock", "check_stock", top 17, []⟩
def d_Giving_holders : DD := ⟨fun K => (ma K (ga K "Giving") "holders"), "holders", "Giving.holders", inCls 22 1, []⟩
def d_Giving_reached : DD := ⟨fun K => (ma K (ga K "Giving") "reached"), "reached", "Giving.reached", inCls 22 2, []⟩
def d_Giving_steps : DD := ⟨fun K => (ma K (ga K "Giving") "steps"), "steps", "Giving.steps", inCls 22 3, []⟩
def d_Giving_hand : DD := ⟨fun K => (ma K (ga K "Giving") "hand"), "hand", "Giving.hand", inCls 22 4, []⟩
def d_Giving___init__ : DD := ⟨fun K => (ma K (ga K "Giving") "__init__"), "__init__", "Giving.__init__", inCls 22 0, []⟩
def d_mosts_of : DD := ⟨fun K => (ga K "mosts_of"), "mosts_of", "mosts_of", top 24, []⟩
def d_giving_of : DD := ⟨fun K => (ga K "giving_of"), "giving_of", "giving_of", top 28, []⟩
def d_dealt : DD := ⟨fun K => (ga K "dealt"), "dealt", "dealt", top 29, []⟩
def d_deal : DD := ⟨fun K => (ga K "deal"), "deal", "deal", top 30, []⟩
def d__law_held : DD := ⟨fun K => (ga K "_law_held"), "_law_held", "_law_held", top 43, []⟩
def d__law_fits_of : DD := ⟨fun K => (ga K "_law_fits_of"), "_law_fits_of", "_law_fits_of", top 46, []⟩
def d__law_most_of : DD := ⟨fun K => (ga K "_law_most_of"), "_law_most_of", "_law_most_of", top 47, []⟩
def d__law_dealt : DD := ⟨fun K => (ga K "_law_dealt"), "_law_dealt", "_law_dealt", top 48, []⟩
def d_Line_names : DD := ⟨fun K => (ma K (ga K "Line") "names"), "names", "Line.names", inCls 18 4, []⟩
def d_check_names : DD := ⟨fun K => (ga K "check_names"), "check_names", "check_names", top 20, []⟩
def d_most_together : DD := ⟨fun K => (ga K "most_together"), "most_together", "most_together", top 25, []⟩
def d_check_known : DD := ⟨fun K => (ga K "check_known"), "check_known", "check_known", top 19, []⟩
def d_Line_place : DD := ⟨fun K => (ma K (ga K "Line") "place"), "place", "Line.place", inCls 18 6, []⟩
def d_rows_of : DD := ⟨fun K => (ga K "rows_of"), "rows_of", "rows_of", top 23, []⟩
def d_together : DD := ⟨fun K => (ga K "together"), "together", "together", top 26, []⟩
def d_due : DD := ⟨fun K => (ga K "due"), "due", "due", top 27, []⟩
def d__law_lots_right : DD := ⟨fun K => (ga K "_law_lots_right"), "_law_lots_right", "_law_lots_right", top 49, []⟩
def d__law_right : DD := ⟨fun K => (ga K "_law_right"), "_law_right", "_law_right", top 50, []⟩
def d_law : DD := ⟨fun K => (ga K "law"), "law", "law", top 51, []⟩
def fns : List DD := [d__law_purse, d__law_purses, d__law_mixed, d__law_draw, d__law_word, d__law_shuffled, d__law_kinds, d__law_names, d__law_one_of, d__law_most, d__law_rows, d__law_stock, d_Line___init__, d_is_name, d_are_names, d_is_count, d_Asker___init__, d__law_line_of, d_check_line, d_is_stock, d_check_stock, d_Giving_holders, d_Giving_reached, d_Giving_steps, d_Giving_hand, d_Giving___init__, d_mosts_of, d_giving_of, d_dealt, d_deal, d__law_held, d__law_fits_of, d__law_most_of, d__law_dealt, d_Line_names, d_check_names, d_most_together, d_check_known, d_Line_place, d_rows_of, d_together, d_due, d__law_lots_right, d__law_right, d_law]
def exs : List (PySem.W.Frag → Bool) := [
  fun K => (He.Fa.glo "Asker").ok K,
  fun K => (He.Fa.glo "Giving").ok K,
  fun K => (He.Fa.glo "Line").ok K,
  fun K => (He.Fa.glo "_law_dealt").ok K,
  fun K => (He.Fa.glo "_law_draw").ok K,
  fun K => (He.Fa.glo "_law_fits_of").ok K,
  fun K => (He.Fa.glo "_law_held").ok K,
  fun K => (He.Fa.glo "_law_kinds").ok K,
  fun K => (He.Fa.glo "_law_line_of").ok K,
  fun K => (He.Fa.glo "_law_lots_right").ok K,
  fun K => (He.Fa.glo "_law_mixed").ok K,
  fun K => (He.Fa.glo "_law_most").ok K,
  fun K => (He.Fa.glo "_law_most_of").ok K,
  fun K => (He.Fa.glo "_law_names").ok K,
  fun K => (He.Fa.glo "_law_one_of").ok K,
  fun K => (He.Fa.glo "_law_purse").ok K,
  fun K => (He.Fa.glo "_law_purses").ok K,
  fun K => (He.Fa.glo "_law_right").ok K,
  fun K => (He.Fa.glo "_law_rows").ok K,
  fun K => (He.Fa.glo "_law_shuffled").ok K,
  fun K => (He.Fa.glo "_law_stock").ok K,
  fun K => (He.Fa.glo "_law_word").ok K,
  fun K => (He.Fa.glo "are_names").ok K,
  fun K => (He.Fa.glo "check_known").ok K,
  fun K => (He.Fa.glo "check_line").ok K,
  fun K => (He.Fa.glo "check_names").ok K,
  fun K => (He.Fa.glo "check_stock").ok K,
  fun K => (He.Fa.glo "deal").ok K,
  fun K => (He.Fa.glo "dealt").ok K,
  fun K => (He.Fa.glo "due").ok K,
  fun K => (He.Fa.glo "giving_of").ok K,
  fun K => (He.Fa.glo "is_count").ok K,
  fun K => (He.Fa.glo "is_name").ok K,
  fun K => (He.Fa.glo "is_stock").ok K,
  fun K => (He.Fa.glo "law").ok K,
  fun K => (He.Fa.glo "most_together").ok K,
  fun K => (He.Fa.glo "mosts_of").ok K,
  fun K => (He.Fa.glo "rows_of").ok K,
  fun K => (He.Fa.glo "together").ok K,
  fun K => (He.Fa.free "bool").ok K,
  fun K => (He.Fa.free "dict").ok K,
  fun K => (He.Fa.free "enumerate").ok K,
  fun K => (He.Fa.free "int").ok K,
  fun K => (He.Fa.free "isinstance").ok K,
  fun K => (He.Fa.free "len").ok K,
  fun K => (He.Fa.free "list").ok K,
  fun K => (He.Fa.free "max").ok K,
  fun K => (He.Fa.free "min").ok K,
  fun K => (He.Fa.free "range").ok K,
  fun K => (He.Fa.free "repr").ok K,
  fun K => (He.Fa.free "set").ok K,
  fun K => (He.Fa.free "sorted").ok K,
  fun K => (He.Fa.free "str").ok K,
  fun K => (He.Fa.free "sum").ok K,
  fun K => (He.Fa.free "tuple").ok K,
  fun K => (He.Fa.str "LOWER" "abcdefghijklmnopqrstuvwxyz").ok K,
  fun K => (He.Fa.cls "Asker").ok K,
  instB "Asker",
  fun K => (He.Fa.mkr "Asker").ok K,
  ownB "Asker",
  kit1B "Asker" "Asker" true,
  kit1B "Asker" "Line" false,
  kit1B "Asker" "Giving" false,
  fun K => (He.Fa.cls "Line").ok K,
  instB "Line",
  fun K => (He.Fa.mkr "Line").ok K,
  ownB "Line",
  slenB "Line",
  kit1B "Line" "Asker" false,
  kit1B "Line" "Line" true,
  kit1B "Line" "Giving" false,
  fun K => (He.Fa.cls "Giving").ok K,
  instB "Giving",
  fun K => (He.Fa.mkr "Giving").ok K,
  kit1B "Giving" "Asker" false,
  kit1B "Giving" "Line" false,
  kit1B "Giving" "Giving" true,
  fun K => (He.Fa.noat "Asker" "row").ok K,
  fun K => (He.Fa.noat "Line" "all").ok K,
  fun K => (He.Fa.noat "Line" "every").ok K,
  fun K => (He.Fa.noat "Giving" "rows").ok K,
  fun K => (He.Fa.noat "Giving" "wants").ok K,
  fun K => (He.Fa.noat "Giving" "free").ok K,
  fun K => (He.Fa.noat "Giving" "holds").ok K,
  fun K => (He.Fa.noat "Giving" "got").ok K,
  propB "Asker" "name",
  propB "Asker" "fits",
  propB "Asker" "most",
  fun K => (He.Fa.meth "Line" "names").ok K,
  fun K => (He.Fa.meth "Line" "place").ok K,
  fun K => (He.Fa.meth "Giving" "hand").ok K,
  fun K => (He.Fa.meth "Giving" "steps").ok K,
  fun K => (He.Fa.meth "Giving" "reached").ok K,
  fun K => (He.Fa.meth "Giving" "holders").ok K]
/-- what is known of the program behind its top -/
structure TX (K : PySem.W.Frag) (mg : Str → Option Value) : Type where
  g_Asker : mg "Asker" = some (.ref (ga K "Asker"))
  g_Giving : mg "Giving" = some (.ref (ga K "Giving"))
  g_Line : mg "Line" = some (.ref (ga K "Line"))
  g__law_dealt : mg "_law_dealt" = some (.ref (ga K "_law_dealt"))
  g__law_draw : mg "_law_draw" = some (.ref (ga K "_law_draw"))
  g__law_fits_of : mg "_law_fits_of" = some (.ref (ga K "_law_fits_of"))
  g__law_held : mg "_law_held" = some (.ref (ga K "_law_held"))
  g__law_kinds : mg "_law_kinds" = some (.ref (ga K "_law_kinds"))
  g__law_line_of : mg "_law_line_of" = some (.ref (ga K "_law_line_of"))
  g__law_lots_right : mg "_law_lots_right" = some (.ref (ga K "_law_lots_right"))
  g__law_mixed : mg "_law_mixed" = some (.ref (ga K "_law_mixed"))
  g__law_most : mg "_law_most" = some (.ref (ga K "_law_most"))
  g__law_most_of : mg "_law_most_of" = some (.ref (ga K "_law_most_of"))
  g__law_names : mg "_law_names" = some (.ref (ga K "_law_names"))
  g__law_one_of : mg "_law_one_of" = some (.ref (ga K "_law_one_of"))
  g__law_purse : mg "_law_purse" = some (.ref (ga K "_law_purse"))
  g__law_purses : mg "_law_purses" = some (.ref (ga K "_law_purses"))
  g__law_right : mg "_law_right" = some (.ref (ga K "_law_right"))
  g__law_rows : mg "_law_rows" = some (.ref (ga K "_law_rows"))
  g__law_shuffled : mg "_law_shuffled" = some (.ref (ga K "_law_shuffled"))
  g__law_stock : mg "_law_stock" = some (.ref (ga K "_law_stock"))
  g__law_word : mg "_law_word" = some (.ref (ga K "_law_word"))
  g_are_names : mg "are_names" = some (.ref (ga K "are_names"))
  g_check_known : mg "check_known" = some (.ref (ga K "check_known"))
  g_check_line : mg "check_line" = some (.ref (ga K "check_line"))
  g_check_names : mg "check_names" = some (.ref (ga K "check_names"))
  g_check_stock : mg "check_stock" = some (.ref (ga K "check_stock"))
  g_deal : mg "deal" = some (.ref (ga K "deal"))
  g_dealt : mg "dealt" = some (.ref (ga K "dealt"))
  g_due : mg "due" = some (.ref (ga K "due"))
  g_giving_of : mg "giving_of" = some (.ref (ga K "giving_of"))
  g_is_count : mg "is_count" = some (.ref (ga K "is_count"))
  g_is_name : mg "is_name" = some (.ref (ga K "is_name"))
  g_is_stock : mg "is_stock" = some (.ref (ga K "is_stock"))
  g_law : mg "law" = some (.ref (ga K "law"))
  g_most_together : mg "most_together" = some (.ref (ga K "most_together"))
  g_mosts_of : mg "mosts_of" = some (.ref (ga K "mosts_of"))
  g_rows_of : mg "rows_of" = some (.ref (ga K "rows_of"))
  g_together : mg "together" = some (.ref (ga K "together"))
  n_bool : mg "bool" = none
  n_dict : mg "dict" = none
  n_enumerate : mg "enumerate" = none
  n_int : mg "int" = none
  n_isinstance : mg "isinstance" = none
  n_len : mg "len" = none
  n_list : mg "list" = none
  n_max : mg "max" = none
  n_min : mg "min" = none
  n_range : mg "range" = none
  n_repr : mg "repr" = none
  n_set : mg "set" = none
  n_sorted : mg "sorted" = none
  n_str : mg "str" = none
  n_sum : mg "sum" = none
  n_tuple : mg "tuple" = none
  x_LOWER : ∃ t, mg "LOWER" = some (.str "abcdefghijklmnopqrstuvwxyz" t)
  c_Asker : Cls K (ga K "Asker")
  i_Asker : InsTy K (ga K "Asker")
  k_Asker : Mk K (ga K "Asker") (ma K (ga K "Asker") "__init__")
  o_Asker : OwnQ K (ga K "Asker") (ma K (ga K "Asker") "__eq__")
  t_Asker_Asker : PySem.W.kitOne K (.ref (ga K "Asker")) (.ref (ga K "Asker")) = some true
  t_Asker_Line : PySem.W.kitOne K (.ref (ga K "Asker")) (.ref (ga K "Line")) = some false
  t_Asker_Giving : PySem.W.kitOne K (.ref (ga K "Asker")) (.ref (ga K "Giving")) = some false
  c_Line : Cls K (ga K "Line")
  i_Line : InsTy K (ga K "Line")
  k_Line : Mk K (ga K "Line") (ma K (ga K "Line") "__init__")
  o_Line : OwnQ K (ga K "Line") (ma K (ga K "Line") "__eq__")
  l_Line : PySem.W.findIn K (.ref (ga K "Line")) "__len__" = some (some (.ref (ma K (ga K "Line") "__len__"))) ∧ PySem.W.isFn K (.ref (ma K (ga K "Line") "__len__")) = true
  t_Line_Asker : PySem.W.kitOne K (.ref (ga K "Line")) (.ref (ga K "Asker")) = some false
  t_Line_Line : PySem.W.kitOne K (.ref (ga K "Line")) (.ref (ga K "Line")) = some true
  t_Line_Giving : PySem.W.kitOne K (.ref (ga K "Line")) (.ref (ga K "Giving")) = some false
  c_Giving : Cls K (ga K "Giving")
  i_Giving : InsTy K (ga K "Giving")
  k_Giving : Mk K (ga K "Giving") (ma K (ga K "Giving") "__init__")
  t_Giving_Asker : PySem.W.kitOne K (.ref (ga K "Giving")) (.ref (ga K "Asker")) = some false
  t_Giving_Line : PySem.W.kitOne K (.ref (ga K "Giving")) (.ref (ga K "Line")) = some false
  t_Giving_Giving : PySem.W.kitOne K (.ref (ga K "Giving")) (.ref (ga K "Giving")) = some true
  f_Asker_row : NoAttr K (ga K "Asker") "row"
  f_Line_all : NoAttr K (ga K "Line") "all"
  f_Line_every : NoAttr K (ga K "Line") "every"
  f_Giving_rows : NoAttr K (ga K "Giving") "rows"
  f_Giving_wants : NoAttr K (ga K "Giving") "wants"
  f_Giving_free : NoAttr K (ga K "Giving") "free"
  f_Giving_holds : NoAttr K (ga K "Giving") "holds"
  f_Giving_got : NoAttr K (ga K "Giving") "got"
  p_Asker_name : PropOf K (ga K "Asker") "name" (ma K (ga K "Asker") "name") (pg K (ga K "Asker") "name")
  p_Asker_fits : PropOf K (ga K "Asker") "fits" (ma K (ga K "Asker") "fits") (pg K (ga K "Asker") "fits")
  p_Asker_most : PropOf K (ga K "Asker") "most" (ma K (ga K "Asker") "most") (pg K (ga K "Asker") "most")
  m_Line_names : Meth K (ga K "Line") "names" (ma K (ga K "Line") "names")
  m_Line_place : Meth K (ga K "Line") "place" (ma K (ga K "Line") "place")
  m_Giving_hand : Meth K (ga K "Giving") "hand" (ma K (ga K "Giving") "hand")
  m_Giving_steps : Meth K (ga K "Giving") "steps" (ma K (ga K "Giving") "steps")
  m_Giving_reached : Meth K (ga K "Giving") "reached" (ma K (ga K "Giving") "reached")
  m_Giving_holders : Meth K (ga K "Giving") "holders" (ma K (ga K "Giving") "holders")
  fd__law_purse : FuncData
  F__law_purse : FunD K "_law_purse" "_law_purse" (defArgs (top 32)) (defBody (top 32)) (defScope (top 32)) [] [] (ga K "_law_purse") fd__law_purse
  fd__law_purses : FuncData
  F__law_purses : FunD K "_law_purses" "_law_purses" (defArgs (top 35)) (defBody (top 35)) (defScope (top 35)) [] [] (ga K "_law_purses") fd__law_purses
  fd__law_mixed : FuncData
  F__law_mixed : FunD K "_law_mixed" "_law_mixed" (defArgs (top 33)) (defBody (top 33)) (defScope (top 33)) [] [] (ga K "_law_mixed") fd__law_mixed
  fd__law_draw : FuncData
  F__law_draw : FunD K "_law_draw" "_law_draw" (defArgs (top 34)) (defBody (top 34)) (defScope (top 34)) [] [] (ga K "_law_draw") fd__law_draw
  fd__law_word : FuncData
  F__law_word : FunD K "_law_word" "_law_word" (defArgs (top 38)) (defBody (top 38)) (defScope (top 38)) [] [] (ga K "_law_word") fd__law_word
  fd__law_shuffled : FuncData
  F__law_shuffled : FunD K "_law_shuffled" "_law_shuffled" (defArgs (top 37)) (defBody (top 37)) (defScope (top 37)) [] [] (ga K "_law_shuffled") fd__law_shuffled
  fd__law_kinds : FuncData
  F__law_kinds : FunD K "_law_kinds" "_law_kinds" (defArgs (top 40)) (defBody (top 40)) (defScope (top 40)) [] [] (ga K "_law_kinds") fd__law_kinds
  fd__law_names : FuncData
  F__law_names : FunD K "_law_names" "_law_names" (defArgs (top 39)) (defBody (top 39)) (defScope (top 39)) [] [] (ga K "_law_names") fd__law_names
  fd__law_one_of : FuncData
  F__law_one_of : FunD K "_law_one_of" "_law_one_of" (defArgs (top 36)) (defBody (top 36)) (defScope (top 36)) [] [] (ga K "_law_one_of") fd__law_one_of
  fd__law_most : FuncData
  F__law_most : FunD K "_law_most" "_law_most" (defArgs (top 41)) (defBody (top 41)) (defScope (top 41)) [] [] (ga K "_law_most") fd__law_most
  fd__law_rows : FuncData
  F__law_rows : FunD K "_law_rows" "_law_rows" (defArgs (top 44)) (defBody (top 44)) (defScope (top 44)) [] [] (ga K "_law_rows") fd__law_rows
  fd__law_stock : FuncData
  F__law_stock : FunD K "_law_stock" "_law_stock" (defArgs (top 42)) (defBody (top 42)) (defScope (top 42)) [] [] (ga K "_law_stock") fd__law_stock
  fd_Line___init__ : FuncData
  F_Line___init__ : FunD K "__init__" "Line.__init__" (defArgs (inCls 18 0)) (defBody (inCls 18 0)) (defScope (inCls 18 0)) [] [] (ma K (ga K "Line") "__init__") fd_Line___init__
  fd_is_name : FuncData
  F_is_name : FunD K "is_name" "is_name" (defArgs (top 10)) (defBody (top 10)) (defScope (top 10)) [] [] (ga K "is_name") fd_is_name
  fd_are_names : FuncData
  F_are_names : FunD K "are_names" "are_names" (defArgs (top 12)) (defBody (top 12)) (defScope (top 12)) [] [] (ga K "are_names") fd_are_names
  fd_is_count : FuncData
  F_is_count : FunD K "is_count" "is_count" (defArgs (top 11)) (defBody (top 11)) (defScope (top 11)) [] [] (ga K "is_count") fd_is_count
  fd_Asker___init__ : FuncData
  F_Asker___init__ : FunD K "__init__" "Asker.__init__" (defArgs (inCls 13 0)) (defBody (inCls 13 0)) (defScope (inCls 13 0)) [] [] (ma K (ga K "Asker") "__init__") fd_Asker___init__
  fd__law_line_of : FuncData
  F__law_line_of : FunD K "_law_line_of" "_law_line_of" (defArgs (top 45)) (defBody (top 45)) (defScope (top 45)) [] [] (ga K "_law_line_of") fd__law_line_of
  fd_check_line : FuncData
  F_check_line : FunD K "check_line" "check_line" (defArgs (top 15)) (defBody (top 15)) (defScope (top 15)) [] [] (ga K "check_line") fd_check_line
  fd_is_stock : FuncData
  F_is_stock : FunD K "is_stock" "is_stock" (defArgs (top 16)) (defBody (top 16)) (defScope (top 16)) [] [] (ga K "is_stock") fd_is_stock
  fd_check_stock : FuncData
  F_check_stock : FunD K "check_stock" "check_stock" (defArgs (top 17)) (defBody (top 17)) (defScope (top 17)) [] [] (ga K "check_stock") fd_check_stock
  fd_Giving_holders : FuncData
  F_Giving_holders : FunD K "holders" "Giving.holders" (defArgs (inCls 22 1)) (defBody (inCls 22 1)) (defScope (inCls 22 1)) [] [] (ma K (ga K "Giving") "holders") fd_Giving_holders
  fd_Giving_reached : FuncData
  F_Giving_reached : FunD K "reached" "Giving.reached" (defArgs (inCls 22 2)) (defBody (inCls 22 2)) (defScope (inCls 22 2)) [] [] (ma K (ga K "Giving") "reached") fd_Giving_reached
  fd_Giving_steps : FuncData
  F_Giving_steps : FunD K "steps" "Giving.steps" (defArgs (inCls 22 3)) (defBody (inCls 22 3)) (defScope (inCls 22 3)) [] [] (ma K (ga K "Giving") "steps") fd_Giving_steps
  fd_Giving_hand : FuncData
  F_Giving_hand : FunD K "hand" "Giving.hand" (defArgs (inCls 22 4)) (defBody (inCls 22 4)) (defScope (inCls 22 4)) [] [] (ma K (ga K "Giving") "hand") fd_Giving_hand
  fd_Giving___init__ : FuncData
  F_Giving___init__ : FunD K "__init__" "Giving.__init__" (defArgs (inCls 22 0)) (defBody (inCls 22 0)) (defScope (inCls 22 0)) [] [] (ma K (ga K "Giving") "__init__") fd_Giving___init__
  fd_mosts_of : FuncData
  F_mosts_of : FunD K "mosts_of" "mosts_of" (defArgs (top 24)) (defBody (top 24)) (defScope (top 24)) [] [] (ga K "mosts_of") fd_mosts_of
  fd_giving_of : FuncData
  F_giving_of : FunD K "giving_of" "giving_of" (defArgs (top 28)) (defBody (top 28)) (defScope (top 28)) [] [] (ga K "giving_of") fd_giving_of
  fd_dealt : FuncData
  F_dealt : FunD K "dealt" "dealt" (defArgs (top 29)) (defBody (top 29)) (defScope (top 29)) [] [] (ga K "dealt") fd_dealt
  fd_deal : FuncData
  F_deal : FunD K "deal" "deal" (defArgs (top 30)) (defBody (top 30)) (defScope (top 30)) [] [] (ga K "deal") fd_deal
  fd__law_held : FuncData
  F__law_held : FunD K "_law_held" "_law_held" (defArgs (top 43)) (defBody (top 43)) (defScope (top 43)) [] [] (ga K "_law_held") fd__law_held
  fd__law_fits_of : FuncData
  F__law_fits_of : FunD K "_law_fits_of" "_law_fits_of" (defArgs (top 46)) (defBody (top 46)) (defScope (top 46)) [] [] (ga K "_law_fits_of") fd__law_fits_of
  fd__law_most_of : FuncData
  F__law_most_of : FunD K "_law_most_of" "_law_most_of" (defArgs (top 47)) (defBody (top 47)) (defScope (top 47)) [] [] (ga K "_law_most_of") fd__law_most_of
  fd__law_dealt : FuncData
  F__law_dealt : FunD K "_law_dealt" "_law_dealt" (defArgs (top 48)) (defBody (top 48)) (defScope (top 48)) [] [] (ga K "_law_dealt") fd__law_dealt
  fd_Line_names : FuncData
  F_Line_names : FunD K "names" "Line.names" (defArgs (inCls 18 4)) (defBody (inCls 18 4)) (defScope (inCls 18 4)) [] [] (ma K (ga K "Line") "names") fd_Line_names
  fd_check_names : FuncData
  F_check_names : FunD K "check_names" "check_names" (defArgs (top 20)) (defBody (top 20)) (defScope (top 20)) [] [] (ga K "check_names") fd_check_names
  fd_most_together : FuncData
  F_most_together : FunD K "most_together" "most_together" (defArgs (top 25)) (defBody (top 25)) (defScope (top 25)) [] [] (ga K "most_together") fd_most_together
  fd_check_known : FuncData
  F_check_known : FunD K "check_known" "check_known" (defArgs (top 19)) (defBody (top 19)) (defScope (top 19)) [] [] (ga K "check_known") fd_check_known
  fd_Line_place : FuncData
  F_Line_place : FunD K "place" "Line.place" (defArgs (inCls 18 6)) (defBody (inCls 18 6)) (defScope (inCls 18 6)) [] [] (ma K (ga K "Line") "place") fd_Line_place
  fd_rows_of : FuncData
  F_rows_of : FunD K "rows_of" "rows_of" (defArgs (top 23)) (defBody (top 23)) (defScope (top 23)) [] [] (ga K "rows_of") fd_rows_of
  fd_together : FuncData
  F_together : FunD K "together" "together" (defArgs (top 26)) (defBody (top 26)) (defScope (top 26)) [] [] (ga K "together") fd_together
  fd_due : FuncData
  F_due : FunD K "due" "due" (defArgs (top 27)) (defBody (top 27)) (defScope (top 27)) [] [] (ga K "due") fd_due
  fd__law_lots_right : FuncData
  F__law_lots_right : FunD K "_law_lots_right" "_law_lots_right" (defArgs (top 49)) (defBody (top 49)) (defScope (top 49)) [] [] (ga K "_law_lots_right") fd__law_lots_right
  fd__law_right : FuncData
  F__law_right : FunD K "_law_right" "_law_right" (defArgs (top 50)) (defBody (top 50)) (defScope (top 50)) [] [] (ga K "_law_right") fd__law_right
  fd_law : FuncData
  F_law : FunD K "law" "law" (defArgs (top 51)) (defBody (top 51)) (defScope (top 51)) [] [] (ga K "law") fd_law
theorem tx_of {K : PySem.W.Frag} {mg : Str → Option Value} {h : Heap} (X : K.In h) (G : h.Ns mainGlobals mg) (c : Says exs fns K) : Nonempty (TX K mg) := by
  obtain ⟨fd0, F0⟩ := c.def_ 0 (d := d__law_purse) rfl
  obtain ⟨fd1, F1⟩ := c.def_ 1 (d := d__law_purses) rfl
  obtain ⟨fd2, F2⟩ := c.def_ 2 (d := d__law_mixed) rfl
  obtain ⟨fd3, F3⟩ := c.def_ 3 (d := d__law_draw) rfl
  obtain ⟨fd4, F4⟩ := c.def_ 4 (d := d__law_word) rfl
  obtain ⟨fd5, F5⟩ := c.def_ 5 (d := d__law_shuffled) rfl
  obtain ⟨fd6, F6⟩ := c.def_ 6 (d := d__law_kinds) rfl
  obtain ⟨fd7, F7⟩ := c.def_ 7 (d := d__law_names) rfl
  obtain ⟨fd8, F8⟩ := c.def_ 8 (d := d__law_one_of) rfl
  obtain ⟨fd9, F9⟩ := c.def_ 9 (d := d__law_most) rfl
  obtain ⟨fd10, F10⟩ := c.def_ 10 (d := d__law_rows) rfl
  obtain ⟨fd11, F11⟩ := c.def_ 11 (d := d__law_stock) rfl
  obtain ⟨fd12, F12⟩ := c.def_ 12 (d := d_Line___init__) rfl
  obtain ⟨fd13, F13⟩ := c.def_ 13 (d := d_is_name) rfl
  obtain ⟨fd14, F14⟩ := c.def_ 14 (d := d_are_names) rfl
  obtain ⟨fd15, F15⟩ := c.def_ 15 (d := d_is_count) rfl
  obtain ⟨fd16, F16⟩ := c.def_ 16 (d := d_Asker___init__) rfl
  obtain ⟨fd17, F17⟩ := c.def_ 17 (d := d__law_line_of) rfl
  obtain ⟨fd18, F18⟩ := c.def_ 18 (d := d_check_line) rfl
  obtain ⟨fd19, F19⟩ := c.def_ 19 (d := d_is_stock) rfl
  obtain ⟨fd20, F20⟩ := c.def_ 20 (d := d_check_stock) rfl
  obtain ⟨fd21, F21⟩ := c.def_ 21 (d := d_Giving_holders) rfl
  obtain ⟨fd22, F22⟩ := c.def_ 22 (d := d_Giving_reached) rfl
  obtain ⟨fd23, F23⟩ := c.def_ 23 (d := d_Giving_steps) rfl
  obtain ⟨fd24, F24⟩ := c.def_ 24 (d := d_Giving_hand) rfl
  obtain ⟨fd25, F25⟩ := c.def_ 25 (d := d_Giving___init__) rfl
  obtain ⟨fd26, F26⟩ := c.def_ 26 (d := d_mosts_of) rfl
  obtain ⟨fd27, F27⟩ := c.def_ 27 (d := d_giving_of) rfl
  obtain ⟨fd28, F28⟩ := c.def_ 28 (d := d_dealt) rfl
  obtain ⟨fd29, F29⟩ := c.def_ 29 (d := d_deal) rfl
  obtain ⟨fd30, F30⟩ := c.def_ 30 (d := d__law_held) rfl
  obtain ⟨fd31, F31⟩ := c.def_ 31 (d := d__law_fits_of) rfl
  obtain ⟨fd32, F32⟩ := c.def_ 32 (d := d__law_most_of) rfl
  obtain ⟨fd33, F33⟩ := c.def_ 33 (d := d__law_dealt) rfl
  obtain ⟨fd34, F34⟩ := c.def_ 34 (d := d_Line_names) rfl
  obtain ⟨fd35, F35⟩ := c.def_ 35 (d := d_check_names) rfl
  obtain ⟨fd36, F36⟩ := c.def_ 36 (d := d_most_together) rfl
  obtain ⟨fd37, F37⟩ := c.def_ 37 (d := d_check_known) rfl
  obtain ⟨fd38, F38⟩ := c.def_ 38 (d := d_Line_place) rfl
  obtain ⟨fd39, F39⟩ := c.def_ 39 (d := d_rows_of) rfl
  obtain ⟨fd40, F40⟩ := c.def_ 40 (d := d_together) rfl
  obtain ⟨fd41, F41⟩ := c.def_ 41 (d := d_due) rfl
  obtain ⟨fd42, F42⟩ := c.def_ 42 (d := d__law_lots_right) rfl
  obtain ⟨fd43, F43⟩ := c.def_ 43 (d := d__law_right) rfl
  obtain ⟨fd44, F44⟩ := c.def_ 44 (d := d_law) rfl
  exact ⟨{ g_Asker := He.glo_ok X G (c.fact 0), g_Giving := He.glo_ok X G (c.fact 1), g_Line := He.glo_ok X G (c.fact 2), g__law_dealt := He.glo_ok X G (c.fact 3), g__law_draw := He.glo_ok X G (c.fact 4), g__law_fits_of := He.glo_ok X G (c.fact 5), g__law_held := He.glo_ok X G (c.fact 6), g__law_kinds := He.glo_ok X G (c.fact 7), g__law_line_of := He.glo_ok X G (c.fact 8), g__law_lots_right := He.glo_ok X G (c.fact 9), g__law_mixed := He.glo_ok X G (c.fact 10), g__law_most := He.glo_ok X G (c.fact 11), g__law_most_of := He.glo_ok X G (c.fact 12), g__law_names := He.glo_ok X G (c.fact 13), g__law_one_of := He.glo_ok X G (c.fact 14), g__law_purse := He.glo_ok X G (c.fact 15), g__law_purses := He.glo_ok X G (c.fact 16), g__law_right := He.glo_ok X G (c.fact 17), g__law_rows := He.glo_ok X G (c.fact 18), g__law_shuffled := He.glo_ok X G (c.fact 19), g__law_stock := He.glo_ok X G (c.fact 20), g__law_word := He.glo_ok X G (c.fact 21), g_are_names := He.glo_ok X G (c.fact 22), g_check_known := He.glo_ok X G (c.fact 23), g_check_line := He.glo_ok X G (c.fact 24), g_check_names := He.glo_ok X G (c.fact 25), g_check_stock := He.glo_ok X G (c.fact 26), g_deal := He.glo_ok X G (c.fact 27), g_dealt := He.glo_ok X G (c.fact 28), g_due := He.glo_ok X G (c.fact 29), g_giving_of := He.glo_ok X G (c.fact 30), g_is_count := He.glo_ok X G (c.fact 31), g_is_name := He.glo_ok X G (c.fact 32), g_is_stock := He.glo_ok X G (c.fact 33), g_law := He.glo_ok X G (c.fact 34), g_most_together := He.glo_ok X G (c.fact 35), g_mosts_of := He.glo_ok X G (c.fact 36), g_rows_of := He.glo_ok X G (c.fact 37), g_together := He.glo_ok X G (c.fact 38), n_bool := He.free_ok X G (c.fact 39), n_dict := He.free_ok X G (c.fact 40), n_enumerate := He.free_ok X G (c.fact 41), n_int := He.free_ok X G (c.fact 42), n_isinstance := He.free_ok X G (c.fact 43), n_len := He.free_ok X G (c.fact 44), n_list := He.free_ok X G (c.fact 45), n_max := He.free_ok X G (c.fact 46), n_min := He.free_ok X G (c.fact 47), n_range := He.free_ok X G (c.fact 48), n_repr := He.free_ok X G (c.fact 49), n_set := He.free_ok X G (c.fact 50), n_sorted := He.free_ok X G (c.fact 51), n_str := He.free_ok X G (c.fact 52), n_sum := He.free_ok X G (c.fact 53), n_tuple := He.free_ok X G (c.fact 54), x_LOWER := He.str_ok X G (c.fact 55), c_Asker := He.cls_ok (c.fact 56), i_Asker := inst_ok (c.fact 57), k_Asker := He.mkr_ok (c.fact 58), o_Asker := own_ok (c.fact 59), t_Asker_Asker := oB_ok (c.fact 60), t_Asker_Line := oB_ok (c.fact 61), t_Asker_Giving := oB_ok (c.fact 62), c_Line := He.cls_ok (c.fact 63), i_Line := inst_ok (c.fact 64), k_Line := He.mkr_ok (c.fact 65), o_Line := own_ok (c.fact 66), l_Line := slen_ok (c.fact 67), t_Line_Asker := oB_ok (c.fact 68), t_Line_Line := oB_ok (c.fact 69), t_Line_Giving := oB_ok (c.fact 70), c_Giving := He.cls_ok (c.fact 71), i_Giving := inst_ok (c.fact 72), k_Giving := He.mkr_ok (c.fact 73), t_Giving_Asker := oB_ok (c.fact 74), t_Giving_Line := oB_ok (c.fact 75), t_Giving_Giving := oB_ok (c.fact 76), f_Asker_row := He.noat_ok (c.fact 77), f_Line_all := He.noat_ok (c.fact 78), f_Line_every := He.noat_ok (c.fact 79), f_Giving_rows := He.noat_ok (c.fact 80), f_Giving_wants := He.noat_ok (c.fact 81), f_Giving_free := He.noat_ok (c.fact 82), f_Giving_holds := He.noat_ok (c.fact 83), f_Giving_got := He.noat_ok (c.fact 84), p_Asker_name := prop_ok (c.fact 85), p_Asker_fits := prop_ok (c.fact 86), p_Asker_most := prop_ok (c.fact 87), m_Line_names := He.meth_ok (c.fact 88), m_Line_place := He.meth_ok (c.fact 89), m_Giving_hand := He.meth_ok (c.fact 90), m_Giving_steps := He.meth_ok (c.fact 91), m_Giving_reached := He.meth_ok (c.fact 92), m_Giving_holders := He.meth_ok (c.fact 93), fd__law_purse := fd0, F__law_purse := F0, fd__law_purses := fd1, F__law_purses := F1, fd__law_mixed := fd2, F__law_mixed := F2, fd__law_draw := fd3, F__law_draw := F3, fd__law_word := fd4, F__law_word := F4, fd__law_shuffled := fd5, F__law_shuffled := F5, fd__law_kinds := fd6, F__law_kinds := F6, fd__law_names := fd7, F__law_names := F7, fd__law_one_of := fd8, F__law_one_of := F8, fd__law_most := fd9, F__law_most := F9, fd__law_rows := fd10, F__law_rows := F10, fd__law_stock := fd11, F__law_stock := F11, fd_Line___init__ := fd12, F_Line___init__ := F12, fd_is_name := fd13, F_is_name := F13, fd_are_names := fd14, F_are_names := F14, fd_is_count := fd15, F_is_count := F15, fd_Asker___init__ := fd16, F_Asker___init__ := F16, fd__law_line_of := fd17, F__law_line_of := F17, fd_check_line := fd18, F_check_line := F18, fd_is_stock := fd19, F_is_stock := F19, fd_check_stock := fd20, F_check_stock := F20, fd_Giving_holders := fd21, F_Giving_holders := F21, fd_Giving_reached := fd22, F_Giving_reached := F22, fd_Giving_steps := fd23, F_Giving_steps := F23, fd_Giving_hand := fd24, F_Giving_hand := F24, fd_Giving___init__ := fd25, F_Giving___init__ := F25, fd_mosts_of := fd26, F_mosts_of := F26, fd_giving_of := fd27, F_giving_of := F27, fd_dealt := fd28, F_dealt := F28, fd_deal := fd29, F_deal := F29, fd__law_held := fd30, F__law_held := F30, fd__law_fits_of := fd31, F__law_fits_of := F31, fd__law_most_of := fd32, F__law_most_of := F32, fd__law_dealt := fd33, F__law_dealt := F33, fd_Line_names := fd34, F_Line_names := F34, fd_check_names := fd35, F_check_names := F35, fd_most_together := fd36, F_most_together := F36, fd_check_known := fd37, F_check_known := F37, fd_Line_place := fd38, F_Line_place := F38, fd_rows_of := fd39, F_rows_of := F39, fd_together := fd40, F_together := F40, fd_due := fd41, F_due := F41, fd__law_lots_right := fd42, F__law_lots_right := F42, fd__law_right := fd43, F__law_right := F43, fd_law := fd44, F_law := F44 }⟩
abbrev R : PySem.W.OpenRow := PySem.W.OpenLaw.row PySem.Challenge.rw_elderlink_k10_whole_deals
abbrev hk : PySem.W.Hook := hookW 7 exs fns
def ob (s : PySem.W.SharedT) : Alw := obsWG 7 exs fns (HandSHeadRun.getT s)
theorem ob_eq (s : PySem.W.SharedT) : ob s = hk.obs s.abs := obsWG_eq (HandSHeadRun.getT_eq s)
def looseN : List Str := (["_wall", "ElderError", "InvalidAsker", "InvalidLine", "InvalidStock", "InvalidNames", "UnknownName", "is_name", "is_count", "are_names", "Asker", "check_asker", "check_line", "is_stock", "check_stock", "Line", "check_known", "check_names", "Giving", "rows_of"] : List Str) ++ (["mosts_of", "most_together", "together", "due", "giving_of", "dealt", "deal", "_law_purse", "_law_mixed", "_law_draw", "_law_purses", "_law_one_of", "_law_shuffled", "_law_word", "_law_names", "_law_kinds", "_law_most", "_law_stock", "_law_held", "_law_rows"] : List Str) ++ (["_law_line_of", "_law_fits_of", "_law_most_of", "_law_dealt", "_law_lots_right", "_law_right", "LOWER"] : List Str)
theorem run (w : World) : HandSHeadRun.RunEq R (PySem.W.view R.prog [51]) hk ob 8000 looseN w := by
  intro os
  kernel_rfl
end K10

namespace K10
open PySem L2 DL
theorem sc__law_purse : FnScope ["_law_script", "_law_at", "_law_seed"] ["_law_script", "_law_at"] (defScope (top 32)) := ⟨rfl, rfl, rfl, by decide +kernel, rfl, by decide +kernel, by decide +kernel⟩
theorem b__law_purse {K : PySem.W.Frag} {mg : Str → Option Value} (T : TX K mg) : Binds K T.fd__law_purse ["_law_script", "_law_at"] [] := T.F__law_purse.bindsN fun _ _ _ _ _ _ us hl => match us, hl with | [_, _], _ => rfl
open HL (t__law_purse t__law_purse_0 t__law_purse_1)
theorem der__law_purse {P : Program} {w : World} {K : PySem.W.Frag} {mg : Str → Option Value} {base : Heap} (T : TX K mg) (cdv : Value) (A : Around) (outer : List Env) (s : Shared) (H : Hp) (E : XK) (hr : Room 0 (A.deeper (PyProof.Rows.envOfC "_law_purse" (defScope (top 32)) s.heap.objs.size (ga K "_law_purse") cdv))) :
  ∃ ts, DSs (cxOf CX0 P w K mg base ["_law_script", "_law_at", "_law_seed"] "_law_purse" (defScope (top 32)) (ga K "_law_purse") cdv A outer s H E).nox (defBody (top 32)) ts (t__law_purse K) :=
  ⟨_, dss_cons (ds_asg (de_callB (cr_sumK (K := K) rfl rfl) lr_sum rfl T.n_sum bt_sum (da_cons (de_sliceK (K := K) rfl (de_var 0) (do_some (de_var 1)) (do_some (de_addK (K := K) rfl (de_var 1) (de_int)))) (da_nil))) (dg_name sc__law_purse.nd rfl (by first | exact Or.inl rfl | exact Or.inr rfl)))
    (dss_one (ds_ret (de_lst (da_cons (de_mod (de_callB (call_max2 rfl) lr_max2 rfl T.n_max bt_max (da_cons (de_sub (de_var 2) (de_pow (de_int) (de_int))) (da_cons (de_int) (da_nil)))) (de_pow (de_pow (de_int) (de_int)) (de_int))) (da_cons (de_mod (de_var 2) (de_int)) (da_cons (de_int) (da_cons (de_var 1) (da_nil))))))))⟩
theorem sc__law_purses : FnScope ["_law_script", "_law_few", "_law_at"] ["_law_script", "_law_few"] (defScope (top 35)) := ⟨rfl, rfl, rfl, by decide +kernel, rfl, by decide +kernel, by decide +kernel⟩
theorem b__law_purses {K : PySem.W.Frag} {mg : Str → Option Value} (T : TX K mg) : Binds K T.fd__law_purses ["_law_script", "_law_few"] [] := T.F__law_purses.bindsN fun _ _ _ _ _ _ us hl => match us, hl with | [_, _], _ => rfl
open HL (t__law_purses t__law_purses_0)
theorem der__law_purses {P : Program} {w : World} {K : PySem.W.Frag} {mg : Str → Option Value} {base : Heap} {S__law_purse : SpD} (T : TX K mg) (G__law_purse : FnOk P w K mg base CX0 1 (ga K "_law_purse") T.fd__law_purse ["_law_script", "_law_at"] (spD K S__law_purse)) (cdv : Value) (A : Around) (outer : List Env) (s : Shared) (H : Hp) (E : XK) (hr : Room 1 (A.deeper (PyProof.Rows.envOfC "_law_purses" (defScope (top 35)) s.heap.objs.size (ga K "_law_purses") cdv))) :
  ∃ ts, DSs (cxOf CX0 P w K mg base ["_law_script", "_law_few", "_law_at"] "_law_purses" (defScope (top 35)) (ga K "_law_purses") cdv A outer s H E).nox (defBody (top 35)) ts (t__law_purses K S__law_purse) :=
  ⟨_, dss_one (ds_ret (de_lcV [("_law_at", 2)] rfl (di_range1 rfl T.n_range (da_cons (de_callB (call_max2 rfl) lr_max2 rfl T.n_max bt_max (da_cons (de_int) (da_cons (de_callB (call_min2 rfl) lr_min2 rfl T.n_min bt_min (da_cons (de_var 1) (da_cons (de_callB (call_lenK (K := K) rfl) lr_len rfl T.n_len bt_len (da_cons (de_var 0) (da_nil))) (da_nil)))) (da_nil)))) (da_nil))) (blkOk_by (N := ["_law_script", "_law_few", "_law_at"]) (sc := (defScope (top 35))) (by decide +kernel)) (gw_name (by decide)) (fun _ _ _ _ _ => dg_name sc__law_purses.nd rfl (by first | exact Or.inl rfl | exact Or.inr rfl)) (fun _ _ _ _ _ => dts_nil) (fun _ _ _ _ _ => de_callK (K := K) rfl G__law_purse (hr.mono (by decide)) rfl T.g__law_purse T.F__law_purse.kp (b__law_purse T) (da_cons (de_var 0) (da_cons (de_var 2) (da_nil)))) sc__law_purses.nd))⟩
theorem sc__law_mixed : FnScope ["_law_seed", "_law_turn", "_law_at", "_law_mixed_here"] ["_law_seed", "_law_turn", "_law_at"] (defScope (top 33)) := ⟨rfl, rfl, rfl, by decide +kernel, rfl, by decide +kernel, by decide +kernel⟩
theorem b__law_mixed {K : PySem.W.Frag} {mg : Str → Option Value} (T : TX K mg) : Binds K T.fd__law_mixed ["_law_seed", "_law_turn", "_law_at"] [] := T.F__law_mixed.bindsN fun _ _ _ _ _ _ us hl => match us, hl with | [_, _, _], _ => rfl
open HL (t__law_mixed t__law_mixed_0 t__law_mixed_1 t__law_mixed_2 t__law_mixed_3)
theorem der__law_mixed {P : Program} {w : World} {K : PySem.W.Frag} {mg : Str → Option Value} {base : Heap} (T : TX K mg) (cdv : Value) (A : Around) (outer : List Env) (s : Shared) (H : Hp) (E : XK) (hr : Room 0 (A.deeper (PyProof.Rows.envOfC "_law_mixed" (defScope (top 33)) s.heap.objs.size (ga K "_law_mixed") cdv))) :
  ∃ ts, DSs (cxOf CX0 P w K mg base ["_law_seed", "_law_turn", "_law_at", "_law_mixed_here"] "_law_mixed" (defScope (top 33)) (ga K "_law_mixed") cdv A outer s H E).nox (defBody (top 33)) ts (t__law_mixed K) :=
  ⟨_, dss_cons (ds_asg (de_addK (K := K) rfl (de_mul (de_var 0) (de_int)) (de_mul (de_mul (de_int) (de_var 1)) (de_var 1))) (dg_name sc__law_mixed.nd rfl (by first | exact Or.inl rfl | exact Or.inr rfl)))
    (dss_cons (ds_asg (de_mod (de_addK (K := K) rfl (de_addK (K := K) rfl (de_var 3) (de_mul (de_int) (de_var 2))) (de_var 1)) (de_int)) (dg_name sc__law_mixed.nd rfl (by first | exact Or.inl rfl | exact Or.inr rfl)))
    (dss_cons (ds_asg (de_mod (de_addK (K := K) rfl (de_mul (de_var 3) (de_var 3)) (de_int)) (de_int)) (dg_name sc__law_mixed.nd rfl (by first | exact Or.inl rfl | exact Or.inr rfl)))
    (dss_one (ds_ret (de_mod (de_mul (de_var 3) (de_int)) (de_int))))))⟩
theorem sc__law_draw : FnScope ["_law_purse_here", "_law_many", "_law_found", "_law_piece", "_law_drawn"] ["_law_purse_here", "_law_many"] (defScope (top 34)) := ⟨rfl, rfl, rfl, by decide +kernel, rfl, by decide +kernel, by decide +kernel⟩
theorem b__law_draw {K : PySem.W.Frag} {mg : Str → Option Value} (T : TX K mg) : Binds K T.fd__law_draw ["_law_purse_here", "_law_many"] [] := T.F__law_draw.bindsN fun _ _ _ _ _ _ us hl => match us, hl with | [_, _], _ => rfl
open HL (t__law_draw t__law_draw_0 t__law_draw_1 t__law_draw_2 t__law_draw_3 t__law_draw_4 t__law_draw_5 t__law_draw_6 t__law_draw_7)
theorem der__law_draw {P : Program} {w : World} {K : PySem.W.Frag} {mg : Str → Option Value} {base : Heap} {S__law_mixed : SpD} (T : TX K mg) (G__law_mixed : FnOk P w K mg base CX0 1 (ga K "_law_mixed") T.fd__law_mixed ["_law_seed", "_law_turn", "_law_at"] (spD K S__law_mixed)) (cdv : Value) (A : Around) (outer : List Env) (s : Shared) (H : Hp) (E : XK) (hr : Room 1 (A.deeper (PyProof.Rows.envOfC "_law_draw" (defScope (top 34)) s.heap.objs.size (ga K "_law_draw") cdv))) :
  ∃ ts, DSs (cxOf CX0 P w K mg base ["_law_purse_here", "_law_many", "_law_found", "_law_piece", "_law_drawn"] "_law_draw" (defScope (top 34)) (ga K "_law_draw") cdv A outer s H E).nox (defBody (top 34)) ts (t__law_draw K S__law_mixed) :=
  ⟨_, dss_cons (ds_if (dt_cmp op_gt lr_gt (de_itemK (K := K) rfl (de_var 0) (de_int)) (de_int) rfl) (dss_cons (ds_asg (de_mod (de_itemK (K := K) rfl (de_var 0) (de_int)) (de_var 1)) (dg_name sc__law_draw.nd rfl (by first | exact Or.inl rfl | exact Or.inr rfl)))
    (dss_cons (ds_asg (de_fdiv (de_itemK (K := K) rfl (de_var 0) (de_int)) (de_var 1)) (dg_set (de_var 0) (de_int)))
    (dss_one (ds_ret (de_var 4))))) (dss_nil))
    (dss_cons (ds_asg (de_int) (dg_name sc__law_draw.nd rfl (by first | exact Or.inl rfl | exact Or.inr rfl)))
    (dss_cons (ds_for (di_range1 rfl T.n_range (da_cons (de_addK (K := K) rfl (de_int) (de_fdiv (de_bits (de_var 1)) (de_int))) (da_nil))) (dg_name sc__law_draw.nd rfl (by first | exact Or.inl rfl | exact Or.inr rfl)) (dss_cons (ds_asg (de_addK (K := K) rfl (de_itemK (K := K) rfl (de_var 0) (de_int)) (de_int)) (dg_set (de_var 0) (de_int)))
    (dss_one (ds_asg (de_addK (K := K) rfl (de_mul (de_var 2) (de_int)) (de_callK (K := K) rfl G__law_mixed (hr.mono (by decide)) rfl T.g__law_mixed T.F__law_mixed.kp (b__law_mixed T) (da_cons (de_itemK (K := K) rfl (de_var 0) (de_int)) (da_cons (de_itemK (K := K) rfl (de_var 0) (de_int)) (da_cons (de_itemK (K := K) rfl (de_var 0) (de_int)) (da_nil)))))) (dg_name sc__law_draw.nd rfl (by first | exact Or.inl rfl | exact Or.inr rfl))))))
    (dss_one (ds_ret (de_mod (de_var 2) (de_var 1))))))⟩
theorem sc__law_word : FnScope ["_law_purse_here", "_law_found", "_law_turn"] ["_law_purse_here"] (defScope (top 38)) := ⟨rfl, rfl, rfl, by decide +kernel, rfl, by decide +kernel, by decide +kernel⟩
theorem b__law_word {K : PySem.W.Frag} {mg : Str → Option Value} (T : TX K mg) : Binds K T.fd__law_word ["_law_purse_here"] [] := T.F__law_word.bindsN fun _ _ _ _ _ _ us hl => match us, hl with | [_], _ => rfl
open HL (t__law_word t__law_word_0 t__law_word_1 t__law_word_2)
theorem der__law_word {P : Program} {w : World} {K : PySem.W.Frag} {mg : Str → Option Value} {base : Heap} {S__law_draw : SpD} (T : TX K mg) (G__law_draw : FnOk P w K mg base CX0 2 (ga K "_law_draw") T.fd__law_draw ["_law_purse_here", "_law_many"] (spD K S__law_draw)) (cdv : Value) (A : Around) (outer : List Env) (s : Shared) (H : Hp) (E : XK) (hr : Room 2 (A.deeper (PyProof.Rows.envOfC "_law_word" (defScope (top 38)) s.heap.objs.size (ga K "_law_word") cdv))) :
  ∃ ts, DSs (cxOf CX0 P w K mg base ["_law_purse_here", "_law_found", "_law_turn"] "_law_word" (defScope (top 38)) (ga K "_law_word") cdv A outer s H E).nox (defBody (top 38)) ts (t__law_word K S__law_draw) :=
  ⟨_, dss_cons (ds_asg (de_str) (dg_name sc__law_word.nd rfl (by first | exact Or.inl rfl | exact Or.inr rfl)))
    (dss_cons (ds_for (di_range1 rfl T.n_range (da_cons (de_addK (K := K) rfl (de_int) (de_callK (K := K) rfl G__law_draw (hr.mono (by decide)) rfl T.g__law_draw T.F__law_draw.kp (b__law_draw T) (da_cons (de_var 0) (da_cons (de_int) (da_nil))))) (da_nil))) (dg_name sc__law_word.nd rfl (by first | exact Or.inl rfl | exact Or.inr rfl)) (dss_one (ds_asg (de_addK (K := K) rfl (de_var 1) (de_itemK (K := K) rfl (de_str) (de_callK (K := K) rfl G__law_draw (hr.mono (by decide)) rfl T.g__law_draw T.F__law_draw.kp (b__law_draw T) (da_cons (de_var 0) (da_cons (de_int) (da_nil)))))) (dg_name sc__law_word.nd rfl (by first | exact Or.inl rfl | exact Or.inr rfl)))))
    (dss_one (ds_ret (de_var 1))))⟩
theorem sc__law_shuffled : FnScope ["_law_purse_here", "_law_some", "_law_found", "_law_item"] ["_law_purse_here", "_law_some"] (defScope (top 37)) := ⟨rfl, rfl, rfl, by decide +kernel, rfl, by decide +kernel, by decide +kernel⟩
theorem b__law_shuffled {K : PySem.W.Frag} {mg : Str → Option Value} (T : TX K mg) : Binds K T.fd__law_shuffled ["_law_purse_here", "_law_some"] [] := T.F__law_shuffled.bindsN fun _ _ _ _ _ _ us hl => match us, hl with | [_, _], _ => rfl
open HL (t__law_shuffled t__law_shuffled_0 t__law_shuffled_1 t__law_shuffled_2)
theorem der__law_shuffled {P : Program} {w : World} {K : PySem.W.Frag} {mg : Str → Option Value} {base : Heap} {S__law_draw : SpD} (T : TX K mg) (G__law_draw : FnOk P w K mg base CX0 2 (ga K "_law_draw") T.fd__law_draw ["_law_purse_here", "_law_many"] (spD K S__law_draw)) (cdv : Value) (A : Around) (outer : List Env) (s : Shared) (H : Hp) (E : XK) (hr : Room 2 (A.deeper (PyProof.Rows.envOfC "_law_shuffled" (defScope (top 37)) s.heap.objs.size (ga K "_law_shuffled") cdv))) :
  ∃ ts, DSs (cxOf CX0 P w K mg base ["_law_purse_here", "_law_some", "_law_found", "_law_item"] "_law_shuffled" (defScope (top 37)) (ga K "_law_shuffled") cdv A outer s H E).nox (defBody (top 37)) ts (t__law_shuffled K S__law_draw) :=
  ⟨_, dss_cons (ds_asg (de_lst (da_nil)) (dg_name sc__law_shuffled.nd rfl (by first | exact Or.inl rfl | exact Or.inr rfl)))
    (dss_cons (ds_for (di_listK (K := K) rfl (de_var 1)) (dg_name sc__law_shuffled.nd rfl (by first | exact Or.inl rfl | exact Or.inr rfl)) (dss_one (ds_expr (de_bmK (K := K) rfl PySem.F.slot_list_insert PySem.F.type_list_insert mt_insert lr_insert (de_var 2) (da_cons (de_callK (K := K) rfl G__law_draw (hr.mono (by decide)) rfl T.g__law_draw T.F__law_draw.kp (b__law_draw T) (da_cons (de_var 0) (da_cons (de_addK (K := K) rfl (de_callB (call_lenK (K := K) rfl) lr_len rfl T.n_len bt_len (da_cons (de_var 2) (da_nil))) (de_int)) (da_nil)))) (da_cons (de_var 3) (da_nil)))))))
    (dss_one (ds_ret (de_var 2))))⟩
theorem sc__law_kinds : FnScope ["_law_purse_here", "_law_many", "_law_some", "_law_fresh", "_law_word_here"] ["_law_purse_here", "_law_many"] (defScope (top 40)) := ⟨rfl, rfl, rfl, by decide +kernel, rfl, by decide +kernel, by decide +kernel⟩
theorem b__law_kinds {K : PySem.W.Frag} {mg : Str → Option Value} (T : TX K mg) : Binds K T.fd__law_kinds ["_law_purse_here", "_law_many"] [] := T.F__law_kinds.bindsN fun _ _ _ _ _ _ us hl => match us, hl with | [_, _], _ => rfl
open HL (t__law_kinds t__law_kinds_0 t__law_kinds_1)
theorem der__law_kinds {P : Program} {w : World} {K : PySem.W.Frag} {mg : Str → Option Value} {base : Heap} {S__law_shuffled : SpD} {S__law_word : SpD} (T : TX K mg) (G__law_shuffled : FnOk P w K mg base CX0 3 (ga K "_law_shuffled") T.fd__law_shuffled ["_law_purse_here", "_law_some"] (spD K S__law_shuffled)) (G__law_word : FnOk P w K mg base CX0 3 (ga K "_law_word") T.fd__law_word ["_law_purse_here"] (spD K S__law_word)) (cdv : Value) (A : Around) (outer : List Env) (s : Shared) (H : Hp) (E : XK) (hr : Room 3 (A.deeper (PyProof.Rows.envOfC "_law_kinds" (defScope (top 40)) s.heap.objs.size (ga K "_law_kinds") cdv))) :
  ∃ ts, DSs (cxOf CX0 P w K mg base ["_law_purse_here", "_law_many", "_law_some", "_law_fresh", "_law_word_here"] "_law_kinds" (defScope (top 40)) (ga K "_law_kinds") cdv A outer s H E).nox (defBody (top 40)) ts (t__law_kinds K S__law_shuffled S__law_word) :=
  ⟨_, dss_cons (ds_asg (de_tup (da_cons (de_lst (da_cons (de_str) (da_cons (de_str) (da_cons (de_str) (da_cons (de_str) (da_cons (de_str) (da_cons (de_str) (da_cons (de_str) (da_nil))))))))) (da_cons (de_callK (K := K) rfl G__law_word (hr.mono (by decide)) rfl T.g__law_word T.F__law_word.kp (b__law_word T) (da_cons (de_var 0) (da_nil))) (da_nil)))) (dg_tupK (K := K) rfl rfl (dgs_cons (dg_name sc__law_kinds.nd rfl (by first | exact Or.inl rfl | exact Or.inr rfl)) (dgs_cons (dg_name sc__law_kinds.nd rfl (by first | exact Or.inl rfl | exact Or.inr rfl)) (dgs_nil)))))
    (dss_one (ds_ret (de_sliceK (K := K) rfl (de_callK (K := K) rfl G__law_shuffled (hr.mono (by decide)) rfl T.g__law_shuffled T.F__law_shuffled.kp (b__law_shuffled T) (da_cons (de_var 0) (da_cons (de_addK (K := K) rfl (de_var 2) (de_lcV [("_law_word_here", 4)] rfl (di_listK (K := K) rfl (de_lst (da_cons (de_var 3) (da_nil)))) (blkOk_by (N := ["_law_purse_here", "_law_many", "_law_some", "_law_fresh", "_law_word_here"]) (sc := (defScope (top 40))) (by decide +kernel)) (gw_name (by decide)) (fun _ _ _ _ _ => dg_name sc__law_kinds.nd rfl (by first | exact Or.inl rfl | exact Or.inr rfl)) (fun _ _ _ _ _ => dts_one (dt_cmp (op_notInK (K := K) rfl) lr_in (de_var 4) (de_var 2) rfl)) (fun _ _ _ _ _ => de_var 4) sc__law_kinds.nd)) (da_nil)))) (do_none) (do_some (de_var 1)))))⟩
theorem sc__law_names : FnScope ["_law_purse_here", "_law_many", "_law_some", "_law_fresh", "_law_word_here"] ["_law_purse_here", "_law_many"] (defScope (top 39)) := ⟨rfl, rfl, rfl, by decide +kernel, rfl, by decide +kernel, by decide +kernel⟩
theorem b__law_names {K : PySem.W.Frag} {mg : Str → Option Value} (T : TX K mg) : Binds K T.fd__law_names ["_law_purse_here", "_law_many"] [] := T.F__law_names.bindsN fun _ _ _ _ _ _ us hl => match us, hl with | [_, _], _ => rfl
open HL (t__law_names t__law_names_0 t__law_names_1)
theorem der__law_names {P : Program} {w : World} {K : PySem.W.Frag} {mg : Str → Option Value} {base : Heap} {S__law_shuffled : SpD} {S__law_word : SpD} (T : TX K mg) (G__law_shuffled : FnOk P w K mg base CX0 3 (ga K "_law_shuffled") T.fd__law_shuffled ["_law_purse_here", "_law_some"] (spD K S__law_shuffled)) (G__law_word : FnOk P w K mg base CX0 3 (ga K "_law_word") T.fd__law_word ["_law_purse_here"] (spD K S__law_word)) (cdv : Value) (A : Around) (outer : List Env) (s : Shared) (H : Hp) (E : XK) (hr : Room 3 (A.deeper (PyProof.Rows.envOfC "_law_names" (defScope (top 39)) s.heap.objs.size (ga K "_law_names") cdv))) :
  ∃ ts, DSs (cxOf CX0 P w K mg base ["_law_purse_here", "_law_many", "_law_some", "_law_fresh", "_law_word_here"] "_law_names" (defScope (top 39)) (ga K "_law_names") cdv A outer s H E).nox (defBody (top 39)) ts (t__law_names K S__law_shuffled S__law_word) :=
  ⟨_, dss_cons (ds_asg (de_tup (da_cons (de_lst (da_cons (de_str) (da_cons (de_str) (da_cons (de_str) (da_cons (de_str) (da_cons (de_str) (da_cons (de_str) (da_cons (de_str) (da_cons (de_str) (da_nil)))))))))) (da_cons (de_callK (K := K) rfl G__law_word (hr.mono (by decide)) rfl T.g__law_word T.F__law_word.kp (b__law_word T) (da_cons (de_var 0) (da_nil))) (da_nil)))) (dg_tupK (K := K) rfl rfl (dgs_cons (dg_name sc__law_names.nd rfl (by first | exact Or.inl rfl | exact Or.inr rfl)) (dgs_cons (dg_name sc__law_names.nd rfl (by first | exact Or.inl rfl | exact Or.inr rfl)) (dgs_nil)))))
    (dss_one (ds_ret (de_sliceK (K := K) rfl (de_callK (K := K) rfl G__law_shuffled (hr.mono (by decide)) rfl T.g__law_shuffled T.F__law_shuffled.kp (b__law_shuffled T) (da_cons (de_var 0) (da_cons (de_addK (K := K) rfl (de_var 2) (de_lcV [("_law_word_here", 4)] rfl (di_listK (K := K) rfl (de_lst (da_cons (de_var 3) (da_nil)))) (blkOk_by (N := ["_law_purse_here", "_law_many", "_law_some", "_law_fresh", "_law_word_here"]) (sc := (defScope (top 39))) (by decide +kernel)) (gw_name (by decide)) (fun _ _ _ _ _ => dg_name sc__law_names.nd rfl (by first | exact Or.inl rfl | exact Or.inr rfl)) (fun _ _ _ _ _ => dts_one (dt_cmp (op_notInK (K := K) rfl) lr_in (de_var 4) (de_var 2) rfl)) (fun _ _ _ _ _ => de_var 4) sc__law_names.nd)) (da_nil)))) (do_none) (do_some (de_var 1)))))⟩
theorem sc__law_one_of : FnScope ["_law_purse_here", "_law_some"] ["_law_purse_here", "_law_some"] (defScope (top 36)) := ⟨rfl, rfl, rfl, by decide +kernel, rfl, by decide +kernel, by decide +kernel⟩
theorem b__law_one_of {K : PySem.W.Frag} {mg : Str → Option Value} (T : TX K mg) : Binds K T.fd__law_one_of ["_law_purse_here", "_law_some"] [] := T.F__law_one_of.bindsN fun _ _ _ _ _ _ us hl => match us, hl with | [_, _], _ => rfl
open HL (t__law_one_of t__law_one_of_0)
theorem der__law_one_of {P : Program} {w : World} {K : PySem.W.Frag} {mg : Str → Option Value} {base : Heap} {S__law_draw : SpD} (T : TX K mg) (G__law_draw : FnOk P w K mg base CX0 2 (ga K "_law_draw") T.fd__law_draw ["_law_purse_here", "_law_many"] (spD K S__law_draw)) (cdv : Value) (A : Around) (outer : List Env) (s : Shared) (H : Hp) (E : XK) (hr : Room 2 (A.deeper (PyProof.Rows.envOfC "_law_one_of" (defScope (top 36)) s.heap.objs.size (ga K "_law_one_of") cdv))) :
  ∃ ts, DSs (cxOf CX0 P w K mg base ["_law_purse_here", "_law_some"] "_law_one_of" (defScope (top 36)) (ga K "_law_one_of") cdv A outer s H E).nox (defBody (top 36)) ts (t__law_one_of K S__law_draw) :=
  ⟨_, dss_one (ds_ret (de_itemK (K := K) rfl (de_var 1) (de_callK (K := K) rfl G__law_draw (hr.mono (by decide)) rfl T.g__law_draw T.F__law_draw.kp (b__law_draw T) (da_cons (de_var 0) (da_cons (de_callB (call_lenK (K := K) rfl) lr_len rfl T.n_len bt_len (da_cons (de_var 1) (da_nil))) (da_nil))))))⟩
theorem sc__law_most : FnScope ["_law_purse_here", "_law_small"] ["_law_purse_here"] (defScope (top 41)) := ⟨rfl, rfl, rfl, by decide +kernel, rfl, by decide +kernel, by decide +kernel⟩
theorem b__law_most {K : PySem.W.Frag} {mg : Str → Option Value} (T : TX K mg) : Binds K T.fd__law_most ["_law_purse_here"] [] := T.F__law_most.bindsN fun _ _ _ _ _ _ us hl => match us, hl with | [_], _ => rfl
open HL (t__law_most t__law_most_0 t__law_most_1)
theorem der__law_most {P : Program} {w : World} {K : PySem.W.Frag} {mg : Str → Option Value} {base : Heap} {S__law_one_of : SpD} {S__law_draw : SpD} (T : TX K mg) (G__law_one_of : FnOk P w K mg base CX0 3 (ga K "_law_one_of") T.fd__law_one_of ["_law_purse_here", "_law_some"] (spD K S__law_one_of)) (G__law_draw : FnOk P w K mg base CX0 2 (ga K "_law_draw") T.fd__law_draw ["_law_purse_here", "_law_many"] (spD K S__law_draw)) (cdv : Value) (A : Around) (outer : List Env) (s : Shared) (H : Hp) (E : XK) (hr : Room 3 (A.deeper (PyProof.Rows.envOfC "_law_most" (defScope (top 41)) s.heap.objs.size (ga K "_law_most") cdv))) :
  ∃ ts, DSs (cxOf CX0 P w K mg base ["_law_purse_here", "_law_small"] "_law_most" (defScope (top 41)) (ga K "_law_most") cdv A outer s H E).nox (defBody (top 41)) ts (t__law_most K S__law_one_of S__law_draw) :=
  ⟨_, dss_cons (ds_asg (de_lst (da_cons (de_int) (da_cons (de_int) (da_cons (de_int) (da_cons (de_int) (da_cons (de_addK (K := K) rfl (de_int) (de_callK (K := K) rfl G__law_draw (hr.mono (by decide)) rfl T.g__law_draw T.F__law_draw.kp (b__law_draw T) (da_cons (de_var 0) (da_cons (de_int) (da_nil))))) (da_cons (de_addK (K := K) rfl (de_int) (de_callK (K := K) rfl G__law_draw (hr.mono (by decide)) rfl T.g__law_draw T.F__law_draw.kp (b__law_draw T) (da_cons (de_var 0) (da_cons (de_pow (de_int) (de_int)) (da_nil))))) (da_cons (de_addK (K := K) rfl (de_pow (de_int) (de_int)) (de_callK (K := K) rfl G__law_draw (hr.mono (by decide)) rfl T.g__law_draw T.F__law_draw.kp (b__law_draw T) (da_cons (de_var 0) (da_cons (de_int) (da_nil))))) (da_nil))))))))) (dg_name sc__law_most.nd rfl (by first | exact Or.inl rfl | exact Or.inr rfl)))
    (dss_one (ds_ret (de_callK (K := K) rfl G__law_one_of (hr.mono (by decide)) rfl T.g__law_one_of T.F__law_one_of.kp (b__law_one_of T) (da_cons (de_var 0) (da_cons (de_sliceK (K := K) rfl (de_var 1) (do_none) (do_some (de_addK (K := K) rfl (de_int) (de_callK (K := K) rfl G__law_draw (hr.mono (by decide)) rfl T.g__law_draw T.F__law_draw.kp (b__law_draw T) (da_cons (de_var 0) (da_cons (de_int) (da_nil))))))) (da_nil))))))⟩
theorem sc__law_rows : FnScope ["_law_purse_here", "_law_kinds_here", "_law_few", "_law_found", "_law_name", "_law_some"] ["_law_purse_here", "_law_kinds_here", "_law_few"] (defScope (top 44)) := ⟨rfl, rfl, rfl, by decide +kernel, rfl, by decide +kernel, by decide +kernel⟩
theorem b__law_rows {K : PySem.W.Frag} {mg : Str → Option Value} (T : TX K mg) : Binds K T.fd__law_rows ["_law_purse_here", "_law_kinds_here", "_law_few"] [] := T.F__law_rows.bindsN fun _ _ _ _ _ _ us hl => match us, hl with | [_, _, _], _ => rfl
open HL (t__law_rows t__law_rows_0 t__law_rows_1 t__law_rows_2 t__law_rows_3)
theorem der__law_rows {P : Program} {w : World} {K : PySem.W.Frag} {mg : Str → Option Value} {base : Heap} {S__law_names : SpD} {S__law_draw : SpD} {S__law_most : SpD} {S__law_shuffled : SpD} (T : TX K mg) (G__law_names : FnOk P w K mg base CX0 4 (ga K "_law_names") T.fd__law_names ["_law_purse_here", "_law_many"] (spD K S__law_names)) (G__law_draw : FnOk P w K mg base CX0 2 (ga K "_law_draw") T.fd__law_draw ["_law_purse_here", "_law_many"] (spD K S__law_draw)) (G__law_most : FnOk P w K mg base CX0 4 (ga K "_law_most") T.fd__law_most ["_law_purse_here"] (spD K S__law_most)) (G__law_shuffled : FnOk P w K mg base CX0 3 (ga K "_law_shuffled") T.fd__law_shuffled ["_law_purse_here", "_law_some"] (spD K S__law_shuffled)) (cdv : Value) (A : Around) (outer : List Env) (s : Shared) (H : Hp) (E : XK) (hr : Room 4 (A.deeper (PyProof.Rows.envOfC "_law_rows" (defScope (top 44)) s.heap.objs.size (ga K "_law_rows") cdv))) :
  ∃ ts, DSs (cxOf CX0 P w K mg base ["_law_purse_here", "_law_kinds_here", "_law_few", "_law_found", "_law_name", "_law_some"] "_law_rows" (defScope (top 44)) (ga K "_law_rows") cdv A outer s H E).nox (defBody (top 44)) ts (t__law_rows K S__law_names S__law_draw S__law_most S__law_shuffled) :=
  ⟨_, dss_cons (ds_asg (de_lst (da_nil)) (dg_name sc__law_rows.nd rfl (by first | exact Or.inl rfl | exact Or.inr rfl)))
    (dss_cons (ds_for (di_listK (K := K) rfl (de_callK (K := K) rfl G__law_names (hr.mono (by decide)) rfl T.g__law_names T.F__law_names.kp (b__law_names T) (da_cons (de_var 0) (da_cons (de_callK (K := K) rfl G__law_draw (hr.mono (by decide)) rfl T.g__law_draw T.F__law_draw.kp (b__law_draw T) (da_cons (de_var 0) (da_cons (de_addK (K := K) rfl (de_var 2) (de_int)) (da_nil)))) (da_nil))))) (dg_name sc__law_rows.nd rfl (by first | exact Or.inl rfl | exact Or.inr rfl)) (dss_cons (ds_asg (de_callK (K := K) rfl G__law_shuffled (hr.mono (by decide)) rfl T.g__law_shuffled T.F__law_shuffled.kp (b__law_shuffled T) (da_cons (de_var 0) (da_cons (de_var 1) (da_nil)))) (dg_name sc__law_rows.nd rfl (by first | exact Or.inl rfl | exact Or.inr rfl)))
    (dss_one (ds_expr (de_bmK (K := K) rfl PySem.F.slot_list_append PySem.F.type_list_append mt_append lr_app (de_var 3) (da_cons (de_tup (da_cons (de_var 4) (da_cons (de_sliceK (K := K) rfl (de_var 5) (do_none) (do_some (de_addK (K := K) rfl (de_int) (de_callK (K := K) rfl G__law_draw (hr.mono (by decide)) rfl T.g__law_draw T.F__law_draw.kp (b__law_draw T) (da_cons (de_var 0) (da_cons (de_callB (call_min2 rfl) lr_min2 rfl T.n_min bt_min (da_cons (de_callB (call_lenK (K := K) rfl) lr_len rfl T.n_len bt_len (da_cons (de_var 5) (da_nil))) (da_cons (de_int) (da_nil)))) (da_nil))))))) (da_cons (de_callK (K := K) rfl G__law_most (hr.mono (by decide)) rfl T.g__law_most T.F__law_most.kp (b__law_most T) (da_cons (de_var 0) (da_nil))) (da_nil))))) (da_nil)))))))
    (dss_one (ds_ret (de_var 3))))⟩
theorem sc__law_stock : FnScope ["_law_purse_here", "_law_kinds_here", "_law_found", "_law_kind"] ["_law_purse_here", "_law_kinds_here"] (defScope (top 42)) := ⟨rfl, rfl, rfl, by decide +kernel, rfl, by decide +kernel, by decide +kernel⟩
theorem b__law_stock {K : PySem.W.Frag} {mg : Str → Option Value} (T : TX K mg) : Binds K T.fd__law_stock ["_law_purse_here", "_law_kinds_here"] [] := T.F__law_stock.bindsN fun _ _ _ _ _ _ us hl => match us, hl with | [_, _], _ => rfl
open HL (t__law_stock t__law_stock_0 t__law_stock_1)
theorem der__law_stock {P : Program} {w : World} {K : PySem.W.Frag} {mg : Str → Option Value} {base : Heap} {S__law_one_of : SpD} {S__law_draw : SpD} {S__law_most : SpD} (T : TX K mg) (G__law_one_of : FnOk P w K mg base CX0 3 (ga K "_law_one_of") T.fd__law_one_of ["_law_purse_here", "_law_some"] (spD K S__law_one_of)) (G__law_draw : FnOk P w K mg base CX0 2 (ga K "_law_draw") T.fd__law_draw ["_law_purse_here", "_law_many"] (spD K S__law_draw)) (G__law_most : FnOk P w K mg base CX0 4 (ga K "_law_most") T.fd__law_most ["_law_purse_here"] (spD K S__law_most)) (cdv : Value) (A : Around) (outer : List Env) (s : Shared) (H : Hp) (E : XK) (hr : Room 4 (A.deeper (PyProof.Rows.envOfC "_law_stock" (defScope (top 42)) s.heap.objs.size (ga K "_law_stock") cdv))) :
  ∃ ts, DSs (cxOf CX0 P w K mg base ["_law_purse_here", "_law_kinds_here", "_law_found", "_law_kind"] "_law_stock" (defScope (top 42)) (ga K "_law_stock") cdv A outer s H E).nox (defBody (top 42)) ts (t__law_stock K S__law_one_of S__law_draw S__law_most) :=
  ⟨_, dss_cons (ds_asg (de_newK) (dg_name sc__law_stock.nd rfl (by first | exact Or.inl rfl | exact Or.inr rfl)))
    (dss_cons (ds_for (di_listK (K := K) rfl (de_var 1)) (dg_name sc__law_stock.nd rfl (by first | exact Or.inl rfl | exact Or.inr rfl)) (dss_one (ds_dput (room1 hr) (de_var 2) (de_var 3) (de_callK (K := K) rfl G__law_one_of (hr.mono (by decide)) rfl T.g__law_one_of T.F__law_one_of.kp (b__law_one_of T) (da_cons (de_var 0) (da_cons (de_lst (da_cons (de_int) (da_cons (de_int) (da_cons (de_int) (da_cons (de_int) (da_cons (de_int) (da_cons (de_callK (K := K) rfl G__law_draw (hr.mono (by decide)) rfl T.g__law_draw T.F__law_draw.kp (b__law_draw T) (da_cons (de_var 0) (da_cons (de_int) (da_nil)))) (da_cons (de_callK (K := K) rfl G__law_most (hr.mono (by decide)) rfl T.g__law_most T.F__law_most.kp (b__law_most T) (da_cons (de_var 0) (da_nil))) (da_nil))))))))) (da_nil)))))))
    (dss_one (ds_ret (de_var 2))))⟩
theorem sc_Line___init__ : FnScope ["self", "askers", "names", "one"] ["self", "askers"] (defScope (inCls 18 0)) := ⟨rfl, rfl, rfl, by decide +kernel, rfl, by decide +kernel, by decide +kernel⟩
theorem b_Line___init__ {K : PySem.W.Frag} {mg : Str → Option Value} (T : TX K mg) : Binds K T.fd_Line___init__ ["self", "askers"] [] := T.F_Line___init__.bindsN fun _ _ _ _ _ _ us hl => match us, hl with | [_, _], _ => rfl
open HL (t_Line___init__ t_Line___init___0 t_Line___init___1 t_Line___init___2 t_Line___init___3 t_Line___init___4)
theorem der_Line___init__ {P : Program} {w : World} {K : PySem.W.Frag} {mg : Str → Option Value} {base : Heap} (T : TX K mg) (cdv : Value) (A : Around) (outer : List Env) (s : Shared) (H : Hp) (E : XK) (hr : Room 0 (A.deeper (PyProof.Rows.envOfC "Line.__init__" (defScope (inCls 18 0)) s.heap.objs.size (ma K (ga K "Line") "__init__") cdv))) :
  ∃ ts, DSs (cxOf CX0 P w K mg base ["self", "askers", "names", "one"] "Line.__init__" (defScope (inCls 18 0)) (ma K (ga K "Line") "__init__") cdv A outer s H E).nox (defBody (inCls 18 0)) ts (t_Line___init__ K) :=
  ⟨_, dss_cons (ds_if (DW.dt (dw_or (dt_not (dt_val (de_callB (call_isiK' (K := K) rfl) lr_isi rfl T.n_isinstance bt_isinstance (da_cons (de_var 1) (da_cons (de_bltn (v := .ty "list") rfl T.n_list bt_list rfl) (da_nil)))))) (dw_or1 (dt_cmp (op_neK (K := K) rfl hr.units) lr_ne (de_lcV [("one", 3)] rfl (di_listK (K := K) rfl (de_var 1)) (blkOk_by (N := ["self", "askers", "names", "one"]) (sc := (defScope (inCls 18 0))) (by decide +kernel)) (gw_name (by decide)) (fun _ _ _ _ _ => dg_name sc_Line___init__.nd rfl (by first | exact Or.inl rfl | exact Or.inr rfl)) (fun _ _ _ _ _ => dts_one (dt_not (dt_val (de_callB (call_isiK' (K := K) rfl) lr_isi rfl T.n_isinstance bt_isinstance (da_cons (de_var 3) (da_cons (de_glob (d := .opq (.ref (ga K "Asker"))) (v := .ref (ga K "Asker")) (fun _ => .opq _) rfl T.g_Asker rfl) (da_nil))))))) (fun _ _ _ _ _ => de_var 3) sc_Line___init__.nd) (de_lst (da_nil)) rfl)))) (dss_one (ds_never)) (dss_nil))
    (dss_cons (ds_setLcV [("one", 3)] rfl (di_listK (K := K) rfl (de_var 1)) (blkOk_by (N := ["self", "askers", "names", "one"]) (sc := (defScope (inCls 18 0))) (by decide +kernel)) (gw_name (by decide)) (fun _ _ _ _ _ => dg_name sc_Line___init__.nd rfl (by first | exact Or.inl rfl | exact Or.inr rfl)) (fun _ _ _ _ _ => dts_nil) (fun _ _ _ _ _ => de_itemK (K := K) rfl (de_fldK (K := K) rfl (de_var 3)) (de_int)) sc_Line___init__.nd rfl rfl (sw_true rfl rfl rfl (by decide +kernel)))
    (dss_cons (ds_if (dt_cmp (op_neK (K := K) rfl hr.units) lr_ne (de_lenSet rfl T.n_len rfl T.n_set (de_var 2)) (de_callB (call_lenK (K := K) rfl) lr_len rfl T.n_len bt_len (da_cons (de_var 2) (da_nil))) rfl) (dss_one (ds_never)) (dss_nil))
    (dss_cons (ds_setF (de_var 0) (de_callTy (call_tupleK (K := K) rfl) lr_tuple rfl T.n_tuple bt_tuple (da_cons (de_var 1) (da_nil))))
    (dss_one (ds_setF (de_var 0) (de_callTy (call_tupleK (K := K) rfl) lr_tuple rfl T.n_tuple bt_tuple (da_cons (de_lcV [("one", 3)] rfl (di_listK (K := K) rfl (de_var 1)) (blkOk_by (N := ["self", "askers", "names", "one"]) (sc := (defScope (inCls 18 0))) (by decide +kernel)) (gw_name (by decide)) (fun _ _ _ _ _ => dg_name sc_Line___init__.nd rfl (by first | exact Or.inl rfl | exact Or.inr rfl)) (fun _ _ _ _ _ => dts_nil) (fun _ _ _ _ _ => de_fldK (K := K) rfl (de_var 3)) sc_Line___init__.nd) (da_nil))))))))⟩
theorem sc_is_name : FnScope ["value", "sign"] ["value"] (defScope (top 10)) := ⟨rfl, rfl, rfl, by decide +kernel, rfl, by decide +kernel, by decide +kernel⟩
theorem b_is_name {K : PySem.W.Frag} {mg : Str → Option Value} (T : TX K mg) : Binds K T.fd_is_name ["value"] [] := T.F_is_name.bindsN fun _ _ _ _ _ _ us hl => match us, hl with | [_], _ => rfl
open HL (t_is_name t_is_name_0 t_is_name_1)
theorem der_is_name {P : Program} {w : World} {K : PySem.W.Frag} {mg : Str → Option Value} {base : Heap} (T : TX K mg) (cdv : Value) (A : Around) (outer : List Env) (s : Shared) (H : Hp) (E : XK) (hr : Room 0 (A.deeper (PyProof.Rows.envOfC "is_name" (defScope (top 10)) s.heap.objs.size (ga K "is_name") cdv))) :
  ∃ ts, DSs (cxOf CX0 P w K mg base ["value", "sign"] "is_name" (defScope (top 10)) (ga K "is_name") cdv A outer s H E).nox (defBody (top 10)) ts (t_is_name K) :=
  ⟨_, dss_cons (ds_if (DW.dt (dw_or (dt_not (dt_val (de_callB (call_isiK' (K := K) rfl) lr_isi rfl T.n_isinstance bt_isinstance (da_cons (de_var 0) (da_cons (de_bltn (v := .ty "str") rfl T.n_str bt_str rfl) (da_nil)))))) (dw_or1 (dt_not (dt_chain op_le lr_le op_le lr_le (de_int) (de_callB (call_lenK (K := K) rfl) lr_len rfl T.n_len bt_len (da_cons (de_var 0) (da_nil))) (de_int)))))) (dss_one (ds_ret (de_bl))) (dss_nil))
    (dss_one (ds_ret (de_cmp (op_eqK (K := K) rfl hr.units) lr_eq (de_lcV [("sign", 1)] rfl (di_str (de_var 0)) (blkOk_by (N := ["value", "sign"]) (sc := (defScope (top 10))) (by decide +kernel)) (gw_name (by decide)) (fun _ _ _ _ _ => dg_name sc_is_name.nd rfl (by first | exact Or.inl rfl | exact Or.inr rfl)) (fun _ _ _ _ _ => dts_one (dt_cmp (op_notInK (K := K) rfl) lr_in (de_var 1) (de_glob (d := .str "abcdefghijklmnopqrstuvwxyz") (v := .str "abcdefghijklmnopqrstuvwxyz") (fun _ => .str _) rfl T.x_LOWER.choose_spec ⟨_, rfl⟩) rfl)) (fun _ _ _ _ _ => de_var 1) sc_is_name.nd) (de_lst (da_nil)) rfl)))⟩
theorem sc_are_names : FnScope ["value", "one"] ["value"] (defScope (top 12)) := ⟨rfl, rfl, rfl, by decide +kernel, rfl, by decide +kernel, by decide +kernel⟩
theorem b_are_names {K : PySem.W.Frag} {mg : Str → Option Value} (T : TX K mg) : Binds K T.fd_are_names ["value"] [] := T.F_are_names.bindsN fun _ _ _ _ _ _ us hl => match us, hl with | [_], _ => rfl
open HL (t_are_names t_are_names_0 t_are_names_1)
theorem der_are_names {P : Program} {w : World} {K : PySem.W.Frag} {mg : Str → Option Value} {base : Heap} {S_is_name : SpD} (T : TX K mg) (G_is_name : FnOk P w K mg base CX0 1 (ga K "is_name") T.fd_is_name ["value"] (spD K S_is_name)) (cdv : Value) (A : Around) (outer : List Env) (s : Shared) (H : Hp) (E : XK) (hr : Room 1 (A.deeper (PyProof.Rows.envOfC "are_names" (defScope (top 12)) s.heap.objs.size (ga K "are_names") cdv))) :
  ∃ ts, DSs (cxOf CX0 P w K mg base ["value", "one"] "are_names" (defScope (top 12)) (ga K "are_names") cdv A outer s H E).nox (defBody (top 12)) ts (t_are_names K S_is_name) :=
  ⟨_, dss_cons (ds_if (DW.dt (dw_or (dt_not (dt_val (de_callB (call_isiK' (K := K) rfl) lr_isi rfl T.n_isinstance bt_isinstance (da_cons (de_var 0) (da_cons (de_bltn (v := .ty "list") rfl T.n_list bt_list rfl) (da_nil)))))) (dw_or1 (dt_cmp (op_neK (K := K) rfl hr.units) lr_ne (de_lcV [("one", 1)] rfl (di_listK (K := K) rfl (de_var 0)) (blkOk_by (N := ["value", "one"]) (sc := (defScope (top 12))) (by decide +kernel)) (gw_name (by decide)) (fun _ _ _ _ _ => dg_name sc_are_names.nd rfl (by first | exact Or.inl rfl | exact Or.inr rfl)) (fun _ _ _ _ _ => dts_one (dt_not (dt_val (de_callK (K := K) rfl G_is_name (hr.mono (by decide)) rfl T.g_is_name T.F_is_name.kp (b_is_name T) (da_cons (de_var 1) (da_nil)))))) (fun _ _ _ _ _ => de_var 1) sc_are_names.nd) (de_lst (da_nil)) rfl)))) (dss_one (ds_ret (de_bl))) (dss_nil))
    (dss_one (ds_ret (de_cmp (op_eqK (K := K) rfl hr.units) lr_eq (de_lenSet rfl T.n_len rfl T.n_set (de_var 0)) (de_callB (call_lenK (K := K) rfl) lr_len rfl T.n_len bt_len (da_cons (de_var 0) (da_nil))) rfl)))⟩
theorem sc_is_count : FnScope ["value"] ["value"] (defScope (top 11)) := ⟨rfl, rfl, rfl, by decide +kernel, rfl, by decide +kernel, by decide +kernel⟩
theorem b_is_count {K : PySem.W.Frag} {mg : Str → Option Value} (T : TX K mg) : Binds K T.fd_is_count ["value"] [] := T.F_is_count.bindsN fun _ _ _ _ _ _ us hl => match us, hl with | [_], _ => rfl
open HL (t_is_count t_is_count_0)
theorem der_is_count {P : Program} {w : World} {K : PySem.W.Frag} {mg : Str → Option Value} {base : Heap} (T : TX K mg) (cdv : Value) (A : Around) (outer : List Env) (s : Shared) (H : Hp) (E : XK) (hr : Room 0 (A.deeper (PyProof.Rows.envOfC "is_count" (defScope (top 11)) s.heap.objs.size (ga K "is_count") cdv))) :
  ∃ ts, DSs (cxOf CX0 P w K mg base ["value"] "is_count" (defScope (top 11)) (ga K "is_count") cdv A outer s H E).nox (defBody (top 11)) ts (t_is_count K) :=
  ⟨_, dss_one (ds_ret (de_and (de_callB (call_isiK' (K := K) rfl) lr_isi rfl T.n_isinstance bt_isinstance (da_cons (de_var 0) (da_cons (de_bltn (v := .ty "int") rfl T.n_int bt_int rfl) (da_nil)))) (de_and (de_not (de_callB (call_isiK' (K := K) rfl) lr_isi rfl T.n_isinstance bt_isinstance (da_cons (de_var 0) (da_cons (de_bltn (v := .ty "bool") rfl T.n_bool bt_bool rfl) (da_nil))))) (de_one (de_cmp op_ge lr_ge (de_var 0) (de_int) rfl)))))⟩
theorem sc_Asker___init__ : FnScope ["self", "name", "fits", "most"] ["self", "name", "fits", "most"] (defScope (inCls 13 0)) := ⟨rfl, rfl, rfl, by decide +kernel, rfl, by decide +kernel, by decide +kernel⟩
theorem b_Asker___init__ {K : PySem.W.Frag} {mg : Str → Option Value} (T : TX K mg) : Binds K T.fd_Asker___init__ ["self", "name", "fits", "most"] [] := T.F_Asker___init__.bindsN fun _ _ _ _ _ _ us hl => match us, hl with | [_, _, _, _], _ => rfl
open HL (t_Asker___init__ t_Asker___init___0 t_Asker___init___1 t_Asker___init___2 t_Asker___init___3)
theorem der_Asker___init__ {P : Program} {w : World} {K : PySem.W.Frag} {mg : Str → Option Value} {base : Heap} {S_is_count : SpD} {S_are_names : SpD} {S_is_name : SpD} (T : TX K mg) (G_is_count : FnOk P w K mg base CX0 1 (ga K "is_count") T.fd_is_count ["value"] (spD K S_is_count)) (G_are_names : FnOk P w K mg base CX0 2 (ga K "are_names") T.fd_are_names ["value"] (spD K S_are_names)) (G_is_name : FnOk P w K mg base CX0 1 (ga K "is_name") T.fd_is_name ["value"] (spD K S_is_name)) (cdv : Value) (A : Around) (outer : List Env) (s : Shared) (H : Hp) (E : XK) (hr : Room 2 (A.deeper (PyProof.Rows.envOfC "Asker.__init__" (defScope (inCls 13 0)) s.heap.objs.size (ma K (ga K "Asker") "__init__") cdv))) :
  ∃ ts, DSs (cxOf CX0 P w K mg base ["self", "name", "fits", "most"] "Asker.__init__" (defScope (inCls 13 0)) (ma K (ga K "Asker") "__init__") cdv A outer s H E).nox (defBody (inCls 13 0)) ts (t_Asker___init__ K S_is_count S_are_names S_is_name) :=
  ⟨_, dss_cons (ds_if (dt_not (dt_val (de_callK (K := K) rfl G_is_name (hr.mono (by decide)) rfl T.g_is_name T.F_is_name.kp (b_is_name T) (da_cons (de_var 1) (da_nil))))) (dss_one (ds_never)) (dss_nil))
    (dss_cons (ds_if (DW.dt (dw_or (dt_not (dt_val (de_callK (K := K) rfl G_are_names (hr.mono (by decide)) rfl T.g_are_names T.F_are_names.kp (b_are_names T) (da_cons (de_var 2) (da_nil))))) (dw_or1 (dt_cmp (op_eqK (K := K) rfl hr.units) lr_eq (de_var 2) (de_lst (da_nil)) rfl)))) (dss_one (ds_never)) (dss_nil))
    (dss_cons (ds_if (DW.dt (dw_or (dt_not (dt_val (de_callK (K := K) rfl G_is_count (hr.mono (by decide)) rfl T.g_is_count T.F_is_count.kp (b_is_count T) (da_cons (de_var 3) (da_nil))))) (dw_or1 (dt_cmp (op_eqK (K := K) rfl hr.units) lr_eq (de_var 3) (de_int) rfl)))) (dss_one (ds_never)) (dss_nil))
    (dss_one (ds_setF (de_var 0) (de_tup (da_cons (de_var 1) (da_cons (de_callTy (call_tupleK (K := K) rfl) lr_tuple rfl T.n_tuple bt_tuple (da_cons (de_callB (cr_sortK (K := K) rfl) lr_sort1 rfl T.n_sorted bt_sorted (da_cons (de_var 2) (da_nil))) (da_nil))) (da_cons (de_var 3) (da_nil)))))))))⟩
theorem sc__law_line_of : FnScope ["_law_rows_here", "_law_name", "_law_fits", "_law_most_here"] ["_law_rows_here"] (defScope (top 45)) := ⟨rfl, rfl, rfl, by decide +kernel, rfl, by decide +kernel, by decide +kernel⟩
theorem b__law_line_of {K : PySem.W.Frag} {mg : Str → Option Value} (T : TX K mg) : Binds K T.fd__law_line_of ["_law_rows_here"] [] := T.F__law_line_of.bindsN fun _ _ _ _ _ _ us hl => match us, hl with | [_], _ => rfl
open HL (t__law_line_of t__law_line_of_0)
theorem der__law_line_of {P : Program} {w : World} {K : PySem.W.Frag} {mg : Str → Option Value} {base : Heap} {S_Line___init__ : SpD} {S_Asker___init__ : SpD} (T : TX K mg) (G_Line___init__ : FnOk P w K mg base CX0 1 (ma K (ga K "Line") "__init__") T.fd_Line___init__ ["self", "askers"] (spD K S_Line___init__)) (G_Asker___init__ : FnOk P w K mg base CX0 3 (ma K (ga K "Asker") "__init__") T.fd_Asker___init__ ["self", "name", "fits", "most"] (spD K S_Asker___init__)) (cdv : Value) (A : Around) (outer : List Env) (s : Shared) (H : Hp) (E : XK) (hr : Room 4 (A.deeper (PyProof.Rows.envOfC "_law_line_of" (defScope (top 45)) s.heap.objs.size (ga K "_law_line_of") cdv))) :
  ∃ ts, DSs (cxOf CX0 P w K mg base ["_law_rows_here", "_law_name", "_law_fits", "_law_most_here"] "_law_line_of" (defScope (top 45)) (ga K "_law_line_of") cdv A outer s H E).nox (defBody (top 45)) ts (t__law_line_of K S_Line___init__ S_Asker___init__) :=
  ⟨_, dss_one (ds_ret (de_makeK (K := K) rfl T.k_Line G_Line___init__ (hr.mono (by decide)) rfl T.g_Line (b_Line___init__ T) (da_cons (de_lcV [("_law_name", 1), ("_law_fits", 2), ("_law_most_here", 3)] rfl (di_listK (K := K) rfl (de_var 0)) (blkOk_by (N := ["_law_rows_here", "_law_name", "_law_fits", "_law_most_here"]) (sc := (defScope (top 45))) (by decide +kernel)) (gw_tup3 (by decide) (by decide) (by decide)) (fun _ _ _ _ _ => dg_tupK (K := K) rfl rfl (dgs_cons (dg_name sc__law_line_of.nd rfl (by first | exact Or.inl rfl | exact Or.inr rfl)) (dgs_cons (dg_name sc__law_line_of.nd rfl (by first | exact Or.inl rfl | exact Or.inr rfl)) (dgs_cons (dg_name sc__law_line_of.nd rfl (by first | exact Or.inl rfl | exact Or.inr rfl)) (dgs_nil))))) (fun _ _ _ _ _ => dts_nil) (fun _ _ _ _ _ => de_makeK (K := K) rfl T.k_Asker G_Asker___init__ (hr.mono (by decide)) rfl T.g_Asker (b_Asker___init__ T) (da_cons (de_var 1) (da_cons (de_callTy (call_listK (K := K) rfl) lr_list rfl T.n_list bt_list (da_cons (de_var 2) (da_nil))) (da_cons (de_var 3) (da_nil))))) sc__law_line_of.nd) (da_nil))))⟩
theorem sc_check_line : FnScope ["value"] ["value"] (defScope (top 15)) := ⟨rfl, rfl, rfl, by decide +kernel, rfl, by decide +kernel, by decide +kernel⟩
theorem b_check_line {K : PySem.W.Frag} {mg : Str → Option Value} (T : TX K mg) : Binds K T.fd_check_line ["value"] [] := T.F_check_line.bindsN fun _ _ _ _ _ _ us hl => match us, hl with | [_], _ => rfl
open HL (t_check_line t_check_line_0)
theorem der_check_line {P : Program} {w : World} {K : PySem.W.Frag} {mg : Str → Option Value} {base : Heap} (T : TX K mg) (cdv : Value) (A : Around) (outer : List Env) (s : Shared) (H : Hp) (E : XK) (hr : Room 0 (A.deeper (PyProof.Rows.envOfC "check_line" (defScope (top 15)) s.heap.objs.size (ga K "check_line") cdv))) :
  ∃ ts, DSs (cxOf CX0 P w K mg base ["value"] "check_line" (defScope (top 15)) (ga K "check_line") cdv A outer s H E).nox (defBody (top 15)) ts (t_check_line K) :=
  ⟨_, dss_one (ds_if (dt_not (dt_val (de_callB (call_isiK' (K := K) rfl) lr_isi rfl T.n_isinstance bt_isinstance (da_cons (de_var 0) (da_cons (de_glob (d := .opq (.ref (ga K "Line"))) (v := .ref (ga K "Line")) (fun _ => .opq _) rfl T.g_Line rfl) (da_nil)))))) (dss_one (ds_never)) (dss_nil))⟩
theorem sc_is_stock : FnScope ["value", "kind"] ["value"] (defScope (top 16)) := ⟨rfl, rfl, rfl, by decide +kernel, rfl, by decide +kernel, by decide +kernel⟩
theorem b_is_stock {K : PySem.W.Frag} {mg : Str → Option Value} (T : TX K mg) : Binds K T.fd_is_stock ["value"] [] := T.F_is_stock.bindsN fun _ _ _ _ _ _ us hl => match us, hl with | [_], _ => rfl
open HL (t_is_stock t_is_stock_0 t_is_stock_1)
theorem der_is_stock {P : Program} {w : World} {K : PySem.W.Frag} {mg : Str → Option Value} {base : Heap} {S_is_name : SpD} {S_is_count : SpD} (T : TX K mg) (G_is_name : FnOk P w K mg base CX0 1 (ga K "is_name") T.fd_is_name ["value"] (spD K S_is_name)) (G_is_count : FnOk P w K mg base CX0 1 (ga K "is_count") T.fd_is_count ["value"] (spD K S_is_count)) (cdv : Value) (A : Around) (outer : List Env) (s : Shared) (H : Hp) (E : XK) (hr : Room 1 (A.deeper (PyProof.Rows.envOfC "is_stock" (defScope (top 16)) s.heap.objs.size (ga K "is_stock") cdv))) :
  ∃ ts, DSs (cxOf CX0 P w K mg base ["value", "kind"] "is_stock" (defScope (top 16)) (ga K "is_stock") cdv A outer s H E).nox (defBody (top 16)) ts (t_is_stock K S_is_name S_is_count) :=
  ⟨_, dss_cons (ds_if (dt_not (dt_val (de_callB (call_isiK' (K := K) rfl) lr_isi rfl T.n_isinstance bt_isinstance (da_cons (de_var 0) (da_cons (de_bltn (v := .ty "dict") rfl T.n_dict bt_dict rfl) (da_nil)))))) (dss_one (ds_ret (de_bl))) (dss_nil))
    (dss_one (ds_ret (de_cmp (op_eqK (K := K) rfl hr.units) lr_eq (de_lk (de_lcV [("kind", 1)] rfl (di_keys (de_var 0)) (blkOk_by (N := ["value", "kind"]) (sc := (defScope (top 16))) (by decide +kernel)) (gw_name (by decide)) (fun _ _ _ _ _ => dg_name sc_is_stock.nd rfl (by first | exact Or.inl rfl | exact Or.inr rfl)) (fun _ _ _ _ _ => dts_one (DW.dt (dw_or (dt_not (dt_val (de_callK (K := K) rfl G_is_name (hr.mono (by decide)) rfl T.g_is_name T.F_is_name.kp (b_is_name T) (da_cons (de_var 1) (da_nil))))) (dw_or1 (dt_not (dt_val (de_callK (K := K) rfl G_is_count (hr.mono (by decide)) rfl T.g_is_count T.F_is_count.kp (b_is_count T) (da_cons (de_dget (room1 hr) (de_var 0) (de_var 1)) (da_nil))))))))) (fun _ _ _ _ _ => de_var 1) sc_is_stock.nd)) (de_lst (da_nil)) rfl)))⟩
theorem sc_check_stock : FnScope ["value"] ["value"] (defScope (top 17)) := ⟨rfl, rfl, rfl, by decide +kernel, rfl, by decide +kernel, by decide +kernel⟩
theorem b_check_stock {K : PySem.W.Frag} {mg : Str → Option Value} (T : TX K mg) : Binds K T.fd_check_stock ["value"] [] := T.F_check_stock.bindsN fun _ _ _ _ _ _ us hl => match us, hl with | [_], _ => rfl
open HL (t_check_stock t_check_stock_0)
theorem der_check_stock {P : Program} {w : World} {K : PySem.W.Frag} {mg : Str → Option Value} {base : Heap} {S_is_stock : SpD} (T : TX K mg) (G_is_stock : FnOk P w K mg base CX0 2 (ga K "is_stock") T.fd_is_stock ["value"] (spD K S_is_stock)) (cdv : Value) (A : Around) (outer : List Env) (s : Shared) (H : Hp) (E : XK) (hr : Room 2 (A.deeper (PyProof.Rows.envOfC "check_stock" (defScope (top 17)) s.heap.objs.size (ga K "check_stock") cdv))) :
  ∃ ts, DSs (cxOf CX0 P w K mg base ["value"] "check_stock" (defScope (top 17)) (ga K "check_stock") cdv A outer s H E).nox (defBody (top 17)) ts (t_check_stock K S_is_stock) :=
  ⟨_, dss_one (ds_if (dt_not (dt_val (de_callK (K := K) rfl G_is_stock (hr.mono (by decide)) rfl T.g_is_stock T.F_is_stock.kp (b_is_stock T) (da_cons (de_var 0) (da_nil))))) (dss_one (ds_never)) (dss_nil))⟩
theorem sc_Giving_holders : FnScope ["self", "kind", "at"] ["self", "kind"] (defScope (inCls 22 1)) := ⟨rfl, rfl, rfl, by decide +kernel, rfl, by decide +kernel, by decide +kernel⟩
theorem b_Giving_holders {K : PySem.W.Frag} {mg : Str → Option Value} (T : TX K mg) : Binds K T.fd_Giving_holders ["self", "kind"] [] := T.F_Giving_holders.bindsN fun _ _ _ _ _ _ us hl => match us, hl with | [_, _], _ => rfl
open HL (t_Giving_holders t_Giving_holders_0)
theorem der_Giving_holders {P : Program} {w : World} {K : PySem.W.Frag} {mg : Str → Option Value} {base : Heap} (T : TX K mg) (cdv : Value) (A : Around) (outer : List Env) (s : Shared) (H : Hp) (E : XK) (hr : Room 0 (A.deeper (PyProof.Rows.envOfC "Giving.holders" (defScope (inCls 22 1)) s.heap.objs.size (ma K (ga K "Giving") "holders") cdv))) :
  ∃ ts, DSs (cxOf CX0 P w K mg base ["self", "kind", "at"] "Giving.holders" (defScope (inCls 22 1)) (ma K (ga K "Giving") "holders") cdv A outer s H E).nox (defBody (inCls 22 1)) ts (t_Giving_holders K) :=
  ⟨_, dss_one (ds_ret (de_lcV [("at", 2)] rfl (di_range1 rfl T.n_range (da_cons (de_callB (call_lenK (K := K) rfl) lr_len rfl T.n_len bt_len (da_cons (de_fldK (K := K) rfl (de_var 0)) (da_nil))) (da_nil))) (blkOk_by (N := ["self", "kind", "at"]) (sc := (defScope (inCls 22 1))) (by decide +kernel)) (gw_name (by decide)) (fun _ _ _ _ _ => dg_name sc_Giving_holders.nd rfl (by first | exact Or.inl rfl | exact Or.inr rfl)) (fun _ _ _ _ _ => dts_one (dt_cmp op_gt lr_gt (de_dget2 (room1 hr) (de_fldK (K := K) rfl (de_var 0)) (de_tup (da_cons (de_var 2) (da_cons (de_var 1) (da_nil)))) (de_int)) (de_int) rfl)) (fun _ _ _ _ _ => de_var 2) sc_Giving_holders.nd))⟩
theorem sc_Giving_reached : FnScope ["self", "start", "came", "source", "line", "place", "at", "kind", "near"] ["self", "start"] (defScope (inCls 22 2)) := ⟨rfl, rfl, rfl, by decide +kernel, rfl, by decide +kernel, by decide +kernel⟩
theorem b_Giving_reached {K : PySem.W.Frag} {mg : Str → Option Value} (T : TX K mg) : Binds K T.fd_Giving_reached ["self", "start"] [] := T.F_Giving_reached.bindsN fun _ _ _ _ _ _ us hl => match us, hl with | [_, _], _ => rfl
open HL (t_Giving_reached t_Giving_reached_0 t_Giving_reached_1 t_Giving_reached_2 t_Giving_reached_3 t_Giving_reached_4 t_Giving_reached_5 t_Giving_reached_6 t_Giving_reached_7 t_Giving_reached_8 t_Giving_reached_9 t_Giving_reached_10 t_Giving_reached_11 t_Giving_reached_12 t_Giving_reached_13)
theorem der_Giving_reached {P : Program} {w : World} {K : PySem.W.Frag} {mg : Str → Option Value} {base : Heap} {S_Giving_holders : SpD} (T : TX K mg) (G_Giving_holders : FnOk P w K mg base CX0 1 (ma K (ga K "Giving") "holders") T.fd_Giving_holders ["self", "kind"] (spD K S_Giving_holders)) (cdv : Value) (A : Around) (outer : List Env) (s : Shared) (H : Hp) (E : XK) (hr : Room 1 (A.deeper (PyProof.Rows.envOfC "Giving.reached" (defScope (inCls 22 2)) s.heap.objs.size (ma K (ga K "Giving") "reached") cdv))) :
  ∃ ts, DSs (cxOf CX0 P w K mg base ["self", "start", "came", "source", "line", "place", "at", "kind", "near"] "Giving.reached" (defScope (inCls 22 2)) (ma K (ga K "Giving") "reached") cdv A outer s H E).nox (defBody (inCls 22 2)) ts (t_Giving_reached K S_Giving_holders) :=
  ⟨_, dss_cons (ds_asg (de_tup (da_cons (de_newK) (da_cons (de_newK) (da_cons (de_lst (da_cons (de_var 1) (da_nil))) (da_cons (de_int) (da_nil)))))) (dg_tupK (K := K) rfl rfl (dgs_cons (dg_name sc_Giving_reached.nd rfl (by first | exact Or.inl rfl | exact Or.inr rfl)) (dgs_cons (dg_name sc_Giving_reached.nd rfl (by first | exact Or.inl rfl | exact Or.inr rfl)) (dgs_cons (dg_name sc_Giving_reached.nd rfl (by first | exact Or.inl rfl | exact Or.inr rfl)) (dgs_cons (dg_name sc_Giving_reached.nd rfl (by first | exact Or.inl rfl | exact Or.inr rfl)) (dgs_nil)))))))
    (dss_cons (ds_while (dt_cmp op_lt lr_lt (de_var 5) (de_callB (call_lenK (K := K) rfl) lr_len rfl T.n_len bt_len (da_cons (de_var 4) (da_nil))) rfl) (dss_cons (ds_asg (de_itemK (K := K) rfl (de_var 4) (de_var 5)) (dg_name sc_Giving_reached.nd rfl (by first | exact Or.inl rfl | exact Or.inr rfl)))
    (dss_cons (ds_asg (de_addK (K := K) rfl (de_var 5) (de_int)) (dg_name sc_Giving_reached.nd rfl (by first | exact Or.inl rfl | exact Or.inr rfl)))
    (dss_one (ds_for (di_listK (K := K) rfl (de_itemK (K := K) rfl (de_itemK (K := K) rfl (de_fldK (K := K) rfl (de_var 0)) (de_var 6)) (de_int))) (dg_name sc_Giving_reached.nd rfl (by first | exact Or.inl rfl | exact Or.inr rfl)) (dss_one (ds_if (dt_dnotin (room1 hr) (de_var 7) (de_var 2)) (dss_cons (ds_dput (room1 hr) (de_var 2) (de_var 7) (de_var 6))
    (dss_cons (ds_if (dt_cmp op_gt lr_gt (de_dget2 (room1 hr) (de_fldK (K := K) rfl (de_var 0)) (de_var 7) (de_int)) (de_int) rfl) (dss_one (ds_ret (de_tup (da_cons (de_var 2) (da_cons (de_var 3) (da_cons (de_var 7) (da_nil))))))) (dss_nil))
    (dss_one (ds_for (di_listK (K := K) rfl (de_methK (K := K) rfl (de_var 0) T.c_Giving T.m_Giving_holders G_Giving_holders (hr.mono (by decide)) (b_Giving_holders T) (da_cons (de_var 7) (da_nil)))) (dg_name sc_Giving_reached.nd rfl (by first | exact Or.inl rfl | exact Or.inr rfl)) (dss_one (ds_if (DW.dt (dw_and (dt_cmp (op_neK (K := K) rfl hr.units) lr_ne (de_var 8) (de_var 1) rfl) (dw_and1 (dt_dnotin (room1 hr) (de_var 8) (de_var 3))))) (dss_cons (ds_dput (room1 hr) (de_var 3) (de_var 8) (de_var 7))
    (dss_one (ds_expr (de_bmK (K := K) rfl PySem.F.slot_list_append PySem.F.type_list_append mt_append lr_app (de_var 4) (da_cons (de_var 8) (da_nil)))))) (dss_nil))))))) (dss_nil))))))))
    (dss_one (ds_ret (de_tup (da_cons (de_var 2) (da_cons (de_var 3) (da_cons (de_non) (da_nil))))))))⟩
theorem sc_Giving_steps : FnScope ["self", "start", "found", "came", "source", "kind"] ["self", "start"] (defScope (inCls 22 3)) := ⟨rfl, rfl, rfl, by decide +kernel, rfl, by decide +kernel, by decide +kernel⟩
theorem b_Giving_steps {K : PySem.W.Frag} {mg : Str → Option Value} (T : TX K mg) : Binds K T.fd_Giving_steps ["self", "start"] [] := T.F_Giving_steps.bindsN fun _ _ _ _ _ _ us hl => match us, hl with | [_, _], _ => rfl
open HL (t_Giving_steps t_Giving_steps_0 t_Giving_steps_1 t_Giving_steps_2 t_Giving_steps_3 t_Giving_steps_4 t_Giving_steps_5)
theorem der_Giving_steps {P : Program} {w : World} {K : PySem.W.Frag} {mg : Str → Option Value} {base : Heap} {S_Giving_reached : SpD} (T : TX K mg) (G_Giving_reached : FnOk P w K mg base CX0 2 (ma K (ga K "Giving") "reached") T.fd_Giving_reached ["self", "start"] (spD K S_Giving_reached)) (cdv : Value) (A : Around) (outer : List Env) (s : Shared) (H : Hp) (E : XK) (hr : Room 2 (A.deeper (PyProof.Rows.envOfC "Giving.steps" (defScope (inCls 22 3)) s.heap.objs.size (ma K (ga K "Giving") "steps") cdv))) :
  ∃ ts, DSs (cxOf CX0 P w K mg base ["self", "start", "found", "came", "source", "kind"] "Giving.steps" (defScope (inCls 22 3)) (ma K (ga K "Giving") "steps") cdv A outer s H E).nox (defBody (inCls 22 3)) ts (t_Giving_steps K S_Giving_reached) :=
  ⟨_, dss_cons (ds_asg (de_methK (K := K) rfl (de_var 0) T.c_Giving T.m_Giving_reached G_Giving_reached (hr.mono (by decide)) (b_Giving_reached T) (da_cons (de_var 1) (da_nil))) (dg_tupK (K := K) rfl rfl (dgs_cons (dg_name sc_Giving_steps.nd rfl (by first | exact Or.inl rfl | exact Or.inr rfl)) (dgs_cons (dg_name sc_Giving_steps.nd rfl (by first | exact Or.inl rfl | exact Or.inr rfl)) (dgs_cons (dg_name sc_Giving_steps.nd rfl (by first | exact Or.inl rfl | exact Or.inr rfl)) (dgs_nil))))))
    (dss_cons (ds_if (dt_cmp op_isN lr_isN (de_var 5) (de_non) rfl) (dss_one (ds_ret (de_non))) (dss_nil))
    (dss_cons (ds_asg (de_lst (da_cons (de_tup (da_cons (de_dget (room1 hr) (de_var 3) (de_var 5)) (da_cons (de_var 5) (da_nil)))) (da_nil))) (dg_name sc_Giving_steps.nd rfl (by first | exact Or.inl rfl | exact Or.inr rfl)))
    (dss_cons (ds_while (dt_cmp (op_neK (K := K) rfl hr.units) lr_ne (de_itemK (K := K) rfl (de_itemK (K := K) rfl (de_var 2) (de_int)) (de_int)) (de_var 1) rfl) (dss_cons (ds_asg (de_dget (room1 hr) (de_var 4) (de_itemK (K := K) rfl (de_itemK (K := K) rfl (de_var 2) (de_int)) (de_int))) (dg_name sc_Giving_steps.nd rfl (by first | exact Or.inl rfl | exact Or.inr rfl)))
    (dss_one (ds_asg (de_addK (K := K) rfl (de_lst (da_cons (de_tup (da_cons (de_dget (room1 hr) (de_var 3) (de_var 5)) (da_cons (de_var 5) (da_nil)))) (da_nil))) (de_var 2)) (dg_name sc_Giving_steps.nd rfl (by first | exact Or.inl rfl | exact Or.inr rfl))))))
    (dss_one (ds_ret (de_var 2))))))⟩
theorem sc_Giving_hand : FnScope ["self", "at", "steps", "given", "last", "much", "one", "place"] ["self", "at"] (defScope (inCls 22 4)) := ⟨rfl, rfl, rfl, by decide +kernel, rfl, by decide +kernel, by decide +kernel⟩
theorem b_Giving_hand {K : PySem.W.Frag} {mg : Str → Option Value} (T : TX K mg) : Binds K T.fd_Giving_hand ["self", "at"] [] := T.F_Giving_hand.bindsN fun _ _ _ _ _ _ us hl => match us, hl with | [_, _], _ => rfl
open HL (t_Giving_hand t_Giving_hand_0 t_Giving_hand_1 t_Giving_hand_2 t_Giving_hand_3 t_Giving_hand_4 t_Giving_hand_5 t_Giving_hand_6 t_Giving_hand_7 t_Giving_hand_8 t_Giving_hand_9 t_Giving_hand_10 t_Giving_hand_11)
theorem der_Giving_hand {P : Program} {w : World} {K : PySem.W.Frag} {mg : Str → Option Value} {base : Heap} {S_Giving_steps : SpD} (T : TX K mg) (G_Giving_steps : FnOk P w K mg base CX0 3 (ma K (ga K "Giving") "steps") T.fd_Giving_steps ["self", "start"] (spD K S_Giving_steps)) (cdv : Value) (A : Around) (outer : List Env) (s : Shared) (H : Hp) (E : XK) (hr : Room 3 (A.deeper (PyProof.Rows.envOfC "Giving.hand" (defScope (inCls 22 4)) s.heap.objs.size (ma K (ga K "Giving") "hand") cdv))) :
  ∃ ts, DSs (cxOf CX0 P w K mg base ["self", "at", "steps", "given", "last", "much", "one", "place"] "Giving.hand" (defScope (inCls 22 4)) (ma K (ga K "Giving") "hand") cdv A outer s H E).nox (defBody (inCls 22 4)) ts (t_Giving_hand K S_Giving_steps) :=
  ⟨_, dss_one (ds_while (dt_cmp op_lt lr_lt (de_itemK (K := K) rfl (de_fldK (K := K) rfl (de_var 0)) (de_var 1)) (de_itemK (K := K) rfl (de_fldK (K := K) rfl (de_var 0)) (de_var 1)) rfl) (dss_cons (ds_asg (de_methK (K := K) rfl (de_var 0) T.c_Giving T.m_Giving_steps G_Giving_steps (hr.mono (by decide)) (b_Giving_steps T) (da_cons (de_var 1) (da_nil))) (dg_name sc_Giving_hand.nd rfl (by first | exact Or.inl rfl | exact Or.inr rfl)))
    (dss_cons (ds_if (dt_cmp op_isN lr_isN (de_var 2) (de_non) rfl) (dss_one (ds_retN)) (dss_nil))
    (dss_cons (ds_setLcV [("place", 7)] rfl (di_range2 rfl T.n_range (da_cons (de_int) (da_cons (de_callB (call_lenK (K := K) rfl) lr_len rfl T.n_len bt_len (da_cons (de_var 2) (da_nil))) (da_nil)))) (blkOk_by (N := ["self", "at", "steps", "given", "last", "much", "one", "place"]) (sc := (defScope (inCls 22 4))) (by decide +kernel)) (gw_name (by decide)) (fun _ _ _ _ _ => dg_name sc_Giving_hand.nd rfl (by first | exact Or.inl rfl | exact Or.inr rfl)) (fun _ _ _ _ _ => dts_nil) (fun _ _ _ _ _ => de_tup (da_cons (de_itemK (K := K) rfl (de_itemK (K := K) rfl (de_var 2) (de_var 7)) (de_int)) (da_cons (de_itemK (K := K) rfl (de_itemK (K := K) rfl (de_var 2) (de_sub (de_var 7) (de_int))) (de_int)) (da_nil)))) sc_Giving_hand.nd rfl rfl (sw_true rfl rfl rfl (by decide +kernel)))
    (dss_cons (ds_asg (de_itemK (K := K) rfl (de_itemK (K := K) rfl (de_var 2) (de_neg (de_int))) (de_int)) (dg_name sc_Giving_hand.nd rfl (by first | exact Or.inl rfl | exact Or.inr rfl)))
    (dss_cons (ds_asg (de_callB (cr_minK0 (K := K) rfl rfl) lr_minL rfl T.n_min bt_min (da_cons (de_addK (K := K) rfl (de_lst (da_cons (de_sub (de_itemK (K := K) rfl (de_fldK (K := K) rfl (de_var 0)) (de_var 1)) (de_itemK (K := K) rfl (de_fldK (K := K) rfl (de_var 0)) (de_var 1))) (da_cons (de_dget (room1 hr) (de_fldK (K := K) rfl (de_var 0)) (de_var 4)) (da_nil)))) (de_lcV [("one", 6)] rfl (di_listK (K := K) rfl (de_var 3)) (blkOk_by (N := ["self", "at", "steps", "given", "last", "much", "one", "place"]) (sc := (defScope (inCls 22 4))) (by decide +kernel)) (gw_name (by decide)) (fun _ _ _ _ _ => dg_name sc_Giving_hand.nd rfl (by first | exact Or.inl rfl | exact Or.inr rfl)) (fun _ _ _ _ _ => dts_nil) (fun _ _ _ _ _ => de_dget (room1 hr) (de_fldK (K := K) rfl (de_var 0)) (de_var 6)) sc_Giving_hand.nd)) (da_nil))) (dg_name sc_Giving_hand.nd rfl (by first | exact Or.inl rfl | exact Or.inr rfl)))
    (dss_cons (ds_for (di_listK (K := K) rfl (de_var 2)) (dg_name sc_Giving_hand.nd rfl (by first | exact Or.inl rfl | exact Or.inr rfl)) (dss_one (ds_dput (room1 hr) (de_fldK (K := K) rfl (de_var 0)) (de_var 6) (de_addK (K := K) rfl (de_dget2 (room1 hr) (de_fldK (K := K) rfl (de_var 0)) (de_var 6) (de_int)) (de_var 5)))))
    (dss_cons (ds_for (di_listK (K := K) rfl (de_var 3)) (dg_name sc_Giving_hand.nd rfl (by first | exact Or.inl rfl | exact Or.inr rfl)) (dss_one (ds_dput (room1 hr) (de_fldK (K := K) rfl (de_var 0)) (de_var 6) (de_sub (de_dget (room1 hr) (de_fldK (K := K) rfl (de_var 0)) (de_var 6)) (de_var 5)))))
    (dss_cons (ds_dput (room1 hr) (de_fldK (K := K) rfl (de_var 0)) (de_var 4) (de_sub (de_dget (room1 hr) (de_fldK (K := K) rfl (de_var 0)) (de_var 4)) (de_var 5)))
    (dss_one (ds_asg (de_addK (K := K) rfl (de_itemK (K := K) rfl (de_fldK (K := K) rfl (de_var 0)) (de_var 1)) (de_var 5)) (dg_set (de_fldK (K := K) rfl (de_var 0)) (de_var 1)))))))))))))⟩
theorem sc_Giving___init__ : FnScope ["self", "rows", "wants", "stock", "at", "row"] ["self", "rows", "wants", "stock"] (defScope (inCls 22 0)) := ⟨rfl, rfl, rfl, by decide +kernel, rfl, by decide +kernel, by decide +kernel⟩
theorem b_Giving___init__ {K : PySem.W.Frag} {mg : Str → Option Value} (T : TX K mg) : Binds K T.fd_Giving___init__ ["self", "rows", "wants", "stock"] [] := T.F_Giving___init__.bindsN fun _ _ _ _ _ _ us hl => match us, hl with | [_, _, _, _], _ => rfl
open HL (t_Giving___init__ t_Giving___init___0 t_Giving___init___1 t_Giving___init___2 t_Giving___init___3 t_Giving___init___4 t_Giving___init___5 t_Giving___init___6)
theorem der_Giving___init__ {P : Program} {w : World} {K : PySem.W.Frag} {mg : Str → Option Value} {base : Heap} {S_Giving_hand : SpD} (T : TX K mg) (G_Giving_hand : FnOk P w K mg base CX0 4 (ma K (ga K "Giving") "hand") T.fd_Giving_hand ["self", "at"] (spD K S_Giving_hand)) (cdv : Value) (A : Around) (outer : List Env) (s : Shared) (H : Hp) (E : XK) (hr : Room 4 (A.deeper (PyProof.Rows.envOfC "Giving.__init__" (defScope (inCls 22 0)) s.heap.objs.size (ma K (ga K "Giving") "__init__") cdv))) :
  ∃ ts, DSs (cxOf CX0 P w K mg base ["self", "rows", "wants", "stock", "at", "row"] "Giving.__init__" (defScope (inCls 22 0)) (ma K (ga K "Giving") "__init__") cdv A outer s H E).nox (defBody (inCls 22 0)) ts (t_Giving___init__ K S_Giving_hand) :=
  ⟨_, dss_cons (ds_setF (de_var 0) (de_var 1))
    (dss_cons (ds_setF (de_var 0) (de_var 2))
    (dss_cons (ds_setF (de_var 0) (de_callTy call_dictD lr_dictD rfl T.n_dict bt_dict (da_cons (de_var 3) (da_nil))))
    (dss_cons (ds_setF (de_var 0) (de_newT))
    (dss_cons (ds_setF (de_var 0) (de_lcV [("row", 5)] rfl (di_listK (K := K) rfl (de_var 1)) (blkOk_by (N := ["self", "rows", "wants", "stock", "at", "row"]) (sc := (defScope (inCls 22 0))) (by decide +kernel)) (gw_name (by decide)) (fun _ _ _ _ _ => dg_name sc_Giving___init__.nd rfl (by first | exact Or.inl rfl | exact Or.inr rfl)) (fun _ _ _ _ _ => dts_nil) (fun _ _ _ _ _ => de_int) sc_Giving___init__.nd))
    (dss_one (ds_for (di_range1 rfl T.n_range (da_cons (de_callB (call_lenK (K := K) rfl) lr_len rfl T.n_len bt_len (da_cons (de_var 1) (da_nil))) (da_nil))) (dg_name sc_Giving___init__.nd rfl (by first | exact Or.inl rfl | exact Or.inr rfl)) (dss_one (ds_expr (de_methK (K := K) rfl (de_var 0) T.c_Giving T.m_Giving_hand G_Giving_hand (hr.mono (by decide)) (b_Giving_hand T) (da_cons (de_var 4) (da_nil)))))))))))⟩
theorem sc_mosts_of : FnScope ["rows", "row"] ["rows"] (defScope (top 24)) := ⟨rfl, rfl, rfl, by decide +kernel, rfl, by decide +kernel, by decide +kernel⟩
theorem b_mosts_of {K : PySem.W.Frag} {mg : Str → Option Value} (T : TX K mg) : Binds K T.fd_mosts_of ["rows"] [] := T.F_mosts_of.bindsN fun _ _ _ _ _ _ us hl => match us, hl with | [_], _ => rfl
open HL (t_mosts_of t_mosts_of_0)
theorem der_mosts_of {P : Program} {w : World} {K : PySem.W.Frag} {mg : Str → Option Value} {base : Heap} (T : TX K mg) (cdv : Value) (A : Around) (outer : List Env) (s : Shared) (H : Hp) (E : XK) (hr : Room 0 (A.deeper (PyProof.Rows.envOfC "mosts_of" (defScope (top 24)) s.heap.objs.size (ga K "mosts_of") cdv))) :
  ∃ ts, DSs (cxOf CX0 P w K mg base ["rows", "row"] "mosts_of" (defScope (top 24)) (ga K "mosts_of") cdv A outer s H E).nox (defBody (top 24)) ts (t_mosts_of K) :=
  ⟨_, dss_one (ds_ret (de_lcV [("row", 1)] rfl (di_listK (K := K) rfl (de_var 0)) (blkOk_by (N := ["rows", "row"]) (sc := (defScope (top 24))) (by decide +kernel)) (gw_name (by decide)) (fun _ _ _ _ _ => dg_name sc_mosts_of.nd rfl (by first | exact Or.inl rfl | exact Or.inr rfl)) (fun _ _ _ _ _ => dts_nil) (fun _ _ _ _ _ => de_itemK (K := K) rfl (de_var 1) (de_int)) sc_mosts_of.nd))⟩
theorem sc_giving_of : FnScope ["line", "stock"] ["line", "stock"] (defScope (top 28)) := ⟨rfl, rfl, rfl, by decide +kernel, rfl, by decide +kernel, by decide +kernel⟩
theorem b_giving_of {K : PySem.W.Frag} {mg : Str → Option Value} (T : TX K mg) : Binds K T.fd_giving_of ["line", "stock"] [] := T.F_giving_of.bindsN fun _ _ _ _ _ _ us hl => match us, hl with | [_, _], _ => rfl
open HL (t_giving_of t_giving_of_0)
theorem der_giving_of {P : Program} {w : World} {K : PySem.W.Frag} {mg : Str → Option Value} {base : Heap} {S_Giving___init__ : SpD} {S_mosts_of : SpD} (T : TX K mg) (G_Giving___init__ : FnOk P w K mg base CX0 5 (ma K (ga K "Giving") "__init__") T.fd_Giving___init__ ["self", "rows", "wants", "stock"] (spD K S_Giving___init__)) (G_mosts_of : FnOk P w K mg base CX0 1 (ga K "mosts_of") T.fd_mosts_of ["rows"] (spD K S_mosts_of)) (cdv : Value) (A : Around) (outer : List Env) (s : Shared) (H : Hp) (E : XK) (hr : Room 6 (A.deeper (PyProof.Rows.envOfC "giving_of" (defScope (top 28)) s.heap.objs.size (ga K "giving_of") cdv))) :
  ∃ ts, DSs (cxOf CX0 P w K mg base ["line", "stock"] "giving_of" (defScope (top 28)) (ga K "giving_of") cdv A outer s H E).nox (defBody (top 28)) ts (t_giving_of K S_Giving___init__ S_mosts_of) :=
  ⟨_, dss_one (ds_ret (de_makeK (K := K) rfl T.k_Giving G_Giving___init__ (hr.mono (by decide)) rfl T.g_Giving (b_Giving___init__ T) (da_cons (de_callTy (call_listK (K := K) rfl) lr_list rfl T.n_list bt_list (da_cons (de_fldK (K := K) rfl (de_var 0)) (da_nil))) (da_cons (de_callK (K := K) rfl G_mosts_of (hr.mono (by decide)) rfl T.g_mosts_of T.F_mosts_of.kp (b_mosts_of T) (da_cons (de_fldK (K := K) rfl (de_var 0)) (da_nil))) (da_cons (de_var 1) (da_nil))))))⟩
theorem sc_dealt : FnScope ["line", "stock", "counts", "at", "row"] ["line", "stock"] (defScope (top 29)) := ⟨rfl, rfl, rfl, by decide +kernel, rfl, by decide +kernel, by decide +kernel⟩
theorem b_dealt {K : PySem.W.Frag} {mg : Str → Option Value} (T : TX K mg) : Binds K T.fd_dealt ["line", "stock"] [] := T.F_dealt.bindsN fun _ _ _ _ _ _ us hl => match us, hl with | [_, _], _ => rfl
open HL (t_dealt t_dealt_0 t_dealt_1)
theorem der_dealt {P : Program} {w : World} {K : PySem.W.Frag} {mg : Str → Option Value} {base : Heap} {S_giving_of : SpD} (T : TX K mg) (G_giving_of : FnOk P w K mg base CX0 7 (ga K "giving_of") T.fd_giving_of ["line", "stock"] (spD K S_giving_of)) (cdv : Value) (A : Around) (outer : List Env) (s : Shared) (H : Hp) (E : XK) (hr : Room 7 (A.deeper (PyProof.Rows.envOfC "dealt" (defScope (top 29)) s.heap.objs.size (ga K "dealt") cdv))) :
  ∃ ts, DSs (cxOf CX0 P w K mg base ["line", "stock", "counts", "at", "row"] "dealt" (defScope (top 29)) (ga K "dealt") cdv A outer s H E).nox (defBody (top 29)) ts (t_dealt K S_giving_of) :=
  ⟨_, dss_cons (ds_asg (de_fldK (K := K) rfl (de_callK (K := K) rfl G_giving_of (hr.mono (by decide)) rfl T.g_giving_of T.F_giving_of.kp (b_giving_of T) (da_cons (de_var 0) (da_cons (de_var 1) (da_nil))))) (dg_name sc_dealt.nd rfl (by first | exact Or.inl rfl | exact Or.inr rfl)))
    (dss_one (ds_ret (de_lcV [("at", 3), ("row", 4)] rfl (di_en (K := K) rfl rfl T.n_enumerate (da_cons (de_fldK (K := K) rfl (de_var 0)) (da_nil))) (blkOk_by (N := ["line", "stock", "counts", "at", "row"]) (sc := (defScope (top 29))) (by decide +kernel)) (gw_tup2 (by decide) (by decide)) (fun _ _ _ _ _ => dg_tupK (K := K) rfl rfl (dgs_cons (dg_name sc_dealt.nd rfl (by first | exact Or.inl rfl | exact Or.inr rfl)) (dgs_cons (dg_name sc_dealt.nd rfl (by first | exact Or.inl rfl | exact Or.inr rfl)) (dgs_nil)))) (fun _ _ _ _ _ => dts_nil) (fun _ _ _ _ _ => de_tup (da_cons (de_itemK (K := K) rfl (de_var 4) (de_int)) (da_cons (de_itemK (K := K) rfl (de_var 2) (de_var 3)) (da_nil)))) sc_dealt.nd)))⟩
theorem sc_deal : FnScope ["line", "stock"] ["line", "stock"] (defScope (top 30)) := ⟨rfl, rfl, rfl, by decide +kernel, rfl, by decide +kernel, by decide +kernel⟩
theorem b_deal {K : PySem.W.Frag} {mg : Str → Option Value} (T : TX K mg) : Binds K T.fd_deal ["line", "stock"] [] := T.F_deal.bindsN fun _ _ _ _ _ _ us hl => match us, hl with | [_, _], _ => rfl
open HL (t_deal t_deal_0 t_deal_1 t_deal_2)
theorem der_deal {P : Program} {w : World} {K : PySem.W.Frag} {mg : Str → Option Value} {base : Heap} {S_dealt : SpD} {S_check_stock : SpD} {S_check_line : SpD} (T : TX K mg) (G_dealt : FnOk P w K mg base CX0 8 (ga K "dealt") T.fd_dealt ["line", "stock"] (spD K S_dealt)) (G_check_stock : FnOk P w K mg base CX0 3 (ga K "check_stock") T.fd_check_stock ["value"] (spD K S_check_stock)) (G_check_line : FnOk P w K mg base CX0 1 (ga K "check_line") T.fd_check_line ["value"] (spD K S_check_line)) (cdv : Value) (A : Around) (outer : List Env) (s : Shared) (H : Hp) (E : XK) (hr : Room 8 (A.deeper (PyProof.Rows.envOfC "deal" (defScope (top 30)) s.heap.objs.size (ga K "deal") cdv))) :
  ∃ ts, DSs (cxOf CX0 P w K mg base ["line", "stock"] "deal" (defScope (top 30)) (ga K "deal") cdv A outer s H E).nox (defBody (top 30)) ts (t_deal K S_dealt S_check_stock S_check_line) :=
  ⟨_, dss_cons (ds_expr (de_callK (K := K) rfl G_check_line (hr.mono (by decide)) rfl T.g_check_line T.F_check_line.kp (b_check_line T) (da_cons (de_var 0) (da_nil))))
    (dss_cons (ds_expr (de_callK (K := K) rfl G_check_stock (hr.mono (by decide)) rfl T.g_check_stock T.F_check_stock.kp (b_check_stock T) (da_cons (de_var 1) (da_nil))))
    (dss_one (ds_ret (de_callK (K := K) rfl G_dealt (hr.mono (by decide)) rfl T.g_dealt T.F_dealt.kp (b_dealt T) (da_cons (de_var 0) (da_cons (de_var 1) (da_nil)))))))⟩
theorem sc__law_held : FnScope ["_law_stock_here", "_law_kinds_here", "_law_kind"] ["_law_stock_here", "_law_kinds_here"] (defScope (top 43)) := ⟨rfl, rfl, rfl, by decide +kernel, rfl, by decide +kernel, by decide +kernel⟩
theorem b__law_held {K : PySem.W.Frag} {mg : Str → Option Value} (T : TX K mg) : Binds K T.fd__law_held ["_law_stock_here", "_law_kinds_here"] [] := T.F__law_held.bindsN fun _ _ _ _ _ _ us hl => match us, hl with | [_, _], _ => rfl
open HL (t__law_held t__law_held_0)
theorem der__law_held {P : Program} {w : World} {K : PySem.W.Frag} {mg : Str → Option Value} {base : Heap} (T : TX K mg) (cdv : Value) (A : Around) (outer : List Env) (s : Shared) (H : Hp) (E : XK) (hr : Room 0 (A.deeper (PyProof.Rows.envOfC "_law_held" (defScope (top 43)) s.heap.objs.size (ga K "_law_held") cdv))) :
  ∃ ts, DSs (cxOf CX0 P w K mg base ["_law_stock_here", "_law_kinds_here", "_law_kind"] "_law_held" (defScope (top 43)) (ga K "_law_held") cdv A outer s H E).nox (defBody (top 43)) ts (t__law_held K) :=
  ⟨_, dss_one (ds_ret (de_callB (cr_sumK (K := K) rfl rfl) lr_sum rfl T.n_sum bt_sum (da_cons (de_lcV [("_law_kind", 2)] rfl (di_listK (K := K) rfl (de_sortSet rfl T.n_sorted rfl T.n_set (de_var 1))) (blkOk_by (N := ["_law_stock_here", "_law_kinds_here", "_law_kind"]) (sc := (defScope (top 43))) (by decide +kernel)) (gw_name (by decide)) (fun _ _ _ _ _ => dg_name sc__law_held.nd rfl (by first | exact Or.inl rfl | exact Or.inr rfl)) (fun _ _ _ _ _ => dts_nil) (fun _ _ _ _ _ => de_callTy call_int1 lr_int1 rfl T.n_int bt_int (da_cons (de_dget2 (room1 hr) (de_var 0) (de_var 2) (de_int)) (da_nil))) sc__law_held.nd) (da_nil))))⟩
theorem sc__law_fits_of : FnScope ["_law_rows_here", "_law_found", "_law_row", "_law_kind"] ["_law_rows_here"] (defScope (top 46)) := ⟨rfl, rfl, rfl, by decide +kernel, rfl, by decide +kernel, by decide +kernel⟩
theorem b__law_fits_of {K : PySem.W.Frag} {mg : Str → Option Value} (T : TX K mg) : Binds K T.fd__law_fits_of ["_law_rows_here"] [] := T.F__law_fits_of.bindsN fun _ _ _ _ _ _ us hl => match us, hl with | [_], _ => rfl
open HL (t__law_fits_of t__law_fits_of_0 t__law_fits_of_1 t__law_fits_of_2)
theorem der__law_fits_of {P : Program} {w : World} {K : PySem.W.Frag} {mg : Str → Option Value} {base : Heap} (T : TX K mg) (cdv : Value) (A : Around) (outer : List Env) (s : Shared) (H : Hp) (E : XK) (hr : Room 0 (A.deeper (PyProof.Rows.envOfC "_law_fits_of" (defScope (top 46)) s.heap.objs.size (ga K "_law_fits_of") cdv))) :
  ∃ ts, DSs (cxOf CX0 P w K mg base ["_law_rows_here", "_law_found", "_law_row", "_law_kind"] "_law_fits_of" (defScope (top 46)) (ga K "_law_fits_of") cdv A outer s H E).nox (defBody (top 46)) ts (t__law_fits_of K) :=
  ⟨_, dss_cons (ds_asg (de_lst (da_nil)) (dg_name sc__law_fits_of.nd rfl (by first | exact Or.inl rfl | exact Or.inr rfl)))
    (dss_cons (ds_for (di_listK (K := K) rfl (de_var 0)) (dg_name sc__law_fits_of.nd rfl (by first | exact Or.inl rfl | exact Or.inr rfl)) (dss_one (ds_asg (de_addK (K := K) rfl (de_var 1) (de_lcV [("_law_kind", 3)] rfl (di_listK (K := K) rfl (de_itemK (K := K) rfl (de_var 2) (de_int))) (blkOk_by (N := ["_law_rows_here", "_law_found", "_law_row", "_law_kind"]) (sc := (defScope (top 46))) (by decide +kernel)) (gw_name (by decide)) (fun _ _ _ _ _ => dg_name sc__law_fits_of.nd rfl (by first | exact Or.inl rfl | exact Or.inr rfl)) (fun _ _ _ _ _ => dts_one (dt_cmp (op_notInK (K := K) rfl) lr_in (de_var 3) (de_var 1) rfl)) (fun _ _ _ _ _ => de_var 3) sc__law_fits_of.nd)) (dg_name sc__law_fits_of.nd rfl (by first | exact Or.inl rfl | exact Or.inr rfl)))))
    (dss_one (ds_ret (de_var 1))))⟩
theorem sc__law_most_of : FnScope ["_law_rows_here", "_law_stock_here", "_law_row", "_law_lot", "_law_lots", "_law_least", "_law_total"] ["_law_rows_here", "_law_stock_here"] (defScope (top 47)) := ⟨rfl, rfl, rfl, by decide +kernel, rfl, by decide +kernel, by decide +kernel⟩
theorem b__law_most_of {K : PySem.W.Frag} {mg : Str → Option Value} (T : TX K mg) : Binds K T.fd__law_most_of ["_law_rows_here", "_law_stock_here"] [] := T.F__law_most_of.bindsN fun _ _ _ _ _ _ us hl => match us, hl with | [_, _], _ => rfl
open HL (t__law_most_of t__law_most_of_0 t__law_most_of_1 t__law_most_of_2 t__law_most_of_3 t__law_most_of_4 t__law_most_of_5)
theorem der__law_most_of {P : Program} {w : World} {K : PySem.W.Frag} {mg : Str → Option Value} {base : Heap} {S__law_held : SpD} {S__law_fits_of : SpD} (T : TX K mg) (G__law_held : FnOk P w K mg base CX0 1 (ga K "_law_held") T.fd__law_held ["_law_stock_here", "_law_kinds_here"] (spD K S__law_held)) (G__law_fits_of : FnOk P w K mg base CX0 1 (ga K "_law_fits_of") T.fd__law_fits_of ["_law_rows_here"] (spD K S__law_fits_of)) (cdv : Value) (A : Around) (outer : List Env) (s : Shared) (H : Hp) (E : XK) (hr : Room 1 (A.deeper (PyProof.Rows.envOfC "_law_most_of" (defScope (top 47)) s.heap.objs.size (ga K "_law_most_of") cdv))) :
  ∃ ts, DSs (cxOf CX0 P w K mg base ["_law_rows_here", "_law_stock_here", "_law_row", "_law_lot", "_law_lots", "_law_least", "_law_total"] "_law_most_of" (defScope (top 47)) (ga K "_law_most_of") cdv A outer s H E).nox (defBody (top 47)) ts (t__law_most_of K S__law_held S__law_fits_of) :=
  ⟨_, dss_cons (ds_par sc__law_most_of.nd rfl rfl (by decide) rfl rfl (da_cons (de_lst (da_cons (de_lst (da_nil)) (da_nil))) (da_cons (de_non) (da_nil))) rfl)
    (dss_cons (ds_for (di_listK (K := K) rfl (de_var 0)) (dg_name sc__law_most_of.nd rfl (by first | exact Or.inl rfl | exact Or.inr rfl)) (dss_one (ds_asg (de_addK (K := K) rfl (de_var 4) (de_lcV [("_law_lot", 3)] rfl (di_listK (K := K) rfl (de_var 4)) (blkOk_by (N := ["_law_rows_here", "_law_stock_here", "_law_row", "_law_lot", "_law_lots", "_law_least", "_law_total"]) (sc := (defScope (top 47))) (by decide +kernel)) (gw_name (by decide)) (fun _ _ _ _ _ => dg_name sc__law_most_of.nd rfl (by first | exact Or.inl rfl | exact Or.inr rfl)) (fun _ _ _ _ _ => dts_nil) (fun _ _ _ _ _ => de_addK (K := K) rfl (de_var 3) (de_lst (da_cons (de_var 2) (da_nil)))) sc__law_most_of.nd)) (dg_name sc__law_most_of.nd rfl (by first | exact Or.inl rfl | exact Or.inr rfl)))))
    (dss_cons (ds_for (di_listK (K := K) rfl (de_var 4)) (dg_name sc__law_most_of.nd rfl (by first | exact Or.inl rfl | exact Or.inr rfl)) (dss_cons (ds_asg (de_addK (K := K) rfl (de_callB (cr_sumK (K := K) rfl rfl) lr_sum rfl T.n_sum bt_sum (da_cons (de_lcV [("_law_row", 2)] rfl (di_listK (K := K) rfl (de_var 0)) (blkOk_by (N := ["_law_rows_here", "_law_stock_here", "_law_row", "_law_lot", "_law_lots", "_law_least", "_law_total"]) (sc := (defScope (top 47))) (by decide +kernel)) (gw_name (by decide)) (fun _ _ _ _ _ => dg_name sc__law_most_of.nd rfl (by first | exact Or.inl rfl | exact Or.inr rfl)) (fun _ _ _ _ _ => dts_one (dt_cmp (op_notInDK (K := K) rfl (room65 hr)) lr_notInD (de_var 2) (de_var 3) rfl)) (fun _ _ _ _ _ => de_itemK (K := K) rfl (de_var 2) (de_int)) sc__law_most_of.nd) (da_nil))) (de_callK (K := K) rfl G__law_held (hr.mono (by decide)) rfl T.g__law_held T.F__law_held.kp (b__law_held T) (da_cons (de_var 1) (da_cons (de_callK (K := K) rfl G__law_fits_of (hr.mono (by decide)) rfl T.g__law_fits_of T.F__law_fits_of.kp (b__law_fits_of T) (da_cons (de_var 3) (da_nil))) (da_nil))))) (dg_name sc__law_most_of.nd rfl (by first | exact Or.inl rfl | exact Or.inr rfl)))
    (dss_one (ds_asg (de_ifExp (dt_cmp op_isN lr_isN (de_var 5) (de_non) rfl) (de_var 6) (de_callB (call_min2 rfl) lr_min2 rfl T.n_min bt_min (da_cons (de_callTy call_int1 lr_int1 rfl T.n_int bt_int (da_cons (de_var 5) (da_nil))) (da_cons (de_callTy call_int1 lr_int1 rfl T.n_int bt_int (da_cons (de_var 6) (da_nil))) (da_nil))))) (dg_name sc__law_most_of.nd rfl (by first | exact Or.inl rfl | exact Or.inr rfl))))))
    (dss_one (ds_ret (de_var 5)))))⟩
theorem sc__law_dealt : FnScope ["_law_rows_here", "_law_stock_here", "_law_at", "_law_found", "_law_ahead", "_law_total"] ["_law_rows_here", "_law_stock_here"] (defScope (top 48)) := ⟨rfl, rfl, rfl, by decide +kernel, rfl, by decide +kernel, by decide +kernel⟩
theorem b__law_dealt {K : PySem.W.Frag} {mg : Str → Option Value} (T : TX K mg) : Binds K T.fd__law_dealt ["_law_rows_here", "_law_stock_here"] [] := T.F__law_dealt.bindsN fun _ _ _ _ _ _ us hl => match us, hl with | [_, _], _ => rfl
open HL (t__law_dealt t__law_dealt_0 t__law_dealt_1 t__law_dealt_2 t__law_dealt_3)
theorem der__law_dealt {P : Program} {w : World} {K : PySem.W.Frag} {mg : Str → Option Value} {base : Heap} {S__law_most_of : SpD} (T : TX K mg) (G__law_most_of : FnOk P w K mg base CX0 2 (ga K "_law_most_of") T.fd__law_most_of ["_law_rows_here", "_law_stock_here"] (spD K S__law_most_of)) (cdv : Value) (A : Around) (outer : List Env) (s : Shared) (H : Hp) (E : XK) (hr : Room 2 (A.deeper (PyProof.Rows.envOfC "_law_dealt" (defScope (top 48)) s.heap.objs.size (ga K "_law_dealt") cdv))) :
  ∃ ts, DSs (cxOf CX0 P w K mg base ["_law_rows_here", "_law_stock_here", "_law_at", "_law_found", "_law_ahead", "_law_total"] "_law_dealt" (defScope (top 48)) (ga K "_law_dealt") cdv A outer s H E).nox (defBody (top 48)) ts (t__law_dealt K S__law_most_of) :=
  ⟨_, dss_cons (ds_par sc__law_dealt.nd rfl rfl (by decide) rfl rfl (da_cons (de_lst (da_nil)) (da_cons (de_int) (da_nil))) rfl)
    (dss_cons (ds_for (di_range1 rfl T.n_range (da_cons (de_callB (call_lenK (K := K) rfl) lr_len rfl T.n_len bt_len (da_cons (de_var 0) (da_nil))) (da_nil))) (dg_name sc__law_dealt.nd rfl (by first | exact Or.inl rfl | exact Or.inr rfl)) (dss_cons (ds_asg (de_callK (K := K) rfl G__law_most_of (hr.mono (by decide)) rfl T.g__law_most_of T.F__law_most_of.kp (b__law_most_of T) (da_cons (de_sliceK (K := K) rfl (de_var 0) (do_none) (do_some (de_addK (K := K) rfl (de_var 2) (de_int)))) (da_cons (de_var 1) (da_nil)))) (dg_name sc__law_dealt.nd rfl (by first | exact Or.inl rfl | exact Or.inr rfl)))
    (dss_cons (ds_expr (de_bmK (K := K) rfl PySem.F.slot_list_append PySem.F.type_list_append mt_append lr_app (de_var 3) (da_cons (de_tup (da_cons (de_itemK (K := K) rfl (de_itemK (K := K) rfl (de_var 0) (de_var 2)) (de_int)) (da_cons (de_sub (de_var 5) (de_var 4)) (da_nil)))) (da_nil))))
    (dss_one (ds_asg (de_var 5) (dg_name sc__law_dealt.nd rfl (by first | exact Or.inl rfl | exact Or.inr rfl)))))))
    (dss_one (ds_ret (de_var 3))))⟩
theorem sc_Line_names : FnScope ["self", "row"] ["self"] (defScope (inCls 18 4)) := ⟨rfl, rfl, rfl, by decide +kernel, rfl, by decide +kernel, by decide +kernel⟩
theorem b_Line_names {K : PySem.W.Frag} {mg : Str → Option Value} (T : TX K mg) : Binds K T.fd_Line_names ["self"] [] := T.F_Line_names.bindsN fun _ _ _ _ _ _ us hl => match us, hl with | [_], _ => rfl
open HL (t_Line_names t_Line_names_0)
theorem der_Line_names {P : Program} {w : World} {K : PySem.W.Frag} {mg : Str → Option Value} {base : Heap} (T : TX K mg) (cdv : Value) (A : Around) (outer : List Env) (s : Shared) (H : Hp) (E : XK) (hr : Room 0 (A.deeper (PyProof.Rows.envOfC "Line.names" (defScope (inCls 18 4)) s.heap.objs.size (ma K (ga K "Line") "names") cdv))) :
  ∃ ts, DSs (cxOf CX0 P w K mg base ["self", "row"] "Line.names" (defScope (inCls 18 4)) (ma K (ga K "Line") "names") cdv A outer s H E).nox (defBody (inCls 18 4)) ts (t_Line_names K) :=
  ⟨_, dss_one (ds_ret (de_lcV [("row", 1)] rfl (di_listK (K := K) rfl (de_fldK (K := K) rfl (de_var 0))) (blkOk_by (N := ["self", "row"]) (sc := (defScope (inCls 18 4))) (by decide +kernel)) (gw_name (by decide)) (fun _ _ _ _ _ => dg_name sc_Line_names.nd rfl (by first | exact Or.inl rfl | exact Or.inr rfl)) (fun _ _ _ _ _ => dts_nil) (fun _ _ _ _ _ => de_itemK (K := K) rfl (de_var 1) (de_int)) sc_Line_names.nd))⟩
theorem sc_check_names : FnScope ["line", "names", "known", "name"] ["line", "names"] (defScope (top 20)) := ⟨rfl, rfl, rfl, by decide +kernel, rfl, by decide +kernel, by decide +kernel⟩
theorem b_check_names {K : PySem.W.Frag} {mg : Str → Option Value} (T : TX K mg) : Binds K T.fd_check_names ["line", "names"] [] := T.F_check_names.bindsN fun _ _ _ _ _ _ us hl => match us, hl with | [_, _], _ => rfl
open HL (t_check_names t_check_names_0 t_check_names_1 t_check_names_2)
theorem der_check_names {P : Program} {w : World} {K : PySem.W.Frag} {mg : Str → Option Value} {base : Heap} {S_Line_names : SpD} {S_are_names : SpD} (T : TX K mg) (G_Line_names : FnOk P w K mg base CX0 1 (ma K (ga K "Line") "names") T.fd_Line_names ["self"] (spD K S_Line_names)) (G_are_names : FnOk P w K mg base CX0 2 (ga K "are_names") T.fd_are_names ["value"] (spD K S_are_names)) (cdv : Value) (A : Around) (outer : List Env) (s : Shared) (H : Hp) (E : XK) (hr : Room 2 (A.deeper (PyProof.Rows.envOfC "check_names" (defScope (top 20)) s.heap.objs.size (ga K "check_names") cdv))) :
  ∃ ts, DSs (cxOf CX0 P w K mg base ["line", "names", "known", "name"] "check_names" (defScope (top 20)) (ga K "check_names") cdv A outer s H E).nox (defBody (top 20)) ts (t_check_names K S_Line_names S_are_names) :=
  ⟨_, dss_cons (ds_if (dt_not (dt_val (de_callK (K := K) rfl G_are_names (hr.mono (by decide)) rfl T.g_are_names T.F_are_names.kp (b_are_names T) (da_cons (de_var 1) (da_nil))))) (dss_one (ds_never)) (dss_nil))
    (dss_cons (ds_asg (de_dcV [("name", 3)] rfl (di_listK (K := K) rfl (de_meth0K (K := K) rfl (de_var 0) T.c_Line T.m_Line_names G_Line_names (hr.mono (by decide)) (b_Line_names T))) (blkOk_by (N := ["line", "names", "known", "name"]) (sc := (defScope (top 20))) (by decide +kernel)) (gw_name (by decide)) (fun _ _ _ _ _ => dg_name sc_check_names.nd rfl (by first | exact Or.inl rfl | exact Or.inr rfl)) (fun _ _ _ _ _ => dts_nil) (fun _ _ _ _ _ => de_var 3) (fun _ _ _ _ _ => de_bl) sc_check_names.nd) (dg_name sc_check_names.nd rfl (by first | exact Or.inl rfl | exact Or.inr rfl)))
    (dss_one (ds_if (dt_cmp (op_neK (K := K) rfl hr.units) lr_ne (de_lcV [("name", 3)] rfl (di_listK (K := K) rfl (de_var 1)) (blkOk_by (N := ["line", "names", "known", "name"]) (sc := (defScope (top 20))) (by decide +kernel)) (gw_name (by decide)) (fun _ _ _ _ _ => dg_name sc_check_names.nd rfl (by first | exact Or.inl rfl | exact Or.inr rfl)) (fun _ _ _ _ _ => dts_one (dt_dnotin (room1 hr) (de_var 3) (de_var 2))) (fun _ _ _ _ _ => de_var 3) sc_check_names.nd) (de_lst (da_nil)) rfl) (dss_one (ds_never)) (dss_nil))))⟩
theorem sc_most_together : FnScope ["rows", "stock"] ["rows", "stock"] (defScope (top 25)) := ⟨rfl, rfl, rfl, by decide +kernel, rfl, by decide +kernel, by decide +kernel⟩
theorem b_most_together {K : PySem.W.Frag} {mg : Str → Option Value} (T : TX K mg) : Binds K T.fd_most_together ["rows", "stock"] [] := T.F_most_together.bindsN fun _ _ _ _ _ _ us hl => match us, hl with | [_, _], _ => rfl
open HL (t_most_together t_most_together_0)
theorem der_most_together {P : Program} {w : World} {K : PySem.W.Frag} {mg : Str → Option Value} {base : Heap} {S_Giving___init__ : SpD} {S_mosts_of : SpD} (T : TX K mg) (G_Giving___init__ : FnOk P w K mg base CX0 5 (ma K (ga K "Giving") "__init__") T.fd_Giving___init__ ["self", "rows", "wants", "stock"] (spD K S_Giving___init__)) (G_mosts_of : FnOk P w K mg base CX0 1 (ga K "mosts_of") T.fd_mosts_of ["rows"] (spD K S_mosts_of)) (cdv : Value) (A : Around) (outer : List Env) (s : Shared) (H : Hp) (E : XK) (hr : Room 6 (A.deeper (PyProof.Rows.envOfC "most_together" (defScope (top 25)) s.heap.objs.size (ga K "most_together") cdv))) :
  ∃ ts, DSs (cxOf CX0 P w K mg base ["rows", "stock"] "most_together" (defScope (top 25)) (ga K "most_together") cdv A outer s H E).nox (defBody (top 25)) ts (t_most_together K S_Giving___init__ S_mosts_of) :=
  ⟨_, dss_one (ds_ret (de_callB (cr_sumK (K := K) rfl rfl) lr_sum rfl T.n_sum bt_sum (da_cons (de_fldK (K := K) rfl (de_makeK (K := K) rfl T.k_Giving G_Giving___init__ (hr.mono (by decide)) rfl T.g_Giving (b_Giving___init__ T) (da_cons (de_var 0) (da_cons (de_callK (K := K) rfl G_mosts_of (hr.mono (by decide)) rfl T.g_mosts_of T.F_mosts_of.kp (b_mosts_of T) (da_cons (de_var 0) (da_nil))) (da_cons (de_var 1) (da_nil)))))) (da_nil))))⟩
theorem sc_check_known : FnScope ["line", "name"] ["line", "name"] (defScope (top 19)) := ⟨rfl, rfl, rfl, by decide +kernel, rfl, by decide +kernel, by decide +kernel⟩
theorem b_check_known {K : PySem.W.Frag} {mg : Str → Option Value} (T : TX K mg) : Binds K T.fd_check_known ["line", "name"] [] := T.F_check_known.bindsN fun _ _ _ _ _ _ us hl => match us, hl with | [_, _], _ => rfl
open HL (t_check_known t_check_known_0)
theorem der_check_known {P : Program} {w : World} {K : PySem.W.Frag} {mg : Str → Option Value} {base : Heap} {S_Line_names : SpD} (T : TX K mg) (G_Line_names : FnOk P w K mg base CX0 1 (ma K (ga K "Line") "names") T.fd_Line_names ["self"] (spD K S_Line_names)) (cdv : Value) (A : Around) (outer : List Env) (s : Shared) (H : Hp) (E : XK) (hr : Room 1 (A.deeper (PyProof.Rows.envOfC "check_known" (defScope (top 19)) s.heap.objs.size (ga K "check_known") cdv))) :
  ∃ ts, DSs (cxOf CX0 P w K mg base ["line", "name"] "check_known" (defScope (top 19)) (ga K "check_known") cdv A outer s H E).nox (defBody (top 19)) ts (t_check_known K S_Line_names) :=
  ⟨_, dss_one (ds_if (DW.dt (dw_or (dt_not (dt_val (de_callB (call_isiK' (K := K) rfl) lr_isi rfl T.n_isinstance bt_isinstance (da_cons (de_var 1) (da_cons (de_bltn (v := .ty "str") rfl T.n_str bt_str rfl) (da_nil)))))) (dw_or1 (dt_cmp (op_notInK (K := K) rfl) lr_in (de_var 1) (de_meth0K (K := K) rfl (de_var 0) T.c_Line T.m_Line_names G_Line_names (hr.mono (by decide)) (b_Line_names T)) rfl)))) (dss_one (ds_never)) (dss_nil))⟩
theorem sc_Line_place : FnScope ["self", "name"] ["self", "name"] (defScope (inCls 18 6)) := ⟨rfl, rfl, rfl, by decide +kernel, rfl, by decide +kernel, by decide +kernel⟩
theorem b_Line_place {K : PySem.W.Frag} {mg : Str → Option Value} (T : TX K mg) : Binds K T.fd_Line_place ["self", "name"] [] := T.F_Line_place.bindsN fun _ _ _ _ _ _ us hl => match us, hl with | [_, _], _ => rfl
open HL (t_Line_place t_Line_place_0 t_Line_place_1)
theorem der_Line_place {P : Program} {w : World} {K : PySem.W.Frag} {mg : Str → Option Value} {base : Heap} {S_Line_names : SpD} {S_check_known : SpD} (T : TX K mg) (G_Line_names : FnOk P w K mg base CX0 1 (ma K (ga K "Line") "names") T.fd_Line_names ["self"] (spD K S_Line_names)) (G_check_known : FnOk P w K mg base CX0 2 (ga K "check_known") T.fd_check_known ["line", "name"] (spD K S_check_known)) (cdv : Value) (A : Around) (outer : List Env) (s : Shared) (H : Hp) (E : XK) (hr : Room 2 (A.deeper (PyProof.Rows.envOfC "Line.place" (defScope (inCls 18 6)) s.heap.objs.size (ma K (ga K "Line") "place") cdv))) :
  ∃ ts, DSs (cxOf CX0 P w K mg base ["self", "name"] "Line.place" (defScope (inCls 18 6)) (ma K (ga K "Line") "place") cdv A outer s H E).nox (defBody (inCls 18 6)) ts (t_Line_place K S_Line_names S_check_known) :=
  ⟨_, dss_cons (ds_expr (de_callK (K := K) rfl G_check_known (hr.mono (by decide)) rfl T.g_check_known T.F_check_known.kp (b_check_known T) (da_cons (de_var 0) (da_cons (de_var 1) (da_nil)))))
    (dss_one (ds_ret (de_bmK (K := K) rfl PySem.F.slot_list_index PySem.F.type_list_index (mt_indexK (K := K) rfl) lr_index (de_meth0K (K := K) rfl (de_var 0) T.c_Line T.m_Line_names G_Line_names (hr.mono (by decide)) (b_Line_names T)) (da_cons (de_var 1) (da_nil)))))⟩
theorem sc_rows_of : FnScope ["line", "names", "name"] ["line", "names"] (defScope (top 23)) := ⟨rfl, rfl, rfl, by decide +kernel, rfl, by decide +kernel, by decide +kernel⟩
theorem b_rows_of {K : PySem.W.Frag} {mg : Str → Option Value} (T : TX K mg) : Binds K T.fd_rows_of ["line", "names"] [] := T.F_rows_of.bindsN fun _ _ _ _ _ _ us hl => match us, hl with | [_, _], _ => rfl
open HL (t_rows_of t_rows_of_0)
theorem der_rows_of {P : Program} {w : World} {K : PySem.W.Frag} {mg : Str → Option Value} {base : Heap} {S_Line_place : SpD} (T : TX K mg) (G_Line_place : FnOk P w K mg base CX0 3 (ma K (ga K "Line") "place") T.fd_Line_place ["self", "name"] (spD K S_Line_place)) (cdv : Value) (A : Around) (outer : List Env) (s : Shared) (H : Hp) (E : XK) (hr : Room 3 (A.deeper (PyProof.Rows.envOfC "rows_of" (defScope (top 23)) s.heap.objs.size (ga K "rows_of") cdv))) :
  ∃ ts, DSs (cxOf CX0 P w K mg base ["line", "names", "name"] "rows_of" (defScope (top 23)) (ga K "rows_of") cdv A outer s H E).nox (defBody (top 23)) ts (t_rows_of K S_Line_place) :=
  ⟨_, dss_one (ds_ret (de_lcV [("name", 2)] rfl (di_listK (K := K) rfl (de_var 1)) (blkOk_by (N := ["line", "names", "name"]) (sc := (defScope (top 23))) (by decide +kernel)) (gw_name (by decide)) (fun _ _ _ _ _ => dg_name sc_rows_of.nd rfl (by first | exact Or.inl rfl | exact Or.inr rfl)) (fun _ _ _ _ _ => dts_nil) (fun _ _ _ _ _ => de_itemK (K := K) rfl (de_fldK (K := K) rfl (de_var 0)) (de_methK (K := K) rfl (de_var 0) T.c_Line T.m_Line_place G_Line_place (hr.mono (by decide)) (b_Line_place T) (da_cons (de_var 2) (da_nil)))) sc_rows_of.nd))⟩
theorem sc_together : FnScope ["line", "names", "stock"] ["line", "names", "stock"] (defScope (top 26)) := ⟨rfl, rfl, rfl, by decide +kernel, rfl, by decide +kernel, by decide +kernel⟩
theorem b_together {K : PySem.W.Frag} {mg : Str → Option Value} (T : TX K mg) : Binds K T.fd_together ["line", "names", "stock"] [] := T.F_together.bindsN fun _ _ _ _ _ _ us hl => match us, hl with | [_, _, _], _ => rfl
open HL (t_together t_together_0 t_together_1 t_together_2 t_together_3)
theorem der_together {P : Program} {w : World} {K : PySem.W.Frag} {mg : Str → Option Value} {base : Heap} {S_most_together : SpD} {S_rows_of : SpD} {S_check_stock : SpD} {S_check_names : SpD} {S_check_line : SpD} (T : TX K mg) (G_most_together : FnOk P w K mg base CX0 7 (ga K "most_together") T.fd_most_together ["rows", "stock"] (spD K S_most_together)) (G_rows_of : FnOk P w K mg base CX0 4 (ga K "rows_of") T.fd_rows_of ["line", "names"] (spD K S_rows_of)) (G_check_stock : FnOk P w K mg base CX0 3 (ga K "check_stock") T.fd_check_stock ["value"] (spD K S_check_stock)) (G_check_names : FnOk P w K mg base CX0 3 (ga K "check_names") T.fd_check_names ["line", "names"] (spD K S_check_names)) (G_check_line : FnOk P w K mg base CX0 1 (ga K "check_line") T.fd_check_line ["value"] (spD K S_check_line)) (cdv : Value) (A : Around) (outer : List Env) (s : Shared) (H : Hp) (E : XK) (hr : Room 7 (A.deeper (PyProof.Rows.envOfC "together" (defScope (top 26)) s.heap.objs.size (ga K "together") cdv))) :
  ∃ ts, DSs (cxOf CX0 P w K mg base ["line", "names", "stock"] "together" (defScope (top 26)) (ga K "together") cdv A outer s H E).nox (defBody (top 26)) ts (t_together K S_most_together S_rows_of S_check_stock S_check_names S_check_line) :=
  ⟨_, dss_cons (ds_expr (de_callK (K := K) rfl G_check_line (hr.mono (by decide)) rfl T.g_check_line T.F_check_line.kp (b_check_line T) (da_cons (de_var 0) (da_nil))))
    (dss_cons (ds_expr (de_callK (K := K) rfl G_check_names (hr.mono (by decide)) rfl T.g_check_names T.F_check_names.kp (b_check_names T) (da_cons (de_var 0) (da_cons (de_var 1) (da_nil)))))
    (dss_cons (ds_expr (de_callK (K := K) rfl G_check_stock (hr.mono (by decide)) rfl T.g_check_stock T.F_check_stock.kp (b_check_stock T) (da_cons (de_var 2) (da_nil))))
    (dss_one (ds_ret (de_callK (K := K) rfl G_most_together (hr.mono (by decide)) rfl T.g_most_together T.F_most_together.kp (b_most_together T) (da_cons (de_callK (K := K) rfl G_rows_of (hr.mono (by decide)) rfl T.g_rows_of T.F_rows_of.kp (b_rows_of T) (da_cons (de_var 0) (da_cons (de_var 1) (da_nil)))) (da_cons (de_var 2) (da_nil))))))))⟩
theorem sc_due : FnScope ["line", "name", "elders", "stock"] ["line", "name", "elders", "stock"] (defScope (top 27)) := ⟨rfl, rfl, rfl, by decide +kernel, rfl, by decide +kernel, by decide +kernel⟩
theorem b_due {K : PySem.W.Frag} {mg : Str → Option Value} (T : TX K mg) : Binds K T.fd_due ["line", "name", "elders", "stock"] [] := T.F_due.bindsN fun _ _ _ _ _ _ us hl => match us, hl with | [_, _, _, _], _ => rfl
open HL (t_due t_due_0 t_due_1 t_due_2 t_due_3 t_due_4 t_due_5)
theorem der_due {P : Program} {w : World} {K : PySem.W.Frag} {mg : Str → Option Value} {base : Heap} {S_Giving___init__ : SpD} {S_rows_of : SpD} {S_mosts_of : SpD} {S_check_stock : SpD} {S_check_names : SpD} {S_Line_place : SpD} {S_check_line : SpD} (T : TX K mg) (G_Giving___init__ : FnOk P w K mg base CX0 5 (ma K (ga K "Giving") "__init__") T.fd_Giving___init__ ["self", "rows", "wants", "stock"] (spD K S_Giving___init__)) (G_rows_of : FnOk P w K mg base CX0 4 (ga K "rows_of") T.fd_rows_of ["line", "names"] (spD K S_rows_of)) (G_mosts_of : FnOk P w K mg base CX0 1 (ga K "mosts_of") T.fd_mosts_of ["rows"] (spD K S_mosts_of)) (G_check_stock : FnOk P w K mg base CX0 3 (ga K "check_stock") T.fd_check_stock ["value"] (spD K S_check_stock)) (G_check_names : FnOk P w K mg base CX0 3 (ga K "check_names") T.fd_check_names ["line", "names"] (spD K S_check_names)) (G_Line_place : FnOk P w K mg base CX0 3 (ma K (ga K "Line") "place") T.fd_Line_place ["self", "name"] (spD K S_Line_place)) (G_check_line : FnOk P w K mg base CX0 1 (ga K "check_line") T.fd_check_line ["value"] (spD K S_check_line)) (cdv : Value) (A : Around) (outer : List Env) (s : Shared) (H : Hp) (E : XK) (hr : Room 6 (A.deeper (PyProof.Rows.envOfC "due" (defScope (top 27)) s.heap.objs.size (ga K "due") cdv))) :
  ∃ ts, DSs (cxOf CX0 P w K mg base ["line", "name", "elders", "stock"] "due" (defScope (top 27)) (ga K "due") cdv A outer s H E).nox (defBody (top 27)) ts (t_due K S_Giving___init__ S_rows_of S_mosts_of S_check_stock S_check_names S_Line_place S_check_line) :=
  ⟨_, dss_cons (ds_expr (de_callK (K := K) rfl G_check_line (hr.mono (by decide)) rfl T.g_check_line T.F_check_line.kp (b_check_line T) (da_cons (de_var 0) (da_nil))))
    (dss_cons (ds_expr (de_methK (K := K) rfl (de_var 0) T.c_Line T.m_Line_place G_Line_place (hr.mono (by decide)) (b_Line_place T) (da_cons (de_var 1) (da_nil))))
    (dss_cons (ds_expr (de_callK (K := K) rfl G_check_names (hr.mono (by decide)) rfl T.g_check_names T.F_check_names.kp (b_check_names T) (da_cons (de_var 0) (da_cons (de_var 2) (da_nil)))))
    (dss_cons (ds_if (dt_cmp (op_inK (K := K) rfl) lr_in (de_var 1) (de_var 2) rfl) (dss_one (ds_never)) (dss_nil))
    (dss_cons (ds_expr (de_callK (K := K) rfl G_check_stock (hr.mono (by decide)) rfl T.g_check_stock T.F_check_stock.kp (b_check_stock T) (da_cons (de_var 3) (da_nil))))
    (dss_one (ds_ret (de_itemK (K := K) rfl (de_fldK (K := K) rfl (de_makeK (K := K) rfl T.k_Giving G_Giving___init__ (hr.mono (by decide)) rfl T.g_Giving (b_Giving___init__ T) (da_cons (de_callK (K := K) rfl G_rows_of (hr.mono (by decide)) rfl T.g_rows_of T.F_rows_of.kp (b_rows_of T) (da_cons (de_var 0) (da_cons (de_addK (K := K) rfl (de_var 2) (de_lst (da_cons (de_var 1) (da_nil)))) (da_nil)))) (da_cons (de_callK (K := K) rfl G_mosts_of (hr.mono (by decide)) rfl T.g_mosts_of T.F_mosts_of.kp (b_mosts_of T) (da_cons (de_callK (K := K) rfl G_rows_of (hr.mono (by decide)) rfl T.g_rows_of T.F_rows_of.kp (b_rows_of T) (da_cons (de_var 0) (da_cons (de_addK (K := K) rfl (de_var 2) (de_lst (da_cons (de_var 1) (da_nil)))) (da_nil)))) (da_nil))) (da_cons (de_var 3) (da_nil)))))) (de_neg (de_int)))))))))⟩
theorem sc__law_lots_right : FnScope ["_law_purse_here", "_law_rows_here", "_law_line", "_law_stock_here", "_law_turn", "_law_some", "_law_names_here", "_law_last", "_law_elders", "_law_row", "_law_kept"] ["_law_purse_here", "_law_rows_here", "_law_line", "_law_stock_here"] (defScope (top 49)) := ⟨rfl, rfl, rfl, by decide +kernel, rfl, by decide +kernel, by decide +kernel⟩
theorem b__law_lots_right {K : PySem.W.Frag} {mg : Str → Option Value} (T : TX K mg) : Binds K T.fd__law_lots_right ["_law_purse_here", "_law_rows_here", "_law_line", "_law_stock_here"] [] := T.F__law_lots_right.bindsN fun _ _ _ _ _ _ us hl => match us, hl with | [_, _, _, _], _ => rfl
def t__law_lots_right_0 (K : PySem.W.Frag) (S_due : SpD) (S__law_most_of : SpD) (S_together : SpD) (S__law_shuffled : SpD) (S__law_draw : SpD) : TDS :=
  dIfS (dOr (dTest (dOp (streqR true) (dCB reprD (dCons (dCall S_due (dCons (dVar 2) (dCons (dOp ixR (dVar 6) (dUn (fun x m F => onI x fun i => F (.int (-i)) m) (dC (.int 1)))) (dCons (dVar 8) (dCons (dVar 3) (dNil)))))) (dNil))) (dCB reprD (dCons (dVar 7) (dNil))))) (dTest (dOp (eqR true) (dVar 8) (dVar 10)))) (dRet (dC (.bl false))) (dNext)
def t__law_lots_right_1 (K : PySem.W.Frag) (S_due : SpD) (S__law_most_of : SpD) (S_together : SpD) (S__law_shuffled : SpD) (S__law_draw : SpD) : TDS :=
  dAsg (dCB listR (dCons (dVar 8) (dNil))) (gN 10)
def t__law_lots_right_2 (K : PySem.W.Frag) (S_due : SpD) (S__law_most_of : SpD) (S_together : SpD) (S__law_shuffled : SpD) (S__law_draw : SpD) : TDS :=
  dFor (iL (dTup (dCons (dSl (dVar 6) (dNoPart) (dPart (dUn (fun x m F => onI x fun i => F (.int (-i)) m) (dC (.int 1))))) (dCons (dRev (dSl (dVar 6) (dNoPart) (dPart (dUn (fun x m F => onI x fun i => F (.int (-i)) m) (dC (.int 1)))))) (dNil))))) (gN 8) (dSeq ((t__law_lots_right_1 K S_due S__law_most_of S_together S__law_shuffled S__law_draw))
  ((t__law_lots_right_0 K S_due S__law_most_of S_together S__law_shuffled S__law_draw)))
def t__law_lots_right_3 (K : PySem.W.Frag) (S_due : SpD) (S__law_most_of : SpD) (S_together : SpD) (S__law_shuffled : SpD) (S__law_draw : SpD) : TDS :=
  dAsg (dOp (intR fun i j => .int (i - j)) (dCall S__law_most_of (dCons (dVar 5) (dCons (dVar 3) (dNil)))) (dCall S__law_most_of (dCons (dSl (dVar 5) (dNoPart) (dPart (dUn (fun x m F => onI x fun i => F (.int (-i)) m) (dC (.int 1))))) (dCons (dVar 3) (dNil))))) (gN 7)
def t__law_lots_right_4 (K : PySem.W.Frag) (S_due : SpD) (S__law_most_of : SpD) (S_together : SpD) (S__law_shuffled : SpD) (S__law_draw : SpD) : TDS :=
  dIfS (dTest (dOp (eqR true) (dVar 6) (dLst (dNil)))) (dSeq ((t__law_lots_right_3 K S_due S__law_most_of S_together S__law_shuffled S__law_draw))
  ((t__law_lots_right_2 K S_due S__law_most_of S_together S__law_shuffled S__law_draw))) (dNext)
def t__law_lots_right_5 (K : PySem.W.Frag) (S_due : SpD) (S__law_most_of : SpD) (S_together : SpD) (S__law_shuffled : SpD) (S__law_draw : SpD) : TDS :=
  dIfS (dTest (dOp (streqR true) (dCB reprD (dCons (dCall S_together (dCons (dVar 2) (dCons (dVar 6) (dCons (dVar 3) (dNil))))) (dNil))) (dCB reprD (dCons (dCall S__law_most_of (dCons (dVar 5) (dCons (dVar 3) (dNil)))) (dNil))))) (dRet (dC (.bl false))) (dNext)
def t__law_lots_right_6 (K : PySem.W.Frag) (S_due : SpD) (S__law_most_of : SpD) (S_together : SpD) (S__law_shuffled : SpD) (S__law_draw : SpD) : TDS :=
  dAsg (dLc (iL (dVar 5)) (gN 9) (dYes) (dOp ixR (dVar 9) (dC (.int 0))) [9]) (gN 6)
def t__law_lots_right_7 (K : PySem.W.Frag) (S_due : SpD) (S__law_most_of : SpD) (S_together : SpD) (S__law_shuffled : SpD) (S__law_draw : SpD) : TDS :=
  dAsg (dSl (dCall S__law_shuffled (dCons (dVar 0) (dCons (dVar 1) (dNil)))) (dNoPart) (dPart (dCall S__law_draw (dCons (dVar 0) (dCons (dOp addR (dCB lenR (dCons (dVar 1) (dNil))) (dC (.int 1))) (dNil)))))) (gN 5)
def t__law_lots_right_8 (K : PySem.W.Frag) (S_due : SpD) (S__law_most_of : SpD) (S_together : SpD) (S__law_shuffled : SpD) (S__law_draw : SpD) : TDS :=
  dFor (iR1 (dCons (dC (.int 3)) (dNil))) (gN 4) (dSeq ((t__law_lots_right_7 K S_due S__law_most_of S_together S__law_shuffled S__law_draw))
  (dSeq ((t__law_lots_right_6 K S_due S__law_most_of S_together S__law_shuffled S__law_draw))
  (dSeq ((t__law_lots_right_5 K S_due S__law_most_of S_together S__law_shuffled S__law_draw))
  ((t__law_lots_right_4 K S_due S__law_most_of S_together S__law_shuffled S__law_draw)))))
def t__law_lots_right (K : PySem.W.Frag) (S_due : SpD) (S__law_most_of : SpD) (S_together : SpD) (S__law_shuffled : SpD) (S__law_draw : SpD) : TDS :=
  dSeq ((t__law_lots_right_8 K S_due S__law_most_of S_together S__law_shuffled S__law_draw))
  (dRet (dC (.bl true)))
theorem der__law_lots_right {P : Program} {w : World} {K : PySem.W.Frag} {mg : Str → Option Value} {base : Heap} {S_due : SpD} {S__law_most_of : SpD} {S_together : SpD} {S__law_shuffled : SpD} {S__law_draw : SpD} (T : TX K mg) (G_due : FnOk P w K mg base CX0 7 (ga K "due") T.fd_due ["line", "name", "elders", "stock"] (spD K S_due)) (G__law_most_of : FnOk P w K mg base CX0 2 (ga K "_law_most_of") T.fd__law_most_of ["_law_rows_here", "_law_stock_here"] (spD K S__law_most_of)) (G_together : FnOk P w K mg base CX0 8 (ga K "together") T.fd_together ["line", "names", "stock"] (spD K S_together)) (G__law_shuffled : FnOk P w K mg base CX0 3 (ga K "_law_shuffled") T.fd__law_shuffled ["_law_purse_here", "_law_some"] (spD K S__law_shuffled)) (G__law_draw : FnOk P w K mg base CX0 2 (ga K "_law_draw") T.fd__law_draw ["_law_purse_here", "_law_many"] (spD K S__law_draw)) (cdv : Value) (A : Around) (outer : List Env) (s : Shared) (H : Hp) (E : XK) (hgu : (A.deeper (PyProof.Rows.envOfC "_law_lots_right" (defScope (top 49)) s.heap.objs.size (ga K "_law_lots_right") cdv)).guards = some []) (hr : Room 8 (A.deeper (PyProof.Rows.envOfC "_law_lots_right" (defScope (top 49)) s.heap.objs.size (ga K "_law_lots_right") cdv))) :
  ∃ ts, DSs (cxOf CX0 P w K mg base ["_law_purse_here", "_law_rows_here", "_law_line", "_law_stock_here", "_law_turn", "_law_some", "_law_names_here", "_law_last", "_law_elders", "_law_row", "_law_kept"] "_law_lots_right" (defScope (top 49)) (ga K "_law_lots_right") cdv A outer s H E).nox (defBody (top 49)) ts (t__law_lots_right K S_due S__law_most_of S_together S__law_shuffled S__law_draw) :=
  ⟨_, dss_cons (ds_for (di_range1 rfl T.n_range (da_cons (de_int) (da_nil))) (dg_name sc__law_lots_right.nd rfl (by first | exact Or.inl rfl | exact Or.inr rfl)) (dss_cons (ds_asg (de_sliceK (K := K) rfl (de_callK (K := K) rfl G__law_shuffled (hr.mono (by decide)) rfl T.g__law_shuffled T.F__law_shuffled.kp (b__law_shuffled T) (da_cons (de_var 0) (da_cons (de_var 1) (da_nil)))) (do_none) (do_some (de_callK (K := K) rfl G__law_draw (hr.mono (by decide)) rfl T.g__law_draw T.F__law_draw.kp (b__law_draw T) (da_cons (de_var 0) (da_cons (de_addK (K := K) rfl (de_callB (call_lenK (K := K) rfl) lr_len rfl T.n_len bt_len (da_cons (de_var 1) (da_nil))) (de_int)) (da_nil)))))) (dg_name sc__law_lots_right.nd rfl (by first | exact Or.inl rfl | exact Or.inr rfl)))
    (dss_cons (ds_setLcV [("_law_row", 9)] rfl (di_listK (K := K) rfl (de_var 5)) (blkOk_by (N := ["_law_purse_here", "_law_rows_here", "_law_line", "_law_stock_here", "_law_turn", "_law_some", "_law_names_here", "_law_last", "_law_elders", "_law_row", "_law_kept"]) (sc := (defScope (top 49))) (by decide +kernel)) (gw_name (by decide)) (fun _ _ _ _ _ => dg_name sc__law_lots_right.nd rfl (by first | exact Or.inl rfl | exact Or.inr rfl)) (fun _ _ _ _ _ => dts_nil) (fun _ _ _ _ _ => de_itemK (K := K) rfl (de_var 9) (de_int)) sc__law_lots_right.nd rfl rfl (sw_true rfl rfl rfl (by decide +kernel)))
    (dss_cons (ds_if (dt_cmp op_ne lr_strne (de_callB (cr_reprK (K := K) rfl hgu (room66 hr)) lr_reprD rfl T.n_repr bt_repr (da_cons (de_callK (K := K) rfl G_together (hr.mono (by decide)) rfl T.g_together T.F_together.kp (b_together T) (da_cons (de_var 2) (da_cons (de_var 6) (da_cons (de_var 3) (da_nil))))) (da_nil))) (de_callB (cr_reprK (K := K) rfl hgu (room66 hr)) lr_reprD rfl T.n_repr bt_repr (da_cons (de_callK (K := K) rfl G__law_most_of (hr.mono (by decide)) rfl T.g__law_most_of T.F__law_most_of.kp (b__law_most_of T) (da_cons (de_var 5) (da_cons (de_var 3) (da_nil)))) (da_nil))) rfl) (dss_one (ds_ret (de_bl))) (dss_nil))
    (dss_one (ds_if (dt_cmp (op_neK (K := K) rfl hr.units) lr_ne (de_var 6) (de_lst (da_nil)) rfl) (dss_cons (ds_asg (de_sub (de_callK (K := K) rfl G__law_most_of (hr.mono (by decide)) rfl T.g__law_most_of T.F__law_most_of.kp (b__law_most_of T) (da_cons (de_var 5) (da_cons (de_var 3) (da_nil)))) (de_callK (K := K) rfl G__law_most_of (hr.mono (by decide)) rfl T.g__law_most_of T.F__law_most_of.kp (b__law_most_of T) (da_cons (de_sliceK (K := K) rfl (de_var 5) (do_none) (do_some (de_neg (de_int)))) (da_cons (de_var 3) (da_nil))))) (dg_name sc__law_lots_right.nd rfl (by first | exact Or.inl rfl | exact Or.inr rfl)))
    (dss_one (ds_for (di_listK (K := K) rfl (de_tup (da_cons (de_sliceK (K := K) rfl (de_var 6) (do_none) (do_some (de_neg (de_int)))) (da_cons (de_revK (K := K) rfl (de_sliceK (K := K) rfl (de_var 6) (do_none) (do_some (de_neg (de_int))))) (da_nil))))) (dg_name sc__law_lots_right.nd rfl (by first | exact Or.inl rfl | exact Or.inr rfl)) (dss_cons (ds_asg (de_callTy (call_listK (K := K) rfl) lr_list rfl T.n_list bt_list (da_cons (de_var 8) (da_nil))) (dg_name sc__law_lots_right.nd rfl (by first | exact Or.inl rfl | exact Or.inr rfl)))
    (dss_one (ds_if (DW.dt (dw_or (dt_cmp op_ne lr_strne (de_callB (cr_reprK (K := K) rfl hgu (room66 hr)) lr_reprD rfl T.n_repr bt_repr (da_cons (de_callK (K := K) rfl G_due (hr.mono (by decide)) rfl T.g_due T.F_due.kp (b_due T) (da_cons (de_var 2) (da_cons (de_itemK (K := K) rfl (de_var 6) (de_neg (de_int))) (da_cons (de_var 8) (da_cons (de_var 3) (da_nil)))))) (da_nil))) (de_callB (cr_reprK (K := K) rfl hgu (room66 hr)) lr_reprD rfl T.n_repr bt_repr (da_cons (de_var 7) (da_nil))) rfl) (dw_or1 (dt_cmp (op_neK (K := K) rfl hr.units) lr_ne (de_var 8) (de_var 10) rfl)))) (dss_one (ds_ret (de_bl))) (dss_nil))))))) (dss_nil)))))))
    (dss_one (ds_ret (de_bl)))⟩
theorem sc__law_right : FnScope ["_law_purse_here", "_law_rows_here", "_law_stock_here", "_law_told", "_law_more", "_law_line", "_law_noted", "_law_word_here"] ["_law_purse_here", "_law_rows_here", "_law_stock_here"] (defScope (top 50)) := ⟨rfl, rfl, rfl, by decide +kernel, rfl, by decide +kernel, by decide +kernel⟩
theorem b__law_right {K : PySem.W.Frag} {mg : Str → Option Value} (T : TX K mg) : Binds K T.fd__law_right ["_law_purse_here", "_law_rows_here", "_law_stock_here"] [] := T.F__law_right.bindsN fun _ _ _ _ _ _ us hl => match us, hl with | [_, _, _], _ => rfl
def t__law_right_0 (K : PySem.W.Frag) (S_deal : SpD) (S__law_dealt : SpD) (S__law_lots_right : SpD) (S__law_line_of : SpD) : TDS :=
  dRet (dOp (eqR false) (dCall S_deal (dCons (dVar 5) (dCons (dVar 2) (dNil)))) (dSl (dVar 3) (dNoPart) (dPart (dUn (fun x m F => onI x fun i => F (.int (-i)) m) (dC (.int 1))))))
def t__law_right_1 (K : PySem.W.Frag) (S_deal : SpD) (S__law_dealt : SpD) (S__law_lots_right : SpD) (S__law_line_of : SpD) : TDS :=
  dDrop (dBm appR (dVar 3) (dCons (dTup (dCons (dC (.str "changed")) (dCons (dC (.int 1)) (dNil)))) (dNil)))
def t__law_right_2 (K : PySem.W.Frag) (S_deal : SpD) (S__law_dealt : SpD) (S__law_lots_right : SpD) (S__law_line_of : SpD) : TDS :=
  dIfS (dOr (dTest (dOp (eqR true) (dCall S_deal (dCons (dVar 5) (dCons (dVar 4) (dNil)))) (dVar 3))) (dTest (dOp (streqR true) (dCB reprXR (dCons (dVar 2) (dNil))) (dVar 6)))) (dRet (dC (.bl false))) (dNext)
def t__law_right_3 (K : PySem.W.Frag) (S_deal : SpD) (S__law_dealt : SpD) (S__law_lots_right : SpD) (S__law_line_of : SpD) : TDS :=
  dDPut (dVar 4) (dOp ixR (dLc (iL (dTup (dCons (dC (.str "nosuch")) (dCons (dC (.str "nokind")) (dNil))))) (gN 7) (dTest (dDIn true (dVar 7) (dVar 2))) (dVar 7) [7]) (dC (.int 0))) (dC (.int 0))
def t__law_right_4 (K : PySem.W.Frag) (S_deal : SpD) (S__law_dealt : SpD) (S__law_lots_right : SpD) (S__law_line_of : SpD) : TDS :=
  dAsg (dCB dictDR (dCons (dVar 2) (dNil))) (gN 4)
def t__law_right_5 (K : PySem.W.Frag) (S_deal : SpD) (S__law_dealt : SpD) (S__law_lots_right : SpD) (S__law_line_of : SpD) : TDS :=
  dIfS (dOr (dTest (dOp (streqR true) (dCB reprD (dCons (dVar 3) (dNil))) (dCB reprD (dCons (dCall S__law_dealt (dCons (dVar 1) (dCons (dVar 2) (dNil)))) (dNil))))) (dNot (dTest (dCall S__law_lots_right (dCons (dVar 0) (dCons (dVar 1) (dCons (dVar 5) (dCons (dVar 2) (dNil))))))))) (dRet (dC (.bl false))) (dNext)
def t__law_right_6 (K : PySem.W.Frag) (S_deal : SpD) (S__law_dealt : SpD) (S__law_lots_right : SpD) (S__law_line_of : SpD) : TDS :=
  dAsg (dCall S_deal (dCons (dVar 5) (dCons (dVar 2) (dNil)))) (gN 3)
def t__law_right_7 (K : PySem.W.Frag) (S_deal : SpD) (S__law_dealt : SpD) (S__law_lots_right : SpD) (S__law_line_of : SpD) : TDS :=
  dPar 5 6 (dCons (dCall S__law_line_of (dCons (dVar 1) (dNil))) (dCons (dCB reprXR (dCons (dVar 2) (dNil))) (dNil)))
def t__law_right (K : PySem.W.Frag) (S_deal : SpD) (S__law_dealt : SpD) (S__law_lots_right : SpD) (S__law_line_of : SpD) : TDS :=
  dSeq ((t__law_right_7 K S_deal S__law_dealt S__law_lots_right S__law_line_of))
  (dSeq ((t__law_right_6 K S_deal S__law_dealt S__law_lots_right S__law_line_of))
  (dSeq ((t__law_right_5 K S_deal S__law_dealt S__law_lots_right S__law_line_of))
  (dSeq ((t__law_right_4 K S_deal S__law_dealt S__law_lots_right S__law_line_of))
  (dSeq ((t__law_right_3 K S_deal S__law_dealt S__law_lots_right S__law_line_of))
  (dSeq ((t__law_right_2 K S_deal S__law_dealt S__law_lots_right S__law_line_of))
  (dSeq ((t__law_right_1 K S_deal S__law_dealt S__law_lots_right S__law_line_of))
  ((t__law_right_0 K S_deal S__law_dealt S__law_lots_right S__law_line_of))))))))
theorem der__law_right {P : Program} {w : World} {K : PySem.W.Frag} {mg : Str → Option Value} {base : Heap} {S_deal : SpD} {S__law_dealt : SpD} {S__law_lots_right : SpD} {S__law_line_of : SpD} (T : TX K mg) (G_deal : FnOk P w K mg base CX0 9 (ga K "deal") T.fd_deal ["line", "stock"] (spD K S_deal)) (G__law_dealt : FnOk P w K mg base CX0 3 (ga K "_law_dealt") T.fd__law_dealt ["_law_rows_here", "_law_stock_here"] (spD K S__law_dealt)) (G__law_lots_right : FnG P w K mg base 9 (ga K "_law_lots_right") T.fd__law_lots_right ["_law_purse_here", "_law_rows_here", "_law_line", "_law_stock_here"] (spD K S__law_lots_right)) (G__law_line_of : FnOk P w K mg base CX0 5 (ga K "_law_line_of") T.fd__law_line_of ["_law_rows_here"] (spD K S__law_line_of)) (cdv : Value) (A : Around) (outer : List Env) (s : Shared) (H : Hp) (E : XK) (hgu : (A.deeper (PyProof.Rows.envOfC "_law_right" (defScope (top 50)) s.heap.objs.size (ga K "_law_right") cdv)).guards = some []) (hr : Room 9 (A.deeper (PyProof.Rows.envOfC "_law_right" (defScope (top 50)) s.heap.objs.size (ga K "_law_right") cdv))) :
  ∃ ts, DSs (cxOf CX0 P w K mg base ["_law_purse_here", "_law_rows_here", "_law_stock_here", "_law_told", "_law_more", "_law_line", "_law_noted", "_law_word_here"] "_law_right" (defScope (top 50)) (ga K "_law_right") cdv A outer s H E).nox (defBody (top 50)) ts (t__law_right K S_deal S__law_dealt S__law_lots_right S__law_line_of) :=
  ⟨_, dss_cons (ds_par sc__law_right.nd rfl rfl (by decide) rfl rfl (da_cons (de_callK (K := K) rfl G__law_line_of (hr.mono (by decide)) rfl T.g__law_line_of T.F__law_line_of.kp (b__law_line_of T) (da_cons (de_var 1) (da_nil))) (da_cons (de_callB (cr_reprX hgu (room66 hr)) lr_reprX rfl T.n_repr bt_repr (da_cons (de_var 2) (da_nil))) (da_nil))) rfl)
    (dss_cons (ds_asg (de_callK (K := K) rfl G_deal (hr.mono (by decide)) rfl T.g_deal T.F_deal.kp (b_deal T) (da_cons (de_var 5) (da_cons (de_var 2) (da_nil)))) (dg_name sc__law_right.nd rfl (by first | exact Or.inl rfl | exact Or.inr rfl)))
    (dss_cons (ds_if (DW.dt (dw_or (dt_cmp op_ne lr_strne (de_callB (cr_reprK (K := K) rfl hgu (room66 hr)) lr_reprD rfl T.n_repr bt_repr (da_cons (de_var 3) (da_nil))) (de_callB (cr_reprK (K := K) rfl hgu (room66 hr)) lr_reprD rfl T.n_repr bt_repr (da_cons (de_callK (K := K) rfl G__law_dealt (hr.mono (by decide)) rfl T.g__law_dealt T.F__law_dealt.kp (b__law_dealt T) (da_cons (de_var 1) (da_cons (de_var 2) (da_nil)))) (da_nil))) rfl) (dw_or1 (dt_not (dt_val (de_callGK (K := K) rfl G__law_lots_right hgu (hr.mono (by decide)) rfl T.g__law_lots_right T.F__law_lots_right.kp (b__law_lots_right T) (da_cons (de_var 0) (da_cons (de_var 1) (da_cons (de_var 5) (da_cons (de_var 2) (da_nil))))))))))) (dss_one (ds_ret (de_bl))) (dss_nil))
    (dss_cons (ds_asg (de_callTy call_dictD lr_dictD rfl T.n_dict bt_dict (da_cons (de_var 2) (da_nil))) (dg_name sc__law_right.nd rfl (by first | exact Or.inl rfl | exact Or.inr rfl)))
    (dss_cons (ds_dput (room1 hr) (de_var 4) (de_itemK (K := K) rfl (de_lcV [("_law_word_here", 7)] rfl (di_listK (K := K) rfl (de_tup (da_cons (de_str) (da_cons (de_str) (da_nil))))) (blkOk_by (N := ["_law_purse_here", "_law_rows_here", "_law_stock_here", "_law_told", "_law_more", "_law_line", "_law_noted", "_law_word_here"]) (sc := (defScope (top 50))) (by decide +kernel)) (gw_name (by decide)) (fun _ _ _ _ _ => dg_name sc__law_right.nd rfl (by first | exact Or.inl rfl | exact Or.inr rfl)) (fun _ _ _ _ _ => dts_one (dt_dnotin (room1 hr) (de_var 7) (de_var 2))) (fun _ _ _ _ _ => de_var 7) sc__law_right.nd) (de_int)) (de_int))
    (dss_cons (ds_if (DW.dt (dw_or (dt_cmp (op_neK (K := K) rfl hr.units) lr_ne (de_callK (K := K) rfl G_deal (hr.mono (by decide)) rfl T.g_deal T.F_deal.kp (b_deal T) (da_cons (de_var 5) (da_cons (de_var 4) (da_nil)))) (de_var 3) rfl) (dw_or1 (dt_cmp op_ne lr_strne (de_callB (cr_reprX hgu (room66 hr)) lr_reprX rfl T.n_repr bt_repr (da_cons (de_var 2) (da_nil))) (de_var 6) rfl)))) (dss_one (ds_ret (de_bl))) (dss_nil))
    (dss_cons (ds_expr (de_bmK (K := K) rfl PySem.F.slot_list_append PySem.F.type_list_append mt_append lr_app (de_var 3) (da_cons (de_tup (da_cons (de_str) (da_cons (de_int) (da_nil)))) (da_nil))))
    (dss_one (ds_ret (de_cmp (op_eqK (K := K) rfl hr.units) lr_eq (de_callK (K := K) rfl G_deal (hr.mono (by decide)) rfl T.g_deal T.F_deal.kp (b_deal T) (da_cons (de_var 5) (da_cons (de_var 2) (da_nil)))) (de_sliceK (K := K) rfl (de_var 3) (do_none) (do_some (de_neg (de_int)))) rfl)))))))))⟩
theorem sc_law : FnScope ["_law_script", "_law_purse_here", "_law_kinds_here", "_law_line", "_law_kind", "_law_turned", "_law_rows_here", "_law_stock_here"] ["_law_script"] (defScope (top 51)) := ⟨rfl, rfl, rfl, by decide +kernel, rfl, by decide +kernel, by decide +kernel⟩
theorem b_law {K : PySem.W.Frag} {mg : Str → Option Value} (T : TX K mg) : Binds K T.fd_law ["_law_script"] [] := T.F_law.bindsN fun _ _ _ _ _ _ us hl => match us, hl with | [_], _ => rfl
def t_law_0 (K : PySem.W.Frag) (S__law_purses : SpD) (S__law_right : SpD) (S__law_shuffled : SpD) (S_deal : SpD) (S__law_dealt : SpD) (S__law_one_of : SpD) (S__law_line_of : SpD) (S__law_rows : SpD) (S__law_stock : SpD) (S__law_kinds : SpD) : TDS :=
  dIfS (dNot (dTest (dCall S__law_right (dCons (dVar 1) (dCons (dVar 5) (dCons (dVar 7) (dNil))))))) (dRet (dC (.bl false))) (dNext)
def t_law_1 (K : PySem.W.Frag) (S__law_purses : SpD) (S__law_right : SpD) (S__law_shuffled : SpD) (S_deal : SpD) (S__law_dealt : SpD) (S__law_one_of : SpD) (S__law_line_of : SpD) (S__law_rows : SpD) (S__law_stock : SpD) (S__law_kinds : SpD) : TDS :=
  dAsg (dCall S__law_shuffled (dCons (dVar 1) (dCons (dVar 6) (dNil)))) (gN 5)
def t_law_2 (K : PySem.W.Frag) (S__law_purses : SpD) (S__law_right : SpD) (S__law_shuffled : SpD) (S_deal : SpD) (S__law_dealt : SpD) (S__law_one_of : SpD) (S__law_line_of : SpD) (S__law_rows : SpD) (S__law_stock : SpD) (S__law_kinds : SpD) : TDS :=
  dIfS (dTest (dOp (eqR true) (dCall S_deal (dCons (dVar 3) (dCons (dVar 7) (dNil)))) (dCall S__law_dealt (dCons (dVar 6) (dCons (dVar 7) (dNil)))))) (dRet (dC (.bl false))) (dNext)
def t_law_3 (K : PySem.W.Frag) (S__law_purses : SpD) (S__law_right : SpD) (S__law_shuffled : SpD) (S_deal : SpD) (S__law_dealt : SpD) (S__law_one_of : SpD) (S__law_line_of : SpD) (S__law_rows : SpD) (S__law_stock : SpD) (S__law_kinds : SpD) : TDS :=
  dDPut (dVar 7) (dVar 4) (dCall S__law_one_of (dCons (dVar 1) (dCons (dLst (dCons (dC (.int 0)) (dCons (dOp addR (dDGet (dVar 7) (dVar 4)) (dC (.int 1))) (dCons (dOp (intRc CPowW fun i j => .int (i ^ j.toNat)) (dC (.int 10)) (dC (.int 29))) (dNil))))) (dNil))))
def t_law_4 (K : PySem.W.Frag) (S__law_purses : SpD) (S__law_right : SpD) (S__law_shuffled : SpD) (S_deal : SpD) (S__law_dealt : SpD) (S__law_one_of : SpD) (S__law_line_of : SpD) (S__law_rows : SpD) (S__law_stock : SpD) (S__law_kinds : SpD) : TDS :=
  dFor (iL (dVar 2)) (gN 4) (dSeq ((t_law_3 K S__law_purses S__law_right S__law_shuffled S_deal S__law_dealt S__law_one_of S__law_line_of S__law_rows S__law_stock S__law_kinds))
  ((t_law_2 K S__law_purses S__law_right S__law_shuffled S_deal S__law_dealt S__law_one_of S__law_line_of S__law_rows S__law_stock S__law_kinds)))
def t_law_5 (K : PySem.W.Frag) (S__law_purses : SpD) (S__law_right : SpD) (S__law_shuffled : SpD) (S_deal : SpD) (S__law_dealt : SpD) (S__law_one_of : SpD) (S__law_line_of : SpD) (S__law_rows : SpD) (S__law_stock : SpD) (S__law_kinds : SpD) : TDS :=
  dAsg (dCall S__law_line_of (dCons (dVar 6) (dNil))) (gN 3)
def t_law_6 (K : PySem.W.Frag) (S__law_purses : SpD) (S__law_right : SpD) (S__law_shuffled : SpD) (S_deal : SpD) (S__law_dealt : SpD) (S__law_one_of : SpD) (S__law_line_of : SpD) (S__law_rows : SpD) (S__law_stock : SpD) (S__law_kinds : SpD) : TDS :=
  dIfS (dNot (dTest (dCall S__law_right (dCons (dVar 1) (dCons (dVar 6) (dCons (dVar 7) (dNil))))))) (dRet (dC (.bl false))) (dNext)
def t_law_7 (K : PySem.W.Frag) (S__law_purses : SpD) (S__law_right : SpD) (S__law_shuffled : SpD) (S_deal : SpD) (S__law_dealt : SpD) (S__law_one_of : SpD) (S__law_line_of : SpD) (S__law_rows : SpD) (S__law_stock : SpD) (S__law_kinds : SpD) : TDS :=
  dPar 6 7 (dCons (dCall S__law_rows (dCons (dVar 1) (dCons (dVar 2) (dCons (dC (.int 5)) (dNil))))) (dCons (dCall S__law_stock (dCons (dVar 1) (dCons (dVar 2) (dNil)))) (dNil)))
def t_law_8 (K : PySem.W.Frag) (S__law_purses : SpD) (S__law_right : SpD) (S__law_shuffled : SpD) (S_deal : SpD) (S__law_dealt : SpD) (S__law_one_of : SpD) (S__law_line_of : SpD) (S__law_rows : SpD) (S__law_stock : SpD) (S__law_kinds : SpD) : TDS :=
  dAsg (dCall S__law_kinds (dCons (dVar 1) (dCons (dC (.int 3)) (dNil)))) (gN 2)
def t_law_9 (K : PySem.W.Frag) (S__law_purses : SpD) (S__law_right : SpD) (S__law_shuffled : SpD) (S_deal : SpD) (S__law_dealt : SpD) (S__law_one_of : SpD) (S__law_line_of : SpD) (S__law_rows : SpD) (S__law_stock : SpD) (S__law_kinds : SpD) : TDS :=
  dFor (iL (dCall S__law_purses (dCons (dVar 0) (dCons (dC (.int 2)) (dNil))))) (gN 1) (dSeq ((t_law_8 K S__law_purses S__law_right S__law_shuffled S_deal S__law_dealt S__law_one_of S__law_line_of S__law_rows S__law_stock S__law_kinds))
  (dSeq ((t_law_7 K S__law_purses S__law_right S__law_shuffled S_deal S__law_dealt S__law_one_of S__law_line_of S__law_rows S__law_stock S__law_kinds))
  (dSeq ((t_law_6 K S__law_purses S__law_right S__law_shuffled S_deal S__law_dealt S__law_one_of S__law_line_of S__law_rows S__law_stock S__law_kinds))
  (dSeq ((t_law_5 K S__law_purses S__law_right S__law_shuffled S_deal S__law_dealt S__law_one_of S__law_line_of S__law_rows S__law_stock S__law_kinds))
  (dSeq ((t_law_4 K S__law_purses S__law_right S__law_shuffled S_deal S__law_dealt S__law_one_of S__law_line_of S__law_rows S__law_stock S__law_kinds))
  (dSeq ((t_law_1 K S__law_purses S__law_right S__law_shuffled S_deal S__law_dealt S__law_one_of S__law_line_of S__law_rows S__law_stock S__law_kinds))
  ((t_law_0 K S__law_purses S__law_right S__law_shuffled S_deal S__law_dealt S__law_one_of S__law_line_of S__law_rows S__law_stock S__law_kinds))))))))
def t_law (K : PySem.W.Frag) (S__law_purses : SpD) (S__law_right : SpD) (S__law_shuffled : SpD) (S_deal : SpD) (S__law_dealt : SpD) (S__law_one_of : SpD) (S__law_line_of : SpD) (S__law_rows : SpD) (S__law_stock : SpD) (S__law_kinds : SpD) : TDS :=
  dSeq ((t_law_9 K S__law_purses S__law_right S__law_shuffled S_deal S__law_dealt S__law_one_of S__law_line_of S__law_rows S__law_stock S__law_kinds))
  (dRet (dC (.bl true)))
theorem der_law {P : Program} {w : World} {K : PySem.W.Frag} {mg : Str → Option Value} {base : Heap} {S__law_purses : SpD} {S__law_right : SpD} {S__law_shuffled : SpD} {S_deal : SpD} {S__law_dealt : SpD} {S__law_one_of : SpD} {S__law_line_of : SpD} {S__law_rows : SpD} {S__law_stock : SpD} {S__law_kinds : SpD} (T : TX K mg) (G__law_purses : FnOk P w K mg base CX0 2 (ga K "_law_purses") T.fd__law_purses ["_law_script", "_law_few"] (spD K S__law_purses)) (G__law_right : FnG P w K mg base 10 (ga K "_law_right") T.fd__law_right ["_law_purse_here", "_law_rows_here", "_law_stock_here"] (spD K S__law_right)) (G__law_shuffled : FnOk P w K mg base CX0 3 (ga K "_law_shuffled") T.fd__law_shuffled ["_law_purse_here", "_law_some"] (spD K S__law_shuffled)) (G_deal : FnOk P w K mg base CX0 9 (ga K "deal") T.fd_deal ["line", "stock"] (spD K S_deal)) (G__law_dealt : FnOk P w K mg base CX0 3 (ga K "_law_dealt") T.fd__law_dealt ["_law_rows_here", "_law_stock_here"] (spD K S__law_dealt)) (G__law_one_of : FnOk P w K mg base CX0 3 (ga K "_law_one_of") T.fd__law_one_of ["_law_purse_here", "_law_some"] (spD K S__law_one_of)) (G__law_line_of : FnOk P w K mg base CX0 5 (ga K "_law_line_of") T.fd__law_line_of ["_law_rows_here"] (spD K S__law_line_of)) (G__law_rows : FnOk P w K mg base CX0 5 (ga K "_law_rows") T.fd__law_rows ["_law_purse_here", "_law_kinds_here", "_law_few"] (spD K S__law_rows)) (G__law_stock : FnOk P w K mg base CX0 5 (ga K "_law_stock") T.fd__law_stock ["_law_purse_here", "_law_kinds_here"] (spD K S__law_stock)) (G__law_kinds : FnOk P w K mg base CX0 4 (ga K "_law_kinds") T.fd__law_kinds ["_law_purse_here", "_law_many"] (spD K S__law_kinds)) (cdv : Value) (A : Around) (outer : List Env) (s : Shared) (H : Hp) (E : XK) (hgu : (A.deeper (PyProof.Rows.envOfC "law" (defScope (top 51)) s.heap.objs.size (ga K "law") cdv)).guards = some []) (hr : Room 10 (A.deeper (PyProof.Rows.envOfC "law" (defScope (top 51)) s.heap.objs.size (ga K "law") cdv))) :
  ∃ ts, DSs (cxOf CX0 P w K mg base ["_law_script", "_law_purse_here", "_law_kinds_here", "_law_line", "_law_kind", "_law_turned", "_law_rows_here", "_law_stock_here"] "law" (defScope (top 51)) (ga K "law") cdv A outer s H E).nox (defBody (top 51)) ts (t_law K S__law_purses S__law_right S__law_shuffled S_deal S__law_dealt S__law_one_of S__law_line_of S__law_rows S__law_stock S__law_kinds) :=
  ⟨_, dss_cons (ds_for (di_listK (K := K) rfl (de_callK (K := K) rfl G__law_purses (hr.mono (by decide)) rfl T.g__law_purses T.F__law_purses.kp (b__law_purses T) (da_cons (de_var 0) (da_cons (de_int) (da_nil))))) (dg_name sc_law.nd rfl (by first | exact Or.inl rfl | exact Or.inr rfl)) (dss_cons (ds_asg (de_callK (K := K) rfl G__law_kinds (hr.mono (by decide)) rfl T.g__law_kinds T.F__law_kinds.kp (b__law_kinds T) (da_cons (de_var 1) (da_cons (de_int) (da_nil)))) (dg_name sc_law.nd rfl (by first | exact Or.inl rfl | exact Or.inr rfl)))
    (dss_cons (ds_par sc_law.nd rfl rfl (by decide) rfl rfl (da_cons (de_callK (K := K) rfl G__law_rows (hr.mono (by decide)) rfl T.g__law_rows T.F__law_rows.kp (b__law_rows T) (da_cons (de_var 1) (da_cons (de_var 2) (da_cons (de_int) (da_nil))))) (da_cons (de_callK (K := K) rfl G__law_stock (hr.mono (by decide)) rfl T.g__law_stock T.F__law_stock.kp (b__law_stock T) (da_cons (de_var 1) (da_cons (de_var 2) (da_nil)))) (da_nil))) rfl)
    (dss_cons (ds_if (dt_not (dt_val (de_callGK (K := K) rfl G__law_right hgu (hr.mono (by decide)) rfl T.g__law_right T.F__law_right.kp (b__law_right T) (da_cons (de_var 1) (da_cons (de_var 6) (da_cons (de_var 7) (da_nil))))))) (dss_one (ds_ret (de_bl))) (dss_nil))
    (dss_cons (ds_asg (de_callK (K := K) rfl G__law_line_of (hr.mono (by decide)) rfl T.g__law_line_of T.F__law_line_of.kp (b__law_line_of T) (da_cons (de_var 6) (da_nil))) (dg_name sc_law.nd rfl (by first | exact Or.inl rfl | exact Or.inr rfl)))
    (dss_cons (ds_for (di_listK (K := K) rfl (de_var 2)) (dg_name sc_law.nd rfl (by first | exact Or.inl rfl | exact Or.inr rfl)) (dss_cons (ds_dput (room1 hr) (de_var 7) (de_var 4) (de_callK (K := K) rfl G__law_one_of (hr.mono (by decide)) rfl T.g__law_one_of T.F__law_one_of.kp (b__law_one_of T) (da_cons (de_var 1) (da_cons (de_lst (da_cons (de_int) (da_cons (de_addK (K := K) rfl (de_dget (room1 hr) (de_var 7) (de_var 4)) (de_int)) (da_cons (de_pow (de_int) (de_int)) (da_nil))))) (da_nil)))))
    (dss_one (ds_if (dt_cmp (op_neK (K := K) rfl hr.units) lr_ne (de_callK (K := K) rfl G_deal (hr.mono (by decide)) rfl T.g_deal T.F_deal.kp (b_deal T) (da_cons (de_var 3) (da_cons (de_var 7) (da_nil)))) (de_callK (K := K) rfl G__law_dealt (hr.mono (by decide)) rfl T.g__law_dealt T.F__law_dealt.kp (b__law_dealt T) (da_cons (de_var 6) (da_cons (de_var 7) (da_nil)))) rfl) (dss_one (ds_ret (de_bl))) (dss_nil)))))
    (dss_cons (ds_asg (de_callK (K := K) rfl G__law_shuffled (hr.mono (by decide)) rfl T.g__law_shuffled T.F__law_shuffled.kp (b__law_shuffled T) (da_cons (de_var 1) (da_cons (de_var 6) (da_nil)))) (dg_name sc_law.nd rfl (by first | exact Or.inl rfl | exact Or.inr rfl)))
    (dss_one (ds_if (dt_not (dt_val (de_callGK (K := K) rfl G__law_right hgu (hr.mono (by decide)) rfl T.g__law_right T.F__law_right.kp (b__law_right T) (da_cons (de_var 1) (da_cons (de_var 5) (da_cons (de_var 7) (da_nil))))))) (dss_one (ds_ret (de_bl))) (dss_nil))))))))))
    (dss_one (ds_ret (de_bl)))⟩
end K10

namespace K10
open PySem L2 DL DM HL
local macro_rules | `(tactic| walk_at "nf") => `(tactic| try simp only [dSeq, dIfS, dOr, dAnd, dNot, dTest, dCB, dCons, dNil, dVar, dC, dRet, dRetN, dNext, dAsg, gN, gt2, dOp, dUn, dAndV, dOrV, dNotV, dIf, dLst, dTup, dCall, dMeth, dProp, dMake, dFld, dSl, dPart, dNoPart, dDrop, dPar, dPar3, dBm, dRev, dSetF, dBits, gSet, gTup', gCons', gNil', dDGet, dDIn, dDGet2, dDGet1, dDPut, dNewK, dNewT, iL_eq, iEn, on1, on2, onO_some, addI, subI, intC, onI_i, onS_s, onB_b, iT, iR1, iR2, dLc, dFor, lcBody, dLc2_eq, lcBody2, dDc, dcBody, dYes, wipeD, atE, startD, List.map_cons, List.map_nil, List.length_cons, List.length_nil, List.cons_append, List.nil_append, List.replicate, List.getElem?_cons_zero, List.getElem?_cons_succ, List.set_cons_zero, List.set_cons_succ, Nat.reduceSub, Nat.reduceAdd, Nat.reduceEqDiff, if_true, if_false])
theorem TX.hf {K : PySem.W.Frag} {mg : Str → Option Value} (T : TX K mg) : HF K := ⟨T.c_Asker, T.i_Asker, T.f_Asker_row, T.t_Asker_Asker, T.t_Asker_Line, T.t_Line_Asker, T.c_Line, T.i_Line, T.f_Line_all, T.f_Line_every, T.t_Line_Line⟩
theorem TX.hg {K : PySem.W.Frag} {mg : Str → Option Value} (T : TX K mg) : HFG K := ⟨T.c_Giving, T.f_Giving_rows, T.f_Giving_wants, T.f_Giving_free, T.f_Giving_holds, T.f_Giving_got⟩
def S_law_lots_right (K : PySem.W.Frag) : SpD := fun ds m F => ∃ (k : Nat) (o : MO) (B : Nat) (rows : List Ak) (ks : Nat) (s : Stk), ds = [.ref k, .lst (rows.map rowL), LnD K (rows.map srt), .ref ks] ∧ Pu m k B o ∧ B + 100000 ≤ 2 ^ 59 ∧ m ks = some (.dK (stk s)) ∧ ks ≠ k ∧ (LrOk rows ∧ StOk s) ∧ ∀ o', PurO (B + 5000) o' → F (.bl true) (mset m k o')
theorem pure_law_lots_right {K : PySem.W.Frag} (ds : List D) (m : Mu) (G : DK) (h : S_law_lots_right K ds m G) : t__law_lots_right K (S_due K) S_law_most_of (S_together K) S_law_shuffled S_law_draw { nx := fun _ m' => Fin G .non m', rt := Fin G } (startD 11 ds) m := by
  obtain ⟨k, o, B, rows, ks, s, rfl, p, hB, hks, hne, ⟨ok, sok⟩, h⟩ := h
  have ln := ok.ln
  have s0 := sv_nn sok.nn
  unfold t__law_lots_right
  refine seq_nx ?_
  unfold t__law_lots_right_8
  walk_at "nf"
  refine And.intro ⟨by decide, by decide⟩ ?_
  show forRun _ _ (rangeD 0 3) _ m _
  rw [HL.range_map]
  refine for_inv (fun i ρ m' => ∃ (o' : MO) (x4 x5 x6 x7 x8 x9 x10 : Option D), m' = mset m k o' ∧ ρ = [some (.ref k), some (.lst (rows.map rowL)), some (LnD K (rows.map srt)), some (.ref ks), x4, x5, x6, x7, x8, x9, x10] ∧ PurO (B + 1000 * i) o') ⟨o, none, none, none, none, none, none, none, (mset_id p.at_).symm, rfl, p.ok⟩ (fun _ _ _ _ => trivial) (fun i d ρ m' ei pp k2 hk2 => ?_) fun ρ m' pp => ?_
  · obtain ⟨o', x4, x5, x6, x7, x8, x9, x10, rfl, rfl, ho'⟩ := pp
    have hi := (List.getElem?_eq_some_iff.mp ei).1
    rw [List.length_map, List.length_range] at hi
    have hksM : ∀ o, mset m k o ks = some (.dK (stk s)) := fun o => by rw [mset_ne hne]; exact hks
    have pu : Pu (mset m k o') k (B + 1000 * i) o' := ⟨mset_same, ho', by omega⟩
    unfold t__law_lots_right_7
    walk_at "nf"
    refine ⟨k, o', _, rows.map rowL, rfl, pu, by omega, by rw [List.length_map]; omega, fun ys o1 hy ho1 => ?_⟩
    obtain ⟨tr, rfl, hp⟩ := perm_of_map rowL hy rows rfl
    rw [mset_mset]
    refine lenR_of (xs := rows.map rowL) rfl ?_
    rw [List.length_map]
    walk_at "nf"
    rw [show ((rows.length : Nat) : Int) + 1 = ((rows.length + 1 : Nat) : Int) by omega]
    refine drw (B := B + 1000 * i + 600) ⟨mset_same, ho1, by omega⟩ (by omega) (by omega) fun r o2 hr ho2 => ?_
    rw [mset_mset]
    walk_at "nf"
    refine sl_lst (ys := (tr.take r).map rowL) (by rw [cut_hi, List.map_take]) ?_
    have sok2 : LrOk (tr.take r) := (ok.perm hp).sub (List.take_sublist _ _)
    have smem : ∀ a ∈ tr.take r, a ∈ rows := fun a ha => hp.subset (List.mem_of_mem_take ha)
    generalize tr.take r = some_ at sok2 smem
    have sln := sok2.ln
    have hks2 := hksM o2
    have done : ∀ x7 x8 x9 x10 x6, k2 [some (.ref k), some (.lst (rows.map rowL)), some (LnD K (rows.map srt)), some (.ref ks), some d, some (.lst (some_.map rowL)), x6, x7, x8, x9, x10] (mset m k o2) := fun x7 x8 x9 x10 x6 => hk2 _ _ ⟨o2, _, _, _, _, _, _, _, rfl, rfl, ho2.mono (by omega)⟩
    generalize hM : mset m k o2 = M at hks2 done
    unfold t__law_lots_right_6
    walk_at "nf"
    simp only [withI_l]
    refine lc_over some_ rowL (fun a => some (.str a.name)) trivial (by unfold sizeLine; omega) (fun a ha acc k3 hacc hk => ?_) ?_
    · walk_at "nf"
      refine br_t rfl ?_
      exact ixT (k := 0) (x := .str a.name) rfl ⟨hacc, hk⟩
    rw [fm_some]
    have en : some_.map (fun a => D.str a.name) = (nms some_).map D.str := by unfold nms; rw [List.map_map]; rfl
    rw [en]
    refine new_l ?_
    have es : ∀ e : List Ak, (nms e).map D.str = (nms (e.map srt)).map D.str := fun e => by rw [nms_srt]
    have srtmem : ∀ e : List Ak, (∀ a ∈ e, a ∈ rows) → ∀ a ∈ e.map srt, a ∈ rows.map srt := fun e he a ha => by
      obtain ⟨b, hb, rfl⟩ := List.mem_map.mp ha
      exact List.mem_map.mpr ⟨b, he b hb, rfl⟩
    unfold t__law_lots_right_5
    walk_at "nf"
    refine ⟨rows.map srt, some_.map srt, _, ks, s, rfl, by rw [nms_srt]; rfl, hks2, ⟨sok, ok.line, srtmem some_ smem, by rw [nms_srt]; exact sok2.nd⟩, ?_⟩
    rw [msts_srt, mostW_srt _ _ (msts_len _)]
    obtain ⟨b0, b1⟩ := mostW_bd' sok2 s0
    refine repr_int b0 b1 ?_
    refine ⟨some_, ks, s, rfl, hks2, sok2, ?_⟩
    refine repr_int b0 b1 ?_
    refine str_same ?_
    refine br_f rfl ?_
    unfold t__law_lots_right_4
    walk_at "nf"
    refine And.intro (by decide) (new_l ?_)
    refine And.intro ⟨strs_ok (nms_okL sok2), (ok_lst (n := 0) (xs := []) (by simp)).P⟩ ?_
    rcases List.eq_nil_or_concat some_ with rfl | ⟨init, a, rfl⟩
    · refine br_f rfl ?_
      exact done _ _ _ _ _
    · rw [List.concat_eq_append] at *
      refine br_t (by rw [eqD_f (fun z => by simp [nms] at z) (by rw [tidy]; exact tidy_strs _) rfl]; rfl) ?_
      have iok : LrOk init := sok2.sub (List.sublist_append_left _ _)
      have imem : ∀ b ∈ init, b ∈ rows := fun b hb => smem b (List.mem_append.mpr (.inl hb))
      unfold t__law_lots_right_3
      walk_at "nf"
      refine ⟨init ++ [a], ks, s, rfl, hks2, sok2, ?_⟩
      refine sl_lst (ys := init.map rowL) cut_init ?_
      refine ⟨init, ks, s, rfl, hks2, iok, ?_⟩
      walk_at "nf"
      obtain ⟨c0, c1⟩ := most_snoc sok2 s0
      have enn : nms (init ++ [a]) = nms init ++ [a.name] := by unfold nms; simp
      have en2 : (nms (init ++ [a])).map D.str = (init ++ [a]).map (fun b => D.str b.name) := by unfold nms; rw [List.map_map]; rfl
      have en3 : init.map (fun b => D.str b.name) = (nms init).map D.str := by unfold nms; rw [List.map_map]; rfl
      unfold t__law_lots_right_2
      walk_at "nf"
      refine sl_lst (ys := (nms init).map D.str) (by rw [en2, cut_init, en3]) ?_
      refine sl_lst (ys := (nms init).map D.str) (by rw [en2, cut_init, en3]) ?_
      refine withL_of (xs := (nms init).map D.str) rfl (new_l ?_)
      refine And.intro (by decide) ?_
      have e2 : [D.lst ((nms init).map D.str), D.lst ((nms init).map D.str).reverse] = [init, init.reverse].map fun e => D.lst ((nms e).map D.str) := by
        simp only [List.map_cons, List.map_nil]
        congr 2
        unfold nms
        rw [List.map_reverse, List.map_reverse]
      rw [e2]
      simp only [withI_t]
      refine for_inv (fun i ρ m2 => m2 = M ∧ ∃ x8 x10, ρ = [some (.ref k), some (.lst (rows.map rowL)), some (LnD K (rows.map srt)), some (.ref ks), some d, some (.lst ((init ++ [a]).map rowL)), some (.lst ((nms (init ++ [a])).map D.str)), some (.int (mostW (init ++ [a]) (msts (init ++ [a])) (sv s) - mostW init (msts init) (sv s))), x8, x9, x10]) ⟨rfl, x8, x10, rfl⟩ (fun _ _ _ _ => trivial) (fun u d2 ρ m2 ei2 pp k3 hk3 => ?_) fun ρ m2 pp => ?_
      · obtain ⟨rfl, x8, x10, rfl⟩ := pp
        rw [List.getElem?_map] at ei2
        cases e : [init, init.reverse][u]? with
        | none => rw [e] at ei2; cases ei2
        | some el =>
          rw [e] at ei2
          obtain rfl := Option.some.inj ei2
          have hel : el.Perm init := by
            have := List.mem_of_getElem? e
            simp only [List.mem_cons, List.not_mem_nil, or_false] at this
            rcases this with rfl | rfl
            · exact .refl _
            · exact List.reverse_perm _
          have helA : (el ++ [a]).Perm (init ++ [a]) := hel.append_right _
          have eok := sok2.perm helA
          unfold t__law_lots_right_1 t__law_lots_right_0
          walk_at "nf"
          refine lst_l ?_
          refine (show ixR (.lst ((nms (init ++ [a])).map D.str)) (.int (-1)) m2 _ from ?_)
          refine onO_of (d := D.str a.name) (by rw [en2]; exact last_map) ?_
          refine ⟨rows.map srt, el.map srt, srt a, ks, s, ?_, hks2, ⟨sok, ok.line, fun b hb => ?_, ?_⟩, ?_⟩
          · rw [nms_srt]; rfl
          · have : b ∈ (el ++ [a]).map srt := by rw [List.map_append]; exact hb
            exact srtmem (el ++ [a]) (fun c hc => smem c (helA.subset hc)) b this
          · have : nms (el.map srt ++ [srt a]) = nms (el ++ [a]) := by rw [← nms_srt (el ++ [a]), List.map_append]; rfl
            rw [this]; exact eok.nd
          have ev : mostW (el.map srt ++ [srt a]) (msts (el.map srt ++ [srt a])) (sv s) - mostW (el.map srt) (msts (el.map srt)) (sv s) = mostW (init ++ [a]) (msts (init ++ [a])) (sv s) - mostW init (msts init) (sv s) := by
            have : el.map srt ++ [srt a] = (el ++ [a]).map srt := by rw [List.map_append]; rfl
            rw [this, msts_srt, msts_srt, mostW_srt _ _ (msts_len _), mostW_srt _ _ (msts_len _), most_perm eok.nodup helA, most_perm (iok.perm hel).nodup hel]
          rw [ev]
          refine repr_int c0 c1 ?_
          refine repr_int c0 c1 ?_
          refine str_same ?_
          refine br_f rfl ?_
          have elk := strs_ok (nms_okL (iok.perm hel))
          refine And.intro ⟨elk, elk⟩ ?_
          refine br_f (congrArg Bool.not (strs_t rfl)) ?_
          exact hk3 _ _ ⟨rfl, _, _, rfl⟩
      · obtain ⟨rfl, x8, x10, rfl⟩ := pp
        exact done _ _ _ _ _
  · obtain ⟨o', x4, x5, x6, x7, x8, x9, x10, rfl, rfl, ho'⟩ := pp
    rw [List.length_map, List.length_range] at ho'
    exact fin (h o' (ho'.mono (by omega)))
end K10

namespace K10
open PySem L2 DL DM HL
local macro_rules | `(tactic| walk_at "nf") => `(tactic| try simp only [dSeq, dIfS, dOr, dAnd, dNot, dTest, dCB, dCons, dNil, dVar, dC, dRet, dRetN, dNext, dAsg, gN, gt2, dOp, dUn, dAndV, dOrV, dNotV, dIf, dLst, dTup, dCall, dMeth, dProp, dMake, dFld, dSl, dPart, dNoPart, dDrop, dPar, dPar3, dBm, dRev, dSetF, dBits, gSet, gTup', gCons', gNil', dDGet, dDIn, dDGet2, dDGet1, dDPut, dNewK, dNewT, iL_eq, iEn, on1, on2, onO_some, addI, subI, intC, onI_i, onS_s, onB_b, iT, iR1, iR2, dLc, dFor, lcBody, dLc2_eq, lcBody2, dDc, dcBody, dYes, wipeD, atE, startD, List.map_cons, List.map_nil, List.length_cons, List.length_nil, List.cons_append, List.nil_append, List.replicate, List.getElem?_cons_zero, List.getElem?_cons_succ, List.set_cons_zero, List.set_cons_succ, Nat.reduceSub, Nat.reduceAdd, Nat.reduceEqDiff, if_true, if_false])
def S_law_right : SpD := fun ds m F => ∃ (k : Nat) (o : MO) (B : Nat) (rows : List Ak) (ks : Nat) (s : Stk), ds = [.ref k, .lst (rows.map rowL), .ref ks] ∧ Pu m k B o ∧ B + 100000 ≤ 2 ^ 59 ∧ m ks = some (.dK (stk s)) ∧ ks ≠ k ∧ (LrOk rows ∧ StOk s ∧ (∀ p ∈ s, p.2 < 2 ^ 100) ∧ s.length < 50 ∧ (("nosuch" : Str) ∉ s.map (·.1) ∨ ("nokind" : Str) ∉ s.map (·.1))) ∧ ∀ o', PurO (B + 5000) o' → F (.bl true) (mset m k o')
theorem pure_law_right {K : PySem.W.Frag} (ds : List D) (m : Mu) (G : DK) (h : S_law_right ds m G) : t__law_right K (S_deal K) S_law_dealt (S_law_lots_right K) (S_law_line_of K) { nx := fun _ m' => Fin G .non m', rt := Fin G } (startD 8 ds) m := by
  obtain ⟨k, o, B, rows, ks, s, rfl, p, hB, hks, hne, ⟨ok, sok, s100, sl, hw⟩, h⟩ := h
  have ln := ok.ln
  have s0 := sv_nn sok.nn
  have sb : ∀ p ∈ s, nameB p.1 = true ∧ 0 ≤ p.2 ∧ p.2 < 2 ^ 100 := fun p hp => ⟨sok.nm p hp, sok.nn p hp, s100 p hp⟩
  unfold t__law_right
  refine seq_nx ?_
  unfold t__law_right_7
  walk_at "nf"
  refine ⟨rows, rfl, ok, ?_⟩
  refine repr_stock hks sb (by omega) ?_
  walk_at "nf"
  unfold t__law_right_6
  walk_at "nf"
  refine ⟨rows.map srt, ks, s, rfl, hks, ⟨sok, ok.line⟩, ?_⟩
  rw [dealL_srt]
  have db := dealL_bd ok s0
  have dl := dealL_len rows (sv s)
  refine Or.inr fun q hq => ?_
  have qk : k ≠ q := ne_of_mu p.at_ hq
  have qks : ks ≠ q := ne_of_mu hks hq
  have hks1 : mset m q (.lst ((dealL rows (sv s)).map pairD)) ks = some (.dK (stk s)) := by rw [mset_ne qks]; exact hks
  unfold t__law_right_5
  walk_at "nf"
  refine repr_pairs (HL.lstOf_ref mset_same) db (by omega) ?_
  refine ⟨rows, ks, s, rfl, hks1, ok, ?_⟩
  refine repr_pairs rfl db (by omega) ?_
  refine str_same ?_
  refine br_f rfl ?_
  refine ⟨k, o, B, rows, ks, s, rfl, ⟨by rw [mset_ne qk]; exact p.at_, p.ok, p.le⟩, hB, hks1, hne, ⟨ok, sok⟩, fun o1 ho1 => ?_⟩
  refine br_f rfl ?_
  rw [mset_comm (Ne.symm qk)]
  have hm1 : mset m k o1 ks = some (.dK (stk s)) := by rw [mset_ne hne]; exact hks
  have hq1 : mset m k o1 q = none := by rw [mset_ne (Ne.symm qk)]; exact hq
  have h1 := h o1 ho1
  generalize mset m k o1 = M at hm1 hq1 h1
  have hks2 : ∀ o, mset M q o ks = some (.dK (stk s)) := fun o => by rw [mset_ne qks]; exact hm1
  unfold t__law_right_4
  walk_at "nf"
  refine dict_of (hks2 _) (Or.inr fun q2 hq2 => ?_)
  have q2q : q ≠ q2 := ne_of_mu mset_same hq2
  have q2ks : ks ≠ q2 := ne_of_mu (hks2 _) hq2
  have hq2' : M q2 = none := by rw [mset_ne (Ne.symm q2q)] at hq2; exact hq2
  unfold t__law_right_3
  walk_at "nf"
  have hks3 : ∀ o o2, mset (mset M q o) q2 o2 ks = some (.dK (stk s)) := fun o o2 => by rw [mset_ne q2ks]; exact hks2 o
  have e2 : [D.str "nosuch", D.str "nokind"] = (["nosuch", "nokind"] : List Str).map D.str := rfl
  refine And.intro (by decide) ?_
  rw [e2]
  simp only [withI_t]
  refine lc_over (["nosuch", "nokind"] : List Str) D.str (fun x => if x ∉ s.map (·.1) then some (.str x) else none) trivial (by decide) (fun x hx acc k3 hacc hk => ?_) ?_
  · walk_at "nf"
    refine look_is (hks3 _ _) fun o ho => ?_
    rw [ho]
    by_cases z : x ∈ s.map (·.1)
    · rw [if_neg (fun h => h z)] at hk
      rw [show acc ++ (none : Option D).toList = acc from List.append_nil _] at hk
      exact br_f (by rw [decide_eq_true z]; rfl) hk
    · rw [if_pos z] at hk
      exact br_t (by rw [decide_eq_false z]; rfl) ⟨hacc, hk⟩
  obtain ⟨w, rest, ew, hwn, wn⟩ : ∃ w rest, (["nosuch", "nokind"] : List Str).filterMap (fun x => if x ∉ s.map (·.1) then some (D.str x) else none) = D.str w :: rest ∧ w ∉ s.map (·.1) ∧ nameB w = true := by
    by_cases z : ("nosuch" : Str) ∉ s.map (·.1)
    · exact ⟨"nosuch", _, by rw [List.filterMap_cons, if_pos z], z, by decide +kernel⟩
    · rcases hw with z2 | z2
      · exact (z z2).elim
      · exact ⟨"nokind", _, by rw [List.filterMap_cons, if_neg z, List.filterMap_cons, if_pos z2], z2, by decide +kernel⟩
  rw [ew]
  refine new_l ?_
  refine ixL (k := 0) (x := .str w) rfl ?_
  refine store_str mset_same (by rw [stk_len]; unfold sizeLine; omega) ?_
  rw [mset_mset, show D.int 0 = D.int (0 : Int) from rfl, dput_stk]
  have mok : StOk (dput s w 0) := ⟨fun p hp => by rcases dput_mem hp with rfl | hp; exact wn; exact sok.nm p hp, dput_nodup sok.nd, fun p hp => by rcases dput_mem hp with rfl | hp; exact Int.le_refl _; exact sok.nn p hp, by have := dput_len s w 0; omega⟩
  unfold t__law_right_2
  walk_at "nf"
  refine ⟨rows.map srt, q2, dput s w 0, rfl, mset_same, ⟨mok, ok.line⟩, new_l ?_⟩
  rw [dealL_srt, sv_more hwn]
  have hlq : ∀ o2, lstOf (mset (mset M q (.lst ((dealL rows (sv s)).map pairD))) q2 o2) (.ref q) = some ((dealL rows (sv s)).map pairD) := fun o2 => HL.lstOf_ref (by rw [mset_ne q2q, mset_same])
  refine eq_same rfl (hlq _) db ?_
  refine br_f rfl ?_
  refine repr_stock (hks3 _ _) sb (by omega) ?_
  refine str_same ?_
  refine br_f rfl ?_
  unfold t__law_right_1
  walk_at "nf"
  refine And.intro ⟨_, hlq _⟩ (And.intro (by decide) ?_)
  refine ⟨(dealL rows (sv s)).map pairD, by rw [mset_ne q2q, mset_same], by rw [List.length_map]; unfold sizeLine; omega, ?_⟩
  rw [mset_comm (Ne.symm q2q), mset_mset]
  have e5 : (dealL rows (sv s)).map pairD ++ [D.tup [.str "changed", .int 1]] = (dealL rows (sv s) ++ [(("changed" : Str), (1 : Int))]).map pairD := by rw [List.map_append]; rfl
  rw [e5]
  unfold t__law_right_0
  walk_at "nf"
  refine ⟨rows.map srt, ks, s, rfl, hks3 _ _, ⟨sok, ok.line⟩, new_l ?_⟩
  rw [dealL_srt]
  refine sl_ref (ys := (dealL rows (sv s)).map pairD) (by rw [mset_ne q2q, mset_same]) cut_init ?_
  refine new_l ?_
  refine eq_same rfl rfl db ?_
  refine fin_drop (m' := M) (fun j u e => ?_) h1
  rw [mset_ne (ne_of_mu e hq2'), mset_ne (ne_of_mu e hq1)]; exact e
end K10

namespace K10
open PySem L2 DL DM HL
local macro_rules | `(tactic| walk_at "nf") => `(tactic| try simp only [dSeq, dIfS, dOr, dAnd, dNot, dTest, dCB, dCons, dNil, dVar, dC, dRet, dRetN, dNext, dAsg, gN, gt2, dOp, dUn, dAndV, dOrV, dNotV, dIf, dLst, dTup, dCall, dMeth, dProp, dMake, dFld, dSl, dPart, dNoPart, dDrop, dPar, dPar3, dBm, dRev, dSetF, dBits, gSet, gTup', gCons', gNil', dDGet, dDIn, dDGet2, dDGet1, dDPut, dNewK, dNewT, iL_eq, iEn, on1, on2, onO_some, addI, subI, intC, onI_i, onS_s, onB_b, iT, iR1, iR2, dLc, dFor, lcBody, dLc2_eq, lcBody2, dDc, dcBody, dYes, wipeD, atE, startD, List.map_cons, List.map_nil, List.length_cons, List.length_nil, List.cons_append, List.nil_append, List.replicate, List.getElem?_cons_zero, List.getElem?_cons_succ, List.set_cons_zero, List.set_cons_succ, Nat.reduceSub, Nat.reduceAdd, Nat.reduceEqDiff, if_true, if_false])
theorem pure_law {K : PySem.W.Frag} (ds : List D) (m : Mu) (G : DK) (h : S_law ds m G) : t_law K S_law_purses S_law_right S_law_shuffled (S_deal K) S_law_dealt S_law_one_of (S_law_line_of K) S_law_rows S_law_stock (S_law_some poolK) { nx := fun _ m' => Fin G .non m', rt := Fin G } (startD 8 ds) m := by
  obtain ⟨ns, rfl, hl, h⟩ := h
  unfold t_law
  refine seq_nx ?_
  unfold t_law_9
  walk_at "nf"
  refine ⟨ns, 2, rfl, ⟨hl, by decide, by decide⟩, fun ks m0 nd ho => ?_⟩
  simp only [withI_l]
  refine over_purses nd ho (fun ρ => ∃ x1 x2 x3 x4 x5 x6 x7 : Option D, ρ = [some (.scr ns), x1, x2, x3, x4, x5, x6, x7]) ⟨_, _, _, _, _, _, _, rfl⟩ (fun _ => trivial) (fun k o ρ m sh hk po k2 hk2 => ?_) fun ρ m _ => fin (h m)
  obtain ⟨x1, x2, x3, x4, x5, x6, x7, rfl⟩ := sh
  have pu : Pu m k 0 o := ⟨hk, po, by decide⟩
  unfold t_law_8
  walk_at "nf"
  refine ⟨k, o, 0, 3, rfl, pu, by decide, ⟨by decide, by decide⟩, fun kinds o1 hs ho1 => ?_⟩
  have kok := hs.kd (by decide) (by decide)
  have hw := hs.two (a := "nosuch") (b := "nokind") (by decide +kernel) (by decide +kernel) (by decide +kernel)
  unfold t_law_7
  walk_at "nf"
  refine ⟨k, o1, 1000, kinds, 5, rfl, ⟨mset_same, ho1, by decide⟩, by decide, ⟨kok, by decide⟩, fun rows o2 ok rl rin ho2 => ?_⟩
  rw [mset_mset]
  refine ⟨k, o2, 11000, kinds, rfl, ⟨mset_same, ho2, by decide⟩, by decide, kok, fun s o3 kt hkt hkk hsk sok slt ho3 => ?_⟩
  rw [mset_ne hkk] at hkt
  rw [mset_mset]
  walk_at "nf"
  have sl : s.length < 50 := by have := congrArg List.length hsk; rw [List.length_map] at this; have := kok.ln; omega
  have b97 : (2 : Int) ^ 97 + 100 < 2 ^ 100 := by decide
  have comm : ∀ o3 o4 s, mset (mset (mset m k o3) kt (.dK (stk s))) k o4 = mset (mset m k o4) kt (.dK (stk s)) := fun o3 o4 s => by rw [mset_comm hkk, mset_mset]
  have puK : ∀ {o3 s B}, PurO B o3 → B ≤ 2 ^ 59 → Pu (mset (mset m k o3) kt (.dK (stk s))) k B o3 := fun h hb => ⟨by rw [mset_ne (Ne.symm hkk), mset_same], h, hb⟩
  unfold t_law_6
  walk_at "nf"
  refine ⟨k, o3, 12000, rows, kt, s, rfl, puK ho3 (by decide), by decide, mset_same, hkk, ⟨ok, sok, fun p hp => by have := slt p hp; omega, sl, by rw [hsk]; exact hw⟩, fun o4 ho4 => ?_⟩
  rw [comm]
  refine br_f rfl ?_
  unfold t_law_5
  walk_at "nf"
  refine ⟨rows, rfl, ok, ?_⟩
  unfold t_law_4
  walk_at "nf"
  simp only [withI_l]
  refine for_inv (fun i ρ m' => ∃ (s : Stk) (o' : MO) (x4 : Option D), m' = mset (mset m k o') kt (.dK (stk s)) ∧ ρ = [some (.scr ns), some (.ref k), some (.lst (kinds.map D.str)), some (LnD K (rows.map srt)), x4, x5, some (.lst (rows.map rowL)), some (.ref kt)] ∧ s.map (·.1) = kinds ∧ StOk s ∧ (∀ p ∈ s, p.2 < 2 ^ 97 + i) ∧ PurO (17000 + 10 * i) o') ⟨s, o4, _, rfl, rfl, hsk, sok, fun p hp => by have := slt p hp; omega, ho4⟩ (fun _ _ _ _ => trivial) (fun i d ρ m' ei pp k3 hk3 => ?_) fun ρ m' pp => ?_
  · obtain ⟨s, o', x4, rfl, rfl, hsk, sok, slt, ho'⟩ := pp
    have hi := (List.getElem?_eq_some_iff.mp ei).1
    rw [List.length_map] at hi
    have kl := kok.ln
    rw [List.getElem?_map] at ei
    cases e : kinds[i]? with
    | none => rw [e] at ei; cases ei
    | some x =>
      rw [e] at ei
      obtain rfl := Option.some.inj ei
      have xin : x ∈ s.map (·.1) := by rw [hsk]; exact List.mem_of_getElem? e
      obtain ⟨v, hv⟩ : ∃ v, dval s x = some v := by
        cases q : dval s x with
        | none => exact (dval_none_iff.mp q xin).elim
        | some v => exact ⟨v, rfl⟩
      have v0 := sok.nn _ (dval_mem hv)
      have v1 := slt _ (dval_mem hv)
      unfold t_law_3
      walk_at "nf"
      refine onO_of (look_str mset_same) ?_
      rw [dval_stk, hv]
      walk_at "nf"
      refine And.intro ⟨by decide, by decide +kernel⟩ (And.intro (by decide) (new_l ?_))
      refine ⟨k, o', _, [.int 0, .int (v + 1), .int (10 ^ 29)], rfl, puK ho' (by omega), ⟨by simp, by simp⟩, fun y o5 hy ho5 => ?_⟩
      rw [comm]
      have hy2 : ∃ w : Int, y = .int w ∧ 0 ≤ w ∧ w < 2 ^ 97 + ((i + 1 : Nat) : Int) := by
        simp only [List.mem_cons, List.not_mem_nil, or_false] at hy
        have h97 : (10 : Int) ^ 29 < 2 ^ 97 := by decide
        have h10 : (0 : Int) ≤ 10 ^ 29 := by decide
        simp only at v1 v0
        rcases hy with rfl | rfl | rfl
        · exact ⟨_, rfl, by omega, by omega⟩
        · exact ⟨_, rfl, by omega, by omega⟩
        · exact ⟨_, rfl, by omega, by omega⟩
      obtain ⟨w, rfl, w0, w1⟩ := hy2
      refine store_str mset_same (by rw [stk_len]; have := sok.ln; unfold sizeLine; omega) ?_
      rw [dput_stk, mset_mset]
      have sok2 := sok.put xin w0
      have hsk2 : (dput s x w).map (·.1) = kinds := by rw [dput_keys_in xin]; exact hsk
      have slt2 : ∀ p ∈ dput s x w, p.2 < 2 ^ 97 + ((i + 1 : Nat) : Int) := fun p hp => by
        rcases dput_mem hp with rfl | hp
        · exact w1
        · have := slt p hp; omega
      generalize dput s x w = s at sok2 hsk2 slt2
      unfold t_law_2
      walk_at "nf"
      refine ⟨rows.map srt, kt, s, rfl, mset_same, ⟨sok2, ok.line⟩, new_l ?_⟩
      rw [dealL_srt]
      refine ⟨rows, kt, s, rfl, mset_same, ok, ?_⟩
      refine eq_same rfl rfl (dealL_bd ok (sv_nn sok2.nn)) ?_
      refine br_f rfl ?_
      exact hk3 _ _ ⟨s, o5, _, rfl, rfl, hsk2, sok2, slt2, ho5.mono (by omega)⟩
  · obtain ⟨s, o', x4, rfl, rfl, hsk, sok, slt, ho'⟩ := pp
    have kl := kok.ln
    rw [List.length_map] at slt ho'
    have sl : s.length < 50 := by have := congrArg List.length hsk; rw [List.length_map] at this; omega
    unfold t_law_1
    walk_at "nf"
    have rln := ok.ln
    refine ⟨k, o', 17100, rows.map rowL, rfl, puK (ho'.mono (by omega)) (by omega), by omega, by rw [List.length_map]; omega, fun ys o5 hy ho5 => ?_⟩
    obtain ⟨tr, rfl, hp⟩ := perm_of_map rowL hy rows rfl
    rw [comm]
    unfold t_law_0
    walk_at "nf"
    refine ⟨k, o5, 17700, tr, kt, s, rfl, puK ho5 (by decide), by decide, mset_same, hkk, ⟨ok.perm hp, sok, fun p hp => by have := slt p hp; omega, sl, by rw [hsk]; exact hw⟩, fun o6 ho6 => ?_⟩
    rw [comm]
    refine br_f rfl ?_
    exact hk2 _ _ ⟨_, _, _, _, _, _, _, rfl⟩ ((Keep.refl.set).new hkt)
end K10

namespace K10
open PySem L2 DL DM HL
theorem ok__law_purse {P : Program} {w : World} {K : PySem.W.Frag} {mg : Str → Option Value} {base : Heap} (T : TX K mg) : FnOk P w K mg base CX0 1 (ga K "_law_purse") T.fd__law_purse ["_law_script", "_law_at"] (spD K S_law_purse) :=
  ok_by T.F__law_purse sc__law_purse (fun _ _ _ h => by obtain ⟨_, _, rfl, _⟩ := h; rfl) (der__law_purse T) (by first | exact pure_law_purse | exact pure_law_purse T.hf | exact pure_law_purse T.hg | exact pure_law_purse T.hf T.hg)
theorem ok__law_purses {P : Program} {w : World} {K : PySem.W.Frag} {mg : Str → Option Value} {base : Heap} (T : TX K mg) : FnOk P w K mg base CX0 2 (ga K "_law_purses") T.fd__law_purses ["_law_script", "_law_few"] (spD K S_law_purses) :=
  ok_by T.F__law_purses sc__law_purses (fun _ _ _ h => by obtain ⟨_, _, rfl, _⟩ := h; rfl) (der__law_purses T (ok__law_purse T)) (by first | exact pure_law_purses | exact pure_law_purses T.hf | exact pure_law_purses T.hg | exact pure_law_purses T.hf T.hg)
theorem ok__law_mixed {P : Program} {w : World} {K : PySem.W.Frag} {mg : Str → Option Value} {base : Heap} (T : TX K mg) : FnOk P w K mg base CX0 1 (ga K "_law_mixed") T.fd__law_mixed ["_law_seed", "_law_turn", "_law_at"] (spD K S_law_mixed) :=
  ok_by T.F__law_mixed sc__law_mixed (fun _ _ _ h => by obtain ⟨_, _, _, rfl, _⟩ := h; rfl) (der__law_mixed T) (by first | exact pure_law_mixed | exact pure_law_mixed T.hf | exact pure_law_mixed T.hg | exact pure_law_mixed T.hf T.hg)
theorem ok__law_draw {P : Program} {w : World} {K : PySem.W.Frag} {mg : Str → Option Value} {base : Heap} (T : TX K mg) : FnOk P w K mg base CX0 2 (ga K "_law_draw") T.fd__law_draw ["_law_purse_here", "_law_many"] (spD K S_law_draw) :=
  ok_by T.F__law_draw sc__law_draw (fun _ _ _ h => by obtain ⟨_, _, _, _, rfl, _⟩ := h; rfl) (der__law_draw T (ok__law_mixed T)) (by first | exact pure_law_draw | exact pure_law_draw T.hf | exact pure_law_draw T.hg | exact pure_law_draw T.hf T.hg)
theorem ok__law_word {P : Program} {w : World} {K : PySem.W.Frag} {mg : Str → Option Value} {base : Heap} (T : TX K mg) : FnOk P w K mg base CX0 3 (ga K "_law_word") T.fd__law_word ["_law_purse_here"] (spD K S_law_word) :=
  ok_by T.F__law_word sc__law_word (fun _ _ _ h => by obtain ⟨_, _, _, rfl, _⟩ := h; rfl) (der__law_word T (ok__law_draw T)) (by first | exact pure_law_word | exact pure_law_word T.hf | exact pure_law_word T.hg | exact pure_law_word T.hf T.hg)
theorem ok__law_shuffled {P : Program} {w : World} {K : PySem.W.Frag} {mg : Str → Option Value} {base : Heap} (T : TX K mg) : FnOk P w K mg base CX0 3 (ga K "_law_shuffled") T.fd__law_shuffled ["_law_purse_here", "_law_some"] (spD K S_law_shuffled) :=
  ok_by T.F__law_shuffled sc__law_shuffled (fun _ _ _ h => by obtain ⟨_, _, _, _, rfl, _⟩ := h; rfl) (der__law_shuffled T (ok__law_draw T)) (by first | exact pure_law_shuffled | exact pure_law_shuffled T.hf | exact pure_law_shuffled T.hg | exact pure_law_shuffled T.hf T.hg)
theorem ok__law_kinds {P : Program} {w : World} {K : PySem.W.Frag} {mg : Str → Option Value} {base : Heap} (T : TX K mg) : FnOk P w K mg base CX0 4 (ga K "_law_kinds") T.fd__law_kinds ["_law_purse_here", "_law_many"] (spD K (S_law_some poolK)) :=
  ok_by T.F__law_kinds sc__law_kinds (fun _ _ _ h => by obtain ⟨_, _, _, _, rfl, _⟩ := h; rfl) (der__law_kinds T (ok__law_shuffled T) (ok__law_word T)) (by first | exact pure_law_kinds | exact pure_law_kinds T.hf | exact pure_law_kinds T.hg | exact pure_law_kinds T.hf T.hg)
theorem ok__law_names {P : Program} {w : World} {K : PySem.W.Frag} {mg : Str → Option Value} {base : Heap} (T : TX K mg) : FnOk P w K mg base CX0 4 (ga K "_law_names") T.fd__law_names ["_law_purse_here", "_law_many"] (spD K (S_law_some poolN)) :=
  ok_by T.F__law_names sc__law_names (fun _ _ _ h => by obtain ⟨_, _, _, _, rfl, _⟩ := h; rfl) (der__law_names T (ok__law_shuffled T) (ok__law_word T)) (by first | exact pure_law_names | exact pure_law_names T.hf | exact pure_law_names T.hg | exact pure_law_names T.hf T.hg)
theorem ok__law_one_of {P : Program} {w : World} {K : PySem.W.Frag} {mg : Str → Option Value} {base : Heap} (T : TX K mg) : FnOk P w K mg base CX0 3 (ga K "_law_one_of") T.fd__law_one_of ["_law_purse_here", "_law_some"] (spD K S_law_one_of) :=
  ok_by T.F__law_one_of sc__law_one_of (fun _ _ _ h => by obtain ⟨_, _, _, _, rfl, _⟩ := h; rfl) (der__law_one_of T (ok__law_draw T)) (by first | exact pure_law_one_of | exact pure_law_one_of T.hf | exact pure_law_one_of T.hg | exact pure_law_one_of T.hf T.hg)
theorem ok__law_most {P : Program} {w : World} {K : PySem.W.Frag} {mg : Str → Option Value} {base : Heap} (T : TX K mg) : FnOk P w K mg base CX0 4 (ga K "_law_most") T.fd__law_most ["_law_purse_here"] (spD K S_law_most) :=
  ok_by T.F__law_most sc__law_most (fun _ _ _ h => by obtain ⟨_, _, _, rfl, _⟩ := h; rfl) (der__law_most T (ok__law_one_of T) (ok__law_draw T)) (by first | exact pure_law_most | exact pure_law_most T.hf | exact pure_law_most T.hg | exact pure_law_most T.hf T.hg)
theorem ok__law_rows {P : Program} {w : World} {K : PySem.W.Frag} {mg : Str → Option Value} {base : Heap} (T : TX K mg) : FnOk P w K mg base CX0 5 (ga K "_law_rows") T.fd__law_rows ["_law_purse_here", "_law_kinds_here", "_law_few"] (spD K S_law_rows) :=
  ok_by T.F__law_rows sc__law_rows (fun _ _ _ h => by obtain ⟨_, _, _, _, _, rfl, _⟩ := h; rfl) (der__law_rows T (ok__law_names T) (ok__law_draw T) (ok__law_most T) (ok__law_shuffled T)) (by first | exact pure_law_rows | exact pure_law_rows T.hf | exact pure_law_rows T.hg | exact pure_law_rows T.hf T.hg)
theorem ok__law_stock {P : Program} {w : World} {K : PySem.W.Frag} {mg : Str → Option Value} {base : Heap} (T : TX K mg) : FnOk P w K mg base CX0 5 (ga K "_law_stock") T.fd__law_stock ["_law_purse_here", "_law_kinds_here"] (spD K S_law_stock) :=
  ok_by T.F__law_stock sc__law_stock (fun _ _ _ h => by obtain ⟨_, _, _, _, rfl, _⟩ := h; rfl) (der__law_stock T (ok__law_one_of T) (ok__law_draw T) (ok__law_most T)) (by first | exact pure_law_stock | exact pure_law_stock T.hf | exact pure_law_stock T.hg | exact pure_law_stock T.hf T.hg)
theorem ok_Line___init__ {P : Program} {w : World} {K : PySem.W.Frag} {mg : Str → Option Value} {base : Heap} (T : TX K mg) : FnOk P w K mg base CX0 1 (ma K (ga K "Line") "__init__") T.fd_Line___init__ ["self", "askers"] (spD K (S_Line___init__ K)) :=
  ok_by T.F_Line___init__ sc_Line___init__ (fun _ _ _ h => by obtain ⟨_, _, _, rfl, _⟩ := h; rfl) (der_Line___init__ T) (by first | exact pure_Line___init__ | exact pure_Line___init__ T.hf | exact pure_Line___init__ T.hg | exact pure_Line___init__ T.hf T.hg)
theorem ok_is_name {P : Program} {w : World} {K : PySem.W.Frag} {mg : Str → Option Value} {base : Heap} (T : TX K mg) : FnOk P w K mg base CX0 1 (ga K "is_name") T.fd_is_name ["value"] (spD K S_is_name) :=
  ok_by T.F_is_name sc_is_name (fun _ _ _ h => by obtain ⟨_, rfl, _⟩ := h; rfl) (der_is_name T) (by first | exact pure_is_name | exact pure_is_name T.hf | exact pure_is_name T.hg | exact pure_is_name T.hf T.hg)
theorem ok_are_names {P : Program} {w : World} {K : PySem.W.Frag} {mg : Str → Option Value} {base : Heap} (T : TX K mg) : FnOk P w K mg base CX0 2 (ga K "are_names") T.fd_are_names ["value"] (spD K S_are_names) :=
  ok_by T.F_are_names sc_are_names (fun _ _ _ h => by obtain ⟨_, _, rfl, _⟩ := h; rfl) (der_are_names T (ok_is_name T)) (by first | exact pure_are_names | exact pure_are_names T.hf | exact pure_are_names T.hg | exact pure_are_names T.hf T.hg)
theorem ok_is_count {P : Program} {w : World} {K : PySem.W.Frag} {mg : Str → Option Value} {base : Heap} (T : TX K mg) : FnOk P w K mg base CX0 1 (ga K "is_count") T.fd_is_count ["value"] (spD K S_is_count) :=
  ok_by T.F_is_count sc_is_count (fun _ _ _ h => by obtain ⟨_, rfl, _⟩ := h; rfl) (der_is_count T) (by first | exact pure_is_count | exact pure_is_count T.hf | exact pure_is_count T.hg | exact pure_is_count T.hf T.hg)
theorem ok_Asker___init__ {P : Program} {w : World} {K : PySem.W.Frag} {mg : Str → Option Value} {base : Heap} (T : TX K mg) : FnOk P w K mg base CX0 3 (ma K (ga K "Asker") "__init__") T.fd_Asker___init__ ["self", "name", "fits", "most"] (spD K (S_Asker___init__ K)) :=
  ok_by T.F_Asker___init__ sc_Asker___init__ (fun _ _ _ h => by obtain ⟨_, _, _, _, _, rfl, _⟩ := h; rfl) (der_Asker___init__ T (ok_is_count T) (ok_are_names T) (ok_is_name T)) (by first | exact pure_Asker___init__ | exact pure_Asker___init__ T.hf | exact pure_Asker___init__ T.hg | exact pure_Asker___init__ T.hf T.hg)
theorem ok__law_line_of {P : Program} {w : World} {K : PySem.W.Frag} {mg : Str → Option Value} {base : Heap} (T : TX K mg) : FnOk P w K mg base CX0 5 (ga K "_law_line_of") T.fd__law_line_of ["_law_rows_here"] (spD K (S_law_line_of K)) :=
  ok_by T.F__law_line_of sc__law_line_of (fun _ _ _ h => by obtain ⟨_, rfl, _⟩ := h; rfl) (der__law_line_of T (ok_Line___init__ T) (ok_Asker___init__ T)) (by first | exact pure_law_line_of | exact pure_law_line_of T.hf | exact pure_law_line_of T.hg | exact pure_law_line_of T.hf T.hg)
theorem ok_check_line {P : Program} {w : World} {K : PySem.W.Frag} {mg : Str → Option Value} {base : Heap} (T : TX K mg) : FnOk P w K mg base CX0 1 (ga K "check_line") T.fd_check_line ["value"] (spD K (S_check_line K)) :=
  ok_by T.F_check_line sc_check_line (fun _ _ _ h => by obtain ⟨_, rfl, _⟩ := h; rfl) (der_check_line T) (by first | exact pure_check_line | exact pure_check_line T.hf | exact pure_check_line T.hg | exact pure_check_line T.hf T.hg)
theorem ok_is_stock {P : Program} {w : World} {K : PySem.W.Frag} {mg : Str → Option Value} {base : Heap} (T : TX K mg) : FnOk P w K mg base CX0 2 (ga K "is_stock") T.fd_is_stock ["value"] (spD K S_is_stock) :=
  ok_by T.F_is_stock sc_is_stock (fun _ _ _ h => by obtain ⟨_, _, rfl, _⟩ := h; rfl) (der_is_stock T (ok_is_name T) (ok_is_count T)) (by first | exact pure_is_stock | exact pure_is_stock T.hf | exact pure_is_stock T.hg | exact pure_is_stock T.hf T.hg)
theorem ok_check_stock {P : Program} {w : World} {K : PySem.W.Frag} {mg : Str → Option Value} {base : Heap} (T : TX K mg) : FnOk P w K mg base CX0 3 (ga K "check_stock") T.fd_check_stock ["value"] (spD K S_check_stock) :=
  ok_by T.F_check_stock sc_check_stock (fun _ _ _ h => by obtain ⟨_, _, rfl, _⟩ := h; rfl) (der_check_stock T (ok_is_stock T)) (by first | exact pure_check_stock | exact pure_check_stock T.hf | exact pure_check_stock T.hg | exact pure_check_stock T.hf T.hg)
theorem ok_Giving_holders {P : Program} {w : World} {K : PySem.W.Frag} {mg : Str → Option Value} {base : Heap} (T : TX K mg) : FnOk P w K mg base CX0 1 (ma K (ga K "Giving") "holders") T.fd_Giving_holders ["self", "kind"] (spD K (S_Giving_holders K)) :=
  ok_by T.F_Giving_holders sc_Giving_holders (fun _ _ _ h => by obtain ⟨_, _, _, _, _, _, _, _, _, _, rfl, _⟩ := h; rfl) (der_Giving_holders T) (by first | exact pure_Giving_holders | exact pure_Giving_holders T.hf | exact pure_Giving_holders T.hg | exact pure_Giving_holders T.hf T.hg)
theorem ok_Giving_reached {P : Program} {w : World} {K : PySem.W.Frag} {mg : Str → Option Value} {base : Heap} (T : TX K mg) : FnOk P w K mg base CX0 2 (ma K (ga K "Giving") "reached") T.fd_Giving_reached ["self", "start"] (spD K (S_Giving_reached K)) :=
  ok_by T.F_Giving_reached sc_Giving_reached (fun _ _ _ h => by obtain ⟨_, _, _, _, _, _, _, _, _, _, rfl, _⟩ := h; rfl) (der_Giving_reached T (ok_Giving_holders T)) (by first | exact pure_Giving_reached | exact pure_Giving_reached T.hf | exact pure_Giving_reached T.hg | exact pure_Giving_reached T.hf T.hg)
theorem ok_Giving_steps {P : Program} {w : World} {K : PySem.W.Frag} {mg : Str → Option Value} {base : Heap} (T : TX K mg) : FnOk P w K mg base CX0 3 (ma K (ga K "Giving") "steps") T.fd_Giving_steps ["self", "start"] (spD K (S_Giving_steps K)) :=
  ok_by T.F_Giving_steps sc_Giving_steps (fun _ _ _ h => by obtain ⟨_, _, _, _, _, _, _, _, _, _, rfl, _⟩ := h; rfl) (der_Giving_steps T (ok_Giving_reached T)) (by first | exact pure_Giving_steps | exact pure_Giving_steps T.hf | exact pure_Giving_steps T.hg | exact pure_Giving_steps T.hf T.hg)
theorem ok_Giving_hand {P : Program} {w : World} {K : PySem.W.Frag} {mg : Str → Option Value} {base : Heap} (T : TX K mg) : FnOk P w K mg base CX0 4 (ma K (ga K "Giving") "hand") T.fd_Giving_hand ["self", "at"] (spD K (S_Giving_hand K)) :=
  ok_by T.F_Giving_hand sc_Giving_hand (fun _ _ _ h => by obtain ⟨_, _, _, _, _, _, _, _, _, _, _, _, rfl, _⟩ := h; rfl) (der_Giving_hand T (ok_Giving_steps T)) (by first | exact pure_Giving_hand | exact pure_Giving_hand T.hf | exact pure_Giving_hand T.hg | exact pure_Giving_hand T.hf T.hg)
theorem ok_Giving___init__ {P : Program} {w : World} {K : PySem.W.Frag} {mg : Str → Option Value} {base : Heap} (T : TX K mg) : FnOk P w K mg base CX0 5 (ma K (ga K "Giving") "__init__") T.fd_Giving___init__ ["self", "rows", "wants", "stock"] (spD K (S_Giving___init__ K)) :=
  ok_by T.F_Giving___init__ sc_Giving___init__ (fun _ _ _ h => by obtain ⟨_, _, _, _, _, _, rfl, _⟩ := h; rfl) (der_Giving___init__ T (ok_Giving_hand T)) (by first | exact pure_Giving___init__ | exact pure_Giving___init__ T.hf | exact pure_Giving___init__ T.hg | exact pure_Giving___init__ T.hf T.hg)
theorem ok_mosts_of {P : Program} {w : World} {K : PySem.W.Frag} {mg : Str → Option Value} {base : Heap} (T : TX K mg) : FnOk P w K mg base CX0 1 (ga K "mosts_of") T.fd_mosts_of ["rows"] (spD K S_mosts_of) :=
  ok_by T.F_mosts_of sc_mosts_of (fun _ _ _ h => by obtain ⟨_, _, rfl, _⟩ := h; rfl) (der_mosts_of T) (by first | exact pure_mosts_of | exact pure_mosts_of T.hf | exact pure_mosts_of T.hg | exact pure_mosts_of T.hf T.hg)
theorem ok_giving_of {P : Program} {w : World} {K : PySem.W.Frag} {mg : Str → Option Value} {base : Heap} (T : TX K mg) : FnOk P w K mg base CX0 7 (ga K "giving_of") T.fd_giving_of ["line", "stock"] (spD K (S_giving_of K)) :=
  ok_by T.F_giving_of sc_giving_of (fun _ _ _ h => by obtain ⟨_, _, _, rfl, _⟩ := h; rfl) (der_giving_of T (ok_Giving___init__ T) (ok_mosts_of T)) (by first | exact pure_giving_of | exact pure_giving_of T.hf | exact pure_giving_of T.hg | exact pure_giving_of T.hf T.hg)
theorem ok_dealt {P : Program} {w : World} {K : PySem.W.Frag} {mg : Str → Option Value} {base : Heap} (T : TX K mg) : FnOk P w K mg base CX0 8 (ga K "dealt") T.fd_dealt ["line", "stock"] (spD K (S_dealt K)) :=
  ok_by T.F_dealt sc_dealt (fun _ _ _ h => by obtain ⟨_, _, _, rfl, _⟩ := h; rfl) (der_dealt T (ok_giving_of T)) (by first | exact pure_dealt | exact pure_dealt T.hf | exact pure_dealt T.hg | exact pure_dealt T.hf T.hg)
theorem ok_deal {P : Program} {w : World} {K : PySem.W.Frag} {mg : Str → Option Value} {base : Heap} (T : TX K mg) : FnOk P w K mg base CX0 9 (ga K "deal") T.fd_deal ["line", "stock"] (spD K (S_deal K)) :=
  ok_by T.F_deal sc_deal (fun _ _ _ h => by obtain ⟨_, _, _, rfl, _⟩ := h; rfl) (der_deal T (ok_dealt T) (ok_check_stock T) (ok_check_line T)) (by first | exact pure_deal | exact pure_deal T.hf | exact pure_deal T.hg | exact pure_deal T.hf T.hg)
theorem ok__law_held {P : Program} {w : World} {K : PySem.W.Frag} {mg : Str → Option Value} {base : Heap} (T : TX K mg) : FnOk P w K mg base CX0 1 (ga K "_law_held") T.fd__law_held ["_law_stock_here", "_law_kinds_here"] (spD K S_law_held) :=
  ok_by T.F__law_held sc__law_held (fun _ _ _ h => by obtain ⟨_, _, _, rfl, _⟩ := h; rfl) (der__law_held T) (by first | exact pure_law_held | exact pure_law_held T.hf | exact pure_law_held T.hg | exact pure_law_held T.hf T.hg)
theorem ok__law_fits_of {P : Program} {w : World} {K : PySem.W.Frag} {mg : Str → Option Value} {base : Heap} (T : TX K mg) : FnOk P w K mg base CX0 1 (ga K "_law_fits_of") T.fd__law_fits_of ["_law_rows_here"] (spD K S_law_fits_of) :=
  ok_by T.F__law_fits_of sc__law_fits_of (fun _ _ _ h => by obtain ⟨_, rfl, _⟩ := h; rfl) (der__law_fits_of T) (by first | exact pure_law_fits_of | exact pure_law_fits_of T.hf | exact pure_law_fits_of T.hg | exact pure_law_fits_of T.hf T.hg)
theorem ok__law_most_of {P : Program} {w : World} {K : PySem.W.Frag} {mg : Str → Option Value} {base : Heap} (T : TX K mg) : FnOk P w K mg base CX0 2 (ga K "_law_most_of") T.fd__law_most_of ["_law_rows_here", "_law_stock_here"] (spD K S_law_most_of) :=
  ok_by T.F__law_most_of sc__law_most_of (fun _ _ _ h => by obtain ⟨_, _, _, rfl, _⟩ := h; rfl) (der__law_most_of T (ok__law_held T) (ok__law_fits_of T)) (by first | exact pure_law_most_of | exact pure_law_most_of T.hf | exact pure_law_most_of T.hg | exact pure_law_most_of T.hf T.hg)
theorem ok__law_dealt {P : Program} {w : World} {K : PySem.W.Frag} {mg : Str → Option Value} {base : Heap} (T : TX K mg) : FnOk P w K mg base CX0 3 (ga K "_law_dealt") T.fd__law_dealt ["_law_rows_here", "_law_stock_here"] (spD K S_law_dealt) :=
  ok_by T.F__law_dealt sc__law_dealt (fun _ _ _ h => by obtain ⟨_, _, _, rfl, _⟩ := h; rfl) (der__law_dealt T (ok__law_most_of T)) (by first | exact pure_law_dealt | exact pure_law_dealt T.hf | exact pure_law_dealt T.hg | exact pure_law_dealt T.hf T.hg)
theorem ok_Line_names {P : Program} {w : World} {K : PySem.W.Frag} {mg : Str → Option Value} {base : Heap} (T : TX K mg) : FnOk P w K mg base CX0 1 (ma K (ga K "Line") "names") T.fd_Line_names ["self"] (spD K (S_Line_names K)) :=
  ok_by T.F_Line_names sc_Line_names (fun _ _ _ h => by obtain ⟨_, rfl, _⟩ := h; rfl) (der_Line_names T) (by first | exact pure_Line_names | exact pure_Line_names T.hf | exact pure_Line_names T.hg | exact pure_Line_names T.hf T.hg)
theorem ok_check_names {P : Program} {w : World} {K : PySem.W.Frag} {mg : Str → Option Value} {base : Heap} (T : TX K mg) : FnOk P w K mg base CX0 3 (ga K "check_names") T.fd_check_names ["line", "names"] (spD K (S_check_names K)) :=
  ok_by T.F_check_names sc_check_names (fun _ _ _ h => by obtain ⟨_, _, _, rfl, _⟩ := h; rfl) (der_check_names T (ok_Line_names T) (ok_are_names T)) (by first | exact pure_check_names | exact pure_check_names T.hf | exact pure_check_names T.hg | exact pure_check_names T.hf T.hg)
theorem ok_most_together {P : Program} {w : World} {K : PySem.W.Frag} {mg : Str → Option Value} {base : Heap} (T : TX K mg) : FnOk P w K mg base CX0 7 (ga K "most_together") T.fd_most_together ["rows", "stock"] (spD K S_most_together) :=
  ok_by T.F_most_together sc_most_together (fun _ _ _ h => by obtain ⟨_, _, _, rfl, _⟩ := h; rfl) (der_most_together T (ok_Giving___init__ T) (ok_mosts_of T)) (by first | exact pure_most_together | exact pure_most_together T.hf | exact pure_most_together T.hg | exact pure_most_together T.hf T.hg)
theorem ok_check_known {P : Program} {w : World} {K : PySem.W.Frag} {mg : Str → Option Value} {base : Heap} (T : TX K mg) : FnOk P w K mg base CX0 2 (ga K "check_known") T.fd_check_known ["line", "name"] (spD K (S_check_known K)) :=
  ok_by T.F_check_known sc_check_known (fun _ _ _ h => by obtain ⟨_, _, rfl, _⟩ := h; rfl) (der_check_known T (ok_Line_names T)) (by first | exact pure_check_known | exact pure_check_known T.hf | exact pure_check_known T.hg | exact pure_check_known T.hf T.hg)
theorem ok_Line_place {P : Program} {w : World} {K : PySem.W.Frag} {mg : Str → Option Value} {base : Heap} (T : TX K mg) : FnOk P w K mg base CX0 3 (ma K (ga K "Line") "place") T.fd_Line_place ["self", "name"] (spD K (S_Line_place K)) :=
  ok_by T.F_Line_place sc_Line_place (fun _ _ _ h => by obtain ⟨_, _, _, rfl, _⟩ := h; rfl) (der_Line_place T (ok_Line_names T) (ok_check_known T)) (by first | exact pure_Line_place | exact pure_Line_place T.hf | exact pure_Line_place T.hg | exact pure_Line_place T.hf T.hg)
theorem ok_rows_of {P : Program} {w : World} {K : PySem.W.Frag} {mg : Str → Option Value} {base : Heap} (T : TX K mg) : FnOk P w K mg base CX0 4 (ga K "rows_of") T.fd_rows_of ["line", "names"] (spD K (S_rows_of K)) :=
  ok_by T.F_rows_of sc_rows_of (fun _ _ _ h => by obtain ⟨_, _, _, rfl, _⟩ := h; rfl) (der_rows_of T (ok_Line_place T)) (by first | exact pure_rows_of | exact pure_rows_of T.hf | exact pure_rows_of T.hg | exact pure_rows_of T.hf T.hg)
theorem ok_together {P : Program} {w : World} {K : PySem.W.Frag} {mg : Str → Option Value} {base : Heap} (T : TX K mg) : FnOk P w K mg base CX0 8 (ga K "together") T.fd_together ["line", "names", "stock"] (spD K (S_together K)) :=
  ok_by T.F_together sc_together (fun _ _ _ h => by obtain ⟨_, _, _, _, _, rfl, _⟩ := h; rfl) (der_together T (ok_most_together T) (ok_rows_of T) (ok_check_stock T) (ok_check_names T) (ok_check_line T)) (by first | exact pure_together | exact pure_together T.hf | exact pure_together T.hg | exact pure_together T.hf T.hg)
theorem ok_due {P : Program} {w : World} {K : PySem.W.Frag} {mg : Str → Option Value} {base : Heap} (T : TX K mg) : FnOk P w K mg base CX0 7 (ga K "due") T.fd_due ["line", "name", "elders", "stock"] (spD K (S_due K)) :=
  ok_by T.F_due sc_due (fun _ _ _ h => by obtain ⟨_, _, _, _, _, rfl, _⟩ := h; rfl) (der_due T (ok_Giving___init__ T) (ok_rows_of T) (ok_mosts_of T) (ok_check_stock T) (ok_check_names T) (ok_Line_place T) (ok_check_line T)) (by first | exact pure_due | exact pure_due T.hf | exact pure_due T.hg | exact pure_due T.hf T.hg)
theorem ok__law_lots_right {P : Program} {w : World} {K : PySem.W.Frag} {mg : Str → Option Value} {base : Heap} (T : TX K mg) : FnG P w K mg base 9 (ga K "_law_lots_right") T.fd__law_lots_right ["_law_purse_here", "_law_rows_here", "_law_line", "_law_stock_here"] (spD K (S_law_lots_right K)) :=
  ok_byG T.F__law_lots_right sc__law_lots_right (fun _ _ _ h => by obtain ⟨_, _, _, _, _, _, rfl, _⟩ := h; rfl) (der__law_lots_right T (ok_due T) (ok__law_most_of T) (ok_together T) (ok__law_shuffled T) (ok__law_draw T)) (by first | exact pure_law_lots_right | exact pure_law_lots_right T.hf | exact pure_law_lots_right T.hg | exact pure_law_lots_right T.hf T.hg)
theorem ok__law_right {P : Program} {w : World} {K : PySem.W.Frag} {mg : Str → Option Value} {base : Heap} (T : TX K mg) : FnG P w K mg base 10 (ga K "_law_right") T.fd__law_right ["_law_purse_here", "_law_rows_here", "_law_stock_here"] (spD K S_law_right) :=
  ok_byG T.F__law_right sc__law_right (fun _ _ _ h => by obtain ⟨_, _, _, _, _, _, rfl, _⟩ := h; rfl) (der__law_right T (ok_deal T) (ok__law_dealt T) (ok__law_lots_right T) (ok__law_line_of T)) (by first | exact pure_law_right | exact pure_law_right T.hf | exact pure_law_right T.hg | exact pure_law_right T.hf T.hg)
theorem ok_law {P : Program} {w : World} {K : PySem.W.Frag} {mg : Str → Option Value} {base : Heap} (T : TX K mg) : FnG P w K mg base 11 (ga K "law") T.fd_law ["_law_script"] (spD K S_law) :=
  ok_byG T.F_law sc_law (fun _ _ _ h => by obtain ⟨_, rfl, _⟩ := h; rfl) (der_law T (ok__law_purses T) (ok__law_right T) (ok__law_shuffled T) (ok_deal T) (ok__law_dealt T) (ok__law_one_of T) (ok__law_line_of T) (ok__law_rows T) (ok__law_stock T) (ok__law_kinds T)) (by first | exact pure_law | exact pure_law T.hf | exact pure_law T.hg | exact pure_law T.hf T.hg)
theorem facts {P : Program} {w : World} {K : PySem.W.Frag} {h : Heap} {mg : Str → Option Value} {f : Addr} (X : K.In h) (G : h.Ns mainGlobals mg) (hfa : mg ("law" : Str) = some (.ref f)) (c : Says exs fns K) :
    ∃ fd : FuncData, (∀ (s : Shared) (v : Value), BindsTo s fd ⟨[v], []⟩ [("_law_script", v)]) ∧ ∀ base : Heap, K.In base → base.Ns mainGlobals mg → FnG P w K mg base 11 f fd ["_law_script"] (spD K S_law) := by
  obtain ⟨T⟩ := tx_of X G c
  have e := hfa.symm.trans T.g_law
  cases e
  have b := FunD.bindsA (ps := ["_law_script"]) T.F_law fun _ _ _ _ _ _ us hl => match us, hl with | [_], _ => rfl
  exact ⟨T.fd_law, fun s v => b s [v] rfl, fun base _ _ => ok_law T⟩
theorem sp_law {K : PySem.W.Frag} (H : Hp) (a : Addr) (ns : List Int) (hl : ns.length ≤ 63) (hS : SqL K H a (ns.map V.int)) : spD K S_law [.ref a] H (fun v _ => v = .bl true) fun _ _ _ => False :=
  ⟨⟨fun _ => 0, 0, H⟩, fun _ => none, [.scr ns], fun d _ => d = .bl true, ⟨fun _ _ e => e, (fun _ _ e => nomatch e), (fun _ _ e _ _ => absurd rfl e)⟩, .cons (.scr hS) .nil, ⟨ns, rfl, by omega, fun _ => rfl⟩, fun v H' d W' m' _ r e => by subst e; exact rep_bl r⟩
end K10
open PySem PySem.W PySem.Calls PyProof.Rows
theorem PySem.Challenge.cw_elderlink_k10_whole_deals_holds : PySem.Challenge.rw_elderlink_k10_whole_deals.Holds := by
  w_on; o_law
  refine HandSHeadRun.head_any (r := OpenLaw.row PySem.Challenge.rw_elderlink_k10_whole_deals) (q := view (OpenLaw.row PySem.Challenge.rw_elderlink_k10_whole_deals).prog [51]) (H := K10.hk) (ob := K10.ob) (M := 8000) (loose := K10.looseN) (d := HandSHeadRun.topDef (OpenLaw.row PySem.Challenge.rw_elderlink_k10_whole_deals).prog 51) (kwd := []) K10.ob_eq
    (by kernel_rfl) (fun s => by kernel_rfl) K10.run (by kernel_rfl) (by kernel_rfl) (by kernel_rfl) (by rfl) (by first | assumption | decide +kernel) (by decide +kernel) ⟨rfl, rfl, rfl, rfl, rfl, by decide +kernel⟩ ?hw ?hc
  case hw => w_witness2
  case hc =>
    refine DL.walkG (l := PySem.Challenge.rw_elderlink_k10_whole_deals) (n := 63) (k := 11) (x := "_law_script") rfl (by decide) (by kernel_rfl) ⟨rfl, by decide, by decide⟩ ?F 
    intro w mg fa h Y G hmg0
    obtain ⟨K, KX, c⟩ := Y
    have hmg : mg ("law" : PySem.Str) = some (.ref fa) := by
      have e : (HandSHeadRun.topDef (OpenLaw.row PySem.Challenge.rw_elderlink_k10_whole_deals).prog 51).name = ("law" : PySem.Str) := by kernel_rfl
      rw [← e]
      exact hmg0
    obtain ⟨fd, hb, hF⟩ := K10.facts (P := (PySem.Challenge.rw_elderlink_k10_whole_deals).prog) (w := w) KX G hmg c
    exact ⟨K, fd, DL.spD K HL.S_law, KX, hb, fun H a ns hl hS => K10.sp_law H a ns hl hS, hF⟩
