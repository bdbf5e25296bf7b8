import PyProof.Rows.All
import Wide.All
import OpenK.AllK
import Wide.FinOn
import HandS.ForMost
import HandS.Codes
import HandS.Gcd
import HandS.IsInst
import HandS.TupAny
import HandS.TupMul
import HandS.Wide
import HandS.Conv
import HandS.TryOnly
import HandS.Zip
import PySem.Challenge.RW_inkplane_k30_trees_of_squares
set_option Elab.async false
set_option linter.all false
set_option maxRecDepth 100000
/-! My own layer over the readings: pure environments, owned objects, big steps. -/
namespace DL
open PySem PySem.Spec PyProof.Rows L2

abbrev D := PyData
abbrev St := L2.St

/-! ### data stand as the heap grows -/
def Ex (H H' : Hp) : Prop := ∀ a o, H a = some o → H' a = some o
theorem Ex.refl (H : Hp) : Ex H H := fun _ _ h => h
theorem Ex.trans {H H1 H2 : Hp} (a : Ex H H1) (b : Ex H1 H2) : Ex H H2 := fun x o h => b x o (a x o h)
theorem ex_rd {H H' : Hp} {a : Addr} {u : HO} (e : Ex H H') (h : Rd H a u) : Rd H' a u := by
  rcases h with h | ⟨o, h⟩
  · exact .inl (e a _ h)
  · exact .inr ⟨o, e a _ h⟩
theorem ex_l {K : PySem.W.Frag} {H H' : Hp} {a : Addr} {xs : List V} (e : Ex H H') (h : SqL K H a xs) : SqL K H' a xs := h.elim (fun h => .inl (ex_rd e h)) .inr
theorem ex_t {K : PySem.W.Frag} {H H' : Hp} {a : Addr} {xs : List V} (e : Ex H H') (h : SqT K H a xs) : SqT K H' a xs := h.elim (fun h => .inl (ex_rd e h)) .inr
theorem Ex.new {H : Hp} {p : Addr} {o : HO} (h : H p = none) : Ex H (upd H p o) := fun a u e => by
  rw [upd_ne (ne_of_none e h)]
  exact e

mutual
theorem dp_mono {K : PySem.W.Frag} {F F' : Hp} (e : Ex F F') : ∀ {d : D} {v : V}, Dp K F v d → Dp K F' v d
  | _, _, .non => .non
  | _, _, .bl b => .bl b
  | _, _, .int i => .int i
  | _, _, .str x => .str x
  | _, _, .lst hs ha => .lst (ex_l e hs) (dpa_mono e ha)
  | _, _, .tup hs ha => .tup (ex_t e hs) (dpa_mono e ha)
theorem dpa_mono {K : PySem.W.Frag} {F F' : Hp} (e : Ex F F') : ∀ {ds : List D} {vs : List V}, DpAll K F vs ds → DpAll K F' vs ds
  | _, _, .nil => .nil
  | _, _, .cons h t => .cons (dp_mono e h) (dpa_mono e t)
end
end DL
namespace L2
open PySem PySem.Spec PyProof.Rows
theorem DpAll.length {K : PySem.W.Frag} {F : Hp} : ∀ {vs : List V} {ds : List PyData}, DpAll K F vs ds → vs.length = ds.length
  | _, _, .nil => rfl
  | _, _, .cons _ t => congrArg (· + 1) (DpAll.length t)
theorem DpAll.get {K : PySem.W.Frag} {F : Hp} : ∀ {vs : List V} {ds : List PyData} {i : Nat} {d : PyData}, DpAll K F vs ds → ds[i]? = some d → ∃ v, vs[i]? = some v ∧ Dp K F v d
  | _, _, _, _, .nil, e => by simp at e
  | _, _, 0, _, .cons h _, e => by
    have e' := Option.some.inj e
    subst e'
    exact ⟨_, rfl, h⟩
  | _, _, i + 1, d, .cons _ t, e => DpAll.get (i := i) (d := d) t e
theorem DpAll.getV {K : PySem.W.Frag} {F : Hp} : ∀ {vs : List V} {ds : List PyData} {i : Nat} {v : V}, DpAll K F vs ds → vs[i]? = some v → ∃ d, ds[i]? = some d ∧ Dp K F v d
  | _, _, _, _, .nil, e => by simp at e
  | _, _, 0, _, .cons h _, e => by
    have e' := Option.some.inj e
    subst e'
    exact ⟨_, rfl, h⟩
  | _, _, i + 1, v, .cons _ t, e => DpAll.getV (i := i) (v := v) t e
theorem DpAll.append {K : PySem.W.Frag} {F : Hp} : ∀ {vs ws : List V} {ds es : List PyData}, DpAll K F vs ds → DpAll K F ws es → DpAll K F (vs ++ ws) (ds ++ es)
  | _, _, _, _, .nil, s => s
  | _, _, _, _, .cons h t, s => .cons h (DpAll.append t s)
theorem DpAll.take {K : PySem.W.Frag} {F : Hp} : ∀ {vs : List V} {ds : List PyData} (n : Nat), DpAll K F vs ds → DpAll K F (vs.take n) (ds.take n)
  | _, _, 0, _ => .nil
  | _, _, _ + 1, .nil => .nil
  | _, _, n + 1, .cons h t => .cons h (DpAll.take n t)
theorem DpAll.drop {K : PySem.W.Frag} {F : Hp} : ∀ {vs : List V} {ds : List PyData} (n : Nat), DpAll K F vs ds → DpAll K F (vs.drop n) (ds.drop n)
  | _, _, 0, h => h
  | _, _, _ + 1, .nil => .nil
  | _, _, n + 1, .cons _ t => DpAll.drop n t
theorem DpAll.set {K : PySem.W.Frag} {F : Hp} {v : V} {d : PyData} (r : Dp K F v d) : ∀ {vs : List V} {ds : List PyData} (i : Nat), DpAll K F vs ds → DpAll K F (vs.set i v) (ds.set i d)
  | _, _, _, .nil => .nil
  | _, _, 0, .cons _ t => .cons r t
  | _, _, i + 1, .cons h t => .cons h (DpAll.set r i t)
theorem DpAll.reverse {K : PySem.W.Frag} {F : Hp} {vs : List V} {ds : List PyData} (h : DpAll K F vs ds) : DpAll K F vs.reverse ds.reverse := by
  induction vs generalizing ds with
  | nil =>
    cases h
    exact .nil
  | cons v vs ih =>
    cases h with
    | cons h t =>
      rw [List.reverse_cons, List.reverse_cons]
      exact DpAll.append (ih t) (.cons h .nil)

end L2
namespace DL
open PySem PySem.Spec PyProof.Rows L2
/-! ### pairs of a dict -/
inductive KD (K : PySem.W.Frag) (F : Hp) {κ : Type} : List (κ × V) → List (κ × D) → Prop
  | nil : KD K F [] []
  | cons {k : κ} {v : V} {d : D} {vs : List (κ × V)} {ds : List (κ × D)} : Dp K F v d → KD K F vs ds → KD K F ((k, v) :: vs) ((k, d) :: ds)
theorem KD.mono {K : PySem.W.Frag} {F F' : Hp} {κ : Type} (e : Ex F F') {vs : List (κ × V)} {ds : List (κ × D)} (h : KD K F vs ds) : KD K F' vs ds := by
  induction h with
  | nil => exact .nil
  | cons h _ ih => exact .cons (dp_mono e h) ih
/-- the value at a key -/
def kdGet {κ : Type} [DecidableEq κ] : List (κ × D) → κ → Option D
  | [], _ => none
  | (k', d) :: r, k => if k' = k then some d else kdGet r k
def kdPut {κ : Type} [DecidableEq κ] : List (κ × D) → κ → D → List (κ × D)
  | [], k, d => [(k, d)]
  | (k', d') :: r, k, d => if k' = k then (k', d) :: r else (k', d') :: kdPut r k d

/-! ### objects that are owned by a name -/
inductive O where
  | L (ds : List D)
  | K (kvs : List (Key × D))
def RepO (K : PySem.W.Frag) (F : Hp) : O → HO → Prop
  | .L ds, ho => ∃ vs, ho = .lst vs ∧ DpAll K F vs ds
  | .K kvs, ho => ∃ ws, ho = .dK ws ∧ (ws.map (·.1)).Nodup ∧ KD K F ws kvs
theorem RepO.mono {K : PySem.W.Frag} {F F' : Hp} (e : Ex F F') : ∀ {o : O} {ho : HO}, RepO K F o ho → RepO K F' o ho
  | .L _, _, ⟨vs, h, a⟩ => ⟨vs, h, dpa_mono e a⟩
  | .K _, _, ⟨vs, h, n, a⟩ => ⟨vs, h, n, a.mono e⟩

/-- a slot: unknown, fixed data, an object (own: made in this def, or handed in) -/
inductive Sl where
  | no
  | fr (d : D)
  | ob (own : Bool) (o : O)
abbrev Dn := List Sl

structure EnvOk (K : PySem.W.Frag) (E F H : Hp) (δ : List Sl) (σ : List (Option V)) : Prop where
  ex : Ex F H
  dom : ∀ a, H a = none → E a = none
  len : σ.length = δ.length
  fr : ∀ (i : Nat) (d : D), δ[i]? = some (.fr d) → ∃ v, σ[i]? = some (some v) ∧ Dp K F v d
  ob : ∀ (i : Nat) (b : Bool) (o : O), δ[i]? = some (.ob b o) → ∃ p ho, σ[i]? = some (some (.ref p)) ∧ F p = none ∧ H p = some ho ∧ RepO K F o ho ∧ (b = true → E p = none)
  dj : ∀ (i j : Nat) (b : Bool) (o : O) (b' : Bool) (o' : O) (p : Addr), δ[i]? = some (.ob b o) → δ[j]? = some (.ob b' o') → σ[i]? = some (some (.ref p)) → σ[j]? = some (some (.ref p)) → i = j
/-- the addresses of the objects that the names own -/
def Hot (δ : List Sl) (σ : List (Option V)) (a : Addr) : Prop := ∃ (i : Nat) (b : Bool) (o : O), δ[i]? = some (.ob b o) ∧ σ[i]? = some (some (.ref a))
theorem EnvOk.hotF {K : PySem.W.Frag} {E F H : Hp} {δ : List Sl} {σ : List (Option V)} (e : EnvOk K E F H δ σ) {a : Addr} (h : Hot δ σ a) : F a = none ∧ ∃ ho, H a = some ho := by
  obtain ⟨i, b, o, h1, h2⟩ := h
  obtain ⟨p, ho, q1, q2, q3, _⟩ := e.ob i b o h1
  rw [h2] at q1
  cases q1
  exact ⟨q2, ho, q3⟩

structure Grow (F H : Hp) (δ : List Sl) (σ : List (Option V)) (F2 H2 : Hp) (δ2 : List Sl) (σ2 : List (Option V)) : Prop where
  f : Ex F F2
  k : ∀ a, H a ≠ none → ¬ Hot δ σ a → F2 a = F a
  h : ∀ a o, H a = some o → ¬ Hot δ σ a → H2 a = some o
  n : ∀ a, Hot δ2 σ2 a → Hot δ σ a ∨ H a = none
  dm : ∀ a, H2 a = none → H a = none
  pr : ∀ (i : Nat) (o : O), δ[i]? = some (.ob false o) → (∃ o', δ2[i]? = some (.ob false o')) ∧ σ2[i]? = σ[i]?
theorem Grow.refl {F H : Hp} {δ : List Sl} {σ : List (Option V)} : Grow F H δ σ F H δ σ :=
  ⟨Ex.refl F, fun _ _ _ => rfl, fun _ _ e _ => e, fun _ h => .inl h, fun _ h => h, fun _ o h => ⟨⟨o, h⟩, rfl⟩⟩
theorem Grow.trans {F H F1 H1 F2 H2 : Hp} {δ δ1 δ2 : List Sl} {σ σ1 σ2 : List (Option V)} (a : Grow F H δ σ F1 H1 δ1 σ1) (b : Grow F1 H1 δ1 σ1 F2 H2 δ2 σ2) : Grow F H δ σ F2 H2 δ2 σ2 where
  f := a.f.trans b.f
  k := fun x h n => by
    have h1 : H1 x ≠ none := fun z => h (a.dm x z)
    have n1 : ¬ Hot δ1 σ1 x := fun z => (a.n x z).elim n h
    rw [b.k x h1 n1, a.k x h n]
  h := fun x o e n => by
    have n1 : ¬ Hot δ1 σ1 x := fun z => (a.n x z).elim n fun q => by rw [e] at q; cases q
    exact b.h x o (a.h x o e n) n1
  n := fun x z => (b.n x z).elim (a.n x) fun q => .inr (a.dm x q)
  dm := fun x z => a.dm x (b.dm x z)
  pr := fun i o h => by
    obtain ⟨⟨o1, h1⟩, e1⟩ := a.pr i o h
    obtain ⟨h2, e2⟩ := b.pr i o1 h1
    exact ⟨h2, e2.trans e1⟩

/-- nothing but new objects -/
structure Alloc (F H F2 H2 : Hp) : Prop where
  k : ∀ a, H a ≠ none → F2 a = F a
  h : Ex H H2
  ex : Ex F2 H2
  f : Ex F F2
theorem Alloc.refl {F H : Hp} (e : Ex F H) : Alloc F H F H := ⟨fun _ _ => rfl, Ex.refl H, e, Ex.refl F⟩
theorem Alloc.trans {F H F1 H1 F2 H2 : Hp} (a : Alloc F H F1 H1) (b : Alloc F1 H1 F2 H2) : Alloc F H F2 H2 := by
  refine ⟨fun x h => ?_, a.h.trans b.h, b.ex, a.f.trans b.f⟩
  have h1 : H1 x ≠ none := fun z => by
    cases q : H x with
    | none => exact h q
    | some o =>
      rw [a.h x o q] at z
      cases z
  rw [b.k x h1, a.k x h]
theorem nn_ex {H H2 : Hp} (e : Ex H H2) {a : Addr} (h : H2 a = none) : H a = none := by
  cases q : H a with
  | none => rfl
  | some o =>
    rw [e a o q] at h
    cases h
/-- a new fixed object -/
theorem Alloc.new {F H : Hp} (e : Ex F H) {p : Addr} {o : HO} (h : H p = none) : Alloc F H (upd F p o) (upd H p o) := by
  refine ⟨fun x hx => ?_, Ex.new h, fun x u hu => ?_, Ex.new (nn_ex e h)⟩
  · rw [upd_ne fun z => hx (by rw [z]; exact h)]
  · by_cases hx : x = p
    · subst hx
      rw [upd_same] at hu ⊢
      exact hu
    · rw [upd_ne hx] at hu ⊢
      exact e x u hu
/-- a new object that is not fixed -/
theorem Alloc.own {F H : Hp} (e : Ex F H) {p : Addr} {o : HO} (h : H p = none) : Alloc F H F (upd H p o) :=
  ⟨fun _ _ => rfl, Ex.new h, e.trans (Ex.new h), Ex.refl F⟩
theorem Alloc.env {K : PySem.W.Frag} {E F H F2 H2 : Hp} {δ : List Sl} {σ : List (Option V)} (a : Alloc F H F2 H2) (e : EnvOk K E F H δ σ) : EnvOk K E F2 H2 δ σ where
  ex := a.ex
  dom := fun x h => e.dom x (nn_ex a.h h)
  len := e.len
  fr := fun i d h => by
    obtain ⟨v, h1, h2⟩ := e.fr i d h
    exact ⟨v, h1, dp_mono a.f h2⟩
  ob := fun i b o h => by
    obtain ⟨p, ho, h1, h2, h3, h4, h5⟩ := e.ob i b o h
    exact ⟨p, ho, h1, by rw [a.k p (by rw [h3]; exact fun z => nomatch z)]; exact h2, a.h p ho h3, h4.mono a.f, h5⟩
  dj := e.dj
theorem Alloc.grow {F H F2 H2 : Hp} {δ : List Sl} {σ : List (Option V)} (a : Alloc F H F2 H2) : Grow F H δ σ F2 H2 δ σ :=
  ⟨a.f, fun x h _ => a.k x h, fun x o h _ => a.h x o h, fun _ h => .inl h, fun _ h => nn_ex a.h h, fun _ o h => ⟨⟨o, h⟩, rfl⟩⟩

/-! ### what an expression gives -/
inductive R where
  | fr (d : D)
  | new (o : O)
  | al (i : Nat)
def RepR (K : PySem.W.Frag) (F H : Hp) (δ : List Sl) (σ : List (Option V)) : R → V → Prop
  | .fr d, v => Dp K F v d
  | .new o, v => ∃ p ho, v = .ref p ∧ F p = none ∧ H p = some ho ∧ RepO K F o ho ∧ ¬ Hot δ σ p
  | .al i, v => σ[i]? = some (some v) ∧ ∃ b o, δ[i]? = some (.ob b o)
/-- a new object was not there ahead -/
def Fresh (H : Hp) : R → V → Prop
  | .new _, v => ∀ p, v = .ref p → H p = none
  | _, _ => True
theorem Fresh.back {H H1 : Hp} (dm : ∀ a, H1 a = none → H a = none) : ∀ {r : R} {v : V}, Fresh H1 r v → Fresh H r v
  | .fr _, _, _ => trivial
  | .al _, _, _ => trivial
  | .new _, _, h => fun p e => dm p (h p e)
def kind : Sl → Sl
  | .no => .no
  | .fr d => .fr d
  | .ob b _ => .ob b (.L [])
def SameK (δ δ' : List Sl) : Prop := δ'.map kind = δ.map kind
theorem SameK.refl (δ : List Sl) : SameK δ δ := rfl
theorem SameK.trans {δ δ1 δ2 : List Sl} (a : SameK δ δ1) (b : SameK δ1 δ2) : SameK δ δ2 := Eq.trans b a
theorem SameK.symm {δ δ1 : List Sl} (a : SameK δ δ1) : SameK δ1 δ := Eq.symm a
theorem SameK.ob {δ δ' : List Sl} (s : SameK δ δ') {i : Nat} {b : Bool} {o : O} (h : δ[i]? = some (.ob b o)) : ∃ o', δ'[i]? = some (.ob b o') := by
  have e : (δ'.map kind)[i]? = (δ.map kind)[i]? := by rw [s]
  rw [List.getElem?_map, List.getElem?_map, h] at e
  cases q : δ'[i]? with
  | none =>
    rw [q] at e
    cases e
  | some x =>
    rw [q] at e
    cases x with
    | no => cases e
    | fr d => cases e
    | ob b' o' =>
      have e' := Option.some.inj e
      injection e' with e1 _
      subst e1
      exact ⟨o', rfl⟩
theorem SameK.fr {δ δ' : List Sl} (s : SameK δ δ') {i : Nat} {d : D} (h : δ[i]? = some (.fr d)) : δ'[i]? = some (.fr d) := by
  have e : (δ'.map kind)[i]? = (δ.map kind)[i]? := by rw [s]
  rw [List.getElem?_map, List.getElem?_map, h] at e
  cases q : δ'[i]? with
  | none =>
    rw [q] at e
    cases e
  | some x =>
    rw [q] at e
    cases x with
    | no => cases e
    | ob _ _ => cases e
    | fr d' =>
      have e' : Sl.fr d' = Sl.fr d := Option.some.inj e
      rw [e']
theorem SameK.hot {δ δ' : List Sl} {σ : List (Option V)} {a : Addr} (s : SameK δ δ') : Hot δ σ a → Hot δ' σ a := fun ⟨i, b, o, h, e⟩ => by
  obtain ⟨o', h'⟩ := s.ob h
  exact ⟨i, b, o', h', e⟩
/-- what was seen stands -/
theorem RepR.keep {K : PySem.W.Frag} {F H F2 H2 : Hp} {δ δ2 : List Sl} {σ : List (Option V)} (g : Grow F H δ σ F2 H2 δ2 σ) (s : SameK δ δ2) : ∀ {r : R} {v : V}, RepR K F H δ σ r v → RepR K F2 H2 δ2 σ r v
  | .fr _, _, h => dp_mono g.f h
  | .al _, _, ⟨h1, b, o, h2⟩ => ⟨h1, b, s.ob h2⟩
  | .new _, _, ⟨p, ho, e, h1, h2, h3, h4⟩ => by
    refine ⟨p, ho, e, ?_, g.h p ho h2 h4, h3.mono g.f, fun z => ?_⟩
    · rw [g.k p (by rw [h2]; exact fun z => nomatch z) h4]
      exact h1
    · rcases g.n p z with q | q
      · exact h4 q
      · rw [h2] at q
        cases q

def EvJ (K : PySem.W.Frag) (te : TE) (δ : List Sl) (r : R) (δ' : List Sl) : Prop :=
  SameK δ δ' ∧ ∀ (E F H : Hp) (σ : List (Option V)) (Q : VK), EnvOk K E F H δ σ →
    (∀ v F2 H2, EnvOk K E F2 H2 δ' σ → Grow F H δ σ F2 H2 δ' σ → RepR K F2 H2 δ' σ r v → Fresh H r v → Q v H2) → te σ H Q
def TtJ (K : PySem.W.Frag) (tt : TT) (δ : List Sl) (b : Bool) (δ' : List Sl) : Prop :=
  SameK δ δ' ∧ ∀ (E F H : Hp) (σ : List (Option V)) (Q : Bool → Hp → Prop), EnvOk K E F H δ σ →
    (∀ F2 H2, EnvOk K E F2 H2 δ' σ → Grow F H δ σ F2 H2 δ' σ → Q b H2) → tt σ H Q
/-- what several expressions give -/
inductive RepRs (K : PySem.W.Frag) (F H : Hp) (δ : List Sl) (σ : List (Option V)) : List R → List V → Prop
  | nil : RepRs K F H δ σ [] []
  | cons {r : R} {v : V} {rs : List R} {vs : List V} : RepR K F H δ σ r v → RepRs K F H δ σ rs vs → (∀ (o : O) (p : Addr), r = .new o → v = .ref p → ∀ (j : Nat) (o' : O), rs[j]? = some (.new o') → vs[j]? ≠ some (.ref p)) → RepRs K F H δ σ (r :: rs) (v :: vs)
def EvA (K : PySem.W.Frag) (ta : TA) (δ : List Sl) (rs : List R) (δ' : List Sl) : Prop :=
  SameK δ δ' ∧ ∀ (E F H : Hp) (σ : List (Option V)) (Q : List V → Hp → Prop), EnvOk K E F H δ σ →
    (∀ vs F2 H2, EnvOk K E F2 H2 δ' σ → Grow F H δ σ F2 H2 δ' σ → RepRs K F2 H2 δ' σ rs vs → (∀ (j : Nat) (r : R) (v : V), rs[j]? = some r → vs[j]? = some v → Fresh H r v) → Q vs H2) → ta σ H Q

section
variable {K : PySem.W.Frag} {δ δ1 δ2 δ3 : List Sl} {ta tb tc te : TE} {r r1 r2 : R} {d d1 d2 : D} {v : V}
theorem ev_var {i : Nat} (h : δ[i]? = some (.fr d)) : EvJ K (tVar i) δ (.fr d) δ := ⟨SameK.refl δ, fun _ F H σ Q e q => by
  obtain ⟨v, h1, h2⟩ := e.fr i d h
  exact ⟨v, h1, q v F H e Grow.refl h2 trivial⟩⟩
theorem ev_varO {i : Nat} {b : Bool} {o : O} (h : δ[i]? = some (.ob b o)) : EvJ K (tVar i) δ (.al i) δ := ⟨SameK.refl δ, fun _ F H σ Q e q => by
  obtain ⟨p, ho, h1, _⟩ := e.ob i b o h
  exact ⟨_, h1, q _ F H e Grow.refl ⟨h1, b, o, h⟩ trivial⟩⟩
theorem ev_c (h : ∀ F, Dp K F v d) : EvJ K (tC v) δ (.fr d) δ := ⟨SameK.refl δ, fun _ F H _ _ e q => q v F H e Grow.refl (h F) trivial⟩
theorem ev_int {i : Int} : EvJ K (tC (.int i)) δ (.fr (.int i)) δ := ev_c fun _ => .int i
theorem ev_bl {b : Bool} : EvJ K (tC (.bl b)) δ (.fr (.bool b)) δ := ev_c fun _ => .bl b
theorem ev_str {x : Str} : EvJ K (tC (.str x)) δ (.fr (.str x)) δ := ev_c fun _ => .str x
theorem ev_non : EvJ K (tC .non) δ (.fr .none) δ := ev_c fun _ => .non
theorem EvJ.conv (h : EvJ K te δ (.fr d) δ1) (e : d = d1) : EvJ K te δ (.fr d1) δ1 := e ▸ h
theorem EvJ.cast {r' : R} (h : EvJ K te δ r δ1) (e : r = r') : EvJ K te δ r' δ1 := e ▸ h

/-- a rule on one value -/
def UnD (K : PySem.W.Frag) (u : V → Hp → VK → Prop) (r : R) (δ : List Sl) (r' : R) : Prop :=
  ∀ (E F H : Hp) (σ : List (Option V)) (v : V) (Q : VK), EnvOk K E F H δ σ → RepR K F H δ σ r v → (∀ w F2 H2, Alloc F H F2 H2 → RepR K F2 H2 δ σ r' w → Fresh H r' w → Q w H2) → u v H Q
/-- a rule on two values -/
def OpD (K : PySem.W.Frag) (f : R2) (r1 r2 : R) (δ : List Sl) (r' : R) : Prop :=
  ∀ (E F H : Hp) (σ : List (Option V)) (x y : V) (Q : VK), EnvOk K E F H δ σ → RepR K F H δ σ r1 x → RepR K F H δ σ r2 y → (∀ w F2 H2, Alloc F H F2 H2 → RepR K F2 H2 δ σ r' w → Fresh H r' w → Q w H2) → f x y H Q
/-- a rule on the values of arguments -/
def CaD (K : PySem.W.Frag) (f : List V → Hp → VK → Prop) (rs : List R) (δ : List Sl) (r' : R) : Prop :=
  ∀ (E F H : Hp) (σ : List (Option V)) (vs : List V) (Q : VK), EnvOk K E F H δ σ → RepRs K F H δ σ rs vs → (∀ w F2 H2, Alloc F H F2 H2 → RepR K F2 H2 δ σ r' w → Fresh H r' w → Q w H2) → f vs H Q
theorem ev_un {u : V → Hp → VK → Prop} (ha : EvJ K ta δ r δ1) (hu : UnD K u r δ1 r1) : EvJ K (tUn u ta) δ r1 δ1 := ⟨ha.1, fun E F H σ Q e q =>
  ha.2 E F H σ _ e fun v F2 H2 e2 g2 h2 _ => hu E F2 H2 σ v Q e2 h2 fun w F3 H3 al rw fw => q w F3 H3 (al.env e2) (g2.trans al.grow) rw (fw.back g2.dm)⟩
theorem ev_op {f : R2} {r' : R} (ha : EvJ K ta δ r1 δ1) (hb : EvJ K tb δ1 r2 δ2) (ho : OpD K f r1 r2 δ2 r') : EvJ K (tOp f ta tb) δ r' δ2 := ⟨ha.1.trans hb.1, fun E F H σ Q e q =>
  ha.2 E F H σ _ e fun v F2 H2 e2 g2 h2 _ => hb.2 E F2 H2 σ _ e2 fun u F3 H3 e3 g3 h3 _ => ho E F3 H3 σ v u Q e3 (h2.keep g3 hb.1) h3 fun w F4 H4 al rw fw =>
    q w F4 H4 (al.env e3) ((g2.trans g3).trans al.grow) rw (fw.back (g2.trans g3).dm)⟩
theorem ea_nil : EvA K tNil δ [] δ := ⟨SameK.refl δ, fun _ F H _ _ e q => q [] F H e Grow.refl .nil (fun j r v h _ => by simp at h)⟩
theorem ea_cons {t : TA} {rs : List R} (ha : EvJ K ta δ r δ1) (ht : EvA K t δ1 rs δ2) : EvA K (tCons ta t) δ (r :: rs) δ2 := ⟨ha.1.trans ht.1, fun E F H σ Q e q =>
  ha.2 E F H σ _ e fun v F2 H2 e2 g2 h2 f2 => ht.2 E F2 H2 σ _ e2 fun vs F3 H3 e3 g3 h3 f3 => q (v :: vs) F3 H3 e3 (g2.trans g3) (.cons (h2.keep g3 ht.1) h3 (fun o p e1 e2' j o' hj hv => by
    subst e1
    obtain ⟨p', ho, ev, _, hp, _⟩ := h2
    rw [e2'] at ev
    cases ev
    have := f3 j _ _ hj hv p rfl
    rw [hp] at this
    cases this)) (fun j r' v' hr hv => by
      cases j with
      | zero =>
        cases hr
        cases hv
        exact f2
      | succ j => exact (f3 j r' v' hr hv).back g2.dm)⟩
theorem ev_cb {f : List V → Hp → VK → Prop} {t : TA} {rs : List R} (ha : EvA K t δ rs δ1) (hc : CaD K f rs δ1 r) : EvJ K (tCB f t) δ r δ1 := ⟨ha.1, fun E F H σ Q e q =>
  ha.2 E F H σ _ e fun vs F2 H2 e2 g2 h2 _ => hc E F2 H2 σ vs Q e2 h2 fun w F3 H3 al rw fw => q w F3 H3 (al.env e2) (g2.trans al.grow) rw (fw.back g2.dm)⟩
theorem ev_if {tt : TT} {b : Bool} (hc : TtJ K tt δ b δ1) (h1 : b = true → EvJ K ta δ1 r δ2) (h2 : b = false → EvJ K tb δ1 r δ2) : EvJ K (tIf tt ta tb) δ r δ2 := by
  cases b with
  | true =>
    have h := h1 rfl
    exact ⟨hc.1.trans h.1, fun E F H σ Q e q => hc.2 E F H σ _ e fun F2 H2 e2 g2 => by
      rw [if_pos rfl]
      exact h.2 E F2 H2 σ Q e2 fun v F3 H3 e3 g3 h3 f3 => q v F3 H3 e3 (g2.trans g3) h3 (f3.back g2.dm)⟩
  | false =>
    have h := h2 rfl
    exact ⟨hc.1.trans h.1, fun E F H σ Q e q => hc.2 E F H σ _ e fun F2 H2 e2 g2 => by
      rw [if_neg Bool.false_ne_true]
      exact h.2 E F2 H2 σ Q e2 fun v F3 H3 e3 g3 h3 f3 => q v F3 H3 e3 (g2.trans g3) h3 (f3.back g2.dm)⟩
/-- tests -/
theorem tt_B {b : Bool} (h : EvJ K te δ (.fr (.bool b)) δ1) : TtJ K (tB te) δ b δ1 := ⟨h.1, fun E F H σ Q e q => h.2 E F H σ _ e fun v F2 H2 e2 g2 h2 _ => by
  cases h2
  exact ⟨b, rfl, q F2 H2 e2 g2⟩⟩
theorem tt_test {b : Bool} (h : EvJ K te δ (.fr (.bool b)) δ1) : TtJ K (tTest te) δ b δ1 := ⟨h.1, fun E F H σ Q e q => h.2 E F H σ _ e fun v F2 H2 e2 g2 h2 _ => by
  cases h2
  exact ⟨b, rfl, q F2 H2 e2 g2⟩⟩
theorem tt_not {tt : TT} {b : Bool} (h : TtJ K tt δ b δ1) : TtJ K (tNot tt) δ (!b) δ1 := ⟨h.1, fun E F H σ Q e q => h.2 E F H σ _ e q⟩
theorem tt_and {t u : TT} {a b : Bool} (h1 : TtJ K t δ a δ1) (h2 : a = true → TtJ K u δ1 b δ2) (h3 : a = false → δ2 = δ1) : TtJ K (tAnd t u) δ (a && b) δ2 := by
  cases a with
  | true =>
    have h := h2 rfl
    exact ⟨h1.1.trans h.1, fun E F H σ Q e q => h1.2 E F H σ _ e fun F2 H2 e2 g2 => by
      rw [if_pos rfl]
      exact h.2 E F2 H2 σ Q e2 fun F3 H3 e3 g3 => q F3 H3 e3 (g2.trans g3)⟩
  | false =>
    have h := h3 rfl
    subst h
    exact ⟨h1.1, fun E F H σ Q e q => h1.2 E F H σ _ e fun F2 H2 e2 g2 => by
      rw [if_neg Bool.false_ne_true]
      exact q F2 H2 e2 g2⟩
theorem tt_or {t u : TT} {a b : Bool} (h1 : TtJ K t δ a δ1) (h2 : a = false → TtJ K u δ1 b δ2) (h3 : a = true → δ2 = δ1) : TtJ K (tOr t u) δ (a || b) δ2 := by
  cases a with
  | false =>
    have h := h2 rfl
    exact ⟨h1.1.trans h.1, fun E F H σ Q e q => h1.2 E F H σ _ e fun F2 H2 e2 g2 => by
      rw [if_neg Bool.false_ne_true]
      exact h.2 E F2 H2 σ Q e2 fun F3 H3 e3 g3 => q F3 H3 e3 (g2.trans g3)⟩
  | true =>
    have h := h3 rfl
    subst h
    exact ⟨h1.1, fun E F H σ Q e q => h1.2 E F H σ _ e fun F2 H2 e2 g2 => by
      rw [if_pos rfl]
      exact q F2 H2 e2 g2⟩
theorem ev_andV {a : Bool} (h1 : EvJ K ta δ (.fr (.bool a)) δ1) (h2 : a = true → EvJ K tb δ1 (.fr d) δ2) (h3 : a = false → d = .bool false ∧ δ2 = δ1) : EvJ K (tAndV ta tb) δ (.fr d) δ2 := by
  cases a with
  | true =>
    have h := h2 rfl
    exact ⟨h1.1.trans h.1, fun E F H σ Q e q => h1.2 E F H σ _ e fun v F2 H2 e2 g2 h2 _ => by
      cases h2
      refine ⟨true, rfl, ?_⟩
      rw [if_pos rfl]
      exact h.2 E F2 H2 σ Q e2 fun w F3 H3 e3 g3 h3 f3 => q w F3 H3 e3 (g2.trans g3) h3 (f3.back g2.dm)⟩
  | false =>
    obtain ⟨rfl, rfl⟩ := h3 rfl
    exact ⟨h1.1, fun E F H σ Q e q => h1.2 E F H σ _ e fun v F2 H2 e2 g2 h2 _ => by
      cases h2
      refine ⟨false, rfl, ?_⟩
      rw [if_neg Bool.false_ne_true]
      exact q _ F2 H2 e2 g2 (.bl false) trivial⟩
theorem ev_orV {a : Bool} (h1 : EvJ K ta δ (.fr (.bool a)) δ1) (h2 : a = false → EvJ K tb δ1 (.fr d) δ2) (h3 : a = true → d = .bool true ∧ δ2 = δ1) : EvJ K (tOrV ta tb) δ (.fr d) δ2 := by
  cases a with
  | false =>
    have h := h2 rfl
    exact ⟨h1.1.trans h.1, fun E F H σ Q e q => h1.2 E F H σ _ e fun v F2 H2 e2 g2 h2 _ => by
      cases h2
      refine ⟨false, rfl, ?_⟩
      rw [if_neg Bool.false_ne_true]
      exact h.2 E F2 H2 σ Q e2 fun w F3 H3 e3 g3 h3 f3 => q w F3 H3 e3 (g2.trans g3) h3 (f3.back g2.dm)⟩
  | true =>
    obtain ⟨rfl, rfl⟩ := h3 rfl
    exact ⟨h1.1, fun E F H σ Q e q => h1.2 E F H σ _ e fun v F2 H2 e2 g2 h2 _ => by
      cases h2
      refine ⟨true, rfl, ?_⟩
      rw [if_pos rfl]
      exact q _ F2 H2 e2 g2 (.bl true) trivial⟩
theorem ev_notV {a : Bool} (h1 : EvJ K ta δ (.fr (.bool a)) δ1) : EvJ K (tNotV ta) δ (.fr (.bool (!a))) δ1 := ⟨h1.1, fun E F H σ Q e q => h1.2 E F H σ _ e fun v F2 H2 e2 g2 h2 _ => by
  cases h2
  exact ⟨a, rfl, q _ F2 H2 e2 g2 (.bl _) trivial⟩⟩
/-- a new list becomes fixed -/
theorem ev_frz {ds : List D} (h : EvJ K te δ (.new (.L ds)) δ1) : EvJ K te δ (.fr (.list ds)) δ1 := ⟨h.1, fun E F H σ Q e q => h.2 E F H σ _ e fun v F2 H2 e2 g2 h2 f2 => by
  obtain ⟨p, ho, rfl, h3, h4, ⟨vs, rfl, h5⟩, h6⟩ := h2
  have hF : Ex F2 (upd F2 p (.lst vs)) := Ex.new h3
  refine q _ (upd F2 p (.lst vs)) H2 ⟨fun a o ha => ?_, e2.dom, e2.len, fun i d hi => ?_, fun i b o hi => ?_, e2.dj⟩ ⟨g2.f.trans hF, fun a ha hn => ?_, g2.h, g2.n, g2.dm, g2.pr⟩ (.lst (.inl (.inl upd_same)) (dpa_mono hF h5)) trivial
  · by_cases hp : a = p
    · subst hp
      rw [upd_same] at ha
      cases ha
      exact h4
    · rw [upd_ne hp] at ha
      exact e2.ex a o ha
  · obtain ⟨w, w1, w2⟩ := e2.fr i d hi
    exact ⟨w, w1, dp_mono hF w2⟩
  · obtain ⟨p', ho, w1, w2, w3, w4, w5⟩ := e2.ob i b o hi
    refine ⟨p', ho, w1, ?_, w3, w4.mono hF, w5⟩
    rw [upd_ne fun z => h6 ⟨i, b, o, hi, by rw [← z]; exact w1⟩]
    exact w2
  · rw [upd_ne fun z => ha (by rw [z]; exact f2 p rfl)]
    exact g2.k a ha hn⟩
end
end DL
/-! Statements, loops, comprehensions, defs. -/
namespace DL
open PySem PySem.Spec PyProof.Rows L2

inductive Out where
  | nx (δ : List Sl)
  | bk (δ : List Sl)
  | ct (δ : List Sl)
  | rt (r : R) (δ : List Sl)
def RepRet (K : PySem.W.Frag) (E F H : Hp) : R → V → Prop
  | .fr d, v => Dp K F v d
  | .new o, v => ∃ p ho, v = .ref p ∧ E p = none ∧ F p = none ∧ H p = some ho ∧ RepO K F o ho
  | .al _, _ => False
def Sat (K : PySem.W.Frag) (E F H : Hp) (δ : List Sl) (σ : List (Option V)) (D : Ends) : Out → Prop
  | .nx δ' => ∀ σ' F2 H2, EnvOk K E F2 H2 δ' σ' → Grow F H δ σ F2 H2 δ' σ' → D.nx σ' H2
  | .bk δ' => ∀ σ' F2 H2, EnvOk K E F2 H2 δ' σ' → Grow F H δ σ F2 H2 δ' σ' → D.bk σ' H2
  | .ct δ' => ∀ σ' F2 H2, EnvOk K E F2 H2 δ' σ' → Grow F H δ σ F2 H2 δ' σ' → D.ct σ' H2
  | .rt r δ' => ∀ v σ' F2 H2, EnvOk K E F2 H2 δ' σ' → Grow F H δ σ F2 H2 δ' σ' → RepRet K E F2 H2 r v → D.rt v H2
theorem Sat.grow {K : PySem.W.Frag} {E F H F1 H1 : Hp} {δ δ1 : List Sl} {σ σ1 : List (Option V)} {D : Ends} (g : Grow F H δ σ F1 H1 δ1 σ1) : ∀ {out : Out}, Sat K E F H δ σ D out → Sat K E F1 H1 δ1 σ1 D out
  | .nx _, s => fun σ' F2 H2 e g2 => s σ' F2 H2 e (g.trans g2)
  | .bk _, s => fun σ' F2 H2 e g2 => s σ' F2 H2 e (g.trans g2)
  | .ct _, s => fun σ' F2 H2 e g2 => s σ' F2 H2 e (g.trans g2)
  | .rt _ _, s => fun v σ' F2 H2 e g2 => s v σ' F2 H2 e (g.trans g2)
def StJ (K : PySem.W.Frag) (ts : TS) (δ : List Sl) (out : Out) : Prop :=
  ∀ (E F H : Hp) (σ : List (Option V)) (D : Ends), EnvOk K E F H δ σ → Sat K E F H δ σ D out → ts D σ H

/-- an object handed in is not stored over -/
def NoPar (δ : List Sl) (i : Nat) : Prop := ∀ o, δ[i]? ≠ some (.ob false o)
theorem getset {α : Type} {l : List α} {i j : Nat} {x y : α} (h : (l.set i x)[j]? = some y) : (j = i ∧ y = x ∧ i < l.length) ∨ (j ≠ i ∧ l[j]? = some y) := by
  by_cases e : j = i
  · subst e
    by_cases hl : j < l.length
    · rw [List.getElem?_set_self hl] at h
      cases h
      exact .inl ⟨rfl, rfl, hl⟩
    · rw [List.getElem?_eq_none (by rw [List.length_set]; omega)] at h
      cases h
  · rw [List.getElem?_set_ne (Ne.symm e)] at h
    exact .inr ⟨e, h⟩
section
variable {K : PySem.W.Frag} {E F H F2 H2 : Hp} {δ δ1 δ2 δ3 : List Sl} {σ : List (Option V)} {D' : Ends} {t u : TS} {te : TE} {out : Out} {r : R} {d : D} {v : V} {i j : Nat} {o : O} {b : Bool}
/-- a name is stored with fixed data -/
theorem EnvOk.set_fr (e : EnvOk K E F H δ σ) (h : Dp K F v d) : EnvOk K E F H (δ.set i (.fr d)) (σ.set i (some v)) where
  ex := e.ex
  dom := e.dom
  len := by rw [List.length_set, List.length_set]; exact e.len
  fr := fun j d' hj => by
    rcases getset hj with ⟨rfl, e1, hl⟩ | ⟨hn, hj⟩
    · cases e1
      exact ⟨v, List.getElem?_set_self (by rw [e.len]; exact hl), h⟩
    · obtain ⟨w, h1, h2⟩ := e.fr j d' hj
      exact ⟨w, by rw [List.getElem?_set_ne (Ne.symm hn)]; exact h1, h2⟩
  ob := fun j b o hj => by
    rcases getset hj with ⟨rfl, e1, hl⟩ | ⟨hn, hj⟩
    · cases e1
    · obtain ⟨p, ho, h1, h2⟩ := e.ob j b o hj
      exact ⟨p, ho, by rw [List.getElem?_set_ne (Ne.symm hn)]; exact h1, h2⟩
  dj := fun j k b o b' o' p hj hk h1 h2 => by
    rcases getset hj with ⟨rfl, e1, _⟩ | ⟨hn, hj⟩
    · cases e1
    · rcases getset hk with ⟨rfl, e1, _⟩ | ⟨hn', hk⟩
      · cases e1
      · rw [List.getElem?_set_ne (Ne.symm hn)] at h1
        rw [List.getElem?_set_ne (Ne.symm hn')] at h2
        exact e.dj j k b o b' o' p hj hk h1 h2
theorem Grow.set_fr {F H : Hp} {δ : List Sl} {σ : List (Option V)} {i : Nat} {d : D} {v : V} (hp : NoPar δ i) : Grow F H δ σ F H (δ.set i (.fr d)) (σ.set i (some v)) where
  f := Ex.refl F
  k := fun _ _ _ => rfl
  h := fun _ _ e _ => e
  n := fun a ⟨j, b, o, hj, hs⟩ => by
    rcases getset hj with ⟨rfl, e1, _⟩ | ⟨hn, hj⟩
    · cases e1
    · rw [List.getElem?_set_ne (Ne.symm hn)] at hs
      exact .inl ⟨j, b, o, hj, hs⟩
  dm := fun _ h => h
  pr := fun j o hj => by
    have hn : j ≠ i := fun z => hp o (by rw [← z]; exact hj)
    exact ⟨⟨o, by rw [List.getElem?_set_ne (Ne.symm hn)]; exact hj⟩, List.getElem?_set_ne (Ne.symm hn)⟩
/-- a name is stored with a new object -/
theorem EnvOk.set_ob {p : Addr} {ho : HO} (e : EnvOk K E F H δ σ) (h1 : F p = none) (h2 : H p = some ho) (h3 : RepO K F o ho) (h4 : E p = none) (h5 : ∀ j b' o', j ≠ i → δ[j]? = some (.ob b' o') → σ[j]? ≠ some (some (.ref p))) : EnvOk K E F H (δ.set i (.ob true o)) (σ.set i (some (.ref p))) where
  ex := e.ex
  dom := e.dom
  len := by rw [List.length_set, List.length_set]; exact e.len
  fr := fun j d' hj => by
    rcases getset hj with ⟨rfl, e1, hl⟩ | ⟨hn, hj⟩
    · cases e1
    · obtain ⟨w, h1, h2⟩ := e.fr j d' hj
      exact ⟨w, by rw [List.getElem?_set_ne (Ne.symm hn)]; exact h1, h2⟩
  ob := fun j b o' hj => by
    rcases getset hj with ⟨rfl, e1, hl⟩ | ⟨hn, hj⟩
    · cases e1
      exact ⟨p, ho, List.getElem?_set_self (by rw [e.len]; exact hl), h1, h2, h3, fun _ => h4⟩
    · obtain ⟨p, ho, q1, q2⟩ := e.ob j b o' hj
      exact ⟨p, ho, by rw [List.getElem?_set_ne (Ne.symm hn)]; exact q1, q2⟩
  dj := fun j k b o1 b' o2 q hj hk e1 e2 => by
    rcases getset hj with ⟨ej, _, hl⟩ | ⟨hn, hj'⟩
    · rcases getset hk with ⟨ek, _, _⟩ | ⟨hn', hk'⟩
      · rw [ej, ek]
      · rw [ej, List.getElem?_set_self (by rw [e.len]; exact hl)] at e1
        rw [List.getElem?_set_ne (Ne.symm hn')] at e2
        cases e1
        exact absurd e2 (h5 k b' o2 hn' hk')
    · rcases getset hk with ⟨ek, _, hl⟩ | ⟨hn', hk'⟩
      · rw [ek, List.getElem?_set_self (by rw [e.len]; exact hl)] at e2
        rw [List.getElem?_set_ne (Ne.symm hn)] at e1
        cases e2
        exact absurd e1 (h5 j b o1 hn hj')
      · rw [List.getElem?_set_ne (Ne.symm hn)] at e1
        rw [List.getElem?_set_ne (Ne.symm hn')] at e2
        exact e.dj j k b o1 b' o2 q hj' hk' e1 e2
theorem Grow.set_ob {F H : Hp} {δ : List Sl} {σ : List (Option V)} {i : Nat} {o : O} {p : Addr} (hl : i < σ.length) (hp : NoPar δ i) (hn : Hot δ σ p ∨ H p = none) : Grow F H δ σ F H (δ.set i (.ob true o)) (σ.set i (some (.ref p))) where
  f := Ex.refl F
  k := fun _ _ _ => rfl
  h := fun _ _ e _ => e
  n := fun a ⟨j, b, o', hj, hs⟩ => by
    rcases getset hj with ⟨rfl, e1, _⟩ | ⟨hne, hj⟩
    · rw [List.getElem?_set_self hl] at hs
      cases hs
      exact hn
    · rw [List.getElem?_set_ne (Ne.symm hne)] at hs
      exact .inl ⟨j, b, o', hj, hs⟩
  dm := fun _ h => h
  pr := fun j o hj => by
    have hne : j ≠ i := fun z => hp o (by rw [← z]; exact hj)
    exact ⟨⟨o, by rw [List.getElem?_set_ne (Ne.symm hne)]; exact hj⟩, List.getElem?_set_ne (Ne.symm hne)⟩

theorem st_seq (h1 : StJ K t δ (.nx δ1)) (h2 : StJ K u δ1 out) : StJ K (tSeq t u) δ out := fun E F H σ D e s =>
  h1 E F H σ { D with nx := u D } e fun σ' F2 H2 e2 g2 => h2 E F2 H2 σ' D e2 (s.grow g2)
theorem st_stop_rt (h1 : StJ K t δ (.rt r δ1)) : StJ K (tSeq t u) δ (.rt r δ1) := fun E F H σ D e s => h1 E F H σ { D with nx := u D } e s
theorem st_stop_bk (h1 : StJ K t δ (.bk δ1)) : StJ K (tSeq t u) δ (.bk δ1) := fun E F H σ D e s => h1 E F H σ { D with nx := u D } e s
theorem st_stop_ct (h1 : StJ K t δ (.ct δ1)) : StJ K (tSeq t u) δ (.ct δ1) := fun E F H σ D e s => h1 E F H σ { D with nx := u D } e s
theorem st_next : StJ K tNext δ (.nx δ) := fun E F H σ D e s => s σ F H e Grow.refl
theorem st_break : StJ K tBreak δ (.bk δ) := fun E F H σ D e s => s σ F H e Grow.refl
theorem st_cont : StJ K tCont δ (.ct δ) := fun E F H σ D e s => s σ F H e Grow.refl
/-- x = e, fixed data -/
theorem st_set (h : EvJ K te δ (.fr d) δ1) (hp : NoPar δ1 i := by intro o z; cases z) : StJ K (tAsg te (gName i)) δ (.nx (δ1.set i (.fr d))) := fun E F H σ D e s =>
  h.2 E F H σ _ e fun v F2 H2 e2 g2 h2 _ => s _ F2 H2 (e2.set_fr h2) (g2.trans (Grow.set_fr hp))
/-- x = e, a new object -/
theorem st_setN (h : EvJ K te δ (.new o) δ1) (hl : i < δ1.length := by decide) (hp : NoPar δ1 i := by intro o z; cases z) : StJ K (tAsg te (gName i)) δ (.nx (δ1.set i (.ob true o))) := fun E F H σ D e s =>
  h.2 E F H σ _ e fun v F2 H2 e2 g2 h2 f2 => by
    obtain ⟨p, ho, rfl, q1, q2, q3, q4⟩ := h2
    have hE : E p = none := e.dom p (f2 p rfl)
    refine s _ F2 H2 (e2.set_ob q1 q2 q3 hE fun j b' o' _ hj hs => q4 ⟨j, b', o', hj, hs⟩) ⟨g2.f, g2.k, g2.h, fun a ⟨j, b, o', hj, hs⟩ => ?_, g2.dm, fun j o' hj => ?_⟩
    · rcases getset hj with ⟨rfl, e1, _⟩ | ⟨hne, hj⟩
      · rw [List.getElem?_set_self (by rw [e2.len]; exact hl)] at hs
        cases hs
        exact .inr (f2 p rfl)
      · rw [List.getElem?_set_ne (Ne.symm hne)] at hs
        exact g2.n a ⟨j, b, o', hj, hs⟩
    · obtain ⟨⟨o1, h1⟩, e1⟩ := g2.pr j o' hj
      have hne : j ≠ i := fun z => hp o1 (by rw [← z]; exact h1)
      exact ⟨⟨o1, by rw [List.getElem?_set_ne (Ne.symm hne)]; exact h1⟩, by rw [List.getElem?_set_ne (Ne.symm hne)]⟩
/-- a name's own object becomes fixed data -/
theorem st_frz {ds : List D} (i : Nat) (hi : δ[i]? = some (.ob true (.L ds))) (h : StJ K t (δ.set i (.fr (.list ds))) out) : StJ K t δ out := fun E F H σ D e s => by
  obtain ⟨p, ho, h1, h2, h3, ⟨vs, rfl, h4⟩, h5⟩ := e.ob i true _ hi
  have hF : Ex F (upd F p (.lst vs)) := Ex.new h2
  have hil : i < δ.length := (List.getElem?_eq_some_iff.mp hi).1
  have hne : ∀ a, ¬ Hot δ σ a → a ≠ p := fun a hn z => hn ⟨i, true, _, hi, by rw [z]; exact h1⟩
  have E2 : EnvOk K E (upd F p (.lst vs)) H (δ.set i (.fr (.list ds))) σ := by
    refine ⟨fun a o ha => ?_, e.dom, by rw [List.length_set]; exact e.len, fun j d hj => ?_, fun j b o hj => ?_, fun j k b o b' o' q hj hk => ?_⟩
    · by_cases hp : a = p
      · subst hp
        rw [upd_same] at ha
        cases ha
        exact h3
      · rw [upd_ne hp] at ha
        exact e.ex a o ha
    · rcases getset hj with ⟨rfl, e1, _⟩ | ⟨hn, hj⟩
      · cases e1
        exact ⟨_, h1, .lst (.inl (.inl upd_same)) (dpa_mono hF h4)⟩
      · obtain ⟨w, w1, w2⟩ := e.fr j d hj
        exact ⟨w, w1, dp_mono hF w2⟩
    · rcases getset hj with ⟨rfl, e1, _⟩ | ⟨hn, hj⟩
      · cases e1
      · obtain ⟨q, ho, w1, w2, w3, w4, w5⟩ := e.ob j b o hj
        refine ⟨q, ho, w1, ?_, w3, w4.mono hF, w5⟩
        rw [upd_ne fun z => hn (e.dj j i b o true _ p hj hi (by rw [← z]; exact w1) h1)]
        exact w2
    · rcases getset hj with ⟨rfl, e1, _⟩ | ⟨hn, hj⟩
      · cases e1
      · rcases getset hk with ⟨rfl, e1, _⟩ | ⟨hn', hk⟩
        · cases e1
        · exact e.dj j k b o b' o' q hj hk
  have G : Grow F H δ σ (upd F p (.lst vs)) H (δ.set i (.fr (.list ds))) σ := by
    refine ⟨hF, fun a _ hn => ?_, fun _ _ q _ => q, fun a ⟨j, b, o, hj, hs⟩ => ?_, fun _ q => q, fun j o hj => ?_⟩
    · rw [upd_ne (hne a hn)]
    · rcases getset hj with ⟨rfl, e1, _⟩ | ⟨hn, hj⟩
      · cases e1
      · exact .inl ⟨j, b, o, hj, hs⟩
    · have hn : j ≠ i := fun z => by
        rw [z, hi] at hj
        cases hj
      exact ⟨⟨o, by rw [List.getElem?_set_ne (Ne.symm hn)]; exact hj⟩, rfl⟩
  exact h E _ H σ D E2 (s.grow G)
/-- a name is forgotten -/
theorem EnvOk.forget (e : EnvOk K E F H δ σ) (i : Nat) : EnvOk K E F H (δ.set i .no) σ where
  ex := e.ex
  dom := e.dom
  len := by rw [List.length_set]; exact e.len
  fr := fun j d hj => by
    rcases getset hj with ⟨rfl, e1, _⟩ | ⟨_, hj⟩
    · cases e1
    · exact e.fr j d hj
  ob := fun j b o hj => by
    rcases getset hj with ⟨rfl, e1, _⟩ | ⟨_, hj⟩
    · cases e1
    · exact e.ob j b o hj
  dj := fun j k b o b' o' p hj hk => by
    rcases getset hj with ⟨rfl, e1, _⟩ | ⟨_, hj⟩
    · cases e1
    · rcases getset hk with ⟨rfl, e1, _⟩ | ⟨_, hk⟩
      · cases e1
      · exact e.dj j k b o b' o' p hj hk
theorem Grow.forget {F H : Hp} {δ : List Sl} {σ : List (Option V)} {i : Nat} (hp : NoPar δ i) : Grow F H δ σ F H (δ.set i .no) σ where
  f := Ex.refl F
  k := fun _ _ _ => rfl
  h := fun _ _ e _ => e
  n := fun a ⟨j, b, o, hj, hs⟩ => by
    rcases getset hj with ⟨rfl, e1, _⟩ | ⟨hn, hj⟩
    · cases e1
    · exact .inl ⟨j, b, o, hj, hs⟩
  dm := fun _ h => h
  pr := fun j o hj => by
    have hn : j ≠ i := fun z => hp o (by rw [← z]; exact hj)
    exact ⟨⟨o, by rw [List.getElem?_set_ne (Ne.symm hn)]; exact hj⟩, rfl⟩
theorem st_forget (i : Nat) (hp : NoPar δ i) (h : StJ K t (δ.set i .no) out) : StJ K t δ out := fun E F H σ D e s =>
  h E F H σ D (e.forget i) (s.grow (Grow.forget hp))
/-- what is returned -/
def retR (δ : List Sl) : R → Option R
  | .fr d => some (.fr d)
  | .new o => some (.new o)
  | .al i => match δ[i]? with
    | some (.ob true o) => some (.new o)
    | _ => none
theorem st_ret {r' : R} (h : EvJ K te δ r δ1) (hr : retR δ1 r = some r') : StJ K (tRet te) δ (.rt r' δ1) := fun E F H σ D e s =>
  h.2 E F H σ _ e fun v F2 H2 e2 g2 h2 f2 => s v σ F2 H2 e2 g2 (by
    cases r with
    | fr d =>
      cases hr
      exact h2
    | new o =>
      cases hr
      obtain ⟨p, ho, rfl, q1, q2, q3, q4⟩ := h2
      exact ⟨p, ho, rfl, e.dom p (f2 p rfl), q1, q2, q3⟩
    | al i =>
      obtain ⟨h1, b, o, h3⟩ := h2
      unfold retR at hr
      simp only [h3] at hr
      cases b with
      | false => cases hr
      | true =>
        cases hr
        obtain ⟨p, ho, q1, q2, q3, q4, q5⟩ := e2.ob i true o h3
        rw [h1] at q1
        cases q1
        exact ⟨p, ho, rfl, q5 rfl, q2, q3, q4⟩)
theorem st_retN : StJ K tRetN δ (.rt (.fr .none) δ) := fun E F H σ D e s => s .non σ F H e Grow.refl .non
theorem st_drop (h : EvJ K te δ r δ1) : StJ K (tDrop te) δ (.nx δ1) := fun E F H σ D e s =>
  h.2 E F H σ _ e fun v F2 H2 e2 g2 _ _ => s σ F2 H2 e2 g2
theorem st_if {c : TT} {b : Bool} (hc : TtJ K c δ b δ1) (h1 : b = true → StJ K t δ1 out) (h2 : b = false → StJ K u δ1 out) : StJ K (tIfS c t u) δ out := fun E F H σ D e s =>
  hc.2 E F H σ _ e fun F2 H2 e2 g2 => by
    cases b with
    | true =>
      rw [if_pos rfl]
      exact h1 rfl E F2 H2 σ D e2 (s.grow g2)
    | false =>
      rw [if_neg Bool.false_ne_true]
      exact h2 rfl E F2 H2 σ D e2 (s.grow g2)
/-- an if whose ways go on each by itself -/
theorem st_ifq {c : TT} {b : Bool} {w : TS} (hc : TtJ K c δ b δ1) (h1 : b = true → StJ K (tSeq t w) δ1 out) (h2 : b = false → StJ K (tSeq u w) δ1 out) : StJ K (tSeq (tIfS c t u) w) δ out := fun E F H σ D e s =>
  hc.2 E F H σ _ e fun F2 H2 e2 g2 => by
    cases b with
    | true =>
      rw [if_pos rfl]
      exact h1 rfl E F2 H2 σ D e2 (s.grow g2)
    | false =>
      rw [if_neg Bool.false_ne_true]
      exact h2 rfl E F2 H2 σ D e2 (s.grow g2)
theorem st_nextq (h : StJ K u δ out) : StJ K (tSeq tNext u) δ out := st_seq st_next h
theorem StJ.cast {out' : Out} (h : StJ K t δ out) (e : out = out') : StJ K t δ out' := e ▸ h
end

/-! ### what a for walks -/
def ItOk (K : PySem.W.Frag) (F1 : Hp) (J : It) (ds : List D) : Prop :=
  ∀ F' H', Ex F1 F' → Ex F' H' → (∀ i, ds.length ≤ i → J.stop i H') ∧
    ∀ i d, ds[i]? = some d → J.go i H' ∧ ∀ x H'', J.yld i H' x H'' → ∃ F'', Alloc F' H' F'' H'' ∧ Dp K F'' x d
def SrcJ (K : PySem.W.Frag) (wi : TI) (δ : List Sl) (ds : List D) (δ' : List Sl) : Prop :=
  SameK δ δ' ∧ ∀ (E F H : Hp) (σ : List (Option V)) (Rr : It → Hp → Prop), EnvOk K E F H δ σ →
    (∀ J F1 H1, EnvOk K E F1 H1 δ' σ → Grow F H δ σ F1 H1 δ' σ → ItOk K F1 J ds → Rr J H1) → wi σ H Rr
def BindJ (K : PySem.W.Frag) (g : TG) (d : D) (δ δ' : List Sl) : Prop :=
  ∀ (E F H : Hp) (σ : List (Option V)) (v : V) (Q : List (Option V) → Hp → Prop), EnvOk K E F H δ σ → Dp K F v d →
    (∀ σ', EnvOk K E F H δ' σ' → Grow F H δ σ F H δ' σ' → Q σ' H) → g v σ H Q
def BindsJ (K : PySem.W.Frag) (g : TGs) (ds : List D) (δ δ' : List Sl) : Prop :=
  ∀ (E F H : Hp) (σ : List (Option V)) (vs : List V) (Q : List (Option V) → Hp → Prop), EnvOk K E F H δ σ → DpAll K F vs ds →
    (∀ σ', EnvOk K E F H δ' σ' → Grow F H δ σ F H δ' σ' → Q σ' H) → g vs σ H Q
section
variable {K : PySem.W.Frag} {δ δ1 δ2 : List Sl} {te ta tb : TE} {d d1 d2 : D} {ds : List D} {i : Nat}
theorem bj_name (hp : NoPar δ i := by intro o z; cases z) : BindJ K (gName i) d δ (δ.set i (.fr d)) := fun E F H σ v Q e h q => q _ (e.set_fr h) (Grow.set_fr hp)
theorem bsj_nil : BindsJ K gNil [] δ δ := fun E F H σ vs Q e h q => by
  cases h
  exact ⟨rfl, q σ e Grow.refl⟩
theorem bsj_cons {g : TG} {gs : TGs} (h1 : BindJ K g d δ δ1) (h2 : BindsJ K gs ds δ1 δ2) : BindsJ K (gCons g gs) (d :: ds) δ δ2 := fun E F H σ vs Q e h q => by
  cases h with
  | cons hv ht =>
    exact ⟨_, _, rfl, h1 E F H σ _ _ e hv fun σ' e' g' => h2 E F H σ' _ _ e' ht fun σ2 e2 g2 => q σ2 e2 (g'.trans g2)⟩
theorem bj_tup {gs : TGs} {n : Nat} (h : BindsJ K gs ds δ δ1) (hn : ds.length = n := by rfl) : BindJ K (gTup K n gs) (.tuple ds) δ δ1 := fun E F H σ v Q e hv q => by
  cases hv with
  | tup hs ha => exact ⟨_, _, rfl, ex_t e.ex hs, ha.length.trans hn, h E F H σ _ Q e ha q⟩
/-- a fixed list, a fixed tuple -/
theorem src_list (h : EvJ K te δ (.fr (.list ds)) δ1) : SrcJ K (iList K te) δ ds δ1 := ⟨h.1, fun E F H σ Rr e q => h.2 E F H σ _ e fun v F1 H1 e1 g1 h1 _ => by
  cases h1 with
  | @lst a xs _ hs ha =>
    refine ⟨a, rfl, ⟨xs, ex_l e1.ex hs⟩, q _ F1 H1 e1 g1 fun F' H' x1 x2 => ⟨fun i hi => ⟨xs, ex_l (x1.trans x2) hs, by rw [ha.length]; exact hi⟩, fun i d hd => ?_⟩⟩
    obtain ⟨w, hw, rw_⟩ := ha.get hd
    exact ⟨⟨xs, w, ex_l (x1.trans x2) hs, hw⟩, fun x H'' ⟨eH, hx⟩ => by
      subst eH
      have := hx xs (ex_l (x1.trans x2) hs)
      rw [hw] at this
      cases this
      exact ⟨F', Alloc.refl x2, dp_mono x1 rw_⟩⟩⟩
theorem src_tup (h : EvJ K te δ (.fr (.tuple ds)) δ1) : SrcJ K (iTup K te) δ ds δ1 := ⟨h.1, fun E F H σ Rr e q => h.2 E F H σ _ e fun v F1 H1 e1 g1 h1 _ => by
  cases h1 with
  | @tup a xs _ hs ha =>
    refine ⟨a, rfl, ⟨xs, ex_t e1.ex hs⟩, q _ F1 H1 e1 g1 fun F' H' x1 x2 => ⟨fun i hi => ⟨xs, ex_t (x1.trans x2) hs, by rw [ha.length]; exact hi⟩, fun i d hd => ?_⟩⟩
    obtain ⟨w, hw, rw_⟩ := ha.get hd
    exact ⟨⟨xs, w, ex_t (x1.trans x2) hs, hw⟩, fun x H'' ⟨eH, hx⟩ => by
      subst eH
      have := hx xs (ex_t (x1.trans x2) hs)
      rw [hw] at this
      cases this
      exact ⟨F', Alloc.refl x2, dp_mono x1 rw_⟩⟩⟩
/-- range(n), range(a, b) -/
def rngD (a : Int) (n : Nat) : List D := (List.range n).map fun (i : Nat) => PyData.int (a + (i : Int))
theorem rngD_get {a : Int} {n i : Nat} (h : i < n) : (rngD a n)[i]? = some (.int (a + (i : Int))) := by
  unfold rngD
  rw [List.getElem?_map, List.getElem?_range h]
  rfl
theorem rngD_len {a : Int} {n : Nat} : (rngD a n).length = n := by
  unfold rngD
  rw [List.length_map, List.length_range]
theorem itr_ok {F1 : Hp} {a : Int} {n : Nat} : ItOk K F1 (Itr a n) (rngD a n) := fun F' H' x1 x2 => ⟨fun i hi => by
  rw [rngD_len] at hi
  exact hi, fun i d hd => by
  have hi : i < n := by
    have := (List.getElem?_eq_some_iff.mp hd).1
    rw [rngD_len] at this
    exact this
  rw [rngD_get hi] at hd
  cases hd
  exact ⟨hi, fun x H'' ⟨eH, hx⟩ => by
    subst eH
    subst hx
    exact ⟨F', Alloc.refl x2, .int _⟩⟩⟩
theorem src_rng1 {n : Int} {ta : TA} (h : EvA K ta δ [.fr (.int n)] δ1) (h1 : -(2 ^ 62) ≤ n := by omega) (h2 : n < 2 ^ 62 := by omega) : SrcJ K (iRng1 ta) δ (rngD 0 n.toNat) δ1 := ⟨h.1, fun E F H σ Rr e q => h.2 E F H σ _ e fun vs F1 H1 e1 g1 hr _ => by
  cases hr with
  | cons r1 r2 _ =>
    cases r2
    cases r1
    exact ⟨n, rfl, h1, h2, q _ F1 H1 e1 g1 itr_ok⟩⟩
theorem src_rng2 {a b : Int} {ta : TA} (h : EvA K ta δ [.fr (.int a), .fr (.int b)] δ1) (h1 : -(2 ^ 62) ≤ a := by omega) (h2 : a < 2 ^ 62 := by omega) (h3 : -(2 ^ 62) ≤ b := by omega) (h4 : b < 2 ^ 62 := by omega) : SrcJ K (iRng2 ta) δ (rngD a (b - a).toNat) δ1 := ⟨h.1, fun E F H σ Rr e q => h.2 E F H σ _ e fun vs F1 H1 e1 g1 hr _ => by
  cases hr with
  | cons r1 r2 _ =>
    cases r2 with
    | cons r2 r3 _ =>
      cases r3
      cases r1
      cases r2
      exact ⟨a, b, rfl, ⟨h1, h2, h3, h4⟩, q _ F1 H1 e1 g1 itr_ok⟩⟩
end

/-! ### for -/
inductive ForRel (K : PySem.W.Frag) (g : TG) (tb : TS) : List D → List Sl → Out → Prop
  | nil {δ : List Sl} : ForRel K g tb [] δ (.nx δ)
  | go {d : D} {ds : List D} {δ δb δ2 : List Sl} {out : Out} : BindJ K g d δ δb → StJ K tb δb (.nx δ2) → ForRel K g tb ds δ2 out → ForRel K g tb (d :: ds) δ out
  | ct {d : D} {ds : List D} {δ δb δ2 : List Sl} {out : Out} : BindJ K g d δ δb → StJ K tb δb (.ct δ2) → ForRel K g tb ds δ2 out → ForRel K g tb (d :: ds) δ out
  | brk {d : D} {ds : List D} {δ δb δ2 : List Sl} : BindJ K g d δ δb → StJ K tb δb (.bk δ2) → ForRel K g tb (d :: ds) δ (.nx δ2)
  | ret {d : D} {ds : List D} {δ δb δ2 : List Sl} {r : R} : BindJ K g d δ δb → StJ K tb δb (.rt r δ2) → ForRel K g tb (d :: ds) δ (.rt r δ2)
theorem st_for {K : PySem.W.Frag} {wi : TI} {g : TG} {tb : TS} {ds : List D} {δ δ1 : List Sl} {out : Out} (hs : SrcJ K wi δ ds δ1) (hf : ForRel K g tb ds δ1 out) : StJ K (tFor wi g tb) δ out := fun E F H σ D e s =>
  hs.2 E F H σ _ e fun J F1 H1 e1 g1 it => by
    refine ⟨fun i m σ' H' => m = ds.length - i ∧ ∃ F' δ', EnvOk K E F' H' δ' σ' ∧ Grow F1 H1 δ1 σ F' H' δ' σ' ∧ ForRel K g tb (ds.drop i) δ' out, ⟨_, rfl, F1, δ1, e1, Grow.refl, hf⟩, fun i m σ' H' ⟨hm, F', δ', e', g', hr⟩ => ?_⟩
    obtain ⟨i1, i2⟩ := it F' H' g'.f e'.ex
    by_cases hi : i < ds.length
    · have hd : ds[i]? = some ds[i] := List.getElem?_eq_getElem hi
      obtain ⟨go, yl⟩ := i2 i _ hd
      rw [List.drop_eq_getElem_cons hi] at hr
      refine .inr ⟨go, fun σ2 H2 => ∃ F2 δ2, EnvOk K E F2 H2 δ2 σ2 ∧ Grow F1 H1 δ1 σ F2 H2 δ2 σ2 ∧ ForRel K g tb (ds.drop (i + 1)) δ2 out, fun σ2 H2 ⟨F2, δ2, e2, g2, r2⟩ => ⟨m - 1, by omega, by omega, F2, δ2, e2, g2, r2⟩, fun x H'' hy => ?_⟩
      obtain ⟨F'', al, hx⟩ := yl x H'' hy
      have ea := al.env e'
      have ga : Grow F1 H1 δ1 σ F'' H'' δ' σ' := g'.trans al.grow
      cases hr with
      | go hb hst hr2 => exact hb E F'' H'' σ' x _ ea hx fun σ2 e2 g2 => hst E F'' H'' σ2 _ e2 fun σ3 F3 H3 e3 g3 => ⟨F3, _, e3, (ga.trans g2).trans g3, hr2⟩
      | ct hb hst hr2 => exact hb E F'' H'' σ' x _ ea hx fun σ2 e2 g2 => hst E F'' H'' σ2 _ e2 fun σ3 F3 H3 e3 g3 => ⟨F3, _, e3, (ga.trans g2).trans g3, hr2⟩
      | brk hb hst => exact hb E F'' H'' σ' x _ ea hx fun σ2 e2 g2 => hst E F'' H'' σ2 _ e2 fun σ3 F3 H3 e3 g3 => s σ3 F3 H3 e3 (g1.trans ((ga.trans g2).trans g3))
      | ret hb hst => exact hb E F'' H'' σ' x _ ea hx fun σ2 e2 g2 => hst E F'' H'' σ2 _ e2 fun v σ3 F3 H3 e3 g3 => s v σ3 F3 H3 e3 (g1.trans ((ga.trans g2).trans g3))
    · refine .inl ⟨i1 i (by omega), ?_⟩
      rw [List.drop_eq_nil_of_le (by omega)] at hr
      cases hr
      exact s σ' F' H' e' (g1.trans g')

/-! ### while -/
inductive WhRel (K : PySem.W.Frag) (tc : TT) (tb : TS) : Nat → List Sl → Out → Prop
  | done {n : Nat} {δ δ1 : List Sl} : TtJ K tc δ false δ1 → WhRel K tc tb n δ (.nx δ1)
  | go {n : Nat} {δ δ1 δ2 : List Sl} {out : Out} : TtJ K tc δ true δ1 → StJ K tb δ1 (.nx δ2) → WhRel K tc tb n δ2 out → WhRel K tc tb (n + 1) δ out
  | ct {n : Nat} {δ δ1 δ2 : List Sl} {out : Out} : TtJ K tc δ true δ1 → StJ K tb δ1 (.ct δ2) → WhRel K tc tb n δ2 out → WhRel K tc tb (n + 1) δ out
  | brk {n : Nat} {δ δ1 δ2 : List Sl} : TtJ K tc δ true δ1 → StJ K tb δ1 (.bk δ2) → WhRel K tc tb n δ (.nx δ2)
  | ret {n : Nat} {δ δ1 δ2 : List Sl} {r : R} : TtJ K tc δ true δ1 → StJ K tb δ1 (.rt r δ2) → WhRel K tc tb n δ (.rt r δ2)
theorem st_while {K : PySem.W.Frag} {tc : TT} {tb : TS} {n : Nat} {δ : List Sl} {out : Out} (hw : WhRel K tc tb n δ out) : StJ K (tWhile tc tb) δ out := fun E F H σ D e s => by
  refine ⟨fun m σ' H' => ∃ F' δ', EnvOk K E F' H' δ' σ' ∧ Grow F H δ σ F' H' δ' σ' ∧ WhRel K tc tb m δ' out, ⟨n, F, δ, e, Grow.refl, hw⟩, fun m σ' H' ⟨F', δ', e', g', hr⟩ => ?_⟩
  have fin : ∀ {δ1 : List Sl}, TtJ K tc δ' true δ1 → (∀ F2 H2, EnvOk K E F2 H2 δ1 σ' → Grow F' H' δ' σ' F2 H2 δ1 σ' → ∃ N : List (Option V) → Hp → Prop, (∀ σ' H', N σ' H' → ∃ m', m' < m ∧ ∃ F' δ', EnvOk K E F' H' δ' σ' ∧ Grow F H δ σ F' H' δ' σ' ∧ WhRel K tc tb m' δ' out) ∧ tb { D with nx := N, ct := N, bk := D.nx } σ' H2) →
      tc σ' H' fun b H1 => if b = true then ∃ N : List (Option V) → Hp → Prop, (∀ σ' H', N σ' H' → ∃ m', m' < m ∧ ∃ F' δ', EnvOk K E F' H' δ' σ' ∧ Grow F H δ σ F' H' δ' σ' ∧ WhRel K tc tb m' δ' out) ∧ tb { D with nx := N, ct := N, bk := D.nx } σ' H1 else D.nx σ' H1 := fun {δ1} ht q =>
    ht.2 E F' H' σ' _ e' fun F2 H2 e2 g2 => by
      rw [if_pos rfl]
      exact q F2 H2 e2 g2
  cases hr with
  | done ht =>
    exact ht.2 E F' H' σ' _ e' fun F2 H2 e2 g2 => by
      rw [if_neg Bool.false_ne_true]
      exact s σ' F2 H2 e2 (g'.trans g2)
  | @go n' _ _ _ _ ht hst hr2 => exact fin ht fun F2 H2 e2 g2 => ⟨fun σ3 H3 => ∃ F3 δ3, EnvOk K E F3 H3 δ3 σ3 ∧ Grow F H δ σ F3 H3 δ3 σ3 ∧ WhRel K tc tb n' δ3 out, fun σ3 H3 q => ⟨n', Nat.lt_succ_self n', q⟩, hst E F2 H2 σ' _ e2 fun σ3 F3 H3 e3 g3 => ⟨F3, _, e3, (g'.trans g2).trans g3, hr2⟩⟩
  | @ct n' _ _ _ _ ht hst hr2 => exact fin ht fun F2 H2 e2 g2 => ⟨fun σ3 H3 => ∃ F3 δ3, EnvOk K E F3 H3 δ3 σ3 ∧ Grow F H δ σ F3 H3 δ3 σ3 ∧ WhRel K tc tb n' δ3 out, fun σ3 H3 q => ⟨n', Nat.lt_succ_self n', q⟩, hst E F2 H2 σ' _ e2 fun σ3 F3 H3 e3 g3 => ⟨F3, _, e3, (g'.trans g2).trans g3, hr2⟩⟩
  | brk ht hst => exact fin ht fun F2 H2 e2 g2 => ⟨fun _ _ => False, fun _ _ q => q.elim, hst E F2 H2 σ' _ e2 fun σ3 F3 H3 e3 g3 => s σ3 F3 H3 e3 ((g'.trans g2).trans g3)⟩
  | ret ht hst => exact fin ht fun F2 H2 e2 g2 => ⟨fun _ _ => False, fun _ _ q => q.elim, hst E F2 H2 σ' _ e2 fun v σ3 F3 H3 e3 g3 => s v σ3 F3 H3 e3 ((g'.trans g2).trans g3)⟩
end DL
/-! Defs and calls; comprehensions. -/
namespace DL
open PySem PySem.Spec PyProof.Rows L2

abbrev Con := List Sl → R → List Sl → Prop
def spD (K : PySem.W.Frag) (C : Con) : Sp := fun vs H Q _ => ∃ args r args' F, C args r args' ∧ EnvOk K H F H args (vs.map some) ∧
  ∀ v F2 H2, EnvOk K H F2 H2 args' (vs.map some) → Grow F H args (vs.map some) F2 H2 args' (vs.map some) → RepRet K H F2 H2 r v → Q v H2
/-- the arguments behind a call -/
def afterA : List Sl → List Sl → List Sl
  | [], _ => []
  | .ob _ _ :: as, x :: xs => x :: afterA as xs
  | a :: as, _ :: xs => a :: afterA as xs
  | a :: as, [] => a :: as
theorem afterA_get : ∀ {as xs : List Sl} {i : Nat}, as.length ≤ xs.length → (∀ b o, as[i]? ≠ some (.ob b o)) → (afterA as xs)[i]? = as[i]?
  | [], _, _, _, _ => rfl
  | .ob b o :: as, x :: xs, 0, _, h => absurd rfl (h b o)
  | .no :: as, x :: xs, 0, _, _ => rfl
  | .fr d :: as, x :: xs, 0, _, _ => rfl
  | .ob b o :: as, x :: xs, i + 1, hl, h => afterA_get (as := as) (xs := xs) (i := i) (by simpa using hl) h
  | .no :: as, x :: xs, i + 1, hl, h => afterA_get (as := as) (xs := xs) (i := i) (by simpa using hl) h
  | .fr d :: as, x :: xs, i + 1, hl, h => afterA_get (as := as) (xs := xs) (i := i) (by simpa using hl) h
  | a :: as, [], _, hl, _ => by simp at hl
theorem afterA_ob : ∀ {as xs : List Sl} {i : Nat} {b : Bool} {o : O}, as[i]? = some (.ob b o) → as.length ≤ xs.length → (afterA as xs)[i]? = xs[i]?
  | .ob b o :: as, x :: xs, 0, _, _, h, _ => rfl
  | .ob b o :: as, x :: xs, i + 1, _, _, h, hl => afterA_ob (as := as) (xs := xs) (i := i) h (by simpa using hl)
  | .no :: as, x :: xs, i + 1, _, _, h, hl => afterA_ob (as := as) (xs := xs) (i := i) h (by simpa using hl)
  | .fr d :: as, x :: xs, i + 1, _, _, h, hl => afterA_ob (as := as) (xs := xs) (i := i) h (by simpa using hl)
  | .no :: as, x :: xs, 0, _, _, h, _ => by cases h
  | .fr d :: as, x :: xs, 0, _, _, h, _ => by cases h
  | [], _, _, _, _, h, _ => by simp at h
  | a :: as, [], _, _, _, _, hl => by simp at hl
theorem afterA_len : ∀ {as xs : List Sl}, as.length ≤ xs.length → (afterA as xs).length = as.length
  | [], _, _ => rfl
  | .ob b o :: as, x :: xs, hl => congrArg (· + 1) (afterA_len (as := as) (xs := xs) (by simpa using hl))
  | .no :: as, x :: xs, hl => congrArg (· + 1) (afterA_len (as := as) (xs := xs) (by simpa using hl))
  | .fr d :: as, x :: xs, hl => congrArg (· + 1) (afterA_len (as := as) (xs := xs) (by simpa using hl))
  | a :: as, [], hl => by simp at hl

/-- what a def's body must do -/
def BodyOk (K : PySem.W.Frag) (t : TS) (m : Nat) (C : Con) : Prop :=
  ∀ args r args', C args r args' → (∀ (i : Nat) (o : O), args[i]? ≠ some (.ob true o)) ∧ ∃ δ', (StJ K t (args ++ List.replicate m .no) (.rt r δ') ∨ (r = .fr .none ∧ StJ K t (args ++ List.replicate m .no) (.nx δ'))) ∧ args.length ≤ δ'.length ∧ args' = afterA args δ'
section
variable {K : PySem.W.Frag} {E F H F2 H2 : Hp} {δ δ1 δ2 : List Sl} {σ : List (Option V)} {vs : List V}
theorem app_left {α : Type} {l l' : List α} {i : Nat} {x : α} (h : l[i]? = some x) : (l ++ l')[i]? = some x := by
  rw [List.getElem?_append_left (List.getElem?_eq_some_iff.mp h).1]
  exact h
theorem of_app_no {l : List Sl} {m i : Nat} {x : Sl} (h : (l ++ List.replicate m .no)[i]? = some x) (hx : x ≠ .no) : l[i]? = some x := by
  by_cases hi : i < l.length
  · rw [List.getElem?_append_left hi] at h
    exact h
  · rw [List.getElem?_append_right (by omega)] at h
    have := List.eq_of_mem_replicate (List.mem_of_getElem? h)
    exact absurd this hx
theorem EnvOk.extend {m : Nat} (e : EnvOk K E F H δ σ) : EnvOk K E F H (δ ++ List.replicate m .no) (σ ++ List.replicate m none) where
  ex := e.ex
  dom := e.dom
  len := by rw [List.length_append, List.length_append, List.length_replicate, List.length_replicate, e.len]
  fr := fun i d h => by
    obtain ⟨v, h1, h2⟩ := e.fr i d (of_app_no h fun z => nomatch z)
    exact ⟨v, app_left h1, h2⟩
  ob := fun i b o h => by
    obtain ⟨p, ho, h1, h2⟩ := e.ob i b o (of_app_no h fun z => nomatch z)
    exact ⟨p, ho, app_left h1, h2⟩
  dj := fun i j b o b' o' p h1 h2 h3 h4 => by
    have q1 := of_app_no h1 fun z => nomatch z
    have q2 := of_app_no h2 fun z => nomatch z
    obtain ⟨p1, _, w1, _⟩ := e.ob i b o q1
    obtain ⟨p2, _, w2, _⟩ := e.ob j b' o' q2
    have w1' := app_left (l' := List.replicate m (none : Option V)) w1
    have w2' := app_left (l' := List.replicate m (none : Option V)) w2
    rw [h3] at w1'
    rw [h4] at w2'
    cases w1'
    cases w2'
    exact e.dj i j b o b' o' p q1 q2 w1 w2
theorem start_eq {N : List Str} {ps : List Str} {m : Nat} (hm : m = N.length - ps.length) (hl : vs.length = ps.length) : L2.start N vs = vs.map some ++ List.replicate m none := by
  unfold L2.start
  rw [hm, hl]
end

theorem fnD {P : Program} {w : World} {K : PySem.W.Frag} {mg : Str → Option Value} {base : Heap} {x qual : Str} {st : Stmt} {f : Addr} {fd : FuncData} {N ps : List Str} {k m : Nat} {C : Con}
    (F : Fun K x qual st f fd) (S : FnScope N ps (defScope st)) (hl : ∀ args r args', C args r args' → args.length = ps.length) (hm : m = N.length - ps.length)
    (hbody : ∀ (cdv : Value) (A : Around) (outer : List Env) (s : Shared) (H : Hp) (E : XK), Room k (A.deeper (envOfC qual (defScope st) s.heap.objs.size f cdv)) →
      ∃ t, PSs (cxOf CX0 P w K mg base N qual (defScope st) f cdv A outer s H E).nox (defBody st) t ∧ BodyOk K t m C) : FnOk P w K mg base CX0 (k + 1) f fd ps (spD K C) := by
  have len : ∀ vs H Q E, spD K C vs H Q E → vs.length = ps.length := fun vs H Q E ⟨args, r, args', F0, hC, he, _⟩ => by
    have h1 := he.len
    rw [List.length_map, hl _ _ _ hC] at h1
    exact h1
  refine F.ok S len (fun cdv A outer s H vs Q E hr h => ?_)
  have hvl := len _ _ _ _ h
  obtain ⟨args, r, args', F0, hC, he, hq⟩ := h
  obtain ⟨t, ht, hb⟩ := hbody cdv A outer s H E hr
  refine ⟨t, ht, ?_⟩
  obtain ⟨hno, δ', hst, hle, rfl⟩ := hb args r args' hC
  rw [start_eq hm hvl]
  have he2 : EnvOk K H F0 H (args ++ List.replicate m .no) (vs.map some ++ List.replicate m none) := he.extend
  have fin : ∀ v σ' F2 H2, EnvOk K H F2 H2 δ' σ' → Grow F0 H (args ++ List.replicate m .no) (vs.map some ++ List.replicate m none) F2 H2 δ' σ' → RepRet K H F2 H2 r v → Q v H2 := fun v σ' F2 H2 e2 g2 hret => by
    have pr : ∀ (i : Nat) (b : Bool) (o : O), args[i]? = some (.ob b o) → b = false ∧ ∃ o', δ'[i]? = some (.ob false o') ∧ (afterA args δ')[i]? = some (.ob false o') ∧ σ'[i]? = (vs.map some)[i]? := fun i b o hi => by
      cases b with
      | true => exact absurd hi (hno i o)
      | false =>
        obtain ⟨⟨o', h1⟩, h2⟩ := g2.pr i o (app_left hi)
        obtain ⟨p, ho, w1, _⟩ := he.ob i false o hi
        refine ⟨rfl, o', h1, by rw [afterA_ob hi hle]; exact h1, ?_⟩
        rw [h2, w1]
        exact app_left w1
    have fwd : ∀ (i : Nat) (b : Bool) (o' : O), (afterA args δ')[i]? = some (.ob b o') → ∃ b0 o, args[i]? = some (.ob b0 o) := fun i b o' hi => by
      cases q : args[i]? with
      | none =>
        have h1 : args.length ≤ i := List.getElem?_eq_none_iff.mp q
        have h2 := (List.getElem?_eq_some_iff.mp hi).1
        rw [afterA_len hle] at h2
        omega
      | some y =>
        cases y with
        | ob b0 o => exact ⟨b0, o, rfl⟩
        | no =>
          rw [afterA_get hle (by rw [q]; exact fun _ _ z => nomatch z), q] at hi
          cases hi
        | fr d =>
          rw [afterA_get hle (by rw [q]; exact fun _ _ z => nomatch z), q] at hi
          cases hi
    have hot0 : ∀ a, Hot (args ++ List.replicate m .no) (vs.map some ++ List.replicate m none) a → Hot args (vs.map some) a := fun a ⟨i, b, o, h1, h2⟩ => by
      have q1 := of_app_no h1 fun z => nomatch z
      obtain ⟨p, ho, w1, _⟩ := he.ob i b o q1
      have w1' := app_left (l' := List.replicate m (none : Option V)) w1
      rw [h2] at w1'
      cases w1'
      exact ⟨i, b, o, q1, w1⟩
    refine hq v F2 H2 ⟨e2.ex, e2.dom, ?_, fun i d hi => ?_, fun i b o hi => ?_, fun i j b o b' o' p hi hj h1 h2 => ?_⟩ ⟨g2.f, fun a h1 h2 => g2.k a h1 fun z => h2 (hot0 a z), fun a o h1 h2 => g2.h a o h1 fun z => h2 (hot0 a z), fun a ⟨i, b, o, h1, h2⟩ => ?_, g2.dm, fun i o hi => ?_⟩ hret
    · rw [afterA_len hle]
      exact he.len
    · have hn : ∀ b o, args[i]? ≠ some (.ob b o) := fun b o z => by
        obtain ⟨_, o', _, q, _⟩ := pr i b o z
        rw [hi] at q
        cases q
      rw [afterA_get hle hn] at hi
      obtain ⟨v, h1, h2⟩ := he.fr i d hi
      exact ⟨v, h1, dp_mono g2.f h2⟩
    · obtain ⟨b0, o0, h0⟩ := fwd i b o hi
      obtain ⟨_, o', q1, q2, q3⟩ := pr i b0 o0 h0
      rw [hi] at q2
      cases q2
      obtain ⟨p, ho, w1, w2⟩ := e2.ob i _ _ q1
      exact ⟨p, ho, by rw [← q3]; exact w1, w2⟩
    · obtain ⟨b0, o0, h0⟩ := fwd i b o hi
      obtain ⟨b1, o1, h0'⟩ := fwd j b' o' hj
      exact he.dj i j _ _ _ _ p h0 h0' h1 h2
    · obtain ⟨b0, o0, h0⟩ := fwd i b o h1
      exact .inl ⟨i, b0, o0, h0, h2⟩
    · obtain ⟨_, o', q1, q2, q3⟩ := pr i false o hi
      exact ⟨⟨o', q2⟩, rfl⟩
  rcases hst with hst | ⟨rfl, hst⟩
  · exact hst H F0 H _ _ he2 fun v σ' F2 H2 e2 g2 hret => fin v σ' F2 H2 e2 g2 hret
  · exact hst H F0 H _ _ he2 fun σ' F2 H2 e2 g2 => fin .non σ' F2 H2 e2 g2 .non

/-! ### calls -/
def toArgs (δ : List Sl) : List R → Option (List Sl)
  | [] => some []
  | .fr d :: rs => (toArgs δ rs).map (.fr d :: ·)
  | .new o :: rs => (toArgs δ rs).map (.ob false o :: ·)
  | .al i :: rs => match δ[i]? with
    | some (.ob _ o) => (toArgs δ rs).map (.ob false o :: ·)
    | _ => none
def setO (δ : List Sl) (i : Nat) (o : O) : List Sl := match δ[i]? with
  | some (.ob b _) => δ.set i (.ob b o)
  | _ => δ
def backA : List Sl → List R → List Sl → List Sl
  | δ, .al i :: rs, .ob _ o :: as => backA (setO δ i o) rs as
  | δ, _ :: rs, _ :: as => backA δ rs as
  | δ, _, _ => δ
def alsOf : List R → List Nat
  | [] => []
  | .al i :: rs => i :: alsOf rs
  | _ :: rs => alsOf rs
theorem mem_als : ∀ {rs : List R} {j i : Nat}, rs[j]? = some (.al i) → i ∈ alsOf rs
  | .al _ :: rs, 0, i, h => by
    cases h
    exact List.mem_cons_self
  | .al _ :: rs, j + 1, i, h => List.mem_cons_of_mem _ (mem_als (rs := rs) (j := j) h)
  | .fr _ :: rs, j + 1, i, h => mem_als (rs := rs) (j := j) h
  | .new _ :: rs, j + 1, i, h => mem_als (rs := rs) (j := j) h
  | .fr _ :: rs, 0, i, h => by cases h
  | .new _ :: rs, 0, i, h => by cases h
  | [], _, _, h => by simp at h
theorem als_nodup : ∀ {rs : List R} {j k i : Nat}, (alsOf rs).Nodup → rs[j]? = some (.al i) → rs[k]? = some (.al i) → j = k
  | [], _, _, _, _, h, _ => by simp at h
  | .al _ :: rs, 0, 0, i, _, _, _ => rfl
  | .al _ :: rs, 0, k + 1, i, n, h1, h2 => by
    cases h1
    exact absurd (mem_als (rs := rs) (j := k) h2) (List.nodup_cons.mp n).1
  | .al _ :: rs, j + 1, 0, i, n, h1, h2 => by
    cases h2
    exact absurd (mem_als (rs := rs) (j := j) h1) (List.nodup_cons.mp n).1
  | .al _ :: rs, j + 1, k + 1, i, n, h1, h2 => congrArg (· + 1) (als_nodup (rs := rs) (List.nodup_cons.mp n).2 h1 h2)
  | .fr _ :: rs, j + 1, k + 1, i, n, h1, h2 => congrArg (· + 1) (als_nodup (rs := rs) n h1 h2)
  | .new _ :: rs, j + 1, k + 1, i, n, h1, h2 => congrArg (· + 1) (als_nodup (rs := rs) n h1 h2)
  | .fr _ :: rs, 0, _, _, _, h1, _ => by cases h1
  | .new _ :: rs, 0, _, _, _, h1, _ => by cases h1
  | .fr _ :: rs, _ + 1, 0, _, _, _, h2 => by cases h2
  | .new _ :: rs, _ + 1, 0, _, _, _, h2 => by cases h2
theorem als_rev {i : Nat} : ∀ {rs : List R}, i ∈ alsOf rs → ∃ j : Nat, rs[j]? = some (.al i)
  | .al i0 :: rs, h => by
    rcases List.mem_cons.mp h with rfl | h
    · exact ⟨0, rfl⟩
    · obtain ⟨j, hj⟩ := als_rev (rs := rs) h
      exact ⟨j + 1, hj⟩
  | .fr _ :: rs, h => by
    obtain ⟨j, hj⟩ := als_rev (rs := rs) h
    exact ⟨j + 1, hj⟩
  | .new _ :: rs, h => by
    obtain ⟨j, hj⟩ := als_rev (rs := rs) h
    exact ⟨j + 1, hj⟩
  | [], h => nomatch h
theorem setO_ne {δ : List Sl} {i j : Nat} {o : O} (h : j ≠ i) : (setO δ i o)[j]? = δ[j]? := by
  unfold setO
  split
  · rw [List.getElem?_set_ne (Ne.symm h)]
  · rfl
theorem setO_eq {δ : List Sl} {i : Nat} {o o0 : O} {b : Bool} (h : δ[i]? = some (.ob b o0)) : (setO δ i o)[i]? = some (.ob b o) := by
  unfold setO
  rw [h]
  exact List.getElem?_set_self (List.getElem?_eq_some_iff.mp h).1
theorem setO_len {δ : List Sl} {i : Nat} {o : O} : (setO δ i o).length = δ.length := by
  unfold setO
  split
  · rw [List.length_set]
  · rfl
theorem setO_same {δ : List Sl} {i : Nat} {o : O} : SameK δ (setO δ i o) := by
  unfold SameK setO
  split
  · rename_i b o0 h
    refine List.ext_getElem? fun j => ?_
    rw [List.getElem?_map, List.getElem?_map]
    by_cases e : j = i
    · subst e
      rw [List.getElem?_set_self (List.getElem?_eq_some_iff.mp h).1, h]
      rfl
    · rw [List.getElem?_set_ne (Ne.symm e)]
  · rfl
theorem backA_same : ∀ {rs : List R} {δ as : List Sl}, SameK δ (backA δ rs as)
  | [], _, _ => by unfold backA; exact SameK.refl _
  | _ :: _, _, [] => by
    unfold backA
    split <;> first | exact SameK.refl _ | (rename_i h; cases h)
  | .al i :: rs, δ, .ob b o :: as => by
    unfold backA
    exact setO_same.trans (backA_same (rs := rs))
  | .al i :: rs, δ, .fr d :: as => by unfold backA; exact backA_same (rs := rs)
  | .al i :: rs, δ, .no :: as => by unfold backA; exact backA_same (rs := rs)
  | .fr d :: rs, δ, a :: as => by unfold backA; exact backA_same (rs := rs)
  | .new o :: rs, δ, a :: as => by unfold backA; exact backA_same (rs := rs)
theorem backA_ne : ∀ {rs : List R} {δ as : List Sl} {i : Nat}, i ∉ alsOf rs → (backA δ rs as)[i]? = δ[i]?
  | [], _, _, _, _ => by unfold backA; rfl
  | _ :: _, _, [], _, _ => by
    unfold backA
    split <;> first | rfl | (rename_i h; cases h)
  | .al i :: rs, δ, .ob b o :: as, j, h => by
    have h' : j ∉ i :: alsOf rs := h
    rw [List.mem_cons, not_or] at h'
    unfold backA
    rw [backA_ne (rs := rs) h'.2, setO_ne h'.1]
  | .al i :: rs, δ, .fr d :: as, j, h => by
    have h' : j ∉ i :: alsOf rs := h
    rw [List.mem_cons, not_or] at h'
    unfold backA
    exact backA_ne (rs := rs) h'.2
  | .al i :: rs, δ, .no :: as, j, h => by
    have h' : j ∉ i :: alsOf rs := h
    rw [List.mem_cons, not_or] at h'
    unfold backA
    exact backA_ne (rs := rs) h'.2
  | .fr d :: rs, δ, a :: as, j, h => by unfold backA; exact backA_ne (rs := rs) h
  | .new o :: rs, δ, a :: as, j, h => by unfold backA; exact backA_ne (rs := rs) h
theorem backA_eq : ∀ {rs : List R} {δ as : List Sl} {i j : Nat} {b b' : Bool} {o o' : O}, (alsOf rs).Nodup → rs[j]? = some (.al i) → as[j]? = some (.ob b' o') → δ[i]? = some (.ob b o) → (backA δ rs as)[i]? = some (.ob b o')
  | [], _, _, _, _, _, _, _, _, _, h, _, _ => by simp at h
  | _ :: _, _, [], _, _, _, _, _, _, _, _, h, _ => by simp at h
  | .al i0 :: rs, δ, .ob b0 o0 :: as, i, 0, b, b', o, o', n, h1, h2, h3 => by
    cases h1
    cases h2
    unfold backA
    rw [backA_ne (rs := rs) (List.nodup_cons.mp n).1]
    exact setO_eq h3
  | .al i0 :: rs, δ, .ob b0 o0 :: as, i, j + 1, b, b', o, o', n, h1, h2, h3 => by
    unfold backA
    refine backA_eq (rs := rs) (j := j) (o := o) (List.nodup_cons.mp n).2 h1 h2 ?_
    rw [setO_ne]
    · exact h3
    · rintro rfl
      exact (List.nodup_cons.mp n).1 (mem_als (rs := rs) (j := j) h1)
  | .al i0 :: rs, δ, .fr d :: as, i, 0, b, b', o, o', n, h1, h2, h3 => by cases h2
  | .al i0 :: rs, δ, .no :: as, i, 0, b, b', o, o', n, h1, h2, h3 => by cases h2
  | .al i0 :: rs, δ, .fr d :: as, i, j + 1, b, b', o, o', n, h1, h2, h3 => by unfold backA; exact backA_eq (rs := rs) (j := j) (List.nodup_cons.mp n).2 h1 h2 h3
  | .al i0 :: rs, δ, .no :: as, i, j + 1, b, b', o, o', n, h1, h2, h3 => by unfold backA; exact backA_eq (rs := rs) (j := j) (List.nodup_cons.mp n).2 h1 h2 h3
  | .fr d :: rs, δ, a :: as, i, j + 1, b, b', o, o', n, h1, h2, h3 => by unfold backA; exact backA_eq (rs := rs) (j := j) n h1 h2 h3
  | .new d :: rs, δ, a :: as, i, j + 1, b, b', o, o', n, h1, h2, h3 => by unfold backA; exact backA_eq (rs := rs) (j := j) n h1 h2 h3
  | .fr d :: rs, δ, a :: as, i, 0, b, b', o, o', n, h1, h2, h3 => by cases h1
  | .new d :: rs, δ, a :: as, i, 0, b, b', o, o', n, h1, h2, h3 => by cases h1
/-- the arguments, one by one -/
theorem toArgs_get {δ : List Sl} : ∀ {rs : List R} {args : List Sl}, toArgs δ rs = some args → args.length = rs.length ∧ ∀ (j : Nat) (a : Sl), args[j]? = some a →
    (∃ d, rs[j]? = some (.fr d) ∧ a = .fr d) ∨ (∃ o, rs[j]? = some (.new o) ∧ a = .ob false o) ∨ (∃ i b o, rs[j]? = some (.al i) ∧ δ[i]? = some (.ob b o) ∧ a = .ob false o)
  | [], args, h => by
    cases h
    exact ⟨rfl, fun j a h => by simp at h⟩
  | r :: rs, args, h => by
    cases q : toArgs δ rs with
    | none =>
      cases r with
      | fr d => simp [toArgs, q] at h
      | new o => simp [toArgs, q] at h
      | al i =>
        unfold toArgs at h
        split at h
        · rw [q] at h
          cases h
        · cases h
    | some as =>
      obtain ⟨hl, ih⟩ := toArgs_get (rs := rs) q
      cases r with
      | fr d =>
        simp only [toArgs, q, Option.map_some, Option.some.injEq] at h
        subst h
        refine ⟨congrArg (· + 1) hl, fun j a hj => ?_⟩
        cases j with
        | zero =>
          cases hj
          exact .inl ⟨d, rfl, rfl⟩
        | succ j => exact ih j a hj
      | new o =>
        simp only [toArgs, q, Option.map_some, Option.some.injEq] at h
        subst h
        refine ⟨congrArg (· + 1) hl, fun j a hj => ?_⟩
        cases j with
        | zero =>
          cases hj
          exact .inr (.inl ⟨o, rfl, rfl⟩)
        | succ j => exact ih j a hj
      | al i =>
        unfold toArgs at h
        split at h
        · rename_i b o hi
          rw [q] at h
          cases h
          refine ⟨congrArg (· + 1) hl, fun j a hj => ?_⟩
          cases j with
          | zero =>
            cases hj
            exact .inr (.inr ⟨i, b, o, rfl, hi, rfl⟩)
          | succ j => exact ih j a hj
        · cases h
theorem RepRs.get {K : PySem.W.Frag} {F H : Hp} {δ : List Sl} {σ : List (Option V)} : ∀ {rs : List R} {vs : List V} {j : Nat} {r : R}, RepRs K F H δ σ rs vs → rs[j]? = some r → ∃ v, vs[j]? = some v ∧ RepR K F H δ σ r v
  | _, _, _, _, .nil, h => by simp at h
  | _, _, 0, _, .cons h1 _ _, h => by
    cases h
    exact ⟨_, rfl, h1⟩
  | _, _, j + 1, r, .cons _ h2 _, h => RepRs.get (j := j) (r := r) h2 h
theorem RepRs.len {K : PySem.W.Frag} {F H : Hp} {δ : List Sl} {σ : List (Option V)} : ∀ {rs : List R} {vs : List V}, RepRs K F H δ σ rs vs → vs.length = rs.length
  | _, _, .nil => rfl
  | _, _, .cons _ t _ => congrArg (· + 1) t.len
theorem RepRs.dj {K : PySem.W.Frag} {F H : Hp} {δ : List Sl} {σ : List (Option V)} : ∀ {rs : List R} {vs : List V} {j k : Nat} {o o' : O} {p : Addr}, RepRs K F H δ σ rs vs → rs[j]? = some (.new o) → rs[k]? = some (.new o') → vs[j]? = some (.ref p) → vs[k]? = some (.ref p) → j = k
  | _, _, _, _, _, _, _, .nil, h, _, _, _ => by simp at h
  | _, _, 0, 0, _, _, _, .cons _ _ _, _, _, _, _ => rfl
  | _, _, 0, k + 1, o, o', p, .cons _ _ n, h1, h2, h3, h4 => by
    cases h1
    cases h3
    exact absurd h4 (n o p rfl rfl k o' h2)
  | _, _, j + 1, 0, o, o', p, .cons _ _ n, h1, h2, h3, h4 => by
    cases h2
    cases h4
    exact absurd h3 (n o' p rfl rfl j o h1)
  | _, _, j + 1, k + 1, o, o', p, .cons _ t _, h1, h2, h3, h4 => congrArg (· + 1) (RepRs.dj (j := j) (k := k) t h1 h2 h3 h4)
def notAl : R → Bool
  | .al _ => false
  | _ => true
theorem ev_call {K : PySem.W.Frag} {δ δ1 δ2 : List Sl} {ta : TA} {rs : List R} {r : R} {args args' : List Sl} {C : Con} {Ex0 : XK} (ha : EvA K ta δ rs δ1) (ht : toArgs δ1 rs = some args) (hC : C args r args') (hb : backA δ1 rs args' = δ2) (hn : (alsOf rs).Nodup := by decide) (hr : notAl r = true := by rfl) :
    EvJ K (tCall (spD K C) [] Ex0 ta) δ r δ2 := by
  subst hb
  refine ⟨ha.1.trans backA_same, fun E F H σ Q e q => ha.2 E F H σ _ e fun vs F1 H1 e1 g1 hrs hfr => ?_⟩
  obtain ⟨hl, hget⟩ := toArgs_get ht
  have hvl := hrs.len
  show spD K C (vs ++ []) H1 Q Ex0
  rw [List.append_nil]
  have mv : ∀ {j : Nat} {v : V}, vs[j]? = some v → (vs.map some)[j]? = some (some v) := fun {j v} h => by rw [List.getElem?_map, h]; rfl
  have mv' : ∀ {j : Nat} {v : V}, (vs.map some)[j]? = some (some v) → vs[j]? = some v := fun {j v} h => by
    rw [List.getElem?_map] at h
    cases q : vs[j]? with
    | none => rw [q] at h; cases h
    | some u => rw [q] at h; cases h; rfl
  -- an object's argument: its address
  have obj : ∀ (j : Nat) (b : Bool) (o : O), args[j]? = some (.ob b o) → b = false ∧ ∃ p ho, vs[j]? = some (.ref p) ∧ F1 p = none ∧ H1 p = some ho ∧ RepO K F1 o ho ∧
      ((∃ o', rs[j]? = some (.new o') ∧ ¬ Hot δ1 σ p) ∨ ∃ i b' o', rs[j]? = some (.al i) ∧ δ1[i]? = some (.ob b' o') ∧ σ[i]? = some (some (.ref p))) := fun j b o hj => by
    rcases hget j _ hj with ⟨d, _, e0⟩ | ⟨o0, h1, e0⟩ | ⟨i, b0, o0, h1, h2, e0⟩
    · cases e0
    · cases e0
      obtain ⟨v, w1, p, ho, rfl, w2, w3, w4, w5⟩ := hrs.get h1
      exact ⟨rfl, p, ho, w1, w2, w3, w4, .inl ⟨_, h1, w5⟩⟩
    · cases e0
      obtain ⟨v, w1, w2, _⟩ := hrs.get h1
      obtain ⟨p, ho, x1, x2, x3, x4, _⟩ := e1.ob i b0 _ h2
      rw [w2] at x1
      cases x1
      exact ⟨rfl, p, ho, w1, x2, x3, x4, .inr ⟨i, b0, _, h1, h2, w2⟩⟩
  have henv : EnvOk K H1 F1 H1 args (vs.map some) := by
    refine ⟨e1.ex, fun _ h => h, by rw [List.length_map, hvl, hl], fun j d hj => ?_, fun j b o hj => ?_, fun j k b o b' o' p hj hk h1 h2 => ?_⟩
    · rcases hget j _ hj with ⟨d', h1, e0⟩ | ⟨o0, h1, e0⟩ | ⟨i, b0, o0, h1, h2, e0⟩
      · cases e0
        obtain ⟨v, w1, w2⟩ := hrs.get h1
        exact ⟨v, mv w1, w2⟩
      · cases e0
      · cases e0
    · obtain ⟨rfl, p, ho, w1, w2, w3, w4, _⟩ := obj j b o hj
      exact ⟨p, ho, mv w1, w2, w3, w4, fun z => nomatch z⟩
    · have h1 := mv' h1
      have h2 := mv' h2
      obtain ⟨_, p1, _, w1, _, _, _, c1⟩ := obj j b o hj
      obtain ⟨_, p2, _, w2, _, _, _, c2⟩ := obj k b' o' hk
      rw [h1] at w1
      rw [h2] at w2
      cases w1
      cases w2
      rcases c1 with ⟨o1, r1, n1⟩ | ⟨i1, b1, o1, r1, s1, t1⟩
      · rcases c2 with ⟨o2, r2, n2⟩ | ⟨i2, b2, o2, r2, s2, t2⟩
        · exact hrs.dj r1 r2 h1 h2
        · exact absurd ⟨i2, b2, o2, s2, t2⟩ n1
      · rcases c2 with ⟨o2, r2, n2⟩ | ⟨i2, b2, o2, r2, s2, t2⟩
        · exact absurd ⟨i1, b1, o1, s1, t1⟩ n2
        · have e12 := e1.dj i1 i2 b1 o1 b2 o2 p s1 s2 t1 t2
          subst e12
          exact als_nodup hn r1 r2
  -- what the callee may change
  have hotA : ∀ a, Hot args (vs.map some) a → Hot δ1 σ a ∨ H a = none ∨ ∃ (j : Nat) (o' : O), rs[j]? = some (.new o') ∧ vs[j]? = some (.ref a) ∧ ¬ Hot δ1 σ a := fun a ⟨j, b, o, h1, h2⟩ => by
    obtain ⟨_, p, _, w1, _, _, _, c⟩ := obj j b o h1
    have h2 := mv' h2
    rw [h2] at w1
    cases w1
    rcases c with ⟨o1, r1, n1⟩ | ⟨i1, b1, o1, r1, s1, t1⟩
    · exact .inr (.inr ⟨j, o1, r1, h2, n1⟩)
    · exact .inl ⟨i1, b1, o1, s1, t1⟩
  refine ⟨args, r, args', F1, hC, henv, fun v F2 H2 e2 g2 hret => ?_⟩
  have alout : ∀ {i : Nat} {b : Bool} {o : O} {p : Addr}, δ1[i]? = some (.ob b o) → σ[i]? = some (some (.ref p)) → i ∉ alsOf rs → ¬ Hot args (vs.map some) p := fun {i b o p} h1 h2 hni ⟨j, b', o', w1, w2⟩ => by
    obtain ⟨_, p', _, x1, _, _, _, c⟩ := obj j b' o' w1
    have w2 := mv' w2
    rw [w2] at x1
    cases x1
    rcases c with ⟨o1, r1, n1⟩ | ⟨i1, b1, o1, r1, s1, t1⟩
    · exact n1 ⟨i, b, o, h1, h2⟩
    · have e12 := e1.dj i i1 b o b1 o1 _ h1 s1 h2 t1
      subst e12
      exact hni (mem_als r1)
  have hrev : ∀ {i : Nat}, i ∈ alsOf rs → ∃ j : Nat, rs[j]? = some (.al i) := fun h => als_rev h
  have len' : args'.length = args.length := by
    have h1 := e2.len
    have h2 := henv.len
    omega
  -- the objects behind the call
  have back : ∀ {i : Nat} {b : Bool} {o : O}, (backA δ1 rs args')[i]? = some (.ob b o) → ∃ o1, δ1[i]? = some (.ob b o1) ∧ ((i ∉ alsOf rs ∧ o1 = o) ∨ ∃ (j : Nat) (p : Addr), rs[j]? = some (.al i) ∧ args'[j]? = some (.ob false o) ∧ vs[j]? = some (.ref p) ∧ σ[i]? = some (some (.ref p))) := fun {i b o} h => by
    obtain ⟨o1, h1⟩ := (SameK.symm backA_same).ob h
    refine ⟨o1, h1, ?_⟩
    by_cases hm : i ∈ alsOf rs
    · obtain ⟨j, hj⟩ := hrev hm
      obtain ⟨w, w1, w2, _⟩ := hrs.get hj
      obtain ⟨p, _, x1, _⟩ := e1.ob i b o1 h1
      rw [w2] at x1
      cases x1
      have hjl : j < args.length := by
        rw [hl]
        exact (List.getElem?_eq_some_iff.mp hj).1
      have ha : ∃ o0, args[j]? = some (.ob false o0) := by
        rcases hget j args[j] (List.getElem?_eq_getElem hjl) with ⟨d, q1, _⟩ | ⟨o0, q1, _⟩ | ⟨i', b0, o0, q1, q2, q3⟩
        · rw [hj] at q1
          cases q1
        · rw [hj] at q1
          cases q1
        · exact ⟨o0, by rw [List.getElem?_eq_getElem hjl, q3]⟩
      obtain ⟨o0, ha⟩ := ha
      obtain ⟨⟨o', ha'⟩, _⟩ := g2.pr j o0 ha
      have hb := backA_eq hn hj ha' h1
      rw [h] at hb
      cases hb
      exact .inr ⟨j, p, hj, ha', w1, w2⟩
    · have hb := backA_ne (δ := δ1) (as := args') hm
      rw [h, h1] at hb
      cases hb
      exact .inl ⟨hm, rfl⟩
  have E2 : EnvOk K E F2 H2 (backA δ1 rs args') σ := by
    refine ⟨e2.ex, fun a h => e1.dom a (g2.dm a h), ?_, fun i d hi => ?_, fun i b o hi => ?_, fun i j b o b' o' p hi hj => ?_⟩
    · have hk : ((backA δ1 rs args').map kind).length = (δ1.map kind).length := by rw [backA_same]
      rw [List.length_map, List.length_map] at hk
      rw [hk]
      exact e1.len
    · obtain ⟨u, w1, w2⟩ := e1.fr i d ((SameK.symm backA_same).fr hi)
      exact ⟨u, w1, dp_mono g2.f w2⟩
    · obtain ⟨o1, h1, c⟩ := back hi
      obtain ⟨p, ho, w1, w2, w3, w4, w5⟩ := e1.ob i b o1 h1
      rcases c with ⟨hm, rfl⟩ | ⟨j, p', c1, c2, c3, c4⟩
      · have nh := alout h1 w1 hm
        refine ⟨p, ho, w1, ?_, g2.h p ho w3 nh, w4.mono g2.f, w5⟩
        rw [g2.k p (by rw [w3]; exact fun z => nomatch z) nh]
        exact w2
      · rw [c4] at w1
        cases w1
        obtain ⟨p2, ho2, x1, x2, x3, x4, _⟩ := e2.ob j false o c2
        have x1 := mv' x1
        rw [c3] at x1
        cases x1
        exact ⟨p, ho2, c4, x2, x3, x4, w5⟩
    · obtain ⟨o1, h1, _⟩ := back hi
      obtain ⟨o2, h2, _⟩ := back hj
      exact e1.dj i j _ _ _ _ p h1 h2
  have newH : ∀ a, H a ≠ none → ¬ Hot δ1 σ a → ¬ Hot args (vs.map some) a := fun a h1 h2 h3 => by
    rcases hotA a h3 with z | z | ⟨j, o', z1, z2, _⟩
    · exact h2 z
    · exact h1 z
    · exact h1 (hfr j _ _ z1 z2 a rfl)
  have G2 : Grow F H δ σ F2 H2 (backA δ1 rs args') σ := by
    have nh : ∀ a, H a ≠ none → ¬ Hot δ σ a → ¬ Hot δ1 σ a := fun a h1 h2 z => (g1.n a z).elim h2 h1
    have nn1 : ∀ a, H a ≠ none → H1 a ≠ none := fun a h1 z => h1 (g1.dm a z)
    refine ⟨g1.f.trans g2.f, fun a h1 h2 => ?_, fun a o h1 h2 => ?_, fun a ⟨i, b, o, h1, h2⟩ => ?_, fun a h => g1.dm a (g2.dm a h), fun i o hi => ?_⟩
    · rw [g2.k a (nn1 a h1) (newH a h1 (nh a h1 h2)), g1.k a h1 h2]
    · have hne : H a ≠ none := by rw [h1]; exact fun z => nomatch z
      exact g2.h a o (g1.h a o h1 h2) (newH a hne (nh a hne h2))
    · obtain ⟨o1, w1, _⟩ := back h1
      exact g1.n a ⟨i, b, o1, w1, h2⟩
    · obtain ⟨⟨o1, w1⟩, w2⟩ := g1.pr i o hi
      exact ⟨(backA_same (rs := rs) (as := args')).ob w1, w2⟩
  refine q v F2 H2 E2 G2 ?_ ?_
  · cases r with
    | fr d => exact hret
    | al i => cases hr
    | new o =>
      obtain ⟨p, ho, rfl, w1, w2, w3, w4⟩ := hret
      refine ⟨p, ho, rfl, w2, w3, w4, fun ⟨i, b, o', z1, z2⟩ => ?_⟩
      obtain ⟨o1, x1, _⟩ := back z1
      obtain ⟨p', ho', y1, _, y3, _⟩ := e1.ob i b o1 x1
      rw [z2] at y1
      cases y1
      rw [w1] at y3
      cases y3
  · cases r with
    | fr d => trivial
    | al i => trivial
    | new o =>
      intro p e0
      obtain ⟨p', ho, e0', w1, _⟩ := hret
      rw [e0] at e0'
      cases e0'
      exact g1.dm _ w1
end DL
/-! List comprehensions. -/
namespace DL
open PySem PySem.Spec PyProof.Rows L2

def wipeD (δ : List Sl) : List Nat → List Sl
  | [] => δ
  | v :: vs => (wipeD δ vs).set v .no
theorem wipeD_len {δ : List Sl} : ∀ {vs : List Nat}, (wipeD δ vs).length = δ.length
  | [] => rfl
  | v :: vs => by
    unfold wipeD
    rw [List.length_set, wipeD_len]
theorem wipeD_ne {δ : List Sl} {i : Nat} : ∀ {vs : List Nat}, i ∉ vs → (wipeD δ vs)[i]? = δ[i]?
  | [], _ => rfl
  | v :: vs, h => by
    rw [List.mem_cons, not_or] at h
    unfold wipeD
    rw [List.getElem?_set_ne (Ne.symm h.1), wipeD_ne h.2]
theorem wipeD_mem {δ : List Sl} {i : Nat} {x : Sl} : ∀ {vs : List Nat}, i ∈ vs → (wipeD δ vs)[i]? = some x → x = .no
  | v :: vs, h, e => by
    unfold wipeD at e
    rcases getset e with ⟨_, e1, _⟩ | ⟨hn, e1⟩
    · exact e1
    · rcases List.mem_cons.mp h with h | h
      · exact absurd h hn
      · exact wipeD_mem h e1
theorem wipeD_some {δ : List Sl} {i : Nat} {x : Sl} {vs : List Nat} (h : (wipeD δ vs)[i]? = some x) (hx : x ≠ .no) : i ∉ vs ∧ δ[i]? = some x := by
  by_cases hm : i ∈ vs
  · exact absurd (wipeD_mem hm h) hx
  · exact ⟨hm, by rw [← wipeD_ne hm]; exact h⟩
theorem wipe_ne {σ : List (Option V)} {i : Nat} : ∀ {vs : List Nat}, i ∉ vs → (wipe σ vs)[i]? = σ[i]?
  | [], _ => rfl
  | v :: vs, h => by
    rw [List.mem_cons, not_or] at h
    unfold wipe
    rw [List.getElem?_set_ne (Ne.symm h.1), wipe_ne h.2]
theorem wipe_set {σ : List (Option V)} {i : Nat} {x : Option V} {vs : List Nat} (h : i ∈ vs) : wipe (σ.set i x) vs = wipe σ vs := by
  refine List.ext_getElem? fun j => ?_
  by_cases hj : j ∈ vs
  · have w : ∀ τ : List (Option V), τ.length = σ.length → (wipe τ vs)[j]? = if j < σ.length then some none else none := fun τ hτ => by
      have hl : (wipe τ vs).length = σ.length := by rw [wipe_length, hτ]
      by_cases hjl : j < σ.length
      · rw [if_pos hjl]
        have e : (wipe τ vs)[j]? = some (wipe τ vs)[j] := List.getElem?_eq_getElem (by omega)
        rw [e]
        cases q : (wipe τ vs)[j] with
        | none => rfl
        | some v =>
          rw [q] at e
          exact absurd hj (wipe_some e).2
      · rw [if_neg hjl, List.getElem?_eq_none (by omega)]
    rw [w _ (by rw [List.length_set]), w _ rfl]
  · rw [wipe_ne hj, wipe_ne hj]
    rw [List.getElem?_set_ne]
    rintro rfl
    exact hj h
theorem wipe_wipe {σ : List (Option V)} {vs : List Nat} : wipe (wipe σ vs) vs = wipe σ vs := by
  refine List.ext_getElem? fun j => ?_
  by_cases hj : j ∈ vs
  · cases q1 : (wipe (wipe σ vs) vs)[j]? with
    | none =>
      have := List.getElem?_eq_none_iff.mp q1
      rw [wipe_length] at this
      rw [List.getElem?_eq_none this]
    | some z =>
      cases z with
      | some v => exact absurd hj (wipe_some q1).2
      | none =>
        have hlt := (List.getElem?_eq_some_iff.mp q1).1
        rw [wipe_length] at hlt
        cases q2 : (wipe σ vs)[j]? with
        | none =>
          have := List.getElem?_eq_none_iff.mp q2
          omega
        | some z =>
          cases z with
          | some v => exact absurd hj (wipe_some q2).2
          | none => rfl
  · rw [wipe_ne hj]
def NoParV (δ : List Sl) (vs : List Nat) : Prop := ∀ i ∈ vs, NoPar δ i
section
variable {K : PySem.W.Frag} {E F H F2 H2 : Hp} {δ δ1 δ2 : List Sl} {σ : List (Option V)} {vs : List Nat}
theorem EnvOk.wipe (e : EnvOk K E F H δ σ) : EnvOk K E F H (wipeD δ vs) (wipe σ vs) where
  ex := e.ex
  dom := e.dom
  len := by rw [wipeD_len, wipe_length]; exact e.len
  fr := fun i d h => by
    obtain ⟨h1, h2⟩ := wipeD_some h fun z => nomatch z
    rw [wipe_ne h1]
    exact e.fr i d h2
  ob := fun i b o h => by
    obtain ⟨h1, h2⟩ := wipeD_some h fun z => nomatch z
    rw [wipe_ne h1]
    exact e.ob i b o h2
  dj := fun i j b o b' o' p h1 h2 h3 h4 => by
    obtain ⟨q1, q2⟩ := wipeD_some h1 fun z => nomatch z
    obtain ⟨q3, q4⟩ := wipeD_some h2 fun z => nomatch z
    rw [wipe_ne q1] at h3
    rw [wipe_ne q3] at h4
    exact e.dj i j b o b' o' p q2 q4 h3 h4
theorem Hot.wiped {a : Addr} : Hot (wipeD δ vs) (L2.wipe σ vs) a → Hot δ σ a := fun ⟨i, b, o, h1, h2⟩ => by
  obtain ⟨q1, q2⟩ := wipeD_some h1 fun z => nomatch z
  rw [wipe_ne q1] at h2
  exact ⟨i, b, o, q2, h2⟩
theorem Grow.wipe (hp : NoParV δ vs) : Grow F H δ σ F H (wipeD δ vs) (L2.wipe σ vs) where
  f := Ex.refl F
  k := fun _ _ _ => rfl
  h := fun _ _ e _ => e
  n := fun a h => .inl h.wiped
  dm := fun _ h => h
  pr := fun i o h => by
    have hi : i ∉ vs := fun z => hp i z o h
    exact ⟨⟨o, by rw [wipeD_ne hi]; exact h⟩, wipe_ne hi⟩
/-- an object that no name owns is changed -/
theorem EnvOk.poke {p : Addr} {ho : HO} (e : EnvOk K E F H δ σ) (h1 : F p = none) (h2 : ¬ Hot δ σ p) (h3 : H p ≠ none) : EnvOk K E F (upd H p ho) δ σ where
  ex := fun a o h => by
    rw [upd_ne (ne_of_none h h1)]
    exact e.ex a o h
  dom := fun a h => by
    by_cases ha : a = p
    · rw [ha, upd_same] at h
      cases h
    · rw [upd_ne ha] at h
      exact e.dom a h
  len := e.len
  fr := e.fr
  ob := fun i b o h => by
    obtain ⟨q, ho', w1, w2, w3, w4⟩ := e.ob i b o h
    refine ⟨q, ho', w1, w2, ?_, w4⟩
    rw [upd_ne fun z => h2 ⟨i, b, o, h, by rw [← z]; exact w1⟩]
    exact w3
  dj := e.dj
end
theorem Grow.poke {F H F2 H2 : Hp} {δ δ2 : List Sl} {σ σ2 : List (Option V)} {A : Addr} {ho : HO} (G : Grow F H δ σ F2 H2 δ2 σ2) (hA : H A = none) : Grow F H δ σ F2 (upd H2 A ho) δ2 σ2 :=
  ⟨G.f, G.k, fun a o h1 h2 => by
    rw [upd_ne (ne_of_none h1 hA)]
    exact G.h a o h1 h2, G.n, fun a h => by
    by_cases ha : a = A
    · rw [ha]
      exact hA
    · rw [upd_ne ha] at h
      exact G.dm a h, G.pr⟩
def BindW (K : PySem.W.Frag) (g : TG) (d : D) (vs : List Nat) (δ δ' : List Sl) : Prop :=
  (∀ i, i ∉ vs → δ'[i]? = δ[i]?) ∧ ∀ (E F H : Hp) (σ : List (Option V)) (v : V) (Q : List (Option V) → Hp → Prop), EnvOk K E F H δ σ → Dp K F v d →
    (∀ σ', EnvOk K E F H δ' σ' → Grow F H δ σ F H δ' σ' → wipe σ' vs = wipe σ vs → Q σ' H) → g v σ H Q
def BindsW (K : PySem.W.Frag) (g : TGs) (ds : List D) (vs : List Nat) (δ δ' : List Sl) : Prop :=
  (∀ i, i ∉ vs → δ'[i]? = δ[i]?) ∧ ∀ (E F H : Hp) (σ : List (Option V)) (ws : List V) (Q : List (Option V) → Hp → Prop), EnvOk K E F H δ σ → DpAll K F ws ds →
    (∀ σ', EnvOk K E F H δ' σ' → Grow F H δ σ F H δ' σ' → wipe σ' vs = wipe σ vs → Q σ' H) → g ws σ H Q
section
variable {K : PySem.W.Frag} {δ δ1 δ2 : List Sl} {d : D} {ds : List D} {i : Nat} {vs : List Nat}
theorem bw_name (hi : i ∈ vs := by decide) (hp : NoPar δ i := by intro o z; cases z) : BindW K (gName i) d vs δ (δ.set i (.fr d)) :=
  ⟨fun j hj => by rw [List.getElem?_set_ne]; rintro rfl; exact hj hi, fun E F H σ v Q e h q => q _ (e.set_fr h) (Grow.set_fr hp) (wipe_set hi)⟩
theorem bsw_nil : BindsW K gNil [] vs δ δ := ⟨fun _ _ => rfl, fun E F H σ ws Q e h q => by
  cases h
  exact ⟨rfl, q σ e Grow.refl rfl⟩⟩
theorem bsw_cons {g : TG} {gs : TGs} (h1 : BindW K g d vs δ δ1) (h2 : BindsW K gs ds vs δ1 δ2) : BindsW K (gCons g gs) (d :: ds) vs δ δ2 := ⟨fun i hi => (h2.1 i hi).trans (h1.1 i hi), fun E F H σ ws Q e h q => by
  cases h with
  | cons hv ht =>
    exact ⟨_, _, rfl, h1.2 E F H σ _ _ e hv fun σ' e' g' w' => h2.2 E F H σ' _ _ e' ht fun σ2 e2 g2 w2 => q σ2 e2 (g'.trans g2) (w2.trans w')⟩⟩
theorem bw_tup {gs : TGs} {n : Nat} (h : BindsW K gs ds vs δ δ1) (hn : ds.length = n := by rfl) : BindW K (gTup K n gs) (.tuple ds) vs δ δ1 := ⟨h.1, fun E F H σ v Q e hv q => by
  cases hv with
  | tup hs ha => exact ⟨_, _, rfl, ex_t e.ex hs, ha.length.trans hn, h.2 E F H σ _ Q e ha q⟩⟩
end
inductive LcRel (K : PySem.W.Frag) (g : TG) (tt : TT) (te : TE) (vs : List Nat) : List D → List Sl → List D → List Sl → Prop
  | nil {δ : List Sl} : LcRel K g tt te vs [] δ [] δ
  | go {d y : D} {ds ys : List D} {δ δb δc δd δ' : List Sl} : BindW K g d vs δ δb → TtJ K tt δb true δc → EvJ K te δc (.fr y) δd → NoParV δd vs → LcRel K g tt te vs ds (wipeD δd vs) ys δ' → LcRel K g tt te vs (d :: ds) δ (y :: ys) δ'
  | skip {d : D} {ds ys : List D} {δ δb δc δ' : List Sl} : BindW K g d vs δ δb → TtJ K tt δb false δc → NoParV δc vs → LcRel K g tt te vs ds (wipeD δc vs) ys δ' → LcRel K g tt te vs (d :: ds) δ ys δ'
def pick (vs : List Nat) : Nat → List Sl → List Sl → List Sl
  | n, a :: as, b :: bs => (if n ∈ vs then a else b) :: pick vs (n + 1) as bs
  | _, _, _ => []
theorem pick_get {vs : List Nat} : ∀ {as bs : List Sl} {n i : Nat}, as.length = bs.length → (pick vs n as bs)[i]? = if n + i ∈ vs then as[i]? else bs[i]?
  | [], [], n, i, _ => by simp [pick]
  | a :: as, b :: bs, n, 0, _ => by
    show some (if n ∈ vs then a else b) = if n ∈ vs then some a else some b
    split <;> rfl
  | a :: as, b :: bs, n, i + 1, h => by
    show (pick vs (n + 1) as bs)[i]? = _
    rw [pick_get (by simpa using h), show n + 1 + i = n + (i + 1) by omega]
    rfl
  | [], _ :: _, _, _, h => by simp at h
  | _ :: _, [], _, _, h => by simp at h
theorem pick_len {vs : List Nat} : ∀ {as bs : List Sl} {n : Nat}, as.length = bs.length → (pick vs n as bs).length = as.length
  | [], [], _, _ => rfl
  | a :: as, b :: bs, n, h => congrArg (· + 1) (pick_len (by simpa using h))
  | [], _ :: _, _, h => by simp at h
  | _ :: _, [], _, h => by simp at h
theorem kind_get {δ δ' : List Sl} (h : SameK δ δ') (i : Nat) : δ'[i]?.map kind = δ[i]?.map kind := by
  have e : (δ'.map kind)[i]? = (δ.map kind)[i]? := by rw [h]
  rw [List.getElem?_map, List.getElem?_map] at e
  exact e
theorem LcRel.kinds {K : PySem.W.Frag} {g : TG} {tt : TT} {te : TE} {vs : List Nat} {ds ys : List D} {δ δ' : List Sl} (h : LcRel K g tt te vs ds δ ys δ') : ∀ i, i ∉ vs → δ'[i]?.map kind = δ[i]?.map kind := by
  induction h with
  | nil => exact fun _ _ => rfl
  | go hb ht he _ _ ih =>
    intro i hi
    rw [ih i hi, wipeD_ne hi, kind_get he.1, kind_get ht.1, hb.1 i hi]
  | skip hb ht _ _ ih =>
    intro i hi
    rw [ih i hi, wipeD_ne hi, kind_get ht.1, hb.1 i hi]
theorem LcRel.size {K : PySem.W.Frag} {g : TG} {tt : TT} {te : TE} {vs : List Nat} {ds ys : List D} {δ δ' : List Sl} (h : LcRel K g tt te vs ds δ ys δ') : ys.length ≤ ds.length := by
  induction h with
  | nil => exact Nat.le_refl _
  | go _ _ _ _ _ ih => exact Nat.succ_le_succ ih
  | skip _ _ _ _ ih => exact Nat.le_succ_of_le ih
theorem ev_lc {K : PySem.W.Frag} {wi : TI} {g : TG} {tt : TT} {te : TE} {vs : List Nat} {ds ys : List D} {δ δ1 δw δ' : List Sl} (hs : SrcJ K wi δ ds δ1) (hl : LcRel K g tt te vs ds (wipeD δ1 vs) ys δw) (hd : δw.length = δ1.length) (hδ : pick vs 0 δ1 δw = δ') (hp : NoParV δ1 vs) (hz : ds.length ≤ sizeLine) :
    EvJ K (tLc wi g tt te vs) δ (.new (.L ys)) δ' := by
  subst hδ
  have hpg : ∀ i, (pick vs 0 δ1 δw)[i]? = if i ∈ vs then δ1[i]? else δw[i]? := fun i => by
    rw [pick_get hd.symm, Nat.zero_add]
  have hk1 : SameK δ1 (pick vs 0 δ1 δw) := by
    unfold SameK
    refine List.ext_getElem? fun i => ?_
    rw [List.getElem?_map, List.getElem?_map, hpg i]
    split
    · rfl
    · rename_i hi
      rw [hl.kinds i hi, wipeD_ne hi]
  refine ⟨hs.1.trans hk1, fun E F H σ Q e q => hs.2 E F H σ _ e fun J F1 H1 e1 g1 it A hA => ?_⟩
  have hF1 : F1 A = none := nn_ex e1.ex hA
  have hH0 : H A = none := g1.dm A hA
  have nh1 : ¬ Hot δ1 σ A := fun z => by
    obtain ⟨_, ho, h2⟩ := e1.hotF z
    rw [hA] at h2
    cases h2
  have al0 : Alloc F1 H1 F1 (upd H1 A (.lst [])) := Alloc.own e1.ex hA
  refine ⟨fun i m H' => m = ds.length - i ∧ ∃ F' δi acc done rest, EnvOk K E F' H' δi (wipe σ vs) ∧ Grow F1 H1 (wipeD δ1 vs) (wipe σ vs) F' H' δi (wipe σ vs) ∧ H' A = some (.lst acc) ∧ DpAll K F' acc done ∧ F' A = none ∧ ¬ Hot δi (wipe σ vs) A ∧
    LcRel K g tt te vs (ds.drop i) δi rest δw ∧ done ++ rest = ys ∧ done.length ≤ i, ⟨_, rfl, F1, wipeD δ1 vs, [], [], ys, (al0.env e1).wipe, al0.grow, upd_same, .nil, hF1, fun z => nh1 z.wiped, hl, rfl, Nat.le_refl 0⟩, fun i m H' ⟨hm, F', δi, acc, done, rest, e', g', hA', hacc, hFA, hnh, hr, hsum, hdl⟩ => ?_⟩
  obtain ⟨i1, i2⟩ := it F' H' g'.f e'.ex
  by_cases hi : i < ds.length
  · have hdi : ds[i]? = some ds[i] := List.getElem?_eq_getElem hi
    obtain ⟨go, yl⟩ := i2 i _ hdi
    rw [List.drop_eq_getElem_cons hi] at hr
    refine .inr ⟨go, fun H2 => ∃ F2 δ2 acc done rest, EnvOk K E F2 H2 δ2 (wipe σ vs) ∧ Grow F1 H1 (wipeD δ1 vs) (wipe σ vs) F2 H2 δ2 (wipe σ vs) ∧ H2 A = some (.lst acc) ∧ DpAll K F2 acc done ∧ F2 A = none ∧ ¬ Hot δ2 (wipe σ vs) A ∧
      LcRel K g tt te vs (ds.drop (i + 1)) δ2 rest δw ∧ done ++ rest = ys ∧ done.length ≤ i + 1, fun H2 q2 => ⟨m - 1, by omega, by omega, q2⟩, fun x H'' hy => ?_⟩
    obtain ⟨F'', al, hx⟩ := yl x H'' hy
    have ea := al.env e'
    have ga : Grow F1 H1 (wipeD δ1 vs) (wipe σ vs) F'' H'' δi (wipe σ vs) := g'.trans al.grow
    have hAA : H'' A = some (.lst acc) := al.h A _ hA'
    have hFAA : F'' A = none := by rw [al.k A (by rw [hA']; exact fun z => nomatch z)]; exact hFA
    have keepA : ∀ {Fa Ha Fb Hb : Hp} {δa δb : List Sl} {σa σb : List (Option V)}, Grow Fa Ha δa σa Fb Hb δb σb → Ha A = some (.lst acc) → Fa A = none → ¬ Hot δa σa A → Hb A = some (.lst acc) ∧ Fb A = none ∧ ¬ Hot δb σb A := fun {Fa Ha Fb Hb δa δb σa σb} G h1 h2 h3 => by
      refine ⟨G.h A _ h1 h3, ?_, fun z => ?_⟩
      · rw [G.k A (by rw [h1]; exact fun z => nomatch z) h3]
        exact h2
      · rcases G.n A z with q | q
        · exact h3 q
        · rw [h1] at q
          cases q
    cases hr with
    | @go _ y _ ys' _ δb δc δd _ hb ht he hnp hr2 =>
      refine hb.2 E F'' H'' (wipe σ vs) x _ ea hx fun σ2 e2 g2 hw => ⟨hw.trans wipe_wipe, ht.2 E F'' H'' σ2 _ e2 fun F3 H3 e3 g3 => ?_⟩
      have ww : wipe σ2 vs = wipe σ vs := hw.trans wipe_wipe
      rw [if_pos rfl]
      refine he.2 E F3 H3 σ2 _ e3 fun v F4 H4 e4 g4 h4 _ => ?_
      obtain ⟨a1, a2, a3⟩ := keepA g2 hAA hFAA hnh
      obtain ⟨b1, b2, b3⟩ := keepA g3 a1 a2 a3
      obtain ⟨c1, c2, c3⟩ := keepA g4 b1 b2 b3
      have hlen : acc.length = done.length := hacc.length
      refine ⟨acc, c1, by omega, F4, wipeD δd vs, acc ++ [v], done ++ [y], ys', ?_, ?_, upd_same, (dpa_mono (al.f.trans (g2.f.trans (g3.f.trans g4.f))) hacc).append (.cons h4 .nil), c2, fun z => c3 (Hot.wiped (vs := vs) (by rw [ww]; exact z)), hr2, by rw [List.append_assoc]; exact hsum, by rw [List.length_append, List.length_singleton]; omega⟩
      · have e5 := (e4.poke (ho := .lst (acc ++ [v])) c2 c3 (by rw [c1]; exact fun z => nomatch z)).wipe (vs := vs)
        rw [ww] at e5
        exact e5
      · have G : Grow F1 H1 (wipeD δ1 vs) (wipe σ vs) F4 H4 (wipeD δd vs) (wipe σ2 vs) := ((ga.trans g2).trans (g3.trans g4)).trans (Grow.wipe hnp)
        rw [ww] at G
        exact G.poke hA
    | @skip _ _ ys' _ δb δc _ hb ht hnp hr2 =>
      refine hb.2 E F'' H'' (wipe σ vs) x _ ea hx fun σ2 e2 g2 hw => ⟨hw.trans wipe_wipe, ht.2 E F'' H'' σ2 _ e2 fun F3 H3 e3 g3 => ?_⟩
      have ww : wipe σ2 vs = wipe σ vs := hw.trans wipe_wipe
      rw [if_neg Bool.false_ne_true]
      obtain ⟨a1, a2, a3⟩ := keepA g2 hAA hFAA hnh
      obtain ⟨b1, b2, b3⟩ := keepA g3 a1 a2 a3
      refine ⟨F3, wipeD δc vs, acc, done, rest, ?_, ?_, b1, dpa_mono (al.f.trans (g2.f.trans g3.f)) hacc, b2, fun z => b3 (Hot.wiped (vs := vs) (by rw [ww]; exact z)), hr2, hsum, by omega⟩
      · have e5 := e3.wipe (vs := vs)
        rw [ww] at e5
        exact e5
      · have G : Grow F1 H1 (wipeD δ1 vs) (wipe σ vs) F3 H3 (wipeD δc vs) (wipe σ2 vs) := ((ga.trans g2).trans g3).trans (Grow.wipe hnp)
        rw [ww] at G
        exact G
  · refine .inl ⟨i1 i (by omega), ?_⟩
    rw [List.drop_eq_nil_of_le (by omega)] at hr
    cases hr
    rw [List.append_nil] at hsum
    subst hsum
    -- the names of the comprehension are what they were
    have hotB : ∀ a, Hot (pick vs 0 δ1 δw) σ a → Hot δ1 σ a := fun a ⟨j, b, o, h1, h2⟩ => by
      obtain ⟨o1, h3⟩ := hk1.symm.ob h1
      exact ⟨j, b, o1, h3, h2⟩
    have nhw : ∀ {j : Nat} {b : Bool} {o : O} {p : Addr}, j ∈ vs → δ1[j]? = some (.ob b o) → σ[j]? = some (some (.ref p)) → ¬ Hot (wipeD δ1 vs) (wipe σ vs) p := fun {j b o p} hj h1 h2 ⟨k, b', o', h3, h4⟩ => by
      obtain ⟨q1, q2⟩ := wipeD_some h3 fun z => nomatch z
      rw [wipe_ne q1] at h4
      have := e1.dj j k b o b' o' p h1 q2 h2 h4
      subst this
      exact q1 hj
    have E2 : EnvOk K E F' H' (pick vs 0 δ1 δw) σ := by
      refine ⟨e'.ex, e'.dom, by rw [pick_len hd.symm]; exact e1.len, fun j d hj => ?_, fun j b o hj => ?_, fun j k b o b' o' p hj hk h1 h2 => ?_⟩
      · obtain ⟨v, w1, w2⟩ := e1.fr j d (hk1.symm.fr hj)
        exact ⟨v, w1, dp_mono g'.f w2⟩
      · rw [hpg j] at hj
        by_cases hm : j ∈ vs
        · rw [if_pos hm] at hj
          obtain ⟨p, ho, w1, w2, w3, w4, w5⟩ := e1.ob j b o hj
          have nh := nhw hm hj w1
          refine ⟨p, ho, w1, ?_, g'.h p ho w3 nh, w4.mono g'.f, w5⟩
          rw [g'.k p (by rw [w3]; exact fun z => nomatch z) nh]
          exact w2
        · rw [if_neg hm] at hj
          obtain ⟨p, ho, w1, w2⟩ := e'.ob j b o hj
          rw [wipe_ne hm] at w1
          exact ⟨p, ho, w1, w2⟩
      · obtain ⟨o1, q1⟩ := hk1.symm.ob hj
        obtain ⟨o2, q2⟩ := hk1.symm.ob hk
        exact e1.dj j k _ _ _ _ p q1 q2 h1 h2
    have G2 : Grow F1 H1 δ1 σ F' H' (pick vs 0 δ1 δw) σ := by
      refine ⟨g'.f, fun a h1 h2 => g'.k a h1 fun z => h2 z.wiped, fun a o h1 h2 => g'.h a o h1 fun z => h2 z.wiped, fun a z => .inl (hotB a z), g'.dm, fun j o hj => ⟨hk1.ob hj, rfl⟩⟩
    refine q _ F' H' E2 (g1.trans G2) ⟨A, _, rfl, hFA, hA', ⟨acc, rfl, hacc⟩, fun z => ?_⟩ fun p e0 => ?_
    · exact nh1 (hotB A z)
    · cases e0
      exact hH0
end DL
/-! Operators, built-ins, dicts by written keys. -/
namespace DL
open PySem PySem.Spec PyProof.Rows L2

/-! ### own rules of the machine -/
section
variable {X : Cx}
def CDivR (_ j : Int) : Prop := j ≠ 0 ∧ j.natAbs.log2 < 9000
theorem op_fdivR : OpR X (binaryOp .FloorDiv) (rI CDivR fun i j => .int (i.fdiv j)) := opI fun i j _ _ _ _ _ hc q => floordiv_int hc.1 q (.inl (PyProof.noPylong_of_log2 hc.2))
/-- factors of together less than 2 ^ 27 bits -/
def CMulB (i j : Int) : Prop := i.natAbs.log2 + j.natAbs.log2 < 134217720
theorem CMulB.ok {i j : Int} (h : CMulB i j) : IntMulOk i j := by
  have b : ∀ x : Int, Builtin.Int.intBits x ≤ x.natAbs.log2 + 1 := fun x => by
    unfold Builtin.Int.intBits
    split <;> omega
  have h1 := b i
  have h2 := b j
  have h3 : i.natAbs.log2 + j.natAbs.log2 < 134217720 := h
  have e : bitsLine = 134217728 := by decide
  unfold IntMulOk
  intro z
  rw [Bool.and_eq_true] at z
  have z2 := z.2
  unfold Builtin.Int.intTooBig at z2
  have z3 := of_decide_eq_true z2
  rw [e] at z3
  omega
theorem op_mulB : OpR X (binaryOp .Mult) (rI CMulB fun i j => .int (i * j)) := opI fun _ _ _ _ _ _ _ hc q => mul_int q hc.ok
/-- list + list, any two lists that can be read -/
def rCatL (K : PySem.W.Frag) : R2 := fun x y H Q => ∃ l b xs zs, x = .ref l ∧ y = .ref b ∧ SqL K H l xs ∧ SqL K H b zs ∧ xs.length + zs.length ≤ sizeLine ∧ ∀ p, H p = none → Q (.ref p) (upd H p (.lst (xs ++ zs)))
theorem op_catLL : OpR X (binaryOp .Add) (rCatL X.K) := by
  intro pins s σ H x y v u Q I rx ry h
  obtain ⟨l, b, xs, zs, rfl, rfl, hH, hB, hz, q⟩ := h
  cases rx
  cases ry
  obtain ⟨its, r, e, _⟩ := I.list hH
  obtain ⟨its2, r2, e2, _⟩ := I.list hB
  have hl := r.length
  have hl2 := r2.length
  obtain ⟨⟨cls, dd, data, sl⟩, ho, hc, n, hd⟩ := id e.isList
  obtain ⟨⟨cls2, dd2, data2, sl2⟩, ho2, hc2, n2, hd2⟩ := id e2.isList
  simp only at hc hd hc2 hd2
  subst hc hd hc2 hd2
  have ea : its.toArray ++ its2.toArray = (its ++ its2).toArray := by simp
  refine concat_meets ⟨_, ho, rfl⟩ ⟨_, ho2, rfl⟩ noFill_list_add seq_list_add PySem.F.slot_list_add PySem.F.entry_list_add (PySem.F.args_list_add_2 _ _) (list_addW l b its.toArray its2.toArray n n2 dd dd2 sl sl2 (by rw [List.size_toArray, List.size_toArray]; omega)) ⟨ho, ho2, ?_⟩
  rw [ea]
  exact ⟨.ref _, _, I.lnew (t' := s.toks) (r.append r2) (by rw [List.length_append]; omega), rfl, q _ I.fresh⟩
/-- + -/
def rAddU (K : PySem.W.Frag) : R2 := fun x y H Q => rI0 (fun i j => .int (i + j)) x y H Q ∨ (rCatL K x y H Q ∨ (rCatA K x y H Q ∨ (∃ i j, x = .str i ∧ y = .str j ∧ i.length + j.length ≤ sizeLine ∧ Q (.str (i ++ j)) H)))
theorem op_addU : OpR X (binaryOp .Add) (rAddU X.K) := OpR.or op_add (OpR.or op_catLL (OpR.or op_catA op_add_str))
def rMulU (K : PySem.W.Frag) : R2 := fun x y H Q => rI CMulB (fun i j => .int (i * j)) x y H Q ∨ rRepT K x y H Q
theorem op_mulU : OpR X (binaryOp .Mult) (rMulU X.K) := OpR.or op_mulB op_repT
def rSliceU (K : PySem.W.Frag) : V → Option Int → Option Int → Hp → VK → Prop := fun x lo hi H Q => rSlL K x lo hi H Q ∨ (rSlA K x lo hi H Q ∨ rSlS x lo hi H Q)
theorem sl_U : SlR X (rSliceU X.K) := SlR.or sl_list (SlR.or sl_tupA sl_str)
def rLenU (K : PySem.W.Frag) : List V → Hp → VK → Prop := fun xs H Q => (∃ p ys, xs = [.ref p] ∧ (SqL K H p ys ∨ SqT K H p ys) ∧ Q (.int ys.length) H) ∨ ((∃ z, xs = [.str z] ∧ z.length ≤ sizeLine ∧ Q (.int z.length) H) ∨ (∃ a kvs, xs = [V.ref a] ∧ H a = some (.dK kvs) ∧ Q (.int kvs.length) H))
theorem call_lenU : CallR X (.builtin "len") (rLenU X.K) := CallR.or call_len_seq (CallR.or call_len_str call_lenD)
def rTupU (K : PySem.W.Frag) : List V → Hp → VK → Prop := fun xs H Q => ∃ p ys, xs = [.ref p] ∧ ((SqL K H p ys ∧ ∀ l, H l = none → Q (.ref l) (upd H l (.tup ys))) ∨ (SqT K H p ys ∧ Q (.ref p) H))
theorem call_tupU : CallR X (.type "tuple") (rTupU X.K) := call_tuple_of
def rLstU (K : PySem.W.Frag) : List V → Hp → VK → Prop := fun xs H Q => ∃ p ys, xs = [.ref p] ∧ (SqL K H p ys ∨ SqT K H p ys) ∧ ∀ l, H l = none → Q (.ref l) (upd H l (.lst ys))
theorem call_lstU : CallR X (.type "list") (rLstU X.K) := call_list_of
def rAbs : List V → Hp → VK → Prop := fun xs H Q => ∃ i, xs = [.int i] ∧ Q (.int (if i < 0 then -i else i)) H
theorem call_absU : CallR X (.builtin "abs") rAbs := call_abs
def rInt1 : List V → Hp → VK → Prop := fun xs H Q => (∃ i, xs = [.int i] ∧ Q (.int i) H) ∨ ∃ k, xs = [.bl k] ∧ Q (.int (if k then 1 else 0)) H
theorem call_int1U : CallR X (.type "int") rInt1 := call_int1
end

/-! ### operators on data -/
section
variable {K : PySem.W.Frag} {δ : List Sl} {r r1 r2 : R} {d d1 d2 : D} {ds : List D}
theorem od_of {f : R2} (h : ∀ (E F H : Hp) (σ : List (Option V)) (x y : V) (Q : VK), EnvOk K E F H δ σ → RepR K F H δ σ r1 x → RepR K F H δ σ r2 y → ∃ v, (∀ F, Dp K F v d) ∧ (Q v H → f x y H Q)) : OpD K f r1 r2 δ (.fr d) := fun E F H σ x y Q e h1 h2 q => by
  obtain ⟨v, hv, hq⟩ := h E F H σ x y Q e h1 h2
  exact hq (q v F H (Alloc.refl e.ex) (hv F) trivial)
theorem od_I0 {g : Int → Int → Int} {i j : Int} : OpD K (rI0 fun i j => .int (g i j)) (.fr (.int i)) (.fr (.int j)) δ (.fr (.int (g i j))) := fun E F H σ x y Q e h1 h2 q => by
  cases h1
  cases h2
  exact ⟨i, j, rfl, rfl, q _ F H (Alloc.refl e.ex) (.int _) trivial⟩
theorem od_I0b {g : Int → Int → Bool} {i j : Int} : OpD K (rI0 fun i j => .bl (g i j)) (.fr (.int i)) (.fr (.int j)) δ (.fr (.bool (g i j))) := fun E F H σ x y Q e h1 h2 q => by
  cases h1
  cases h2
  exact ⟨i, j, rfl, rfl, q _ F H (Alloc.refl e.ex) (.bl _) trivial⟩
theorem od_I {C : Int → Int → Prop} {g : Int → Int → Int} {i j : Int} (hc : C i j) : OpD K (rI C fun i j => .int (g i j)) (.fr (.int i)) (.fr (.int j)) δ (.fr (.int (g i j))) := fun E F H σ x y Q e h1 h2 q => by
  cases h1
  cases h2
  exact ⟨i, j, rfl, rfl, hc, q _ F H (Alloc.refl e.ex) (.int _) trivial⟩
theorem ud_I {g : Int → Int} {i : Int} : UnD K (rU fun i => .int (g i)) (.fr (.int i)) δ (.fr (.int (g i))) := fun E F H σ x Q e h1 q => by
  cases h1
  exact ⟨i, rfl, q _ F H (Alloc.refl e.ex) (.int _) trivial⟩
/-- the truth of bools in arithmetic: (a > b) - (a < b) -/
def rSubB : R2 := fun x y H Q => ∃ a b : Bool, x = .bl a ∧ y = .bl b ∧ Q (.int (b2i a - b2i b)) H
theorem od_orL {f g : R2} (h : OpD K f r1 r2 δ r) : OpD K (fun x y H Q => f x y H Q ∨ g x y H Q) r1 r2 δ r := fun E F H σ x y Q e h1 h2 q => .inl (h E F H σ x y Q e h1 h2 q)
theorem od_orR {f g : R2} (h : OpD K g r1 r2 δ r) : OpD K (fun x y H Q => f x y H Q ∨ g x y H Q) r1 r2 δ r := fun E F H σ x y Q e h1 h2 q => .inr (h E F H σ x y Q e h1 h2 q)
theorem od_addI {i j : Int} : OpD K (rAddU K) (.fr (.int i)) (.fr (.int j)) δ (.fr (.int (i + j))) := od_orL (od_I0 (g := fun i j => i + j))
theorem od_mulI {i j : Int} (h : CMulB i j) : OpD K (rMulU K) (.fr (.int i)) (.fr (.int j)) δ (.fr (.int (i * j))) := od_orL (od_I (g := fun i j => i * j) h)

/-- data, as they are to be read -/
def rD (δ : List Sl) : R → Option D
  | .fr d => some d
  | .new (.L ds) => some (.list ds)
  | .new _ => none
  | .al i => match δ[i]? with
    | some (.ob _ (.L ds)) => some (.list ds)
    | _ => none
theorem rD_ok {E F H : Hp} {σ : List (Option V)} {v : V} (e : EnvOk K E F H δ σ) (h : RepR K F H δ σ r v) (hd : rD δ r = some d) : Dp K H v d := by
  cases r with
  | fr d' =>
    cases hd
    exact dp_mono e.ex h
  | new o =>
    cases o with
    | L ds =>
      cases hd
      obtain ⟨p, ho, rfl, _, h2, ⟨vs, rfl, h3⟩, _⟩ := h
      exact .lst (.inl (.inl h2)) (dpa_mono e.ex h3)
    | K kvs => cases hd
  | al i =>
    obtain ⟨h1, b, o, h2⟩ := h
    unfold rD at hd
    simp only [h2] at hd
    cases o with
    | L ds =>
      cases hd
      obtain ⟨p, ho, w1, _, w3, ⟨vs, rfl, w4⟩, _⟩ := e.ob i b _ h2
      rw [h1] at w1
      cases w1
      exact .lst (.inl (.inl w3)) (dpa_mono e.ex w4)
    | K kvs => cases hd
/-- a row of data: a tuple (true), a list -/
def rS (δ : List Sl) : R → Option (Bool × List D)
  | .fr (.tuple ds) => some (true, ds)
  | .fr (.list ds) => some (false, ds)
  | .new (.L ds) => some (false, ds)
  | .al i => match δ[i]? with
    | some (.ob _ (.L ds)) => some (false, ds)
    | _ => none
  | _ => none
theorem rS_ok {E F H : Hp} {σ : List (Option V)} {v : V} {t : Bool} (e : EnvOk K E F H δ σ) (h : RepR K F H δ σ r v) (hd : rS δ r = some (t, ds)) : ∃ p vs, v = .ref p ∧ (t = false → SqL K H p vs) ∧ (t = true → SqT K H p vs) ∧ DpAll K F vs ds := by
  cases r with
  | fr d' =>
    cases d' with
    | tuple xs =>
      cases hd
      cases h with
      | tup hs ha => exact ⟨_, _, rfl, (fun z => nomatch z), (fun _ => ex_t e.ex hs), ha⟩
    | list xs =>
      cases hd
      cases h with
      | lst hs ha => exact ⟨_, _, rfl, (fun _ => ex_l e.ex hs), (fun z => nomatch z), ha⟩
    | none => cases hd
    | bool b => cases hd
    | int b => cases hd
    | str b => cases hd
    | dict b => cases hd
  | new o =>
    cases o with
    | L ds =>
      cases hd
      obtain ⟨p, ho, rfl, _, h2, ⟨vs, rfl, h3⟩, _⟩ := h
      exact ⟨p, vs, rfl, (fun _ => .inl (.inl h2)), (fun z => nomatch z), h3⟩
    | K kvs => cases hd
  | al i =>
    obtain ⟨h1, b, o, h2⟩ := h
    unfold rS at hd
    simp only [h2] at hd
    cases o with
    | L ds =>
      cases hd
      obtain ⟨p, ho, w1, _, w3, ⟨vs, rfl, w4⟩, _⟩ := e.ob i b _ h2
      rw [h1] at w1
      cases w1
      exact ⟨p, vs, rfl, (fun _ => .inl (.inl w3)), (fun z => nomatch z), w4⟩
    | K kvs => cases hd
/-- == and != of data -/
theorem od_eq (h1 : rD δ r1 = some d1) (h2 : rD δ r2 = some d2) (s1 : SeqAt.shaped d1 = true) (s2 : SeqAt.shaped d2 = true) : OpD K (rEqD K) r1 r2 δ (.fr (.bool (PyData.eqv d1 d2))) := fun E F H σ x y Q e x1 x2 q =>
  ⟨d1, d2, rD_ok e x1 h1, rD_ok e x2 h2, s1, s2, q _ F H (Alloc.refl e.ex) (.bl _) trivial⟩
theorem od_ne (h1 : rD δ r1 = some d1) (h2 : rD δ r2 = some d2) (s1 : SeqAt.shaped d1 = true) (s2 : SeqAt.shaped d2 = true) : OpD K (rNeD K) r1 r2 δ (.fr (.bool (!PyData.eqv d1 d2))) := fun E F H σ x y Q e x1 x2 q =>
  ⟨d1, d2, rD_ok e x1 h1, rD_ok e x2 h2, s1, s2, q _ F H (Alloc.refl e.ex) (.bl _) trivial⟩
/-- xs[i] -/
theorem atI_map {ds : List D} {vs : List V} {F : Hp} {i : Int} (h : DpAll K F vs ds) (hd : atI ds i = some d) : ∃ v, atI vs i = some v ∧ Dp K F v d := by
  unfold atI at hd ⊢
  rw [h.length]
  cases q : ixN ds.length i with
  | none =>
    rw [q] at hd
    cases hd
  | some j =>
    rw [q] at hd
    obtain ⟨v, h1, h2⟩ := h.get (i := j) hd
    exact ⟨v, h1, h2⟩
theorem od_ix {i : Int} {t : Bool} (h1 : rS δ r = some (t, ds)) (h2 : atI ds i = some d) : OpD K (rIx K) r (.fr (.int i)) δ (.fr d) := fun E F H σ x y Q e x1 x2 q => by
  cases x2
  obtain ⟨p, vs, rfl, hl, ht, ha⟩ := rS_ok e x1 h1
  obtain ⟨v, w1, w2⟩ := atI_map ha h2
  cases t with
  | false => exact .inl ⟨p, vs, i, v, rfl, rfl, hl rfl, w1, q v F H (Alloc.refl e.ex) w2 trivial⟩
  | true => exact .inr (.inl ⟨p, vs, i, v, rfl, rfl, ht rfl, w1, q v F H (Alloc.refl e.ex) w2 trivial⟩)
theorem od_ixS {i : Int} {z : Str} {c : Nat} (hz : z.length ≤ sizeLine) (h2 : atI z.cps.toList i = some c) : OpD K (rIx K) (.fr (.str z)) (.fr (.int i)) δ (.fr (.str ⟨#[c]⟩)) := fun E F H σ x y Q e x1 x2 q => by
  cases x1
  cases x2
  exact .inr (.inr ⟨z, i, c, rfl, rfl, hz, h2, q _ F H (Alloc.refl e.ex) (.str _) trivial⟩)
theorem DpAll.nil_iff {F : Hp} {vs : List V} {ds : List D} (h : DpAll K F vs ds) : vs = [] ↔ ds = [] := by
  cases h with
  | nil => exact ⟨fun _ => rfl, fun _ => rfl⟩
  | cons _ _ => exact ⟨(fun z => nomatch z), (fun z => nomatch z)⟩
/-- tuple + tuple -/
theorem od_catT {as bs : List D} (hz : as.length + bs.length ≤ sizeLine) : OpD K (rAddU K) (.fr (.tuple as)) (.fr (.tuple bs)) δ (.fr (.tuple (as ++ bs))) := fun E F H σ x y Q e x1 x2 q => by
  cases x1 with
  | @tup a xs _ hs ha =>
    cases x2 with
    | @tup b ys _ hs2 hb =>
      refine .inr (.inr (.inl ⟨a, b, xs, ys, rfl, rfl, ex_t e.ex hs, ex_t e.ex hs2, by rw [ha.length, hb.length]; exact hz, fun h0 => ?_, fun h0 h1 => ?_, fun h0 h1 p hp => ?_⟩))
      · rw [DpAll.nil_iff ha] at h0
        subst h0
        exact q _ F H (Alloc.refl e.ex) (.tup hs2 hb) trivial
      · rw [DpAll.nil_iff hb] at h1
        subst h1
        rw [List.append_nil] at q
        exact q _ F H (Alloc.refl e.ex) (.tup hs ha) trivial
      · have al := Alloc.new (o := .tup (xs ++ ys)) e.ex hp
        exact q _ _ _ al (.tup (.inl (.inl upd_same)) (dpa_mono al.f (ha.append hb))) trivial
/-- a new list + a new list (or a name's own) -/
def isL (δ : List Sl) : R → Option (List D)
  | .new (.L ds) => some ds
  | .al i => match δ[i]? with
    | some (.ob _ (.L ds)) => some ds
    | _ => none
  | _ => none
theorem isL_ok {E F H : Hp} {σ : List (Option V)} {v : V} (e : EnvOk K E F H δ σ) (h : RepR K F H δ σ r v) (hd : isL δ r = some ds) : ∃ p vs, v = .ref p ∧ H p = some (.lst vs) ∧ DpAll K F vs ds := by
  cases r with
  | fr d => cases hd
  | new o =>
    cases o with
    | L ds =>
      cases hd
      obtain ⟨p, ho, rfl, _, h2, ⟨vs, rfl, h3⟩, _⟩ := h
      exact ⟨p, vs, rfl, h2, h3⟩
    | K kvs => cases hd
  | al i =>
    obtain ⟨h1, b, o, h2⟩ := h
    unfold isL at hd
    simp only [h2] at hd
    cases o with
    | L ds =>
      cases hd
      obtain ⟨p, ho, w1, _, w3, ⟨vs, rfl, w4⟩, _⟩ := e.ob i b _ h2
      rw [h1] at w1
      cases w1
      exact ⟨p, vs, rfl, w3, w4⟩
    | K kvs => cases hd
theorem new_list {E F H : Hp} {σ : List (Option V)} {vs : List V} (e : EnvOk K E F H δ σ) (ha : DpAll K F vs ds) {p : Addr} (hp : H p = none) : RepR K F (upd H p (.lst vs)) δ σ (.new (.L ds)) (.ref p) ∧ Fresh H (.new (.L ds)) (.ref p) := by
  refine ⟨⟨p, _, rfl, nn_ex e.ex hp, upd_same, ⟨vs, rfl, ha⟩, fun z => ?_⟩, fun q e0 => ?_⟩
  · obtain ⟨_, ho, h2⟩ := e.hotF z
    rw [hp] at h2
    cases h2
  · cases e0
    exact hp
theorem od_catL {as bs : List D} (h1 : rS δ r1 = some (false, as)) (h2 : rS δ r2 = some (false, bs)) (hz : as.length + bs.length ≤ sizeLine) : OpD K (rAddU K) r1 r2 δ (.new (.L (as ++ bs))) := fun E F H σ x y Q e x1 x2 q => by
  obtain ⟨p, vs, rfl, w1, _, w2⟩ := rS_ok e x1 h1
  obtain ⟨p', us, rfl, w3, _, w4⟩ := rS_ok e x2 h2
  refine .inr (.inl ⟨p, p', vs, us, rfl, rfl, w1 rfl, w3 rfl, by rw [w2.length, w4.length]; exact hz, fun l hl => ?_⟩)
  obtain ⟨n1, n2⟩ := new_list e (w2.append w4) hl
  exact q _ F _ (Alloc.own e.ex hl) n1 n2
/-- a tuple some times over -/
theorem od_repT {as : List D} {k : Int} (hn : as ≠ []) (h1 : 2 ≤ k) (h2 : k ≤ 1000) (hz : as.length ≤ 1000) : OpD K (rMulU K) (.fr (.tuple as)) (.fr (.int k)) δ (.fr (.tuple (List.replicate k.toNat as).flatten)) := fun E F H σ x y Q e x1 x2 q => by
  cases x2
  cases x1 with
  | @tup p vs _ hs ha =>
    have hv : vs ≠ [] := fun z => by
      subst z
      cases ha
      exact hn rfl
    refine .inr ⟨p, k, vs, rfl, rfl, ex_t e.ex hs, hv, h1, h2, by rw [ha.length]; exact hz, fun l hl => ?_⟩
    have al := Alloc.new (o := .tup (List.replicate k.toNat vs).flatten) e.ex hl
    have rep : ∀ n, DpAll K F (List.replicate n vs).flatten (List.replicate n as).flatten := fun n => by
      induction n with
      | zero => exact .nil
      | succ n ih =>
        rw [List.replicate_succ, List.replicate_succ, List.flatten_cons, List.flatten_cons]
        exact ha.append ih
    exact q _ _ _ al (.tup (.inl (.inl upd_same)) (dpa_mono al.f (rep _))) trivial
theorem od_catS {a b : Str} (hz : a.length + b.length ≤ sizeLine) : OpD K (rAddU K) (.fr (.str a)) (.fr (.str b)) δ (.fr (.str (a ++ b))) := fun E F H σ x y Q e x1 x2 q => by
  cases x1
  cases x2
  exact .inr (.inr (.inr ⟨a, b, rfl, rfl, hz, q _ F H (Alloc.refl e.ex) (.str _) trivial⟩))
/-- displays -/
def frs? : List R → Option (List D)
  | [] => some []
  | .fr d :: rs => (frs? rs).map (d :: ·)
  | _ => none
theorem frs_ok {F H : Hp} {σ : List (Option V)} : ∀ {rs : List R} {ds : List D} {vs : List V}, RepRs K F H δ σ rs vs → frs? rs = some ds → DpAll K F vs ds
  | [], ds, _, .nil, h => by
    cases h
    exact .nil
  | r :: rs, ds, _, .cons h1 h2 _, h => by
    cases r with
    | fr d =>
      cases q : frs? rs with
      | none => simp [frs?, q] at h
      | some ds' =>
        simp only [frs?, q, Option.map_some, Option.some.injEq] at h
        subst h
        exact .cons h1 (frs_ok h2 q)
    | new o => cases h
    | al i => cases h
theorem ev_tup {t : TA} {rs : List R} {δ1 : List Sl} (h : EvA K t δ rs δ1) (hd : frs? rs = some ds) (hz : ds.length ≤ sizeLine := by decide) : EvJ K (tTup t) δ (.fr (.tuple ds)) δ1 := ⟨h.1, fun E F H σ Q e q => h.2 E F H σ _ e fun vs F1 H1 e1 g1 hr _ => by
  have ha := frs_ok hr hd
  refine ⟨by rw [ha.length]; exact hz, fun p hp => ?_⟩
  have al := Alloc.new (o := .tup vs) e1.ex hp
  exact q _ _ _ (al.env e1) (g1.trans al.grow) (.tup (.inl (.inl upd_same)) (dpa_mono al.f ha)) trivial⟩
theorem ev_lst {t : TA} {rs : List R} {δ1 : List Sl} (h : EvA K t δ rs δ1) (hd : frs? rs = some ds) (hz : ds.length ≤ sizeLine := by decide) : EvJ K (tLst t) δ (.new (.L ds)) δ1 := ⟨h.1, fun E F H σ Q e q => h.2 E F H σ _ e fun vs F1 H1 e1 g1 hr _ => by
  have ha := frs_ok hr hd
  refine ⟨by rw [ha.length]; exact hz, fun p hp => ?_⟩
  have al := Alloc.own (o := .lst vs) e1.ex hp
  obtain ⟨n1, n2⟩ := new_list e1 ha hp
  exact q _ _ _ (al.env e1) (g1.trans al.grow) n1 (n2.back g1.dm)⟩
/-- calls of built-ins -/
theorem cd1 {f : List V → Hp → VK → Prop} {r' : R} (h : ∀ (E F H : Hp) (σ : List (Option V)) (v : V) (Q : VK), EnvOk K E F H δ σ → RepR K F H δ σ r v → (∀ w F2 H2, Alloc F H F2 H2 → RepR K F2 H2 δ σ r' w → Fresh H r' w → Q w H2) → f [v] H Q) : CaD K f [r] δ r' := fun E F H σ vs Q e hr q => by
  cases hr with
  | cons h1 h2 _ =>
    cases h2
    exact h E F H σ _ Q e h1 q
theorem cd_len {t : Bool} (h : rS δ r = some (t, ds)) : CaD K (rLenU K) [r] δ (.fr (.int (ds.length : Int))) := cd1 fun E F H σ v Q e x q => by
  obtain ⟨p, vs, rfl, hl, ht, ha⟩ := rS_ok e x h
  rw [← ha.length] at q
  cases t with
  | false => exact .inl ⟨p, vs, rfl, .inl (hl rfl), q _ F H (Alloc.refl e.ex) (.int _) trivial⟩
  | true => exact .inl ⟨p, vs, rfl, .inr (ht rfl), q _ F H (Alloc.refl e.ex) (.int _) trivial⟩
theorem cd_lenS {z : Str} (hz : z.length ≤ sizeLine) : CaD K (rLenU K) [.fr (.str z)] δ (.fr (.int (z.length : Int))) := cd1 fun E F H σ v Q e x q => by
  cases x
  exact .inr (.inl ⟨z, rfl, hz, q _ F H (Alloc.refl e.ex) (.int _) trivial⟩)
theorem cd_tup (h : rS δ r = some (false, ds)) : CaD K (rTupU K) [r] δ (.fr (.tuple ds)) := cd1 fun E F H σ v Q e x q => by
  obtain ⟨p, vs, rfl, hl, ht, ha⟩ := rS_ok e x h
  refine ⟨p, vs, rfl, .inl ⟨hl rfl, fun l hp => ?_⟩⟩
  have al := Alloc.new (o := .tup vs) e.ex hp
  exact q _ _ _ al (.tup (.inl (.inl upd_same)) (dpa_mono al.f ha)) trivial
theorem cd_lst {t : Bool} (h : rS δ r = some (t, ds)) : CaD K (rLstU K) [r] δ (.new (.L ds)) := cd1 fun E F H σ v Q e x q => by
  obtain ⟨p, vs, rfl, hl, ht, ha⟩ := rS_ok e x h
  refine ⟨p, vs, rfl, ?_, fun l hp => ?_⟩
  · cases t with
    | false => exact .inl (hl rfl)
    | true => exact .inr (ht rfl)
  · obtain ⟨n1, n2⟩ := new_list e ha hp
    exact q _ F _ (Alloc.own e.ex hp) n1 n2
theorem cd_abs {i : Int} : CaD K rAbs [.fr (.int i)] δ (.fr (.int (i.natAbs : Int))) := cd1 fun E F H σ v Q e x q => by
  cases x
  have e0 : ((i.natAbs : Nat) : Int) = if i < 0 then -i else i := by split <;> omega
  rw [e0] at q
  exact ⟨i, rfl, q _ F H (Alloc.refl e.ex) (.int _) trivial⟩
theorem cd_int {i : Int} : CaD K rInt1 [.fr (.int i)] δ (.fr (.int i)) := cd1 fun E F H σ v Q e x q => by
  cases x
  exact .inl ⟨i, rfl, q _ F H (Alloc.refl e.ex) (.int _) trivial⟩
theorem cd_intB {b : Bool} : CaD K rInt1 [.fr (.bool b)] δ (.fr (.int (if b then 1 else 0))) := cd1 fun E F H σ v Q e x q => by
  cases x
  exact .inr ⟨b, rfl, q _ F H (Alloc.refl e.ex) (.int _) trivial⟩
theorem cd_gcd {a b : Int} : CaD K rGcd [.fr (.int a), .fr (.int b)] δ (.fr (.int ((Nat.gcd a.natAbs b.natAbs : Nat) : Int))) := fun E F H σ vs Q e hr q => by
  cases hr with
  | cons h1 h2 _ =>
    cases h2 with
    | cons h2 h3 _ =>
      cases h3
      cases h1
      cases h2
      exact ⟨a, b, rfl, q _ F H (Alloc.refl e.ex) (.int _) trivial⟩
theorem DpAll.bools {F : Hp} : ∀ {bs : List Bool} {vs : List V}, DpAll K F vs (bs.map PyData.bool) → vs = bs.map V.bl
  | [], _, h => by
    cases h
    rfl
  | b :: bs, _, h => by
    cases h with
    | cons h1 h2 =>
      cases h1
      rw [DpAll.bools h2]
      rfl
theorem DpAll.ints {F : Hp} : ∀ {bs : List Int} {vs : List V}, DpAll K F vs (bs.map PyData.int) → vs = bs.map V.int
  | [], _, h => by
    cases h
    rfl
  | b :: bs, _, h => by
    cases h with
    | cons h1 h2 =>
      cases h1
      rw [DpAll.ints h2]
      rfl
theorem cd_all {bs : List Bool} (h : rS δ r = some (false, bs.map PyData.bool)) : CaD K (rAll K) [r] δ (.fr (.bool (bs.all id))) := cd1 fun E F H σ v Q e x q => by
  obtain ⟨p, vs, rfl, hl, ht, ha⟩ := rS_ok e x h
  have e0 := DpAll.bools ha
  subst e0
  exact ⟨p, bs, rfl, hl rfl, q _ F H (Alloc.refl e.ex) (.bl _) trivial⟩
theorem cd_any {bs : List Bool} (h : rS δ r = some (false, bs.map PyData.bool)) : CaD K (rAny K) [r] δ (.fr (.bool (bs.any id))) := cd1 fun E F H σ v Q e x q => by
  obtain ⟨p, vs, rfl, hl, ht, ha⟩ := rS_ok e x h
  have e0 := DpAll.bools ha
  subst e0
  exact ⟨p, bs, rfl, hl rfl, q _ F H (Alloc.refl e.ex) (.bl _) trivial⟩
theorem cd_sum {bs : List Int} (h : rS δ r = some (false, bs.map PyData.int)) : CaD K (rSum K) [r] δ (.fr (.int bs.sum)) := cd1 fun E F H σ v Q e x q => by
  obtain ⟨p, vs, rfl, hl, ht, ha⟩ := rS_ok e x h
  have e0 := DpAll.ints ha
  subst e0
  exact ⟨p, bs, rfl, hl rfl, q _ F H (Alloc.refl e.ex) (.int _) trivial⟩
/-- isinstance: the kinds of data -/
def tyD : D → String
  | .none => "NoneType"
  | .bool _ => "bool"
  | .int _ => "int"
  | .str _ => "str"
  | .list _ => "list"
  | .tuple _ => "tuple"
  | .dict _ => "dict"
theorem tyX_of {H : Hp} {v : V} (h : Dp K H v d) : TyX K H v (.type (tyD d)) := by
  cases h with
  | non => exact .base .non
  | bl b => exact .base (.bl b)
  | int i => exact .base (.int i)
  | str x => exact .base (.str x)
  | lst hs _ =>
    rcases hs with (h | ⟨o, h⟩) | ⟨o, its, n, h1, h2, _⟩
    · exact .base (.lst h)
    · exact .base (.frz h)
    · exact .kList h1 h2
  | tup hs _ =>
    rcases hs with (h | ⟨o, h⟩) | ⟨o, its, n, h1, h2, _⟩
    · exact .base (.tup h)
    · exact .fTuple h
    · exact .kTuple h1 h2
/-- isinstance(e, T), T a built-in class -/
theorem ev_isi {te : TE} {n : String} {b : Bool} {δ1 : List Sl} (h : EvJ K te δ r δ1) (hd : rD δ1 r = some d) (hn : kitB (tyD d) n = some b) : EvJ K (tCB (rIsi K) (tCons te (tCons (tC (.ty n)) tNil))) δ (.fr (.bool b)) δ1 := ⟨h.1, fun E F H σ Q e q => h.2 E F H σ _ e fun v F1 H1 e1 g1 hr _ => by
  exact ⟨v, .ty n, .type (tyD d), .type n, b, rfl, .ty n, tyX_of (rD_ok e1 hr hd), kit_ty hn, q _ F1 H1 e1 g1 (.bl _) trivial⟩⟩
end

/-! ### a list is grown, changed -/
section
variable {K : PySem.W.Frag} {E F H : Hp} {δ δ1 δ2 δ3 : List Sl} {σ : List (Option V)} {to te ti : TE} {d : D} {ds : List D} {i : Nat} {b : Bool} {o o' : O}
/-- the object of a name is changed in its place -/
theorem EnvOk.mut {p : Addr} {ho' : HO} (e : EnvOk K E F H δ σ) (hi : δ[i]? = some (.ob b o)) (hs : σ[i]? = some (some (.ref p))) (h' : RepO K F o' ho') : EnvOk K E F (upd H p ho') (δ.set i (.ob b o')) σ := by
  obtain ⟨p0, ho, w1, w2, w3, w4, w5⟩ := e.ob i b o hi
  rw [hs] at w1
  cases w1
  refine ⟨fun a u h => ?_, fun a h => ?_, by rw [List.length_set]; exact e.len, fun j d' hj => ?_, fun j b' o1 hj => ?_, fun j k b1 o1 b2 o2 q hj hk h1 h2 => ?_⟩
  · rw [upd_ne (ne_of_none h w2)]
    exact e.ex a u h
  · by_cases ha : a = p
    · rw [ha, upd_same] at h
      cases h
    · rw [upd_ne ha] at h
      exact e.dom a h
  · rcases getset hj with ⟨_, e1, _⟩ | ⟨_, hj⟩
    · cases e1
    · exact e.fr j d' hj
  · rcases getset hj with ⟨rfl, e1, _⟩ | ⟨hn, hj⟩
    · cases e1
      exact ⟨p, ho', hs, w2, upd_same, h', w5⟩
    · obtain ⟨p1, ho1, x1, x2, x3, x4⟩ := e.ob j b' o1 hj
      refine ⟨p1, ho1, x1, x2, ?_, x4⟩
      rw [upd_ne fun z => hn (e.dj j i b' o1 b o p hj hi (by rw [← z]; exact x1) hs)]
      exact x3
  · have old : ∀ {j : Nat} {b1 : Bool} {o1 : O}, (δ.set i (.ob b o'))[j]? = some (.ob b1 o1) → ∃ b0 o0, δ[j]? = some (.ob b0 o0) := fun {j b1 o1} hj => by
      rcases getset hj with ⟨ej, _, _⟩ | ⟨_, hj⟩
      · exact ⟨b, o, by rw [ej]; exact hi⟩
      · exact ⟨_, _, hj⟩
    obtain ⟨_, _, q1⟩ := old hj
    obtain ⟨_, _, q2⟩ := old hk
    exact e.dj j k _ _ _ _ q q1 q2 h1 h2
theorem Grow.mut {p : Addr} {ho' : HO} (e : EnvOk K E F H δ σ) (hi : δ[i]? = some (.ob b o)) (hs : σ[i]? = some (some (.ref p))) : Grow F H δ σ F (upd H p ho') (δ.set i (.ob b o')) σ := by
  obtain ⟨p0, ho, w1, w2, w3, w4, w5⟩ := e.ob i b o hi
  rw [hs] at w1
  cases w1
  have hot : Hot δ σ p := ⟨i, b, o, hi, hs⟩
  refine ⟨Ex.refl F, fun _ _ _ => rfl, fun a u h hn => ?_, fun a ⟨j, b1, o1, h1, h2⟩ => ?_, fun a h => ?_, fun j o1 hj => ?_⟩
  · rw [upd_ne fun z => hn (by rw [z]; exact hot)]
    exact h
  · rcases getset h1 with ⟨ej, _, _⟩ | ⟨_, h1⟩
    · exact .inl ⟨i, b, o, hi, by rw [← ej]; exact h2⟩
    · exact .inl ⟨j, b1, o1, h1, h2⟩
  · by_cases ha : a = p
    · rw [ha, upd_same] at h
      cases h
    · rw [upd_ne ha] at h
      exact h
  · by_cases ej : j = i
    · subst ej
      rw [hi] at hj
      cases hj
      exact ⟨⟨o', List.getElem?_set_self (List.getElem?_eq_some_iff.mp hi).1⟩, rfl⟩
    · exact ⟨⟨o1, by rw [List.getElem?_set_ne (Ne.symm ej)]; exact hj⟩, rfl⟩
theorem sameK_set (hi : δ[i]? = some (.ob b o)) : SameK δ (δ.set i (.ob b o')) := by
  have h := setO_same (δ := δ) (i := i) (o := o')
  unfold setO at h
  rw [hi] at h
  exact h
theorem RepR.al_ref {v : V} (e : EnvOk K E F H δ σ) (hi : δ[i]? = some (.ob b o)) (h : RepR K F H δ σ (.al i) v) : ∃ p ho, v = .ref p ∧ σ[i]? = some (some (.ref p)) ∧ F p = none ∧ H p = some ho ∧ RepO K F o ho := by
  obtain ⟨p, ho, w1, w2, w3, w4, _⟩ := e.ob i b o hi
  obtain ⟨h1, _⟩ := h
  rw [h1] at w1
  cases w1
  exact ⟨p, ho, rfl, h1, w2, w3, w4⟩
/-- xs.append(e) -/
theorem ev_append {ds0 : List D} (ho : EvJ K to δ (.al i) δ1) (h0 : δ1[i]? = some (.ob b (.L ds0))) (he : EvJ K te δ1 (.fr d) δ2) (hi : δ2[i]? = some (.ob b (.L ds))) (hz : ds.length < sizeLine) : EvJ K (tBM K "list" rAppend to (tCons te tNil)) δ (.fr .none) (δ2.set i (.ob b (.L (ds ++ [d])))) :=
  ⟨(ho.1.trans he.1).trans (sameK_set hi), fun E F H σ Q e q => ho.2 E F H σ _ e fun v F1 H1 e1 g1 h1 _ => by
    obtain ⟨p, ho1, rfl, w1, w2, w3, vs, rfl, _⟩ := h1.al_ref e1 h0
    refine ⟨.inl ⟨rfl, vs, .inl (.inl w3)⟩, he.2 E F1 H1 σ _ e1 fun u F2 H2 e2 g2 h2 _ => ?_⟩
    obtain ⟨p2, ho2, x1, x2, x3, ⟨us, rfl, x4⟩, _⟩ := e2.ob i b _ hi
    rw [w1] at x1
    cases x1
    have hr : RepO K F2 (.L (ds ++ [d])) (.lst (us ++ [u])) := ⟨_, rfl, x4.append (.cons h2 .nil)⟩
    exact ⟨p, us, u, rfl, rfl, x3, by rw [x4.length]; exact hz, q _ F2 _ (e2.mut hi w1 hr) ((g1.trans g2).trans (Grow.mut e2 hi w1)) .non trivial⟩⟩
/-- xs.extend(e), e a new list -/
theorem ev_extend {ds0 es : List D} {r : R} (ho : EvJ K to δ (.al i) δ1) (h0 : δ1[i]? = some (.ob b (.L ds0))) (he : EvJ K te δ1 r δ2) (hr : isL δ2 r = some es) (hi : δ2[i]? = some (.ob b (.L ds))) (hz : ds.length + es.length ≤ sizeLine) : EvJ K (tBM K "list" rExtend to (tCons te tNil)) δ (.fr .none) (δ2.set i (.ob b (.L (ds ++ es)))) :=
  ⟨(ho.1.trans he.1).trans (sameK_set hi), fun E F H σ Q e q => ho.2 E F H σ _ e fun v F1 H1 e1 g1 h1 _ => by
    obtain ⟨p, ho1, rfl, w1, w2, w3, vs, rfl, _⟩ := h1.al_ref e1 h0
    refine ⟨.inl ⟨rfl, vs, .inl (.inl w3)⟩, he.2 E F1 H1 σ _ e1 fun u F2 H2 e2 g2 h2 _ => ?_⟩
    obtain ⟨p2, ho2, x1, x2, x3, ⟨us, rfl, x4⟩, _⟩ := e2.ob i b _ hi
    rw [w1] at x1
    cases x1
    obtain ⟨p3, ws, rfl, y1, y2⟩ := isL_ok e2 h2 hr
    have hro : RepO K F2 (.L (ds ++ es)) (.lst (us ++ ws)) := ⟨_, rfl, x4.append y2⟩
    exact ⟨p, p3, us, ws, rfl, rfl, x3, y1, by rw [x4.length, y2.length]; exact hz, q _ F2 _ (e2.mut hi w1 hro) ((g1.trans g2).trans (Grow.mut e2 hi w1)) .non trivial⟩⟩
/-- xs[k] = e -/
theorem st_setL {k : Int} {j : Nat} {δ4 : List Sl} (he : EvJ K te δ (.fr d) δ1) (ho : EvJ K to δ1 (.al i) δ2) (hk : EvJ K ti δ2 (.fr (.int k)) δ3) (hi : δ3[i]? = some (.ob b (.L ds))) (hj : ixN ds.length k = some j) : StJ K (tAsg te (gSub to ti rSetL)) δ (.nx (δ3.set i (.ob b (.L (ds.set j d))))) := fun E F H σ D e s =>
  he.2 E F H σ _ e fun v F1 H1 e1 g1 h1 _ => ho.2 E F1 H1 σ _ e1 fun x F2 H2 e2 g2 h2 _ => hk.2 E F2 H2 σ _ e2 fun y F3 H3 e3 g3 h3 _ => by
    have h2' := h2.keep g3 hk.1
    have h1' := (RepR.keep (r := .fr d) g2 ho.1 h1).keep (r := .fr d) g3 hk.1
    cases h3
    obtain ⟨p, ho1, rfl, w1, w2, w3, vs, rfl, w4⟩ := h2'.al_ref e3 hi
    have hr : RepO K F3 (.L (ds.set j d)) (.lst (vs.set j v)) := ⟨_, rfl, w4.set h1' j⟩
    exact ⟨p, vs, k, j, rfl, rfl, w3, by rw [w4.length]; exact hj, s σ F3 _ (e3.mut hi w1 hr) (((g1.trans g2).trans g3).trans (Grow.mut e3 hi w1))⟩
/-! ### dicts by written keys -/
def keyD : Key → D
  | .inl i => .int i
  | .inr x => .str x
theorem keyD_v {k : Key} {v : V} {F : Hp} (h : Dp K F v (keyD k)) : v = kV k := by
  cases k with
  | inl i =>
    cases h
    rfl
  | inr x =>
    cases h
    rfl
theorem kd_get {κ : Type} [DecidableEq κ] {F : Hp} {ws : List (κ × V)} {kvs : List (κ × D)} (h : KD K F ws kvs) {k : κ} (hd : kdGet kvs k = some d) : ∃ v, valV ws k = some v ∧ Dp K F v d := by
  induction h with
  | nil => cases hd
  | @cons k' v' d' _ _ h1 _ ih =>
    unfold kdGet at hd
    by_cases hk : k' = k
    · rw [if_pos hk] at hd
      cases hd
      exact ⟨v', valV_pos hk, h1⟩
    · rw [if_neg hk] at hd
      rw [valV_neg (p := (k', v')) hk]
      exact ih hd
theorem kd_none {κ : Type} [DecidableEq κ] {F : Hp} {ws : List (κ × V)} {kvs : List (κ × D)} (h : KD K F ws kvs) {k : κ} (hd : kdGet kvs k = none) : valV ws k = none := by
  induction h with
  | nil => rfl
  | @cons k' v' d' _ _ h1 _ ih =>
    unfold kdGet at hd
    by_cases hk : k' = k
    · rw [if_pos hk] at hd
      cases hd
    · rw [if_neg hk] at hd
      rw [valV_neg (p := (k', v')) hk]
      exact ih hd
theorem KD.keys {κ : Type} {F : Hp} {ws : List (κ × V)} {kvs : List (κ × D)} (h : KD K F ws kvs) : ws.map (·.1) = kvs.map (·.1) := by
  induction h with
  | nil => rfl
  | cons _ _ ih => rw [List.map_cons, List.map_cons, ih]
theorem KD.len {κ : Type} {F : Hp} {ws : List (κ × V)} {kvs : List (κ × D)} (h : KD K F ws kvs) : ws.length = kvs.length := by
  have e := congrArg List.length h.keys
  rw [List.length_map, List.length_map] at e
  exact e
/-- the pairs with one put, told by recursion -/
def putR {κ : Type} [DecidableEq κ] : List (κ × V) → κ → V → List (κ × V)
  | [], k, v => [(k, v)]
  | (k', v') :: r, k, v => if k' = k then (k', v) :: r else (k', v') :: putR r k v
theorem putR_notin {κ : Type} [DecidableEq κ] {k : κ} {v : V} : ∀ {ws : List (κ × V)}, k ∉ ws.map (·.1) → putR ws k v = ws ++ [(k, v)]
  | [], _ => rfl
  | (k', v') :: r, h => by
    rw [List.map_cons, List.mem_cons, not_or] at h
    unfold putR
    rw [if_neg (fun e => h.1 e.symm), putR_notin h.2]
    rfl
theorem map_id_notin {κ : Type} [DecidableEq κ] {k : κ} {v : V} : ∀ {ws : List (κ × V)}, k ∉ ws.map (·.1) → ws.map (fun kv => if kv.1 = k then (kv.1, v) else kv) = ws
  | [], _ => rfl
  | (k', v') :: r, h => by
    rw [List.map_cons, List.mem_cons, not_or] at h
    rw [List.map_cons, map_id_notin h.2]
    show (if k' = k then (k', v) else (k', v')) :: r = _
    rw [if_neg (fun e => h.1 e.symm)]
theorem map_in {κ : Type} [DecidableEq κ] {k : κ} {v : V} : ∀ {ws : List (κ × V)}, (ws.map (·.1)).Nodup → k ∈ ws.map (·.1) → ws.map (fun kv => if kv.1 = k then (kv.1, v) else kv) = putR ws k v
  | [], _, h => by cases h
  | (k', v') :: r, hn, h => by
    rw [List.map_cons, List.nodup_cons] at hn
    rw [List.map_cons]
    show (if k' = k then (k', v) else (k', v')) :: r.map _ = if k' = k then (k', v) :: r else (k', v') :: putR r k v
    by_cases hk : k' = k
    · subst hk
      rw [if_pos rfl, if_pos rfl, map_id_notin hn.1]
    · rw [if_neg hk, if_neg hk]
      rw [List.map_cons, List.mem_cons] at h
      rcases h with h | h
      · exact absurd h.symm hk
      · rw [map_in hn.2 h]
theorem putK_eq {κ : Type} [DecidableEq κ] {k : κ} {v : V} {ws : List (κ × V)} (hn : (ws.map (·.1)).Nodup) : putK ws k v = putR ws k v := by
  unfold putK
  by_cases hm : k ∈ ws.map (·.1)
  · rw [if_pos (by
      obtain ⟨kv, h1, h2⟩ := List.mem_map.mp hm
      exact List.any_eq_true.mpr ⟨kv, h1, decide_eq_true h2⟩)]
    exact map_in hn hm
  · rw [if_neg (by
      intro z
      obtain ⟨kv, h1, h2⟩ := List.any_eq_true.mp z
      exact hm (List.mem_map.mpr ⟨kv, h1, of_decide_eq_true h2⟩)), putR_notin hm]
theorem putR_kd {κ : Type} [DecidableEq κ] {F : Hp} {k : κ} {v : V} (hv : Dp K F v d) {ws : List (κ × V)} {kvs : List (κ × D)} (h : KD K F ws kvs) : KD K F (putR ws k v) (kdPut kvs k d) := by
  induction h with
  | nil => exact .cons hv .nil
  | @cons k' v' d' _ _ h1 h2 ih =>
    unfold putR kdPut
    by_cases hk : k' = k
    · rw [if_pos hk, if_pos hk]
      exact .cons hv h2
    · rw [if_neg hk, if_neg hk]
      exact .cons h1 ih
theorem putR_keys {κ : Type} [DecidableEq κ] {k x : κ} {v : V} : ∀ {ws : List (κ × V)}, x ∈ (putR ws k v).map (·.1) → x = k ∨ x ∈ ws.map (·.1)
  | [], h => by
    rcases List.mem_cons.mp h with h | h
    · exact .inl h
    · cases h
  | (k', v') :: r, h => by
    unfold putR at h
    by_cases hk : k' = k
    · rw [if_pos hk] at h
      exact .inr h
    · rw [if_neg hk] at h
      rcases List.mem_cons.mp h with h | h
      · exact .inr (by rw [h]; exact List.mem_cons_self)
      · rcases putR_keys h with h | h
        · exact .inl h
        · exact .inr (List.mem_cons_of_mem _ h)
theorem putR_nodup {κ : Type} [DecidableEq κ] {k : κ} {v : V} : ∀ {ws : List (κ × V)}, (ws.map (·.1)).Nodup → ((putR ws k v).map (·.1)).Nodup
  | [], _ => by
    show [k].Nodup
    exact List.nodup_cons.mpr ⟨(fun z => nomatch z), List.nodup_nil⟩
  | (k', v') :: r, hn => by
    have hn' := hn
    rw [List.map_cons, List.nodup_cons] at hn'
    unfold putR
    by_cases hk : k' = k
    · rw [if_pos hk]
      exact hn
    · rw [if_neg hk, List.map_cons, List.nodup_cons]
      refine ⟨fun z => ?_, putR_nodup hn'.2⟩
      rcases putR_keys z with z | z
      · exact hk z
      · exact hn'.1 z
/-- d[k] -/
theorem ev_dget {td ty : TE} {kvs kvs' : List (Key × D)} {k : Key} (hd : EvJ K td δ (.al i) δ1) (hk : EvJ K ty δ1 (.fr (keyD k)) δ2) (hi : δ2[i]? = some (.ob b (.K kvs))) (hg : kdGet kvs k = some d) : EvJ K (tDGet td ty) δ (.fr d) δ2 :=
  ⟨hd.1.trans hk.1, fun E F H σ Q e q => hd.2 E F H σ _ e fun v F1 H1 e1 g1 h1 _ => hk.2 E F1 H1 σ _ e1 fun u F2 H2 e2 g2 h2 _ => by
    obtain ⟨p, ho1, rfl, w1, w2, w3, ws, rfl, hn, w4⟩ := (h1.keep g2 hk.1).al_ref e2 hi
    have hu := keyD_v h2
    subst hu
    obtain ⟨w, x1, x2⟩ := kd_get w4 hg
    exact ⟨p, w, rfl, by rw [← x1]; exact DGet.k w3, q w F2 H2 e2 (g1.trans g2) x2 trivial⟩⟩
/-- d[k] = e -/
theorem st_dput {td ty tv : TE} {kvs : List (Key × D)} {k : Key} (he : EvJ K tv δ (.fr d) δ1) (hd : EvJ K td δ1 (.al i) δ2) (hk : EvJ K ty δ2 (.fr (keyD k)) δ3) (hi : δ3[i]? = some (.ob b (.K kvs))) (hz : kvs.length < sizeLine) : StJ K (sDPut td ty tv) δ (.nx (δ3.set i (.ob b (.K (kdPut kvs k d))))) := fun E F H σ D e s =>
  he.2 E F H σ _ e fun v F1 H1 e1 g1 h1 _ => hd.2 E F1 H1 σ _ e1 fun x F2 H2 e2 g2 h2 _ => hk.2 E F2 H2 σ _ e2 fun y F3 H3 e3 g3 h3 _ => by
    have h2' := h2.keep g3 hk.1
    have h1' := (RepR.keep (r := .fr d) g2 hd.1 h1).keep (r := .fr d) g3 hk.1
    have hu := keyD_v h3
    subst hu
    obtain ⟨p, ho1, rfl, w1, w2, w3, ws, rfl, hn, w4⟩ := h2'.al_ref e3 hi
    have hr : RepO K F3 (.K (kdPut kvs k d)) (.dK (putK ws k v)) := by
      rw [putK_eq hn]
      exact ⟨_, rfl, putR_nodup hn, putR_kd h1' w4⟩
    exact ⟨p, _, rfl, DPut.k w3 (by rw [w4.len]; exact hz), s σ F3 _ (e3.mut hi w1 hr) (((g1.trans g2).trans g3).trans (Grow.mut e3 hi w1))⟩
/-- {'a': e, ..} -/
inductive PairsJ (K : PySem.W.Frag) : List (TE × TE) → List Sl → List (Key × D) → List Sl → Prop
  | nil {δ : List Sl} : PairsJ K [] δ [] δ
  | cons {tk tv : TE} {trs : List (TE × TE)} {δ δ1 δ2 δ3 : List Sl} {k : Key} {d : D} {kvs : List (Key × D)} : EvJ K tk δ (.fr (keyD k)) δ1 → EvJ K tv δ1 (.fr d) δ2 → PairsJ K trs δ2 kvs δ3 → PairsJ K ((tk, tv) :: trs) δ ((k, d) :: kvs) δ3
theorem PairsJ.same {trs : List (TE × TE)} {kvs : List (Key × D)} (h : PairsJ K trs δ kvs δ1) : SameK δ δ1 := by
  induction h with
  | nil => exact SameK.refl _
  | cons h1 h2 _ ih => exact (h1.1.trans h2.1).trans ih
theorem PairsJ.run {trs : List (TE × TE)} {kvs : List (Key × D)} (h : PairsJ K trs δ kvs δ1) : ∀ {E F H : Hp} {σ : List (Option V)} {Q : List (V × V) → Hp → Prop}, EnvOk K E F H δ σ →
    (∀ ws F2 H2, EnvOk K E F2 H2 δ1 σ → Grow F H δ σ F2 H2 δ1 σ → KD K F2 ws kvs → Q (ws.map fun kv => (kV kv.1, kv.2)) H2) → tPairs trs σ H Q := by
  induction h with
  | nil =>
    intro E F H σ Q e q
    exact q [] F H e Grow.refl .nil
  | @cons tk tv trs δ δ1 δ2 δ3 k d kvs h1 h2 h3 ih =>
    intro E F H σ Q e q
    refine h1.2 E F H σ _ e fun x F1 H1 e1 g1 r1 _ => h2.2 E F1 H1 σ _ e1 fun y F2 H2 e2 g2 r2 _ => ih e2 fun ws F3 H3 e3 g3 r3 => ?_
    have hx := keyD_v r1
    subst hx
    exact q ((k, y) :: ws) F3 H3 e3 ((g1.trans g2).trans g3) (.cons (dp_mono g3.f r2) r3)
theorem mergeK_nil : ∀ {more kvs : List (Key × V)}, ((kvs ++ more).map (·.1)).Nodup → mergeK kvs more = kvs ++ more
  | [], kvs, _ => by
    rw [List.append_nil]
    rfl
  | p :: more, kvs, hn => by
    have h1 : p.1 ∉ kvs.map (·.1) := fun z => by
      rw [List.map_append, List.nodup_append] at hn
      exact hn.2.2 _ z _ List.mem_cons_self rfl
    have h2 : (kvs.map (·.1)).Nodup := by
      rw [List.map_append, List.nodup_append] at hn
      exact hn.1
    show mergeK (putK kvs p.1 p.2) more = _
    rw [putK_eq h2, putR_notin h1, mergeK_nil]
    · rw [List.append_assoc]
      rfl
    · rw [List.append_assoc]
      exact hn
theorem ev_disp {trs : List (TE × TE)} {kvs : List (Key × D)} (h : PairsJ K trs δ kvs δ1) (hn : (kvs.map (·.1)).Nodup := by decide) (hz : kvs.length ≤ 15 := by decide) : EvJ K (tDisp trs) δ (.new (.K kvs)) δ1 := ⟨h.same, fun E F H σ Q e q => by
  intro p hp
  have al := Alloc.own (o := .dK []) e.ex hp
  have nh : ¬ Hot δ σ p := fun z => by
    obtain ⟨_, ho, w⟩ := e.hotF z
    rw [hp] at w
    cases w
  refine h.run (al.env e) fun ws F2 H2 e2 g2 hk => ?_
  have hH : H2 p = some (.dK []) := g2.h p _ upd_same nh
  have nh2 : ¬ Hot δ1 σ p := fun z => by
    rcases g2.n p z with w | w
    · exact nh w
    · rw [upd_same] at w
      cases w
  have hF2 : F2 p = none := by
    rw [g2.k p (by rw [upd_same]; exact (fun z => nomatch z)) nh]
    exact nn_ex e.ex hp
  have hnd : (ws.map (·.1)).Nodup := by
    rw [hk.keys]
    exact hn
  have hm : mergeK [] ws = ws := mergeK_nil (kvs := []) (by exact hnd)
  refine ⟨hH, ws, rfl, by rw [hk.len]; exact hz, ?_⟩
  rw [hm]
  refine q _ F2 _ (e2.poke hF2 nh2 (by rw [hH]; exact (fun z => nomatch z))) ?_ ⟨p, _, rfl, hF2, upd_same, ⟨ws, rfl, hnd, hk⟩, nh2⟩ (fun q' e0 => by cases e0; exact hp)
  exact (al.grow.trans g2).poke hp⟩
/-- slices -/
def EvO (K : PySem.W.Frag) (to : TO) (δ : List Sl) (o : Option Int) (δ' : List Sl) : Prop :=
  SameK δ δ' ∧ ∀ (E F H : Hp) (σ : List (Option V)) (Q : Option Int → Hp → Prop), EnvOk K E F H δ σ →
    (∀ F2 H2, EnvOk K E F2 H2 δ' σ → Grow F H δ σ F2 H2 δ' σ → Q o H2) → to σ H Q
theorem eo_none : EvO K tNoPart δ none δ := ⟨SameK.refl δ, fun E F H σ Q e q => q F H e Grow.refl⟩
theorem eo_some {k : Int} (h : EvJ K te δ (.fr (.int k)) δ1) : EvO K (tPart te) δ (some k) δ1 := ⟨h.1, fun E F H σ Q e q => h.2 E F H σ _ e fun v F1 H1 e1 g1 h1 _ => by
  cases h1
  exact ⟨k, rfl, q F1 H1 e1 g1⟩⟩
def SlD (K : PySem.W.Frag) (f : V → Option Int → Option Int → Hp → VK → Prop) (r : R) (lo hi : Option Int) (δ : List Sl) (r' : R) : Prop :=
  ∀ (E F H : Hp) (σ : List (Option V)) (x : V) (Q : VK), EnvOk K E F H δ σ → RepR K F H δ σ r x → (∀ w F2 H2, Alloc F H F2 H2 → RepR K F2 H2 δ σ r' w → Fresh H r' w → Q w H2) → f x lo hi H Q
theorem ev_slice {f : V → Option Int → Option Int → Hp → VK → Prop} {tl th : TO} {lo hi : Option Int} {r r' : R} (h : EvJ K te δ r δ1) (hl : EvO K tl δ1 lo δ2) (hh : EvO K th δ2 hi δ3) (hs : SlD K f r lo hi δ3 r') : EvJ K (tSl f te tl th) δ r' δ3 :=
  ⟨(h.1.trans hl.1).trans hh.1, fun E F H σ Q e q => h.2 E F H σ _ e fun x F1 H1 e1 g1 h1 _ => hl.2 E F1 H1 σ _ e1 fun F2 H2 e2 g2 => hh.2 E F2 H2 σ _ e2 fun F3 H3 e3 g3 =>
    hs E F3 H3 σ x Q e3 ((h1.keep g2 hl.1).keep g3 hh.1) fun w F4 H4 al rw_ fw => q w F4 H4 (al.env e3) (((g1.trans g2).trans g3).trans al.grow) rw_ (fw.back ((g1.trans g2).trans g3).dm)⟩
theorem cut_dpa {F : Hp} {vs : List V} {ds : List D} {lo hi : Option Int} (h : DpAll K F vs ds) : DpAll K F (cutV vs lo hi) ((ds.drop (HT.sIx ds.length 0 lo)).take (HT.sIx ds.length ds.length hi - HT.sIx ds.length 0 lo)) := by
  unfold cutV
  rw [h.length]
  exact (h.drop _).take _
/-- the cut of data -/
def cutD (ds : List D) (lo hi : Option Int) : List D := (ds.drop (HT.sIx ds.length 0 lo)).take (HT.sIx ds.length ds.length hi - HT.sIx ds.length 0 lo)
theorem sl_T {lo hi : Option Int} : SlD K (rSliceU K) (.fr (.tuple ds)) lo hi δ (.fr (.tuple (cutD ds lo hi))) := fun E F H σ x Q e h1 q => by
  cases h1 with
  | @tup a xs _ hs ha =>
    refine .inr (.inl ⟨a, xs, rfl, ex_t e.ex hs, fun hw => ?_, fun _ p hp => ?_⟩)
    · rw [ha.length] at hw
      have e0 : cutD ds lo hi = ds := by
        unfold cutD
        rw [hw.1, hw.2, List.drop_zero, Nat.sub_zero, List.take_length]
      rw [e0] at q
      exact q _ F H (Alloc.refl e.ex) (.tup hs ha) trivial
    · have al := Alloc.new (o := .tup (cutV xs lo hi)) e.ex hp
      exact q _ _ _ al (.tup (.inl (.inl upd_same)) (dpa_mono al.f (cut_dpa ha))) trivial
theorem sl_L {r : R} {lo hi : Option Int} (h : rS δ r = some (false, ds)) : SlD K (rSliceU K) r lo hi δ (.new (.L (cutD ds lo hi))) := fun E F H σ x Q e h1 q => by
  obtain ⟨p, vs, rfl, hl, _, ha⟩ := rS_ok e h1 h
  refine .inl ⟨p, vs, rfl, hl rfl, fun l hp => ?_⟩
  obtain ⟨n1, n2⟩ := new_list e (cut_dpa (lo := lo) (hi := hi) ha) hp
  exact q _ F _ (Alloc.own e.ex hp) n1 n2
/-- is None -/
theorem od_isN : OpD K (fun x y H Q => y = .non ∧ Q (.bl (decide (x = .non))) H) (.fr d) (.fr .none) δ (.fr (.bool (decide (tyD d = "NoneType")))) := fun E F H σ x y Q e h1 h2 q => by
  cases h2
  have e0 : decide (x = V.non) = decide (tyD d = "NoneType") := by
    cases h1 with
    | non => rfl
    | bl _ => exact decide_eq_decide.mpr ⟨(fun z => nomatch z), fun z => by simp [tyD] at z⟩
    | int _ => exact decide_eq_decide.mpr ⟨(fun z => nomatch z), fun z => by simp [tyD] at z⟩
    | str _ => exact decide_eq_decide.mpr ⟨(fun z => nomatch z), fun z => by simp [tyD] at z⟩
    | lst _ _ => exact decide_eq_decide.mpr ⟨(fun z => nomatch z), fun z => by simp [tyD] at z⟩
    | tup _ _ => exact decide_eq_decide.mpr ⟨(fun z => nomatch z), fun z => by simp [tyD] at z⟩
  refine ⟨rfl, ?_⟩
  rw [e0]
  exact q _ F H (Alloc.refl e.ex) (.bl _) trivial
theorem od_notN : OpD K (fun x y H Q => y = .non ∧ Q (.bl (!decide (x = .non))) H) (.fr d) (.fr .none) δ (.fr (.bool (!decide (tyD d = "NoneType")))) := fun E F H σ x y Q e h1 h2 q => by
  cases h2
  have e0 : decide (x = V.non) = decide (tyD d = "NoneType") := by
    cases h1 with
    | non => rfl
    | bl _ => exact decide_eq_decide.mpr ⟨(fun z => nomatch z), fun z => by simp [tyD] at z⟩
    | int _ => exact decide_eq_decide.mpr ⟨(fun z => nomatch z), fun z => by simp [tyD] at z⟩
    | str _ => exact decide_eq_decide.mpr ⟨(fun z => nomatch z), fun z => by simp [tyD] at z⟩
    | lst _ _ => exact decide_eq_decide.mpr ⟨(fun z => nomatch z), fun z => by simp [tyD] at z⟩
    | tup _ _ => exact decide_eq_decide.mpr ⟨(fun z => nomatch z), fun z => by simp [tyD] at z⟩
  refine ⟨rfl, ?_⟩
  rw [e0]
  exact q _ F H (Alloc.refl e.ex) (.bl _) trivial
end
end DL
/-! Bools subtracted; lists unpacked; defs by their names; rows of facts. -/
namespace DL
open PySem PySem.Spec PyProof.Rows L2
theorem gives_sub_bb (a b : Bool) : Gives (Builtin.«int.__sub__» ⟨[.bool a, .bool b], []⟩) (.int ((if a = true then (1 : Int) else 0) - if b = true then (1 : Int) else 0)) :=
  .of_wp fun M A E s Q h => by obtain ⟨hp, g, d, tk, os⟩ := s; wp_walk; exact ⟨_, rfl, h⟩
theorem sub_bool_bool {prog : Program} {w : World} {A : Around} {E : Value → Shared → Prop} {s : Shared} {a b : Bool} {Q : Value → Shared → Prop} (h : Q (.int ((if a = true then (1 : Int) else 0) - if b = true then (1 : Int) else 0) s.toks) { s with toks := s.toks + 1 }) : wpAny (model prog w) A (binaryOp .Sub (.bool a) (.bool b)) Q E s :=
  binaryOp_gives (op := .Sub) (T := "bool") rfl rfl F.fills_bool_sub F.slot_bool_sub F.entry_int_sub (F.args_int_sub_2 _ _) (gives_sub_bb a b) trivial h
section
variable {X : Cx}
def rSubBB : R2 := fun x y H Q => ∃ a b : Bool, x = .bl a ∧ y = .bl b ∧ Q (.int ((if a = true then (1 : Int) else 0) - if b = true then (1 : Int) else 0)) H
theorem op_subBB : OpR X (binaryOp .Sub) rSubBB := by
  intro pins s σ H x y v u Q I rx ry h
  obtain ⟨a, b, rfl, rfl, q⟩ := h
  cases rx
  cases ry
  exact sub_bool_bool ⟨.int _, H, I.tok _, ⟨_, rfl⟩, q⟩
def rSubU : R2 := fun x y H Q => rI0 (fun i j => .int (i - j)) x y H Q ∨ rSubBB x y H Q
theorem op_subU : OpR X (binaryOp .Sub) rSubU := OpR.or op_sub op_subBB
end
section
variable {K : PySem.W.Frag} {δ δ1 : List Sl} {ds : List D}
theorem od_subI {i j : Int} : OpD K rSubU (.fr (.int i)) (.fr (.int j)) δ (.fr (.int (i - j))) := od_orL (od_I0 (g := fun i j => i - j))
theorem od_subB {a b : Bool} : OpD K rSubU (.fr (.bool a)) (.fr (.bool b)) δ (.fr (.int ((if a = true then (1 : Int) else 0) - if b = true then (1 : Int) else 0))) := fun E F H σ x y Q e h1 h2 q => by
  cases h1
  cases h2
  exact .inr ⟨a, b, rfl, rfl, q _ F H (Alloc.refl e.ex) (.int _) trivial⟩
/-- a, b = xs (a list, a tuple) -/
theorem st_unL {te : TE} {gs : TGs} {n : Nat} {r : R} {δ2 : List Sl} (h : EvJ K te δ r δ1) (hr : rS δ1 r = some (false, ds)) (hb : BindsJ K gs ds δ1 δ2) (hn : ds.length = n := by rfl) : StJ K (tAsg te (gLst K n gs)) δ (.nx δ2) := fun E F H σ D e s =>
  h.2 E F H σ _ e fun v F1 H1 e1 g1 h1 _ => by
    obtain ⟨p, vs, rfl, hl, _, ha⟩ := rS_ok e1 h1 hr
    exact ⟨p, vs, rfl, hl rfl, ha.length.trans hn, hb E F1 H1 σ vs _ e1 ha fun σ' e' g' => s σ' F1 H1 e' (g1.trans g')⟩
theorem st_unT {te : TE} {gs : TGs} {n : Nat} {δ2 : List Sl} (h : EvJ K te δ (.fr (.tuple ds)) δ1) (hb : BindsJ K gs ds δ1 δ2) (hn : ds.length = n := by rfl) : StJ K (tAsg te (gTup K n gs)) δ (.nx δ2) := fun E F H σ D e s =>
  h.2 E F H σ _ e fun v F1 H1 e1 g1 h1 _ => by
    cases h1 with
    | @tup p vs _ hs ha => exact ⟨p, vs, rfl, ex_t e1.ex hs, ha.length.trans hn, hb E F1 H1 σ vs _ e1 ha fun σ' e' g' => s σ' F1 H1 e' (g1.trans g')⟩
end
/-- a def of the text, under its name -/
structure DefAt (K : PySem.W.Frag) (mg : Str → Option Value) (x : Str) (st : Stmt) (ps : List Str) : Prop where
  ex : ∃ (f : Addr) (fd : FuncData), Fun K x x st f fd ∧ mg x = some (.ref f) ∧ PySem.W.keepIn K (.ref f) = true ∧ Binds K fd ps []
theorem cal_of {P : Program} {w : World} {K : PySem.W.Frag} {mg : Str → Option Value} {base : Heap} {x : Str} {st : Stmt} {ps N : List Str} {k m : Nat} {C : Con}
    (Df : DefAt K mg x st ps) (S : FnScope N ps (defScope st)) (hl : ∀ args r args', C args r args' → args.length = ps.length) (hm : m = N.length - ps.length)
    (hbody : ∀ (f : Addr) (cdv : Value) (A : Around) (outer : List Env) (s : Shared) (H : Hp) (E : XK), Room k (A.deeper (envOfC x (defScope st) s.heap.objs.size f cdv)) →
      ∃ t, PSs (cxOf CX0 P w K mg base N x (defScope st) f cdv A outer s H E).nox (defBody st) t ∧ BodyOk K t m C) : C8.Cal P w K mg base (k + 1) x (spD K C) [] := by
  obtain ⟨f, fd, F, h1, h2, h3⟩ := Df.ex
  exact ⟨f, fd, ps, [], fnD F S hl hm (hbody f), h1, h2, h3, .nil⟩
theorem def_mk {K : PySem.W.Frag} {mg : Str → Option Value} {h : Heap} {x : Str} {st : Stmt} {ps : List Str} {f : Addr} {oc : Value} {od an : Option Addr} {osl : Array (Option Value)} {kV doc pm cdv ct : Value} (X : K.In h) (G : h.Ns mainGlobals mg)
    (a : PySem.W.nsIn K mainGlobals x = some (some (.ref f))) (l : K.lookup f = some ⟨oc, od, .func (PySem.W.fnOf x x (defArgs st) (defBody st) (defScope st) .none kV doc pm an cdv ct), osl⟩)
    (c : PySem.W.codeIn K cdv x = true) (k : PySem.W.keepIn K (.ref f) = true)
    (b : ∀ (kV doc pm : Value) (an : Option Addr) (cdv ct : Value) (us : List Value), us.length = ps.length → bindArgs (PySem.W.fnOf x x (defArgs st) (defBody st) (defScope st) .none kV doc pm an cdv ct) ⟨us, []⟩ = pure (ps.zip us)) : DefAt K mg x st ps := by
  have F := fun_mk (st := st) l c k
  exact ⟨f, _, F, PySem.W.mg_of X G a, k, F.binds b⟩
end DL
/-! Promises in plain words: data in, data out; the law's own state of draws. -/
namespace DL
open PySem PySem.Spec PyProof.Rows L2

/-- data in, data out -/
def CP (f : List D → D → Prop) : Con := fun args r args' => ∃ ds d, f ds d ∧ args = ds.map .fr ∧ r = .fr d ∧ args' = args
theorem afterA_fr : ∀ {ds : List D} {xs : List Sl}, ds.length ≤ xs.length → afterA (ds.map Sl.fr) xs = ds.map Sl.fr
  | [], _, _ => rfl
  | d :: ds, x :: xs, h => by
    show Sl.fr d :: afterA (ds.map Sl.fr) xs = _
    rw [afterA_fr (by simpa using h)]
    rfl
  | d :: ds, [], h => by simp at h
theorem fr_noob {ds : List D} (i : Nat) (b : Bool) (o : O) : (ds.map Sl.fr)[i]? ≠ some (.ob b o) := fun h => by
  rw [List.getElem?_map] at h
  cases q : ds[i]? with
  | none => rw [q] at h; cases h
  | some d => rw [q] at h; cases h
theorem body_pure {K : PySem.W.Frag} {t : TS} {m : Nat} {f : List D → D → Prop} (h : ∀ ds d, f ds d → ∃ δ', StJ K t (ds.map .fr ++ List.replicate m .no) (.rt (.fr d) δ') ∧ ds.length ≤ δ'.length) : BodyOk K t m (CP f) := fun args r args' ⟨ds, d, hf, e1, e2, e3⟩ => by
  subst e1
  subst e2
  subst e3
  obtain ⟨δ', h1, h2⟩ := h ds d hf
  exact ⟨fun i o => fr_noob i true o, δ', .inl h1, by rw [List.length_map]; exact h2, (afterA_fr h2).symm⟩
theorem toArgs_fr {δ : List Sl} : ∀ {rs : List R} {ds : List D}, frs? rs = some ds → toArgs δ rs = some (ds.map .fr) ∧ alsOf rs = [] ∧ ∀ as, backA δ rs as = δ
  | [], ds, h => by
    cases h
    exact ⟨rfl, rfl, fun as => by unfold backA; rfl⟩
  | .fr d :: rs, ds, h => by
    cases q : frs? rs with
    | none => simp [frs?, q] at h
    | some ds' =>
      simp only [frs?, q, Option.map_some, Option.some.injEq] at h
      subst h
      obtain ⟨h1, h2, h3⟩ := toArgs_fr (δ := δ) q
      refine ⟨?_, h2, fun as => ?_⟩
      · show (toArgs δ rs).map (Sl.fr d :: ·) = _
        rw [h1]
        rfl
      · cases as with
        | nil =>
          unfold backA
          first | rfl | (split <;> first | rfl | (rename_i h; cases h))
        | cons a as =>
          unfold backA
          exact h3 as
  | .new o :: rs, ds, h => by cases h
  | .al i :: rs, ds, h => by cases h
theorem ev_callP {K : PySem.W.Frag} {δ δ1 : List Sl} {ta : TA} {rs : List R} {ds : List D} {d : D} {f : List D → D → Prop} {E0' : XK} (ha : EvA K ta δ rs δ1) (hd : frs? rs = some ds) (hf : f ds d) : EvJ K (tCall (spD K (CP f)) [] E0' ta) δ (.fr d) δ1 := by
  obtain ⟨h1, h2, h3⟩ := toArgs_fr (δ := δ1) hd
  exact ev_call ha h1 ⟨ds, d, hf, rfl, rfl, rfl⟩ (h3 _) (by rw [h2]; exact List.nodup_nil) rfl

/-! ### the state of the draws -/
structure DS where
  cells : List Int
  at_ : Int
  left : Int
  mix : Int
def DS.ok (s : DS) : Prop := (∀ c ∈ s.cells, 0 ≤ c) ∧ s.cells.length ≤ 1000 ∧ 0 ≤ s.at_ ∧ 0 ≤ s.left ∧ 0 ≤ s.mix ∧ s.mix < 2147483647
def kCells : Key := .inr "cells"
def kAt : Key := .inr "at"
def kLeft : Key := .inr "left"
def kMix : Key := .inr "mix"
def stO (s : DS) : O := .K [(kCells, .list (s.cells.map .int)), (kAt, .int s.at_), (kLeft, .int s.left), (kMix, .int s.mix)]
def drawTail (s : DS) (b : Int) : Int × DS :=
  if 0 < s.left then (s.left % b, { s with left := s.left.fdiv b })
  else ((((s.mix * 48271 + 11) % 2147483647 * 69621 + 5) % 2147483629) % b, { s with mix := (s.mix * 48271 + 11) % 2147483647 })
def draw (s : DS) (b : Int) : Int × DS :=
  if s.left = 0 ∧ s.at_ < s.cells.length then
    if s.cells.getD s.at_.toNat 0 < 10 ^ 18 then (s.cells.getD s.at_.toNat 0 % b, { s with at_ := s.at_ + 1, mix := (s.mix * 48271 + s.cells.getD s.at_.toNat 0 + 11) % 2147483647 })
    else drawTail { s with at_ := s.at_ + 1, mix := (s.mix * 48271 + s.cells.getD s.at_.toNat 0 + 11) % 2147483647, left := s.cells.getD s.at_.toNat 0 } b
  else drawTail s b
theorem getD_nonneg {xs : List Int} (h : ∀ c ∈ xs, 0 ≤ c) (i : Nat) : 0 ≤ xs.getD i 0 := by
  rw [List.getD_eq_getElem?_getD]
  cases q : xs[i]? with
  | none => exact Int.le_refl 0
  | some x => exact h x (List.mem_of_getElem? q)
theorem fdiv_nonneg' {a b : Int} (ha : 0 ≤ a) (hb : 0 < b) : 0 ≤ a.fdiv b := by
  rw [Int.fdiv_eq_ediv_of_nonneg a (by omega)]
  exact Int.ediv_nonneg ha (by omega)
theorem drawTail_ok {s : DS} {b : Int} (h : s.ok) (hb : 0 < b) : (drawTail s b).2.ok ∧ 0 ≤ (drawTail s b).1 ∧ (drawTail s b).1 < b := by
  obtain ⟨h1, h2, h3, h4, h5, h6⟩ := h
  unfold drawTail
  split
  · exact ⟨⟨h1, h2, h3, fdiv_nonneg' h4 hb, h5, h6⟩, Int.emod_nonneg _ (by omega), Int.emod_lt_of_pos _ hb⟩
  · exact ⟨⟨h1, h2, h3, h4, Int.emod_nonneg _ (by decide), Int.emod_lt_of_pos _ (by decide)⟩, Int.emod_nonneg _ (by omega), Int.emod_lt_of_pos _ hb⟩
theorem draw_ok {s : DS} {b : Int} (h : s.ok) (hb : 0 < b) : (draw s b).2.ok ∧ 0 ≤ (draw s b).1 ∧ (draw s b).1 < b := by
  have hh := h
  obtain ⟨h1, h2, h3, h4, h5, h6⟩ := h
  have hc := getD_nonneg h1 s.at_.toNat
  unfold draw
  split
  · split
    · exact ⟨⟨h1, h2, by show 0 ≤ s.at_ + 1; omega, h4, Int.emod_nonneg _ (by decide), Int.emod_lt_of_pos _ (by decide)⟩, Int.emod_nonneg _ (by omega), Int.emod_lt_of_pos _ hb⟩
    · exact drawTail_ok ⟨h1, h2, by show 0 ≤ s.at_ + 1; omega, hc, Int.emod_nonneg _ (by decide), Int.emod_lt_of_pos _ (by decide)⟩ hb
  · exact drawTail_ok hh hb
/-- the state and data in, data out, the state changed -/
def CS (f : DS → List D → D → DS → Prop) : Con := fun args r args' => ∃ s ds d s', f s ds d s' ∧ args = .ob false (stO s) :: ds.map .fr ∧ r = .fr d ∧ args' = .ob false (stO s') :: ds.map .fr
theorem body_state {K : PySem.W.Frag} {t : TS} {m : Nat} {f : DS → List D → D → DS → Prop} (h : ∀ s ds d s', f s ds d s' → ∃ δ', StJ K t (.ob false (stO s) :: (ds.map .fr ++ List.replicate m .no)) (.rt (.fr d) (.ob false (stO s') :: δ')) ∧ ds.length ≤ δ'.length) : BodyOk K t m (CS f) := fun args r args' ⟨s, ds, d, s', hf, e1, e2, e3⟩ => by
  subst e1
  subst e2
  subst e3
  obtain ⟨δ', h1, h2⟩ := h s ds d s' hf
  refine ⟨fun i o hi => ?_, .ob false (stO s') :: δ', .inl h1, ?_, ?_⟩
  · cases i with
    | zero => cases hi
    | succ i => exact fr_noob i true o hi
  · rw [List.length_cons, List.length_map, List.length_cons]
    omega
  · show _ = Sl.ob false (stO s') :: afterA (ds.map Sl.fr) δ'
    rw [afterA_fr h2]
theorem ev_callS {K : PySem.W.Frag} {δ δ1 δ2 : List Sl} {ta : TA} {i : Nat} {b : Bool} {s s' : DS} {rs : List R} {ds : List D} {d : D} {f : DS → List D → D → DS → Prop} {E0' : XK} (ha : EvA K ta δ (.al i :: rs) δ1) (hi : δ1[i]? = some (.ob b (stO s))) (hd : frs? rs = some ds) (hf : f s ds d s') (he : δ1.set i (.ob b (stO s')) = δ2) :
    EvJ K (tCall (spD K (CS f)) [] E0' ta) δ (.fr d) δ2 := by
  subst he
  obtain ⟨h1, h2, h3⟩ := toArgs_fr (δ := δ1) hd
  refine ev_call ha (args := .ob false (stO s) :: ds.map .fr) ?_ ⟨s, ds, d, s', hf, rfl, rfl, rfl⟩ ?_ ?_ rfl
  · unfold toArgs
    rw [hi]
    show (toArgs δ1 rs).map _ = _
    rw [h1]
    rfl
  · unfold backA
    rw [(toArgs_fr (δ := setO δ1 i (stO s')) hd).2.2]
    unfold setO
    rw [hi]
  · show (i :: alsOf rs).Nodup
    rw [h2]
    exact List.nodup_cons.mpr ⟨(fun z => nomatch z), List.nodup_nil⟩
end DL
/-! The rules in the form in which a tactic applies them. -/
namespace DL
open PySem PySem.Spec PyProof.Rows L2
section
variable {K : PySem.W.Frag} {δ δ1 δ2 δ3 : List Sl} {ta tb tc te to ti td ty tv : TE} {t u : TS} {tt tu : TT} {out : Out} {r r1 r2 r' : R} {d d1 d2 : D} {ds : List D} {i : Nat} {o : O} {b : Bool}
theorem q_set (h : EvJ K te δ (.fr d) δ1) (hp : NoPar δ1 i) (k : StJ K u (δ1.set i (.fr d)) out) : StJ K (tSeq (tAsg te (gName i)) u) δ out := st_seq (st_set h hp) k
theorem q_setN (h : EvJ K te δ (.new o) δ1) (hl : i < δ1.length) (hp : NoPar δ1 i) (k : StJ K u (δ1.set i (.ob true o)) out) : StJ K (tSeq (tAsg te (gName i)) u) δ out := st_seq (st_setN h hl hp) k
theorem q_set1 (h : EvJ K te δ (.fr d) δ1) (hp : NoPar δ1 i) : StJ K (tAsg te (gName i)) δ (.nx (δ1.set i (.fr d))) := st_set h hp
theorem q_ret (h : EvJ K te δ r δ1) (hr : retR δ1 r = some r') : StJ K (tRet te) δ (.rt r' δ1) := st_ret h hr
theorem q_retq (h : EvJ K te δ r δ1) (hr : retR δ1 r = some r') : StJ K (tSeq (tRet te) u) δ (.rt r' δ1) := st_stop_rt (st_ret h hr)
theorem q_drop (h : EvJ K te δ r δ1) (k : StJ K u δ1 out) : StJ K (tSeq (tDrop te) u) δ out := st_seq (st_drop h) k
theorem q_for {wi : TI} {g : TG} (hs : SrcJ K wi δ ds δ1) (hf : ForRel K g t ds δ1 (.nx δ2)) (k : StJ K u δ2 out) : StJ K (tSeq (tFor wi g t) u) δ out := st_seq (st_for hs hf) k
theorem q_dput {kvs : List (Key × D)} {k : Key} (he : EvJ K tv δ (.fr d) δ1) (hd : EvJ K td δ1 (.al i) δ2) (hk : EvJ K ty δ2 (.fr (keyD k)) δ3) (hi : δ3[i]? = some (.ob b (.K kvs))) (hz : kvs.length < sizeLine) (k' : StJ K u (δ3.set i (.ob b (.K (kdPut kvs k d)))) out) : StJ K (tSeq (sDPut td ty tv) u) δ out := st_seq (st_dput he hd hk hi hz) k'
theorem ev_tup' {t : TA} {rs : List R} (h : EvA K t δ rs δ1) (hd : frs? rs = some ds) (hz : ds.length ≤ sizeLine) : EvJ K (tTup t) δ (.fr (.tuple ds)) δ1 := ev_tup h hd hz
theorem ev_lst' {t : TA} {rs : List R} (h : EvA K t δ rs δ1) (hd : frs? rs = some ds) (hz : ds.length ≤ sizeLine) : EvJ K (tLst t) δ (.new (.L ds)) δ1 := ev_lst h hd hz
theorem ev_lstF {t : TA} {rs : List R} (h : EvA K t δ rs δ1) (hd : frs? rs = some ds) (hz : ds.length ≤ sizeLine) : EvJ K (tLst t) δ (.fr (.list ds)) δ1 := ev_frz (ev_lst h hd hz)
/-- tests that leave all as it is -/
theorem tt_andP {a b : Bool} (h1 : TtJ K tt δ a δ) (h2 : TtJ K tu δ b δ) : TtJ K (tAnd tt tu) δ (a && b) δ := tt_and h1 (fun _ => h2) (fun _ => rfl)
theorem tt_orP {a b : Bool} (h1 : TtJ K tt δ a δ) (h2 : TtJ K tu δ b δ) : TtJ K (tOr tt tu) δ (a || b) δ := tt_or h1 (fun _ => h2) (fun _ => rfl)
theorem ev_andP {a b : Bool} (h1 : EvJ K ta δ (.fr (.bool a)) δ) (h2 : EvJ K tb δ (.fr (.bool b)) δ) : EvJ K (tAndV ta tb) δ (.fr (.bool (a && b))) δ := by
  refine ev_andV h1 (fun h => ?_) (fun h => ⟨by rw [h]; rfl, rfl⟩)
  rw [h, Bool.true_and]
  exact h2
theorem ev_orP {a b : Bool} (h1 : EvJ K ta δ (.fr (.bool a)) δ) (h2 : EvJ K tb δ (.fr (.bool b)) δ) : EvJ K (tOrV ta tb) δ (.fr (.bool (a || b))) δ := by
  refine ev_orV h1 (fun h => ?_) (fun h => ⟨by rw [h]; rfl, rfl⟩)
  rw [h, Bool.false_or]
  exact h2
/-- and, the second looked at if the first holds -/
theorem tt_andC {a b : Bool} (h1 : TtJ K tt δ a δ) (h2 : a = true → TtJ K tu δ b δ) : TtJ K (tAnd tt tu) δ (a && b) δ := tt_and h1 h2 (fun _ => rfl)
theorem tt_orC {a b : Bool} (h1 : TtJ K tt δ a δ) (h2 : a = false → TtJ K tu δ b δ) : TtJ K (tOr tt tu) δ (a || b) δ := tt_or h1 h2 (fun _ => rfl)
/-- an if that leaves all as it is, by its two data -/
theorem ev_ifP {b : Bool} (hc : TtJ K tt δ b δ) (h1 : EvJ K ta δ (.fr d1) δ) (h2 : EvJ K tb δ (.fr d2) δ) : EvJ K (tIf tt ta tb) δ (.fr (if b then d1 else d2)) δ := by
  cases b with
  | true => exact ev_if hc (fun _ => h1) (fun h => nomatch h)
  | false => exact ev_if hc (fun h => nomatch h) (fun _ => h2)
theorem StJ.env {δ' : List Sl} (h : StJ K t δ out) (e : δ' = δ) : StJ K t δ' out := e ▸ h
/-- a call whose arguments are data, whatever it gives -/
theorem ev_callF {t : TA} {rs : List R} {C : Con} {E0' : XK} (ha : EvA K t δ rs δ1) (hd : frs? rs = some ds) (hC : C (ds.map .fr) r (ds.map .fr)) (hr : notAl r = true) : EvJ K (tCall (spD K C) [] E0' t) δ r δ1 := by
  obtain ⟨h1, h2, h3⟩ := toArgs_fr (δ := δ1) hd
  exact ev_call ha h1 hC (h3 _) (by rw [h2]; exact List.nodup_nil) hr
theorem ev_append' {ds0 : List D} (ho : EvJ K to δ (.al i) δ1) (h0 : δ1[i]? = some (.ob b (.L ds0))) (he : EvJ K te δ1 (.fr d) δ2) (hi : δ2[i]? = some (.ob b (.L ds))) (hz : ds.length < sizeLine) (e : δ2.set i (.ob b (.L (ds ++ [d]))) = δ3) : EvJ K (tBM K "list" rAppend to (tCons te tNil)) δ (.fr .none) δ3 := e ▸ ev_append ho h0 he hi hz
theorem ev_extend' {ds0 es : List D} (ho : EvJ K to δ (.al i) δ1) (h0 : δ1[i]? = some (.ob b (.L ds0))) (he : EvJ K te δ1 r δ2) (hr : isL δ2 r = some es) (hi : δ2[i]? = some (.ob b (.L ds))) (hz : ds.length + es.length ≤ sizeLine) (e : δ2.set i (.ob b (.L (ds ++ es))) = δ3) : EvJ K (tBM K "list" rExtend to (tCons te tNil)) δ (.fr .none) δ3 := e ▸ ev_extend ho h0 he hr hi hz
theorem q_set1' (h : EvJ K te δ (.fr d) δ1) (hp : NoPar δ1 i) (e : δ1.set i (.fr d) = δ2) : StJ K (tAsg te (gName i)) δ (.nx δ2) := e ▸ st_set h hp
theorem q_drop1 (h : EvJ K te δ r δ1) : StJ K (tDrop te) δ (.nx δ1) := st_drop h
/-- the loop whose state is told by a family -/
theorem ForRel.fold {S : Type} {g : TG} {tb : TS} (δs : S → List Sl) (f : S → D → S) : ∀ {ds : List D} {s : S}, (∀ s d, d ∈ ds → ∃ δb, BindJ K g d (δs s) δb ∧ StJ K tb δb (.nx (δs (f s d)))) → ForRel K g tb ds (δs s) (.nx (δs (ds.foldl f s)))
  | [], s, _ => .nil
  | d :: ds, s, h => by
    obtain ⟨δb, h1, h2⟩ := h s d List.mem_cons_self
    exact .go h1 h2 (ForRel.fold δs f fun s d hd => h s d (List.mem_cons_of_mem _ hd))
/-- a comprehension without tests that leaves all as it is -/
theorem LcRel.map {g : TG} {te : TE} {vs : List Nat} {δ : List Sl} (f : D → D) : ∀ {ds : List D}, (∀ d, d ∈ ds → ∃ δb, BindW K g d vs δ δb ∧ EvJ K te δb (.fr (f d)) δb ∧ NoParV δb vs ∧ wipeD δb vs = δ) → LcRel K g tYes te vs ds δ (ds.map f) δ
  | [], _ => .nil
  | d :: ds, h => by
    obtain ⟨δb, h1, h2, h3, h4⟩ := h d List.mem_cons_self
    refine .go h1 ⟨SameK.refl _, fun E F H σ Q e q => ?_⟩ h2 h3 ?_
    · exact q F H e Grow.refl
    · rw [h4]
      exact LcRel.map f fun d hd => h d (List.mem_cons_of_mem _ hd)
end
end DL
/-! The lengths of promises; the law's own first row. -/
namespace DL
open PySem PySem.Spec PyProof.Rows L2
theorem lenP {F : List D → D → Prop} {n : Nat} (h : ∀ ds d, F ds d → ds.length = n) : ∀ args r args', CP F args r args' → args.length = n := fun _ _ _ ⟨ds, d, hF, e, _⟩ => by
  rw [e, List.length_map]
  exact h _ _ hF
theorem lenS {F : DS → List D → D → DS → Prop} {n : Nat} (h : ∀ s ds d s', F s ds d s' → ds.length = n) : ∀ args r args', CS F args r args' → args.length = n + 1 := fun _ _ _ ⟨s, ds, d, s', hF, e, _⟩ => by
  rw [e, List.length_cons, List.length_map, h _ _ _ _ hF]
theorem ints_dp {K : PySem.W.Frag} {F : Hp} : ∀ ns : List Int, DpAll K F (ns.map V.int) (ns.map PyData.int)
  | [] => .nil
  | i :: is => .cons (.int i) (ints_dp is)
theorem env_law {K : PySem.W.Frag} {H : Hp} {a : Addr} {ns : List Int} {C : Con} (hS : SqL K H a (ns.map V.int)) (h : C [.fr (.list (ns.map .int))] (.fr (.bool true)) [.fr (.list (ns.map .int))]) : spD K C [.ref a] H (fun v _ => v = .bl true) fun _ _ _ => False := by
  refine ⟨_, _, _, H, h, ⟨Ex.refl H, fun _ z => z, rfl, fun i d e => ?_, fun i b o e => ?_, fun i j b o b' o' p e => ?_⟩, fun v F2 H2 _ _ q => ?_⟩
  · match i, e with
    | 0, e =>
      cases e
      exact ⟨_, rfl, .lst hS (ints_dp ns)⟩
    | i + 1, e => cases e
  · match i, e with
    | 0, e => cases e
    | i + 1, e => cases e
  · match i, e with
    | 0, e => cases e
    | i + 1, e => cases e
  · cases q
    rfl
/-! ### small helps -/
theorem log2_le {x n : Nat} (h : x < 2 ^ n) : x.log2 ≤ n := by
  by_cases h0 : x = 0
  · subst h0
    rw [Nat.log2_zero]
    exact Nat.zero_le _
  · exact Nat.le_of_lt ((Nat.log2_lt h0).mpr h)
theorem mulB_of {i j : Int} {n m : Nat} (hi : i.natAbs < 2 ^ n) (hj : j.natAbs < 2 ^ m) (h : n + m ≤ 1000000) : CMulB i j := by
  have h1 := log2_le hi
  have h2 := log2_le hj
  unfold CMulB
  omega
theorem pow_split {n m a b : Nat} (h1 : a < 2 ^ n) (h2 : b < 2 ^ m) : a * b < 2 ^ (n + m) := by
  rw [Nat.pow_add]
  exact Nat.mul_lt_mul'' h1 h2
theorem lt_log {x n : Nat} (h0 : x ≠ 0) (h : x < 2 ^ n) (hn : n ≤ 9000) : x.log2 < 9000 := Nat.lt_of_lt_of_le ((Nat.log2_lt h0).mpr h) hn
def Dat : Sl → Prop
  | .ob _ _ => False
  | _ => True
theorem np_at {δ : List Sl} {i : Nat} {x : Sl} (h : δ[i]? = some x) (hx : Dat x) : NoPar δ i := fun o z => by
  rw [h] at z
  cases z
  exact hx
end DL
/-! zip; promises of defs that call themselves. -/
namespace DL
open PySem PySem.Spec PyProof.Rows L2
/-- pairs, as far as both go -/
def zipD : List D → List D → List D
  | a :: as, b :: bs => .tuple [a, b] :: zipD as bs
  | _, _ => []
theorem zipD_get : ∀ {as bs : List D} {i : Nat} {d : D}, (zipD as bs)[i]? = some d → ∃ a b, as[i]? = some a ∧ bs[i]? = some b ∧ d = .tuple [a, b]
  | a :: as, b :: bs, 0, d, h => by
    cases h
    exact ⟨a, b, rfl, rfl, rfl⟩
  | a :: as, b :: bs, i + 1, d, h => zipD_get (as := as) (bs := bs) (i := i) h
  | [], _, _, _, h => by simp [zipD] at h
  | _ :: _, [], _, _, h => by simp [zipD] at h
theorem zipD_end : ∀ {as bs : List D} {i : Nat}, (zipD as bs).length ≤ i → as.length ≤ i ∨ bs.length ≤ i
  | [], _, _, _ => .inl (Nat.zero_le _)
  | _ :: _, [], _, _ => .inr (Nat.zero_le _)
  | a :: as, b :: bs, 0, h => by simp [zipD] at h
  | a :: as, b :: bs, i + 1, h => (zipD_end (as := as) (bs := bs) (i := i) (by simpa [zipD] using h)).elim (fun h => .inl (by simpa using h)) fun h => .inr (by simpa using h)
section
variable {K : PySem.W.Frag} {δ δ1 : List Sl} {as bs : List D} {ta : TA} {r1 r2 : R}
theorem src_zip {t : Bool} (h : EvA K ta δ [r1, r2] δ1) (e1 : rS δ1 r1 = some (t, as)) (e2 : rS δ1 r2 = some (t, bs)) (hf : ∀ F H E σ, EnvOk K E F H δ1 σ → ∀ v, (RepR K F H δ1 σ r1 v → ∃ vs p, v = .ref p ∧ DpAll K F vs as ∧ ((t = false ∧ SqL K F p vs) ∨ (t = true ∧ SqT K F p vs))) ∧ (RepR K F H δ1 σ r2 v → ∃ vs p, v = .ref p ∧ DpAll K F vs bs ∧ ((t = false ∧ SqL K F p vs) ∨ (t = true ∧ SqT K F p vs)))) :
    SrcJ K (RZ.iZipA K ta) δ (zipD as bs) δ1 := ⟨h.1, fun E F H σ Rr e q => h.2 E F H σ _ e fun vs F1 H1 e1' g1 hr _ => by
  cases hr with
  | cons x1 x2 _ =>
    cases x2 with
    | cons x2 x3 _ =>
      cases x3
      obtain ⟨us, p, rfl, a1, b1⟩ := (hf F1 H1 E σ e1' _).1 x1
      obtain ⟨ws, p', rfl, a2, b2⟩ := (hf F1 H1 E σ e1' _).2 x2
      refine ⟨p, p', us, ws, rfl, ?_⟩
      rcases b1 with ⟨t1, b1⟩ | ⟨t1, b1⟩
      · rcases b2 with ⟨t2, b2⟩ | ⟨t2, b2⟩
        · refine .inl ⟨ex_l e1'.ex b1, ex_l e1'.ex b2, q _ F1 H1 e1' g1 fun F' H' y1 y2 => ⟨fun i hi => ⟨us, ws, ex_l (y1.trans y2) b1, ex_l (y1.trans y2) b2, (zipD_end hi).elim (fun z => .inl (by rw [a1.length]; exact z)) fun z => .inr (by rw [a2.length]; exact z)⟩, fun i d hd => ?_⟩⟩
          obtain ⟨da, db, z1, z2, rfl⟩ := zipD_get hd
          obtain ⟨v1, w1, k1⟩ := a1.get z1
          obtain ⟨v2, w2, k2⟩ := a2.get z2
          refine ⟨⟨us, ws, v1, v2, ex_l (y1.trans y2) b1, ex_l (y1.trans y2) b2, w1, w2⟩, fun x H'' ⟨T, x1, x2, ex, hT, eH, m1, m2⟩ => ?_⟩
          have f1 := m1 us (ex_l (y1.trans y2) b1)
          have f2 := m2 ws (ex_l (y1.trans y2) b2)
          rw [w1] at f1
          rw [w2] at f2
          cases f1
          cases f2
          subst ex
          subst eH
          have al := Alloc.new (o := .tup [v1, v2]) y2 hT
          exact ⟨_, al, .tup (.inl (.inl upd_same)) (.cons (dp_mono (y1.trans al.f) k1) (.cons (dp_mono (y1.trans al.f) k2) .nil))⟩
        · rw [t1] at t2
          cases t2
      · rcases b2 with ⟨t2, b2⟩ | ⟨t2, b2⟩
        · rw [t1] at t2
          cases t2
        · refine .inr ⟨ex_t e1'.ex b1, ex_t e1'.ex b2, q _ F1 H1 e1' g1 fun F' H' y1 y2 => ⟨fun i hi => ⟨us, ws, ex_t (y1.trans y2) b1, ex_t (y1.trans y2) b2, (zipD_end hi).elim (fun z => .inl (by rw [a1.length]; exact z)) fun z => .inr (by rw [a2.length]; exact z)⟩, fun i d hd => ?_⟩⟩
          obtain ⟨da, db, z1, z2, rfl⟩ := zipD_get hd
          obtain ⟨v1, w1, k1⟩ := a1.get z1
          obtain ⟨v2, w2, k2⟩ := a2.get z2
          refine ⟨⟨us, ws, v1, v2, ex_t (y1.trans y2) b1, ex_t (y1.trans y2) b2, w1, w2⟩, fun x H'' ⟨T, x1, x2, ex, hT, eH, m1, m2⟩ => ?_⟩
          have f1 := m1 us (ex_t (y1.trans y2) b1)
          have f2 := m2 ws (ex_t (y1.trans y2) b2)
          rw [w1] at f1
          rw [w2] at f2
          cases f1
          cases f2
          subst ex
          subst eH
          have al := Alloc.new (o := .tup [v1, v2]) y2 hT
          exact ⟨_, al, .tup (.inl (.inl upd_same)) (.cons (dp_mono (y1.trans al.f) k1) (.cons (dp_mono (y1.trans al.f) k2) .nil))⟩⟩
theorem src_zipL (h : EvA K ta δ [.fr (.list as), .fr (.list bs)] δ1) : SrcJ K (RZ.iZipA K ta) δ (zipD as bs) δ1 :=
  src_zip (t := false) h rfl rfl fun F H E σ e v => ⟨fun h => by
    cases h with
    | lst hs ha => exact ⟨_, _, rfl, ha, .inl ⟨rfl, hs⟩⟩, fun h => by
    cases h with
    | lst hs ha => exact ⟨_, _, rfl, ha, .inl ⟨rfl, hs⟩⟩⟩
theorem src_zipT (h : EvA K ta δ [.fr (.tuple as), .fr (.tuple bs)] δ1) : SrcJ K (RZ.iZipA K ta) δ (zipD as bs) δ1 :=
  src_zip (t := true) h rfl rfl fun F H E σ e v => ⟨fun h => by
    cases h with
    | tup hs ha => exact ⟨_, _, rfl, ha, .inr ⟨rfl, hs⟩⟩, fun h => by
    cases h with
    | tup hs ha => exact ⟨_, _, rfl, ha, .inr ⟨rfl, hs⟩⟩⟩
/-- a comprehension without tests that leaves all as it is, over a family -/
theorem LcRel.maps {α : Type} {g : TG} {te : TE} {vs : List Nat} {δ : List Sl} (a b : α → D) : ∀ {ls : List α}, (∀ x, x ∈ ls → ∃ δb, BindW K g (a x) vs δ δb ∧ EvJ K te δb (.fr (b x)) δb ∧ NoParV δb vs ∧ wipeD δb vs = δ) → LcRel K g tYes te vs (ls.map a) δ (ls.map b) δ
  | [], _ => .nil
  | d :: ds, h => by
    obtain ⟨δb, h1, h2, h3, h4⟩ := h d List.mem_cons_self
    refine .go h1 ⟨SameK.refl _, fun E F H σ Q e q => ?_⟩ h2 h3 ?_
    · exact q F H e Grow.refl
    · rw [h4]
      exact LcRel.maps a b fun d hd => h d (List.mem_cons_of_mem _ hd)
theorem zipD_map {α : Type} (f g : α → D) : ∀ ls : List α, zipD (ls.map f) (ls.map g) = ls.map fun x => .tuple [f x, g x]
  | [] => rfl
  | x :: ls => congrArg (_ :: ·) (zipD_map f g ls)
theorem range_two {α : Type} (h : Nat) (g : Nat → α) : (List.range (h + h)).map g = (List.range h).map g ++ (List.range h).map fun j => g (h + j) := by
  rw [List.range_add, List.map_append, List.map_map]
  rfl
theorem cut_lo {α : Type} (n h : Nat) (g : Nat → D) (hn : n = h + h) : cutD ((List.range n).map g) none (some (h : Int)) = (List.range h).map g := by
  subst hn
  unfold cutD
  rw [HT.sIx_none, HT.sIx_nat, List.length_map, List.length_range, range_two, Nat.min_eq_left (Nat.le_add_right _ _), Nat.sub_zero, List.drop_zero]
  exact List.take_left' (by rw [List.length_map, List.length_range])
theorem cut_hi {α : Type} (n h : Nat) (g : Nat → D) (hn : n = h + h) : cutD ((List.range n).map g) (some (h : Int)) none = (List.range h).map fun j => g (h + j) := by
  subst hn
  unfold cutD
  rw [HT.sIx_none, HT.sIx_nat, List.length_map, List.length_range, range_two, Nat.min_eq_left (Nat.le_add_right _ _), List.drop_left' (by rw [List.length_map, List.length_range])]
  exact List.take_of_length_le (by rw [List.length_map, List.length_range]; omega)
end
/-! ### data that may be compared -/
def Lay (n : Nat) (d : D) : Prop := d.canLay0 = true ∧ d.depth ≤ n
def LayAll (n : Nat) (ds : List D) : Prop := PyData.canLayAll0 ds = true ∧ PyData.depthAll ds ≤ n
theorem Lay.int {n : Nat} {i : Int} : Lay n (.int i) := ⟨rfl, Nat.zero_le n⟩
theorem Lay.bool {n : Nat} {b : Bool} : Lay n (.bool b) := ⟨rfl, Nat.zero_le n⟩
theorem Lay.non {n : Nat} : Lay n .none := ⟨rfl, Nat.zero_le n⟩
theorem LayAll.nil {n : Nat} : LayAll n [] := ⟨rfl, Nat.zero_le n⟩
theorem LayAll.cons {n : Nat} {d : D} {ds : List D} (h : Lay n d) (t : LayAll n ds) : LayAll n (d :: ds) := by
  constructor
  · show (PyData.canLay0 d && PyData.canLayAll0 ds) = true
    rw [h.1, t.1]
    rfl
  · show max (PyData.depth d) (PyData.depthAll ds) ≤ n
    exact Nat.max_le.mpr ⟨h.2, t.2⟩
theorem LayAll.of {n : Nat} : ∀ {ds : List D}, (∀ d ∈ ds, Lay n d) → LayAll n ds
  | [], _ => .nil
  | _ :: _, h => .cons (h _ List.mem_cons_self) (.of fun d hd => h d (List.mem_cons_of_mem _ hd))
theorem Lay.tup {n : Nat} {ds : List D} (h : LayAll n ds) : Lay (n + 1) (.tuple ds) := ⟨h.1, Nat.succ_le_succ h.2⟩
theorem Lay.lst {n : Nat} {ds : List D} (h : LayAll n ds) : Lay (n + 1) (.list ds) := ⟨h.1, Nat.succ_le_succ h.2⟩
theorem Lay.mono {n m : Nat} {d : D} (h : Lay n d) (k : n ≤ m) : Lay m d := ⟨h.1, Nat.le_trans h.2 k⟩
theorem Lay.shaped {n : Nat} {d : D} (h : Lay n d) (k : n ≤ 64 := by decide) : SeqAt.shaped d = true := by
  show (d.canLay0 && decide (d.depth ≤ 64)) = true
  rw [h.1, decide_eq_true (Nat.le_trans h.2 k)]
  rfl
/-- a promise that nobody can ask for -/
theorem cal_void {P : Program} {w : World} {K : PySem.W.Frag} {mg : Str → Option Value} {base : Heap} {x : Str} {st : Stmt} {ps N : List Str} {k : Nat} {C : Con}
    (Df : DefAt K mg x st ps) (S : FnScope N ps (defScope st)) (hC : ∀ args r args', ¬ C args r args') : C8.Cal P w K mg base (k + 1) x (spD K C) [] := by
  obtain ⟨f, fd, F, h1, h2, h3⟩ := Df.ex
  exact ⟨f, fd, ps, [], F.ok S (fun vs H Q E ⟨args, r, args', _, h, _⟩ => absurd h (hC _ _ _)) (fun cdv A outer s H vs Q E hr ⟨args, r, args', _, h, _⟩ => absurd h (hC _ _ _)), h1, h2, h3, .nil⟩
/-- a promise holds of what it holds -/
theorem cal_mono {P : Program} {w : World} {K : PySem.W.Frag} {mg : Str → Option Value} {base : Heap} {x : Str} {k : Nat} {C C' : Con} (c : C8.Cal P w K mg base k x (spD K C) []) (h : ∀ args r args', C' args r args' → C args r args') : C8.Cal P w K mg base k x (spD K C') [] := by
  obtain ⟨f, fd, ps, ds, F, h1, h2, h3, h4⟩ := c.ex
  exact ⟨f, fd, ps, ds, F.imp fun vs H Q E ⟨args, r, args', F, hC, he, q⟩ => ⟨args, r, args', F, h _ _ _ hC, he, q⟩, h1, h2, h3, h4⟩
end DL
/-! The law's own def, at the top: a list of lists whose rows are written to. -/
namespace DL
open PySem PySem.Spec PyProof.Rows L2
theorem dpa_of {K : PySem.W.Frag} {F : Hp} : ∀ {vs : List V} {ds : List D}, vs.length = ds.length → (∀ (j : Nat) (v : V) (d : D), vs[j]? = some v → ds[j]? = some d → Dp K F v d) → DpAll K F vs ds
  | [], [], _, _ => .nil
  | v :: vs, d :: ds, hl, h => .cons (h 0 v d rfl rfl) (dpa_of (by simpa using hl) fun j v d h1 h2 => h (j + 1) v d h1 h2)
  | [], _ :: _, hl, _ => by simp at hl
  | _ :: _, [], hl, _ => by simp at hl
/-- rows that stand apart, each a list of its own -/
structure Grid (K : PySem.W.Frag) (F : Hp) (v : V) (rows : List (List D)) : Prop where
  ex : ∃ (q : Addr) (ps : List Addr), v = .ref q ∧ F q = some (.lst (ps.map V.ref)) ∧ (q :: ps).Nodup ∧ ps.length = rows.length ∧
    ∀ (j : Nat) (p : Addr) (row : List D), ps[j]? = some p → rows[j]? = some row → ∃ vs, F p = some (.lst vs) ∧ DpAll K F vs row
theorem Grid.mono {K : PySem.W.Frag} {F F' : Hp} {v : V} {rows : List (List D)} (e : Ex F F') (g : Grid K F v rows) : Grid K F' v rows := by
  obtain ⟨q, ps, h1, h2, h3, h4, h5⟩ := g.ex
  refine ⟨q, ps, h1, e _ _ h2, h3, h4, fun j p row a b => ?_⟩
  obtain ⟨vs, w1, w2⟩ := h5 j p row a b
  exact ⟨vs, e _ _ w1, dpa_mono e w2⟩
theorem Grid.dp {K : PySem.W.Frag} {F : Hp} {v : V} {rows : List (List D)} (g : Grid K F v rows) : Dp K F v (.list (rows.map .list)) := by
  obtain ⟨q, ps, rfl, h2, h3, h4, h5⟩ := g.ex
  refine .lst (.inl (.inl h2)) (dpa_of (by rw [List.length_map, List.length_map, h4]) fun j v d a b => ?_)
  rw [List.getElem?_map] at a b
  cases e1 : ps[j]? with
  | none =>
    rw [e1] at a
    cases a
  | some p =>
    rw [e1] at a
    cases a
    cases e2 : rows[j]? with
    | none =>
      rw [e2] at b
      cases b
    | some row =>
      rw [e2] at b
      cases b
      obtain ⟨vs, w1, w2⟩ := h5 j p row e1 e2
      exact .lst (.inl (.inl w1)) w2
def EvG (K : PySem.W.Frag) (te : TE) (δ : List Sl) (rows : List (List D)) (δ' : List Sl) : Prop :=
  ∀ (E F H : Hp) (σ : List (Option V)) (Q : VK), EnvOk K E F H δ σ → (∀ v F2 H2, EnvOk K E F2 H2 δ' σ → Grow F H δ σ F2 H2 δ' σ → Grid K F2 v rows → Q v H2) → te σ H Q
/-- an object that no name owns is fixed -/
theorem EnvOk.fix {K : PySem.W.Frag} {E F H : Hp} {δ : List Sl} {σ : List (Option V)} {p : Addr} {vs : List V} (e2 : EnvOk K E F H δ σ) (h3 : F p = none) (h4 : H p = some (.lst vs)) (h6 : ¬ Hot δ σ p) : EnvOk K E (upd F p (.lst vs)) H δ σ := by
  have hF : Ex F (upd F p (.lst vs)) := Ex.new h3
  refine ⟨fun a o ha => ?_, e2.dom, e2.len, fun i d hi => ?_, fun i b o hi => ?_, e2.dj⟩
  · by_cases hp : a = p
    · subst hp
      rw [upd_same] at ha
      cases ha
      exact h4
    · rw [upd_ne hp] at ha
      exact e2.ex a o ha
  · obtain ⟨w, w1, w2⟩ := e2.fr i d hi
    exact ⟨w, w1, dp_mono hF w2⟩
  · obtain ⟨p', ho, w1, w2, w3, w4, w5⟩ := e2.ob i b o hi
    refine ⟨p', ho, w1, ?_, w3, w4.mono hF, w5⟩
    rw [upd_ne fun z => h6 ⟨i, b, o, hi, by rw [← z]; exact w1⟩]
    exact w2
theorem Grow.fix {F H F2 H2 : Hp} {δ δ2 : List Sl} {σ σ2 : List (Option V)} {p : Addr} {o : HO} (g : Grow F H δ σ F2 H2 δ2 σ2) (h3 : F2 p = none) (hp : H p = none) : Grow F H δ σ (upd F2 p o) H2 δ2 σ2 :=
  ⟨g.f.trans (Ex.new h3), fun a ha hn => by
    rw [upd_ne fun z => ha (by rw [z]; exact hp)]
    exact g.k a ha hn, g.h, g.n, g.dm, g.pr⟩
/-- the rows of a comprehension are lists of their own -/
theorem ev_grid {K : PySem.W.Frag} {wi : TI} {g : TG} {te : TE} {vs : List Nat} {ds : List D} {rows : List (List D)} {δ : List Sl} (hs : SrcJ K wi δ ds δ) (hlen : rows.length = ds.length)
    (hl : ∀ (j : Nat) (d : D) (row : List D), ds[j]? = some d → rows[j]? = some row → ∃ δb, BindW K g d vs (wipeD δ vs) δb ∧ EvJ K te δb (.new (.L row)) δb ∧ NoParV δb vs ∧ wipeD δb vs = wipeD δ vs)
    (hp : ∀ i ∈ vs, ∀ b o, δ[i]? ≠ some (.ob b o)) (hz : ds.length ≤ sizeLine) : EvG K (tLc wi g tYes te vs) δ rows δ := fun E F H σ Q e q => hs.2 E F H σ _ e fun J F1 H1 e1 g1 it A hA => by
  have hF1 : F1 A = none := nn_ex e1.ex hA
  have hH0 : H A = none := g1.dm A hA
  have nh1 : ¬ Hot δ σ A := fun z => by
    obtain ⟨_, ho, h2⟩ := e1.hotF z
    rw [hA] at h2
    cases h2
  have al0 : Alloc F1 H1 F1 (upd H1 A (.lst [])) := Alloc.own e1.ex hA
  refine ⟨fun i m H' => m = ds.length - i ∧ ∃ (F' : Hp) (ps : List Addr), EnvOk K E F' H' (wipeD δ vs) (wipe σ vs) ∧ Grow F1 H1 (wipeD δ vs) (wipe σ vs) F' H' (wipeD δ vs) (wipe σ vs) ∧ H' A = some (.lst (ps.map V.ref)) ∧ F' A = none ∧ ¬ Hot (wipeD δ vs) (wipe σ vs) A ∧
    (A :: ps).Nodup ∧ ps.length = i ∧ i ≤ ds.length ∧ ∀ (j : Nat) (p : Addr) (row : List D), ps[j]? = some p → rows[j]? = some row → ∃ vs, F' p = some (.lst vs) ∧ DpAll K F' vs row,
    ⟨_, rfl, F1, [], (al0.env e1).wipe, al0.grow, upd_same, hF1, fun z => nh1 z.wiped, by simp, rfl, Nat.zero_le _, fun j p row h => by simp at h⟩, fun i m H' ⟨hm, F', ps, e', g', hA', hFA, hnh, hnd, hpl, hil, hps⟩ => ?_⟩
  obtain ⟨i1, i2⟩ := it F' H' g'.f e'.ex
  by_cases hi : i < ds.length
  · have hdi : ds[i]? = some ds[i] := List.getElem?_eq_getElem hi
    obtain ⟨go, yl⟩ := i2 i _ hdi
    refine .inr ⟨go, fun H2 => ∃ (F2 : Hp) (ps : List Addr), EnvOk K E F2 H2 (wipeD δ vs) (wipe σ vs) ∧ Grow F1 H1 (wipeD δ vs) (wipe σ vs) F2 H2 (wipeD δ vs) (wipe σ vs) ∧ H2 A = some (.lst (ps.map V.ref)) ∧ F2 A = none ∧ ¬ Hot (wipeD δ vs) (wipe σ vs) A ∧
      (A :: ps).Nodup ∧ ps.length = i + 1 ∧ i + 1 ≤ ds.length ∧ ∀ (j : Nat) (p : Addr) (row : List D), ps[j]? = some p → rows[j]? = some row → ∃ vs, F2 p = some (.lst vs) ∧ DpAll K F2 vs row, fun H2 q2 => ⟨m - 1, by omega, by omega, q2⟩, fun x H'' hy => ?_⟩
    obtain ⟨F'', al, hx⟩ := yl x H'' hy
    have ea := al.env e'
    have ga : Grow F1 H1 (wipeD δ vs) (wipe σ vs) F'' H'' (wipeD δ vs) (wipe σ vs) := g'.trans al.grow
    have hAA : H'' A = some (.lst (ps.map V.ref)) := al.h A _ hA'
    have hFAA : F'' A = none := by rw [al.k A (by rw [hA']; exact fun z => nomatch z)]; exact hFA
    have keepA : ∀ {Fa Ha Fb Hb : Hp} {δa δb : List Sl} {σa σb : List (Option V)}, Grow Fa Ha δa σa Fb Hb δb σb → Ha A = some (.lst (ps.map V.ref)) → Fa A = none → ¬ Hot δa σa A → Hb A = some (.lst (ps.map V.ref)) ∧ Fb A = none ∧ ¬ Hot δb σb A := fun {Fa Ha Fb Hb δa δb σa σb} G h1 h2 h3 => by
      refine ⟨G.h A _ h1 h3, ?_, fun z => ?_⟩
      · rw [G.k A (by rw [h1]; exact fun z => nomatch z) h3]
        exact h2
      · rcases G.n A z with q | q
        · exact h3 q
        · rw [h1] at q
          cases q
    have hri : rows[i]? = some rows[i] := List.getElem?_eq_getElem (by omega)
    obtain ⟨δb, hb, he, hnp, hw2⟩ := hl i _ _ hdi hri
    refine hb.2 E F'' H'' (wipe σ vs) x _ ea hx fun σ2 e2 g2 hw => ⟨hw.trans wipe_wipe, ?_⟩
    have ww : wipe σ2 vs = wipe σ vs := hw.trans wipe_wipe
    refine he.2 E F'' H'' σ2 _ e2 fun v F4 H4 e4 g4 h4 f4 => ?_
    obtain ⟨a1, a2, a3⟩ := keepA g2 hAA hFAA hnh
    obtain ⟨c1, c2, c3⟩ := keepA g4 a1 a2 a3
    obtain ⟨p, ho, rfl, k1, k2, ⟨us, rfl, k3⟩, k4⟩ := h4
    have hp0 : H'' p = none := f4 p rfl
    have pA : p ≠ A := fun z => by
      rw [z, hAA] at hp0
      cases hp0
    have hpp : ∀ p' ∈ ps, p' ≠ p := fun p' hp' z => by
      obtain ⟨j, hj⟩ := List.mem_iff_getElem?.mp hp'
      have hjl : j < rows.length := by
        have := (List.getElem?_eq_some_iff.mp hj).1
        omega
      obtain ⟨us', w1, _⟩ := hps j p' _ hj (List.getElem?_eq_getElem hjl)
      have := e'.ex _ _ w1
      have := al.h _ _ this
      rw [z, hp0] at this
      cases this
    -- the row is fixed, the list is written to
    have e5 := (e4.fix (vs := us) k1 k2 k4).poke (p := A) (ho := .lst (ps.map V.ref ++ [.ref p])) (by rw [upd_ne (Ne.symm pA)]; exact c2) c3 (by rw [c1]; exact fun z => nomatch z)
    have hp1 : H1 p = none := ga.dm p hp0
    have G : Grow F1 H1 (wipeD δ vs) (wipe σ vs) (upd F4 p (.lst us)) (upd H4 A (.lst (ps.map V.ref ++ [.ref p]))) (wipeD δ vs) (wipe σ vs) := by
      have G0 : Grow F1 H1 (wipeD δ vs) (wipe σ vs) F4 H4 (wipeD δb vs) (wipe σ2 vs) := ((ga.trans g2).trans g4).trans (Grow.wipe hnp)
      rw [ww, hw2] at G0
      exact (G0.fix k1 hp1).poke hA
    refine ⟨ps.map V.ref, c1, by rw [List.length_map]; omega, upd F4 p (.lst us), ps ++ [p], ?_, G, ?_, ?_, hnh, ?_, by rw [List.length_append, List.length_singleton]; omega, by omega, fun j p' row hj hr => ?_⟩
    · have e6 := e5.wipe (vs := vs)
      rw [ww, hw2] at e6
      exact e6
    · rw [upd_same, List.map_append]
      rfl
    · rw [upd_ne (Ne.symm pA)]
      exact c2
    · rw [List.nodup_cons] at hnd ⊢
      rw [List.nodup_append]
      refine ⟨fun z => ?_, hnd.2, by simp, fun a ha b hb => ?_⟩
      · rcases List.mem_append.mp z with z | z
        · exact hnd.1 z
        · exact pA (List.mem_singleton.mp z).symm
      · rw [List.mem_singleton.mp hb]
        exact hpp a ha
    · have f24 : Ex F' F4 := al.f.trans (g2.f.trans g4.f)
      have hF4 : Ex F4 (upd F4 p (.lst us)) := Ex.new k1
      by_cases hji : j < ps.length
      · rw [List.getElem?_append_left hji] at hj
        obtain ⟨us', w1, w2⟩ := hps j p' row hj hr
        refine ⟨us', ?_, dpa_mono (f24.trans hF4) w2⟩
        rw [upd_ne (hpp p' (List.mem_of_getElem? hj))]
        exact f24 _ _ w1
      · rw [List.getElem?_append_right (by omega)] at hj
        have ej : j = i := by
          have := (List.getElem?_eq_some_iff.mp hj).1
          rw [List.length_singleton] at this
          omega
        subst ej
        rw [show j - ps.length = 0 by omega] at hj
        cases hj
        rw [hri] at hr
        cases hr
        exact ⟨us, upd_same, dpa_mono hF4 k3⟩
  · refine .inl ⟨i1 i (by omega), ?_⟩
    have hot : ∀ {a : Addr}, Hot δ σ a → Hot (wipeD δ vs) (wipe σ vs) a := fun {a} ⟨j, b, o, h1, h2⟩ => by
      have hj : j ∉ vs := fun z => hp j z b o h1
      exact ⟨j, b, o, by rw [wipeD_ne hj]; exact h1, by rw [wipe_ne hj]; exact h2⟩
    have E2 : EnvOk K E F' H' δ σ := by
      refine ⟨e'.ex, e'.dom, e1.len, fun j d hj => ?_, fun j b o hj => ?_, e1.dj⟩
      · obtain ⟨v, w1, w2⟩ := e1.fr j d hj
        exact ⟨v, w1, dp_mono g'.f w2⟩
      · have hjv : j ∉ vs := fun z => hp j z b o hj
        obtain ⟨p, ho, w1, w2⟩ := e'.ob j b o (by rw [wipeD_ne hjv]; exact hj)
        rw [wipe_ne hjv] at w1
        exact ⟨p, ho, w1, w2⟩
    have nA : ¬ Hot δ σ A := fun z => hnh (hot z)
    have G2 : Grow F1 H1 δ σ F' H' δ σ := ⟨g'.f, fun a h1 h2 => g'.k a h1 fun z => h2 z.wiped, fun a o h1 h2 => g'.h a o h1 fun z => h2 z.wiped, fun a z => .inl z, g'.dm, fun j o hj => ⟨⟨o, hj⟩, rfl⟩⟩
    have hFx : Ex F' (upd F' A (.lst (ps.map V.ref))) := Ex.new hFA
    refine q _ _ H' (E2.fix hFA hA' nA) ((g1.trans G2).fix hFA hH0) ⟨A, ps, rfl, upd_same, hnd, by omega, fun j p row h1 h2 => ?_⟩
    obtain ⟨us, w1, w2⟩ := hps j p row h1 h2
    exact ⟨us, hFx _ _ w1, dpa_mono hFx w2⟩
/-! ### data without lists but of ints -/
def isI : D → Bool
  | .int _ => true
  | _ => false
mutual
def thin : D → Bool
  | .list ds => ds.all isI
  | .tuple ds => thins ds
  | _ => true
def thins : List D → Bool
  | [] => true
  | d :: ds => thin d && thins ds
end
def thinO : O → Bool
  | .L ds => thins ds
  | .K kvs => kvs.all fun kv => thin kv.2
theorem dpa_ints {K : PySem.W.Frag} {F : Hp} : ∀ {vs : List V} {ds : List D}, (ds.all isI) = true → DpAll K F vs ds → ∀ v ∈ vs, ∃ i, v = .int i
  | _, _, _, .nil => fun v h => nomatch h
  | _ :: _, _ :: _, h, .cons r t => by
    rw [List.all_cons, Bool.and_eq_true] at h
    intro x hx
    rcases List.mem_cons.mp hx with rfl | hx
    · cases r with
      | int i => exact ⟨i, rfl⟩
      | non => cases h.1
      | bl b => cases h.1
      | str s => cases h.1
      | lst _ _ => cases h.1
      | tup _ _ => cases h.1
    · exact dpa_ints h.2 t x hx
theorem dpa_ints' {K : PySem.W.Frag} {F F' : Hp} : ∀ {vs : List V} {ds : List D}, (ds.all isI) = true → DpAll K F vs ds → DpAll K F' vs ds
  | _, _, _, .nil => .nil
  | _ :: _, _ :: _, h, .cons r t => by
    rw [List.all_cons, Bool.and_eq_true] at h
    refine .cons ?_ (dpa_ints' h.2 t)
    cases r with
    | int i => exact .int i
    | non => cases h.1
    | bl b => cases h.1
    | str s => cases h.1
    | lst _ _ => cases h.1
    | tup _ _ => cases h.1
/-- a row that holds an address may change: no thin datum saw it -/
structure Aside (F : Hp) (p : Addr) : Prop where
  ex : ∃ (vs : List V) (a : Addr), F p = some (.lst vs) ∧ V.ref a ∈ vs
theorem Aside.rd_t {F : Hp} {p a : Addr} {xs : List V} {o : HO} (s : Aside F p) (h : Rd F a (.tup xs)) : Rd (upd F p o) a (.tup xs) := by
  obtain ⟨vs, b, h1, _⟩ := s.ex
  rcases h with h | ⟨u, h⟩
  · by_cases e : a = p
    · subst e
      rw [h1] at h
      cases h
    · exact .inl (by rw [upd_ne e]; exact h)
  · by_cases e : a = p
    · subst e
      rw [h1] at h
      cases h
    · exact .inr ⟨u, by rw [upd_ne e]; exact h⟩
mutual
theorem dp_aside {K : PySem.W.Frag} {F : Hp} {p : Addr} {o : HO} (s : Aside F p) : ∀ {d : D} {v : V}, thin d = true → Dp K F v d → Dp K (upd F p o) v d
  | _, _, _, .non => .non
  | _, _, _, .bl b => .bl b
  | _, _, _, .int i => .int i
  | _, _, _, .str x => .str x
  | _, _, h, .lst (a := a) (xs := xs) hs ha => by
    have h' : List.all _ isI = true := h
    refine .lst ?_ (dpa_ints' h' ha)
    rcases hs with hs | hs
    · refine .inl ?_
      obtain ⟨vs, b, h1, h2⟩ := s.ex
      rcases hs with hs | ⟨u, hs⟩
      · by_cases e : a = p
        · subst e
          rw [h1] at hs
          cases hs
          obtain ⟨i, hi⟩ := dpa_ints h' ha _ h2
          cases hi
        · exact .inl (by rw [upd_ne e]; exact hs)
      · by_cases e : a = p
        · subst e
          rw [h1] at hs
          cases hs
        · exact .inr ⟨u, by rw [upd_ne e]; exact hs⟩
    · exact .inr hs
  | _, _, h, .tup hs ha => by
    refine .tup ?_ (dpa_aside s (by exact h) ha)
    rcases hs with hs | hs
    · exact .inl (s.rd_t hs)
    · exact .inr hs
theorem dpa_aside {K : PySem.W.Frag} {F : Hp} {p : Addr} {o : HO} (s : Aside F p) : ∀ {ds : List D} {vs : List V}, thins ds = true → DpAll K F vs ds → DpAll K (upd F p o) vs ds
  | _, _, _, .nil => .nil
  | _, _, h, .cons r t => by
    have h' : (thin _ && thins _) = true := h
    rw [Bool.and_eq_true] at h'
    exact .cons (dp_aside s h'.1 r) (dpa_aside s h'.2 t)
end
theorem kd_aside {K : PySem.W.Frag} {F : Hp} {p : Addr} {o : HO} {κ : Type} (s : Aside F p) : ∀ {ws : List (κ × V)} {kvs : List (κ × D)}, (kvs.all fun kv => thin kv.2) = true → KD K F ws kvs → KD K (upd F p o) ws kvs
  | _, _, _, .nil => .nil
  | _, _, h, .cons r t => by
    rw [List.all_cons, Bool.and_eq_true] at h
    exact .cons (dp_aside s h.1 r) (kd_aside s h.2 t)
theorem repo_aside {K : PySem.W.Frag} {F : Hp} {p : Addr} {o : HO} (s : Aside F p) : ∀ {u : O} {ho : HO}, thinO u = true → RepO K F u ho → RepO K (upd F p o) u ho
  | .L _, _, h, ⟨vs, e, a⟩ => ⟨vs, e, dpa_aside s h a⟩
  | .K _, _, h, ⟨ws, e, n, a⟩ => ⟨ws, e, n, kd_aside s h a⟩
theorem thins_get : ∀ {ds : List D} {d : D}, thins ds = true → d ∈ ds → thin d = true
  | d' :: ds, d, h, hd => by
    have h' : (thin d' && thins ds) = true := h
    rw [Bool.and_eq_true] at h'
    rcases List.mem_cons.mp hd with rfl | hd
    · exact h'.1
    · exact thins_get h'.2 hd
/-! ### the top -/
abbrev Pst := List Sl → List (List D) → Prop
/-- what is told of the law's own body: it gives True, or goes on under P -/
def TopJ (K : PySem.W.Frag) (t : TS) (c : Nat) (δ : List Sl) (rows : List (List D)) (P : Pst) : Prop :=
  ∀ (E F H : Hp) (σ : List (Option V)) (D : Ends) (v : V), EnvOk K E F H δ σ → σ[c]? = some (some v) → Grid K F v rows → (∀ H', D.rt (.bl true) H') →
    (∀ δ' rows' F' H' σ' v', P δ' rows' → EnvOk K E F' H' δ' σ' → σ'[c]? = some (some v') → Grid K F' v' rows' → D.nx σ' H') → t D σ H
/-- .. ahead of the rows -/
def WJ (K : PySem.W.Frag) (t : TS) (δ : List Sl) : Prop := ∀ (E F H : Hp) (σ : List (Option V)) (D : Ends), EnvOk K E F H δ σ → (∀ H', D.rt (.bl true) H') → t D σ H
def Never : Pst := fun _ _ => False
section
variable {K : PySem.W.Frag} {δ δ1 : List Sl} {rows : List (List D)} {P : Pst} {t u w : TS} {te : TE} {c i : Nat} {d : D}
theorem w_st (h : StJ K t δ (.nx δ1)) (k : WJ K u δ1) : WJ K (tSeq t u) δ := fun E F H σ D e q => h E F H σ _ e fun σ' F2 H2 e2 _ => k E F2 H2 σ' D e2 q
theorem w_set (h : EvJ K te δ (.fr d) δ1) (hp : NoPar δ1 i) (k : WJ K u (δ1.set i (.fr d))) : WJ K (tSeq (tAsg te (gName i)) u) δ := w_st (st_set h hp) k
theorem w_ret {r : R} (h : EvJ K te δ (.fr (.bool true)) δ1) : WJ K (tRet te) δ := fun E F H σ D e q => h.2 E F H σ _ e fun v F2 H2 _ _ h2 _ => by
  cases h2
  exact q _
theorem w_grid (h : EvG K te δ rows δ1) (hc : c < δ1.length) (k : TopJ K u c (δ1.set c (.fr (.list (rows.map .list)))) rows Never) : WJ K (tSeq (tAsg te (gName c)) u) δ := fun E F H σ D e q =>
  h E F H σ _ e fun v F2 H2 e2 _ g => k E F2 H2 (σ.set c (some v)) D v (e2.set_fr g.dp) (List.getElem?_set_self (by rw [e2.len]; exact hc)) g q fun _ _ _ _ _ _ z => z.elim
theorem top_set (h : EvJ K te δ (.fr d) δ1) (hp : NoPar δ1 i) (hi : i ≠ c) (k : TopJ K u c (δ1.set i (.fr d)) rows P) : TopJ K (tSeq (tAsg te (gName i)) u) c δ rows P := fun E F H σ D v e hc g q n =>
  h.2 E F H σ _ e fun x F2 H2 e2 g2 h2 _ => k E F2 H2 (σ.set i (some x)) D v (e2.set_fr h2) (by rw [List.getElem?_set_ne hi]; exact hc) (g.mono g2.f) q n
theorem top_set1 (h : EvJ K te δ (.fr d) δ1) (hp : NoPar δ1 i) (hi : i ≠ c) (k : P (δ1.set i (.fr d)) rows) : TopJ K (tAsg te (gName i)) c δ rows P := fun E F H σ D v e hc g q n =>
  h.2 E F H σ _ e fun x F2 H2 e2 g2 h2 _ => n _ _ F2 H2 (σ.set i (some x)) v k (e2.set_fr h2) (by rw [List.getElem?_set_ne hi]; exact hc) (g.mono g2.f)
theorem top_if {b : Bool} {tt : TT} (h : TtJ K tt δ b δ1) (h1 : b = true → TopJ K (tSeq t w) c δ1 rows P) (h2 : b = false → TopJ K (tSeq u w) c δ1 rows P) : TopJ K (tSeq (tIfS tt t u) w) c δ rows P := fun E F H σ D v e hc g q n =>
  h.2 E F H σ _ e fun F2 H2 e2 g2 => by
    cases b with
    | true =>
      rw [if_pos rfl]
      exact h1 rfl E F2 H2 σ D v e2 hc (g.mono g2.f) q n
    | false =>
      rw [if_neg Bool.false_ne_true]
      exact h2 rfl E F2 H2 σ D v e2 hc (g.mono g2.f) q n
theorem top_next (k : TopJ K u c δ rows P) : TopJ K (tSeq tNext u) c δ rows P := fun E F H σ D v e hc g q n => k E F H σ D v e hc g q n
theorem top_ret (h : EvJ K te δ (.fr (.bool true)) δ1) : TopJ K (tRet te) c δ rows P := fun E F H σ D v e hc g q n => h.2 E F H σ _ e fun v F2 H2 _ _ h2 _ => by
  cases h2
  exact q _
/-- for x in range(n) -/
theorem top_for {ta : TA} {n : Int} {x : Nat} (P0 : Nat → Pst) (h : EvA K ta δ [.fr (.int n)] δ1) (h1 : -(2 ^ 62) ≤ n) (h2 : n < 2 ^ 62) (h0 : P0 0 δ1 rows) (hx : x ≠ c)
    (hs : ∀ i δ' rows', i < n.toNat → P0 i δ' rows' → NoPar δ' x ∧ TopJ K t c (δ'.set x (.fr (.int (0 + (i : Int))))) rows' (P0 (i + 1)))
    (he : ∀ δ' rows', P0 n.toNat δ' rows' → TopJ K u c δ' rows' P) : TopJ K (tSeq (tFor (iRng1 ta) (gName x) t) u) c δ rows P := fun E F H σ D v e hc g q nx =>
  h.2 E F H σ _ e fun vs F1 H1 e1 g1 hr _ => by
    cases hr with
    | cons r1 r2 _ =>
      cases r2
      cases r1
      refine ⟨n, rfl, h1, h2, fun i m σ' H' => m = n.toNat - i ∧ i ≤ n.toNat ∧ ∃ F' δ' rows' v', P0 i δ' rows' ∧ EnvOk K E F' H' δ' σ' ∧ σ'[c]? = some (some v') ∧ Grid K F' v' rows', ⟨_, rfl, Nat.zero_le _, F1, δ1, rows, v, h0, e1, hc, g.mono g1.f⟩, fun i m σ' H' ⟨hm, hi, F', δ', rows', v', p', e', hc', g'⟩ => ?_⟩
      by_cases hl : i < n.toNat
      · obtain ⟨s1, s2⟩ := hs i δ' rows' hl p'
        refine .inr ⟨hl, fun σ2 H2 => i + 1 ≤ n.toNat ∧ ∃ F' δ' rows' v', P0 (i + 1) δ' rows' ∧ EnvOk K E F' H2 δ' σ2 ∧ σ2[c]? = some (some v') ∧ Grid K F' v' rows', fun σ2 H2 hN => ⟨m - 1, by omega, by omega, hN⟩, fun y H'' ⟨eH, ey⟩ => ?_⟩
        subst eH
        subst ey
        exact s2 E F' H'' _ _ v' (e'.set_fr (.int _)) (by rw [List.getElem?_set_ne hx]; exact hc') g' q fun δ2 rows2 F2 H2 σ2 v2 p2 e2 c2 g2 => ⟨by omega, F2, δ2, rows2, v2, p2, e2, c2, g2⟩
      · have ei : i = n.toNat := by omega
        subst ei
        exact .inl ⟨Nat.le_refl _, he δ' rows' p' E F' H' σ' D v' e' hc' g' q nx⟩
/-- row = rows[j]; row[i] = d -/
theorem top_mut {jx ix s r j i : Nat} {row : List D} {d : D} (hj : δ[jx]? = some (.fr (.int (j : Int)))) (hi : δ[ix]? = some (.fr (.int (i : Int)))) (hd : δ[s]? = some (.fr d)) (hrow : rows[j]? = some row) (hil : i < row.length)
    (rc : r ≠ c) (rj : r ≠ jx) (ri : r ≠ ix) (rs : r ≠ s) (sc : s ≠ c) (hr : r < δ.length) (hcl : c < δ.length) (nr : NoPar δ r) (nc : NoPar δ c) (hne : ∃ ts, PyData.tuple ts ∈ row)
    (ht : ∀ k d, k ≠ c → k ≠ r → δ[k]? = some (.fr d) → thin d = true) (hto : ∀ k b o, k ≠ c → k ≠ r → δ[k]? = some (.ob b o) → thinO o = true) (htr : ∀ row ∈ rows, thins row = true)
    (k : TopJ K u c ((δ.set r .no).set c (.fr (.list ((rows.set j (row.set i d)).map .list)))) (rows.set j (row.set i d)) P) :
    TopJ K (tSeq (tAsg (tOp (rIx K) (tVar c) (tVar jx)) (gName r)) (tSeq (tAsg (tVar s) (gSub (tVar r) (tVar ix) rSetL)) u)) c δ rows P := fun E F H σ D v e hc g q n => by
  obtain ⟨a, ps, rfl, g2, g3, g4, g5⟩ := g.ex
  have hjl : j < ps.length := by
    have := (List.getElem?_eq_some_iff.mp hrow).1
    omega
  obtain ⟨vs, w1, w2⟩ := g5 j ps[j] row (List.getElem?_eq_getElem hjl) hrow
  generalize hp : ps[j] = p at *
  have hpj : ps[j]? = some p := by rw [← hp]; exact List.getElem?_eq_getElem hjl
  obtain ⟨x, x1, x2⟩ := e.fr _ _ hj
  cases x2
  obtain ⟨y, y1, y2⟩ := e.fr _ _ hi
  cases y2
  obtain ⟨z, z1, z2⟩ := e.fr _ _ hd
  have hrl : r < σ.length := by rw [e.len]; exact hr
  have hpF : H p = some (.lst vs) := e.ex _ _ w1
  have hrr : (σ.set r (some (.ref p)))[r]? = some (some (.ref p)) := List.getElem?_set_self hrl
  have aside : Aside F p := by
    obtain ⟨ts, hts⟩ := hne
    obtain ⟨m, hm⟩ := List.mem_iff_getElem?.mp hts
    obtain ⟨b, b1, b2⟩ := w2.get hm
    cases b2 with
    | @tup b0 _ _ _ _ => exact ⟨vs, _, w1, List.mem_of_getElem? b1⟩
  have hpa : a ≠ p := fun z => (List.nodup_cons.mp g3).1 (by rw [z]; exact List.mem_of_getElem? hpj)
  have nhp : ¬ Hot δ σ p := fun z => by
    have := (e.hotF z).1
    rw [w1] at this
    cases this
  have hz2 : Dp K (upd F p (.lst (vs.set i z))) z d := dp_aside aside (ht s d sc rs.symm hd) z2
  have hF2 : (upd F p (.lst (vs.set i z))) p = some (.lst (vs.set i z)) := upd_same
  have hrow' : row.length = vs.length := w2.length.symm
  have g' : Grid K (upd F p (.lst (vs.set i z))) (.ref a) (rows.set j (row.set i d)) := by
    refine ⟨a, ps, rfl, by rw [upd_ne hpa]; exact g2, g3, by rw [List.length_set]; exact g4, fun j' p' row' q1 q2 => ?_⟩
    by_cases ej : j' = j
    · subst ej
      rw [List.getElem?_set_self (by omega)] at q2
      cases q2
      rw [hpj] at q1
      cases q1
      exact ⟨_, upd_same, (dpa_aside aside (htr row (List.mem_of_getElem? hrow)) w2).set hz2 i⟩
    · rw [List.getElem?_set_ne (Ne.symm ej)] at q2
      obtain ⟨us, u1, u2⟩ := g5 j' p' row' q1 q2
      have hpp : p' ≠ p := fun z => ej (by
        subst z
        have nd := (List.nodup_cons.mp g3).2
        exact (List.getElem?_inj (List.getElem?_eq_some_iff.mp q1).1 nd).mp (by rw [q1, hpj]))
      exact ⟨us, by rw [upd_ne hpp]; exact u1, dpa_aside aside (htr row' (List.mem_of_getElem? q2)) u2⟩
  have e' : EnvOk K E (upd F p (.lst (vs.set i z))) (upd H p (.lst (vs.set i z))) ((δ.set r .no).set c (.fr (.list ((rows.set j (row.set i d)).map .list)))) (σ.set r (some (.ref p))) := by
    refine ⟨fun b o h => ?_, fun b h => ?_, by rw [List.length_set, List.length_set, List.length_set]; exact e.len, fun k d' hk => ?_, fun k b o hk => ?_, fun k k' b o b' o' q hk hk' h1 h2 => ?_⟩
    · by_cases eb : b = p
      · subst eb
        rw [upd_same] at h ⊢
        exact h
      · rw [upd_ne eb] at h ⊢
        exact e.ex b o h
    · by_cases eb : b = p
      · subst eb
        rw [upd_same] at h
        cases h
      · rw [upd_ne eb] at h
        exact e.dom b h
    · rcases getset hk with ⟨ek, e1, _⟩ | ⟨nk, hk⟩
      · cases e1
        rw [ek]
        exact ⟨_, by rw [List.getElem?_set_ne rc]; exact hc, g'.dp⟩
      · rcases getset hk with ⟨_, e1, _⟩ | ⟨nk', hk⟩
        · cases e1
        · obtain ⟨u, u1, u2⟩ := e.fr k d' hk
          exact ⟨u, by rw [List.getElem?_set_ne (Ne.symm nk')]; exact u1, dp_aside aside (ht k d' nk nk' hk) u2⟩
    · rcases getset hk with ⟨_, e1, _⟩ | ⟨nk, hk⟩
      · cases e1
      · rcases getset hk with ⟨_, e1, _⟩ | ⟨nk', hk⟩
        · cases e1
        · obtain ⟨u, ho, u1, u2, u3, u4, u5⟩ := e.ob k b o hk
          have up : u ≠ p := fun z => by
            rw [z, w1] at u2
            cases u2
          exact ⟨u, ho, by rw [List.getElem?_set_ne (Ne.symm nk')]; exact u1, by rw [upd_ne up]; exact u2, by rw [upd_ne up]; exact u3, repo_aside aside (hto k b o nk nk' hk) u4, u5⟩
    · rcases getset hk with ⟨_, e1, _⟩ | ⟨nk, hk⟩
      · cases e1
      · rcases getset hk with ⟨_, e1, _⟩ | ⟨nk', hk⟩
        · cases e1
        · rcases getset hk' with ⟨_, e1, _⟩ | ⟨mk, hk'⟩
          · cases e1
          · rcases getset hk' with ⟨_, e1, _⟩ | ⟨mk', hk'⟩
            · cases e1
            · rw [List.getElem?_set_ne (Ne.symm nk')] at h1
              rw [List.getElem?_set_ne (Ne.symm mk')] at h2
              exact e.dj k k' b o b' o' q hk hk' h1 h2
  refine ⟨_, hc, _, x1, .inl ⟨a, ps.map V.ref, (j : Int), .ref p, rfl, rfl, .inl (.inl (e.ex _ _ g2)), atI_nat (by rw [List.getElem?_map, hpj]; rfl), ?_⟩⟩
  refine ⟨z, by rw [List.getElem?_set_ne rs]; exact z1, .ref p, hrr, .int (i : Int), by rw [List.getElem?_set_ne ri]; exact y1, p, vs, (i : Int), i, rfl, rfl, hpF, ?_, ?_⟩
  · unfold ixN
    rw [if_pos (by omega), if_pos (by omega), Int.toNat_natCast]
  · exact k E _ _ _ D _ e' (by rw [List.getElem?_set_ne rc]; exact hc) g' q n
end
/-! ### the law's own def -/
def spL (K : PySem.W.Frag) : Sp := fun vs H Q _ => ∃ (a : Addr) (ns : List Int), vs = [.ref a] ∧ SqL K H a (ns.map V.int) ∧ ns.length ≤ 63 ∧ ∀ H', Q (.bl true) H'
theorem env0 {K : PySem.W.Frag} {H : Hp} {a : Addr} {ns : List Int} (hS : SqL K H a (ns.map V.int)) : EnvOk K H H H [.fr (.list (ns.map .int))] ([V.ref a].map some) := by
  refine ⟨Ex.refl H, fun _ z => z, rfl, fun i d e => ?_, fun i b o e => ?_, fun i j b o b' o' p e => ?_⟩
  · match i, e with
    | 0, e =>
      cases e
      exact ⟨_, rfl, .lst hS (ints_dp ns)⟩
    | i + 1, e => cases e
  · match i, e with
    | 0, e => cases e
    | i + 1, e => cases e
  · match i, e with
    | 0, e => cases e
    | i + 1, e => cases e
theorem fnW {P : Program} {w : World} {K : PySem.W.Frag} {mg : Str → Option Value} {base : Heap} {x y : Str} {st : Stmt} {f : Addr} {fd : FuncData} {N : List Str} {k m : Nat}
    (F : Fun K x x st f fd) (S : FnScope N [y] (defScope st)) (hm : m = N.length - 1)
    (hbody : ∀ (cdv : Value) (A : Around) (outer : List Env) (s : Shared) (H : Hp) (E : XK), Room k (A.deeper (envOfC x (defScope st) s.heap.objs.size f cdv)) →
      ∃ t, PSs (cxOf CX0 P w K mg base N x (defScope st) f cdv A outer s H E).nox (defBody st) t ∧ ∀ ns : List Int, ns.length ≤ 63 → WJ K t (.fr (.list (ns.map .int)) :: List.replicate m .no)) : FnOk P w K mg base CX0 (k + 1) f fd [y] (spL K) := by
  refine F.ok S (fun vs H Q E ⟨a, ns, h, _⟩ => by rw [h]; rfl) (fun cdv A outer s H vs Q E hr h => ?_)
  obtain ⟨a, ns, rfl, hS, hl, hq⟩ := h
  obtain ⟨t, ht, hb⟩ := hbody cdv A outer s H E hr
  refine ⟨t, ht, ?_⟩
  rw [start_eq (ps := [y]) hm rfl]
  exact hb ns hl H H H _ _ (env0 hS).extend hq
end DL
namespace DL
open PySem PySem.Spec PyProof.Rows L2
def topS (i : Nat) : Stmt := PySem.Challenge.pw_inkplane_k30_trees_of_squares.main.body.getD i (.Pass ⟨0, 0, 0, 0⟩)
structure Blt (mg : Str → Option Value) : Prop where
  QUARTERS_ : ∃ u, mg "QUARTERS" = some u ∧ RelV (.int 4) u
  abs_ : mg "abs" = none
  all_ : mg "all" = none
  bool_ : mg "bool" = none
  int_ : mg "int" = none
  isinstance_ : mg "isinstance" = none
  len_ : mg "len" = none
  list_ : mg "list" = none
  range_ : mg "range" = none
  sum_ : mg "sum" = none
  tuple_ : mg "tuple" = none
  zip_ : mg "zip" = none

/-! ### trees -/
inductive Q where
  | c (p q : Int)
  | n (a b c d : Q)
  deriving DecidableEq
def qD : Q → D
  | .c p q => .tuple [.tuple [.int p, .int q], .tuple [.int 1, .int 2], .tuple [.int 0, .int 1]]
  | .n a b c d => .tuple [qD a, qD b, qD c, qD d]
def qL : Q → List D
  | .c p q => [.tuple [.int p, .int q], .tuple [.int 1, .int 2], .tuple [.int 0, .int 1]]
  | .n a b c d => [qD a, qD b, qD c, qD d]
theorem qD_eq (t : Q) : qD t = .tuple (qL t) := by cases t <;> rfl
def isC : Q → Bool
  | .c _ _ => true
  | .n _ _ _ _ => false
def kids : Q → List Q
  | .c p q => [.c p q, .c p q, .c p q, .c p q]
  | .n a b c d => [a, b, c, d]
def grow (a b c d : Q) : Q := if isC a && (decide (b = a) && (decide (c = a) && decide (d = a))) then a else .n a b c d
theorem kids_grow (a b c d : Q) : kids (grow a b c d) = [a, b, c, d] := by
  unfold grow
  split
  · rename_i h
    simp only [Bool.and_eq_true, decide_eq_true_eq] at h
    obtain ⟨h0, h1, h2, h3⟩ := h
    rw [h1, h2, h3]
    cases a with
    | c p q => rfl
    | n _ _ _ _ => cases h0
  · rfl
theorem eqv_q : ∀ a b : Q, PyData.eqv (qD a) (qD b) = decide (a = b)
  | .c p q, .c p' q' => by
    show (((p == p') && ((q == q') && true)) && (((1 : Int) == 1 && ((2 : Int) == 2 && true)) && (((0 : Int) == 0 && ((1 : Int) == 1 && true)) && true))) = _
    by_cases h1 : p = p'
    · by_cases h2 : q = q'
      · subst h1 h2
        simp
      · simp [h2]
    · simp [h1]
  | .c p q, .n a b c d => by
    show (PyData.eqv _ (qD a) && (PyData.eqv _ (qD b) && (PyData.eqv _ (qD c) && false))) = _
    simp
  | .n a b c d, .c p q => by
    show (PyData.eqv (qD a) _ && (PyData.eqv (qD b) _ && (PyData.eqv (qD c) _ && false))) = _
    simp
  | .n a b c d, .n a' b' c' d' => by
    show (PyData.eqv (qD a) (qD a') && (PyData.eqv (qD b) (qD b') && (PyData.eqv (qD c) (qD c') && (PyData.eqv (qD d) (qD d') && true)))) = _
    rw [eqv_q a a', eqv_q b b', eqv_q c c', eqv_q d d']
    simp [Bool.decide_and]
/-! ### pictures, as rows of places -/
abbrev Pic := Nat → Nat → Q
def tree : Nat → Pic → Q
  | 0, f => f 0 0
  | m + 1, f => grow (tree m f) (tree m fun j i => f j (2 ^ m + i)) (tree m fun j i => f (2 ^ m + j) i) (tree m fun j i => f (2 ^ m + j) (2 ^ m + i))
def kid (t : Q) (i : Nat) : Q := (kids t).getD i t
/-- the colour at a place -/
def look : Nat → Q → Nat → Nat → Q
  | 0, t, _, _ => t
  | k + 1, t, j, i =>
    if j < 2 ^ k then (if i < 2 ^ k then look k (kid t 0) j i else look k (kid t 1) j (i - 2 ^ k))
    else if i < 2 ^ k then look k (kid t 2) (j - 2 ^ k) i else look k (kid t 3) (j - 2 ^ k) (i - 2 ^ k)
theorem look_tree : ∀ (k : Nat) (f : Pic) (j i : Nat), j < 2 ^ k → i < 2 ^ k → look k (tree k f) j i = f j i
  | 0, f, j, i, hj, hi => by
    have e1 : j = 0 := by omega
    have e2 : i = 0 := by omega
    subst e1 e2
    rfl
  | k + 1, f, j, i, hj, hi => by
    rw [Nat.pow_succ] at hj hi
    unfold look tree kid
    rw [kids_grow]
    by_cases h1 : j < 2 ^ k
    · rw [if_pos h1]
      by_cases h2 : i < 2 ^ k
      · rw [if_pos h2]
        exact look_tree k _ j i h1 h2
      · rw [if_neg h2]
        show look k (tree k fun j i => f j (2 ^ k + i)) j (i - 2 ^ k) = _
        rw [look_tree k _ j _ h1 (by omega), show 2 ^ k + (i - 2 ^ k) = i by omega]
    · rw [if_neg h1]
      by_cases h2 : i < 2 ^ k
      · rw [if_pos h2]
        show look k (tree k fun j i => f (2 ^ k + j) i) (j - 2 ^ k) i = _
        rw [look_tree k _ _ i (by omega) h2, show 2 ^ k + (j - 2 ^ k) = j by omega]
      · rw [if_neg h2]
        show look k (tree k fun j i => f (2 ^ k + j) (2 ^ k + i)) (j - 2 ^ k) (i - 2 ^ k) = _
        rw [look_tree k _ _ _ (by omega) (by omega), show 2 ^ k + (j - 2 ^ k) = j by omega, show 2 ^ k + (i - 2 ^ k) = i by omega]
/-- how deep a tree is -/
def dep : Q → Nat
  | .c _ _ => 0
  | .n a b c d => max (max (dep a) (dep b)) (max (dep c) (dep d)) + 1
theorem lay_q : ∀ t : Q, Lay (dep t + 2) (qD t)
  | .c p q => .tup (.cons (.tup (.cons .int (.cons .int .nil))) (.cons (.tup (.cons .int (.cons .int .nil))) (.cons (.tup (.cons .int (.cons .int .nil))) .nil)))
  | .n a b c d => .tup (.cons ((lay_q a).mono (by show dep a + 2 ≤ max (max (dep a) (dep b)) (max (dep c) (dep d)) + 1 + 1; omega)) (.cons ((lay_q b).mono (by show dep b + 2 ≤ max (max (dep a) (dep b)) (max (dep c) (dep d)) + 1 + 1; omega)) (.cons ((lay_q c).mono (by show dep c + 2 ≤ max (max (dep a) (dep b)) (max (dep c) (dep d)) + 1 + 1; omega)) (.cons ((lay_q d).mono (by show dep d + 2 ≤ max (max (dep a) (dep b)) (max (dep c) (dep d)) + 1 + 1; omega)) .nil))))
theorem shaped_q {t : Q} (h : dep t ≤ 60) : SeqAt.shaped (qD t) = true := (lay_q t).shaped (by omega)
theorem dep_grow {a b c d : Q} {k : Nat} (h1 : dep a ≤ k) (h2 : dep b ≤ k) (h3 : dep c ≤ k) (h4 : dep d ≤ k) : dep (grow a b c d) ≤ k + 1 := by
  unfold grow
  split
  · omega
  · show max (max (dep a) (dep b)) (max (dep c) (dep d)) + 1 ≤ k + 1
    omega
theorem dep_kid {t : Q} {k : Nat} (h : dep t ≤ k + 1) : ∀ x ∈ kids t, dep x ≤ k := by
  cases t with
  | c p q =>
    intro x hx
    have : x = .c p q := by
      simp only [kids, List.mem_cons, List.not_mem_nil, or_false] at hx
      rcases hx with h | h | h | h <;> exact h
    subst this
    exact Nat.zero_le _
  | n a b c d =>
    have h' : max (max (dep a) (dep b)) (max (dep c) (dep d)) + 1 ≤ k + 1 := h
    intro x hx
    simp only [kids, List.mem_cons, List.not_mem_nil, or_false] at hx
    rcases hx with rfl | rfl | rfl | rfl <;> omega
theorem dep_tree : ∀ (k : Nat) (f : Pic), (∀ j i, isC (f j i) = true) → dep (tree k f) ≤ k
  | 0, f, h => by
    show dep (f 0 0) ≤ 0
    have := h 0 0
    cases e : f 0 0 with
    | c p q => exact Nat.le_refl _
    | n _ _ _ _ =>
      rw [e] at this
      cases this
  | k + 1, f, h => dep_grow (dep_tree k _ fun _ _ => h _ _) (dep_tree k _ fun _ _ => h _ _) (dep_tree k _ fun _ _ => h _ _) (dep_tree k _ fun _ _ => h _ _)
/-- one place is coloured anew -/
def put (f : Pic) (j i : Nat) (c : Q) : Pic := fun b a => if b = j ∧ a = i then c else f b a
def mend : Nat → Q → Nat → Nat → Q → Q
  | 0, _, _, _, c => c
  | k + 1, t, i, j, c =>
    let n := (if 2 ^ k ≤ i then 1 else 0) + 2 * (if 2 ^ k ≤ j then 1 else 0)
    let q := (kids t).set n (mend k (kid t n) (if 2 ^ k ≤ i then i - 2 ^ k else i) (if 2 ^ k ≤ j then j - 2 ^ k else j) c)
    grow (q.getD 0 t) (q.getD 1 t) (q.getD 2 t) (q.getD 3 t)
theorem tree_congr : ∀ (k : Nat) (f g : Pic), (∀ j i, j < 2 ^ k → i < 2 ^ k → f j i = g j i) → tree k f = tree k g
  | 0, f, g, h => h 0 0 (by decide) (by decide)
  | k + 1, f, g, h => by
    have p : 2 ^ (k + 1) = 2 ^ k + 2 ^ k := by rw [Nat.pow_succ]; omega
    rw [p] at h
    unfold tree
    rw [tree_congr k f g fun j i hj hi => h _ _ (by omega) (by omega), tree_congr k (fun j i => f j (2 ^ k + i)) (fun j i => g j (2 ^ k + i)) fun j i hj hi => h _ _ (by omega) (by omega),
      tree_congr k (fun j i => f (2 ^ k + j) i) (fun j i => g (2 ^ k + j) i) fun j i hj hi => h _ _ (by omega) (by omega), tree_congr k (fun j i => f (2 ^ k + j) (2 ^ k + i)) (fun j i => g (2 ^ k + j) (2 ^ k + i)) fun j i hj hi => h _ _ (by omega) (by omega)]
theorem mend_tree : ∀ (k : Nat) (f : Pic) (j i : Nat) (c : Q), j < 2 ^ k → i < 2 ^ k → mend k (tree k f) i j c = tree k (put f j i c)
  | 0, f, j, i, c, hj, hi => by
    have e1 : j = 0 := by omega
    have e2 : i = 0 := by omega
    subst e1 e2
    show c = put f 0 0 c 0 0
    unfold put
    rw [if_pos ⟨rfl, rfl⟩]
  | k + 1, f, j, i, c, hj, hi => by
    rw [Nat.pow_succ] at hj hi
    have ne : ∀ (g g' : Pic), (∀ b a, b < 2 ^ k → a < 2 ^ k → g b a = g' b a) → tree k g = tree k g' := tree_congr k
    unfold mend
    unfold tree
    unfold kid
    rw [kids_grow]
    by_cases h1 : 2 ^ k ≤ i
    · by_cases h2 : 2 ^ k ≤ j
      · simp only [if_pos h1, if_pos h2]
        show grow (tree k f) (tree k fun j i => f j (2 ^ k + i)) (tree k fun j i => f (2 ^ k + j) i) (mend k (tree k fun j i => f (2 ^ k + j) (2 ^ k + i)) (i - 2 ^ k) (j - 2 ^ k) c) = _
        rw [mend_tree k _ _ _ c (by omega) (by omega)]
        congr 1
        · exact ne _ _ fun b a hb ha => by unfold put; rw [if_neg (by omega)]
        · exact ne _ _ fun b a hb ha => by unfold put; rw [if_neg (by omega)]
        · exact ne _ _ fun b a hb ha => by unfold put; rw [if_neg (by omega)]
        · refine ne _ _ fun b a hb ha => ?_
          unfold put
          by_cases e : b = j - 2 ^ k ∧ a = i - 2 ^ k
          · rw [if_pos e, if_pos (by omega)]
          · rw [if_neg e, if_neg (by omega)]
      · simp only [if_pos h1, if_neg h2]
        show grow (tree k f) (mend k (tree k fun j i => f j (2 ^ k + i)) (i - 2 ^ k) j c) (tree k fun j i => f (2 ^ k + j) i) (tree k fun j i => f (2 ^ k + j) (2 ^ k + i)) = _
        rw [mend_tree k _ _ _ c (by omega) (by omega)]
        congr 1
        · exact ne _ _ fun b a hb ha => by unfold put; rw [if_neg (by omega)]
        · refine ne _ _ fun b a hb ha => ?_
          unfold put
          by_cases e : b = j ∧ a = i - 2 ^ k
          · rw [if_pos e, if_pos (by omega)]
          · rw [if_neg e, if_neg (by omega)]
        · exact ne _ _ fun b a hb ha => by unfold put; rw [if_neg (by omega)]
        · exact ne _ _ fun b a hb ha => by unfold put; rw [if_neg (by omega)]
    · by_cases h2 : 2 ^ k ≤ j
      · simp only [if_neg h1, if_pos h2]
        show grow (tree k f) (tree k fun j i => f j (2 ^ k + i)) (mend k (tree k fun j i => f (2 ^ k + j) i) i (j - 2 ^ k) c) (tree k fun j i => f (2 ^ k + j) (2 ^ k + i)) = _
        rw [mend_tree k _ _ _ c (by omega) (by omega)]
        congr 1
        · exact ne _ _ fun b a hb ha => by unfold put; rw [if_neg (by omega)]
        · exact ne _ _ fun b a hb ha => by unfold put; rw [if_neg (by omega)]
        · refine ne _ _ fun b a hb ha => ?_
          unfold put
          by_cases e : b = j - 2 ^ k ∧ a = i
          · rw [if_pos e, if_pos (by omega)]
          · rw [if_neg e, if_neg (by omega)]
        · exact ne _ _ fun b a hb ha => by unfold put; rw [if_neg (by omega)]
      · simp only [if_neg h1, if_neg h2]
        show grow (mend k (tree k f) i j c) (tree k fun j i => f j (2 ^ k + i)) (tree k fun j i => f (2 ^ k + j) i) (tree k fun j i => f (2 ^ k + j) (2 ^ k + i)) = _
        rw [mend_tree k _ _ _ c (by omega) (by omega)]
        congr 1
        · exact ne _ _ fun b a hb ha => by unfold put; rw [if_neg (by omega)]
        · exact ne _ _ fun b a hb ha => by unfold put; rw [if_neg (by omega)]
        · exact ne _ _ fun b a hb ha => by unfold put; rw [if_neg (by omega)]
def leafs : Q → Int
  | .c _ _ => 1
  | .n a b c d => [leafs a, leafs b, leafs c, leafs d].sum

end DL
namespace DL
open PySem PySem.Spec PyProof.Rows L2
local macro_rules | `(tactic| walk_at "len") => `(tactic| exact Nat.le_of_ble_eq_true rfl)
local macro_rules | `(tactic| walk_at "np") => `(tactic| (intro o z; cases z))
local macro_rules | `(tactic| walk_at "od") => `(tactic| first
  | exact od_addI | exact od_subI | exact od_subB | exact od_I0b | exact od_I0
  | exact od_ix rfl rfl | exact od_eq rfl rfl rfl rfl | exact od_ne rfl rfl rfl rfl | exact od_isN | exact od_notN
  | with_reducible apply od_mulI | with_reducible apply od_I | exact ud_I)
local macro_rules | `(tactic| walk_at "cd") => `(tactic| first
  | exact cd_len rfl | exact cd_abs | exact cd_int | exact cd_intB | exact cd_gcd | exact cd_tup rfl | exact cd_lst rfl)
local macro_rules | `(tactic| walk_at "ev1") => `(tactic| first
  | exact ev_int | exact ev_bl | exact ev_str | exact ev_non | exact ev_var rfl | exact ev_varO rfl
  | with_reducible apply ev_op | with_reducible apply ev_un
  | exact ea_nil | with_reducible apply ea_cons
  | with_reducible apply ev_isi | with_reducible apply ev_dget
  | with_reducible apply ev_cb
  | with_reducible apply ev_tup' | with_reducible apply ev_lstF
  | with_reducible apply tt_test | with_reducible apply tt_B | with_reducible apply tt_not
  | walk_at "od" | walk_at "cd" | walk_at "len" | rfl)
local macro_rules | `(tactic| walk_at "ev") => `(tactic| repeat' walk_at "ev1")
local macro_rules | `(tactic| walk_at "set") => `(tactic| (with_reducible apply q_set; rotate_left; walk_at "np"; rotate_left; walk_at "ev"))

/-! ### is_colour, grown, quarters_of -/
def F_is_colour (ds : List D) (d : D) : Prop := ∃ t : Q, ds = [qD t] ∧ d = .bool (isC t)
abbrev C_is_colour : Con := CP F_is_colour
/-! is_colour: slots 0 tree -/
abbrev s_is_colour : Stmt := topS 2
theorem sc_is_colour : FnScope ["tree"] ["tree"] (defScope s_is_colour) := ⟨rfl, rfl, rfl, by decide +kernel, rfl, by decide +kernel, by decide +kernel⟩
def t_is_colour (K : PySem.W.Frag) : TS :=
  (tRet (tOp (rNeD K) (tCB (rLenU K) (tCons (tVar 0) tNil)) (tC (.int 4))))
theorem tm_is_colour {P : Program} {w : World} {K : PySem.W.Frag} {mg : Str → Option Value} {base : Heap} (B : Blt mg) {f : Addr} {cdv : Value} {A : Around} {outer : List Env} {s : Shared} {H : Hp} {E : XK} (hr : Room 0 (A.deeper (envOfC "is_colour" (defScope s_is_colour) s.heap.objs.size f cdv))) :
    PSs (cxOf CX0 P w K mg base ["tree"] "is_colour" (defScope s_is_colour) f cdv A outer s H E).nox (defBody s_is_colour) (t_is_colour K) := by
  have nd := sc_is_colour.nd
  exact (pss_one (ps_ret (pe_cmpR (op_neD hr.units) (pe_callB call_lenU (by rfl) B.len_ PySem.boot_len (pa_cons (pv 0) pa_nil)) (C8.pe_gc (by rfl) B.QUARTERS_) (nomark _))))

theorem run_is_colour {K : PySem.W.Frag} : BodyOk K (t_is_colour K) 0 C_is_colour := by
  refine body_pure ?_
  rintro ds d ⟨t, rfl, rfl⟩
  refine ⟨[.fr (qD t)], ?_, Nat.le_of_ble_eq_true rfl⟩
  show StJ K (t_is_colour K) [.fr (qD t)] _
  have e : PyData.bool (isC t) = .bool (!PyData.eqv (.int ((qL t).length : Int)) (.int 4)) := by cases t <;> rfl
  rw [e, qD_eq]
  apply q_ret
  · walk_at "ev"
  · rfl
theorem len_is_colour : ∀ args r args', C_is_colour args r args' → args.length = 1 := lenP fun ds d h => by
  obtain ⟨t, rfl, _⟩ := h
  rfl
theorem ok_is_colour {P : Program} {w : World} {K : PySem.W.Frag} {mg : Str → Option Value} {base : Heap} (B : Blt mg) (Df : DefAt K mg "is_colour" s_is_colour ["tree"]) : C8.Cal P w K mg base 1 "is_colour" (spD K C_is_colour) [] :=
  cal_of Df sc_is_colour len_is_colour rfl fun f cdv A outer s H E hr => ⟨t_is_colour K, tm_is_colour B hr, run_is_colour⟩

def F_grown (ds : List D) (d : D) : Prop := ∃ a b c e : Q, dep a ≤ 50 ∧ dep b ≤ 50 ∧ dep c ≤ 50 ∧ dep e ≤ 50 ∧ ds = [.tuple [qD a, qD b, qD c, qD e]] ∧ d = qD (grow a b c e)
abbrev C_grown : Con := CP F_grown
/-! grown: slots 0 quarters, 1 first, 2 quarter -/
abbrev s_grown : Stmt := topS 3
theorem sc_grown : FnScope ["quarters", "first", "quarter"] ["quarters"] (defScope s_grown) := ⟨rfl, rfl, rfl, by decide +kernel, rfl, by decide +kernel, by decide +kernel⟩
def t_grown (K : PySem.W.Frag) : TS :=
  (tSeq (tAsg (tOp (rIx K) (tVar 0) (tC (.int 0))) (gName 1))
    (tSeq (tIfS (tAnd (tB (tCall (spD K C_is_colour) [] E0 (tCons (tVar 1) tNil))) (tB (tCB (rAll K) (tCons (tLc (iTup K (tVar 0)) (gName 2) tYes (tOp (rEqD K) (tVar 2) (tVar 1)) [2]) tNil)))) (tRet (tVar 1)) tNext)
    (tRet (tVar 0))))
theorem tm_grown {P : Program} {w : World} {K : PySem.W.Frag} {mg : Str → Option Value} {base : Heap} (B : Blt mg) (c_is_colour : C8.Cal P w K mg base 1 "is_colour" (spD K C_is_colour) []) {f : Addr} {cdv : Value} {A : Around} {outer : List Env} {s : Shared} {H : Hp} {E : XK} (hr : Room 1 (A.deeper (envOfC "grown" (defScope s_grown) s.heap.objs.size f cdv))) :
    PSs (cxOf CX0 P w K mg base ["quarters", "first", "quarter"] "grown" (defScope s_grown) f cdv A outer s H E).nox (defBody s_grown) (t_grown K) := by
  have nd := sc_grown.nd
  exact (pss_cons (ps_set (i := 1) nd rfl (Or.inr rfl) (pe_ix ix_seq (pv 0) pe_int (fun _ _ => rfl)))
    (pss_cons (ps_if ((pw_and (pt_val (C8.pe_c c_is_colour hr (by omega) (by rfl) (pa_cons (pv 1) pa_nil))) (pw_and1 (pt_val (pe_callB (cr_all rfl) (by rfl) B.all_ boot_all (pa_cons (pe_lc (own := [("quarter", 2)]) (g := (gName 2)) (tt := tYes) rfl nd (pi_tup (pv 0)) (blkOk_by (N := ["quarters", "first", "quarter"]) (sc := defScope s_grown) (by decide +kernel)) (fun _ _ _ _ _ => (pg_name (i := 2) nd rfl (Or.inl rfl))) (fun _ _ _ _ _ => pts_nil) (fun _ _ _ _ _ => (pe_cmpR (op_eqD hr.units) (pv 2) (pv 1) (nomark _)))) pa_nil)))))).pt (pss_one (ps_ret (pv 1))) pss_nil)
    (pss_one (ps_ret (pv 0)))))

theorem run_grown {K : PySem.W.Frag} : BodyOk K (t_grown K) 2 C_grown := by
  refine body_pure ?_
  rintro ds d ⟨a, b, c, e, ha, hb, hc, he, rfl, rfl⟩
  refine ⟨[.fr (.tuple [qD a, qD b, qD c, qD e]), .fr (qD a), .no], ?_, Nat.le_of_ble_eq_true rfl⟩
  show StJ K (t_grown K) [.fr (.tuple [qD a, qD b, qD c, qD e]), .no, .no] _
  have hg : qD (grow a b c e) = if isC a && [decide (a = a), decide (b = a), decide (c = a), decide (e = a)].all id then qD a else .tuple [qD a, qD b, qD c, qD e] := by
    show qD (if _ then _ else _) = if isC a && (decide (a = a) && (decide (b = a) && (decide (c = a) && (decide (e = a) && true)))) then _ else _
    rw [decide_eq_true (rfl : a = a), Bool.true_and, Bool.and_true]
    split <;> rfl
  apply q_set
  · walk_at "ev"
  · walk_at "np"
  rw [hg]
  apply st_ifq
  · apply tt_andP
    · apply tt_B
      apply ev_callP
      · walk_at "ev"
      · rfl
      · exact ⟨a, rfl, rfl⟩
    · apply tt_B
      apply ev_cb
      · apply ea_cons
        · refine ev_lc (ys := [decide (a = a), decide (b = a), decide (c = a), decide (e = a)].map PyData.bool) (src_tup (ev_var rfl)) ?_ rfl rfl (fun i hi => ?_) (Nat.le_of_ble_eq_true rfl)
          · have h : LcRel K (gName 2) tYes (tOp (rEqD K) (tVar 2) (tVar 1)) [2] ([a, b, c, e].map qD) [.fr (.tuple [qD a, qD b, qD c, qD e]), .fr (qD a), .no] ([a, b, c, e].map fun x => PyData.bool (decide (x = a))) [.fr (.tuple [qD a, qD b, qD c, qD e]), .fr (qD a), .no] := by
              refine LcRel.maps qD (fun x => .bool (decide (x = a))) fun x hx => ⟨[.fr (.tuple [qD a, qD b, qD c, qD e]), .fr (qD a), .fr (qD x)], bw_name, ?_, fun j hj o => ?_, rfl⟩
              · rw [← eqv_q]
                refine ev_op (ev_var rfl) (ev_var rfl) (od_eq rfl rfl (shaped_q ?_) (shaped_q (by omega)))
                simp only [List.mem_cons, List.not_mem_nil, or_false] at hx
                rcases hx with rfl | rfl | rfl | rfl <;> omega
              · rw [List.mem_singleton.mp hj]
                intro z
                cases z
            exact h
          · rw [List.mem_singleton.mp hi]
            intro o z
            cases z
        · exact ea_nil
      · exact cd_all rfl
  · intro h
    rw [if_pos h]
    exact q_retq (ev_var rfl) rfl
  · intro h
    rw [if_neg (by rw [h]; exact Bool.false_ne_true)]
    apply st_nextq
    exact q_ret (ev_var rfl) rfl
theorem len_grown : ∀ args r args', C_grown args r args' → args.length = 1 := lenP fun ds d h => by
  obtain ⟨_, _, _, _, _, _, _, _, rfl, _⟩ := h
  rfl
theorem ok_grown {P : Program} {w : World} {K : PySem.W.Frag} {mg : Str → Option Value} {base : Heap} (B : Blt mg) (Df : DefAt K mg "grown" s_grown ["quarters"]) (c_is_colour : C8.Cal P w K mg base 1 "is_colour" (spD K C_is_colour) []) : C8.Cal P w K mg base 2 "grown" (spD K C_grown) [] :=
  cal_of Df sc_grown len_grown rfl fun f cdv A outer s H E hr => ⟨t_grown K, tm_grown B c_is_colour hr, run_grown⟩

def F_quarters_of (ds : List D) (d : D) : Prop := ∃ t : Q, ds = [qD t] ∧ d = .tuple ((kids t).map qD)
abbrev C_quarters_of : Con := CP F_quarters_of
/-! quarters_of: slots 0 tree -/
abbrev s_quarters_of : Stmt := topS 5
theorem sc_quarters_of : FnScope ["tree"] ["tree"] (defScope s_quarters_of) := ⟨rfl, rfl, rfl, by decide +kernel, rfl, by decide +kernel, by decide +kernel⟩
def t_quarters_of (K : PySem.W.Frag) : TS :=
  (tRet (tIf (tB (tCall (spD K C_is_colour) [] E0 (tCons (tVar 0) tNil))) (tOp (rMulU K) (tTup (tCons (tVar 0) tNil)) (tC (.int 4))) (tVar 0)))
theorem tm_quarters_of {P : Program} {w : World} {K : PySem.W.Frag} {mg : Str → Option Value} {base : Heap} (B : Blt mg) (c_is_colour : C8.Cal P w K mg base 1 "is_colour" (spD K C_is_colour) []) {f : Addr} {cdv : Value} {A : Around} {outer : List Env} {s : Shared} {H : Hp} {E : XK} (hr : Room 1 (A.deeper (envOfC "quarters_of" (defScope s_quarters_of) s.heap.objs.size f cdv))) :
    PSs (cxOf CX0 P w K mg base ["tree"] "quarters_of" (defScope s_quarters_of) f cdv A outer s H E).nox (defBody s_quarters_of) (t_quarters_of K) := by
  have nd := sc_quarters_of.nd
  exact (pss_one (ps_ret (pe_ifExp (pt_val (C8.pe_c c_is_colour hr (by omega) (by rfl) (pa_cons (pv 0) pa_nil))) (pe_op op_mulU (pe_tup (pa_cons (pv 0) pa_nil)) (C8.pe_gc (by rfl) B.QUARTERS_)) (pv 0))))

theorem run_quarters_of {K : PySem.W.Frag} : BodyOk K (t_quarters_of K) 0 C_quarters_of := by
  refine body_pure ?_
  rintro ds d ⟨t, rfl, rfl⟩
  refine ⟨[.fr (qD t)], ?_, Nat.le_of_ble_eq_true rfl⟩
  show StJ K (t_quarters_of K) [.fr (qD t)] _
  have e : PyData.tuple ((kids t).map qD) = if isC t then .tuple (List.replicate (4 : Int).toNat [qD t]).flatten else qD t := by cases t <;> rfl
  rw [e]
  apply q_ret
  · apply ev_ifP
    · apply tt_B
      apply ev_callP
      · walk_at "ev"
      · rfl
      · exact ⟨t, rfl, rfl⟩
    · apply ev_op
      · walk_at "ev"
      · walk_at "ev"
      · exact od_repT (fun z => nomatch z) (by decide) (by decide) (Nat.le_of_ble_eq_true rfl)
    · walk_at "ev"
  · rfl
theorem len_quarters_of : ∀ args r args', C_quarters_of args r args' → args.length = 1 := lenP fun ds d h => by
  obtain ⟨t, rfl, _⟩ := h
  rfl
theorem ok_quarters_of {P : Program} {w : World} {K : PySem.W.Frag} {mg : Str → Option Value} {base : Heap} (B : Blt mg) (Df : DefAt K mg "quarters_of" s_quarters_of ["tree"]) (c_is_colour : C8.Cal P w K mg base 1 "is_colour" (spD K C_is_colour) []) : C8.Cal P w K mg base 2 "quarters_of" (spD K C_quarters_of) [] :=
  cal_of Df sc_quarters_of len_quarters_of rfl fun f cdv A outer s H E hr => ⟨t_quarters_of K, tm_quarters_of B c_is_colour hr, run_quarters_of⟩


end DL
namespace DL
open PySem PySem.Spec PyProof.Rows L2
local macro_rules | `(tactic| walk_at "len") => `(tactic| exact Nat.le_of_ble_eq_true rfl)
local macro_rules | `(tactic| walk_at "np") => `(tactic| (intro o z; cases z))
local macro_rules | `(tactic| walk_at "od") => `(tactic| first
  | exact od_addI | exact od_subI | exact od_subB | exact od_I0b | exact od_I0
  | exact od_ix rfl rfl | exact od_eq rfl rfl rfl rfl | exact od_ne rfl rfl rfl rfl | exact od_isN | exact od_notN
  | with_reducible apply od_mulI | with_reducible apply od_I | exact ud_I)
local macro_rules | `(tactic| walk_at "cd") => `(tactic| first
  | exact cd_len rfl | exact cd_abs | exact cd_int | exact cd_intB | exact cd_gcd | exact cd_tup rfl | exact cd_lst rfl)
local macro_rules | `(tactic| walk_at "ev1") => `(tactic| first
  | exact ev_int | exact ev_bl | exact ev_str | exact ev_non | exact ev_var rfl | exact ev_varO rfl
  | with_reducible apply ev_op | with_reducible apply ev_un
  | exact ea_nil | with_reducible apply ea_cons
  | with_reducible apply ev_isi | with_reducible apply ev_dget
  | with_reducible apply ev_cb
  | with_reducible apply ev_tup' | with_reducible apply ev_lstF
  | with_reducible apply tt_test | with_reducible apply tt_B | with_reducible apply tt_not
  | walk_at "od" | walk_at "cd" | walk_at "len" | rfl)
local macro_rules | `(tactic| walk_at "ev") => `(tactic| repeat' walk_at "ev1")
local macro_rules | `(tactic| walk_at "set") => `(tactic| (with_reducible apply q_set; rotate_left; walk_at "np"; rotate_left; walk_at "ev"))

/-! ### tree_of -/
def rowD (n : Nat) (f : Pic) (j : Nat) : D := .tuple ((List.range n).map fun i => qD (f j i))
def picD (n : Nat) (f : Pic) : D := .tuple ((List.range n).map (rowD n f))
theorem two_pow_succ (m : Nat) : 2 ^ (m + 1) = 2 ^ m + 2 ^ m := by rw [Nat.pow_succ]; omega
def F_tree_of (n : Nat) (ds : List D) (d : D) : Prop := ∃ (m : Nat) (f : Pic), m < n ∧ n ≤ 10 ∧ (∀ j i, dep (f j i) = 0) ∧ ds = [picD (2 ^ m) f] ∧ d = qD (tree m f)
abbrev C_tree_of (n : Nat) : Con := CP (F_tree_of n)
/-! tree_of: slots 0 picture, 1 size, 2 half, 3 quarters, 4 rows, 5 row -/
abbrev s_tree_of : Stmt := topS 4
theorem sc_tree_of : FnScope ["picture", "size", "half", "quarters", "rows", "row"] ["picture"] (defScope s_tree_of) := ⟨rfl, rfl, rfl, by decide +kernel, rfl, by decide +kernel, by decide +kernel⟩
def t_tree_of (K : PySem.W.Frag) (C_tree_of : Con) : TS :=
  (tSeq (tAsg (tCB (rLenU K) (tCons (tVar 0) tNil)) (gName 1))
    (tSeq (tIfS (tTest (tOp (rEqD K) (tVar 1) (tC (.int 1)))) (tRet (tOp (rIx K) (tOp (rIx K) (tVar 0) (tC (.int 0))) (tC (.int 0)))) tNext)
    (tSeq (tAsg (tOp (rI CDivR fun i j => .int (i.fdiv j)) (tVar 1) (tC (.int 2))) (gName 2))
    (tSeq (tAsg (tLst tNil) (gName 3))
    (tSeq (tFor (iTup K (tTup (tCons (tSl (rSliceU K) (tVar 0) tNoPart (tPart (tVar 2))) (tCons (tSl (rSliceU K) (tVar 0) (tPart (tVar 2)) tNoPart) tNil)))) (gName 4) (tSeq (tDrop (tBM K "list" rAppend (tVar 3) (tCons (tCall (spD K C_tree_of) [] E0 (tCons (tCB (rTupU K) (tCons (tLc (iTup K (tVar 4)) (gName 5) tYes (tSl (rSliceU K) (tVar 5) tNoPart (tPart (tVar 2))) [5]) tNil)) tNil)) tNil)))
    (tDrop (tBM K "list" rAppend (tVar 3) (tCons (tCall (spD K C_tree_of) [] E0 (tCons (tCB (rTupU K) (tCons (tLc (iTup K (tVar 4)) (gName 5) tYes (tSl (rSliceU K) (tVar 5) (tPart (tVar 2)) tNoPart) [5]) tNil)) tNil)) tNil)))))
    (tRet (tCall (spD K C_grown) [] E0 (tCons (tCB (rTupU K) (tCons (tVar 3) tNil)) tNil))))))))
theorem tm_tree_of {P : Program} {w : World} {K : PySem.W.Frag} {mg : Str → Option Value} {base : Heap} (B : Blt mg) {C_tree_of : Con} {L : Nat} (hL : 2 ≤ L) (c_grown : C8.Cal P w K mg base 2 "grown" (spD K C_grown) []) (c_tree_of : C8.Cal P w K mg base L "tree_of" (spD K C_tree_of) []) {f : Addr} {cdv : Value} {A : Around} {outer : List Env} {s : Shared} {H : Hp} {E : XK} (hr : Room L (A.deeper (envOfC "tree_of" (defScope s_tree_of) s.heap.objs.size f cdv))) :
    PSs (cxOf CX0 P w K mg base ["picture", "size", "half", "quarters", "rows", "row"] "tree_of" (defScope s_tree_of) f cdv A outer s H E).nox (defBody s_tree_of) (t_tree_of K C_tree_of) := by
  have nd := sc_tree_of.nd
  exact (pss_cons (ps_set (i := 1) nd rfl (Or.inl rfl) (pe_callB call_lenU (by rfl) B.len_ PySem.boot_len (pa_cons (pv 0) pa_nil)))
    (pss_cons (ps_if (pt_cmpR (op_eqD hr.units) (pv 1) pe_int (nomark _)) (pss_one (ps_ret (pe_ix ix_seq (pe_ix ix_seq (pv 0) pe_int (fun _ _ => rfl)) pe_int (fun _ _ => rfl)))) pss_nil)
    (pss_cons (ps_set (i := 2) nd rfl (Or.inr rfl) (pe_op op_fdivR (pv 1) pe_int))
    (pss_cons (ps_set (i := 3) nd rfl (Or.inl rfl) (pe_lst pa_nil))
    (pss_cons (ps_for PassesOwn.never rfl (pi_tup (pe_tup (pa_cons (pe_slice sl_U (pv 0) po_none (po_some (pv 2))) (pa_cons (pe_slice sl_U (pv 0) (po_some (pv 2)) po_none) pa_nil)))) (pg_name (i := 4) nd rfl (Or.inl rfl)) (pss_cons (ps_expr (pe_bm PySem.F.plainAttrs_list PySem.F.slot_list_append PySem.F.type_list_append mt_append (pv 3) (pa_cons (C8.pe_c c_tree_of hr (by omega) (by rfl) (pa_cons (pe_callTy call_tupU (by rfl) B.tuple_ boot_tuple (pa_cons (pe_lc (own := [("row", 5)]) (g := (gName 5)) (tt := tYes) rfl nd (pi_tup (pv 4)) (blkOk_by (N := ["picture", "size", "half", "quarters", "rows", "row"]) (sc := defScope s_tree_of) (by decide +kernel)) (fun _ _ _ _ _ => (pg_name (i := 5) nd rfl (Or.inl rfl))) (fun _ _ _ _ _ => pts_nil) (fun _ _ _ _ _ => (pe_slice sl_U (pv 5) po_none (po_some (pv 2))))) pa_nil)) pa_nil)) pa_nil)))
    (pss_one (ps_expr (pe_bm PySem.F.plainAttrs_list PySem.F.slot_list_append PySem.F.type_list_append mt_append (pv 3) (pa_cons (C8.pe_c c_tree_of hr (by omega) (by rfl) (pa_cons (pe_callTy call_tupU (by rfl) B.tuple_ boot_tuple (pa_cons (pe_lc (own := [("row", 5)]) (g := (gName 5)) (tt := tYes) rfl nd (pi_tup (pv 4)) (blkOk_by (N := ["picture", "size", "half", "quarters", "rows", "row"]) (sc := defScope s_tree_of) (by decide +kernel)) (fun _ _ _ _ _ => (pg_name (i := 5) nd rfl (Or.inl rfl))) (fun _ _ _ _ _ => pts_nil) (fun _ _ _ _ _ => (pe_slice sl_U (pv 5) (po_some (pv 2)) po_none))) pa_nil)) pa_nil)) pa_nil))))))
    (pss_one (ps_ret (C8.pe_c c_grown hr (by omega) (by rfl) (pa_cons (pe_callTy call_tupU (by rfl) B.tuple_ boot_tuple (pa_cons (pv 3) pa_nil)) pa_nil)))))))))

theorem void_tree_of : ∀ args r args', ¬ C_tree_of 0 args r args' := fun _ _ _ ⟨_, _, ⟨_, _, h, _⟩, _⟩ => by omega
theorem len_tree_of (n : Nat) : ∀ args r args', C_tree_of n args r args' → args.length = 1 := lenP fun ds d h => by
  obtain ⟨_, _, _, _, _, rfl, _⟩ := h
  rfl
theorem dep_tree0 : ∀ (k : Nat) (f : Pic), (∀ j i, dep (f j i) = 0) → dep (tree k f) ≤ k
  | 0, f, h => Nat.le_of_eq (h 0 0)
  | k + 1, f, h => dep_grow (dep_tree0 k _ fun _ _ => h _ _) (dep_tree0 k _ fun _ _ => h _ _) (dep_tree0 k _ fun _ _ => h _ _) (dep_tree0 k _ fun _ _ => h _ _)
theorem sizes (m : Nat) (h : m ≤ 10) : 2 ^ m ≤ 2 ^ 10 := Nat.pow_le_pow_right (by decide) h
theorem fdiv_half (m : Nat) : ((2 ^ (m + 1) : Nat) : Int).fdiv 2 = ((2 ^ m : Nat) : Int) := by
  rw [two_pow_succ, Int.fdiv_eq_ediv_of_nonneg _ (by decide)]
  omega
theorem tup_cut {K : PySem.W.Frag} {δ : List Sl} {rows : List D} {th tl : TO} {lo hi : Option Int} {a : Nat → D} {b : Nat → D} {h : Nat} (hr : rows = (List.range h).map a) (x : Sl) (hδ5 : δ[5]? = some x) (hx : Dat x) (hδ4 : δ[4]? = some (.fr (.tuple rows))) (hz : h ≤ 2 ^ 10)
    (hs : ∀ y : D, EvO K tl ((δ.set 5 .no).set 5 (.fr y)) lo ((δ.set 5 .no).set 5 (.fr y)) ∧ EvO K th ((δ.set 5 .no).set 5 (.fr y)) hi ((δ.set 5 .no).set 5 (.fr y)))
    (hab : ∀ j, ∃ ds, a j = .tuple ds ∧ b j = .tuple (cutD ds lo hi)) :
    EvJ K (tCB (rTupU K) (tCons (tLc (iTup K (tVar 4)) (gName 5) tYes (tSl (rSliceU K) (tVar 5) tl th) [5]) tNil)) δ (.fr (.tuple ((List.range h).map b))) δ := by
  subst hr
  have h5 : 5 < δ.length := (List.getElem?_eq_some_iff.mp hδ5).1
  have h4 : 4 < δ.length := by omega
  apply ev_cb
  · apply ea_cons
    · refine ev_lc (δw := δ.set 5 .no) (δ' := δ) (src_tup (ev_var hδ4)) (LcRel.maps a b fun j hj => ?_) (by rw [List.length_set]) ?_ (fun i hi => ?_) (by rw [List.length_map, List.length_range]; exact Nat.le_trans hz (by decide))
      · obtain ⟨ds, e1, e2⟩ := hab j
        refine ⟨(δ.set 5 .no).set 5 (.fr (a j)), bw_name (by decide) (np_at (List.getElem?_set_self h5) trivial), ?_, fun i hi => ?_, ?_⟩
        · rw [e2]
          obtain ⟨s1, s2⟩ := hs (a j)
          refine ev_slice (ev_var (d := .tuple ds) ?_) s1 s2 sl_T
          rw [← e1]
          exact List.getElem?_set_self (by rw [List.length_set]; exact h5)
        · rw [List.mem_singleton.mp hi]
          exact np_at (List.getElem?_set_self (by rw [List.length_set]; exact h5)) trivial
        · show ((δ.set 5 .no).set 5 (.fr (a j))).set 5 .no = _
          rw [List.set_set]
          show (δ.set 5 .no).set 5 .no = δ.set 5 .no
          rw [List.set_set]
      · refine List.ext_getElem? fun i => ?_
        rw [pick_get (by rw [List.length_set]), Nat.zero_add]
        split
        · rfl
        · rename_i hi
          rw [List.getElem?_set_ne]
          rintro rfl
          exact hi (by decide)
      · rw [List.mem_singleton.mp hi]
        exact np_at hδ5 hx
    · exact ea_nil
  · exact cd_tup rfl
theorem run_tree_of {K : PySem.W.Frag} (n : Nat) : BodyOk K (t_tree_of K (C_tree_of n)) 5 (C_tree_of (n + 1)) := by
  refine body_pure ?_
  rintro ds d ⟨m, f, hm, hn, hf, rfl, rfl⟩
  have hz : 2 ^ m ≤ 2 ^ 10 := sizes m (by omega)
  have e1 : EvJ K (tCB (rLenU K) (tCons (tVar 0) tNil)) [.fr (picD (2 ^ m) f), .no, .no, .no, .no, .no] (.fr (.int ((2 ^ m : Nat) : Int))) [.fr (picD (2 ^ m) f), .no, .no, .no, .no, .no] := by
    apply EvJ.conv
    · walk_at "ev"
    · rw [List.length_map, List.length_range]
  cases m with
  | zero =>
    refine ⟨[.fr (picD (2 ^ 0) f), .fr (.int 1), .no, .no, .no, .no], ?_, Nat.le_of_ble_eq_true rfl⟩
    apply q_set (d := .int 1) e1
    · walk_at "np"
    apply st_ifq (b := true)
    · exact tt_test (ev_op (ev_var rfl) ev_int (od_eq (d1 := .int 1) (d2 := .int 1) rfl rfl rfl rfl))
    · intro _
      apply q_retq
      · walk_at "ev"
      · rfl
    · intro h
      cases h
  | succ m =>
    have hz2 : 2 ^ m ≤ 2 ^ 10 := sizes m (by omega)
    have hp : 0 < 2 ^ m := Nat.two_pow_pos m
    let P : D := picD (2 ^ (m + 1)) f
    let T : D := .tuple ((List.range (2 ^ m)).map (rowD (2 ^ (m + 1)) f))
    let U : D := .tuple ((List.range (2 ^ m)).map fun j => rowD (2 ^ (m + 1)) f (2 ^ m + j))
    have hT : cutD ((List.range (2 ^ (m + 1))).map (rowD (2 ^ (m + 1)) f)) none (some ((2 ^ m : Nat) : Int)) = (List.range (2 ^ m)).map (rowD (2 ^ (m + 1)) f) := cut_lo (α := Nat) _ _ _ (two_pow_succ m)
    have hU : cutD ((List.range (2 ^ (m + 1))).map (rowD (2 ^ (m + 1)) f)) (some ((2 ^ m : Nat) : Int)) none = (List.range (2 ^ m)).map fun j => rowD (2 ^ (m + 1)) f (2 ^ m + j) := cut_hi (α := Nat) _ _ _ (two_pow_succ m)
    let g1 : Pic := fun j i => f j (2 ^ m + i)
    let g2 : Pic := fun j i => f (2 ^ m + j) i
    let g3 : Pic := fun j i => f (2 ^ m + j) (2 ^ m + i)
    -- one turn
    have turn : ∀ (rows : Nat → D) (acc : List D) (x4 : Sl) (fl fr : Pic), (∀ j i, dep (fl j i) = 0) → (∀ j i, dep (fr j i) = 0) → Dat x4 → acc.length ≤ 2 →
        (∀ j, ∃ ds, rows j = .tuple ds ∧ rowD (2 ^ m) fl j = .tuple (cutD ds none (some ((2 ^ m : Nat) : Int)))) → (∀ j, ∃ ds, rows j = .tuple ds ∧ rowD (2 ^ m) fr j = .tuple (cutD ds (some ((2 ^ m : Nat) : Int)) none)) →
        ∃ δb, BindJ K (gName 4) (.tuple ((List.range (2 ^ m)).map rows)) [.fr P, .fr (.int ((2 ^ (m + 1) : Nat) : Int)), .fr (.int ((2 ^ m : Nat) : Int)), .ob true (.L acc), x4, .no] δb ∧
          StJ K (tSeq (tDrop (tBM K "list" rAppend (tVar 3) (tCons (tCall (spD K (C_tree_of n)) [] E0 (tCons (tCB (rTupU K) (tCons (tLc (iTup K (tVar 4)) (gName 5) tYes (tSl (rSliceU K) (tVar 5) tNoPart (tPart (tVar 2))) [5]) tNil)) tNil)) tNil)))
            (tDrop (tBM K "list" rAppend (tVar 3) (tCons (tCall (spD K (C_tree_of n)) [] E0 (tCons (tCB (rTupU K) (tCons (tLc (iTup K (tVar 4)) (gName 5) tYes (tSl (rSliceU K) (tVar 5) (tPart (tVar 2)) tNoPart) [5]) tNil)) tNil)) tNil)))) δb
            (.nx [.fr P, .fr (.int ((2 ^ (m + 1) : Nat) : Int)), .fr (.int ((2 ^ m : Nat) : Int)), .ob true (.L (acc ++ [qD (tree m fl)] ++ [qD (tree m fr)])), .fr (.tuple ((List.range (2 ^ m)).map rows)), .no]) := by
      intro rows acc x4 fl fr h1 h2 hx hacc c1 c2
      refine ⟨_, bj_name (np_at rfl hx), ?_⟩
      show StJ K _ [.fr P, .fr (.int ((2 ^ (m + 1) : Nat) : Int)), .fr (.int ((2 ^ m : Nat) : Int)), .ob true (.L acc), .fr (.tuple ((List.range (2 ^ m)).map rows)), .no] _
      apply q_drop
      · apply ev_append'
        · exact ev_varO rfl
        · rfl
        · apply ev_callP
          · apply ea_cons
            · exact tup_cut (a := rows) (b := rowD (2 ^ m) fl) rfl .no rfl trivial rfl hz2 (fun y => ⟨eo_none, eo_some (ev_var rfl)⟩) c1
            · exact ea_nil
          · rfl
          · exact ⟨m, fl, by omega, by omega, h1, rfl, rfl⟩
        · rfl
        · exact Nat.lt_of_le_of_lt hacc (by decide)
        · rfl
      · apply q_drop1
        apply ev_append'
        · exact ev_varO rfl
        · rfl
        · apply ev_callP
          · apply ea_cons
            · exact tup_cut (a := rows) (b := rowD (2 ^ m) fr) rfl .no rfl trivial rfl hz2 (fun y => ⟨eo_some (ev_var rfl), eo_none⟩) c2
            · exact ea_nil
          · rfl
          · exact ⟨m, fr, by omega, by omega, h2, rfl, rfl⟩
        · rfl
        · refine Nat.lt_of_le_of_lt (m := 3) ?_ (by decide)
          rw [List.length_append, List.length_singleton]
          omega
        · rfl
    obtain ⟨δb1, b1, t1⟩ := turn (rowD (2 ^ (m + 1)) f) [] .no f g1 hf (fun _ _ => hf _ _) trivial (by decide)
      (fun j => ⟨_, rfl, congrArg PyData.tuple (cut_lo (α := Nat) _ _ (fun i => qD (f j i)) (two_pow_succ m)).symm⟩) (fun j => ⟨_, rfl, congrArg PyData.tuple (cut_hi (α := Nat) _ _ (fun i => qD (f j i)) (two_pow_succ m)).symm⟩)
    obtain ⟨δb2, b2, t2⟩ := turn (fun j => rowD (2 ^ (m + 1)) f (2 ^ m + j)) ([] ++ [qD (tree m f)] ++ [qD (tree m g1)]) (.fr T) g2 g3 (fun _ _ => hf _ _) (fun _ _ => hf _ _) trivial (Nat.le_of_ble_eq_true rfl)
      (fun j => ⟨_, rfl, congrArg PyData.tuple (cut_lo (α := Nat) _ _ (fun i => qD (f (2 ^ m + j) i)) (two_pow_succ m)).symm⟩) (fun j => ⟨_, rfl, congrArg PyData.tuple (cut_hi (α := Nat) _ _ (fun i => qD (f (2 ^ m + j) i)) (two_pow_succ m)).symm⟩)
    refine ⟨[.fr P, .fr (.int ((2 ^ (m + 1) : Nat) : Int)), .fr (.int ((2 ^ m : Nat) : Int)), .ob true (.L [qD (tree m f), qD (tree m g1), qD (tree m g2), qD (tree m g3)]), .fr U, .no], ?_, Nat.le_of_ble_eq_true rfl⟩
    apply q_set e1
    · walk_at "np"
    apply st_ifq (b := false)
    · have e : false = PyData.eqv (.int ((2 ^ (m + 1) : Nat) : Int)) (.int 1) := by
        show _ = (((2 ^ (m + 1) : Nat) : Int) == 1)
        rw [two_pow_succ]
        exact (beq_eq_false_iff_ne.mpr (by omega)).symm
      rw [e]
      walk_at "ev"
    · intro h
      cases h
    · intro _
      apply st_nextq
      apply q_set (d := .int ((2 ^ m : Nat) : Int))
      · apply EvJ.conv
        · walk_at "ev"
          exact ⟨by decide, by decide⟩
        · rw [fdiv_half]
      · walk_at "np"
      apply q_setN
      · exact ev_lst' ea_nil rfl (Nat.zero_le _)
      · exact Nat.le_of_ble_eq_true rfl
      · walk_at "np"
      apply q_for
      · apply src_tup (ds := [T, U])
        apply ev_tup'
        · apply ea_cons
          · exact ev_slice (r' := .fr T) (ev_var rfl) eo_none (eo_some (ev_var rfl)) (by rw [show T = .tuple _ from congrArg PyData.tuple hT.symm]; exact sl_T)
          · apply ea_cons
            · exact ev_slice (r' := .fr U) (ev_var rfl) (eo_some (ev_var rfl)) eo_none (by rw [show U = .tuple _ from congrArg PyData.tuple hU.symm]; exact sl_T)
            · exact ea_nil
        · rfl
        · exact Nat.le_of_ble_eq_true rfl
      · exact .go b1 t1 (.go b2 t2 .nil)
      apply q_ret
      · apply ev_callP
        · walk_at "ev"
        · rfl
        · have q : ∀ g : Pic, (∀ j i, dep (g j i) = 0) → dep (tree m g) ≤ 50 := fun g h => Nat.le_trans (dep_tree0 m g h) (by omega)
          exact ⟨tree m f, tree m g1, tree m g2, tree m g3, q _ hf, q _ fun _ _ => hf _ _, q _ fun _ _ => hf _ _, q _ fun _ _ => hf _ _, rfl, rfl⟩
      · rfl
theorem ok_tree_of {P : Program} {w : World} {K : PySem.W.Frag} {mg : Str → Option Value} {base : Heap} (B : Blt mg) (Df : DefAt K mg "tree_of" s_tree_of ["picture"]) (c_grown : C8.Cal P w K mg base 2 "grown" (spD K C_grown) []) : ∀ n : Nat, C8.Cal P w K mg base (2 + n + 1) "tree_of" (spD K (C_tree_of n)) []
  | 0 => cal_void Df sc_tree_of void_tree_of
  | n + 1 => cal_of Df sc_tree_of (len_tree_of (n + 1)) rfl fun f cdv A outer s H E hr => ⟨t_tree_of K (C_tree_of n), tm_tree_of B (L := 2 + n + 1) (by omega) c_grown (ok_tree_of B Df c_grown n) hr, run_tree_of n⟩


end DL
namespace DL
open PySem PySem.Spec PyProof.Rows L2
local macro_rules | `(tactic| walk_at "len") => `(tactic| exact Nat.le_of_ble_eq_true rfl)
local macro_rules | `(tactic| walk_at "np") => `(tactic| (intro o z; cases z))
local macro_rules | `(tactic| walk_at "od") => `(tactic| first
  | exact od_addI | exact od_subI | exact od_subB | exact od_I0b | exact od_I0
  | exact od_ix rfl rfl | exact od_eq rfl rfl rfl rfl | exact od_ne rfl rfl rfl rfl | exact od_isN | exact od_notN
  | with_reducible apply od_mulI | with_reducible apply od_I | exact ud_I)
local macro_rules | `(tactic| walk_at "cd") => `(tactic| first
  | exact cd_len rfl | exact cd_abs | exact cd_int | exact cd_intB | exact cd_gcd | exact cd_tup rfl | exact cd_lst rfl)
local macro_rules | `(tactic| walk_at "ev1") => `(tactic| first
  | exact ev_int | exact ev_bl | exact ev_str | exact ev_non | exact ev_var rfl | exact ev_varO rfl
  | with_reducible apply ev_op | with_reducible apply ev_un
  | exact ea_nil | with_reducible apply ea_cons
  | with_reducible apply ev_isi | with_reducible apply ev_dget
  | with_reducible apply ev_cb
  | with_reducible apply ev_tup' | with_reducible apply ev_lstF
  | with_reducible apply tt_test | with_reducible apply tt_B | with_reducible apply tt_not
  | walk_at "od" | walk_at "cd" | walk_at "len" | rfl)
local macro_rules | `(tactic| walk_at "ev") => `(tactic| repeat' walk_at "ev1")
local macro_rules | `(tactic| walk_at "set") => `(tactic| (with_reducible apply q_set; rotate_left; walk_at "np"; rotate_left; walk_at "ev"))

/-! ### rows_of, picture_of, leaves -/
def lrow (n : Nat) (f : Pic) (j : Nat) : D := .list ((List.range n).map fun i => qD (f j i))
def rowsD (k : Nat) (f : Pic) : List D := (List.range (2 ^ k)).map (lrow (2 ^ k) f)
def C_rows_of (n : Nat) : Con := fun args r args' => ∃ (k : Nat) (t : Q), k < n ∧ n ≤ 10 ∧ args = [.fr (qD t), .fr (.int (k : Int))] ∧ r = .new (.L (rowsD k (look k t))) ∧ args' = args
/-! rows_of: slots 0 tree, 1 k, 2 parts, 3 low, 4 quarter, 5 left, 6 right -/
abbrev s_rows_of : Stmt := topS 6
theorem sc_rows_of : FnScope ["tree", "k", "parts", "low", "quarter", "left", "right"] ["tree", "k"] (defScope s_rows_of) := ⟨rfl, rfl, rfl, by decide +kernel, rfl, by decide +kernel, by decide +kernel⟩
def t_rows_of (K : PySem.W.Frag) (C_rows_of : Con) : TS :=
  (tSeq (tIfS (tTest (tOp (rEqD K) (tVar 1) (tC (.int 0)))) (tRet (tLst (tCons (tLst (tCons (tVar 0) tNil)) tNil))) tNext)
    (tSeq (tAsg (tLc (iTup K (tCall (spD K C_quarters_of) [] E0 (tCons (tVar 0) tNil))) (gName 4) tYes (tCall (spD K C_rows_of) [] E0 (tCons (tVar 4) (tCons (tOp rSubU (tVar 1) (tC (.int 1))) tNil))) [4]) (gName 2))
    (tSeq (tAsg (tLc (RZ.iZipA K (tCons (tOp (rIx K) (tVar 2) (tC (.int 0))) (tCons (tOp (rIx K) (tVar 2) (tC (.int 1))) tNil))) (gTup K 2 (gCons (gName 5) (gCons (gName 6) gNil))) tYes (tOp (rAddU K) (tVar 5) (tVar 6)) [5, 6]) (gName 3))
    (tRet (tOp (rAddU K) (tVar 3) (tLc (RZ.iZipA K (tCons (tOp (rIx K) (tVar 2) (tC (.int 2))) (tCons (tOp (rIx K) (tVar 2) (tC (.int 3))) tNil))) (gTup K 2 (gCons (gName 5) (gCons (gName 6) gNil))) tYes (tOp (rAddU K) (tVar 5) (tVar 6)) [5, 6]))))))
theorem tm_rows_of {P : Program} {w : World} {K : PySem.W.Frag} {mg : Str → Option Value} {base : Heap} (B : Blt mg) {C_rows_of : Con} {L : Nat} (hL : 2 ≤ L) (c_quarters_of : C8.Cal P w K mg base 2 "quarters_of" (spD K C_quarters_of) []) (c_rows_of : C8.Cal P w K mg base L "rows_of" (spD K C_rows_of) []) {f : Addr} {cdv : Value} {A : Around} {outer : List Env} {s : Shared} {H : Hp} {E : XK} (hr : Room L (A.deeper (envOfC "rows_of" (defScope s_rows_of) s.heap.objs.size f cdv))) :
    PSs (cxOf CX0 P w K mg base ["tree", "k", "parts", "low", "quarter", "left", "right"] "rows_of" (defScope s_rows_of) f cdv A outer s H E).nox (defBody s_rows_of) (t_rows_of K C_rows_of) := by
  have nd := sc_rows_of.nd
  exact (pss_cons (ps_if (pt_cmpR (op_eqD hr.units) (pv 1) pe_int (nomark _)) (pss_one (ps_ret (pe_lst (pa_cons (pe_lst (pa_cons (pv 0) pa_nil)) pa_nil)))) pss_nil)
    (pss_cons (ps_setLc (i := 2) (own := [("quarter", 4)]) (g := (gName 4)) (tt := tYes) rfl nd rfl rfl (sw_true rfl rfl rfl (by decide +kernel)) (pi_tup (C8.pe_c c_quarters_of hr (by omega) (by rfl) (pa_cons (pv 0) pa_nil))) (blkOk_by (N := ["tree", "k", "parts", "low", "quarter", "left", "right"]) (sc := defScope s_rows_of) (by decide +kernel)) (fun _ _ _ _ _ => (pg_name (i := 4) nd rfl (Or.inl rfl))) (fun _ _ _ _ _ => pts_nil) (fun _ _ _ _ _ => (C8.pe_c c_rows_of hr (by omega) (by rfl) (pa_cons (pv 4) (pa_cons (pe_op op_subU (pv 1) pe_int) pa_nil)))))
    (pss_cons (ps_setLc (i := 3) (own := [("left", 5), ("right", 6)]) (g := (gTup K 2 (gCons (gName 5) (gCons (gName 6) gNil)))) (tt := tYes) rfl nd rfl rfl (sw_true rfl rfl rfl (by decide +kernel)) (RZ.pi_zipA (by rfl) B.zip_ (pa_cons (pe_ix ix_seq (pv 2) pe_int (fun _ _ => rfl)) (pa_cons (pe_ix ix_seq (pv 2) pe_int (fun _ _ => rfl)) pa_nil))) (blkOk_by (N := ["tree", "k", "parts", "low", "quarter", "left", "right"]) (sc := defScope s_rows_of) (by decide +kernel)) (fun _ _ _ _ _ => (pg_tup rfl (pgs_cons (pg_name (i := 5) nd rfl (Or.inl rfl)) (pgs_cons (pg_name (i := 6) nd rfl (Or.inl rfl)) pgs_nil)))) (fun _ _ _ _ _ => pts_nil) (fun _ _ _ _ _ => (pe_op op_addU (pv 5) (pv 6))))
    (pss_one (ps_ret (pe_op op_addU (pv 3) (pe_lc (own := [("left", 5), ("right", 6)]) (g := (gTup K 2 (gCons (gName 5) (gCons (gName 6) gNil)))) (tt := tYes) rfl nd (RZ.pi_zipA (by rfl) B.zip_ (pa_cons (pe_ix ix_seq (pv 2) pe_int (fun _ _ => rfl)) (pa_cons (pe_ix ix_seq (pv 2) pe_int (fun _ _ => rfl)) pa_nil))) (blkOk_by (N := ["tree", "k", "parts", "low", "quarter", "left", "right"]) (sc := defScope s_rows_of) (by decide +kernel)) (fun _ _ _ _ _ => (pg_tup rfl (pgs_cons (pg_name (i := 5) nd rfl (Or.inl rfl)) (pgs_cons (pg_name (i := 6) nd rfl (Or.inl rfl)) pgs_nil)))) (fun _ _ _ _ _ => pts_nil) (fun _ _ _ _ _ => (pe_op op_addU (pv 5) (pv 6))))))))))

theorem void_rows_of : ∀ args r args', ¬ C_rows_of 0 args r args' := fun _ _ _ ⟨_, _, h, _⟩ => by omega
theorem len_rows_of (n : Nat) : ∀ args r args', C_rows_of n args r args' → args.length = 2 := fun _ _ _ ⟨_, _, _, _, e, _⟩ => by
  rw [e]
  rfl
theorem kids_four (t : Q) : ∃ a b c d, kids t = [a, b, c, d] := by cases t <;> exact ⟨_, _, _, _, rfl⟩
theorem look_succ (k : Nat) (t : Q) (j i : Nat) : look (k + 1) t j i = if j < 2 ^ k then (if i < 2 ^ k then look k (kid t 0) j i else look k (kid t 1) j (i - 2 ^ k)) else if i < 2 ^ k then look k (kid t 2) (j - 2 ^ k) i else look k (kid t 3) (j - 2 ^ k) (i - 2 ^ k) := rfl
theorem eqv_int (a b : Int) : PyData.eqv (.int a) (.int b) = decide (a = b) := by
  show (a == b) = _
  rfl
/-- two rows of lists side by side -/
theorem side {K : PySem.W.Frag} {m : Nat} {x0 x1 x2 x3 x4 x5 x6 : Sl} {i j : Int} {parts : List D} {f g : Pic} (hm : m ≤ 10) (h0 : Dat x5) (h1 : Dat x6) (hx : x2 = .ob true (.L parts)) (hi : atI parts i = some (.list (rowsD m f))) (hj : atI parts j = some (.list (rowsD m g))) :
    EvJ K (tLc (RZ.iZipA K (tCons (tOp (rIx K) (tVar 2) (tC (.int i))) (tCons (tOp (rIx K) (tVar 2) (tC (.int j))) tNil))) (gTup K 2 (gCons (gName 5) (gCons (gName 6) gNil))) tYes (tOp (rAddU K) (tVar 5) (tVar 6)) [5, 6]) [x0, x1, x2, x3, x4, x5, x6]
      (.new (.L ((List.range (2 ^ m)).map fun b => .list ((List.range (2 ^ m)).map (fun a => qD (f b a)) ++ (List.range (2 ^ m)).map (fun a => qD (g b a)))))) [x0, x1, x2, x3, x4, x5, x6] := by
  subst hx
  have hz := sizes m hm
  have hw : NoParV [x0, x1, .ob true (.L parts), x3, x4, x5, x6] [5, 6] := fun i hi o z => by
    simp only [List.mem_cons, List.not_mem_nil, or_false] at hi
    rcases hi with rfl | rfl
    · cases z
      exact h0
    · cases z
      exact h1
  have hl : ∀ n, (List.map (lrow (2 ^ n) f) (List.range (2 ^ n))).length = 2 ^ n := fun n => by rw [List.length_map, List.length_range]
  refine ev_lc (δ1 := [x0, x1, .ob true (.L parts), x3, x4, x5, x6]) (δw := [x0, x1, .ob true (.L parts), x3, x4, .no, .no]) (src_zipL (as := rowsD m f) (bs := rowsD m g) ?_) ?_ rfl rfl hw ?_
  · apply ea_cons
    · exact ev_op (ev_varO rfl) ev_int (od_ix rfl hi)
    · apply ea_cons
      · exact ev_op (ev_varO rfl) ev_int (od_ix rfl hj)
      · exact ea_nil
  · unfold rowsD
    rw [zipD_map]
    refine LcRel.maps (fun x => .tuple [lrow (2 ^ m) f x, lrow (2 ^ m) g x]) _ fun b hb => ⟨[x0, x1, .ob true (.L parts), x3, x4, .fr (lrow (2 ^ m) f b), .fr (lrow (2 ^ m) g b)], ?_, ?_, fun i hi o z => ?_, rfl⟩
    · exact bw_tup (bsw_cons bw_name (bsw_cons (bw_name (by decide) (by intro o z; cases z)) bsw_nil))
    · exact ev_frz (ev_op (ev_var rfl) (ev_var rfl) (od_catL rfl rfl (by rw [List.length_map, List.length_map, List.length_range]; exact Nat.le_trans (Nat.add_le_add hz hz) (by decide))))
    · simp only [List.mem_cons, List.not_mem_nil, or_false] at hi
      rcases hi with rfl | rfl <;> cases z
  · unfold rowsD
    rw [zipD_map, List.length_map, List.length_range]
    exact Nat.le_trans hz (by decide)
theorem run_rows_of {K : PySem.W.Frag} (n : Nat) : BodyOk K (t_rows_of K (C_rows_of n)) 5 (C_rows_of (n + 1)) := by
  rintro args r args' ⟨k, t, hk, hn, rfl, rfl, rfl⟩
  cases k with
  | zero =>
    refine ⟨fun i o h => fr_noob (ds := [qD t, .int ((0 : Nat) : Int)]) i true o h, [.fr (qD t), .fr (.int ((0 : Nat) : Int)), .no, .no, .no, .no, .no], .inl ?_, Nat.le_of_ble_eq_true rfl, rfl⟩
    show StJ K _ [.fr (qD t), .fr (.int ((0 : Nat) : Int)), .no, .no, .no, .no, .no] _
    apply st_ifq (b := true)
    · exact tt_test (ev_op (ev_var rfl) ev_int (od_eq (d1 := .int 0) (d2 := .int 0) rfl rfl rfl rfl))
    · intro _
      apply q_retq
      · apply ev_lst'
        · walk_at "ev"
        · rfl
        · exact Nat.le_of_ble_eq_true rfl
      · rfl
    · intro h
      cases h
  | succ m =>
    obtain ⟨a, b, c, d, hq⟩ := kids_four t
    have hm : m ≤ 10 := by omega
    have hz := sizes m hm
    let parts : List D := [a, b, c, d].map fun x => .list (rowsD m (look m x))
    let δ' : List Sl := [.fr (qD t), .fr (.int ((m + 1 : Nat) : Int)), .ob true (.L parts), .ob true (.L ((List.range (2 ^ m)).map fun y => .list ((List.range (2 ^ m)).map (fun x => qD (look m a y x)) ++ (List.range (2 ^ m)).map (fun x => qD (look m b y x))))), .no, .no, .no]
    refine ⟨fun i o h => fr_noob (ds := [qD t, .int ((m + 1 : Nat) : Int)]) i true o h, δ', .inl ?_, Nat.le_of_ble_eq_true rfl, rfl⟩
    show StJ K _ [.fr (qD t), .fr (.int ((m + 1 : Nat) : Int)), .no, .no, .no, .no, .no] _
    have er : rowsD (m + 1) (look (m + 1) t) = (List.range (2 ^ m)).map (fun y => .list ((List.range (2 ^ m)).map (fun x => qD (look m a y x)) ++ (List.range (2 ^ m)).map (fun x => qD (look m b y x)))) ++ (List.range (2 ^ m)).map (fun y => .list ((List.range (2 ^ m)).map (fun x => qD (look m c y x)) ++ (List.range (2 ^ m)).map (fun x => qD (look m d y x)))) := by
      unfold rowsD lrow
      rw [two_pow_succ, range_two]
      have hk : kid t 0 = a ∧ kid t 1 = b ∧ kid t 2 = c ∧ kid t 3 = d := by
        unfold kid
        rw [hq]
        exact ⟨rfl, rfl, rfl, rfl⟩
      obtain ⟨k0, k1, k2, k3⟩ := hk
      congr 1
      · refine List.map_congr_left fun y hy => ?_
        have hy' : y < 2 ^ m := List.mem_range.mp hy
        rw [range_two]
        congr 2
        · refine List.map_congr_left fun x hx => ?_
          have hx' : x < 2 ^ m := List.mem_range.mp hx
          show qD (look (m + 1) t y x) = _
          rw [look_succ, if_pos hy', if_pos hx', k0]
        · refine List.map_congr_left fun x hx => ?_
          show qD (look (m + 1) t y (2 ^ m + x)) = _
          rw [look_succ, if_pos hy', if_neg (by omega), k1, Nat.add_sub_cancel_left]
      · refine List.map_congr_left fun y hy => ?_
        show PyData.list (List.map (fun i => qD (look (m + 1) t (2 ^ m + y) i)) (List.range (2 ^ m + 2 ^ m))) = _
        rw [range_two]
        congr 2
        · refine List.map_congr_left fun x hx => ?_
          have hx' : x < 2 ^ m := List.mem_range.mp hx
          show qD (look (m + 1) t (2 ^ m + y) x) = _
          rw [look_succ, if_neg (by omega), if_pos hx', k2, Nat.add_sub_cancel_left]
        · refine List.map_congr_left fun x hx => ?_
          show qD (look (m + 1) t (2 ^ m + y) (2 ^ m + x)) = _
          rw [look_succ, if_neg (by omega), if_neg (by omega), k3, Nat.add_sub_cancel_left, Nat.add_sub_cancel_left]
    apply st_ifq (b := false)
    · have e : false = PyData.eqv (.int ((m + 1 : Nat) : Int)) (.int 0) := by
        rw [eqv_int, decide_eq_false (by omega)]
      rw [e]
      walk_at "ev"
    · intro h
      cases h
    · intro _
      apply st_nextq
      apply q_setN
      · refine ev_lc (δw := [.fr (qD t), .fr (.int ((m + 1 : Nat) : Int)), .no, .no, .no, .no, .no]) (ys := parts) (src_tup (ds := (kids t).map qD) ?_) ?_ rfl rfl (fun i hi => ?_) ?_
        · apply ev_callP
          · walk_at "ev"
          · rfl
          · exact ⟨t, rfl, rfl⟩
        · rw [hq]
          refine LcRel.maps qD (fun x => .list (rowsD m (look m x))) fun x hx => ⟨[.fr (qD t), .fr (.int ((m + 1 : Nat) : Int)), .no, .no, .fr (qD x), .no, .no], bw_name, ?_, fun i hi o z => ?_, rfl⟩
          · apply ev_frz
            apply ev_callF (ds := [qD x, .int (m : Int)])
            · apply ea_cons
              · exact ev_var rfl
              · refine ea_cons (r := .fr (.int (m : Int))) ?_ ea_nil
                apply EvJ.conv
                · walk_at "ev"
                · congr 1
                  omega
            · rfl
            · exact ⟨m, x, by omega, by omega, rfl, rfl, rfl⟩
            · rfl
          · rw [List.mem_singleton.mp hi] at z
            cases z
        · rw [List.mem_singleton.mp hi]
          intro o z
          cases z
        · rw [hq]
          exact Nat.le_of_ble_eq_true rfl
      · exact Nat.le_of_ble_eq_true rfl
      · walk_at "np"
      apply q_setN
      · exact side (parts := parts) (f := look m a) (g := look m b) hm trivial trivial rfl rfl rfl
      · exact Nat.le_of_ble_eq_true rfl
      · walk_at "np"
      rw [er]
      apply q_ret
      · apply ev_op
        · exact ev_varO rfl
        · exact side (parts := parts) (f := look m c) (g := look m d) hm trivial trivial rfl rfl rfl
        · refine od_catL rfl rfl ?_
          rw [List.length_map, List.length_map, List.length_range]
          exact Nat.le_trans (Nat.add_le_add hz hz) (by decide)
      · rfl
theorem ok_rows_of {P : Program} {w : World} {K : PySem.W.Frag} {mg : Str → Option Value} {base : Heap} (B : Blt mg) (Df : DefAt K mg "rows_of" s_rows_of ["tree", "k"]) (c_quarters_of : C8.Cal P w K mg base 2 "quarters_of" (spD K C_quarters_of) []) : ∀ n : Nat, C8.Cal P w K mg base (2 + n + 1) "rows_of" (spD K (C_rows_of n)) []
  | 0 => cal_void Df sc_rows_of void_rows_of
  | n + 1 => cal_of Df sc_rows_of (len_rows_of (n + 1)) rfl fun f cdv A outer s H E hr => ⟨t_rows_of K (C_rows_of n), tm_rows_of B (L := 2 + n + 1) (by omega) c_quarters_of (ok_rows_of B Df c_quarters_of n) hr, run_rows_of n⟩

def F_picture_of (ds : List D) (d : D) : Prop := ∃ (k : Nat) (t : Q), k ≤ 3 ∧ ds = [qD t, .int (k : Int)] ∧ d = picD (2 ^ k) (look k t)
abbrev C_picture_of : Con := CP F_picture_of
/-! picture_of: slots 0 tree, 1 k, 2 row -/
abbrev s_picture_of : Stmt := topS 7
theorem sc_picture_of : FnScope ["tree", "k", "row"] ["tree", "k"] (defScope s_picture_of) := ⟨rfl, rfl, rfl, by decide +kernel, rfl, by decide +kernel, by decide +kernel⟩
def t_picture_of (K : PySem.W.Frag) : TS :=
  (tRet (tCB (rTupU K) (tCons (tLc (iList K (tCall (spD K (C_rows_of 4)) [] E0 (tCons (tVar 0) (tCons (tVar 1) tNil)))) (gName 2) tYes (tCB (rTupU K) (tCons (tVar 2) tNil)) [2]) tNil)))
theorem tm_picture_of {P : Program} {w : World} {K : PySem.W.Frag} {mg : Str → Option Value} {base : Heap} (B : Blt mg) (c_rows_of : C8.Cal P w K mg base 7 "rows_of" (spD K (C_rows_of 4)) []) {f : Addr} {cdv : Value} {A : Around} {outer : List Env} {s : Shared} {H : Hp} {E : XK} (hr : Room 7 (A.deeper (envOfC "picture_of" (defScope s_picture_of) s.heap.objs.size f cdv))) :
    PSs (cxOf CX0 P w K mg base ["tree", "k", "row"] "picture_of" (defScope s_picture_of) f cdv A outer s H E).nox (defBody s_picture_of) (t_picture_of K) := by
  have nd := sc_picture_of.nd
  exact (pss_one (ps_ret (pe_callTy call_tupU (by rfl) B.tuple_ boot_tuple (pa_cons (pe_lc (own := [("row", 2)]) (g := (gName 2)) (tt := tYes) rfl nd (pi_list (C8.pe_c c_rows_of hr (by omega) (by rfl) (pa_cons (pv 0) (pa_cons (pv 1) pa_nil)))) (blkOk_by (N := ["tree", "k", "row"]) (sc := defScope s_picture_of) (by decide +kernel)) (fun _ _ _ _ _ => (pg_name (i := 2) nd rfl (Or.inl rfl))) (fun _ _ _ _ _ => pts_nil) (fun _ _ _ _ _ => (pe_callTy call_tupU (by rfl) B.tuple_ boot_tuple (pa_cons (pv 2) pa_nil)))) pa_nil))))

theorem run_picture_of {K : PySem.W.Frag} : BodyOk K (t_picture_of K) 1 C_picture_of := by
  refine body_pure ?_
  rintro ds d ⟨k, t, hk, rfl, rfl⟩
  have hz := sizes k (by omega)
  refine ⟨[.fr (qD t), .fr (.int (k : Int)), .no], ?_, Nat.le_of_ble_eq_true rfl⟩
  show StJ K _ [.fr (qD t), .fr (.int (k : Int)), .no] _
  apply q_ret
  · apply ev_cb
    · apply ea_cons
      · refine ev_lc (δw := [.fr (qD t), .fr (.int (k : Int)), .no]) (src_list (ds := rowsD k (look k t)) ?_) (LcRel.maps (lrow (2 ^ k) (look k t)) (rowD (2 ^ k) (look k t)) fun j hj => ⟨[.fr (qD t), .fr (.int (k : Int)), .fr (lrow (2 ^ k) (look k t) j)], bw_name, ?_, fun i hi o z => ?_, rfl⟩) rfl rfl (fun i hi => ?_) ?_
        · apply ev_frz
          apply ev_callF
          · walk_at "ev"
          · rfl
          · exact ⟨k, t, by omega, by omega, rfl, rfl, rfl⟩
          · rfl
        · exact ev_cb (ea_cons (ev_var rfl) ea_nil) (cd_tup rfl)
        · rw [List.mem_singleton.mp hi] at z
          cases z
        · rw [List.mem_singleton.mp hi]
          intro o z
          cases z
        · unfold rowsD
          rw [List.length_map, List.length_range]
          exact Nat.le_trans hz (by decide)
      · exact ea_nil
    · exact cd_tup rfl
  · rfl
theorem len_picture_of : ∀ args r args', C_picture_of args r args' → args.length = 2 := lenP fun ds d h => by
  obtain ⟨k, t, _, rfl, _⟩ := h
  rfl
theorem ok_picture_of {P : Program} {w : World} {K : PySem.W.Frag} {mg : Str → Option Value} {base : Heap} (B : Blt mg) (Df : DefAt K mg "picture_of" s_picture_of ["tree", "k"]) (c_rows_of : C8.Cal P w K mg base 7 "rows_of" (spD K (C_rows_of 4)) []) : C8.Cal P w K mg base 8 "picture_of" (spD K C_picture_of) [] :=
  cal_of Df sc_picture_of len_picture_of rfl fun f cdv A outer s H E hr => ⟨t_picture_of K, tm_picture_of B c_rows_of hr, run_picture_of⟩


end DL
namespace DL
open PySem PySem.Spec PyProof.Rows L2
local macro_rules | `(tactic| walk_at "len") => `(tactic| exact Nat.le_of_ble_eq_true rfl)
local macro_rules | `(tactic| walk_at "np") => `(tactic| (intro o z; cases z))
local macro_rules | `(tactic| walk_at "od") => `(tactic| first
  | exact od_addI | exact od_subI | exact od_subB | exact od_I0b | exact od_I0
  | exact od_ix rfl rfl | exact od_eq rfl rfl rfl rfl | exact od_ne rfl rfl rfl rfl | exact od_isN | exact od_notN
  | with_reducible apply od_mulI | with_reducible apply od_I | exact ud_I)
local macro_rules | `(tactic| walk_at "cd") => `(tactic| first
  | exact cd_len rfl | exact cd_abs | exact cd_int | exact cd_intB | exact cd_gcd | exact cd_tup rfl | exact cd_lst rfl)
local macro_rules | `(tactic| walk_at "ev1") => `(tactic| first
  | exact ev_int | exact ev_bl | exact ev_str | exact ev_non | exact ev_var rfl | exact ev_varO rfl
  | with_reducible apply ev_op | with_reducible apply ev_un
  | exact ea_nil | with_reducible apply ea_cons
  | with_reducible apply ev_isi | with_reducible apply ev_dget
  | with_reducible apply ev_cb
  | with_reducible apply ev_tup' | with_reducible apply ev_lstF
  | with_reducible apply tt_test | with_reducible apply tt_B | with_reducible apply tt_not
  | walk_at "od" | walk_at "cd" | walk_at "len" | rfl)
local macro_rules | `(tactic| walk_at "ev") => `(tactic| repeat' walk_at "ev1")
local macro_rules | `(tactic| walk_at "set") => `(tactic| (with_reducible apply q_set; rotate_left; walk_at "np"; rotate_left; walk_at "ev"))

/-! ### leaves, mended, _law_tree, _law_leaves -/
def F_leaves (n : Nat) (ds : List D) (d : D) : Prop := ∃ t : Q, dep t < n ∧ ds = [qD t] ∧ d = .int (leafs t)
abbrev C_leaves (n : Nat) : Con := CP (F_leaves n)
/-! leaves: slots 0 tree, 1 quarter -/
abbrev s_leaves : Stmt := topS 8
theorem sc_leaves : FnScope ["tree", "quarter"] ["tree"] (defScope s_leaves) := ⟨rfl, rfl, rfl, by decide +kernel, rfl, by decide +kernel, by decide +kernel⟩
def t_leaves (K : PySem.W.Frag) (C_leaves : Con) : TS :=
  (tRet (tIf (tB (tCall (spD K C_is_colour) [] E0 (tCons (tVar 0) tNil))) (tC (.int 1)) (tCB (rSum K) (tCons (tLc (iTup K (tVar 0)) (gName 1) tYes (tCall (spD K C_leaves) [] E0 (tCons (tVar 1) tNil)) [1]) tNil))))
theorem tm_leaves {P : Program} {w : World} {K : PySem.W.Frag} {mg : Str → Option Value} {base : Heap} (B : Blt mg) {C_leaves : Con} {L : Nat} (hL : 1 ≤ L) (c_is_colour : C8.Cal P w K mg base 1 "is_colour" (spD K C_is_colour) []) (c_leaves : C8.Cal P w K mg base L "leaves" (spD K C_leaves) []) {f : Addr} {cdv : Value} {A : Around} {outer : List Env} {s : Shared} {H : Hp} {E : XK} (hr : Room L (A.deeper (envOfC "leaves" (defScope s_leaves) s.heap.objs.size f cdv))) :
    PSs (cxOf CX0 P w K mg base ["tree", "quarter"] "leaves" (defScope s_leaves) f cdv A outer s H E).nox (defBody s_leaves) (t_leaves K C_leaves) := by
  have nd := sc_leaves.nd
  exact (pss_one (ps_ret (pe_ifExp (pt_val (C8.pe_c c_is_colour hr (by omega) (by rfl) (pa_cons (pv 0) pa_nil))) pe_int (pe_callB (cr_sum rfl) (by rfl) B.sum_ boot_sum (pa_cons (pe_lc (own := [("quarter", 1)]) (g := (gName 1)) (tt := tYes) rfl nd (pi_tup (pv 0)) (blkOk_by (N := ["tree", "quarter"]) (sc := defScope s_leaves) (by decide +kernel)) (fun _ _ _ _ _ => (pg_name (i := 1) nd rfl (Or.inl rfl))) (fun _ _ _ _ _ => pts_nil) (fun _ _ _ _ _ => (C8.pe_c c_leaves hr (by omega) (by rfl) (pa_cons (pv 1) pa_nil)))) pa_nil)))))

theorem void_leaves : ∀ args r args', ¬ C_leaves 0 args r args' := fun _ _ _ ⟨_, _, ⟨_, h, _⟩, _⟩ => by omega
theorem len_leaves (n : Nat) : ∀ args r args', C_leaves n args r args' → args.length = 1 := lenP fun ds d h => by
  obtain ⟨_, _, rfl, _⟩ := h
  rfl
theorem np1 {x : Sl} {d : D} : NoParV [x, .fr d] [1] := fun i hi o z => by
  rw [List.mem_singleton.mp hi] at z
  cases z
theorem np1' {x : Sl} : NoParV [x, .no] [1] := fun i hi o z => by
  rw [List.mem_singleton.mp hi] at z
  cases z
theorem run_leaves {K : PySem.W.Frag} (n : Nat) : BodyOk K (t_leaves K (C_leaves n)) 1 (C_leaves (n + 1)) := by
  refine body_pure ?_
  rintro ds d ⟨t, ht, rfl, rfl⟩
  refine ⟨[.fr (qD t), .no], ?_, Nat.le_of_ble_eq_true rfl⟩
  show StJ K _ [.fr (qD t), .no] _
  apply q_ret (r := .fr (.int (leafs t)))
  · apply ev_if (b := isC t)
    · apply tt_B
      apply ev_callP
      · walk_at "ev"
      · rfl
      · exact ⟨t, rfl, rfl⟩
    · intro h
      cases t with
      | c p q => exact ev_int
      | n _ _ _ _ => cases h
    · intro h
      cases t with
      | c p q => cases h
      | n a b c e =>
        have hk := dep_kid (t := .n a b c e) (k := n - 1) (by omega)
        have hn : 0 < n := by
          have h' : max (max (dep a) (dep b)) (max (dep c) (dep e)) + 1 < n + 1 := ht
          omega
        apply ev_cb
        · apply ea_cons
          · exact ev_lc (ys := [a, b, c, e].map fun x => .int (leafs x)) (δw := [.fr (qD (.n a b c e)), .no]) (src_tup (ev_var rfl)) (LcRel.maps (ls := [a, b, c, e]) qD _ fun x hx => ⟨[.fr (qD (.n a b c e)), .fr (qD x)], bw_name, by
              apply ev_callP
              · walk_at "ev"
              · rfl
              · exact ⟨x, Nat.lt_of_le_of_lt (hk x hx) (by omega), rfl, rfl⟩, np1, rfl⟩) rfl rfl np1' (Nat.le_of_ble_eq_true rfl)
          · exact ea_nil
        · exact cd_sum (bs := [leafs a, leafs b, leafs c, leafs e]) rfl
  · rfl
theorem ok_leaves {P : Program} {w : World} {K : PySem.W.Frag} {mg : Str → Option Value} {base : Heap} (B : Blt mg) (Df : DefAt K mg "leaves" s_leaves ["tree"]) (c_is_colour : C8.Cal P w K mg base 1 "is_colour" (spD K C_is_colour) []) : ∀ n : Nat, C8.Cal P w K mg base (1 + n + 1) "leaves" (spD K (C_leaves n)) []
  | 0 => cal_void Df sc_leaves void_leaves
  | n + 1 => cal_of Df sc_leaves (len_leaves (n + 1)) rfl fun f cdv A outer s H E hr => ⟨t_leaves K (C_leaves n), tm_leaves B (L := 1 + n + 1) (by omega) c_is_colour (ok_leaves B Df c_is_colour n) hr, run_leaves n⟩

def F__law_leaves (n : Nat) (ds : List D) (d : D) : Prop := ∃ t : Q, dep t < n ∧ ds = [qD t] ∧ d = .int (leafs t)
abbrev C__law_leaves (n : Nat) : Con := CP (F__law_leaves n)
/-! _law_leaves: slots 0 _law_tree_here, 1 _law_part -/
abbrev s__law_leaves : Stmt := topS 17
theorem sc__law_leaves : FnScope ["_law_tree_here", "_law_part"] ["_law_tree_here"] (defScope s__law_leaves) := ⟨rfl, rfl, rfl, by decide +kernel, rfl, by decide +kernel, by decide +kernel⟩
def t__law_leaves (K : PySem.W.Frag) (C__law_leaves : Con) : TS :=
  (tRet (tIf (tTest (tOp (rEqD K) (tCB (rLenU K) (tCons (tVar 0) tNil)) (tC (.int 3)))) (tC (.int 1)) (tCB (rSum K) (tCons (tLc (iTup K (tVar 0)) (gName 1) tYes (tCall (spD K C__law_leaves) [] E0 (tCons (tVar 1) tNil)) [1]) tNil))))
theorem tm__law_leaves {P : Program} {w : World} {K : PySem.W.Frag} {mg : Str → Option Value} {base : Heap} (B : Blt mg) {C__law_leaves : Con} {L : Nat} (hL : 0 ≤ L) (c__law_leaves : C8.Cal P w K mg base L "_law_leaves" (spD K C__law_leaves) []) {f : Addr} {cdv : Value} {A : Around} {outer : List Env} {s : Shared} {H : Hp} {E : XK} (hr : Room L (A.deeper (envOfC "_law_leaves" (defScope s__law_leaves) s.heap.objs.size f cdv))) :
    PSs (cxOf CX0 P w K mg base ["_law_tree_here", "_law_part"] "_law_leaves" (defScope s__law_leaves) f cdv A outer s H E).nox (defBody s__law_leaves) (t__law_leaves K C__law_leaves) := by
  have nd := sc__law_leaves.nd
  exact (pss_one (ps_ret (pe_ifExp (pt_cmpR (op_eqD hr.units) (pe_callB call_lenU (by rfl) B.len_ PySem.boot_len (pa_cons (pv 0) pa_nil)) pe_int (nomark _)) pe_int (pe_callB (cr_sum rfl) (by rfl) B.sum_ boot_sum (pa_cons (pe_lc (own := [("_law_part", 1)]) (g := (gName 1)) (tt := tYes) rfl nd (pi_tup (pv 0)) (blkOk_by (N := ["_law_tree_here", "_law_part"]) (sc := defScope s__law_leaves) (by decide +kernel)) (fun _ _ _ _ _ => (pg_name (i := 1) nd rfl (Or.inl rfl))) (fun _ _ _ _ _ => pts_nil) (fun _ _ _ _ _ => (C8.pe_c c__law_leaves hr (by omega) (by rfl) (pa_cons (pv 1) pa_nil)))) pa_nil)))))

theorem void__law_leaves : ∀ args r args', ¬ C__law_leaves 0 args r args' := fun _ _ _ ⟨_, _, ⟨_, h, _⟩, _⟩ => by omega
theorem len__law_leaves (n : Nat) : ∀ args r args', C__law_leaves n args r args' → args.length = 1 := lenP fun ds d h => by
  obtain ⟨_, _, rfl, _⟩ := h
  rfl
theorem run__law_leaves {K : PySem.W.Frag} (n : Nat) : BodyOk K (t__law_leaves K (C__law_leaves n)) 1 (C__law_leaves (n + 1)) := by
  refine body_pure ?_
  rintro ds d ⟨t, ht, rfl, rfl⟩
  refine ⟨[.fr (qD t), .no], ?_, Nat.le_of_ble_eq_true rfl⟩
  show StJ K _ [.fr (qD t), .no] _
  apply q_ret (r := .fr (.int (leafs t)))
  · apply ev_if (b := isC t)
    · have e : isC t = PyData.eqv (.int ((qL t).length : Int)) (.int 3) := by cases t <;> rfl
      rw [e, qD_eq]
      walk_at "ev"
    · intro h
      cases t with
      | c p q => exact ev_int
      | n _ _ _ _ => cases h
    · intro h
      cases t with
      | c p q => cases h
      | n a b c e =>
        have hk := dep_kid (t := .n a b c e) (k := n - 1) (by omega)
        have hn : 0 < n := by
          have h' : max (max (dep a) (dep b)) (max (dep c) (dep e)) + 1 < n + 1 := ht
          omega
        apply ev_cb
        · apply ea_cons
          · exact ev_lc (ys := [a, b, c, e].map fun x => .int (leafs x)) (δw := [.fr (qD (.n a b c e)), .no]) (src_tup (ev_var rfl)) (LcRel.maps (ls := [a, b, c, e]) qD _ fun x hx => ⟨[.fr (qD (.n a b c e)), .fr (qD x)], bw_name, by
              apply ev_callP
              · walk_at "ev"
              · rfl
              · exact ⟨x, Nat.lt_of_le_of_lt (hk x hx) (by omega), rfl, rfl⟩, np1, rfl⟩) rfl rfl np1' (Nat.le_of_ble_eq_true rfl)
          · exact ea_nil
        · exact cd_sum (bs := [leafs a, leafs b, leafs c, leafs e]) rfl
  · rfl
theorem ok__law_leaves {P : Program} {w : World} {K : PySem.W.Frag} {mg : Str → Option Value} {base : Heap} (B : Blt mg) (Df : DefAt K mg "_law_leaves" s__law_leaves ["_law_tree_here"]) : ∀ n : Nat, C8.Cal P w K mg base (0 + n + 1) "_law_leaves" (spD K (C__law_leaves n)) []
  | 0 => cal_void Df sc__law_leaves void__law_leaves
  | n + 1 => cal_of Df sc__law_leaves (len__law_leaves (n + 1)) rfl fun f cdv A outer s H E hr => ⟨t__law_leaves K (C__law_leaves n), tm__law_leaves B (L := 0 + n + 1) (by omega) (ok__law_leaves B Df n) hr, run__law_leaves n⟩

/-! _law_tree -/
def cellsD (n : Nat) (f : Pic) : D := .list ((List.range n).map (lrow n f))
def F__law_tree (n : Nat) (ds : List D) (d : D) : Prop := ∃ (m N i j : Nat) (f : Pic), m < n ∧ n ≤ 10 ∧ (∀ j i, dep (f j i) = 0) ∧ i + 2 ^ m ≤ N ∧ j + 2 ^ m ≤ N ∧ ds = [cellsD N f, .int (i : Int), .int (j : Int), .int ((2 ^ m : Nat) : Int)] ∧ d = qD (tree m fun b a => f (j + b) (i + a))
abbrev C__law_tree (n : Nat) : Con := CP (F__law_tree n)
/-! _law_tree: slots 0 _law_cells, 1 _law_i, 2 _law_j, 3 _law_size, 4 _law_half, 5 _law_parts -/
abbrev s__law_tree : Stmt := topS 16
theorem sc__law_tree : FnScope ["_law_cells", "_law_i", "_law_j", "_law_size", "_law_half", "_law_parts"] ["_law_cells", "_law_i", "_law_j", "_law_size"] (defScope s__law_tree) := ⟨rfl, rfl, rfl, by decide +kernel, rfl, by decide +kernel, by decide +kernel⟩
def t__law_tree (K : PySem.W.Frag) (C__law_tree : Con) : TS :=
  (tSeq (tIfS (tTest (tOp (rEqD K) (tVar 3) (tC (.int 1)))) (tRet (tOp (rIx K) (tOp (rIx K) (tVar 0) (tVar 2)) (tVar 1))) tNext)
    (tSeq (tAsg (tOp (rI CDivR fun i j => .int (i.fdiv j)) (tVar 3) (tC (.int 2))) (gName 4))
    (tSeq (tAsg (tLst (tCons (tCall (spD K C__law_tree) [] E0 (tCons (tVar 0) (tCons (tVar 1) (tCons (tVar 2) (tCons (tVar 4) tNil))))) (tCons (tCall (spD K C__law_tree) [] E0 (tCons (tVar 0) (tCons (tOp (rAddU K) (tVar 1) (tVar 4)) (tCons (tVar 2) (tCons (tVar 4) tNil))))) tNil))) (gName 5))
    (tSeq (tAsg (tOp (rAddU K) (tVar 5) (tLst (tCons (tCall (spD K C__law_tree) [] E0 (tCons (tVar 0) (tCons (tVar 1) (tCons (tOp (rAddU K) (tVar 2) (tVar 4)) (tCons (tVar 4) tNil))))) (tCons (tCall (spD K C__law_tree) [] E0 (tCons (tVar 0) (tCons (tOp (rAddU K) (tVar 1) (tVar 4)) (tCons (tOp (rAddU K) (tVar 2) (tVar 4)) (tCons (tVar 4) tNil))))) tNil)))) (gName 5))
    (tSeq (tIfS (tAnd (tTest (tOp (rEqD K) (tCB (rLenU K) (tCons (tOp (rIx K) (tVar 5) (tC (.int 0))) tNil)) (tC (.int 3)))) (tAnd (tTest (tOp (rEqD K) (tOp (rIx K) (tVar 5) (tC (.int 1))) (tOp (rIx K) (tVar 5) (tC (.int 0))))) (tAnd (tTest (tOp (rEqD K) (tOp (rIx K) (tVar 5) (tC (.int 2))) (tOp (rIx K) (tVar 5) (tC (.int 0))))) (tTest (tOp (rEqD K) (tOp (rIx K) (tVar 5) (tC (.int 3))) (tOp (rIx K) (tVar 5) (tC (.int 0)))))))) (tRet (tOp (rIx K) (tVar 5) (tC (.int 0)))) tNext)
    (tRet (tCB (rTupU K) (tCons (tVar 5) tNil))))))))
theorem tm__law_tree {P : Program} {w : World} {K : PySem.W.Frag} {mg : Str → Option Value} {base : Heap} (B : Blt mg) {C__law_tree : Con} {L : Nat} (hL : 0 ≤ L) (c__law_tree : C8.Cal P w K mg base L "_law_tree" (spD K C__law_tree) []) {f : Addr} {cdv : Value} {A : Around} {outer : List Env} {s : Shared} {H : Hp} {E : XK} (hr : Room L (A.deeper (envOfC "_law_tree" (defScope s__law_tree) s.heap.objs.size f cdv))) :
    PSs (cxOf CX0 P w K mg base ["_law_cells", "_law_i", "_law_j", "_law_size", "_law_half", "_law_parts"] "_law_tree" (defScope s__law_tree) f cdv A outer s H E).nox (defBody s__law_tree) (t__law_tree K C__law_tree) := by
  have nd := sc__law_tree.nd
  exact (pss_cons (ps_if (pt_cmpR (op_eqD hr.units) (pv 3) pe_int (nomark _)) (pss_one (ps_ret (pe_ix ix_seq (pe_ix ix_seq (pv 0) (pv 2) (fun _ _ => rfl)) (pv 1) (fun _ _ => rfl)))) pss_nil)
    (pss_cons (ps_set (i := 4) nd rfl (Or.inl rfl) (pe_op op_fdivR (pv 3) pe_int))
    (pss_cons (ps_set (i := 5) nd rfl (Or.inl rfl) (pe_lst (pa_cons (C8.pe_c c__law_tree hr (by omega) (by rfl) (pa_cons (pv 0) (pa_cons (pv 1) (pa_cons (pv 2) (pa_cons (pv 4) pa_nil))))) (pa_cons (C8.pe_c c__law_tree hr (by omega) (by rfl) (pa_cons (pv 0) (pa_cons (pe_op op_addU (pv 1) (pv 4)) (pa_cons (pv 2) (pa_cons (pv 4) pa_nil))))) pa_nil))))
    (pss_cons (ps_set (i := 5) nd rfl (Or.inl rfl) (pe_op op_addU (pv 5) (pe_lst (pa_cons (C8.pe_c c__law_tree hr (by omega) (by rfl) (pa_cons (pv 0) (pa_cons (pv 1) (pa_cons (pe_op op_addU (pv 2) (pv 4)) (pa_cons (pv 4) pa_nil))))) (pa_cons (C8.pe_c c__law_tree hr (by omega) (by rfl) (pa_cons (pv 0) (pa_cons (pe_op op_addU (pv 1) (pv 4)) (pa_cons (pe_op op_addU (pv 2) (pv 4)) (pa_cons (pv 4) pa_nil))))) pa_nil)))))
    (pss_cons (ps_if ((pw_and (pt_cmpR (op_eqD hr.units) (pe_callB call_lenU (by rfl) B.len_ PySem.boot_len (pa_cons (pe_ix ix_seq (pv 5) pe_int (fun _ _ => rfl)) pa_nil)) pe_int (nomark _)) (pw_and (pt_cmpR (op_eqD hr.units) (pe_ix ix_seq (pv 5) pe_int (fun _ _ => rfl)) (pe_ix ix_seq (pv 5) pe_int (fun _ _ => rfl)) (nomark _)) (pw_and (pt_cmpR (op_eqD hr.units) (pe_ix ix_seq (pv 5) pe_int (fun _ _ => rfl)) (pe_ix ix_seq (pv 5) pe_int (fun _ _ => rfl)) (nomark _)) (pw_and1 (pt_cmpR (op_eqD hr.units) (pe_ix ix_seq (pv 5) pe_int (fun _ _ => rfl)) (pe_ix ix_seq (pv 5) pe_int (fun _ _ => rfl)) (nomark _))))))).pt (pss_one (ps_ret (pe_ix ix_seq (pv 5) pe_int (fun _ _ => rfl)))) pss_nil)
    (pss_one (ps_ret (pe_callTy call_tupU (by rfl) B.tuple_ boot_tuple (pa_cons (pv 5) pa_nil)))))))))

theorem void__law_tree : ∀ args r args', ¬ C__law_tree 0 args r args' := fun _ _ _ ⟨_, _, ⟨_, _, _, _, _, h, _⟩, _⟩ => by omega
theorem len__law_tree (n : Nat) : ∀ args r args', C__law_tree n args r args' → args.length = 4 := lenP fun ds d h => by
  obtain ⟨_, _, _, _, _, _, _, _, _, _, rfl, _⟩ := h
  rfl
theorem at_range {α : Type} {n i : Nat} (g : Nat → α) (h : i < n) : atI ((List.range n).map g) (i : Int) = some (g i) := atI_nat (by rw [List.getElem?_map, List.getElem?_range h]; rfl)
theorem dep_kidl (t : Q) : (qL t).length = if isC t then 3 else 4 := by cases t <;> rfl
theorem run__law_tree {K : PySem.W.Frag} (n : Nat) : BodyOk K (t__law_tree K (C__law_tree n)) 2 (C__law_tree (n + 1)) := by
  refine body_pure ?_
  rintro ds d ⟨m, N, i, j, f, hm, hn, hf, hi, hj, rfl, rfl⟩
  cases m with
  | zero =>
    refine ⟨[.fr (cellsD N f), .fr (.int (i : Int)), .fr (.int (j : Int)), .fr (.int 1), .no, .no], ?_, Nat.le_of_ble_eq_true rfl⟩
    show StJ K _ [.fr (cellsD N f), .fr (.int (i : Int)), .fr (.int (j : Int)), .fr (.int 1), .no, .no] _
    apply st_ifq (b := true)
    · exact tt_test (ev_op (ev_var rfl) ev_int (od_eq (d1 := .int 1) (d2 := .int 1) rfl rfl rfl rfl))
    · intro _
      apply q_retq
      · exact ev_op (ev_op (ev_var rfl) (ev_var rfl) (od_ix rfl (at_range (lrow N f) (i := j) (by omega)))) (ev_var rfl) (od_ix rfl (at_range _ (i := i) (by omega)))
      · rfl
    · intro h
      cases h
  | succ m =>
    rw [two_pow_succ] at hi hj
    have hp := Nat.two_pow_pos m
    let h : Nat := 2 ^ m
    let a : Q := tree m fun y x => f (j + y) (i + x)
    let b : Q := tree m fun y x => f (j + y) (i + (2 ^ m + x))
    let c : Q := tree m fun y x => f (j + (2 ^ m + y)) (i + x)
    let e : Q := tree m fun y x => f (j + (2 ^ m + y)) (i + (2 ^ m + x))
    have da : dep a ≤ 50 := Nat.le_trans (dep_tree0 m _ fun _ _ => hf _ _) (by omega)
    have db : dep b ≤ 50 := Nat.le_trans (dep_tree0 m _ fun _ _ => hf _ _) (by omega)
    have dc : dep c ≤ 50 := Nat.le_trans (dep_tree0 m _ fun _ _ => hf _ _) (by omega)
    have de : dep e ≤ 50 := Nat.le_trans (dep_tree0 m _ fun _ _ => hf _ _) (by omega)
    refine ⟨[.fr (cellsD N f), .fr (.int (i : Int)), .fr (.int (j : Int)), .fr (.int ((2 ^ (m + 1) : Nat) : Int)), .fr (.int ((2 ^ m : Nat) : Int)), .ob true (.L [qD a, qD b, qD c, qD e])], ?_, Nat.le_of_ble_eq_true rfl⟩
    show StJ K _ [.fr (cellsD N f), .fr (.int (i : Int)), .fr (.int (j : Int)), .fr (.int ((2 ^ (m + 1) : Nat) : Int)), .no, .no] _
    have hcall : ∀ (x5 : Sl) (u v : Nat) (tu tv : TE) (w : Q), i + u + 2 ^ m ≤ N → j + v + 2 ^ m ≤ N → w = tree m (fun y x => f (j + (v + y)) (i + (u + x))) →
        EvJ K tu [.fr (cellsD N f), .fr (.int (i : Int)), .fr (.int (j : Int)), .fr (.int ((2 ^ (m + 1) : Nat) : Int)), .fr (.int ((2 ^ m : Nat) : Int)), x5] (.fr (.int ((i + u : Nat) : Int))) [.fr (cellsD N f), .fr (.int (i : Int)), .fr (.int (j : Int)), .fr (.int ((2 ^ (m + 1) : Nat) : Int)), .fr (.int ((2 ^ m : Nat) : Int)), x5] →
        EvJ K tv [.fr (cellsD N f), .fr (.int (i : Int)), .fr (.int (j : Int)), .fr (.int ((2 ^ (m + 1) : Nat) : Int)), .fr (.int ((2 ^ m : Nat) : Int)), x5] (.fr (.int ((j + v : Nat) : Int))) [.fr (cellsD N f), .fr (.int (i : Int)), .fr (.int (j : Int)), .fr (.int ((2 ^ (m + 1) : Nat) : Int)), .fr (.int ((2 ^ m : Nat) : Int)), x5] →
        EvJ K (tCall (spD K (C__law_tree n)) [] E0 (tCons (tVar 0) (tCons tu (tCons tv (tCons (tVar 4) tNil))))) [.fr (cellsD N f), .fr (.int (i : Int)), .fr (.int (j : Int)), .fr (.int ((2 ^ (m + 1) : Nat) : Int)), .fr (.int ((2 ^ m : Nat) : Int)), x5] (.fr (qD w)) [.fr (cellsD N f), .fr (.int (i : Int)), .fr (.int (j : Int)), .fr (.int ((2 ^ (m + 1) : Nat) : Int)), .fr (.int ((2 ^ m : Nat) : Int)), x5] := by
      intro x5 u v tu tv w h1 h2 hw e1 e2
      refine ev_callP (ea_cons (ev_var rfl) (ea_cons e1 (ea_cons e2 (ea_cons (ev_var rfl) ea_nil)))) rfl ⟨m, N, i + u, j + v, f, by omega, by omega, hf, h1, h2, rfl, ?_⟩
      rw [hw]
      congr 2
      funext y x
      rw [Nat.add_assoc, Nat.add_assoc]
    have i0 : ∀ (δ : List Sl) (w : Nat) (k : Nat), δ[w]? = some (.fr (.int (k : Int))) → EvJ K (tVar w) δ (.fr (.int ((k + 0 : Nat) : Int))) δ := fun δ w k h => ev_var h
    have i1 : ∀ (δ : List Sl) (w : Nat) (k : Nat), δ[w]? = some (.fr (.int (k : Int))) → δ[4]? = some (.fr (.int ((2 ^ m : Nat) : Int))) → EvJ K (tOp (rAddU K) (tVar w) (tVar 4)) δ (.fr (.int ((k + 2 ^ m : Nat) : Int))) δ := fun δ w k h h' => ev_op (ev_var h) (ev_var h') od_addI
    apply st_ifq (b := false)
    · have e : false = PyData.eqv (.int ((2 ^ (m + 1) : Nat) : Int)) (.int 1) := by
        rw [eqv_int, decide_eq_false]
        have := Nat.two_pow_pos m
        rw [two_pow_succ]
        omega
      rw [e]
      walk_at "ev"
    · intro h
      cases h
    · intro _
      apply st_nextq
      apply q_set (d := .int ((2 ^ m : Nat) : Int))
      · apply EvJ.conv
        · walk_at "ev"
          exact ⟨by decide, by decide⟩
        · rw [fdiv_half]
      · walk_at "np"
      apply q_setN
      · refine ev_lst' (ea_cons (hcall .no 0 0 _ _ a (by omega) (by omega) ?_ (i0 _ 1 i rfl) (i0 _ 2 j rfl)) (ea_cons (hcall .no (2 ^ m) 0 _ _ b (by omega) (by omega) ?_ (i1 _ 1 i rfl rfl) (i0 _ 2 j rfl)) ea_nil)) rfl (Nat.le_of_ble_eq_true rfl)
        · simp only [Nat.zero_add]
          rfl
        · simp only [Nat.zero_add]
          rfl
      · exact Nat.le_of_ble_eq_true rfl
      · walk_at "np"
      apply q_setN
      · apply ev_op
        · exact ev_varO rfl
        · refine ev_lst' (ea_cons (hcall _ 0 (2 ^ m) _ _ c (by omega) (by omega) ?_ (i0 _ 1 i rfl) (i1 _ 2 j rfl rfl)) (ea_cons (hcall _ (2 ^ m) (2 ^ m) _ _ e (by omega) (by omega) ?_ (i1 _ 1 i rfl rfl) (i1 _ 2 j rfl rfl)) ea_nil)) rfl (Nat.le_of_ble_eq_true rfl)
          · simp only [Nat.zero_add]
            rfl
          · rfl
        · exact od_catL rfl rfl (Nat.le_of_ble_eq_true rfl)
      · exact Nat.le_of_ble_eq_true rfl
      · walk_at "np"
      have hg : qD (tree (m + 1) fun b a => f (j + b) (i + a)) = if isC a && (decide (b = a) && (decide (c = a) && decide (e = a))) then qD a else .tuple [qD a, qD b, qD c, qD e] := by
        show qD (if _ then _ else _) = _
        split <;> rfl
      rw [hg]
      have ix : ∀ (k : Int) (d : D), atI [qD a, qD b, qD c, qD e] k = some d → EvJ K (tOp (rIx K) (tVar 5) (tC (.int k))) [.fr (cellsD N f), .fr (.int (i : Int)), .fr (.int (j : Int)), .fr (.int ((2 ^ (m + 1) : Nat) : Int)), .fr (.int ((2 ^ m : Nat) : Int)), .ob true (.L [qD a, qD b, qD c, qD e])] (.fr d) [.fr (cellsD N f), .fr (.int (i : Int)), .fr (.int (j : Int)), .fr (.int ((2 ^ (m + 1) : Nat) : Int)), .fr (.int ((2 ^ m : Nat) : Int)), .ob true (.L [qD a, qD b, qD c, qD e])] :=
        fun k d h => ev_op (ev_varO rfl) ev_int (od_ix rfl h)
      have eq : ∀ (k : Int) (w : Q), dep w ≤ 50 → atI [qD a, qD b, qD c, qD e] k = some (qD w) → TtJ K (tTest (tOp (rEqD K) (tOp (rIx K) (tVar 5) (tC (.int k))) (tOp (rIx K) (tVar 5) (tC (.int 0))))) [.fr (cellsD N f), .fr (.int (i : Int)), .fr (.int (j : Int)), .fr (.int ((2 ^ (m + 1) : Nat) : Int)), .fr (.int ((2 ^ m : Nat) : Int)), .ob true (.L [qD a, qD b, qD c, qD e])] (decide (w = a)) [.fr (cellsD N f), .fr (.int (i : Int)), .fr (.int (j : Int)), .fr (.int ((2 ^ (m + 1) : Nat) : Int)), .fr (.int ((2 ^ m : Nat) : Int)), .ob true (.L [qD a, qD b, qD c, qD e])] := by
        intro k w hw h
        rw [← eqv_q]
        exact tt_test (ev_op (ix k _ h) (ix 0 (qD a) rfl) (od_eq rfl rfl (shaped_q (by omega)) (shaped_q (by omega))))
      apply st_ifq (b := isC a && (decide (b = a) && (decide (c = a) && decide (e = a))))
      · apply tt_andP
        · have e3 : isC a = PyData.eqv (.int ((qL a).length : Int)) (.int 3) := by
            rw [dep_kidl]
            cases isC a <;> rfl
          rw [e3]
          apply tt_test
          apply ev_op
          · apply ev_cb
            · exact ea_cons (ix 0 (qD a) rfl) ea_nil
            · rw [qD_eq]
              exact cd_len rfl
          · exact ev_int
          · exact od_eq rfl rfl rfl rfl
        · exact tt_andP (eq 1 b db rfl) (tt_andP (eq 2 c dc rfl) (eq 3 e de rfl))
      · intro h
        rw [if_pos h]
        exact q_retq (ix 0 (qD a) rfl) rfl
      · intro h
        rw [if_neg (by rw [h]; exact Bool.false_ne_true)]
        apply st_nextq
        apply q_ret
        · walk_at "ev"
        · rfl
theorem ok__law_tree {P : Program} {w : World} {K : PySem.W.Frag} {mg : Str → Option Value} {base : Heap} (B : Blt mg) (Df : DefAt K mg "_law_tree" s__law_tree ["_law_cells", "_law_i", "_law_j", "_law_size"]) : ∀ n : Nat, C8.Cal P w K mg base (0 + n + 1) "_law_tree" (spD K (C__law_tree n)) []
  | 0 => cal_void Df sc__law_tree void__law_tree
  | n + 1 => cal_of Df sc__law_tree (len__law_tree (n + 1)) rfl fun f cdv A outer s H E hr => ⟨t__law_tree K (C__law_tree n), tm__law_tree B (L := 0 + n + 1) (by omega) (ok__law_tree B Df n) hr, run__law_tree n⟩


end DL
namespace DL
open PySem PySem.Spec PyProof.Rows L2
local macro_rules | `(tactic| walk_at "len") => `(tactic| exact Nat.le_of_ble_eq_true rfl)
local macro_rules | `(tactic| walk_at "np") => `(tactic| (intro o z; cases z))
local macro_rules | `(tactic| walk_at "od") => `(tactic| first
  | exact od_addI | exact od_subI | exact od_subB | exact od_I0b | exact od_I0
  | exact od_ix rfl rfl | exact od_eq rfl rfl rfl rfl | exact od_ne rfl rfl rfl rfl | exact od_isN | exact od_notN
  | with_reducible apply od_mulI | with_reducible apply od_I | exact ud_I)
local macro_rules | `(tactic| walk_at "cd") => `(tactic| first
  | exact cd_len rfl | exact cd_abs | exact cd_int | exact cd_intB | exact cd_gcd | exact cd_tup rfl | exact cd_lst rfl)
local macro_rules | `(tactic| walk_at "ev1") => `(tactic| first
  | exact ev_int | exact ev_bl | exact ev_str | exact ev_non | exact ev_var rfl | exact ev_varO rfl
  | with_reducible apply ev_op | with_reducible apply ev_un
  | exact ea_nil | with_reducible apply ea_cons
  | with_reducible apply ev_isi | with_reducible apply ev_dget
  | with_reducible apply ev_cb
  | with_reducible apply ev_tup' | with_reducible apply ev_lstF
  | with_reducible apply tt_test | with_reducible apply tt_B | with_reducible apply tt_not
  | walk_at "od" | walk_at "cd" | walk_at "len" | rfl)
local macro_rules | `(tactic| walk_at "ev") => `(tactic| repeat' walk_at "ev1")
local macro_rules | `(tactic| walk_at "set") => `(tactic| (with_reducible apply q_set; rotate_left; walk_at "np"; rotate_left; walk_at "ev"))

/-! ### mended -/
def F_mended (n : Nat) (ds : List D) (d : D) : Prop := ∃ (k : Nat) (t : Q) (i j : Nat) (c : Q), k < n ∧ n ≤ 10 ∧ dep t ≤ k ∧ dep c = 0 ∧ i < 2 ^ k ∧ j < 2 ^ k ∧ ds = [qD t, .int (k : Int), .tuple [.int (i : Int), .int (j : Int)], qD c] ∧ d = qD (mend k t i j c)
abbrev C_mended (n : Nat) : Con := CP (F_mended n)
/-! mended: slots 0 tree, 1 k, 2 cell, 3 colour, 4 i, 5 j, 6 half, 7 number, 8 quarters, 9 inner -/
abbrev s_mended : Stmt := topS 9
theorem sc_mended : FnScope ["tree", "k", "cell", "colour", "i", "j", "half", "number", "quarters", "inner"] ["tree", "k", "cell", "colour"] (defScope s_mended) := ⟨rfl, rfl, rfl, by decide +kernel, rfl, by decide +kernel, by decide +kernel⟩
def t_mended (K : PySem.W.Frag) (C_mended : Con) : TS :=
  (tSeq (tIfS (tTest (tOp (rEqD K) (tVar 1) (tC (.int 0)))) (tRet (tVar 3)) tNext)
    (tSeq (tAsg (tVar 2) (gTup K 2 (gCons (gName 4) (gCons (gName 5) gNil))))
    (tSeq (tAsg (tOp (rI CPow fun i j => .int (i * 2 ^ j.toNat)) (tC (.int 1)) (tOp rSubU (tVar 1) (tC (.int 1)))) (gName 6))
    (tSeq (tAsg (tOp (rAddU K) (tCB rInt1 (tCons (tOp (rI0 fun i j => .bl (decide (j ≤ i))) (tVar 4) (tVar 6)) tNil)) (tOp (rMulU K) (tC (.int 2)) (tCB rInt1 (tCons (tOp (rI0 fun i j => .bl (decide (j ≤ i))) (tVar 5) (tVar 6)) tNil)))) (gName 7))
    (tSeq (tAsg (tCB (rLstU K) (tCons (tCall (spD K C_quarters_of) [] E0 (tCons (tVar 0) tNil)) tNil)) (gName 8))
    (tSeq (tAsg (tTup (tCons (tIf (tTest (tOp (rI0 fun i j => .bl (decide (j ≤ i))) (tVar 4) (tVar 6))) (tOp rSubU (tVar 4) (tVar 6)) (tVar 4)) (tCons (tIf (tTest (tOp (rI0 fun i j => .bl (decide (j ≤ i))) (tVar 5) (tVar 6))) (tOp rSubU (tVar 5) (tVar 6)) (tVar 5)) tNil))) (gName 9))
    (tSeq (tAsg (tCall (spD K C_mended) [] E0 (tCons (tOp (rIx K) (tVar 8) (tVar 7)) (tCons (tOp rSubU (tVar 1) (tC (.int 1))) (tCons (tVar 9) (tCons (tVar 3) tNil))))) (gSub (tVar 8) (tVar 7) rSetL))
    (tRet (tCall (spD K C_grown) [] E0 (tCons (tCB (rTupU K) (tCons (tVar 8) tNil)) tNil))))))))))
theorem tm_mended {P : Program} {w : World} {K : PySem.W.Frag} {mg : Str → Option Value} {base : Heap} (B : Blt mg) {C_mended : Con} {L : Nat} (hL : 2 ≤ L) (c_grown : C8.Cal P w K mg base 2 "grown" (spD K C_grown) []) (c_quarters_of : C8.Cal P w K mg base 2 "quarters_of" (spD K C_quarters_of) []) (c_mended : C8.Cal P w K mg base L "mended" (spD K C_mended) []) {f : Addr} {cdv : Value} {A : Around} {outer : List Env} {s : Shared} {H : Hp} {E : XK} (hr : Room L (A.deeper (envOfC "mended" (defScope s_mended) s.heap.objs.size f cdv))) :
    PSs (cxOf CX0 P w K mg base ["tree", "k", "cell", "colour", "i", "j", "half", "number", "quarters", "inner"] "mended" (defScope s_mended) f cdv A outer s H E).nox (defBody s_mended) (t_mended K C_mended) := by
  have nd := sc_mended.nd
  exact (pss_cons (ps_if (pt_cmpR (op_eqD hr.units) (pv 1) pe_int (nomark _)) (pss_one (ps_ret (pv 3))) pss_nil)
    (pss_cons (ps_asg (pv 2) (pg_tup rfl (pgs_cons (pg_name (i := 4) nd rfl (Or.inl rfl)) (pgs_cons (pg_name (i := 5) nd rfl (Or.inl rfl)) pgs_nil))))
    (pss_cons (ps_set (i := 6) nd rfl (Or.inl rfl) (pe_op op_shl pe_int (pe_op op_subU (pv 1) pe_int)))
    (pss_cons (ps_set (i := 7) nd rfl (Or.inl rfl) (pe_op op_addU (pe_callTy call_int1U (by rfl) B.int_ boot_int (pa_cons (pe_cmpR op_ge (pv 4) (pv 6) (nomark _)) pa_nil)) (pe_op op_mulU pe_int (pe_callTy call_int1U (by rfl) B.int_ boot_int (pa_cons (pe_cmpR op_ge (pv 5) (pv 6) (nomark _)) pa_nil)))))
    (pss_cons (ps_set (i := 8) nd rfl (Or.inl rfl) (pe_callTy call_lstU (by rfl) B.list_ boot_list (pa_cons (C8.pe_c c_quarters_of hr (by omega) (by rfl) (pa_cons (pv 0) pa_nil)) pa_nil)))
    (pss_cons (ps_set (i := 9) nd rfl (Or.inl rfl) (pe_tup (pa_cons (pe_ifExp (pt_cmpR op_ge (pv 4) (pv 6) (nomark _)) (pe_op op_subU (pv 4) (pv 6)) (pv 4)) (pa_cons (pe_ifExp (pt_cmpR op_ge (pv 5) (pv 6) (nomark _)) (pe_op op_subU (pv 5) (pv 6)) (pv 5)) pa_nil))))
    (pss_cons (ps_asg (C8.pe_c c_mended hr (by omega) (by rfl) (pa_cons (pe_ix ix_seq (pv 8) (pv 7) (fun _ _ => rfl)) (pa_cons (pe_op op_subU (pv 1) pe_int) (pa_cons (pv 9) (pa_cons (pv 3) pa_nil))))) (pg_sub (pv 8) (pv 7) set_list))
    (pss_one (ps_ret (C8.pe_c c_grown hr (by omega) (by rfl) (pa_cons (pe_callTy call_tupU (by rfl) B.tuple_ boot_tuple (pa_cons (pv 8) pa_nil)) pa_nil)))))))))))

theorem void_mended : ∀ args r args', ¬ C_mended 0 args r args' := fun _ _ _ ⟨_, _, ⟨_, _, _, _, _, h, _⟩, _⟩ => by omega
theorem len_mended (n : Nat) : ∀ args r args', C_mended n args r args' → args.length = 4 := lenP fun ds d h => by
  obtain ⟨_, _, _, _, _, _, _, _, _, _, _, rfl, _⟩ := h
  rfl
theorem four {l : List Q} (h : l.length = 4) : ∃ a b c d, l = [a, b, c, d] :=
  match l, h with
  | [a, b, c, d], _ => ⟨a, b, c, d, rfl⟩
theorem kids_len (t : Q) : (kids t).length = 4 := by cases t <;> rfl
theorem mend_succ (k : Nat) (t : Q) (i j : Nat) (c : Q) (n : Nat) (hn : n = (if 2 ^ k ≤ i then 1 else 0) + 2 * (if 2 ^ k ≤ j then 1 else 0)) : ∃ a b d e, (kids t).set n (mend k (kid t n) (if 2 ^ k ≤ i then i - 2 ^ k else i) (if 2 ^ k ≤ j then j - 2 ^ k else j) c) = [a, b, d, e] ∧ mend (k + 1) t i j c = grow a b d e := by
  subst hn
  obtain ⟨a, b, d, e, h⟩ := four (l := (kids t).set ((if 2 ^ k ≤ i then 1 else 0) + 2 * (if 2 ^ k ≤ j then 1 else 0)) (mend k (kid t ((if 2 ^ k ≤ i then 1 else 0) + 2 * (if 2 ^ k ≤ j then 1 else 0))) (if 2 ^ k ≤ i then i - 2 ^ k else i) (if 2 ^ k ≤ j then j - 2 ^ k else j) c)) (by rw [List.length_set, kids_len])
  refine ⟨a, b, d, e, h, ?_⟩
  unfold mend
  simp only [h]
  rfl
theorem kid_mem {t : Q} {n : Nat} (h : n < 4) : kid t n ∈ kids t := by
  unfold kid
  rw [List.getD_eq_getElem?_getD, List.getElem?_eq_getElem (by rw [kids_len]; exact h)]
  exact List.getElem_mem _
theorem dep_mend : ∀ (k : Nat) (t : Q) (i j : Nat) (c : Q), dep t ≤ k → dep c = 0 → dep (mend k t i j c) ≤ k
  | 0, _, _, _, c, _, hc => Nat.le_of_eq hc
  | k + 1, t, i, j, c, ht, hc => by
    obtain ⟨a, b, d, e, h1, h2⟩ := mend_succ k t i j c _ rfl
    have hk := dep_kid ht
    have hn : (if 2 ^ k ≤ i then 1 else 0) + 2 * (if 2 ^ k ≤ j then 1 else 0) < 4 := by split <;> split <;> omega
    have ih := dep_mend k (kid t ((if 2 ^ k ≤ i then 1 else 0) + 2 * (if 2 ^ k ≤ j then 1 else 0))) (if 2 ^ k ≤ i then i - 2 ^ k else i) (if 2 ^ k ≤ j then j - 2 ^ k else j) c (hk _ (kid_mem hn)) hc
    have all : ∀ x ∈ [a, b, d, e], dep x ≤ k := by
      rw [← h1]
      intro x hx
      rcases List.mem_or_eq_of_mem_set hx with hx | rfl
      · exact hk x hx
      · exact ih
    rw [h2]
    exact dep_grow (all a (by simp)) (all b (by simp)) (all d (by simp)) (all e (by simp))
theorem pow_small {m : Nat} (h : m ≤ 10) : CPow 1 (m : Int) := by
  unfold CPow
  omega
theorem run_mended {K : PySem.W.Frag} (n : Nat) : BodyOk K (t_mended K (C_mended n)) 6 (C_mended (n + 1)) := by
  refine body_pure ?_
  rintro ds d ⟨k, t, i, j, c, hk, hn, ht, hc, hi, hj, rfl, rfl⟩
  cases k with
  | zero =>
    refine ⟨[.fr (qD t), .fr (.int ((0 : Nat) : Int)), .fr (.tuple [.int (i : Int), .int (j : Int)]), .fr (qD c), .no, .no, .no, .no, .no, .no], ?_, Nat.le_of_ble_eq_true rfl⟩
    show StJ K _ [.fr (qD t), .fr (.int ((0 : Nat) : Int)), .fr (.tuple [.int (i : Int), .int (j : Int)]), .fr (qD c), .no, .no, .no, .no, .no, .no] _
    apply st_ifq (b := true)
    · exact tt_test (ev_op (ev_var rfl) ev_int (od_eq (d1 := .int 0) (d2 := .int 0) rfl rfl rfl rfl))
    · intro _
      exact q_retq (ev_var rfl) rfl
    · intro h
      cases h
  | succ m =>
    have hm : m ≤ 10 := by omega
    let w : Nat := (if 2 ^ m ≤ i then 1 else 0) + 2 * (if 2 ^ m ≤ j then 1 else 0)
    have hw : w < 4 := by
      show (if 2 ^ m ≤ i then 1 else 0) + 2 * (if 2 ^ m ≤ j then 1 else 0) < 4
      split <;> split <;> omega
    let i' : Nat := if 2 ^ m ≤ i then i - 2 ^ m else i
    let j' : Nat := if 2 ^ m ≤ j then j - 2 ^ m else j
    rw [two_pow_succ] at hi hj
    have hi' : i' < 2 ^ m := by
      show (if 2 ^ m ≤ i then i - 2 ^ m else i) < 2 ^ m
      split <;> omega
    have hj' : j' < 2 ^ m := by
      show (if 2 ^ m ≤ j then j - 2 ^ m else j) < 2 ^ m
      split <;> omega
    obtain ⟨a, b, e, g, h1, h2⟩ := mend_succ m t i j c w rfl
    have hkid : dep (kid t w) ≤ m := dep_kid ht _ (kid_mem hw)
    have all : ∀ x ∈ [a, b, e, g], dep x ≤ 50 := by
      rw [← h1]
      intro x hx
      rcases List.mem_or_eq_of_mem_set hx with hx | rfl
      · exact Nat.le_trans (dep_kid ht x hx) (by omega)
      · exact Nat.le_trans (dep_mend m _ i' j' c hkid hc) (by omega)
    let M : Q := mend m (kid t w) i' j' c
    refine ⟨[.fr (qD t), .fr (.int ((m + 1 : Nat) : Int)), .fr (.tuple [.int (i : Int), .int (j : Int)]), .fr (qD c), .fr (.int (i : Int)), .fr (.int (j : Int)), .fr (.int ((2 ^ m : Nat) : Int)), .fr (.int (w : Int)), .ob true (.L [qD a, qD b, qD e, qD g]), .fr (.tuple [.int (i' : Int), .int (j' : Int)])], ?_, Nat.le_of_ble_eq_true rfl⟩
    show StJ K _ [.fr (qD t), .fr (.int ((m + 1 : Nat) : Int)), .fr (.tuple [.int (i : Int), .int (j : Int)]), .fr (qD c), .no, .no, .no, .no, .no, .no] _
    apply st_ifq (b := false)
    · have e : false = PyData.eqv (.int ((m + 1 : Nat) : Int)) (.int 0) := by
        rw [eqv_int, decide_eq_false (by omega)]
      rw [e]
      walk_at "ev"
    · intro h
      cases h
    · intro _
      apply st_nextq
      apply st_seq
      · apply st_unT
        · exact ev_var rfl
        · exact bsj_cons (bj_name (by intro o z; cases z)) (bsj_cons (bj_name (by intro o z; cases z)) bsj_nil)
        · rfl
      show StJ K _ [.fr (qD t), .fr (.int ((m + 1 : Nat) : Int)), .fr (.tuple [.int (i : Int), .int (j : Int)]), .fr (qD c), .fr (.int (i : Int)), .fr (.int (j : Int)), .no, .no, .no, .no] _
      apply q_set (d := .int ((2 ^ m : Nat) : Int))
      · apply EvJ.conv (d := .int (1 * 2 ^ ((m : Int)).toNat))
        · refine ev_op ev_int (EvJ.conv (d1 := .int (m : Int)) (ev_op (ev_var rfl) ev_int od_subI) ?_) ?_
          · congr 1
            omega
          · exact od_I (g := fun i j => i * 2 ^ j.toNat) (pow_small hm)
        · rw [Int.one_mul, Int.toNat_natCast, Int.natCast_pow]
          rfl
      · walk_at "np"
      apply q_set (d := .int (w : Int))
      · apply EvJ.conv
        · walk_at "ev"
          exact mulB_of (n := 2) (m := 1) (by decide) (by split <;> decide) (by decide)
        · congr 1
          show (if decide _ = true then (1 : Int) else 0) + 2 * (if decide _ = true then (1 : Int) else 0) = (((if 2 ^ m ≤ i then 1 else 0) + 2 * (if 2 ^ m ≤ j then 1 else 0) : Nat) : Int)
          simp only [decide_eq_true_eq, Int.ofNat_le]
          split <;> split <;> rfl
      · walk_at "np"
      apply q_setN
      · apply ev_cb
        · apply ea_cons
          · apply ev_callP
            · walk_at "ev"
            · rfl
            · exact ⟨t, rfl, rfl⟩
          · exact ea_nil
        · exact cd_lst rfl
      · exact Nat.le_of_ble_eq_true rfl
      · walk_at "np"
      apply q_set (d := .tuple [.int (i' : Int), .int (j' : Int)])
      · have cond : ∀ (δ : List Sl) (u : Nat) (x : Nat), δ[u]? = some (.fr (.int (x : Int))) → δ[6]? = some (.fr (.int ((2 ^ m : Nat) : Int))) → EvJ K (tIf (tTest (tOp (rI0 fun i j => .bl (decide (j ≤ i))) (tVar u) (tVar 6))) (tOp rSubU (tVar u) (tVar 6)) (tVar u)) δ (.fr (.int (((if 2 ^ m ≤ x then x - 2 ^ m else x : Nat) : Nat) : Int))) δ := by
          intro δ u x q1 q2
          apply EvJ.conv
          · apply ev_ifP
            · exact tt_test (ev_op (ev_var q1) (ev_var q2) od_I0b)
            · exact ev_op (ev_var q1) (ev_var q2) od_subI
            · exact ev_var q1
          · simp only [decide_eq_true_eq, Int.ofNat_le]
            split
            · congr 1
              omega
            · rfl
        apply ev_tup'
        · exact ea_cons (cond _ 4 i rfl rfl) (ea_cons (cond _ 5 j rfl rfl) ea_nil)
        · rfl
        · exact Nat.le_of_ble_eq_true rfl
      · walk_at "np"
      let δ8 : List Sl := [.fr (qD t), .fr (.int ((m + 1 : Nat) : Int)), .fr (.tuple [.int (i : Int), .int (j : Int)]), .fr (qD c), .fr (.int (i : Int)), .fr (.int (j : Int)), .fr (.int ((2 ^ m : Nat) : Int)), .fr (.int (w : Int)), .ob true (.L ((kids t).map qD)), .fr (.tuple [.int (i' : Int), .int (j' : Int)])]
      show StJ K _ δ8 _
      apply st_seq
      · apply st_setL (d := qD M) (j := w) (δ1 := δ8) (δ2 := δ8) (δ3 := δ8)
        · apply ev_callP (ds := [qD (kid t w), .int (m : Int), .tuple [.int (i' : Int), .int (j' : Int)], qD c])
          · refine ea_cons (δ1 := δ8) (r := .fr (qD (kid t w))) ?_ (ea_cons (δ1 := δ8) (r := .fr (.int (m : Int))) ?_ (ea_cons (δ1 := δ8) (ev_var rfl) (ea_cons (ev_var rfl) ea_nil)))
            · refine ev_op (ev_varO rfl) (ev_var rfl) (od_ix rfl (atI_nat ?_))
              rw [List.getElem?_map, List.getElem?_eq_getElem (by rw [kids_len]; exact hw)]
              unfold kid
              rw [List.getD_eq_getElem?_getD, List.getElem?_eq_getElem (by rw [kids_len]; exact hw)]
              rfl
            · refine EvJ.conv (ev_op (ev_var rfl) ev_int od_subI) ?_
              congr 1
              omega
          · rfl
          · exact ⟨m, kid t w, i', j', c, by omega, by omega, hkid, hc, hi', hj', rfl, rfl⟩
        · exact ev_varO rfl
        · exact ev_var rfl
        · rfl
        · unfold ixN
          rw [List.length_map, kids_len, if_pos (by omega), if_pos (by omega)]
          rfl
        · exact []
      · have hq : ((kids t).map qD).set w (qD M) = [qD a, qD b, qD e, qD g] := by
          rw [← List.map_set]
          show List.map qD ((kids t).set w M) = _
          rw [show (kids t).set w M = [a, b, e, g] from h1]
          rfl
        have hδ : ([.fr (qD t), .fr (.int ((m + 1 : Nat) : Int)), .fr (.tuple [.int (i : Int), .int (j : Int)]), .fr (qD c), .fr (.int (i : Int)), .fr (.int (j : Int)), .fr (.int ((2 ^ m : Nat) : Int)), .fr (.int (w : Int)), .ob true (.L (((kids t).map qD).set w (qD M))), .fr (.tuple [.int (i' : Int), .int (j' : Int)])] : List Sl) = [.fr (qD t), .fr (.int ((m + 1 : Nat) : Int)), .fr (.tuple [.int (i : Int), .int (j : Int)]), .fr (qD c), .fr (.int (i : Int)), .fr (.int (j : Int)), .fr (.int ((2 ^ m : Nat) : Int)), .fr (.int (w : Int)), .ob true (.L [qD a, qD b, qD e, qD g]), .fr (.tuple [.int (i' : Int), .int (j' : Int)])] := by rw [hq]
        refine StJ.env ?_ hδ
        rw [h2]
        apply q_ret
        · apply ev_callP
          · walk_at "ev"
          · rfl
          · exact ⟨a, b, e, g, all a (by simp), all b (by simp), all e (by simp), all g (by simp), rfl, rfl⟩
        · rfl
theorem ok_mended {P : Program} {w : World} {K : PySem.W.Frag} {mg : Str → Option Value} {base : Heap} (B : Blt mg) (Df : DefAt K mg "mended" s_mended ["tree", "k", "cell", "colour"]) (c_grown : C8.Cal P w K mg base 2 "grown" (spD K C_grown) []) (c_quarters_of : C8.Cal P w K mg base 2 "quarters_of" (spD K C_quarters_of) []) : ∀ n : Nat, C8.Cal P w K mg base (2 + n + 1) "mended" (spD K (C_mended n)) []
  | 0 => cal_void Df sc_mended void_mended
  | n + 1 => cal_of Df sc_mended (len_mended (n + 1)) rfl fun f cdv A outer s H E hr => ⟨t_mended K (C_mended n), tm_mended B (L := 2 + n + 1) (by omega) c_grown c_quarters_of (ok_mended B Df c_grown c_quarters_of n) hr, run_mended n⟩


end DL
namespace DL
open PySem PySem.Spec PyProof.Rows L2
local macro_rules | `(tactic| walk_at "len") => `(tactic| exact Nat.le_of_ble_eq_true rfl)
local macro_rules | `(tactic| walk_at "np") => `(tactic| (intro o z; cases z))
local macro_rules | `(tactic| walk_at "od") => `(tactic| first
  | exact od_addI | exact od_subI | exact od_subB | exact od_I0b | exact od_I0
  | exact od_ix rfl rfl | exact od_eq rfl rfl rfl rfl | exact od_ne rfl rfl rfl rfl | exact od_isN | exact od_notN
  | with_reducible apply od_mulI | with_reducible apply od_I | exact ud_I)
local macro_rules | `(tactic| walk_at "cd") => `(tactic| first
  | exact cd_len rfl | exact cd_abs | exact cd_int | exact cd_intB | exact cd_gcd | exact cd_tup rfl | exact cd_lst rfl)
local macro_rules | `(tactic| walk_at "ev1") => `(tactic| first
  | exact ev_int | exact ev_bl | exact ev_str | exact ev_non | exact ev_var rfl | exact ev_varO rfl
  | with_reducible apply ev_op | with_reducible apply ev_un
  | exact ea_nil | with_reducible apply ea_cons
  | with_reducible apply ev_isi | with_reducible apply ev_dget
  | with_reducible apply ev_cb
  | with_reducible apply ev_tup' | with_reducible apply ev_lstF
  | with_reducible apply tt_test | with_reducible apply tt_B | with_reducible apply tt_not
  | walk_at "od" | walk_at "cd" | walk_at "len" | rfl)
local macro_rules | `(tactic| walk_at "ev") => `(tactic| repeat' walk_at "ev1")
local macro_rules | `(tactic| walk_at "set") => `(tactic| (with_reducible apply q_set; rotate_left; walk_at "np"; rotate_left; walk_at "ev"))

/-! ### the law's draws -/
def stL (c a l m : D) : List (Key × D) := [(kCells, c), (kAt, a), (kLeft, l), (kMix, m)]
theorem kd_cells {c a l m : D} : kdGet (stL c a l m) (.inr "cells") = some c := by simp [stL, kdGet, kCells]
theorem kd_at {c a l m : D} : kdGet (stL c a l m) (.inr "at") = some a := by
  have h : ("cells" : Str) ≠ "at" := by decide
  simp [stL, kdGet, kCells, kAt, h]
theorem kd_left {c a l m : D} : kdGet (stL c a l m) (.inr "left") = some l := by
  have h : ("cells" : Str) ≠ "left" := by decide
  have h2 : ("at" : Str) ≠ "left" := by decide
  simp [stL, kdGet, kCells, kAt, kLeft, h, h2]
theorem kd_mix {c a l m : D} : kdGet (stL c a l m) (.inr "mix") = some m := by
  have h : ("cells" : Str) ≠ "mix" := by decide
  have h2 : ("at" : Str) ≠ "mix" := by decide
  have h3 : ("left" : Str) ≠ "mix" := by decide
  simp [stL, kdGet, kCells, kAt, kLeft, kMix, h, h2, h3]
theorem kp_at {c a l m x : D} : kdPut (stL c a l m) (.inr "at") x = stL c x l m := by
  have h : ("cells" : Str) ≠ "at" := by decide
  simp [stL, kdPut, kCells, kAt, h]
theorem kp_left {c a l m x : D} : kdPut (stL c a l m) (.inr "left") x = stL c a x m := by
  have h : ("cells" : Str) ≠ "left" := by decide
  have h2 : ("at" : Str) ≠ "left" := by decide
  simp [stL, kdPut, kCells, kAt, kLeft, h, h2]
theorem kp_mix {c a l m x : D} : kdPut (stL c a l m) (.inr "mix") x = stL c a l x := by
  have h : ("cells" : Str) ≠ "mix" := by decide
  have h2 : ("at" : Str) ≠ "mix" := by decide
  have h3 : ("left" : Str) ≠ "mix" := by decide
  simp [stL, kdPut, kCells, kAt, kLeft, kMix, h, h2, h3]
section
variable {K : PySem.W.Frag} {δ δ1 δ2 : List Sl} {td tv : TE} {u : TS} {out : Out} {i : Nat} {b : Bool} {s : DS} {x : Int}
theorem ev_cells (hd : EvJ K td δ (.al i) δ1) (hi : δ1[i]? = some (.ob b (stO s))) : EvJ K (tDGet td (tC (.str ("cells" : Str)))) δ (.fr (.list (s.cells.map .int))) δ1 := ev_dget (k := .inr "cells") (kvs' := []) hd ev_str hi kd_cells
theorem ev_at (hd : EvJ K td δ (.al i) δ1) (hi : δ1[i]? = some (.ob b (stO s))) : EvJ K (tDGet td (tC (.str ("at" : Str)))) δ (.fr (.int s.at_)) δ1 := ev_dget (k := .inr "at") (kvs' := []) hd ev_str hi kd_at
theorem ev_left (hd : EvJ K td δ (.al i) δ1) (hi : δ1[i]? = some (.ob b (stO s))) : EvJ K (tDGet td (tC (.str ("left" : Str)))) δ (.fr (.int s.left)) δ1 := ev_dget (k := .inr "left") (kvs' := []) hd ev_str hi kd_left
theorem ev_mix (hd : EvJ K td δ (.al i) δ1) (hi : δ1[i]? = some (.ob b (stO s))) : EvJ K (tDGet td (tC (.str ("mix" : Str)))) δ (.fr (.int s.mix)) δ1 := ev_dget (k := .inr "mix") (kvs' := []) hd ev_str hi kd_mix
theorem st_at (he : EvJ K tv δ (.fr (.int x)) δ1) (hd : EvJ K td δ1 (.al i) δ2) (hi : δ2[i]? = some (.ob b (stO s))) : StJ K (sDPut td (tC (.str ("at" : Str))) tv) δ (.nx (δ2.set i (.ob b (stO { s with at_ := x })))) :=
  (st_dput (k := .inr "at") he hd ev_str hi (Nat.le_of_ble_eq_true rfl)).cast (congrArg (fun z => Out.nx (δ2.set i (.ob b (.K z)))) kp_at)
theorem st_left (he : EvJ K tv δ (.fr (.int x)) δ1) (hd : EvJ K td δ1 (.al i) δ2) (hi : δ2[i]? = some (.ob b (stO s))) : StJ K (sDPut td (tC (.str ("left" : Str))) tv) δ (.nx (δ2.set i (.ob b (stO { s with left := x })))) :=
  (st_dput (k := .inr "left") he hd ev_str hi (Nat.le_of_ble_eq_true rfl)).cast (congrArg (fun z => Out.nx (δ2.set i (.ob b (.K z)))) kp_left)
theorem st_mix (he : EvJ K tv δ (.fr (.int x)) δ1) (hd : EvJ K td δ1 (.al i) δ2) (hi : δ2[i]? = some (.ob b (stO s))) : StJ K (sDPut td (tC (.str ("mix" : Str))) tv) δ (.nx (δ2.set i (.ob b (stO { s with mix := x })))) :=
  (st_dput (k := .inr "mix") he hd ev_str hi (Nat.le_of_ble_eq_true rfl)).cast (congrArg (fun z => Out.nx (δ2.set i (.ob b (.K z)))) kp_mix)
theorem q_at (he : EvJ K tv δ (.fr (.int x)) δ1) (hd : EvJ K td δ1 (.al i) δ2) (hi : δ2[i]? = some (.ob b (stO s))) (k : StJ K u (δ2.set i (.ob b (stO { s with at_ := x }))) out) : StJ K (tSeq (sDPut td (tC (.str ("at" : Str))) tv) u) δ out := st_seq (st_at he hd hi) k
theorem q_left (he : EvJ K tv δ (.fr (.int x)) δ1) (hd : EvJ K td δ1 (.al i) δ2) (hi : δ2[i]? = some (.ob b (stO s))) (k : StJ K u (δ2.set i (.ob b (stO { s with left := x }))) out) : StJ K (tSeq (sDPut td (tC (.str ("left" : Str))) tv) u) δ out := st_seq (st_left he hd hi) k
theorem q_mix (he : EvJ K tv δ (.fr (.int x)) δ1) (hd : EvJ K td δ1 (.al i) δ2) (hi : δ2[i]? = some (.ob b (stO s))) (k : StJ K u (δ2.set i (.ob b (stO { s with mix := x }))) out) : StJ K (tSeq (sDPut td (tC (.str ("mix" : Str))) tv) u) δ out := st_seq (st_mix he hd hi) k
end
local macro_rules | `(tactic| walk_at "ev1") => `(tactic| first
  | with_reducible apply ev_cells | with_reducible apply ev_at | with_reducible apply ev_left | with_reducible apply ev_mix)
/-! _law_start -/
def DS.init (ns : List Int) : DS := ⟨ns.map fun i => (i.natAbs : Int), 0, 0, 7 + ns.length⟩
theorem DS.init_ok {ns : List Int} (h : ns.length ≤ 63) : (DS.init ns).ok := by
  refine ⟨fun c hc => ?_, ?_, Int.le_refl 0, Int.le_refl 0, ?_, ?_⟩
  · obtain ⟨i, _, rfl⟩ := List.mem_map.mp hc
    exact Int.natCast_nonneg _
  · show (ns.map _).length ≤ 1000
    rw [List.length_map]
    omega
  · show (0 : Int) ≤ 7 + ns.length
    omega
  · show (7 : Int) + ns.length < 2147483647
    omega
def C__law_start : Con := fun args r args' => ∃ ns : List Int, ns.length ≤ 63 ∧ args = [.fr (.list (ns.map .int))] ∧ r = .new (stO (DS.init ns)) ∧ args' = args
def absD : D → D
  | .int i => .int (i.natAbs : Int)
  | d => d
/-! _law_start: slots 0 _law_script, 1 _law_cell -/
abbrev s__law_start : Stmt := topS 11
theorem sc__law_start : FnScope ["_law_script", "_law_cell"] ["_law_script"] (defScope s__law_start) := ⟨rfl, rfl, rfl, by decide +kernel, rfl, by decide +kernel, by decide +kernel⟩
def t__law_start (K : PySem.W.Frag) : TS :=
  (tRet (tDisp [((tC (.str ("cells" : Str))), (tLc (iList K (tVar 0)) (gName 1) tYes (tCB rAbs (tCons (tCB rInt1 (tCons (tVar 1) tNil)) tNil)) [1])), ((tC (.str ("at" : Str))), (tC (.int 0))), ((tC (.str ("left" : Str))), (tC (.int 0))), ((tC (.str ("mix" : Str))), (tOp (rAddU K) (tC (.int 7)) (tCB (rLenU K) (tCons (tVar 0) tNil))))]))
theorem tm__law_start {P : Program} {w : World} {K : PySem.W.Frag} {mg : Str → Option Value} {base : Heap} (B : Blt mg) {f : Addr} {cdv : Value} {A : Around} {outer : List Env} {s : Shared} {H : Hp} {E : XK} (hr : Room 0 (A.deeper (envOfC "_law_start" (defScope s__law_start) s.heap.objs.size f cdv))) :
    PSs (cxOf CX0 P w K mg base ["_law_script", "_law_cell"] "_law_start" (defScope s__law_start) f cdv A outer s H E).nox (defBody s__law_start) (t__law_start K) := by
  have nd := sc__law_start.nd
  exact (pss_one (ps_ret (pe_disp (pps_cons pe_str (pe_lc (own := [("_law_cell", 1)]) (g := (gName 1)) (tt := tYes) rfl nd (pi_list (pv 0)) (blkOk_by (N := ["_law_script", "_law_cell"]) (sc := defScope s__law_start) (by decide +kernel)) (fun _ _ _ _ _ => (pg_name (i := 1) nd rfl (Or.inl rfl))) (fun _ _ _ _ _ => pts_nil) (fun _ _ _ _ _ => (pe_callB call_absU (by rfl) B.abs_ boot_abs (pa_cons (pe_callTy call_int1U (by rfl) B.int_ boot_int (pa_cons (pv 1) pa_nil)) pa_nil)))) (pps_cons pe_str pe_int (pps_cons pe_str pe_int (pps_cons pe_str (pe_op op_addU pe_int (pe_callB call_lenU (by rfl) B.len_ PySem.boot_len (pa_cons (pv 0) pa_nil))) pps_nil)))) rfl rfl (by simp) (by decide))))

theorem run__law_start {K : PySem.W.Frag} : BodyOk K (t__law_start K) 1 C__law_start := by
  rintro args r args' ⟨ns, hn, rfl, rfl, rfl⟩
  refine ⟨fun i o h => fr_noob (ds := [.list (ns.map .int)]) i true o h, [.fr (.list (ns.map .int)), .no], .inl ?_, Nat.le_of_ble_eq_true rfl, rfl⟩
  show StJ K (t__law_start K) [.fr (.list (ns.map .int)), .no] _
  have e : stO (DS.init ns) = .K [(.inr "cells", .list ((ns.map PyData.int).map absD)), (.inr "at", .int 0), (.inr "left", .int 0), (.inr "mix", .int (7 + ((ns.map PyData.int).length : Int)))] := by
    unfold stO DS.init
    rw [List.map_map, List.map_map, List.length_map]
    rfl
  rw [e]
  apply q_ret
  · apply ev_disp
    · have h1 : EvJ K (tLc (iList K (tVar 0)) (gName 1) tYes (tCB rAbs (tCons (tCB rInt1 (tCons (tVar 1) tNil)) tNil)) [1]) [.fr (.list (ns.map .int)), .no] (.fr (.list ((ns.map PyData.int).map absD))) [.fr (.list (ns.map .int)), .no] := by
        apply ev_frz
        refine ev_lc (src_list (ev_var rfl)) (LcRel.map absD fun d hd => ?_) rfl rfl (fun i hi => ?_) ?_
        · obtain ⟨i, _, rfl⟩ := List.mem_map.mp hd
          refine ⟨[.fr (.list (ns.map .int)), .fr (.int i)], bw_name, ?_, fun j hj o => ?_, rfl⟩
          · show EvJ K _ _ (.fr (.int (i.natAbs : Int))) _
            walk_at "ev"
          · rw [List.mem_singleton.mp hj]
            intro z
            cases z
        · rw [List.mem_singleton.mp hi]
          intro o z
          cases z
        · rw [List.length_map]
          exact Nat.le_trans hn (by decide)
      have h2 : EvJ K (tOp (rAddU K) (tC (.int 7)) (tCB (rLenU K) (tCons (tVar 0) tNil))) [.fr (.list (ns.map .int)), .no] (.fr (.int (7 + ((ns.map PyData.int).length : Int)))) [.fr (.list (ns.map .int)), .no] := by
        walk_at "ev"
      exact .cons (k := .inr "cells") ev_str h1 (.cons (k := .inr "at") ev_str ev_int (.cons (k := .inr "left") ev_str ev_int (.cons (k := .inr "mix") ev_str h2 .nil)))
    · show [(Sum.inr "cells" : Key), .inr "at", .inr "left", .inr "mix"].Nodup
      decide
    · exact Nat.le_of_ble_eq_true rfl
  · rfl
/-! _law_draw -/
def F__law_draw (s : DS) (ds : List D) (d : D) (s' : DS) : Prop := ∃ b : Int, s.ok ∧ 0 < b ∧ b.natAbs.log2 < 9000 ∧ ds = [.int b] ∧ d = .int (draw s b).1 ∧ s' = (draw s b).2
abbrev C__law_draw : Con := CS F__law_draw
/-! _law_draw: slots 0 _law_state, 1 _law_bound, 2 _law_cell, 3 _law_number -/
abbrev s__law_draw : Stmt := topS 12
theorem sc__law_draw : FnScope ["_law_state", "_law_bound", "_law_cell", "_law_number"] ["_law_state", "_law_bound"] (defScope s__law_draw) := ⟨rfl, rfl, rfl, by decide +kernel, rfl, by decide +kernel, by decide +kernel⟩
def t__law_draw (K : PySem.W.Frag) : TS :=
  (tSeq (tIfS (tAnd (tTest (tOp (rEqD K) (tDGet (tVar 0) (tC (.str ("left" : Str)))) (tC (.int 0)))) (tTest (tOp (rI0 fun i j => .bl (decide (i < j))) (tDGet (tVar 0) (tC (.str ("at" : Str)))) (tCB (rLenU K) (tCons (tDGet (tVar 0) (tC (.str ("cells" : Str)))) tNil))))) (tSeq (tAsg (tOp (rIx K) (tDGet (tVar 0) (tC (.str ("cells" : Str)))) (tDGet (tVar 0) (tC (.str ("at" : Str))))) (gName 2))
    (tSeq (sDPut (tVar 0) (tC (.str ("at" : Str))) (tOp (rAddU K) (tDGet (tVar 0) (tC (.str ("at" : Str)))) (tC (.int 1))))
    (tSeq (sDPut (tVar 0) (tC (.str ("mix" : Str))) (tOp (rI (fun _ j => 0 < j) fun i j => .int (i % j)) (tCB rInt1 (tCons (tOp (rAddU K) (tOp (rAddU K) (tOp (rMulU K) (tDGet (tVar 0) (tC (.str ("mix" : Str)))) (tC (.int 48271))) (tVar 2)) (tC (.int 11))) tNil)) (tC (.int 2147483647))))
    (tSeq (tIfS (tTest (tOp (rI0 fun i j => .bl (decide (i < j))) (tVar 2) (tOp (rI CPow fun i j => .int (i ^ j.toNat)) (tC (.int 10)) (tC (.int 18))))) (tRet (tOp (rI (fun _ j => 0 < j) fun i j => .int (i % j)) (tCB rInt1 (tCons (tVar 2) tNil)) (tVar 1))) tNext)
    (sDPut (tVar 0) (tC (.str ("left" : Str))) (tVar 2)))))) tNext)
    (tSeq (tIfS (tTest (tOp (rI0 fun i j => .bl (decide (j < i))) (tDGet (tVar 0) (tC (.str ("left" : Str)))) (tC (.int 0)))) (tSeq (tAsg (tOp (rI (fun _ j => 0 < j) fun i j => .int (i % j)) (tCB rInt1 (tCons (tDGet (tVar 0) (tC (.str ("left" : Str)))) tNil)) (tVar 1)) (gName 3))
    (tSeq (sDPut (tVar 0) (tC (.str ("left" : Str))) (tOp (rI CDivR fun i j => .int (i.fdiv j)) (tDGet (tVar 0) (tC (.str ("left" : Str)))) (tVar 1)))
    (tRet (tVar 3)))) tNext)
    (tSeq (sDPut (tVar 0) (tC (.str ("mix" : Str))) (tOp (rI (fun _ j => 0 < j) fun i j => .int (i % j)) (tCB rInt1 (tCons (tOp (rAddU K) (tOp (rMulU K) (tDGet (tVar 0) (tC (.str ("mix" : Str)))) (tC (.int 48271))) (tC (.int 11))) tNil)) (tC (.int 2147483647))))
    (tRet (tOp (rI (fun _ j => 0 < j) fun i j => .int (i % j)) (tCB rInt1 (tCons (tOp (rI (fun _ j => 0 < j) fun i j => .int (i % j)) (tCB rInt1 (tCons (tOp (rAddU K) (tOp (rMulU K) (tDGet (tVar 0) (tC (.str ("mix" : Str)))) (tC (.int 69621))) (tC (.int 5))) tNil)) (tC (.int 2147483629))) tNil)) (tVar 1))))))
theorem tm__law_draw {P : Program} {w : World} {K : PySem.W.Frag} {mg : Str → Option Value} {base : Heap} (B : Blt mg) {f : Addr} {cdv : Value} {A : Around} {outer : List Env} {s : Shared} {H : Hp} {E : XK} (hr : Room 0 (A.deeper (envOfC "_law_draw" (defScope s__law_draw) s.heap.objs.size f cdv))) :
    PSs (cxOf CX0 P w K mg base ["_law_state", "_law_bound", "_law_cell", "_law_number"] "_law_draw" (defScope s__law_draw) f cdv A outer s H E).nox (defBody s__law_draw) (t__law_draw K) := by
  have nd := sc__law_draw.nd
  exact (pss_cons (ps_if ((pw_and (pt_cmpR (op_eqD hr.units) (pe_dget (hu_of hr) (pv 0) pe_str (fun _ _ => rfl)) pe_int (nomark _)) (pw_and1 (pt_cmpR op_lt (pe_dget (hu_of hr) (pv 0) pe_str (fun _ _ => rfl)) (pe_callB call_lenU (by rfl) B.len_ PySem.boot_len (pa_cons (pe_dget (hu_of hr) (pv 0) pe_str (fun _ _ => rfl)) pa_nil)) (nomark _))))).pt (pss_cons (ps_set (i := 2) nd rfl (Or.inl rfl) (pe_ix ix_seq (pe_dget (hu_of hr) (pv 0) pe_str (fun _ _ => rfl)) (pe_dget (hu_of hr) (pv 0) pe_str (fun _ _ => rfl)) (fun _ _ => rfl)))
    (pss_cons (ps_dput (hu_of hr) (pv 0) pe_str (pe_op op_addU (pe_dget (hu_of hr) (pv 0) pe_str (fun _ _ => rfl)) pe_int) rfl)
    (pss_cons (ps_dput (hu_of hr) (pv 0) pe_str (pe_op op_mod (pe_callTy call_int1U (by rfl) B.int_ boot_int (pa_cons (pe_op op_addU (pe_op op_addU (pe_op op_mulU (pe_dget (hu_of hr) (pv 0) pe_str (fun _ _ => rfl)) pe_int) (pv 2)) pe_int) pa_nil)) pe_int) rfl)
    (pss_cons (ps_if (pt_cmpR op_lt (pv 2) (pe_op op_pow pe_int pe_int) (nomark _)) (pss_one (ps_ret (pe_op op_mod (pe_callTy call_int1U (by rfl) B.int_ boot_int (pa_cons (pv 2) pa_nil)) (pv 1)))) pss_nil)
    (pss_one (ps_dput (hu_of hr) (pv 0) pe_str (pv 2) rfl)))))) pss_nil)
    (pss_cons (ps_if (pt_cmpR op_gt (pe_dget (hu_of hr) (pv 0) pe_str (fun _ _ => rfl)) pe_int (nomark _)) (pss_cons (ps_set (i := 3) nd rfl (Or.inl rfl) (pe_op op_mod (pe_callTy call_int1U (by rfl) B.int_ boot_int (pa_cons (pe_dget (hu_of hr) (pv 0) pe_str (fun _ _ => rfl)) pa_nil)) (pv 1)))
    (pss_cons (ps_dput (hu_of hr) (pv 0) pe_str (pe_op op_fdivR (pe_dget (hu_of hr) (pv 0) pe_str (fun _ _ => rfl)) (pv 1)) rfl)
    (pss_one (ps_ret (pv 3))))) pss_nil)
    (pss_cons (ps_dput (hu_of hr) (pv 0) pe_str (pe_op op_mod (pe_callTy call_int1U (by rfl) B.int_ boot_int (pa_cons (pe_op op_addU (pe_op op_mulU (pe_dget (hu_of hr) (pv 0) pe_str (fun _ _ => rfl)) pe_int) pe_int) pa_nil)) pe_int) rfl)
    (pss_one (ps_ret (pe_op op_mod (pe_callTy call_int1U (by rfl) B.int_ boot_int (pa_cons (pe_op op_mod (pe_callTy call_int1U (by rfl) B.int_ boot_int (pa_cons (pe_op op_addU (pe_op op_mulU (pe_dget (hu_of hr) (pv 0) pe_str (fun _ _ => rfl)) pe_int) pe_int) pa_nil)) pe_int) pa_nil)) (pv 1)))))))

theorem atI_getD {xs : List Int} {i : Int} (h0 : 0 ≤ i) (h : i < xs.length) : atI (xs.map PyData.int) i = some (.int (xs.getD i.toNat 0)) := by
  have e : ((i.toNat : Nat) : Int) = i := by omega
  have q : atI (xs.map PyData.int) ((i.toNat : Nat) : Int) = some (.int (xs.getD i.toNat 0)) := by
    refine atI_nat ?_
    rw [List.getElem?_map, List.getElem?_eq_getElem (by omega), List.getD_eq_getElem?_getD, List.getElem?_eq_getElem (by omega)]
    rfl
  rw [e] at q
  exact q
theorem mix_mul {m c : Int} (h0 : 0 ≤ m) (h1 : m < 2147483647) (hc : c.natAbs < 2 ^ 64) : CMulB m c := mulB_of (n := 31) (m := 64) (by omega) hc (by omega)
theorem run__law_drawTail {K : PySem.W.Frag} {s : DS} {b : Int} (hs : s.ok) (hb : 0 < b) (hl : b.natAbs.log2 < 9000) : ∃ y', StJ K
    (tSeq (tIfS (tTest (tOp (rI0 fun i j => .bl (decide (j < i))) (tDGet (tVar 0) (tC (.str ("left" : Str)))) (tC (.int 0)))) (tSeq (tAsg (tOp (rI (fun _ j => 0 < j) fun i j => .int (i % j)) (tCB rInt1 (tCons (tDGet (tVar 0) (tC (.str ("left" : Str)))) tNil)) (tVar 1)) (gName 3))
    (tSeq (sDPut (tVar 0) (tC (.str ("left" : Str))) (tOp (rI CDivR fun i j => .int (i.fdiv j)) (tDGet (tVar 0) (tC (.str ("left" : Str)))) (tVar 1)))
    (tRet (tVar 3)))) tNext)
    (tSeq (sDPut (tVar 0) (tC (.str ("mix" : Str))) (tOp (rI (fun _ j => 0 < j) fun i j => .int (i % j)) (tCB rInt1 (tCons (tOp (rAddU K) (tOp (rMulU K) (tDGet (tVar 0) (tC (.str ("mix" : Str)))) (tC (.int 48271))) (tC (.int 11))) tNil)) (tC (.int 2147483647))))
    (tRet (tOp (rI (fun _ j => 0 < j) fun i j => .int (i % j)) (tCB rInt1 (tCons (tOp (rI (fun _ j => 0 < j) fun i j => .int (i % j)) (tCB rInt1 (tCons (tOp (rAddU K) (tOp (rMulU K) (tDGet (tVar 0) (tC (.str ("mix" : Str)))) (tC (.int 69621))) (tC (.int 5))) tNil)) (tC (.int 2147483629))) tNil)) (tVar 1)))))
    [.ob false (stO s), .fr (.int b), .no, .no] (.rt (.fr (.int (drawTail s b).1)) [.ob false (stO (drawTail s b).2), .fr (.int b), .no, y']) := by
  obtain ⟨h1, h2, h3, h4, h5, h6⟩ := hs
  by_cases hc : 0 < s.left
  · refine ⟨.fr (.int (s.left % b)), ?_⟩
    have e : drawTail s b = (s.left % b, { s with left := s.left.fdiv b }) := by
      unfold drawTail
      rw [if_pos hc]
    rw [e]
    apply st_ifq (b := decide (0 < s.left))
    · walk_at "ev"
    · intro _
      apply st_stop_rt
      apply q_set
      · walk_at "ev"
        exact hb
      · walk_at "np"
      apply q_left
      · walk_at "ev"
        exact ⟨by omega, hl⟩
      · exact ev_varO rfl
      · rfl
      apply q_ret
      · walk_at "ev"
      · rfl
    · intro h
      rw [decide_eq_true hc] at h
      cases h
  · refine ⟨.no, ?_⟩
    have e : drawTail s b = ((((s.mix * 48271 + 11) % 2147483647 * 69621 + 5) % 2147483629) % b, { s with mix := (s.mix * 48271 + 11) % 2147483647 }) := by
      unfold drawTail
      rw [if_neg hc]
    rw [e]
    apply st_ifq (b := decide (0 < s.left))
    · walk_at "ev"
    · intro h
      rw [decide_eq_false hc] at h
      cases h
    · intro _
      apply st_nextq
      apply q_mix
      · walk_at "ev"
        · exact mix_mul h5 h6 (by decide)
        · decide
      · exact ev_varO rfl
      · rfl
      apply q_ret
      · walk_at "ev"
        · exact mix_mul (Int.emod_nonneg _ (by decide)) (Int.emod_lt_of_pos _ (by decide)) (by decide)
        · decide
        · exact hb
      · rfl
theorem run__law_draw {K : PySem.W.Frag} : BodyOk K (t__law_draw K) 2 C__law_draw := by
  refine body_state ?_
  rintro s ds d s' ⟨b, hs, hb, hl, rfl, rfl, rfl⟩
  have hs' := hs
  obtain ⟨h1, h2, h3, h4, h5, h6⟩ := hs'
  suffices h : ∃ x y, StJ K (t__law_draw K) [.ob false (stO s), .fr (.int b), .no, .no] (.rt (.fr (.int (draw s b).1)) [.ob false (stO (draw s b).2), .fr (.int b), x, y]) by
    obtain ⟨x, y, h⟩ := h
    exact ⟨_, h, Nat.le_of_ble_eq_true rfl⟩
  by_cases hc : s.left = 0 ∧ s.at_ < s.cells.length
  · have hcell : 0 ≤ s.cells.getD s.at_.toNat 0 := getD_nonneg h1 _
    have hat : s.at_ < ((s.cells.map PyData.int).length : Nat) := by
      rw [List.length_map]
      exact hc.2
    have tst : TtJ K (tAnd (tTest (tOp (rEqD K) (tDGet (tVar 0) (tC (.str ("left" : Str)))) (tC (.int 0)))) (tTest (tOp (rI0 fun i j => .bl (decide (i < j))) (tDGet (tVar 0) (tC (.str ("at" : Str)))) (tCB (rLenU K) (tCons (tDGet (tVar 0) (tC (.str ("cells" : Str)))) tNil))))) [.ob false (stO s), .fr (.int b), .no, .no] true [.ob false (stO s), .fr (.int b), .no, .no] := by
      have e : true = (PyData.eqv (.int s.left) (.int 0) && decide (s.at_ < ((s.cells.map PyData.int).length : Nat))) := by
        rw [decide_eq_true hat, hc.1]
        rfl
      rw [e]
      apply tt_andP
      · walk_at "ev"
      · walk_at "ev"
    by_cases hsm : s.cells.getD s.at_.toNat 0 < 10 ^ 18
    · refine ⟨.fr (.int (s.cells.getD s.at_.toNat 0)), .no, ?_⟩
      have e : draw s b = (s.cells.getD s.at_.toNat 0 % b, { s with at_ := s.at_ + 1, mix := (s.mix * 48271 + s.cells.getD s.at_.toNat 0 + 11) % 2147483647 }) := by
        unfold draw
        rw [if_pos hc, if_pos hsm]
      rw [e]
      apply st_ifq (b := true)
      · exact tst
      · intro _
        apply st_stop_rt
        apply q_set
        · walk_at "ev"
          exact od_ix rfl (atI_getD h3 hc.2)
        · walk_at "np"
        apply q_at
        · walk_at "ev"
        · exact ev_varO rfl
        · rfl
        apply q_mix
        · walk_at "ev"
          · exact mix_mul h5 h6 (by decide)
          · decide
        · exact ev_varO rfl
        · rfl
        apply st_ifq (b := decide (s.cells.getD s.at_.toNat 0 < 10 ^ 18))
        · walk_at "ev"
          exact ⟨by decide, by decide, by decide⟩
        · intro _
          apply q_retq
          · walk_at "ev"
            exact hb
          · rfl
        · intro h
          rw [decide_eq_true hsm] at h
          cases h
      · intro h
        cases h
    · have hs1 : DS.ok { s with at_ := s.at_ + 1, mix := (s.mix * 48271 + s.cells.getD s.at_.toNat 0 + 11) % 2147483647, left := s.cells.getD s.at_.toNat 0 } :=
        ⟨h1, h2, by show 0 ≤ s.at_ + 1; omega, hcell, Int.emod_nonneg _ (by decide), Int.emod_lt_of_pos _ (by decide)⟩
      obtain ⟨y', tl⟩ := run__law_drawTail (K := K) hs1 hb hl
      refine ⟨.no, y', ?_⟩
      have e : draw s b = drawTail { s with at_ := s.at_ + 1, mix := (s.mix * 48271 + s.cells.getD s.at_.toNat 0 + 11) % 2147483647, left := s.cells.getD s.at_.toNat 0 } b := by
        unfold draw
        rw [if_pos hc, if_neg hsm]
      rw [e]
      apply st_ifq (b := true)
      · exact tst
      · intro _
        apply st_seq
        · apply q_set
          · walk_at "ev"
            exact od_ix rfl (atI_getD h3 hc.2)
          · walk_at "np"
          apply q_at
          · walk_at "ev"
          · exact ev_varO rfl
          · rfl
          apply q_mix
          · walk_at "ev"
            · exact mix_mul h5 h6 (by decide)
            · decide
          · exact ev_varO rfl
          · rfl
          apply st_ifq (b := decide (s.cells.getD s.at_.toNat 0 < 10 ^ 18))
          · walk_at "ev"
            exact ⟨by decide, by decide, by decide⟩
          · intro h
            rw [decide_eq_false hsm] at h
            cases h
          · intro _
            apply st_nextq
            apply st_left
            · walk_at "ev"
            · exact ev_varO rfl
            · rfl
        · refine st_forget 2 ?_ tl
          walk_at "np"
      · intro h
        cases h
  · obtain ⟨y', tl⟩ := run__law_drawTail (K := K) hs hb hl
    refine ⟨.no, y', ?_⟩
    have e : draw s b = drawTail s b := by
      unfold draw
      rw [if_neg hc]
    rw [e]
    apply st_ifq (b := false)
    · have e2 : false = (PyData.eqv (.int s.left) (.int 0) && decide (s.at_ < ((s.cells.map PyData.int).length : Nat))) := by
        symm
        rw [Bool.and_eq_false_iff]
        by_cases h0 : s.left = 0
        · refine .inr (decide_eq_false fun z => hc ⟨h0, ?_⟩)
          rw [List.length_map] at z
          exact z
        · exact .inl (beq_eq_false_iff_ne.mpr h0)
      have tst : TtJ K (tAnd (tTest (tOp (rEqD K) (tDGet (tVar 0) (tC (.str ("left" : Str)))) (tC (.int 0)))) (tTest (tOp (rI0 fun i j => .bl (decide (i < j))) (tDGet (tVar 0) (tC (.str ("at" : Str)))) (tCB (rLenU K) (tCons (tDGet (tVar 0) (tC (.str ("cells" : Str)))) tNil))))) [.ob false (stO s), .fr (.int b), .no, .no] (PyData.eqv (.int s.left) (.int 0) && decide (s.at_ < ((s.cells.map PyData.int).length : Nat))) [.ob false (stO s), .fr (.int b), .no, .no] := by
        apply tt_andP
        · walk_at "ev"
        · walk_at "ev"
      rw [← e2] at tst
      exact tst
    · intro h
      cases h
    · intro _
      apply st_nextq
      exact tl
/-! _law_pick, _law_is_number -/
def F__law_pick (s : DS) (ds : List D) (d : D) (s' : DS) : Prop := ∃ xs : List D, s.ok ∧ xs ≠ [] ∧ xs.length ≤ 1000 ∧ (ds = [.list xs] ∨ ds = [.tuple xs]) ∧ d = xs.getD (draw s xs.length).1.toNat .none ∧ s' = (draw s xs.length).2
abbrev C__law_pick : Con := CS F__law_pick
/-! _law_pick: slots 0 _law_state, 1 _law_things -/
abbrev s__law_pick : Stmt := topS 13
theorem sc__law_pick : FnScope ["_law_state", "_law_things"] ["_law_state", "_law_things"] (defScope s__law_pick) := ⟨rfl, rfl, rfl, by decide +kernel, rfl, by decide +kernel, by decide +kernel⟩
def t__law_pick (K : PySem.W.Frag) : TS :=
  (tRet (tOp (rIx K) (tVar 1) (tCall (spD K C__law_draw) [] E0 (tCons (tVar 0) (tCons (tCB (rLenU K) (tCons (tVar 1) tNil)) tNil)))))
theorem tm__law_pick {P : Program} {w : World} {K : PySem.W.Frag} {mg : Str → Option Value} {base : Heap} (B : Blt mg) (c__law_draw : C8.Cal P w K mg base 1 "_law_draw" (spD K C__law_draw) []) {f : Addr} {cdv : Value} {A : Around} {outer : List Env} {s : Shared} {H : Hp} {E : XK} (hr : Room 1 (A.deeper (envOfC "_law_pick" (defScope s__law_pick) s.heap.objs.size f cdv))) :
    PSs (cxOf CX0 P w K mg base ["_law_state", "_law_things"] "_law_pick" (defScope s__law_pick) f cdv A outer s H E).nox (defBody s__law_pick) (t__law_pick K) := by
  have nd := sc__law_pick.nd
  exact (pss_one (ps_ret (pe_ix ix_seq (pv 1) (C8.pe_c c__law_draw hr (by omega) (by rfl) (pa_cons (pv 0) (pa_cons (pe_callB call_lenU (by rfl) B.len_ PySem.boot_len (pa_cons (pv 1) pa_nil)) pa_nil))) (fun _ _ => rfl))))

theorem atI_getD' {xs : List D} {i : Int} (h0 : 0 ≤ i) (h : i < xs.length) : atI xs i = some (xs.getD i.toNat .none) := by
  have e : ((i.toNat : Nat) : Int) = i := by omega
  have q : atI xs ((i.toNat : Nat) : Int) = some (xs.getD i.toNat .none) := by
    unfold atI ixN
    rw [if_pos (by omega), if_pos (by omega)]
    show xs[_]? = _
    rw [List.getD_eq_getElem?_getD, show ((i.toNat : Nat) : Int).toNat = i.toNat by omega, List.getElem?_eq_getElem (by omega)]
    rfl
  rw [e] at q
  exact q
theorem small_log {n : Nat} (h0 : n ≠ 0) (h : n ≤ 1000) : ((n : Int).natAbs).log2 < 9000 := lt_log (n := 10) (by omega) (by omega) (by omega)
theorem run__law_pick {K : PySem.W.Frag} : BodyOk K (t__law_pick K) 0 C__law_pick := by
  refine body_state ?_
  rintro s ds d s' ⟨xs, hs, hne, hlen, hds, rfl, rfl⟩
  have hpos : 0 < xs.length := List.length_pos_iff.mpr hne
  obtain ⟨_, q1, q2⟩ := draw_ok hs (b := xs.length) (by omega)
  rcases hds with rfl | rfl
  · refine ⟨[.fr (.list xs)], ?_, Nat.le_of_ble_eq_true rfl⟩
    show StJ K (t__law_pick K) [.ob false (stO s), .fr (.list xs)] _
    apply q_ret
    · apply ev_op
      · walk_at "ev"
      · apply ev_callS
        · walk_at "ev"
        · rfl
        · rfl
        · exact ⟨xs.length, hs, by omega, small_log (by omega) hlen, rfl, rfl, rfl⟩
        · rfl
      · exact od_ix rfl (atI_getD' q1 q2)
    · rfl
  · refine ⟨[.fr (.tuple xs)], ?_, Nat.le_of_ble_eq_true rfl⟩
    show StJ K (t__law_pick K) [.ob false (stO s), .fr (.tuple xs)] _
    apply q_ret
    · apply ev_op
      · walk_at "ev"
      · apply ev_callS
        · walk_at "ev"
        · rfl
        · rfl
        · exact ⟨xs.length, hs, by omega, small_log (by omega) hlen, rfl, rfl, rfl⟩
        · rfl
      · exact od_ix rfl (atI_getD' q1 q2)
    · rfl
def F__law_is_number (ds : List D) (d : D) : Prop := ∃ i : Int, ds = [.int i] ∧ d = .bool true
abbrev C__law_is_number : Con := CP F__law_is_number
/-! _law_is_number: slots 0 _law_thing -/
abbrev s__law_is_number : Stmt := topS 14
theorem sc__law_is_number : FnScope ["_law_thing"] ["_law_thing"] (defScope s__law_is_number) := ⟨rfl, rfl, rfl, by decide +kernel, rfl, by decide +kernel, by decide +kernel⟩
def t__law_is_number (K : PySem.W.Frag) : TS :=
  (tRet (tAndV (tCB (rIsi K) (tCons (tVar 0) (tCons (tC (.ty "int")) tNil))) (tNotV (tCB (rIsi K) (tCons (tVar 0) (tCons (tC (.ty "bool")) tNil))))))
theorem tm__law_is_number {P : Program} {w : World} {K : PySem.W.Frag} {mg : Str → Option Value} {base : Heap} (B : Blt mg) {f : Addr} {cdv : Value} {A : Around} {outer : List Env} {s : Shared} {H : Hp} {E : XK} (hr : Room 0 (A.deeper (envOfC "_law_is_number" (defScope s__law_is_number) s.heap.objs.size f cdv))) :
    PSs (cxOf CX0 P w K mg base ["_law_thing"] "_law_is_number" (defScope s__law_is_number) f cdv A outer s H E).nox (defBody s__law_is_number) (t__law_is_number K) := by
  have nd := sc__law_is_number.nd
  exact (pss_one (ps_ret (pe_and (pe_callB call_isi (by rfl) B.isinstance_ boot_isinstance (pa_cons (pv 0) (pa_cons (pe_bltn (v := .ty "int") (by rfl) B.int_ boot_int rfl) pa_nil))) (pe_one (pe_not (pe_callB call_isi (by rfl) B.isinstance_ boot_isinstance (pa_cons (pv 0) (pa_cons (pe_bltn (v := .ty "bool") (by rfl) B.bool_ boot_bool rfl) pa_nil))))))))

theorem run__law_is_number {K : PySem.W.Frag} : BodyOk K (t__law_is_number K) 0 C__law_is_number := by
  refine body_pure ?_
  rintro ds d ⟨i, rfl, rfl⟩
  refine ⟨[.fr (.int i)], ?_, Nat.le_of_ble_eq_true rfl⟩
  show StJ K (t__law_is_number K) [.fr (.int i)] (.rt (.fr (.bool (true && !false))) [.fr (.int i)])
  apply q_ret
  · apply ev_andP (a := true) (b := !false)
    · apply ev_isi (b := true)
      · walk_at "ev"
      · rfl
      · show kitB "int" "int" = some true
        decide +kernel
    · apply ev_notV (a := false)
      apply ev_isi (b := false)
      · walk_at "ev"
      · rfl
      · show kitB "int" "bool" = some false
        decide +kernel
  · rfl
section
variable {P : Program} {w : World} {K : PySem.W.Frag} {mg : Str → Option Value} {base : Heap}
theorem ok__law_start (B : Blt mg) (Df : DefAt K mg "_law_start" s__law_start ["_law_script"]) : C8.Cal P w K mg base 1 "_law_start" (spD K C__law_start) [] :=
  cal_of Df sc__law_start (fun args r args' ⟨ns, _, e, _⟩ => by rw [e]; rfl) rfl fun f cdv A outer s H E hr => ⟨t__law_start K, tm__law_start B hr, run__law_start⟩
theorem ok__law_draw (B : Blt mg) (Df : DefAt K mg "_law_draw" s__law_draw ["_law_state", "_law_bound"]) : C8.Cal P w K mg base 1 "_law_draw" (spD K C__law_draw) [] :=
  cal_of Df sc__law_draw (fun args r args' ⟨s, ds, d, s', ⟨b, _, _, _, e1, _⟩, e, _⟩ => by rw [e, e1]; rfl) rfl fun f cdv A outer s H E hr => ⟨t__law_draw K, tm__law_draw B hr, run__law_draw⟩
theorem ok__law_pick (B : Blt mg) (Df : DefAt K mg "_law_pick" s__law_pick ["_law_state", "_law_things"]) (c : C8.Cal P w K mg base 1 "_law_draw" (spD K C__law_draw) []) : C8.Cal P w K mg base 2 "_law_pick" (spD K C__law_pick) [] :=
  cal_of Df sc__law_pick (fun args r args' ⟨s, ds, d, s', ⟨b, _, _, _, e1, _⟩, e, _⟩ => by rcases e1 with e1 | e1 <;> (rw [e, e1]; rfl)) rfl fun f cdv A outer s H E hr => ⟨t__law_pick K, tm__law_pick B c hr, run__law_pick⟩
theorem ok__law_is_number (B : Blt mg) (Df : DefAt K mg "_law_is_number" s__law_is_number ["_law_thing"]) : C8.Cal P w K mg base 1 "_law_is_number" (spD K C__law_is_number) [] :=
  cal_of Df sc__law_is_number (fun args r args' ⟨ds, d, ⟨i, e1, _⟩, e, _⟩ => by rw [e, e1]; rfl) rfl fun f cdv A outer s H E hr => ⟨t__law_is_number K, tm__law_is_number B hr, run__law_is_number⟩
end

/-! ### _law_colour, the law -/
def colOf (i : Int) : Q := if i = 0 then .c 0 1 else if i = 1 then .c 1 4 else if i = 2 then .c 1 2 else .c 3 4
theorem colOf_c (i : Int) : isC (colOf i) = true := by
  unfold colOf
  split
  · rfl
  · split
    · rfl
    · split <;> rfl
theorem dep_c {q : Q} (h : isC q = true) : dep q = 0 := by
  cases q with
  | c _ _ => rfl
  | n _ _ _ _ => cases h
def F__law_colour (s : DS) (ds : List D) (d : D) (s' : DS) : Prop := ∃ m : Int, s.ok ∧ 0 < m ∧ m ≤ 4 ∧ ds = [.int m] ∧ d = qD (colOf (draw s m).1) ∧ s' = (draw s m).2
abbrev C__law_colour : Con := CS F__law_colour
/-! _law_colour: slots 0 _law_state, 1 _law_many -/
abbrev s__law_colour : Stmt := topS 18
theorem sc__law_colour : FnScope ["_law_state", "_law_many"] ["_law_state", "_law_many"] (defScope s__law_colour) := ⟨rfl, rfl, rfl, by decide +kernel, rfl, by decide +kernel, by decide +kernel⟩
def t__law_colour (K : PySem.W.Frag) : TS :=
  (tRet (tTup (tCons (tOp (rIx K) (tLst (tCons (tTup (tCons (tC (.int 0)) (tCons (tC (.int 1)) tNil))) (tCons (tTup (tCons (tC (.int 1)) (tCons (tC (.int 4)) tNil))) (tCons (tTup (tCons (tC (.int 1)) (tCons (tC (.int 2)) tNil))) (tCons (tTup (tCons (tC (.int 3)) (tCons (tC (.int 4)) tNil))) tNil))))) (tCall (spD K C__law_draw) [] E0 (tCons (tVar 0) (tCons (tVar 1) tNil)))) (tCons (tTup (tCons (tC (.int 1)) (tCons (tC (.int 2)) tNil))) (tCons (tTup (tCons (tC (.int 0)) (tCons (tC (.int 1)) tNil))) tNil)))))
theorem tm__law_colour {P : Program} {w : World} {K : PySem.W.Frag} {mg : Str → Option Value} {base : Heap} (B : Blt mg) (c__law_draw : C8.Cal P w K mg base 1 "_law_draw" (spD K C__law_draw) []) {f : Addr} {cdv : Value} {A : Around} {outer : List Env} {s : Shared} {H : Hp} {E : XK} (hr : Room 1 (A.deeper (envOfC "_law_colour" (defScope s__law_colour) s.heap.objs.size f cdv))) :
    PSs (cxOf CX0 P w K mg base ["_law_state", "_law_many"] "_law_colour" (defScope s__law_colour) f cdv A outer s H E).nox (defBody s__law_colour) (t__law_colour K) := by
  have nd := sc__law_colour.nd
  exact (pss_one (ps_ret (pe_tup (pa_cons (pe_ix ix_seq (pe_lst (pa_cons (pe_tup (pa_cons pe_int (pa_cons pe_int pa_nil))) (pa_cons (pe_tup (pa_cons pe_int (pa_cons pe_int pa_nil))) (pa_cons (pe_tup (pa_cons pe_int (pa_cons pe_int pa_nil))) (pa_cons (pe_tup (pa_cons pe_int (pa_cons pe_int pa_nil))) pa_nil))))) (C8.pe_c c__law_draw hr (by omega) (by rfl) (pa_cons (pv 0) (pa_cons (pv 1) pa_nil))) (fun _ _ => rfl)) (pa_cons (pe_tup (pa_cons pe_int (pa_cons pe_int pa_nil))) (pa_cons (pe_tup (pa_cons pe_int (pa_cons pe_int pa_nil))) pa_nil))))))

theorem len__law_colour : ∀ args r args', C__law_colour args r args' → args.length = 2 := lenS fun s ds d s' h => by
  obtain ⟨m, _, _, _, rfl, _⟩ := h
  rfl
theorem col_at {i : Int} (h0 : 0 ≤ i) (h : i < 4) : ∃ p q : Int, colOf i = .c p q ∧ atI [PyData.tuple [.int 0, .int 1], .tuple [.int 1, .int 4], .tuple [.int 1, .int 2], .tuple [.int 3, .int 4]] i = some (.tuple [.int p, .int q]) := by
  have : i = 0 ∨ i = 1 ∨ i = 2 ∨ i = 3 := by omega
  rcases this with rfl | rfl | rfl | rfl
  · exact ⟨0, 1, rfl, rfl⟩
  · exact ⟨1, 4, rfl, rfl⟩
  · exact ⟨1, 2, rfl, rfl⟩
  · exact ⟨3, 4, rfl, rfl⟩
theorem run__law_colour {K : PySem.W.Frag} : BodyOk K (t__law_colour K) 0 C__law_colour := by
  refine body_state ?_
  rintro s ds d s' ⟨m, hs, h0, h4, rfl, rfl, rfl⟩
  obtain ⟨_, q1, q2⟩ := draw_ok hs h0
  obtain ⟨p, q, e1, e2⟩ := col_at q1 (by omega)
  refine ⟨[.fr (.int m)], ?_, Nat.le_of_ble_eq_true rfl⟩
  show StJ K (t__law_colour K) [.ob false (stO s), .fr (.int m)] _
  rw [e1]
  apply q_ret
  · apply ev_tup'
    · apply ea_cons
      · apply ev_op
        · walk_at "ev"
        · apply ev_callS
          · walk_at "ev"
          · rfl
          · rfl
          · exact ⟨m, hs, h0, lt_log (n := 3) (by omega) (by omega) (by decide), rfl, rfl, rfl⟩
          · rfl
        · exact od_ix rfl e2
      · walk_at "ev"
    · rfl
    · exact Nat.le_of_ble_eq_true rfl
  · rfl
theorem ok__law_colour {P : Program} {w : World} {K : PySem.W.Frag} {mg : Str → Option Value} {base : Heap} (B : Blt mg) (Df : DefAt K mg "_law_colour" s__law_colour ["_law_state", "_law_many"]) (c__law_draw : C8.Cal P w K mg base 1 "_law_draw" (spD K C__law_draw) []) : C8.Cal P w K mg base 2 "_law_colour" (spD K C__law_colour) [] :=
  cal_of Df sc__law_colour len__law_colour rfl fun f cdv A outer s H E hr => ⟨t__law_colour K, tm__law_colour B c__law_draw hr, run__law_colour⟩

/-! law: slots 0 _law_script, 1 _law_state, 2 _law_k, 3 _law_size, 4 _law_block, 5 _law_many, 6 _law_cells, 7 _law_j, 8 _law_i, 9 _law_row, 10 _law_told, 11 _law_tree_here, 12 _law_step, 13 _law_colour_here, 14 _law_after -/
abbrev s_law : Stmt := topS 19
theorem sc_law : FnScope ["_law_script", "_law_state", "_law_k", "_law_size", "_law_block", "_law_many", "_law_cells", "_law_j", "_law_i", "_law_row", "_law_told", "_law_tree_here", "_law_step", "_law_colour_here", "_law_after"] ["_law_script"] (defScope s_law) := ⟨rfl, rfl, rfl, by decide +kernel, rfl, by decide +kernel, by decide +kernel⟩
def t_law (K : PySem.W.Frag) : TS :=
  (tSeq (tAsg (tCall (spD K C__law_start) [] E0 (tCons (tVar 0) tNil)) (gName 1))
    (tSeq (tAsg (tCall (spD K C__law_draw) [] E0 (tCons (tVar 1) (tCons (tC (.int 4)) tNil))) (gName 2))
    (tSeq (tAsg (tOp (rI CDivR fun i j => .int (i.fdiv j)) (tOp (rI CPow fun i j => .int (i ^ j.toNat)) (tC (.int 2)) (tC (.int 3))) (tOp (rIx K) (tLst (tCons (tC (.int 8)) (tCons (tC (.int 4)) (tCons (tC (.int 2)) (tCons (tC (.int 1)) tNil))))) (tVar 2))) (gName 3))
    (tSeq (tAsg (tCall (spD K C__law_pick) [] E0 (tCons (tVar 1) (tCons (tLst (tCons (tC (.int 1)) (tCons (tC (.int 1)) (tCons (tC (.int 2)) (tCons (tC (.int 4)) tNil))))) tNil))) (gName 4))
    (tSeq (tAsg (tOp (rAddU K) (tC (.int 1)) (tCall (spD K C__law_draw) [] E0 (tCons (tVar 1) (tCons (tC (.int 4)) tNil)))) (gName 5))
    (tSeq (tAsg (tLst tNil) (gName 6))
    (tSeq (tFor (iRng1 (tCons (tVar 3) tNil)) (gName 7) (tDrop (tBM K "list" rAppend (tVar 6) (tCons (tLc (iRng1 (tCons (tVar 3) tNil)) (gName 8) tYes (tCall (spD K C__law_colour) [] E0 (tCons (tVar 1) (tCons (tVar 5) tNil))) [8]) tNil))))
    (tSeq (tAsg (tLc (iRng1 (tCons (tVar 3) tNil)) (gName 7) tYes (tLc (iRng1 (tCons (tVar 3) tNil)) (gName 8) tYes (tOp (rIx K) (tOp (rIx K) (tVar 6) (tOp (rMulU K) (tOp (rI CDivR fun i j => .int (i.fdiv j)) (tVar 7) (tVar 4)) (tVar 4))) (tOp (rMulU K) (tOp (rI CDivR fun i j => .int (i.fdiv j)) (tVar 8) (tVar 4)) (tVar 4))) [8]) [7]) (gName 6))
    (tSeq (tAsg (tCB (rTupU K) (tCons (tLc (iList K (tVar 6)) (gName 9) tYes (tCB (rTupU K) (tCons (tVar 9) tNil)) [9]) tNil)) (gName 10))
    (tSeq (tAsg (tCall (spD K (C_tree_of 4)) [] E0 (tCons (tVar 10) tNil)) (gName 11))
    (tSeq (tIfS (tOr (tTest (tOp (rNeD K) (tVar 11) (tCall (spD K (C__law_tree 4)) [] E0 (tCons (tVar 6) (tCons (tC (.int 0)) (tCons (tC (.int 0)) (tCons (tVar 3) tNil))))))) (tOr (tTest (tOp (rNeD K) (tCall (spD K C_picture_of) [] E0 (tCons (tVar 11) (tCons (tVar 2) tNil))) (tVar 10))) (tTest (tOp (rNeD K) (tCall (spD K (C_leaves 4)) [] E0 (tCons (tVar 11) tNil)) (tCall (spD K (C__law_leaves 4)) [] E0 (tCons (tVar 11) tNil)))))) (tRet (tC (.bl false))) tNext)
    (tSeq (tFor (iRng1 (tCons (tCall (spD K C__law_draw) [] E0 (tCons (tVar 1) (tCons (tC (.int 5)) tNil))) tNil)) (gName 12) (tSeq (tAsg (tCall (spD K C__law_draw) [] E0 (tCons (tVar 1) (tCons (tVar 3) tNil))) (gName 8))
    (tSeq (tAsg (tCall (spD K C__law_draw) [] E0 (tCons (tVar 1) (tCons (tVar 3) tNil))) (gName 7))
    (tSeq (tAsg (tCall (spD K C__law_pick) [] E0 (tCons (tVar 1) (tCons (tLst (tCons (tCall (spD K C__law_colour) [] E0 (tCons (tVar 1) (tCons (tVar 5) tNil))) (tCons (tOp (rIx K) (tOp (rIx K) (tVar 6) (tVar 7)) (tOp rSubU (tVar 8) (tC (.int 1)))) tNil))) tNil))) (gName 13))
    (tSeq (tAsg (tOp (rIx K) (tVar 6) (tVar 7)) (gName 9))
    (tSeq (tAsg (tVar 13) (gSub (tVar 9) (tVar 8) rSetL))
    (tSeq (tAsg (tCall (spD K (C_mended 4)) [] E0 (tCons (tVar 11) (tCons (tVar 2) (tCons (tTup (tCons (tVar 8) (tCons (tVar 7) tNil))) (tCons (tVar 13) tNil))))) (gName 14))
    (tSeq (tIfS (tTest (tOp (rNeD K) (tVar 14) (tCall (spD K (C__law_tree 4)) [] E0 (tCons (tVar 6) (tCons (tC (.int 0)) (tCons (tC (.int 0)) (tCons (tVar 3) tNil))))))) (tRet (tC (.bl false))) tNext)
    (tAsg (tVar 14) (gName 11))))))))))
    (tRet (tOp (rEqD K) (tCall (spD K C_picture_of) [] E0 (tCons (tVar 11) (tCons (tVar 2) tNil))) (tCB (rTupU K) (tCons (tLc (iList K (tVar 6)) (gName 9) tYes (tCB (rTupU K) (tCons (tVar 9) tNil)) [9]) tNil))))))))))))))))
theorem tm_law {P : Program} {w : World} {K : PySem.W.Frag} {mg : Str → Option Value} {base : Heap} (B : Blt mg) (c__law_start : C8.Cal P w K mg base 1 "_law_start" (spD K C__law_start) []) (c__law_draw : C8.Cal P w K mg base 1 "_law_draw" (spD K C__law_draw) []) (c__law_pick : C8.Cal P w K mg base 2 "_law_pick" (spD K C__law_pick) []) (c_tree_of : C8.Cal P w K mg base 7 "tree_of" (spD K (C_tree_of 4)) []) (c_mended : C8.Cal P w K mg base 7 "mended" (spD K (C_mended 4)) []) (c_picture_of : C8.Cal P w K mg base 8 "picture_of" (spD K C_picture_of) []) (c__law_tree : C8.Cal P w K mg base 5 "_law_tree" (spD K (C__law_tree 4)) []) (c_leaves : C8.Cal P w K mg base 6 "leaves" (spD K (C_leaves 4)) []) (c__law_leaves : C8.Cal P w K mg base 5 "_law_leaves" (spD K (C__law_leaves 4)) []) (c__law_colour : C8.Cal P w K mg base 2 "_law_colour" (spD K C__law_colour) []) {f : Addr} {cdv : Value} {A : Around} {outer : List Env} {s : Shared} {H : Hp} {E : XK} (hr : Room 8 (A.deeper (envOfC "law" (defScope s_law) s.heap.objs.size f cdv))) :
    PSs (cxOf CX0 P w K mg base ["_law_script", "_law_state", "_law_k", "_law_size", "_law_block", "_law_many", "_law_cells", "_law_j", "_law_i", "_law_row", "_law_told", "_law_tree_here", "_law_step", "_law_colour_here", "_law_after"] "law" (defScope s_law) f cdv A outer s H E).nox (defBody s_law) (t_law K) := by
  have nd := sc_law.nd
  exact (pss_cons (ps_set (i := 1) nd rfl (Or.inr rfl) (C8.pe_c c__law_start hr (by omega) (by rfl) (pa_cons (pv 0) pa_nil)))
    (pss_cons (ps_set (i := 2) nd rfl (Or.inl rfl) (C8.pe_c c__law_draw hr (by omega) (by rfl) (pa_cons (pv 1) (pa_cons pe_int pa_nil))))
    (pss_cons (ps_set (i := 3) nd rfl (Or.inr rfl) (pe_op op_fdivR (pe_op op_pow pe_int pe_int) (pe_ix ix_seq (pe_lst (pa_cons pe_int (pa_cons pe_int (pa_cons pe_int (pa_cons pe_int pa_nil))))) (pv 2) (fun _ _ => rfl))))
    (pss_cons (ps_set (i := 4) nd rfl (Or.inr rfl) (C8.pe_c c__law_pick hr (by omega) (by rfl) (pa_cons (pv 1) (pa_cons (pe_lst (pa_cons pe_int (pa_cons pe_int (pa_cons pe_int (pa_cons pe_int pa_nil))))) pa_nil))))
    (pss_cons (ps_set (i := 5) nd rfl (Or.inr rfl) (pe_op op_addU pe_int (C8.pe_c c__law_draw hr (by omega) (by rfl) (pa_cons (pv 1) (pa_cons pe_int pa_nil)))))
    (pss_cons (ps_set (i := 6) nd rfl (Or.inr rfl) (pe_lst pa_nil))
    (pss_cons (ps_for PassesOwn.never rfl (pi_range1 (by rfl) B.range_ (pa_cons (pv 3) pa_nil)) (pg_name (i := 7) nd rfl (Or.inl rfl)) (pss_one (ps_expr (pe_bm PySem.F.plainAttrs_list PySem.F.slot_list_append PySem.F.type_list_append mt_append (pv 6) (pa_cons (pe_lc (own := [("_law_i", 8)]) (g := (gName 8)) (tt := tYes) rfl nd (pi_range1 (by rfl) B.range_ (pa_cons (pv 3) pa_nil)) (blkOk_by (N := ["_law_script", "_law_state", "_law_k", "_law_size", "_law_block", "_law_many", "_law_cells", "_law_j", "_law_i", "_law_row", "_law_told", "_law_tree_here", "_law_step", "_law_colour_here", "_law_after"]) (sc := defScope s_law) (by decide +kernel)) (fun _ _ _ _ _ => (pg_name (i := 8) nd rfl (Or.inl rfl))) (fun _ _ _ _ _ => pts_nil) (fun _ _ _ _ _ => (C8.pe_c c__law_colour hr (by omega) (by rfl) (pa_cons (pv 1) (pa_cons (pv 5) pa_nil))))) pa_nil)))))
    (pss_cons (ps_set (i := 6) nd rfl (Or.inr rfl) (pe_lc (own := [("_law_j", 7)]) (g := (gName 7)) (tt := tYes) rfl nd (pi_range1 (by rfl) B.range_ (pa_cons (pv 3) pa_nil)) (blkOk_by (N := ["_law_script", "_law_state", "_law_k", "_law_size", "_law_block", "_law_many", "_law_cells", "_law_j", "_law_i", "_law_row", "_law_told", "_law_tree_here", "_law_step", "_law_colour_here", "_law_after"]) (sc := defScope s_law) (by decide +kernel)) (fun _ _ _ _ _ => (pg_name (i := 7) nd rfl (Or.inr rfl))) (fun _ _ _ _ _ => pts_nil) (fun _ _ _ _ _ => (pe_lc (own := [("_law_i", 8)]) (g := (gName 8)) (tt := tYes) rfl nd (pi_range1 (by rfl) B.range_ (pa_cons (pv 3) pa_nil)) (blkOk_by (N := ["_law_script", "_law_state", "_law_k", "_law_size", "_law_block", "_law_many", "_law_cells", "_law_j", "_law_i", "_law_row", "_law_told", "_law_tree_here", "_law_step", "_law_colour_here", "_law_after"]) (sc := { kind := ScopeKind.function, names := [(Str.ofString ".0", NameKind.local), (Str.ofString "_law_j", NameKind.cell), (Str.ofString "range", NameKind.globalImplicit), (Str.ofString "_law_block", NameKind.cell), (Str.ofString "_law_cells", NameKind.cell), (Str.ofString "_law_size", NameKind.cell)], isGenerator := false, isCoroutine := false, more := [] }) (by decide +kernel)) (fun _ _ _ _ _ => (pg_name (i := 8) nd rfl (Or.inl rfl))) (fun _ _ _ _ _ => pts_nil) (fun _ _ _ _ _ => (pe_ix ix_seq (pe_ix ix_seq (pv 6) (pe_op op_mulU (pe_op op_fdivR (pv 7) (pv 4)) (pv 4)) (fun _ _ => rfl)) (pe_op op_mulU (pe_op op_fdivR (pv 8) (pv 4)) (pv 4)) (fun _ _ => rfl)))))))
    (pss_cons (ps_set (i := 10) nd rfl (Or.inl rfl) (pe_callTy call_tupU (by rfl) B.tuple_ boot_tuple (pa_cons (pe_lc (own := [("_law_row", 9)]) (g := (gName 9)) (tt := tYes) rfl nd (pi_list (pv 6)) (blkOk_by (N := ["_law_script", "_law_state", "_law_k", "_law_size", "_law_block", "_law_many", "_law_cells", "_law_j", "_law_i", "_law_row", "_law_told", "_law_tree_here", "_law_step", "_law_colour_here", "_law_after"]) (sc := defScope s_law) (by decide +kernel)) (fun _ _ _ _ _ => (pg_name (i := 9) nd rfl (Or.inl rfl))) (fun _ _ _ _ _ => pts_nil) (fun _ _ _ _ _ => (pe_callTy call_tupU (by rfl) B.tuple_ boot_tuple (pa_cons (pv 9) pa_nil)))) pa_nil)))
    (pss_cons (ps_set (i := 11) nd rfl (Or.inl rfl) (C8.pe_c c_tree_of hr (by omega) (by rfl) (pa_cons (pv 10) pa_nil)))
    (pss_cons (ps_if ((pw_or (pt_cmpR (op_neD hr.units) (pv 11) (C8.pe_c c__law_tree hr (by omega) (by rfl) (pa_cons (pv 6) (pa_cons pe_int (pa_cons pe_int (pa_cons (pv 3) pa_nil))))) (nomark _)) (pw_or (pt_cmpR (op_neD hr.units) (C8.pe_c c_picture_of hr (by omega) (by rfl) (pa_cons (pv 11) (pa_cons (pv 2) pa_nil))) (pv 10) (nomark _)) (pw_or1 (pt_cmpR (op_neD hr.units) (C8.pe_c c_leaves hr (by omega) (by rfl) (pa_cons (pv 11) pa_nil)) (C8.pe_c c__law_leaves hr (by omega) (by rfl) (pa_cons (pv 11) pa_nil)) (nomark _)))))).pt (pss_one (ps_ret pe_bl)) pss_nil)
    (pss_cons (ps_for PassesOwn.never rfl (pi_range1 (by rfl) B.range_ (pa_cons (C8.pe_c c__law_draw hr (by omega) (by rfl) (pa_cons (pv 1) (pa_cons pe_int pa_nil))) pa_nil)) (pg_name (i := 12) nd rfl (Or.inl rfl)) (pss_cons (ps_set (i := 8) nd rfl (Or.inl rfl) (C8.pe_c c__law_draw hr (by omega) (by rfl) (pa_cons (pv 1) (pa_cons (pv 3) pa_nil))))
    (pss_cons (ps_set (i := 7) nd rfl (Or.inl rfl) (C8.pe_c c__law_draw hr (by omega) (by rfl) (pa_cons (pv 1) (pa_cons (pv 3) pa_nil))))
    (pss_cons (ps_set (i := 13) nd rfl (Or.inl rfl) (C8.pe_c c__law_pick hr (by omega) (by rfl) (pa_cons (pv 1) (pa_cons (pe_lst (pa_cons (C8.pe_c c__law_colour hr (by omega) (by rfl) (pa_cons (pv 1) (pa_cons (pv 5) pa_nil))) (pa_cons (pe_ix ix_seq (pe_ix ix_seq (pv 6) (pv 7) (fun _ _ => rfl)) (pe_op op_subU (pv 8) pe_int) (fun _ _ => rfl)) pa_nil))) pa_nil))))
    (pss_cons (ps_set (i := 9) nd rfl (Or.inl rfl) (pe_ix ix_seq (pv 6) (pv 7) (fun _ _ => rfl)))
    (pss_cons (ps_asg (pv 13) (pg_sub (pv 9) (pv 8) set_list))
    (pss_cons (ps_set (i := 14) nd rfl (Or.inl rfl) (C8.pe_c c_mended hr (by omega) (by rfl) (pa_cons (pv 11) (pa_cons (pv 2) (pa_cons (pe_tup (pa_cons (pv 8) (pa_cons (pv 7) pa_nil))) (pa_cons (pv 13) pa_nil))))))
    (pss_cons (ps_if (pt_cmpR (op_neD hr.units) (pv 14) (C8.pe_c c__law_tree hr (by omega) (by rfl) (pa_cons (pv 6) (pa_cons pe_int (pa_cons pe_int (pa_cons (pv 3) pa_nil))))) (nomark _)) (pss_one (ps_ret pe_bl)) pss_nil)
    (pss_one (ps_set (i := 11) nd rfl (Or.inl rfl) (pv 14)))))))))))
    (pss_one (ps_ret (pe_cmpR (op_eqD hr.units) (C8.pe_c c_picture_of hr (by omega) (by rfl) (pa_cons (pv 11) (pa_cons (pv 2) pa_nil))) (pe_callTy call_tupU (by rfl) B.tuple_ boot_tuple (pa_cons (pe_lc (own := [("_law_row", 9)]) (g := (gName 9)) (tt := tYes) rfl nd (pi_list (pv 6)) (blkOk_by (N := ["_law_script", "_law_state", "_law_k", "_law_size", "_law_block", "_law_many", "_law_cells", "_law_j", "_law_i", "_law_row", "_law_told", "_law_tree_here", "_law_step", "_law_colour_here", "_law_after"]) (sc := defScope s_law) (by decide +kernel)) (fun _ _ _ _ _ => (pg_name (i := 9) nd rfl (Or.inl rfl))) (fun _ _ _ _ _ => pts_nil) (fun _ _ _ _ _ => (pe_callTy call_tupU (by rfl) B.tuple_ boot_tuple (pa_cons (pv 9) pa_nil)))) pa_nil)) (nomark _))))))))))))))))

/-! rows of colours, drawn -/
def rowQ (cs : List Q) : D := .list (cs.map qD)
def AllC (n : Nat) (cs : List Q) : Prop := cs.length = n ∧ ∀ c ∈ cs, isC c = true
theorem draw_row {K : PySem.W.Frag} {x0 x2 x3 x4 x6 x7 x9 x10 x11 x12 x13 x14 : Sl} {m : Int} (h0 : 0 < m) (h4 : m ≤ 4) : ∀ (ds : List D) (s : DS), s.ok → ∃ (s' : DS) (cs : List Q), s'.ok ∧ AllC ds.length cs ∧
    LcRel K (gName 8) tYes (tCall (spD K C__law_colour) [] E0 (tCons (tVar 1) (tCons (tVar 5) tNil))) [8] ds [x0, .ob true (stO s), x2, x3, x4, .fr (.int m), x6, x7, .no, x9, x10, x11, x12, x13, x14] (cs.map qD) [x0, .ob true (stO s'), x2, x3, x4, .fr (.int m), x6, x7, .no, x9, x10, x11, x12, x13, x14]
  | [], s, hs => ⟨s, [], hs, ⟨rfl, fun c h => nomatch h⟩, .nil⟩
  | d :: ds, s, hs => by
    obtain ⟨s', cs, q1, ⟨q2, q3⟩, q4⟩ := draw_row (K := K) (x0 := x0) (x2 := x2) (x3 := x3) (x4 := x4) (x6 := x6) (x7 := x7) (x9 := x9) (x10 := x10) (x11 := x11) (x12 := x12) (x13 := x13) (x14 := x14) h0 h4 ds (draw s m).2 (draw_ok hs h0).1
    refine ⟨s', colOf (draw s m).1 :: cs, q1, ⟨congrArg (· + 1) q2, fun c hc => ?_⟩, ?_⟩
    · rcases List.mem_cons.mp hc with rfl | hc
      · exact colOf_c _
      · exact q3 c hc
    · refine .go (δb := [x0, .ob true (stO s), x2, x3, x4, .fr (.int m), x6, x7, .fr d, x9, x10, x11, x12, x13, x14]) bw_name ⟨SameK.refl _, fun E F H σ Q e q => q F H e Grow.refl⟩ (δd := [x0, .ob true (stO (draw s m).2), x2, x3, x4, .fr (.int m), x6, x7, .fr d, x9, x10, x11, x12, x13, x14]) ?_ (fun i hi o z => ?_) q4
      · apply ev_callS
        · walk_at "ev"
        · rfl
        · rfl
        · exact ⟨m, hs, h0, h4, rfl, rfl, rfl⟩
        · rfl
      · rw [List.mem_singleton.mp hi] at z
        cases z
def thinS : Sl → Prop
  | .fr d => thin d = true
  | .ob _ _ => False
  | .no => True
theorem thinS_dat {x : Sl} (h : thinS x) : Dat x := by
  cases x with
  | ob _ _ => exact h
  | _ => trivial
theorem draw_rows {K : PySem.W.Frag} {x0 x2 x4 x9 x10 x11 x12 x13 x14 : Sl} {m : Int} {n : Nat} (h0 : 0 < m) (h4 : m ≤ 4) (hn : n ≤ 8) : ∀ (ds : List D) (s : DS) (acc : List D) (x7 : Sl), s.ok → thinS x7 → (∀ d ∈ ds, thin d = true) → acc.length + ds.length ≤ 8 → ∃ (s' : DS) (rs : List (List Q)) (x7' : Sl), s'.ok ∧ thinS x7' ∧ rs.length = ds.length ∧ (∀ cs ∈ rs, AllC n cs) ∧
    ForRel K (gName 7) (tDrop (tBM K "list" rAppend (tVar 6) (tCons (tLc (iRng1 (tCons (tVar 3) tNil)) (gName 8) tYes (tCall (spD K C__law_colour) [] E0 (tCons (tVar 1) (tCons (tVar 5) tNil))) [8]) tNil))) ds
      [x0, .ob true (stO s), x2, .fr (.int (n : Int)), x4, .fr (.int m), .ob true (.L acc), x7, .no, x9, x10, x11, x12, x13, x14] (.nx [x0, .ob true (stO s'), x2, .fr (.int (n : Int)), x4, .fr (.int m), .ob true (.L (acc ++ rs.map rowQ)), x7', .no, x9, x10, x11, x12, x13, x14])
  | [], s, acc, x7, hs, hx, _, _ => ⟨s, [], x7, hs, hx, rfl, (fun cs h => nomatch h), by rw [List.map_nil, List.append_nil]; exact .nil⟩
  | d :: ds, s, acc, x7, hs, hx, ht, hl => by
    rw [List.length_cons] at hl
    obtain ⟨s1, cs, p1, p2, p3⟩ := draw_row (K := K) (x0 := x0) (x2 := x2) (x3 := .fr (.int (n : Int))) (x4 := x4) (x6 := .ob true (.L acc)) (x7 := .fr d) (x9 := x9) (x10 := x10) (x11 := x11) (x12 := x12) (x13 := x13) (x14 := x14) h0 h4 (rngD 0 ((n : Int)).toNat) s hs
    rw [rngD_len, Int.toNat_natCast] at p2
    obtain ⟨s', rs, x7', q1, q2, q3, q4, q5⟩ := draw_rows (K := K) (x0 := x0) (x2 := x2) (x4 := x4) (x9 := x9) (x10 := x10) (x11 := x11) (x12 := x12) (x13 := x13) (x14 := x14) h0 h4 hn ds s1 (acc ++ [rowQ cs]) (.fr d) p1 (ht d List.mem_cons_self) (fun d hd => ht d (List.mem_cons_of_mem _ hd)) (by rw [List.length_append, List.length_singleton]; omega)
    refine ⟨s', cs :: rs, x7', q1, q2, congrArg (· + 1) q3, fun c hc => ?_, ?_⟩
    · rcases List.mem_cons.mp hc with rfl | hc
      · exact p2
      · exact q4 c hc
    · rw [List.map_cons, show acc ++ rowQ cs :: rs.map rowQ = acc ++ [rowQ cs] ++ rs.map rowQ by rw [List.append_assoc]; rfl]
      refine .go (δb := [x0, .ob true (stO s), x2, .fr (.int (n : Int)), x4, .fr (.int m), .ob true (.L acc), .fr d, .no, x9, x10, x11, x12, x13, x14]) (bj_name (np_at rfl (thinS_dat hx))) ?_ q5
      apply q_drop1
      apply ev_append'
      · exact ev_varO rfl
      · rfl
      · apply ev_frz (ds := cs.map qD)
        refine ev_lc (src_rng1 (n := (n : Int)) (δ1 := [x0, .ob true (stO s), x2, .fr (.int (n : Int)), x4, .fr (.int m), .ob true (.L acc), .fr d, .no, x9, x10, x11, x12, x13, x14]) (ea_cons (ev_var rfl) ea_nil) (by omega) (by omega)) p3 rfl rfl (fun i hi o z => ?_) ?_
        · rw [List.mem_singleton.mp hi] at z
          cases z
        · rw [rngD_len]
          exact Nat.le_trans (show ((n : Int)).toNat ≤ 8 by omega) (by decide)
      · rfl
      · exact Nat.lt_of_le_of_lt (m := 8) (by omega) (by decide)
      · rfl

end DL
namespace DL
open PySem PySem.Spec PyProof.Rows L2
local macro_rules | `(tactic| walk_at "len") => `(tactic| exact Nat.le_of_ble_eq_true rfl)
local macro_rules | `(tactic| walk_at "np") => `(tactic| (intro o z; cases z))
local macro_rules | `(tactic| walk_at "od") => `(tactic| first
  | exact od_addI | exact od_subI | exact od_subB | exact od_I0b | exact od_I0
  | exact od_ix rfl rfl | exact od_eq rfl rfl rfl rfl | exact od_ne rfl rfl rfl rfl | exact od_isN | exact od_notN
  | with_reducible apply od_mulI | with_reducible apply od_I | exact ud_I)
local macro_rules | `(tactic| walk_at "cd") => `(tactic| first
  | exact cd_len rfl | exact cd_abs | exact cd_int | exact cd_intB | exact cd_gcd | exact cd_tup rfl | exact cd_lst rfl)
local macro_rules | `(tactic| walk_at "ev1") => `(tactic| first
  | exact ev_int | exact ev_bl | exact ev_str | exact ev_non | exact ev_var rfl | exact ev_varO rfl
  | with_reducible apply ev_op | with_reducible apply ev_un
  | exact ea_nil | with_reducible apply ea_cons
  | with_reducible apply ev_isi | with_reducible apply ev_dget
  | with_reducible apply ev_cb
  | with_reducible apply ev_tup' | with_reducible apply ev_lstF
  | with_reducible apply tt_test | with_reducible apply tt_B | with_reducible apply tt_not
  | walk_at "od" | walk_at "cd" | walk_at "len" | rfl)
local macro_rules | `(tactic| walk_at "ev") => `(tactic| repeat' walk_at "ev1")
local macro_rules | `(tactic| walk_at "set") => `(tactic| (with_reducible apply q_set; rotate_left; walk_at "np"; rotate_left; walk_at "ev"))

/-! ### the law's own body -/
def gridR (n : Nat) (f : Pic) : List (List D) := (List.range n).map fun j => (List.range n).map fun i => qD (f j i)
theorem grid_cells (n : Nat) (f : Pic) : (.list ((gridR n f).map .list) : D) = cellsD n f := by
  unfold gridR cellsD lrow
  rw [List.map_map]
  rfl
theorem grid_set {n j i : Nat} (f : Pic) (c : Q) (hj : j < n) (hi : i < n) : (gridR n f).set j (((List.range n).map fun i => qD (f j i)).set i (qD c)) = gridR n (put f j i c) := by
  unfold gridR
  refine List.ext_getElem? fun k => ?_
  by_cases hk : k < n
  · by_cases e : k = j
    · subst e
      rw [List.getElem?_set_self (by rw [List.length_map, List.length_range]; exact hk), List.getElem?_map, List.getElem?_range hk]
      show some _ = some _
      congr 1
      refine List.ext_getElem? fun m => ?_
      by_cases hm : m < n
      · by_cases e : m = i
        · subst e
          rw [List.getElem?_set_self (by rw [List.length_map, List.length_range]; exact hm), List.getElem?_map, List.getElem?_range hm]
          show some _ = some (qD (put f k m c k m))
          unfold put
          rw [if_pos ⟨rfl, rfl⟩]
        · rw [List.getElem?_set_ne (Ne.symm e), List.getElem?_map, List.getElem?_map, List.getElem?_range hm]
          show some (qD (f k m)) = some (qD (put f k i c k m))
          unfold put
          rw [if_neg fun z => e z.2]
      · rw [List.getElem?_eq_none (by rw [List.length_set, List.length_map, List.length_range]; omega), List.getElem?_eq_none (by rw [List.length_map, List.length_range]; omega)]
    · rw [List.getElem?_set_ne (Ne.symm e), List.getElem?_map, List.getElem?_map, List.getElem?_range hk]
      show some _ = some _
      congr 1
      refine List.map_congr_left fun m _ => ?_
      unfold put
      rw [if_neg fun z => e z.1]
  · rw [List.getElem?_eq_none (by rw [List.length_set, List.length_map, List.length_range]; omega), List.getElem?_eq_none (by rw [List.length_map, List.length_range]; omega)]
theorem eqvAll_refl : ∀ {ds : List D}, (∀ d ∈ ds, PyData.eqv d d = true) → PyData.eqvAll ds ds = true
  | [], _ => rfl
  | d :: ds, h => by
    show (PyData.eqv d d && PyData.eqvAll ds ds) = true
    rw [h d List.mem_cons_self, eqvAll_refl fun d hd => h d (List.mem_cons_of_mem _ hd)]
    rfl
theorem pic_refl (n : Nat) (f : Pic) : PyData.eqv (picD n f) (picD n f) = true := by
  refine eqvAll_refl fun d hd => ?_
  obtain ⟨j, _, rfl⟩ := List.mem_map.mp hd
  refine eqvAll_refl (ds := (List.range n).map fun i => qD (f j i)) fun d hd => ?_
  obtain ⟨i, _, rfl⟩ := List.mem_map.mp hd
  rw [eqv_q, decide_eq_true rfl]
theorem pic_lay (n : Nat) (f : Pic) (h : ∀ j i, dep (f j i) = 0) : SeqAt.shaped (picD n f) = true := by
  have h1 : Lay 4 (picD n f) := .tup (.of fun d hd => by
    obtain ⟨j, _, rfl⟩ := List.mem_map.mp hd
    exact .tup (.of fun d hd => by
      obtain ⟨i, _, rfl⟩ := List.mem_map.mp hd
      have := lay_q (f j i)
      rw [h] at this
      exact this))
  exact h1.shaped
theorem thins_map {α : Type} (a : α → D) (h : ∀ x, thin (a x) = true) : ∀ ls : List α, thins (ls.map a) = true
  | [] => rfl
  | x :: ls => by
    show (thin (a x) && thins (ls.map a)) = true
    rw [h x, thins_map a h ls]
    rfl
theorem thin_q : ∀ q : Q, thin (qD q) = true
  | .c _ _ => rfl
  | .n a b c d => by
    show (thin (qD a) && (thin (qD b) && (thin (qD c) && (thin (qD d) && true)))) = true
    rw [thin_q a, thin_q b, thin_q c, thin_q d]
    rfl
theorem thin_pic (n : Nat) (f : Pic) : thin (picD n f) = true := thins_map (rowD n f) (fun j => thins_map (fun i => qD (f j i)) (fun i => thin_q _) (List.range n)) (List.range n)
theorem thin_ints (ns : List Int) : thin (.list (ns.map .int)) = true := by
  show List.all _ isI = true
  rw [List.all_map]
  exact List.all_eq_true.mpr fun x _ => rfl
theorem thin_st (s : DS) : thinO (stO s) = true := by
  show (thin (.list (s.cells.map .int)) && (true && (true && (true && true)))) = true
  rw [thin_ints]
  rfl
theorem look_pic (k : Nat) (f : Pic) : picD (2 ^ k) (look k (tree k f)) = picD (2 ^ k) f := by
  unfold picD rowD
  congr 1
  refine List.map_congr_left fun j hj => ?_
  congr 1
  refine List.map_congr_left fun i hi => ?_
  rw [look_tree k f j i (List.mem_range.mp hj) (List.mem_range.mp hi)]
theorem size_at {k : Nat} (h : k ≤ 3) : atI [PyData.int 8, .int 4, .int 2, .int 1] (k : Int) = some (.int ((2 ^ (3 - k) : Nat) : Int)) ∧ ((2 : Int) ^ (3 : Int).toNat).fdiv ((2 ^ (3 - k) : Nat) : Int) = ((2 ^ k : Nat) : Int) := by
  have : k = 0 ∨ k = 1 ∨ k = 2 ∨ k = 3 := by omega
  rcases this with rfl | rfl | rfl | rfl
  · exact ⟨rfl, by decide⟩
  · exact ⟨rfl, by decide⟩
  · exact ⟨rfl, by decide⟩
  · exact ⟨rfl, by decide⟩
theorem two_le {k : Nat} (h : k ≤ 3) : 1 ≤ 2 ^ k ∧ 2 ^ k ≤ 8 := by
  have h1 : 2 ^ k ≤ 2 ^ 3 := Nat.pow_le_pow_right (by decide) h
  exact ⟨Nat.two_pow_pos k, h1⟩
theorem block_of {i : Int} (h0 : 0 ≤ i) (h : i < 4) : ∃ b : Nat, (b = 1 ∨ b = 2 ∨ b = 4) ∧ [PyData.int 1, .int 1, .int 2, .int 4].getD i.toNat .none = .int (b : Int) := by
  have : i = 0 ∨ i = 1 ∨ i = 2 ∨ i = 3 := by omega
  rcases this with rfl | rfl | rfl | rfl
  · exact ⟨1, .inl rfl, rfl⟩
  · exact ⟨1, .inl rfl, rfl⟩
  · exact ⟨2, .inr (.inl rfl), rfl⟩
  · exact ⟨4, .inr (.inr rfl), rfl⟩
/-- the place in its block -/
theorem blk {x b : Nat} (hb : b = 1 ∨ b = 2 ∨ b = 4) (hx : x < 8) : CDivR (x : Int) (b : Int) ∧ CMulB ((x : Int).fdiv (b : Int)) (b : Int) ∧ (x : Int).fdiv (b : Int) * (b : Int) = ((x / b * b : Nat) : Int) ∧ x / b * b ≤ x := by
  have hb0 : 0 < b := by omega
  have e : (x : Int).fdiv (b : Int) = ((x / b : Nat) : Int) := by
    rw [Int.fdiv_eq_ediv_of_nonneg _ (by omega)]
    rfl
  have h8 : x / b ≤ x := Nat.div_le_self x b
  refine ⟨⟨by omega, lt_log (n := 3) (by omega) (by omega) (by decide)⟩, ?_, ?_, Nat.div_mul_le_self x b⟩
  · rw [e]
    exact mulB_of (n := 4) (m := 4) (by rw [Int.natAbs_natCast]; omega) (by rw [Int.natAbs_natCast]; omega) (by decide)
  · rw [e]
    rfl
theorem w_setN {K : PySem.W.Frag} {δ δ1 : List Sl} {u : TS} {te : TE} {i : Nat} {o : O} (h : EvJ K te δ (.new o) δ1) (hl : i < δ1.length) (hp : NoPar δ1 i) (k : WJ K u (δ1.set i (.ob true o))) : WJ K (tSeq (tAsg te (gName i)) u) δ := w_st (st_setN h hl hp) k
/-- picture data from rows -/
theorem told {K : PySem.W.Frag} {x0 x1 x2 x3 x4 x5 x7 x8 x9 x10 x11 x12 x13 x14 : Sl} {n : Nat} {f : Pic} (hn : n ≤ 8) (h9 : Dat x9) :
    EvJ K (tCB (rTupU K) (tCons (tLc (iList K (tVar 6)) (gName 9) tYes (tCB (rTupU K) (tCons (tVar 9) tNil)) [9]) tNil)) [x0, x1, x2, x3, x4, x5, .fr (.list ((gridR n f).map .list)), x7, x8, x9, x10, x11, x12, x13, x14] (.fr (picD n f))
      [x0, x1, x2, x3, x4, x5, .fr (.list ((gridR n f).map .list)), x7, x8, x9, x10, x11, x12, x13, x14] := by
  rw [grid_cells]
  apply ev_cb
  · apply ea_cons
    · refine ev_lc (δ1 := [x0, x1, x2, x3, x4, x5, .fr (cellsD n f), x7, x8, x9, x10, x11, x12, x13, x14]) (δw := [x0, x1, x2, x3, x4, x5, .fr (cellsD n f), x7, x8, .no, x10, x11, x12, x13, x14]) (src_list (ev_var rfl)) (LcRel.maps (lrow n f) (rowD n f) fun j hj => ⟨[x0, x1, x2, x3, x4, x5, .fr (cellsD n f), x7, x8, .fr (lrow n f j), x10, x11, x12, x13, x14], bw_name, ?_, fun i hi o z => ?_, rfl⟩) rfl rfl (fun i hi => ?_) ?_
      · exact ev_cb (ea_cons (ev_var rfl) ea_nil) (cd_tup rfl)
      · rw [List.mem_singleton.mp hi] at z
        cases z
      · rw [List.mem_singleton.mp hi]
        exact np_at rfl h9
      · rw [List.length_map, List.length_range]
        exact Nat.le_trans hn (by decide)
    · exact ea_nil
  · exact cd_tup rfl
/-- the row that a place lies in -/
theorem wrap_at {n i : Nat} {g : Nat → D} (h : i < n) : atI ((List.range n).map g) ((i : Int) - 1) = some (g (if i = 0 then n - 1 else i - 1)) := by
  by_cases h0 : i = 0
  · subst h0
    rw [if_pos rfl]
    unfold atI ixN
    rw [List.length_map, List.length_range, if_neg (by omega), if_pos (by omega)]
    show ((List.range n).map g)[(((0 : Nat) : Int) - 1 + (n : Int)).toNat]? = _
    rw [show (((0 : Nat) : Int) - 1 + (n : Int)).toNat = n - 1 by omega, List.getElem?_map, List.getElem?_range (by omega)]
    rfl
  · rw [if_neg h0, show ((i : Int) - 1) = ((i - 1 : Nat) : Int) by omega]
    exact at_range g (by omega)
def St30 (ns : List Int) (k b : Nat) (m : Int) (s : DS) (f : Pic) (x7 x8 x9 x12 x13 x14 : Sl) (tl : D) : List Sl :=
  [.fr (.list (ns.map .int)), .ob true (stO s), .fr (.int (k : Int)), .fr (.int ((2 ^ k : Nat) : Int)), .fr (.int (b : Int)), .fr (.int m), .fr (.list ((gridR (2 ^ k) f).map .list)), x7, x8, x9, .fr tl, .fr (qD (tree k f)), x12, x13, x14]
def thinE : Sl → Prop
  | .fr d => thin d = true
  | .ob _ o => thinO o = true
  | .no => True
theorem thinS.e {x : Sl} (h : thinS x) : thinE x := by
  cases x with
  | ob _ _ => exact h.elim
  | fr d => exact h
  | no => trivial
theorem thin30 {ns : List Int} {k b : Nat} {m : Int} {s : DS} {f : Pic} {x6 x7 x8 x9 x12 x13 x14 : Sl} {tl : D} (htl : thin tl = true) (t7 : thinS x7) (t8 : thinS x8) (t12 : thinS x12) (t13 : thinS x13) (t14 : thinS x14) : ∀ (i : Nat) (x : Sl), i ≠ 6 → i ≠ 9 →
    ([.fr (.list (ns.map .int)), .ob true (stO s), .fr (.int (k : Int)), .fr (.int ((2 ^ k : Nat) : Int)), .fr (.int (b : Int)), .fr (.int m), x6, x7, x8, x9, .fr tl, .fr (qD (tree k f)), x12, x13, x14] : List Sl)[i]? = some x → thinE x := fun i x h6 h9 h => by
  match i, h with
  | 0, h => cases h; exact thin_ints ns
  | 1, h => cases h; exact thin_st s
  | 2, h => cases h; rfl
  | 3, h => cases h; rfl
  | 4, h => cases h; rfl
  | 5, h => cases h; rfl
  | 6, h => exact absurd rfl h6
  | 7, h => cases h; exact t7.e
  | 8, h => cases h; exact t8.e
  | 9, h => exact absurd rfl h9
  | 10, h => cases h; exact htl
  | 11, h => cases h; exact thin_q _
  | 12, h => cases h; exact t12.e
  | 13, h => cases h; exact t13.e
  | 14, h => cases h; exact t14.e
  | i + 15, h => cases h
def P30 (ns : List Int) (k b : Nat) (m : Int) (tl : D) : Pst := fun δ rows => ∃ (s : DS) (f : Pic) (x7 x8 x9 x12 x13 x14 : Sl), s.ok ∧ (∀ j i, isC (f j i) = true) ∧ thinS x7 ∧ thinS x8 ∧ thinS x9 ∧ thinS x12 ∧ thinS x13 ∧ thinS x14 ∧ rows = gridR (2 ^ k) f ∧ δ = St30 ns k b m s f x7 x8 x9 x12 x13 x14 tl
theorem tree_dep {k : Nat} {f : Pic} (h : ∀ j i, isC (f j i) = true) : dep (tree k f) ≤ k := dep_tree k f h
theorem turn30 {K : PySem.W.Frag} {ns : List Int} {k b : Nat} {m : Int} {tl : D} {δ : List Sl} {rows : List (List D)} {c : Int} (hk : k ≤ 3) (hm0 : 0 < m) (hm4 : m ≤ 4) (htl : thin tl = true) (h : P30 ns k b m tl δ rows) : TopJ K
    (tSeq (tAsg (tCall (spD K C__law_draw) [] E0 (tCons (tVar 1) (tCons (tVar 3) tNil))) (gName 8))
    (tSeq (tAsg (tCall (spD K C__law_draw) [] E0 (tCons (tVar 1) (tCons (tVar 3) tNil))) (gName 7))
    (tSeq (tAsg (tCall (spD K C__law_pick) [] E0 (tCons (tVar 1) (tCons (tLst (tCons (tCall (spD K C__law_colour) [] E0 (tCons (tVar 1) (tCons (tVar 5) tNil))) (tCons (tOp (rIx K) (tOp (rIx K) (tVar 6) (tVar 7)) (tOp rSubU (tVar 8) (tC (.int 1)))) tNil))) tNil))) (gName 13))
    (tSeq (tAsg (tOp (rIx K) (tVar 6) (tVar 7)) (gName 9))
    (tSeq (tAsg (tVar 13) (gSub (tVar 9) (tVar 8) rSetL))
    (tSeq (tAsg (tCall (spD K (C_mended 4)) [] E0 (tCons (tVar 11) (tCons (tVar 2) (tCons (tTup (tCons (tVar 8) (tCons (tVar 7) tNil))) (tCons (tVar 13) tNil))))) (gName 14))
    (tSeq (tIfS (tTest (tOp (rNeD K) (tVar 14) (tCall (spD K (C__law_tree 4)) [] E0 (tCons (tVar 6) (tCons (tC (.int 0)) (tCons (tC (.int 0)) (tCons (tVar 3) tNil))))))) (tRet (tC (.bl false))) tNext)
    (tAsg (tVar 14) (gName 11))))))))) 6 (δ.set 12 (.fr (.int c))) rows (P30 ns k b m tl) := by
  obtain ⟨s, f, x7, x8, x9, x12, x13, x14, hs, hf, t7, t8, t9, t12, t13, t14, rfl, rfl⟩ := h
  obtain ⟨two1, two8⟩ := two_le hk
  obtain ⟨s1, a0, a1⟩ := draw_ok hs (b := ((2 ^ k : Nat) : Int)) (by omega)
  obtain ⟨i, hi⟩ : ∃ i : Nat, (draw s ((2 ^ k : Nat) : Int)).1 = (i : Int) := ⟨_, (Int.toNat_of_nonneg a0).symm⟩
  obtain ⟨s2, b0, b1⟩ := draw_ok s1 (b := ((2 ^ k : Nat) : Int)) (by omega)
  obtain ⟨j, hj⟩ : ∃ j : Nat, (draw (draw s ((2 ^ k : Nat) : Int)).2 ((2 ^ k : Nat) : Int)).1 = (j : Int) := ⟨_, (Int.toNat_of_nonneg b0).symm⟩
  rw [hi] at a1
  rw [hj] at b1
  have hi2 : i < 2 ^ k := by omega
  have hj2 : j < 2 ^ k := by omega
  obtain ⟨s3, _, _⟩ := draw_ok s2 (b := m) hm0
  generalize hS1 : (draw s ((2 ^ k : Nat) : Int)).2 = S1 at *
  generalize hS2 : (draw S1 ((2 ^ k : Nat) : Int)).2 = S2 at *
  generalize hS3 : (draw S2 m).2 = S3 at *
  let xs : List D := [qD (colOf (draw S2 m).1), qD (f j (if i = 0 then 2 ^ k - 1 else i - 1))]
  have hl : (((2 ^ k : Nat) : Int)).natAbs.log2 < 9000 := lt_log (n := 4) (by omega) (by omega) (by decide)
  obtain ⟨s4, c0, c1⟩ := draw_ok s3 (b := 2) (by decide)
  obtain ⟨q, hqc, hqd⟩ : ∃ q : Q, isC q = true ∧ xs.getD (draw S3 2).1.toNat .none = qD q := by
    have : (draw S3 2).1.toNat = 0 ∨ (draw S3 2).1.toNat = 1 := by omega
    rcases this with e | e
    · rw [e]
      exact ⟨_, colOf_c _, rfl⟩
    · rw [e]
      exact ⟨_, hf _ _, rfl⟩
  unfold St30
  show TopJ K _ 6 [.fr (.list (ns.map .int)), .ob true (stO s), .fr (.int (k : Int)), .fr (.int ((2 ^ k : Nat) : Int)), .fr (.int (b : Int)), .fr (.int m), .fr (.list ((gridR (2 ^ k) f).map .list)), x7, x8, x9, .fr tl, .fr (qD (tree k f)), .fr (.int c), x13, x14] _ _
  apply top_set (d := .int (i : Int))
  · apply EvJ.conv
    · apply ev_callS
      · walk_at "ev"
      · rfl
      · rfl
      · exact ⟨_, hs, by omega, hl, rfl, rfl, rfl⟩
      · rfl
    · rw [hi]
  · exact np_at rfl (thinS_dat t8)
  · decide
  rw [hS1]
  apply top_set (d := .int (j : Int))
  · apply EvJ.conv
    · apply ev_callS
      · walk_at "ev"
      · rfl
      · rfl
      · exact ⟨_, s1, by omega, hl, rfl, rfl, rfl⟩
      · rfl
    · rw [hj]
  · exact np_at rfl (thinS_dat t7)
  · decide
  rw [hS2]
  apply top_set (d := qD q)
  · apply EvJ.conv
    · apply ev_callS (s := S3) (i := 1)
      · apply ea_cons
        · exact ev_varO rfl
        · apply ea_cons
          · apply ev_lstF
            · apply ea_cons
              · apply ev_callS
                · walk_at "ev"
                · rfl
                · rfl
                · exact ⟨m, s2, hm0, hm4, rfl, rfl, rfl⟩
                · rfl
              · apply ea_cons
                · rw [grid_cells, hS3]
                  exact ev_op (ev_op (ev_var rfl) (ev_var rfl) (od_ix rfl (at_range (lrow (2 ^ k) f) hj2))) (ev_op (ev_var rfl) ev_int od_subI) (od_ix rfl (wrap_at hi2))
                · exact ea_nil
            · rfl
            · exact Nat.le_of_ble_eq_true rfl
          · exact ea_nil
      · rfl
      · rfl
      · exact ⟨xs, s3, (fun z => nomatch z), Nat.le_of_ble_eq_true rfl, .inl rfl, rfl, rfl⟩
      · rfl
    · exact hqd
  · exact np_at rfl (thinS_dat t13)
  · decide
  have e : xs.length = 2 := rfl
  rw [e]
  generalize hS4 : (draw S3 ((2 : Nat) : Int)).2 = S4
  have s4' : S4.ok := by rw [← hS4]; exact s4
  rw [← grid_cells]
  show TopJ K _ 6 [.fr (.list (ns.map .int)), .ob true (stO S4), .fr (.int (k : Int)), .fr (.int ((2 ^ k : Nat) : Int)), .fr (.int (b : Int)), .fr (.int m), .fr (.list ((gridR (2 ^ k) f).map .list)), .fr (.int (j : Int)), .fr (.int (i : Int)), x9, .fr tl, .fr (qD (tree k f)), .fr (.int c), .fr (qD q), x14] _ _
  refine top_mut (d := qD q) (row := (List.range (2 ^ k)).map fun i => qD (f j i)) (jx := 7) (ix := 8) (s := 13) (r := 9) (j := j) (i := i) rfl rfl rfl ?_ (by rw [List.length_map, List.length_range]; exact hi2) (by decide) (by decide) (by decide) (by decide) (by decide) (Nat.le_of_ble_eq_true rfl) (Nat.le_of_ble_eq_true rfl) (np_at rfl (thinS_dat t9)) (np_at rfl trivial) ?_ ?_ ?_ ?_ ?_
  · unfold gridR
    rw [List.getElem?_map, List.getElem?_range hj2]
    rfl
  · have h := hf j i
    cases e : f j i with
    | c p q' => exact ⟨_, List.mem_map.mpr ⟨i, List.mem_range.mpr hi2, by rw [e]; rfl⟩⟩
    | n _ _ _ _ =>
      rw [e] at h
      cases h
  · exact fun y d' h1 h2 h3 => thin30 (s := S4) (x6 := .fr (.list ((gridR (2 ^ k) f).map .list))) (x7 := .fr (.int (j : Int))) (x8 := .fr (.int (i : Int))) (x9 := x9) (x12 := .fr (.int c)) (x13 := .fr (qD q)) htl rfl rfl rfl (thin_q _) t14 y _ h1 h2 h3
  · exact fun y _ o h1 h2 h3 => thin30 (s := S4) (x6 := .fr (.list ((gridR (2 ^ k) f).map .list))) (x7 := .fr (.int (j : Int))) (x8 := .fr (.int (i : Int))) (x9 := x9) (x12 := .fr (.int c)) (x13 := .fr (qD q)) htl rfl rfl rfl (thin_q _) t14 y _ h1 h2 h3
  · intro row hrow
    obtain ⟨y, _, rfl⟩ := List.mem_map.mp hrow
    exact thins_map (fun i => qD (f y i)) (fun _ => thin_q _) _
  rw [grid_set f q hj2 hi2]
  have hf' : ∀ y x, isC (put f j i q y x) = true := fun y x => by
    unfold put
    split
    · exact hqc
    · exact hf y x
  have dt : dep (tree k (put f j i q)) ≤ k := tree_dep hf'
  show TopJ K _ 6 [.fr (.list (ns.map .int)), .ob true (stO S4), .fr (.int (k : Int)), .fr (.int ((2 ^ k : Nat) : Int)), .fr (.int (b : Int)), .fr (.int m), .fr (.list ((gridR (2 ^ k) (put f j i q)).map .list)), .fr (.int (j : Int)), .fr (.int (i : Int)), .no, .fr tl, .fr (qD (tree k f)), .fr (.int c), .fr (qD q), x14] _ _
  apply top_set (d := qD (tree k (put f j i q)))
  · apply ev_callP
    · walk_at "ev"
    · rfl
    · exact ⟨k, tree k f, i, j, q, by omega, by decide, tree_dep hf, dep_c hqc, hi2, hj2, rfl, by rw [mend_tree k f j i q hj2 hi2]⟩
  · exact np_at rfl (thinS_dat t14)
  · decide
  apply top_if (b := false)
  · have e : false = !PyData.eqv (qD (tree k (put f j i q))) (qD (tree k (put f j i q))) := by rw [eqv_q, decide_eq_true rfl]; rfl
    rw [e]
    apply tt_test
    apply ev_op
    · walk_at "ev"
    · apply ev_callP (d := qD (tree k (put f j i q)))
      · walk_at "ev"
      · rfl
      · refine ⟨k, 2 ^ k, 0, 0, put f j i q, by omega, by decide, fun y x => dep_c (hf' y x), by omega, by omega, ?_, ?_⟩
        · rw [grid_cells]
          rfl
        · simp only [Nat.zero_add]
    · exact od_ne rfl rfl (shaped_q (by omega)) (shaped_q (by omega))
  · intro h
    cases h
  · intro _
    apply top_next
    refine top_set1 (d := qD (tree k (put f j i q))) (ev_var rfl) (np_at rfl trivial) (by decide) ?_
    exact ⟨S4, put f j i q, .fr (.int (j : Int)), .fr (.int (i : Int)), .no, .fr (.int c), .fr (qD q), .fr (qD (tree k (put f j i q))), s4', hf', rfl, rfl, trivial, rfl, thin_q _, thin_q _, rfl, rfl⟩
theorem rngD0 (n : Nat) : rngD 0 n = (List.range n).map fun i : Nat => PyData.int (i : Int) := by
  unfold rngD
  refine List.map_congr_left fun i _ => ?_
  rw [Int.zero_add]
def picOf (rs : List (List Q)) : Pic := fun j i => (rs.getD j []).getD i (.c 0 1)
theorem picOf_c {n : Nat} {rs : List (List Q)} (h : ∀ cs ∈ rs, AllC n cs) (j i : Nat) : isC (picOf rs j i) = true := by
  unfold picOf
  rw [List.getD_eq_getElem?_getD, List.getD_eq_getElem?_getD]
  cases q : rs[j]? with
  | none => rfl
  | some cs =>
    show isC (cs[i]?.getD (.c 0 1)) = true
    cases p : cs[i]? with
    | none => rfl
    | some c => exact (h cs (List.mem_of_getElem? q)).2 c (List.mem_of_getElem? p)
theorem grid_made {K : PySem.W.Frag} {x0 x1 x2 x5 x7 x8 x9 x10 x11 x12 x13 x14 : Sl} {n b : Nat} {rs : List (List Q)} (hn : n ≤ 8) (hb : b = 1 ∨ b = 2 ∨ b = 4) (hr : rs.length = n) (hc : ∀ cs ∈ rs, AllC n cs) (h7 : Dat x7) (h8 : Dat x8) :
    EvG K (tLc (iRng1 (tCons (tVar 3) tNil)) (gName 7) tYes (tLc (iRng1 (tCons (tVar 3) tNil)) (gName 8) tYes (tOp (rIx K) (tOp (rIx K) (tVar 6) (tOp (rMulU K) (tOp (rI CDivR fun i j => .int (i.fdiv j)) (tVar 7) (tVar 4)) (tVar 4))) (tOp (rMulU K) (tOp (rI CDivR fun i j => .int (i.fdiv j)) (tVar 8) (tVar 4)) (tVar 4))) [8]) [7])
      [x0, x1, x2, .fr (.int (n : Int)), .fr (.int (b : Int)), x5, .ob true (.L (rs.map rowQ)), x7, x8, x9, x10, x11, x12, x13, x14] (gridR n fun j i => picOf rs (j / b * b) (i / b * b)) [x0, x1, x2, .fr (.int (n : Int)), .fr (.int (b : Int)), x5, .ob true (.L (rs.map rowQ)), x7, x8, x9, x10, x11, x12, x13, x14] := by
  have hz : (rngD 0 ((n : Int)).toNat).length ≤ sizeLine := by
    rw [rngD_len]
    exact Nat.le_trans (show ((n : Int)).toNat ≤ 8 by omega) (by decide)
  refine ev_grid (src_rng1 (n := (n : Int)) (ea_cons (ev_var rfl) ea_nil) (by omega) (by omega)) (by rw [rngD_len]; unfold gridR; rw [List.length_map, List.length_range]; omega) (fun j d row hd hrow => ?_) (fun i hi b o z => ?_) hz
  · have hjn : j < n := by
      have := (List.getElem?_eq_some_iff.mp hd).1
      rw [rngD_len] at this
      omega
    rw [rngD_get (by omega), Int.zero_add] at hd
    cases hd
    unfold gridR at hrow
    rw [List.getElem?_map, List.getElem?_range hjn] at hrow
    cases hrow
    obtain ⟨d1, d2, d3, d4⟩ := blk (x := j) hb (by omega)
    refine ⟨[x0, x1, x2, .fr (.int (n : Int)), .fr (.int (b : Int)), x5, .ob true (.L (rs.map rowQ)), .fr (.int (j : Int)), x8, x9, x10, x11, x12, x13, x14], bw_name, ?_, fun i hi o z => ?_, rfl⟩
    · refine ev_lc (δ1 := [x0, x1, x2, .fr (.int (n : Int)), .fr (.int (b : Int)), x5, .ob true (.L (rs.map rowQ)), .fr (.int (j : Int)), x8, x9, x10, x11, x12, x13, x14]) (δw := [x0, x1, x2, .fr (.int (n : Int)), .fr (.int (b : Int)), x5, .ob true (.L (rs.map rowQ)), .fr (.int (j : Int)), .no, x9, x10, x11, x12, x13, x14]) (src_rng1 (n := (n : Int)) (ea_cons (ev_var rfl) ea_nil) (by omega) (by omega)) ?_ rfl rfl (fun i hi => ?_) hz
      · rw [Int.toNat_natCast, rngD0]
        refine LcRel.maps (fun i : Nat => PyData.int (i : Int)) _ fun i hi => ⟨[x0, x1, x2, .fr (.int (n : Int)), .fr (.int (b : Int)), x5, .ob true (.L (rs.map rowQ)), .fr (.int (j : Int)), .fr (.int (i : Int)), x9, x10, x11, x12, x13, x14], bw_name, ?_, fun y hy o z => ?_, rfl⟩
        · have hin : i < n := List.mem_range.mp hi
          obtain ⟨e1, e2, e3, e4⟩ := blk (x := i) hb (by omega)
          have hrl : j / b * b < rs.length := by omega
          have q1 : atI (rs.map rowQ) ((j / b * b : Nat) : Int) = some (rowQ (rs.getD (j / b * b) [])) := atI_nat (by
            rw [List.getElem?_map, List.getElem?_eq_getElem hrl, List.getD_eq_getElem?_getD, List.getElem?_eq_getElem hrl]
            rfl)
          have hcs := hc (rs.getD (j / b * b) []) (by
            rw [List.getD_eq_getElem?_getD, List.getElem?_eq_getElem hrl]
            exact List.getElem_mem hrl)
          have hcl : i / b * b < (rs.getD (j / b * b) []).length := by
            rw [hcs.1]
            omega
          have q2 : atI ((rs.getD (j / b * b) []).map qD) ((i / b * b : Nat) : Int) = some (qD (picOf rs (j / b * b) (i / b * b))) := atI_nat (by
            unfold picOf
            rw [List.getElem?_map, List.getElem?_eq_getElem hcl, List.getD_eq_getElem?_getD (l := rs.getD (j / b * b) []), List.getElem?_eq_getElem hcl]
            rfl)
          have ex : ∀ (u x : Nat) (δ : List Sl), CDivR (x : Int) (b : Int) → CMulB ((x : Int).fdiv (b : Int)) (b : Int) → (x : Int).fdiv (b : Int) * (b : Int) = ((x / b * b : Nat) : Int) → δ[u]? = some (.fr (.int (x : Int))) → δ[4]? = some (.fr (.int (b : Int))) →
              EvJ K (tOp (rMulU K) (tOp (rI CDivR fun i j => .int (i.fdiv j)) (tVar u) (tVar 4)) (tVar 4)) δ (.fr (.int ((x / b * b : Nat) : Int))) δ := fun u x δ c1 c2 c3 g1 g2 =>
            (ev_op (ev_op (ev_var g1) (ev_var g2) (od_I (g := fun i j => i.fdiv j) c1)) (ev_var g2) (od_mulI c2)).conv (by rw [c3])
          exact ev_op (ev_op (ev_varO rfl) (ex 7 j _ d1 d2 d3 rfl rfl) (od_ix rfl q1)) (ex 8 i _ e1 e2 e3 rfl rfl) (od_ix rfl q2)
        · rw [List.mem_singleton.mp hy] at z
          cases z
      · rw [List.mem_singleton.mp hi]
        exact np_at rfl h8
    · rw [List.mem_singleton.mp hi] at z
      cases z
  · rw [List.mem_singleton.mp hi] at z
    cases z
    exact h7
theorem law_w {K : PySem.W.Frag} {ns : List Int} (hns : ns.length ≤ 63) : WJ K (t_law K) [.fr (.list (ns.map .int)), .no, .no, .no, .no, .no, .no, .no, .no, .no, .no, .no, .no, .no, .no] := by
  have s0 := DS.init_ok hns
  apply w_setN
  · apply ev_callF
    · walk_at "ev"
    · rfl
    · exact ⟨ns, hns, rfl, rfl, rfl⟩
    · rfl
  · exact Nat.le_of_ble_eq_true rfl
  · walk_at "np"
  obtain ⟨s1, a0, a1⟩ := draw_ok s0 (b := 4) (by decide)
  obtain ⟨k, hk⟩ : ∃ k : Nat, (draw (DS.init ns) 4).1 = (k : Int) := ⟨_, (Int.toNat_of_nonneg a0).symm⟩
  rw [hk] at a1
  have hk3 : k ≤ 3 := by omega
  obtain ⟨two1, two8⟩ := two_le hk3
  generalize hS1 : (draw (DS.init ns) 4).2 = S1 at *
  apply w_set (d := .int (k : Int))
  · apply EvJ.conv
    · apply ev_callS
      · walk_at "ev"
      · rfl
      · rfl
      · exact ⟨4, s0, by decide, lt_log (n := 3) (by decide) (by decide) (by decide), rfl, rfl, rfl⟩
      · rfl
    · rw [hk]
  · walk_at "np"
  rw [hS1]
  obtain ⟨z1, z2⟩ := size_at hk3
  apply w_set (d := .int ((2 ^ k : Nat) : Int))
  · apply EvJ.conv
    · apply ev_op
      · exact ev_op ev_int ev_int (od_I (g := fun i j => i ^ j.toNat) ⟨by decide, by decide, by decide⟩)
      · apply ev_op
        · walk_at "ev"
        · walk_at "ev"
        · exact od_ix rfl z1
      · refine od_I (g := fun i j => i.fdiv j) ⟨?_, ?_⟩
        · have := Nat.two_pow_pos (3 - k)
          omega
        · have h1 := Nat.two_pow_pos (3 - k)
          have h2 : 2 ^ (3 - k) ≤ 2 ^ 3 := Nat.pow_le_pow_right (by decide) (by omega)
          exact lt_log (n := 4) (by omega) (by omega) (by decide)
    · rw [z2]
  · walk_at "np"
  obtain ⟨s2, b0, b1⟩ := draw_ok s1 (b := 4) (by decide)
  obtain ⟨b, hb, hbd⟩ := block_of b0 b1
  generalize hS2 : (draw S1 4).2 = S2 at *
  apply w_set (d := .int (b : Int))
  · apply EvJ.conv
    · apply ev_callS
      · walk_at "ev"
      · rfl
      · rfl
      · exact ⟨[.int 1, .int 1, .int 2, .int 4], s1, (fun z => nomatch z), Nat.le_of_ble_eq_true rfl, .inl rfl, rfl, rfl⟩
      · rfl
    · exact hbd
  · walk_at "np"
  have e4 : ([PyData.int 1, .int 1, .int 2, .int 4].length : Int) = 4 := rfl
  rw [e4, hS2]
  obtain ⟨s3, c0, c1⟩ := draw_ok s2 (b := 4) (by decide)
  generalize hm : 1 + (draw S2 4).1 = m
  have hm0 : 0 < m := by omega
  have hm4 : m ≤ 4 := by omega
  generalize hS3 : (draw S2 4).2 = S3 at *
  apply w_set (d := .int m)
  · apply EvJ.conv
    · apply ev_op
      · exact ev_int
      · apply ev_callS
        · walk_at "ev"
        · rfl
        · rfl
        · exact ⟨4, s2, by decide, lt_log (n := 3) (by decide) (by decide) (by decide), rfl, rfl, rfl⟩
        · rfl
      · exact od_addI
    · rw [hm]
  · walk_at "np"
  rw [hS3]
  apply w_setN
  · exact ev_lst' ea_nil rfl (Nat.zero_le _)
  · exact Nat.le_of_ble_eq_true rfl
  · walk_at "np"
  obtain ⟨S4, rs, x7, s4, d7, hrl, hrc, hf⟩ := draw_rows (K := K) (x0 := .fr (.list (ns.map .int))) (x2 := .fr (.int (k : Int))) (x4 := .fr (.int (b : Int))) (x9 := .no) (x10 := .no) (x11 := .no) (x12 := .no) (x13 := .no) (x14 := .no) (m := m) (n := 2 ^ k) hm0 hm4 two8 (rngD 0 (((2 ^ k : Nat) : Int)).toNat) S3 [] .no s3 trivial (fun d hd => by rw [rngD0] at hd; obtain ⟨i, _, rfl⟩ := List.mem_map.mp hd; rfl) (by rw [rngD_len]; show 0 + _ ≤ 8; omega)
  rw [rngD_len, Int.toNat_natCast] at hrl
  apply w_st
  · apply st_for
    · apply src_rng1
      · walk_at "ev"
      · omega
      · omega
    · exact hf
  rw [List.nil_append]
  refine w_grid (c := 6) (grid_made (n := 2 ^ k) (b := b) two8 hb hrl hrc (thinS_dat d7) trivial) (Nat.le_of_ble_eq_true rfl) ?_
  have hfc : ∀ y x, isC ((fun j i => picOf rs (j / b * b) (i / b * b)) y x) = true := fun y x => picOf_c hrc _ _
  generalize (fun j i => picOf rs (j / b * b) (i / b * b) : Pic) = f at *
  have hf0 : ∀ y x, dep (f y x) = 0 := fun y x => dep_c (hfc y x)
  have dt : dep (tree k f) ≤ k := tree_dep hfc
  show TopJ K _ 6 [.fr (.list (ns.map .int)), .ob true (stO S4), .fr (.int (k : Int)), .fr (.int ((2 ^ k : Nat) : Int)), .fr (.int (b : Int)), .fr (.int m), .fr (.list ((gridR (2 ^ k) f).map .list)), x7, .no, .no, .no, .no, .no, .no, .no] _ _
  apply top_set (d := picD (2 ^ k) f)
  · exact told two8 trivial
  · exact np_at rfl trivial
  · decide
  apply top_set (d := qD (tree k f))
  · apply ev_callP
    · walk_at "ev"
    · rfl
    · exact ⟨k, f, by omega, by decide, hf0, rfl, rfl⟩
  · exact np_at rfl trivial
  · decide
  apply top_if (b := (!PyData.eqv (qD (tree k f)) (qD (tree k f))) || ((!PyData.eqv (picD (2 ^ k) f) (picD (2 ^ k) f)) || (!PyData.eqv (.int (leafs (tree k f))) (.int (leafs (tree k f))))))
  · apply tt_orP
    · apply tt_test
      apply ev_op
      · walk_at "ev"
      · apply ev_callP (d := qD (tree k f))
        · walk_at "ev"
        · rfl
        · refine ⟨k, 2 ^ k, 0, 0, f, by omega, by decide, hf0, by omega, by omega, ?_, ?_⟩
          · rw [grid_cells]
            rfl
          · simp only [Nat.zero_add]
      · exact od_ne rfl rfl (shaped_q (by omega)) (shaped_q (by omega))
    · apply tt_orP
      · apply tt_test
        apply ev_op
        · apply ev_callP (d := picD (2 ^ k) f)
          · walk_at "ev"
          · rfl
          · exact ⟨k, tree k f, hk3, rfl, (look_pic k f).symm⟩
        · walk_at "ev"
        · exact od_ne rfl rfl (pic_lay _ _ hf0) (pic_lay _ _ hf0)
      · apply tt_test
        apply ev_op
        · apply ev_callP (d := .int (leafs (tree k f)))
          · walk_at "ev"
          · rfl
          · exact ⟨tree k f, by omega, rfl, rfl⟩
        · apply ev_callP (d := .int (leafs (tree k f)))
          · walk_at "ev"
          · rfl
          · exact ⟨tree k f, by omega, rfl, rfl⟩
        · exact od_ne rfl rfl rfl rfl
  · intro h
    rw [eqv_q, pic_refl, eqv_int, decide_eq_true rfl, decide_eq_true rfl] at h
    cases h
  · intro _
    apply top_next
    obtain ⟨s5, g0, g1⟩ := draw_ok s4 (b := 5) (by decide)
    refine top_for (c := 6) (x := 12) (n := (draw S4 5).1) (fun _ => P30 ns k b m (picD (2 ^ k) f)) (ea_cons (ev_callS (δ1 := [.fr (.list (ns.map .int)), .ob true (stO S4), .fr (.int (k : Int)), .fr (.int ((2 ^ k : Nat) : Int)), .fr (.int (b : Int)), .fr (.int m), .fr (.list ((gridR (2 ^ k) f).map .list)), x7, .no, .no, .fr (picD (2 ^ k) f), .fr (qD (tree k f)), .no, .no, .no]) (s := S4) (i := 1) (ea_cons (ev_varO rfl) (ea_cons ev_int ea_nil)) rfl rfl ⟨5, s4, by decide, lt_log (n := 3) (by decide) (by decide) (by decide), rfl, rfl, rfl⟩ rfl) ea_nil) (by omega) (by omega) ?_ (by decide) ?_ ?_
    · refine ⟨(draw S4 5).2, f, x7, .no, .no, .no, .no, .no, s5, hfc, d7, trivial, trivial, trivial, trivial, trivial, rfl, rfl⟩
    · intro i δ' rows' _ hP
      refine ⟨?_, turn30 hk3 hm0 hm4 (thin_pic _ _) hP⟩
      obtain ⟨s', f', y7, y8, y9, y12, y13, y14, _, _, _, _, _, t12, _, _, _, rfl⟩ := hP
      exact np_at rfl (thinS_dat t12)
    · intro δ' rows' hP
      obtain ⟨s', f', y7, y8, y9, y12, y13, y14, _, hf', _, _, t9, _, _, _, _, rfl⟩ := hP
      have hf0' : ∀ y x, dep (f' y x) = 0 := fun y x => dep_c (hf' y x)
      apply top_ret
      refine EvJ.conv (δ1 := St30 ns k b m s' f' y7 y8 y9 y12 y13 y14 (picD (2 ^ k) f)) (d := .bool (PyData.eqv (picD (2 ^ k) f') (picD (2 ^ k) f'))) ?_ (by rw [pic_refl])
      apply ev_op
      · apply ev_callP (d := picD (2 ^ k) f')
        · walk_at "ev"
        · rfl
        · exact ⟨k, tree k f', hk3, rfl, (look_pic k f').symm⟩
      · exact told two8 (thinS_dat t9)
      · exact od_eq rfl rfl (pic_lay _ _ hf0') (pic_lay _ _ hf0')

end DL
namespace DL
open PySem PySem.Spec PyProof.Rows L2
theorem all_mk {l : PySem.W.OpenLaw} {w : World} {K : PySem.W.Frag} {h : Heap} {mg : Str → Option Value} {fa : Addr} (X : K.In h) (G : h.Ns mainGlobals mg) (hfa : mg "law" = some (.ref fa))
    {od_law_start an_law_start : Option Addr} {sl_law_start : Array (Option Value)} {oc_law_start kV_law_start dc_law_start pm_law_start cd_law_start ct_law_start : Value} {f_law_start : Addr}
    (a_law_start : PySem.W.nsIn K mainGlobals "_law_start" = some (some (.ref f_law_start))) (l_law_start : K.lookup f_law_start = some ⟨oc_law_start, od_law_start, .func (PySem.W.fnOf "_law_start" "_law_start" (defArgs s__law_start) (defBody s__law_start) (defScope s__law_start) .none kV_law_start dc_law_start pm_law_start an_law_start cd_law_start ct_law_start), sl_law_start⟩) (c_law_start : PySem.W.codeIn K cd_law_start "_law_start" = true) (k_law_start : PySem.W.keepIn K (.ref f_law_start) = true)
    {od_law_draw an_law_draw : Option Addr} {sl_law_draw : Array (Option Value)} {oc_law_draw kV_law_draw dc_law_draw pm_law_draw cd_law_draw ct_law_draw : Value} {f_law_draw : Addr}
    (a_law_draw : PySem.W.nsIn K mainGlobals "_law_draw" = some (some (.ref f_law_draw))) (l_law_draw : K.lookup f_law_draw = some ⟨oc_law_draw, od_law_draw, .func (PySem.W.fnOf "_law_draw" "_law_draw" (defArgs s__law_draw) (defBody s__law_draw) (defScope s__law_draw) .none kV_law_draw dc_law_draw pm_law_draw an_law_draw cd_law_draw ct_law_draw), sl_law_draw⟩) (c_law_draw : PySem.W.codeIn K cd_law_draw "_law_draw" = true) (k_law_draw : PySem.W.keepIn K (.ref f_law_draw) = true)
    {od_law_pick an_law_pick : Option Addr} {sl_law_pick : Array (Option Value)} {oc_law_pick kV_law_pick dc_law_pick pm_law_pick cd_law_pick ct_law_pick : Value} {f_law_pick : Addr}
    (a_law_pick : PySem.W.nsIn K mainGlobals "_law_pick" = some (some (.ref f_law_pick))) (l_law_pick : K.lookup f_law_pick = some ⟨oc_law_pick, od_law_pick, .func (PySem.W.fnOf "_law_pick" "_law_pick" (defArgs s__law_pick) (defBody s__law_pick) (defScope s__law_pick) .none kV_law_pick dc_law_pick pm_law_pick an_law_pick cd_law_pick ct_law_pick), sl_law_pick⟩) (c_law_pick : PySem.W.codeIn K cd_law_pick "_law_pick" = true) (k_law_pick : PySem.W.keepIn K (.ref f_law_pick) = true)
    {odis_colour anis_colour : Option Addr} {slis_colour : Array (Option Value)} {ocis_colour kVis_colour dcis_colour pmis_colour cdis_colour ctis_colour : Value} {fis_colour : Addr}
    (ais_colour : PySem.W.nsIn K mainGlobals "is_colour" = some (some (.ref fis_colour))) (lis_colour : K.lookup fis_colour = some ⟨ocis_colour, odis_colour, .func (PySem.W.fnOf "is_colour" "is_colour" (defArgs s_is_colour) (defBody s_is_colour) (defScope s_is_colour) .none kVis_colour dcis_colour pmis_colour anis_colour cdis_colour ctis_colour), slis_colour⟩) (cis_colour : PySem.W.codeIn K cdis_colour "is_colour" = true) (kis_colour : PySem.W.keepIn K (.ref fis_colour) = true)
    {odgrown angrown : Option Addr} {slgrown : Array (Option Value)} {ocgrown kVgrown dcgrown pmgrown cdgrown ctgrown : Value} {fgrown : Addr}
    (agrown : PySem.W.nsIn K mainGlobals "grown" = some (some (.ref fgrown))) (lgrown : K.lookup fgrown = some ⟨ocgrown, odgrown, .func (PySem.W.fnOf "grown" "grown" (defArgs s_grown) (defBody s_grown) (defScope s_grown) .none kVgrown dcgrown pmgrown angrown cdgrown ctgrown), slgrown⟩) (cgrown : PySem.W.codeIn K cdgrown "grown" = true) (kgrown : PySem.W.keepIn K (.ref fgrown) = true)
    {odtree_of antree_of : Option Addr} {sltree_of : Array (Option Value)} {octree_of kVtree_of dctree_of pmtree_of cdtree_of cttree_of : Value} {ftree_of : Addr}
    (atree_of : PySem.W.nsIn K mainGlobals "tree_of" = some (some (.ref ftree_of))) (ltree_of : K.lookup ftree_of = some ⟨octree_of, odtree_of, .func (PySem.W.fnOf "tree_of" "tree_of" (defArgs s_tree_of) (defBody s_tree_of) (defScope s_tree_of) .none kVtree_of dctree_of pmtree_of antree_of cdtree_of cttree_of), sltree_of⟩) (ctree_of : PySem.W.codeIn K cdtree_of "tree_of" = true) (ktree_of : PySem.W.keepIn K (.ref ftree_of) = true)
    {odquarters_of anquarters_of : Option Addr} {slquarters_of : Array (Option Value)} {ocquarters_of kVquarters_of dcquarters_of pmquarters_of cdquarters_of ctquarters_of : Value} {fquarters_of : Addr}
    (aquarters_of : PySem.W.nsIn K mainGlobals "quarters_of" = some (some (.ref fquarters_of))) (lquarters_of : K.lookup fquarters_of = some ⟨ocquarters_of, odquarters_of, .func (PySem.W.fnOf "quarters_of" "quarters_of" (defArgs s_quarters_of) (defBody s_quarters_of) (defScope s_quarters_of) .none kVquarters_of dcquarters_of pmquarters_of anquarters_of cdquarters_of ctquarters_of), slquarters_of⟩) (cquarters_of : PySem.W.codeIn K cdquarters_of "quarters_of" = true) (kquarters_of : PySem.W.keepIn K (.ref fquarters_of) = true)
    {odmended anmended : Option Addr} {slmended : Array (Option Value)} {ocmended kVmended dcmended pmmended cdmended ctmended : Value} {fmended : Addr}
    (amended : PySem.W.nsIn K mainGlobals "mended" = some (some (.ref fmended))) (lmended : K.lookup fmended = some ⟨ocmended, odmended, .func (PySem.W.fnOf "mended" "mended" (defArgs s_mended) (defBody s_mended) (defScope s_mended) .none kVmended dcmended pmmended anmended cdmended ctmended), slmended⟩) (cmended : PySem.W.codeIn K cdmended "mended" = true) (kmended : PySem.W.keepIn K (.ref fmended) = true)
    {odrows_of anrows_of : Option Addr} {slrows_of : Array (Option Value)} {ocrows_of kVrows_of dcrows_of pmrows_of cdrows_of ctrows_of : Value} {frows_of : Addr}
    (arows_of : PySem.W.nsIn K mainGlobals "rows_of" = some (some (.ref frows_of))) (lrows_of : K.lookup frows_of = some ⟨ocrows_of, odrows_of, .func (PySem.W.fnOf "rows_of" "rows_of" (defArgs s_rows_of) (defBody s_rows_of) (defScope s_rows_of) .none kVrows_of dcrows_of pmrows_of anrows_of cdrows_of ctrows_of), slrows_of⟩) (crows_of : PySem.W.codeIn K cdrows_of "rows_of" = true) (krows_of : PySem.W.keepIn K (.ref frows_of) = true)
    {odpicture_of anpicture_of : Option Addr} {slpicture_of : Array (Option Value)} {ocpicture_of kVpicture_of dcpicture_of pmpicture_of cdpicture_of ctpicture_of : Value} {fpicture_of : Addr}
    (apicture_of : PySem.W.nsIn K mainGlobals "picture_of" = some (some (.ref fpicture_of))) (lpicture_of : K.lookup fpicture_of = some ⟨ocpicture_of, odpicture_of, .func (PySem.W.fnOf "picture_of" "picture_of" (defArgs s_picture_of) (defBody s_picture_of) (defScope s_picture_of) .none kVpicture_of dcpicture_of pmpicture_of anpicture_of cdpicture_of ctpicture_of), slpicture_of⟩) (cpicture_of : PySem.W.codeIn K cdpicture_of "picture_of" = true) (kpicture_of : PySem.W.keepIn K (.ref fpicture_of) = true)
    {od_law_tree an_law_tree : Option Addr} {sl_law_tree : Array (Option Value)} {oc_law_tree kV_law_tree dc_law_tree pm_law_tree cd_law_tree ct_law_tree : Value} {f_law_tree : Addr}
    (a_law_tree : PySem.W.nsIn K mainGlobals "_law_tree" = some (some (.ref f_law_tree))) (l_law_tree : K.lookup f_law_tree = some ⟨oc_law_tree, od_law_tree, .func (PySem.W.fnOf "_law_tree" "_law_tree" (defArgs s__law_tree) (defBody s__law_tree) (defScope s__law_tree) .none kV_law_tree dc_law_tree pm_law_tree an_law_tree cd_law_tree ct_law_tree), sl_law_tree⟩) (c_law_tree : PySem.W.codeIn K cd_law_tree "_law_tree" = true) (k_law_tree : PySem.W.keepIn K (.ref f_law_tree) = true)
    {odleaves anleaves : Option Addr} {slleaves : Array (Option Value)} {ocleaves kVleaves dcleaves pmleaves cdleaves ctleaves : Value} {fleaves : Addr}
    (aleaves : PySem.W.nsIn K mainGlobals "leaves" = some (some (.ref fleaves))) (lleaves : K.lookup fleaves = some ⟨ocleaves, odleaves, .func (PySem.W.fnOf "leaves" "leaves" (defArgs s_leaves) (defBody s_leaves) (defScope s_leaves) .none kVleaves dcleaves pmleaves anleaves cdleaves ctleaves), slleaves⟩) (cleaves : PySem.W.codeIn K cdleaves "leaves" = true) (kleaves : PySem.W.keepIn K (.ref fleaves) = true)
    {od_law_leaves an_law_leaves : Option Addr} {sl_law_leaves : Array (Option Value)} {oc_law_leaves kV_law_leaves dc_law_leaves pm_law_leaves cd_law_leaves ct_law_leaves : Value} {f_law_leaves : Addr}
    (a_law_leaves : PySem.W.nsIn K mainGlobals "_law_leaves" = some (some (.ref f_law_leaves))) (l_law_leaves : K.lookup f_law_leaves = some ⟨oc_law_leaves, od_law_leaves, .func (PySem.W.fnOf "_law_leaves" "_law_leaves" (defArgs s__law_leaves) (defBody s__law_leaves) (defScope s__law_leaves) .none kV_law_leaves dc_law_leaves pm_law_leaves an_law_leaves cd_law_leaves ct_law_leaves), sl_law_leaves⟩) (c_law_leaves : PySem.W.codeIn K cd_law_leaves "_law_leaves" = true) (k_law_leaves : PySem.W.keepIn K (.ref f_law_leaves) = true)
    {od_law_colour an_law_colour : Option Addr} {sl_law_colour : Array (Option Value)} {oc_law_colour kV_law_colour dc_law_colour pm_law_colour cd_law_colour ct_law_colour : Value} {f_law_colour : Addr}
    (a_law_colour : PySem.W.nsIn K mainGlobals "_law_colour" = some (some (.ref f_law_colour))) (l_law_colour : K.lookup f_law_colour = some ⟨oc_law_colour, od_law_colour, .func (PySem.W.fnOf "_law_colour" "_law_colour" (defArgs s__law_colour) (defBody s__law_colour) (defScope s__law_colour) .none kV_law_colour dc_law_colour pm_law_colour an_law_colour cd_law_colour ct_law_colour), sl_law_colour⟩) (c_law_colour : PySem.W.codeIn K cd_law_colour "_law_colour" = true) (k_law_colour : PySem.W.keepIn K (.ref f_law_colour) = true)
    {odlaw anlaw : Option Addr} {sllaw : Array (Option Value)} {oclaw kVlaw dclaw pmlaw cdlaw ctlaw : Value} {flaw : Addr}
    (alaw : PySem.W.nsIn K mainGlobals "law" = some (some (.ref flaw))) (llaw : K.lookup flaw = some ⟨oclaw, odlaw, .func (PySem.W.fnOf "law" "law" (defArgs s_law) (defBody s_law) (defScope s_law) .none kVlaw dclaw pmlaw anlaw cdlaw ctlaw), sllaw⟩) (claw : PySem.W.codeIn K cdlaw "law" = true) (klaw : PySem.W.keepIn K (.ref flaw) = true)
    {tQUARTERS : Tok} (zQUARTERS : PySem.W.nsIn K mainGlobals "QUARTERS" = some (some (.int 4 tQUARTERS)))
    (zabs : PySem.W.nsIn K mainGlobals "abs" = some none)
    (zall : PySem.W.nsIn K mainGlobals "all" = some none)
    (zbool : PySem.W.nsIn K mainGlobals "bool" = some none)
    (zint : PySem.W.nsIn K mainGlobals "int" = some none)
    (zisinstance : PySem.W.nsIn K mainGlobals "isinstance" = some none)
    (zlen : PySem.W.nsIn K mainGlobals "len" = some none)
    (zlist : PySem.W.nsIn K mainGlobals "list" = some none)
    (zrange : PySem.W.nsIn K mainGlobals "range" = some none)
    (zsum : PySem.W.nsIn K mainGlobals "sum" = some none)
    (ztuple : PySem.W.nsIn K mainGlobals "tuple" = some none)
    (zzip : PySem.W.nsIn K mainGlobals "zip" = some none)
    : ∃ fd : FuncData, (∀ (s : Shared) (v : Value), BindsTo s fd ⟨[v], []⟩ [("_law_script", v)]) ∧ ∀ base : Heap, K.In base → base.Ns mainGlobals mg → FnOk l.prog w K mg base CX0 9 fa fd ["_law_script"] (spL K) := by
  have e := hfa.symm.trans (PySem.W.mg_of X G alaw)
  cases e
  have B : Blt mg := ⟨⟨_, PySem.W.mg_of X G zQUARTERS, _, rfl⟩, PySem.W.mg_none_of X G zabs, PySem.W.mg_none_of X G zall, PySem.W.mg_none_of X G zbool, PySem.W.mg_none_of X G zint, PySem.W.mg_none_of X G zisinstance, PySem.W.mg_none_of X G zlen, PySem.W.mg_none_of X G zlist, PySem.W.mg_none_of X G zrange, PySem.W.mg_none_of X G zsum, PySem.W.mg_none_of X G ztuple, PySem.W.mg_none_of X G zzip⟩
  have D__law_start : DefAt K mg "_law_start" s__law_start ["_law_script"] := def_mk X G a_law_start l_law_start c_law_start k_law_start fun _ _ _ _ _ _ us hl => match us, hl with | [_], _ => rfl
  have D__law_draw : DefAt K mg "_law_draw" s__law_draw ["_law_state", "_law_bound"] := def_mk X G a_law_draw l_law_draw c_law_draw k_law_draw fun _ _ _ _ _ _ us hl => match us, hl with | [_, _], _ => rfl
  have D__law_pick : DefAt K mg "_law_pick" s__law_pick ["_law_state", "_law_things"] := def_mk X G a_law_pick l_law_pick c_law_pick k_law_pick fun _ _ _ _ _ _ us hl => match us, hl with | [_, _], _ => rfl
  have D_is_colour : DefAt K mg "is_colour" s_is_colour ["tree"] := def_mk X G ais_colour lis_colour cis_colour kis_colour fun _ _ _ _ _ _ us hl => match us, hl with | [_], _ => rfl
  have D_grown : DefAt K mg "grown" s_grown ["quarters"] := def_mk X G agrown lgrown cgrown kgrown fun _ _ _ _ _ _ us hl => match us, hl with | [_], _ => rfl
  have D_tree_of : DefAt K mg "tree_of" s_tree_of ["picture"] := def_mk X G atree_of ltree_of ctree_of ktree_of fun _ _ _ _ _ _ us hl => match us, hl with | [_], _ => rfl
  have D_quarters_of : DefAt K mg "quarters_of" s_quarters_of ["tree"] := def_mk X G aquarters_of lquarters_of cquarters_of kquarters_of fun _ _ _ _ _ _ us hl => match us, hl with | [_], _ => rfl
  have D_mended : DefAt K mg "mended" s_mended ["tree", "k", "cell", "colour"] := def_mk X G amended lmended cmended kmended fun _ _ _ _ _ _ us hl => match us, hl with | [_, _, _, _], _ => rfl
  have D_rows_of : DefAt K mg "rows_of" s_rows_of ["tree", "k"] := def_mk X G arows_of lrows_of crows_of krows_of fun _ _ _ _ _ _ us hl => match us, hl with | [_, _], _ => rfl
  have D_picture_of : DefAt K mg "picture_of" s_picture_of ["tree", "k"] := def_mk X G apicture_of lpicture_of cpicture_of kpicture_of fun _ _ _ _ _ _ us hl => match us, hl with | [_, _], _ => rfl
  have D__law_tree : DefAt K mg "_law_tree" s__law_tree ["_law_cells", "_law_i", "_law_j", "_law_size"] := def_mk X G a_law_tree l_law_tree c_law_tree k_law_tree fun _ _ _ _ _ _ us hl => match us, hl with | [_, _, _, _], _ => rfl
  have D_leaves : DefAt K mg "leaves" s_leaves ["tree"] := def_mk X G aleaves lleaves cleaves kleaves fun _ _ _ _ _ _ us hl => match us, hl with | [_], _ => rfl
  have D__law_leaves : DefAt K mg "_law_leaves" s__law_leaves ["_law_tree_here"] := def_mk X G a_law_leaves l_law_leaves c_law_leaves k_law_leaves fun _ _ _ _ _ _ us hl => match us, hl with | [_], _ => rfl
  have D__law_colour : DefAt K mg "_law_colour" s__law_colour ["_law_state", "_law_many"] := def_mk X G a_law_colour l_law_colour c_law_colour k_law_colour fun _ _ _ _ _ _ us hl => match us, hl with | [_, _], _ => rfl
  refine ⟨PySem.W.fnOf "law" "law" (defArgs s_law) (defBody s_law) (defScope s_law) .none kVlaw dclaw pmlaw anlaw cdlaw ctlaw, fun s v => .of_eq rfl, fun base _ _ => ?_⟩
  have K__law_start := ok__law_start (P := l.prog) (w := w) (base := base) B D__law_start 
  have K__law_draw := ok__law_draw (P := l.prog) (w := w) (base := base) B D__law_draw 
  have K__law_pick := ok__law_pick (P := l.prog) (w := w) (base := base) B D__law_pick K__law_draw
  have K_is_colour := ok_is_colour (P := l.prog) (w := w) (base := base) B D_is_colour 
  have K_grown := ok_grown (P := l.prog) (w := w) (base := base) B D_grown K_is_colour
  have K_tree_of := ok_tree_of (P := l.prog) (w := w) (base := base) B D_tree_of K_grown 4
  have K_quarters_of := ok_quarters_of (P := l.prog) (w := w) (base := base) B D_quarters_of K_is_colour
  have K_mended := ok_mended (P := l.prog) (w := w) (base := base) B D_mended K_grown K_quarters_of 4
  have K_rows_of := ok_rows_of (P := l.prog) (w := w) (base := base) B D_rows_of K_quarters_of 4
  have K_picture_of := ok_picture_of (P := l.prog) (w := w) (base := base) B D_picture_of K_rows_of
  have K__law_tree := ok__law_tree (P := l.prog) (w := w) (base := base) B D__law_tree  4
  have K_leaves := ok_leaves (P := l.prog) (w := w) (base := base) B D_leaves K_is_colour 4
  have K__law_leaves := ok__law_leaves (P := l.prog) (w := w) (base := base) B D__law_leaves  4
  have K__law_colour := ok__law_colour (P := l.prog) (w := w) (base := base) B D__law_colour K__law_draw
  exact fnW (fun_mk (st := s_law) llaw claw klaw) sc_law rfl fun cdv A outer s H E hr => ⟨t_law K, tm_law B K__law_start K__law_draw K__law_pick K_tree_of K_mended K_picture_of K__law_tree K_leaves K__law_leaves K__law_colour hr, fun ns hns => law_w hns⟩
end DL
open PySem PySem.W PyProof.Rows
set_option maxHeartbeats 0 in
theorem PySem.Challenge.cw_inkplane_k30_trees_of_squares_holds : PySem.Challenge.rw_inkplane_k30_trees_of_squares.Holds := by
  w_on; o_law; k_head; (case hw => w_witness2)
  k_fill
  refine L2.walk_of (l := PySem.Challenge.rw_inkplane_k30_trees_of_squares) (n := 63) (k := 9) (x := "_law_script") (CX := fun _ => L2.CX0) (sp := fun w => DL.spL _) rfl (by decide) rfl ⟨rfl, by decide, by decide⟩ (fun w h Y => PySem.W.kIn_of Y) ?F (fun _ _ a ns hl _ hS => ⟨a, ns, rfl, hS, hl, fun _ => rfl⟩) (fun _ _ _ _ _ h => h)
  case F =>
    intro w mg fa h KX G hmg
    refine' DL.all_mk KX G hmg ?a_law_start ?l_law_start ?c_law_start ?k_law_start ?a_law_draw ?l_law_draw ?c_law_draw ?k_law_draw ?a_law_pick ?l_law_pick ?c_law_pick ?k_law_pick ?ais_colour ?lis_colour ?cis_colour ?kis_colour ?agrown ?lgrown ?cgrown ?kgrown ?atree_of ?ltree_of ?ctree_of ?ktree_of ?aquarters_of ?lquarters_of ?cquarters_of ?kquarters_of ?amended ?lmended ?cmended ?kmended ?arows_of ?lrows_of ?crows_of ?krows_of ?apicture_of ?lpicture_of ?cpicture_of ?kpicture_of ?a_law_tree ?l_law_tree ?c_law_tree ?k_law_tree ?aleaves ?lleaves ?cleaves ?kleaves ?a_law_leaves ?l_law_leaves ?c_law_leaves ?k_law_leaves ?a_law_colour ?l_law_colour ?c_law_colour ?k_law_colour ?alaw ?llaw ?claw ?klaw ?zQUARTERS ?zabs ?zall ?zbool ?zint ?zisinstance ?zlen ?zlist ?zrange ?zsum ?ztuple ?zzip
    (case a_law_start => k_is); (case l_law_start => k_is); (case c_law_start => k_is); (case k_law_start => k_is); (case a_law_draw => k_is); (case l_law_draw => k_is); (case c_law_draw => k_is); (case k_law_draw => k_is); (case a_law_pick => k_is); (case l_law_pick => k_is); (case c_law_pick => k_is); (case k_law_pick => k_is); (case ais_colour => k_is); (case lis_colour => k_is); (case cis_colour => k_is); (case kis_colour => k_is); (case agrown => k_is); (case lgrown => k_is); (case cgrown => k_is); (case kgrown => k_is); (case atree_of => k_is); (case ltree_of => k_is); (case ctree_of => k_is); (case ktree_of => k_is); (case aquarters_of => k_is); (case lquarters_of => k_is); (case cquarters_of => k_is); (case kquarters_of => k_is); (case amended => k_is); (case lmended => k_is); (case cmended => k_is); (case kmended => k_is); (case arows_of => k_is); (case lrows_of => k_is); (case crows_of => k_is); (case krows_of => k_is); (case apicture_of => k_is); (case lpicture_of => k_is); (case cpicture_of => k_is); (case kpicture_of => k_is); (case a_law_tree => k_is); (case l_law_tree => k_is); (case c_law_tree => k_is); (case k_law_tree => k_is); (case aleaves => k_is); (case lleaves => k_is); (case cleaves => k_is); (case kleaves => k_is); (case a_law_leaves => k_is); (case l_law_leaves => k_is); (case c_law_leaves => k_is); (case k_law_leaves => k_is); (case a_law_colour => k_is); (case l_law_colour => k_is); (case c_law_colour => k_is); (case k_law_colour => k_is); (case alaw => k_is); (case llaw => k_is); (case claw => k_is); (case klaw => k_is); (case zQUARTERS => k_is); (case zabs => k_is); (case zall => k_is); (case zbool => k_is); (case zint => k_is); (case zisinstance => k_is); (case zlen => k_is); (case zlist => k_is); (case zrange => k_is); (case zsum => k_is); (case ztuple => k_is); (case zzip => k_is)
