import PyProof.Rows.All
import Wide.All
import OpenK.AllK
import Wide.FinOn
import HandS.ForMost
import HandS.Codes
import HandS.Gcd
import HandS.IsInst
import HandS.TupAny
import HandS.TupMul
import HandS.Wide
import HandS.Conv
import HandS.TryOnly
import PySem.Challenge.RW_inkplane_k01_fractions
set_option Elab.async false
set_option linter.all false
set_option maxRecDepth 100000
/-! My own layer over the readings: pure environments, owned objects, big steps. -/
namespace DL
open PySem PySem.Spec PyProof.Rows L2

abbrev D := PyData
abbrev St := L2.St

/-! ### data stand as the heap grows -/
def Ex (H H' : Hp) : Prop := ∀ a o, H a = some o → H' a = some o
theorem Ex.refl (H : Hp) : Ex H H := fun _ _ h => h
theorem Ex.trans {H H1 H2 : Hp} (a : Ex H H1) (b : Ex H1 H2) : Ex H H2 := fun x o h => b x o (a x o h)
theorem ex_rd {H H' : Hp} {a : Addr} {u : HO} (e : Ex H H') (h : Rd H a u) : Rd H' a u := by
  rcases h with h | ⟨o, h⟩
  · exact .inl (e a _ h)
  · exact .inr ⟨o, e a _ h⟩
theorem ex_l {K : PySem.W.Frag} {H H' : Hp} {a : Addr} {xs : List V} (e : Ex H H') (h : SqL K H a xs) : SqL K H' a xs := h.elim (fun h => .inl (ex_rd e h)) .inr
theorem ex_t {K : PySem.W.Frag} {H H' : Hp} {a : Addr} {xs : List V} (e : Ex H H') (h : SqT K H a xs) : SqT K H' a xs := h.elim (fun h => .inl (ex_rd e h)) .inr
theorem Ex.new {H : Hp} {p : Addr} {o : HO} (h : H p = none) : Ex H (upd H p o) := fun a u e => by
  rw [upd_ne (ne_of_none e h)]
  exact e

mutual
theorem dp_mono {K : PySem.W.Frag} {F F' : Hp} (e : Ex F F') : ∀ {d : D} {v : V}, Dp K F v d → Dp K F' v d
  | _, _, .non => .non
  | _, _, .bl b => .bl b
  | _, _, .int i => .int i
  | _, _, .str x => .str x
  | _, _, .lst hs ha => .lst (ex_l e hs) (dpa_mono e ha)
  | _, _, .tup hs ha => .tup (ex_t e hs) (dpa_mono e ha)
theorem dpa_mono {K : PySem.W.Frag} {F F' : Hp} (e : Ex F F') : ∀ {ds : List D} {vs : List V}, DpAll K F vs ds → DpAll K F' vs ds
  | _, _, .nil => .nil
  | _, _, .cons h t => .cons (dp_mono e h) (dpa_mono e t)
end
end DL
namespace L2
open PySem PySem.Spec PyProof.Rows
theorem DpAll.length {K : PySem.W.Frag} {F : Hp} : ∀ {vs : List V} {ds : List PyData}, DpAll K F vs ds → vs.length = ds.length
  | _, _, .nil => rfl
  | _, _, .cons _ t => congrArg (· + 1) (DpAll.length t)
theorem DpAll.get {K : PySem.W.Frag} {F : Hp} : ∀ {vs : List V} {ds : List PyData} {i : Nat} {d : PyData}, DpAll K F vs ds → ds[i]? = some d → ∃ v, vs[i]? = some v ∧ Dp K F v d
  | _, _, _, _, .nil, e => by simp at e
  | _, _, 0, _, .cons h _, e => by
    have e' := Option.some.inj e
    subst e'
    exact ⟨_, rfl, h⟩
  | _, _, i + 1, d, .cons _ t, e => DpAll.get (i := i) (d := d) t e
theorem DpAll.getV {K : PySem.W.Frag} {F : Hp} : ∀ {vs : List V} {ds : List PyData} {i : Nat} {v : V}, DpAll K F vs ds → vs[i]? = some v → ∃ d, ds[i]? = some d ∧ Dp K F v d
  | _, _, _, _, .nil, e => by simp at e
  | _, _, 0, _, .cons h _, e => by
    have e' := Option.some.inj e
    subst e'
    exact ⟨_, rfl, h⟩
  | _, _, i + 1, v, .cons _ t, e => DpAll.getV (i := i) (v := v) t e
theorem DpAll.append {K : PySem.W.Frag} {F : Hp} : ∀ {vs ws : List V} {ds es : List PyData}, DpAll K F vs ds → DpAll K F ws es → DpAll K F (vs ++ ws) (ds ++ es)
  | _, _, _, _, .nil, s => s
  | _, _, _, _, .cons h t, s => .cons h (DpAll.append t s)
theorem DpAll.take {K : PySem.W.Frag} {F : Hp} : ∀ {vs : List V} {ds : List PyData} (n : Nat), DpAll K F vs ds → DpAll K F (vs.take n) (ds.take n)
  | _, _, 0, _ => .nil
  | _, _, _ + 1, .nil => .nil
  | _, _, n + 1, .cons h t => .cons h (DpAll.take n t)
theorem DpAll.drop {K : PySem.W.Frag} {F : Hp} : ∀ {vs : List V} {ds : List PyData} (n : Nat), DpAll K F vs ds → DpAll K F (vs.drop n) (ds.drop n)
  | _, _, 0, h => h
  | _, _, _ + 1, .nil => .nil
  | _, _, n + 1, .cons _ t => DpAll.drop n t
theorem DpAll.set {K : PySem.W.Frag} {F : Hp} {v : V} {d : PyData} (r : Dp K F v d) : ∀ {vs : List V} {ds : List PyData} (i : Nat), DpAll K F vs ds → DpAll K F (vs.set i v) (ds.set i d)
  | _, _, _, .nil => .nil
  | _, _, 0, .cons _ t => .cons r t
  | _, _, i + 1, .cons h t => .cons h (DpAll.set r i t)
theorem DpAll.reverse {K : PySem.W.Frag} {F : Hp} {vs : List V} {ds : List PyData} (h : DpAll K F vs ds) : DpAll K F vs.reverse ds.reverse := by
  induction vs generalizing ds with
  | nil =>
    cases h
    exact .nil
  | cons v vs ih =>
    cases h with
    | cons h t =>
      rw [List.reverse_cons, List.reverse_cons]
      exact DpAll.append (ih t) (.cons h .nil)

end L2
namespace DL
open PySem PySem.Spec PyProof.Rows L2
/-! ### pairs of a dict -/
inductive KD (K : PySem.W.Frag) (F : Hp) {κ : Type} : List (κ × V) → List (κ × D) → Prop
  | nil : KD K F [] []
  | cons {k : κ} {v : V} {d : D} {vs : List (κ × V)} {ds : List (κ × D)} : Dp K F v d → KD K F vs ds → KD K F ((k, v) :: vs) ((k, d) :: ds)
theorem KD.mono {K : PySem.W.Frag} {F F' : Hp} {κ : Type} (e : Ex F F') {vs : List (κ × V)} {ds : List (κ × D)} (h : KD K F vs ds) : KD K F' vs ds := by
  induction h with
  | nil => exact .nil
  | cons h _ ih => exact .cons (dp_mono e h) ih
/-- the value at a key -/
def kdGet {κ : Type} [DecidableEq κ] : List (κ × D) → κ → Option D
  | [], _ => none
  | (k', d) :: r, k => if k' = k then some d else kdGet r k
def kdPut {κ : Type} [DecidableEq κ] : List (κ × D) → κ → D → List (κ × D)
  | [], k, d => [(k, d)]
  | (k', d') :: r, k, d => if k' = k then (k', d) :: r else (k', d') :: kdPut r k d

/-! ### objects that are owned by a name -/
inductive O where
  | L (ds : List D)
  | K (kvs : List (Key × D))
def RepO (K : PySem.W.Frag) (F : Hp) : O → HO → Prop
  | .L ds, ho => ∃ vs, ho = .lst vs ∧ DpAll K F vs ds
  | .K kvs, ho => ∃ ws, ho = .dK ws ∧ (ws.map (·.1)).Nodup ∧ KD K F ws kvs
theorem RepO.mono {K : PySem.W.Frag} {F F' : Hp} (e : Ex F F') : ∀ {o : O} {ho : HO}, RepO K F o ho → RepO K F' o ho
  | .L _, _, ⟨vs, h, a⟩ => ⟨vs, h, dpa_mono e a⟩
  | .K _, _, ⟨vs, h, n, a⟩ => ⟨vs, h, n, a.mono e⟩

/-- a slot: unknown, fixed data, an object (own: made in this def, or handed in) -/
inductive Sl where
  | no
  | fr (d : D)
  | ob (own : Bool) (o : O)
abbrev Dn := List Sl

structure EnvOk (K : PySem.W.Frag) (E F H : Hp) (δ : List Sl) (σ : List (Option V)) : Prop where
  ex : Ex F H
  dom : ∀ a, H a = none → E a = none
  len : σ.length = δ.length
  fr : ∀ (i : Nat) (d : D), δ[i]? = some (.fr d) → ∃ v, σ[i]? = some (some v) ∧ Dp K F v d
  ob : ∀ (i : Nat) (b : Bool) (o : O), δ[i]? = some (.ob b o) → ∃ p ho, σ[i]? = some (some (.ref p)) ∧ F p = none ∧ H p = some ho ∧ RepO K F o ho ∧ (b = true → E p = none)
  dj : ∀ (i j : Nat) (b : Bool) (o : O) (b' : Bool) (o' : O) (p : Addr), δ[i]? = some (.ob b o) → δ[j]? = some (.ob b' o') → σ[i]? = some (some (.ref p)) → σ[j]? = some (some (.ref p)) → i = j
/-- the addresses of the objects that the names own -/
def Hot (δ : List Sl) (σ : List (Option V)) (a : Addr) : Prop := ∃ (i : Nat) (b : Bool) (o : O), δ[i]? = some (.ob b o) ∧ σ[i]? = some (some (.ref a))
theorem EnvOk.hotF {K : PySem.W.Frag} {E F H : Hp} {δ : List Sl} {σ : List (Option V)} (e : EnvOk K E F H δ σ) {a : Addr} (h : Hot δ σ a) : F a = none ∧ ∃ ho, H a = some ho := by
  obtain ⟨i, b, o, h1, h2⟩ := h
  obtain ⟨p, ho, q1, q2, q3, _⟩ := e.ob i b o h1
  rw [h2] at q1
  cases q1
  exact ⟨q2, ho, q3⟩

structure Grow (F H : Hp) (δ : List Sl) (σ : List (Option V)) (F2 H2 : Hp) (δ2 : List Sl) (σ2 : List (Option V)) : Prop where
  f : Ex F F2
  k : ∀ a, H a ≠ none → ¬ Hot δ σ a → F2 a = F a
  h : ∀ a o, H a = some o → ¬ Hot δ σ a → H2 a = some o
  n : ∀ a, Hot δ2 σ2 a → Hot δ σ a ∨ H a = none
  dm : ∀ a, H2 a = none → H a = none
  pr : ∀ (i : Nat) (o : O), δ[i]? = some (.ob false o) → (∃ o', δ2[i]? = some (.ob false o')) ∧ σ2[i]? = σ[i]?
theorem Grow.refl {F H : Hp} {δ : List Sl} {σ : List (Option V)} : Grow F H δ σ F H δ σ :=
  ⟨Ex.refl F, fun _ _ _ => rfl, fun _ _ e _ => e, fun _ h => .inl h, fun _ h => h, fun _ o h => ⟨⟨o, h⟩, rfl⟩⟩
theorem Grow.trans {F H F1 H1 F2 H2 : Hp} {δ δ1 δ2 : List Sl} {σ σ1 σ2 : List (Option V)} (a : Grow F H δ σ F1 H1 δ1 σ1) (b : Grow F1 H1 δ1 σ1 F2 H2 δ2 σ2) : Grow F H δ σ F2 H2 δ2 σ2 where
  f := a.f.trans b.f
  k := fun x h n => by
    have h1 : H1 x ≠ none := fun z => h (a.dm x z)
    have n1 : ¬ Hot δ1 σ1 x := fun z => (a.n x z).elim n h
    rw [b.k x h1 n1, a.k x h n]
  h := fun x o e n => by
    have n1 : ¬ Hot δ1 σ1 x := fun z => (a.n x z).elim n fun q => by rw [e] at q; cases q
    exact b.h x o (a.h x o e n) n1
  n := fun x z => (b.n x z).elim (a.n x) fun q => .inr (a.dm x q)
  dm := fun x z => a.dm x (b.dm x z)
  pr := fun i o h => by
    obtain ⟨⟨o1, h1⟩, e1⟩ := a.pr i o h
    obtain ⟨h2, e2⟩ := b.pr i o1 h1
    exact ⟨h2, e2.trans e1⟩

/-- nothing but new objects -/
structure Alloc (F H F2 H2 : Hp) : Prop where
  k : ∀ a, H a ≠ none → F2 a = F a
  h : Ex H H2
  ex : Ex F2 H2
  f : Ex F F2
theorem Alloc.refl {F H : Hp} (e : Ex F H) : Alloc F H F H := ⟨fun _ _ => rfl, Ex.refl H, e, Ex.refl F⟩
theorem Alloc.trans {F H F1 H1 F2 H2 : Hp} (a : Alloc F H F1 H1) (b : Alloc F1 H1 F2 H2) : Alloc F H F2 H2 := by
  refine ⟨fun x h => ?_, a.h.trans b.h, b.ex, a.f.trans b.f⟩
  have h1 : H1 x ≠ none := fun z => by
    cases q : H x with
    | none => exact h q
    | some o =>
      rw [a.h x o q] at z
      cases z
  rw [b.k x h1, a.k x h]
theorem nn_ex {H H2 : Hp} (e : Ex H H2) {a : Addr} (h : H2 a = none) : H a = none := by
  cases q : H a with
  | none => rfl
  | some o =>
    rw [e a o q] at h
    cases h
/-- a new fixed object -/
theorem Alloc.new {F H : Hp} (e : Ex F H) {p : Addr} {o : HO} (h : H p = none) : Alloc F H (upd F p o) (upd H p o) := by
  refine ⟨fun x hx => ?_, Ex.new h, fun x u hu => ?_, Ex.new (nn_ex e h)⟩
  · rw [upd_ne fun z => hx (by rw [z]; exact h)]
  · by_cases hx : x = p
    · subst hx
      rw [upd_same] at hu ⊢
      exact hu
    · rw [upd_ne hx] at hu ⊢
      exact e x u hu
/-- a new object that is not fixed -/
theorem Alloc.own {F H : Hp} (e : Ex F H) {p : Addr} {o : HO} (h : H p = none) : Alloc F H F (upd H p o) :=
  ⟨fun _ _ => rfl, Ex.new h, e.trans (Ex.new h), Ex.refl F⟩
theorem Alloc.env {K : PySem.W.Frag} {E F H F2 H2 : Hp} {δ : List Sl} {σ : List (Option V)} (a : Alloc F H F2 H2) (e : EnvOk K E F H δ σ) : EnvOk K E F2 H2 δ σ where
  ex := a.ex
  dom := fun x h => e.dom x (nn_ex a.h h)
  len := e.len
  fr := fun i d h => by
    obtain ⟨v, h1, h2⟩ := e.fr i d h
    exact ⟨v, h1, dp_mono a.f h2⟩
  ob := fun i b o h => by
    obtain ⟨p, ho, h1, h2, h3, h4, h5⟩ := e.ob i b o h
    exact ⟨p, ho, h1, by rw [a.k p (by rw [h3]; exact fun z => nomatch z)]; exact h2, a.h p ho h3, h4.mono a.f, h5⟩
  dj := e.dj
theorem Alloc.grow {F H F2 H2 : Hp} {δ : List Sl} {σ : List (Option V)} (a : Alloc F H F2 H2) : Grow F H δ σ F2 H2 δ σ :=
  ⟨a.f, fun x h _ => a.k x h, fun x o h _ => a.h x o h, fun _ h => .inl h, fun _ h => nn_ex a.h h, fun _ o h => ⟨⟨o, h⟩, rfl⟩⟩

/-! ### what an expression gives -/
inductive R where
  | fr (d : D)
  | new (o : O)
  | al (i : Nat)
def RepR (K : PySem.W.Frag) (F H : Hp) (δ : List Sl) (σ : List (Option V)) : R → V → Prop
  | .fr d, v => Dp K F v d
  | .new o, v => ∃ p ho, v = .ref p ∧ F p = none ∧ H p = some ho ∧ RepO K F o ho ∧ ¬ Hot δ σ p
  | .al i, v => σ[i]? = some (some v) ∧ ∃ b o, δ[i]? = some (.ob b o)
/-- a new object was not there ahead -/
def Fresh (H : Hp) : R → V → Prop
  | .new _, v => ∀ p, v = .ref p → H p = none
  | _, _ => True
theorem Fresh.back {H H1 : Hp} (dm : ∀ a, H1 a = none → H a = none) : ∀ {r : R} {v : V}, Fresh H1 r v → Fresh H r v
  | .fr _, _, _ => trivial
  | .al _, _, _ => trivial
  | .new _, _, h => fun p e => dm p (h p e)
def kind : Sl → Sl
  | .no => .no
  | .fr d => .fr d
  | .ob b _ => .ob b (.L [])
def SameK (δ δ' : List Sl) : Prop := δ'.map kind = δ.map kind
theorem SameK.refl (δ : List Sl) : SameK δ δ := rfl
theorem SameK.trans {δ δ1 δ2 : List Sl} (a : SameK δ δ1) (b : SameK δ1 δ2) : SameK δ δ2 := Eq.trans b a
theorem SameK.symm {δ δ1 : List Sl} (a : SameK δ δ1) : SameK δ1 δ := Eq.symm a
theorem SameK.ob {δ δ' : List Sl} (s : SameK δ δ') {i : Nat} {b : Bool} {o : O} (h : δ[i]? = some (.ob b o)) : ∃ o', δ'[i]? = some (.ob b o') := by
  have e : (δ'.map kind)[i]? = (δ.map kind)[i]? := by rw [s]
  rw [List.getElem?_map, List.getElem?_map, h] at e
  cases q : δ'[i]? with
  | none =>
    rw [q] at e
    cases e
  | some x =>
    rw [q] at e
    cases x with
    | no => cases e
    | fr d => cases e
    | ob b' o' =>
      have e' := Option.some.inj e
      injection e' with e1 _
      subst e1
      exact ⟨o', rfl⟩
theorem SameK.fr {δ δ' : List Sl} (s : SameK δ δ') {i : Nat} {d : D} (h : δ[i]? = some (.fr d)) : δ'[i]? = some (.fr d) := by
  have e : (δ'.map kind)[i]? = (δ.map kind)[i]? := by rw [s]
  rw [List.getElem?_map, List.getElem?_map, h] at e
  cases q : δ'[i]? with
  | none =>
    rw [q] at e
    cases e
  | some x =>
    rw [q] at e
    cases x with
    | no => cases e
    | ob _ _ => cases e
    | fr d' =>
      have e' : Sl.fr d' = Sl.fr d := Option.some.inj e
      rw [e']
theorem SameK.hot {δ δ' : List Sl} {σ : List (Option V)} {a : Addr} (s : SameK δ δ') : Hot δ σ a → Hot δ' σ a := fun ⟨i, b, o, h, e⟩ => by
  obtain ⟨o', h'⟩ := s.ob h
  exact ⟨i, b, o', h', e⟩
/-- what was seen stands -/
theorem RepR.keep {K : PySem.W.Frag} {F H F2 H2 : Hp} {δ δ2 : List Sl} {σ : List (Option V)} (g : Grow F H δ σ F2 H2 δ2 σ) (s : SameK δ δ2) : ∀ {r : R} {v : V}, RepR K F H δ σ r v → RepR K F2 H2 δ2 σ r v
  | .fr _, _, h => dp_mono g.f h
  | .al _, _, ⟨h1, b, o, h2⟩ => ⟨h1, b, s.ob h2⟩
  | .new _, _, ⟨p, ho, e, h1, h2, h3, h4⟩ => by
    refine ⟨p, ho, e, ?_, g.h p ho h2 h4, h3.mono g.f, fun z => ?_⟩
    · rw [g.k p (by rw [h2]; exact fun z => nomatch z) h4]
      exact h1
    · rcases g.n p z with q | q
      · exact h4 q
      · rw [h2] at q
        cases q

def EvJ (K : PySem.W.Frag) (te : TE) (δ : List Sl) (r : R) (δ' : List Sl) : Prop :=
  SameK δ δ' ∧ ∀ (E F H : Hp) (σ : List (Option V)) (Q : VK), EnvOk K E F H δ σ →
    (∀ v F2 H2, EnvOk K E F2 H2 δ' σ → Grow F H δ σ F2 H2 δ' σ → RepR K F2 H2 δ' σ r v → Fresh H r v → Q v H2) → te σ H Q
def TtJ (K : PySem.W.Frag) (tt : TT) (δ : List Sl) (b : Bool) (δ' : List Sl) : Prop :=
  SameK δ δ' ∧ ∀ (E F H : Hp) (σ : List (Option V)) (Q : Bool → Hp → Prop), EnvOk K E F H δ σ →
    (∀ F2 H2, EnvOk K E F2 H2 δ' σ → Grow F H δ σ F2 H2 δ' σ → Q b H2) → tt σ H Q
/-- what several expressions give -/
inductive RepRs (K : PySem.W.Frag) (F H : Hp) (δ : List Sl) (σ : List (Option V)) : List R → List V → Prop
  | nil : RepRs K F H δ σ [] []
  | cons {r : R} {v : V} {rs : List R} {vs : List V} : RepR K F H δ σ r v → RepRs K F H δ σ rs vs → (∀ (o : O) (p : Addr), r = .new o → v = .ref p → ∀ (j : Nat) (o' : O), rs[j]? = some (.new o') → vs[j]? ≠ some (.ref p)) → RepRs K F H δ σ (r :: rs) (v :: vs)
def EvA (K : PySem.W.Frag) (ta : TA) (δ : List Sl) (rs : List R) (δ' : List Sl) : Prop :=
  SameK δ δ' ∧ ∀ (E F H : Hp) (σ : List (Option V)) (Q : List V → Hp → Prop), EnvOk K E F H δ σ →
    (∀ vs F2 H2, EnvOk K E F2 H2 δ' σ → Grow F H δ σ F2 H2 δ' σ → RepRs K F2 H2 δ' σ rs vs → (∀ (j : Nat) (r : R) (v : V), rs[j]? = some r → vs[j]? = some v → Fresh H r v) → Q vs H2) → ta σ H Q

section
variable {K : PySem.W.Frag} {δ δ1 δ2 δ3 : List Sl} {ta tb tc te : TE} {r r1 r2 : R} {d d1 d2 : D} {v : V}
theorem ev_var {i : Nat} (h : δ[i]? = some (.fr d)) : EvJ K (tVar i) δ (.fr d) δ := ⟨SameK.refl δ, fun _ F H σ Q e q => by
  obtain ⟨v, h1, h2⟩ := e.fr i d h
  exact ⟨v, h1, q v F H e Grow.refl h2 trivial⟩⟩
theorem ev_varO {i : Nat} {b : Bool} {o : O} (h : δ[i]? = some (.ob b o)) : EvJ K (tVar i) δ (.al i) δ := ⟨SameK.refl δ, fun _ F H σ Q e q => by
  obtain ⟨p, ho, h1, _⟩ := e.ob i b o h
  exact ⟨_, h1, q _ F H e Grow.refl ⟨h1, b, o, h⟩ trivial⟩⟩
theorem ev_c (h : ∀ F, Dp K F v d) : EvJ K (tC v) δ (.fr d) δ := ⟨SameK.refl δ, fun _ F H _ _ e q => q v F H e Grow.refl (h F) trivial⟩
theorem ev_int {i : Int} : EvJ K (tC (.int i)) δ (.fr (.int i)) δ := ev_c fun _ => .int i
theorem ev_bl {b : Bool} : EvJ K (tC (.bl b)) δ (.fr (.bool b)) δ := ev_c fun _ => .bl b
theorem ev_str {x : Str} : EvJ K (tC (.str x)) δ (.fr (.str x)) δ := ev_c fun _ => .str x
theorem ev_non : EvJ K (tC .non) δ (.fr .none) δ := ev_c fun _ => .non
theorem EvJ.conv (h : EvJ K te δ (.fr d) δ1) (e : d = d1) : EvJ K te δ (.fr d1) δ1 := e ▸ h
theorem EvJ.cast {r' : R} (h : EvJ K te δ r δ1) (e : r = r') : EvJ K te δ r' δ1 := e ▸ h

/-- a rule on one value -/
def UnD (K : PySem.W.Frag) (u : V → Hp → VK → Prop) (r : R) (δ : List Sl) (r' : R) : Prop :=
  ∀ (E F H : Hp) (σ : List (Option V)) (v : V) (Q : VK), EnvOk K E F H δ σ → RepR K F H δ σ r v → (∀ w F2 H2, Alloc F H F2 H2 → RepR K F2 H2 δ σ r' w → Fresh H r' w → Q w H2) → u v H Q
/-- a rule on two values -/
def OpD (K : PySem.W.Frag) (f : R2) (r1 r2 : R) (δ : List Sl) (r' : R) : Prop :=
  ∀ (E F H : Hp) (σ : List (Option V)) (x y : V) (Q : VK), EnvOk K E F H δ σ → RepR K F H δ σ r1 x → RepR K F H δ σ r2 y → (∀ w F2 H2, Alloc F H F2 H2 → RepR K F2 H2 δ σ r' w → Fresh H r' w → Q w H2) → f x y H Q
/-- a rule on the values of arguments -/
def CaD (K : PySem.W.Frag) (f : List V → Hp → VK → Prop) (rs : List R) (δ : List Sl) (r' : R) : Prop :=
  ∀ (E F H : Hp) (σ : List (Option V)) (vs : List V) (Q : VK), EnvOk K E F H δ σ → RepRs K F H δ σ rs vs → (∀ w F2 H2, Alloc F H F2 H2 → RepR K F2 H2 δ σ r' w → Fresh H r' w → Q w H2) → f vs H Q
theorem ev_un {u : V → Hp → VK → Prop} (ha : EvJ K ta δ r δ1) (hu : UnD K u r δ1 r1) : EvJ K (tUn u ta) δ r1 δ1 := ⟨ha.1, fun E F H σ Q e q =>
  ha.2 E F H σ _ e fun v F2 H2 e2 g2 h2 _ => hu E F2 H2 σ v Q e2 h2 fun w F3 H3 al rw fw => q w F3 H3 (al.env e2) (g2.trans al.grow) rw (fw.back g2.dm)⟩
theorem ev_op {f : R2} {r' : R} (ha : EvJ K ta δ r1 δ1) (hb : EvJ K tb δ1 r2 δ2) (ho : OpD K f r1 r2 δ2 r') : EvJ K (tOp f ta tb) δ r' δ2 := ⟨ha.1.trans hb.1, fun E F H σ Q e q =>
  ha.2 E F H σ _ e fun v F2 H2 e2 g2 h2 _ => hb.2 E F2 H2 σ _ e2 fun u F3 H3 e3 g3 h3 _ => ho E F3 H3 σ v u Q e3 (h2.keep g3 hb.1) h3 fun w F4 H4 al rw fw =>
    q w F4 H4 (al.env e3) ((g2.trans g3).trans al.grow) rw (fw.back (g2.trans g3).dm)⟩
theorem ea_nil : EvA K tNil δ [] δ := ⟨SameK.refl δ, fun _ F H _ _ e q => q [] F H e Grow.refl .nil (fun j r v h _ => by simp at h)⟩
theorem ea_cons {t : TA} {rs : List R} (ha : EvJ K ta δ r δ1) (ht : EvA K t δ1 rs δ2) : EvA K (tCons ta t) δ (r :: rs) δ2 := ⟨ha.1.trans ht.1, fun E F H σ Q e q =>
  ha.2 E F H σ _ e fun v F2 H2 e2 g2 h2 f2 => ht.2 E F2 H2 σ _ e2 fun vs F3 H3 e3 g3 h3 f3 => q (v :: vs) F3 H3 e3 (g2.trans g3) (.cons (h2.keep g3 ht.1) h3 (fun o p e1 e2' j o' hj hv => by
    subst e1
    obtain ⟨p', ho, ev, _, hp, _⟩ := h2
    rw [e2'] at ev
    cases ev
    have := f3 j _ _ hj hv p rfl
    rw [hp] at this
    cases this)) (fun j r' v' hr hv => by
      cases j with
      | zero =>
        cases hr
        cases hv
        exact f2
      | succ j => exact (f3 j r' v' hr hv).back g2.dm)⟩
theorem ev_cb {f : List V → Hp → VK → Prop} {t : TA} {rs : List R} (ha : EvA K t δ rs δ1) (hc : CaD K f rs δ1 r) : EvJ K (tCB f t) δ r δ1 := ⟨ha.1, fun E F H σ Q e q =>
  ha.2 E F H σ _ e fun vs F2 H2 e2 g2 h2 _ => hc E F2 H2 σ vs Q e2 h2 fun w F3 H3 al rw fw => q w F3 H3 (al.env e2) (g2.trans al.grow) rw (fw.back g2.dm)⟩
theorem ev_if {tt : TT} {b : Bool} (hc : TtJ K tt δ b δ1) (h1 : b = true → EvJ K ta δ1 r δ2) (h2 : b = false → EvJ K tb δ1 r δ2) : EvJ K (tIf tt ta tb) δ r δ2 := by
  cases b with
  | true =>
    have h := h1 rfl
    exact ⟨hc.1.trans h.1, fun E F H σ Q e q => hc.2 E F H σ _ e fun F2 H2 e2 g2 => by
      rw [if_pos rfl]
      exact h.2 E F2 H2 σ Q e2 fun v F3 H3 e3 g3 h3 f3 => q v F3 H3 e3 (g2.trans g3) h3 (f3.back g2.dm)⟩
  | false =>
    have h := h2 rfl
    exact ⟨hc.1.trans h.1, fun E F H σ Q e q => hc.2 E F H σ _ e fun F2 H2 e2 g2 => by
      rw [if_neg Bool.false_ne_true]
      exact h.2 E F2 H2 σ Q e2 fun v F3 H3 e3 g3 h3 f3 => q v F3 H3 e3 (g2.trans g3) h3 (f3.back g2.dm)⟩
/-- tests -/
theorem tt_B {b : Bool} (h : EvJ K te δ (.fr (.bool b)) δ1) : TtJ K (tB te) δ b δ1 := ⟨h.1, fun E F H σ Q e q => h.2 E F H σ _ e fun v F2 H2 e2 g2 h2 _ => by
  cases h2
  exact ⟨b, rfl, q F2 H2 e2 g2⟩⟩
theorem tt_test {b : Bool} (h : EvJ K te δ (.fr (.bool b)) δ1) : TtJ K (tTest te) δ b δ1 := ⟨h.1, fun E F H σ Q e q => h.2 E F H σ _ e fun v F2 H2 e2 g2 h2 _ => by
  cases h2
  exact ⟨b, rfl, q F2 H2 e2 g2⟩⟩
theorem tt_not {tt : TT} {b : Bool} (h : TtJ K tt δ b δ1) : TtJ K (tNot tt) δ (!b) δ1 := ⟨h.1, fun E F H σ Q e q => h.2 E F H σ _ e q⟩
theorem tt_and {t u : TT} {a b : Bool} (h1 : TtJ K t δ a δ1) (h2 : a = true → TtJ K u δ1 b δ2) (h3 : a = false → δ2 = δ1) : TtJ K (tAnd t u) δ (a && b) δ2 := by
  cases a with
  | true =>
    have h := h2 rfl
    exact ⟨h1.1.trans h.1, fun E F H σ Q e q => h1.2 E F H σ _ e fun F2 H2 e2 g2 => by
      rw [if_pos rfl]
      exact h.2 E F2 H2 σ Q e2 fun F3 H3 e3 g3 => q F3 H3 e3 (g2.trans g3)⟩
  | false =>
    have h := h3 rfl
    subst h
    exact ⟨h1.1, fun E F H σ Q e q => h1.2 E F H σ _ e fun F2 H2 e2 g2 => by
      rw [if_neg Bool.false_ne_true]
      exact q F2 H2 e2 g2⟩
theorem tt_or {t u : TT} {a b : Bool} (h1 : TtJ K t δ a δ1) (h2 : a = false → TtJ K u δ1 b δ2) (h3 : a = true → δ2 = δ1) : TtJ K (tOr t u) δ (a || b) δ2 := by
  cases a with
  | false =>
    have h := h2 rfl
    exact ⟨h1.1.trans h.1, fun E F H σ Q e q => h1.2 E F H σ _ e fun F2 H2 e2 g2 => by
      rw [if_neg Bool.false_ne_true]
      exact h.2 E F2 H2 σ Q e2 fun F3 H3 e3 g3 => q F3 H3 e3 (g2.trans g3)⟩
  | true =>
    have h := h3 rfl
    subst h
    exact ⟨h1.1, fun E F H σ Q e q => h1.2 E F H σ _ e fun F2 H2 e2 g2 => by
      rw [if_pos rfl]
      exact q F2 H2 e2 g2⟩
theorem ev_andV {a : Bool} (h1 : EvJ K ta δ (.fr (.bool a)) δ1) (h2 : a = true → EvJ K tb δ1 (.fr d) δ2) (h3 : a = false → d = .bool false ∧ δ2 = δ1) : EvJ K (tAndV ta tb) δ (.fr d) δ2 := by
  cases a with
  | true =>
    have h := h2 rfl
    exact ⟨h1.1.trans h.1, fun E F H σ Q e q => h1.2 E F H σ _ e fun v F2 H2 e2 g2 h2 _ => by
      cases h2
      refine ⟨true, rfl, ?_⟩
      rw [if_pos rfl]
      exact h.2 E F2 H2 σ Q e2 fun w F3 H3 e3 g3 h3 f3 => q w F3 H3 e3 (g2.trans g3) h3 (f3.back g2.dm)⟩
  | false =>
    obtain ⟨rfl, rfl⟩ := h3 rfl
    exact ⟨h1.1, fun E F H σ Q e q => h1.2 E F H σ _ e fun v F2 H2 e2 g2 h2 _ => by
      cases h2
      refine ⟨false, rfl, ?_⟩
      rw [if_neg Bool.false_ne_true]
      exact q _ F2 H2 e2 g2 (.bl false) trivial⟩
theorem ev_orV {a : Bool} (h1 : EvJ K ta δ (.fr (.bool a)) δ1) (h2 : a = false → EvJ K tb δ1 (.fr d) δ2) (h3 : a = true → d = .bool true ∧ δ2 = δ1) : EvJ K (tOrV ta tb) δ (.fr d) δ2 := by
  cases a with
  | false =>
    have h := h2 rfl
    exact ⟨h1.1.trans h.1, fun E F H σ Q e q => h1.2 E F H σ _ e fun v F2 H2 e2 g2 h2 _ => by
      cases h2
      refine ⟨false, rfl, ?_⟩
      rw [if_neg Bool.false_ne_true]
      exact h.2 E F2 H2 σ Q e2 fun w F3 H3 e3 g3 h3 f3 => q w F3 H3 e3 (g2.trans g3) h3 (f3.back g2.dm)⟩
  | true =>
    obtain ⟨rfl, rfl⟩ := h3 rfl
    exact ⟨h1.1, fun E F H σ Q e q => h1.2 E F H σ _ e fun v F2 H2 e2 g2 h2 _ => by
      cases h2
      refine ⟨true, rfl, ?_⟩
      rw [if_pos rfl]
      exact q _ F2 H2 e2 g2 (.bl true) trivial⟩
theorem ev_notV {a : Bool} (h1 : EvJ K ta δ (.fr (.bool a)) δ1) : EvJ K (tNotV ta) δ (.fr (.bool (!a))) δ1 := ⟨h1.1, fun E F H σ Q e q => h1.2 E F H σ _ e fun v F2 H2 e2 g2 h2 _ => by
  cases h2
  exact ⟨a, rfl, q _ F2 H2 e2 g2 (.bl _) trivial⟩⟩
/-- a new list becomes fixed -/
theorem ev_frz {ds : List D} (h : EvJ K te δ (.new (.L ds)) δ1) : EvJ K te δ (.fr (.list ds)) δ1 := ⟨h.1, fun E F H σ Q e q => h.2 E F H σ _ e fun v F2 H2 e2 g2 h2 f2 => by
  obtain ⟨p, ho, rfl, h3, h4, ⟨vs, rfl, h5⟩, h6⟩ := h2
  have hF : Ex F2 (upd F2 p (.lst vs)) := Ex.new h3
  refine q _ (upd F2 p (.lst vs)) H2 ⟨fun a o ha => ?_, e2.dom, e2.len, fun i d hi => ?_, fun i b o hi => ?_, e2.dj⟩ ⟨g2.f.trans hF, fun a ha hn => ?_, g2.h, g2.n, g2.dm, g2.pr⟩ (.lst (.inl (.inl upd_same)) (dpa_mono hF h5)) trivial
  · by_cases hp : a = p
    · subst hp
      rw [upd_same] at ha
      cases ha
      exact h4
    · rw [upd_ne hp] at ha
      exact e2.ex a o ha
  · obtain ⟨w, w1, w2⟩ := e2.fr i d hi
    exact ⟨w, w1, dp_mono hF w2⟩
  · obtain ⟨p', ho, w1, w2, w3, w4, w5⟩ := e2.ob i b o hi
    refine ⟨p', ho, w1, ?_, w3, w4.mono hF, w5⟩
    rw [upd_ne fun z => h6 ⟨i, b, o, hi, by rw [← z]; exact w1⟩]
    exact w2
  · rw [upd_ne fun z => ha (by rw [z]; exact f2 p rfl)]
    exact g2.k a ha hn⟩
end
end DL
/-! Statements, loops, comprehensions, defs. -/
namespace DL
open PySem PySem.Spec PyProof.Rows L2

inductive Out where
  | nx (δ : List Sl)
  | bk (δ : List Sl)
  | ct (δ : List Sl)
  | rt (r : R) (δ : List Sl)
def RepRet (K : PySem.W.Frag) (E F H : Hp) : R → V → Prop
  | .fr d, v => Dp K F v d
  | .new o, v => ∃ p ho, v = .ref p ∧ E p = none ∧ F p = none ∧ H p = some ho ∧ RepO K F o ho
  | .al _, _ => False
def Sat (K : PySem.W.Frag) (E F H : Hp) (δ : List Sl) (σ : List (Option V)) (D : Ends) : Out → Prop
  | .nx δ' => ∀ σ' F2 H2, EnvOk K E F2 H2 δ' σ' → Grow F H δ σ F2 H2 δ' σ' → D.nx σ' H2
  | .bk δ' => ∀ σ' F2 H2, EnvOk K E F2 H2 δ' σ' → Grow F H δ σ F2 H2 δ' σ' → D.bk σ' H2
  | .ct δ' => ∀ σ' F2 H2, EnvOk K E F2 H2 δ' σ' → Grow F H δ σ F2 H2 δ' σ' → D.ct σ' H2
  | .rt r δ' => ∀ v σ' F2 H2, EnvOk K E F2 H2 δ' σ' → Grow F H δ σ F2 H2 δ' σ' → RepRet K E F2 H2 r v → D.rt v H2
theorem Sat.grow {K : PySem.W.Frag} {E F H F1 H1 : Hp} {δ δ1 : List Sl} {σ σ1 : List (Option V)} {D : Ends} (g : Grow F H δ σ F1 H1 δ1 σ1) : ∀ {out : Out}, Sat K E F H δ σ D out → Sat K E F1 H1 δ1 σ1 D out
  | .nx _, s => fun σ' F2 H2 e g2 => s σ' F2 H2 e (g.trans g2)
  | .bk _, s => fun σ' F2 H2 e g2 => s σ' F2 H2 e (g.trans g2)
  | .ct _, s => fun σ' F2 H2 e g2 => s σ' F2 H2 e (g.trans g2)
  | .rt _ _, s => fun v σ' F2 H2 e g2 => s v σ' F2 H2 e (g.trans g2)
def StJ (K : PySem.W.Frag) (ts : TS) (δ : List Sl) (out : Out) : Prop :=
  ∀ (E F H : Hp) (σ : List (Option V)) (D : Ends), EnvOk K E F H δ σ → Sat K E F H δ σ D out → ts D σ H

/-- an object handed in is not stored over -/
def NoPar (δ : List Sl) (i : Nat) : Prop := ∀ o, δ[i]? ≠ some (.ob false o)
theorem getset {α : Type} {l : List α} {i j : Nat} {x y : α} (h : (l.set i x)[j]? = some y) : (j = i ∧ y = x ∧ i < l.length) ∨ (j ≠ i ∧ l[j]? = some y) := by
  by_cases e : j = i
  · subst e
    by_cases hl : j < l.length
    · rw [List.getElem?_set_self hl] at h
      cases h
      exact .inl ⟨rfl, rfl, hl⟩
    · rw [List.getElem?_eq_none (by rw [List.length_set]; omega)] at h
      cases h
  · rw [List.getElem?_set_ne (Ne.symm e)] at h
    exact .inr ⟨e, h⟩
section
variable {K : PySem.W.Frag} {E F H F2 H2 : Hp} {δ δ1 δ2 δ3 : List Sl} {σ : List (Option V)} {D' : Ends} {t u : TS} {te : TE} {out : Out} {r : R} {d : D} {v : V} {i j : Nat} {o : O} {b : Bool}
/-- a name is stored with fixed data -/
theorem EnvOk.set_fr (e : EnvOk K E F H δ σ) (h : Dp K F v d) : EnvOk K E F H (δ.set i (.fr d)) (σ.set i (some v)) where
  ex := e.ex
  dom := e.dom
  len := by rw [List.length_set, List.length_set]; exact e.len
  fr := fun j d' hj => by
    rcases getset hj with ⟨rfl, e1, hl⟩ | ⟨hn, hj⟩
    · cases e1
      exact ⟨v, List.getElem?_set_self (by rw [e.len]; exact hl), h⟩
    · obtain ⟨w, h1, h2⟩ := e.fr j d' hj
      exact ⟨w, by rw [List.getElem?_set_ne (Ne.symm hn)]; exact h1, h2⟩
  ob := fun j b o hj => by
    rcases getset hj with ⟨rfl, e1, hl⟩ | ⟨hn, hj⟩
    · cases e1
    · obtain ⟨p, ho, h1, h2⟩ := e.ob j b o hj
      exact ⟨p, ho, by rw [List.getElem?_set_ne (Ne.symm hn)]; exact h1, h2⟩
  dj := fun j k b o b' o' p hj hk h1 h2 => by
    rcases getset hj with ⟨rfl, e1, _⟩ | ⟨hn, hj⟩
    · cases e1
    · rcases getset hk with ⟨rfl, e1, _⟩ | ⟨hn', hk⟩
      · cases e1
      · rw [List.getElem?_set_ne (Ne.symm hn)] at h1
        rw [List.getElem?_set_ne (Ne.symm hn')] at h2
        exact e.dj j k b o b' o' p hj hk h1 h2
theorem Grow.set_fr {F H : Hp} {δ : List Sl} {σ : List (Option V)} {i : Nat} {d : D} {v : V} (hp : NoPar δ i) : Grow F H δ σ F H (δ.set i (.fr d)) (σ.set i (some v)) where
  f := Ex.refl F
  k := fun _ _ _ => rfl
  h := fun _ _ e _ => e
  n := fun a ⟨j, b, o, hj, hs⟩ => by
    rcases getset hj with ⟨rfl, e1, _⟩ | ⟨hn, hj⟩
    · cases e1
    · rw [List.getElem?_set_ne (Ne.symm hn)] at hs
      exact .inl ⟨j, b, o, hj, hs⟩
  dm := fun _ h => h
  pr := fun j o hj => by
    have hn : j ≠ i := fun z => hp o (by rw [← z]; exact hj)
    exact ⟨⟨o, by rw [List.getElem?_set_ne (Ne.symm hn)]; exact hj⟩, List.getElem?_set_ne (Ne.symm hn)⟩
/-- a name is stored with a new object -/
theorem EnvOk.set_ob {p : Addr} {ho : HO} (e : EnvOk K E F H δ σ) (h1 : F p = none) (h2 : H p = some ho) (h3 : RepO K F o ho) (h4 : E p = none) (h5 : ∀ j b' o', j ≠ i → δ[j]? = some (.ob b' o') → σ[j]? ≠ some (some (.ref p))) : EnvOk K E F H (δ.set i (.ob true o)) (σ.set i (some (.ref p))) where
  ex := e.ex
  dom := e.dom
  len := by rw [List.length_set, List.length_set]; exact e.len
  fr := fun j d' hj => by
    rcases getset hj with ⟨rfl, e1, hl⟩ | ⟨hn, hj⟩
    · cases e1
    · obtain ⟨w, h1, h2⟩ := e.fr j d' hj
      exact ⟨w, by rw [List.getElem?_set_ne (Ne.symm hn)]; exact h1, h2⟩
  ob := fun j b o' hj => by
    rcases getset hj with ⟨rfl, e1, hl⟩ | ⟨hn, hj⟩
    · cases e1
      exact ⟨p, ho, List.getElem?_set_self (by rw [e.len]; exact hl), h1, h2, h3, fun _ => h4⟩
    · obtain ⟨p, ho, q1, q2⟩ := e.ob j b o' hj
      exact ⟨p, ho, by rw [List.getElem?_set_ne (Ne.symm hn)]; exact q1, q2⟩
  dj := fun j k b o1 b' o2 q hj hk e1 e2 => by
    rcases getset hj with ⟨ej, _, hl⟩ | ⟨hn, hj'⟩
    · rcases getset hk with ⟨ek, _, _⟩ | ⟨hn', hk'⟩
      · rw [ej, ek]
      · rw [ej, List.getElem?_set_self (by rw [e.len]; exact hl)] at e1
        rw [List.getElem?_set_ne (Ne.symm hn')] at e2
        cases e1
        exact absurd e2 (h5 k b' o2 hn' hk')
    · rcases getset hk with ⟨ek, _, hl⟩ | ⟨hn', hk'⟩
      · rw [ek, List.getElem?_set_self (by rw [e.len]; exact hl)] at e2
        rw [List.getElem?_set_ne (Ne.symm hn)] at e1
        cases e2
        exact absurd e1 (h5 j b o1 hn hj')
      · rw [List.getElem?_set_ne (Ne.symm hn)] at e1
        rw [List.getElem?_set_ne (Ne.symm hn')] at e2
        exact e.dj j k b o1 b' o2 q hj' hk' e1 e2
theorem Grow.set_ob {F H : Hp} {δ : List Sl} {σ : List (Option V)} {i : Nat} {o : O} {p : Addr} (hl : i < σ.length) (hp : NoPar δ i) (hn : Hot δ σ p ∨ H p = none) : Grow F H δ σ F H (δ.set i (.ob true o)) (σ.set i (some (.ref p))) where
  f := Ex.refl F
  k := fun _ _ _ => rfl
  h := fun _ _ e _ => e
  n := fun a ⟨j, b, o', hj, hs⟩ => by
    rcases getset hj with ⟨rfl, e1, _⟩ | ⟨hne, hj⟩
    · rw [List.getElem?_set_self hl] at hs
      cases hs
      exact hn
    · rw [List.getElem?_set_ne (Ne.symm hne)] at hs
      exact .inl ⟨j, b, o', hj, hs⟩
  dm := fun _ h => h
  pr := fun j o hj => by
    have hne : j ≠ i := fun z => hp o (by rw [← z]; exact hj)
    exact ⟨⟨o, by rw [List.getElem?_set_ne (Ne.symm hne)]; exact hj⟩, List.getElem?_set_ne (Ne.symm hne)⟩

theorem st_seq (h1 : StJ K t δ (.nx δ1)) (h2 : StJ K u δ1 out) : StJ K (tSeq t u) δ out := fun E F H σ D e s =>
  h1 E F H σ { D with nx := u D } e fun σ' F2 H2 e2 g2 => h2 E F2 H2 σ' D e2 (s.grow g2)
theorem st_stop_rt (h1 : StJ K t δ (.rt r δ1)) : StJ K (tSeq t u) δ (.rt r δ1) := fun E F H σ D e s => h1 E F H σ { D with nx := u D } e s
theorem st_stop_bk (h1 : StJ K t δ (.bk δ1)) : StJ K (tSeq t u) δ (.bk δ1) := fun E F H σ D e s => h1 E F H σ { D with nx := u D } e s
theorem st_stop_ct (h1 : StJ K t δ (.ct δ1)) : StJ K (tSeq t u) δ (.ct δ1) := fun E F H σ D e s => h1 E F H σ { D with nx := u D } e s
theorem st_next : StJ K tNext δ (.nx δ) := fun E F H σ D e s => s σ F H e Grow.refl
theorem st_break : StJ K tBreak δ (.bk δ) := fun E F H σ D e s => s σ F H e Grow.refl
theorem st_cont : StJ K tCont δ (.ct δ) := fun E F H σ D e s => s σ F H e Grow.refl
/-- x = e, fixed data -/
theorem st_set (h : EvJ K te δ (.fr d) δ1) (hp : NoPar δ1 i := by intro o z; cases z) : StJ K (tAsg te (gName i)) δ (.nx (δ1.set i (.fr d))) := fun E F H σ D e s =>
  h.2 E F H σ _ e fun v F2 H2 e2 g2 h2 _ => s _ F2 H2 (e2.set_fr h2) (g2.trans (Grow.set_fr hp))
/-- x = e, a new object -/
theorem st_setN (h : EvJ K te δ (.new o) δ1) (hl : i < δ1.length := by decide) (hp : NoPar δ1 i := by intro o z; cases z) : StJ K (tAsg te (gName i)) δ (.nx (δ1.set i (.ob true o))) := fun E F H σ D e s =>
  h.2 E F H σ _ e fun v F2 H2 e2 g2 h2 f2 => by
    obtain ⟨p, ho, rfl, q1, q2, q3, q4⟩ := h2
    have hE : E p = none := e.dom p (f2 p rfl)
    refine s _ F2 H2 (e2.set_ob q1 q2 q3 hE fun j b' o' _ hj hs => q4 ⟨j, b', o', hj, hs⟩) ⟨g2.f, g2.k, g2.h, fun a ⟨j, b, o', hj, hs⟩ => ?_, g2.dm, fun j o' hj => ?_⟩
    · rcases getset hj with ⟨rfl, e1, _⟩ | ⟨hne, hj⟩
      · rw [List.getElem?_set_self (by rw [e2.len]; exact hl)] at hs
        cases hs
        exact .inr (f2 p rfl)
      · rw [List.getElem?_set_ne (Ne.symm hne)] at hs
        exact g2.n a ⟨j, b, o', hj, hs⟩
    · obtain ⟨⟨o1, h1⟩, e1⟩ := g2.pr j o' hj
      have hne : j ≠ i := fun z => hp o1 (by rw [← z]; exact h1)
      exact ⟨⟨o1, by rw [List.getElem?_set_ne (Ne.symm hne)]; exact h1⟩, by rw [List.getElem?_set_ne (Ne.symm hne)]⟩
/-- a name's own object becomes fixed data -/
theorem st_frz {ds : List D} (i : Nat) (hi : δ[i]? = some (.ob true (.L ds))) (h : StJ K t (δ.set i (.fr (.list ds))) out) : StJ K t δ out := fun E F H σ D e s => by
  obtain ⟨p, ho, h1, h2, h3, ⟨vs, rfl, h4⟩, h5⟩ := e.ob i true _ hi
  have hF : Ex F (upd F p (.lst vs)) := Ex.new h2
  have hil : i < δ.length := (List.getElem?_eq_some_iff.mp hi).1
  have hne : ∀ a, ¬ Hot δ σ a → a ≠ p := fun a hn z => hn ⟨i, true, _, hi, by rw [z]; exact h1⟩
  have E2 : EnvOk K E (upd F p (.lst vs)) H (δ.set i (.fr (.list ds))) σ := by
    refine ⟨fun a o ha => ?_, e.dom, by rw [List.length_set]; exact e.len, fun j d hj => ?_, fun j b o hj => ?_, fun j k b o b' o' q hj hk => ?_⟩
    · by_cases hp : a = p
      · subst hp
        rw [upd_same] at ha
        cases ha
        exact h3
      · rw [upd_ne hp] at ha
        exact e.ex a o ha
    · rcases getset hj with ⟨rfl, e1, _⟩ | ⟨hn, hj⟩
      · cases e1
        exact ⟨_, h1, .lst (.inl (.inl upd_same)) (dpa_mono hF h4)⟩
      · obtain ⟨w, w1, w2⟩ := e.fr j d hj
        exact ⟨w, w1, dp_mono hF w2⟩
    · rcases getset hj with ⟨rfl, e1, _⟩ | ⟨hn, hj⟩
      · cases e1
      · obtain ⟨q, ho, w1, w2, w3, w4, w5⟩ := e.ob j b o hj
        refine ⟨q, ho, w1, ?_, w3, w4.mono hF, w5⟩
        rw [upd_ne fun z => hn (e.dj j i b o true _ p hj hi (by rw [← z]; exact w1) h1)]
        exact w2
    · rcases getset hj with ⟨rfl, e1, _⟩ | ⟨hn, hj⟩
      · cases e1
      · rcases getset hk with ⟨rfl, e1, _⟩ | ⟨hn', hk⟩
        · cases e1
        · exact e.dj j k b o b' o' q hj hk
  have G : Grow F H δ σ (upd F p (.lst vs)) H (δ.set i (.fr (.list ds))) σ := by
    refine ⟨hF, fun a _ hn => ?_, fun _ _ q _ => q, fun a ⟨j, b, o, hj, hs⟩ => ?_, fun _ q => q, fun j o hj => ?_⟩
    · rw [upd_ne (hne a hn)]
    · rcases getset hj with ⟨rfl, e1, _⟩ | ⟨hn, hj⟩
      · cases e1
      · exact .inl ⟨j, b, o, hj, hs⟩
    · have hn : j ≠ i := fun z => by
        rw [z, hi] at hj
        cases hj
      exact ⟨⟨o, by rw [List.getElem?_set_ne (Ne.symm hn)]; exact hj⟩, rfl⟩
  exact h E _ H σ D E2 (s.grow G)
/-- a name is forgotten -/
theorem EnvOk.forget (e : EnvOk K E F H δ σ) (i : Nat) : EnvOk K E F H (δ.set i .no) σ where
  ex := e.ex
  dom := e.dom
  len := by rw [List.length_set]; exact e.len
  fr := fun j d hj => by
    rcases getset hj with ⟨rfl, e1, _⟩ | ⟨_, hj⟩
    · cases e1
    · exact e.fr j d hj
  ob := fun j b o hj => by
    rcases getset hj with ⟨rfl, e1, _⟩ | ⟨_, hj⟩
    · cases e1
    · exact e.ob j b o hj
  dj := fun j k b o b' o' p hj hk => by
    rcases getset hj with ⟨rfl, e1, _⟩ | ⟨_, hj⟩
    · cases e1
    · rcases getset hk with ⟨rfl, e1, _⟩ | ⟨_, hk⟩
      · cases e1
      · exact e.dj j k b o b' o' p hj hk
theorem Grow.forget {F H : Hp} {δ : List Sl} {σ : List (Option V)} {i : Nat} (hp : NoPar δ i) : Grow F H δ σ F H (δ.set i .no) σ where
  f := Ex.refl F
  k := fun _ _ _ => rfl
  h := fun _ _ e _ => e
  n := fun a ⟨j, b, o, hj, hs⟩ => by
    rcases getset hj with ⟨rfl, e1, _⟩ | ⟨hn, hj⟩
    · cases e1
    · exact .inl ⟨j, b, o, hj, hs⟩
  dm := fun _ h => h
  pr := fun j o hj => by
    have hn : j ≠ i := fun z => hp o (by rw [← z]; exact hj)
    exact ⟨⟨o, by rw [List.getElem?_set_ne (Ne.symm hn)]; exact hj⟩, rfl⟩
theorem st_forget (i : Nat) (hp : NoPar δ i) (h : StJ K t (δ.set i .no) out) : StJ K t δ out := fun E F H σ D e s =>
  h E F H σ D (e.forget i) (s.grow (Grow.forget hp))
/-- what is returned -/
def retR (δ : List Sl) : R → Option R
  | .fr d => some (.fr d)
  | .new o => some (.new o)
  | .al i => match δ[i]? with
    | some (.ob true o) => some (.new o)
    | _ => none
theorem st_ret {r' : R} (h : EvJ K te δ r δ1) (hr : retR δ1 r = some r') : StJ K (tRet te) δ (.rt r' δ1) := fun E F H σ D e s =>
  h.2 E F H σ _ e fun v F2 H2 e2 g2 h2 f2 => s v σ F2 H2 e2 g2 (by
    cases r with
    | fr d =>
      cases hr
      exact h2
    | new o =>
      cases hr
      obtain ⟨p, ho, rfl, q1, q2, q3, q4⟩ := h2
      exact ⟨p, ho, rfl, e.dom p (f2 p rfl), q1, q2, q3⟩
    | al i =>
      obtain ⟨h1, b, o, h3⟩ := h2
      unfold retR at hr
      simp only [h3] at hr
      cases b with
      | false => cases hr
      | true =>
        cases hr
        obtain ⟨p, ho, q1, q2, q3, q4, q5⟩ := e2.ob i true o h3
        rw [h1] at q1
        cases q1
        exact ⟨p, ho, rfl, q5 rfl, q2, q3, q4⟩)
theorem st_retN : StJ K tRetN δ (.rt (.fr .none) δ) := fun E F H σ D e s => s .non σ F H e Grow.refl .non
theorem st_drop (h : EvJ K te δ r δ1) : StJ K (tDrop te) δ (.nx δ1) := fun E F H σ D e s =>
  h.2 E F H σ _ e fun v F2 H2 e2 g2 _ _ => s σ F2 H2 e2 g2
theorem st_if {c : TT} {b : Bool} (hc : TtJ K c δ b δ1) (h1 : b = true → StJ K t δ1 out) (h2 : b = false → StJ K u δ1 out) : StJ K (tIfS c t u) δ out := fun E F H σ D e s =>
  hc.2 E F H σ _ e fun F2 H2 e2 g2 => by
    cases b with
    | true =>
      rw [if_pos rfl]
      exact h1 rfl E F2 H2 σ D e2 (s.grow g2)
    | false =>
      rw [if_neg Bool.false_ne_true]
      exact h2 rfl E F2 H2 σ D e2 (s.grow g2)
/-- an if whose ways go on each by itself -/
theorem st_ifq {c : TT} {b : Bool} {w : TS} (hc : TtJ K c δ b δ1) (h1 : b = true → StJ K (tSeq t w) δ1 out) (h2 : b = false → StJ K (tSeq u w) δ1 out) : StJ K (tSeq (tIfS c t u) w) δ out := fun E F H σ D e s =>
  hc.2 E F H σ _ e fun F2 H2 e2 g2 => by
    cases b with
    | true =>
      rw [if_pos rfl]
      exact h1 rfl E F2 H2 σ D e2 (s.grow g2)
    | false =>
      rw [if_neg Bool.false_ne_true]
      exact h2 rfl E F2 H2 σ D e2 (s.grow g2)
theorem st_nextq (h : StJ K u δ out) : StJ K (tSeq tNext u) δ out := st_seq st_next h
theorem StJ.cast {out' : Out} (h : StJ K t δ out) (e : out = out') : StJ K t δ out' := e ▸ h
end

/-! ### what a for walks -/
def ItOk (K : PySem.W.Frag) (F1 : Hp) (J : It) (ds : List D) : Prop :=
  ∀ F' H', Ex F1 F' → Ex F' H' → (∀ i, ds.length ≤ i → J.stop i H') ∧
    ∀ i d, ds[i]? = some d → J.go i H' ∧ ∀ x H'', J.yld i H' x H'' → ∃ F'', Alloc F' H' F'' H'' ∧ Dp K F'' x d
def SrcJ (K : PySem.W.Frag) (wi : TI) (δ : List Sl) (ds : List D) (δ' : List Sl) : Prop :=
  SameK δ δ' ∧ ∀ (E F H : Hp) (σ : List (Option V)) (Rr : It → Hp → Prop), EnvOk K E F H δ σ →
    (∀ J F1 H1, EnvOk K E F1 H1 δ' σ → Grow F H δ σ F1 H1 δ' σ → ItOk K F1 J ds → Rr J H1) → wi σ H Rr
def BindJ (K : PySem.W.Frag) (g : TG) (d : D) (δ δ' : List Sl) : Prop :=
  ∀ (E F H : Hp) (σ : List (Option V)) (v : V) (Q : List (Option V) → Hp → Prop), EnvOk K E F H δ σ → Dp K F v d →
    (∀ σ', EnvOk K E F H δ' σ' → Grow F H δ σ F H δ' σ' → Q σ' H) → g v σ H Q
def BindsJ (K : PySem.W.Frag) (g : TGs) (ds : List D) (δ δ' : List Sl) : Prop :=
  ∀ (E F H : Hp) (σ : List (Option V)) (vs : List V) (Q : List (Option V) → Hp → Prop), EnvOk K E F H δ σ → DpAll K F vs ds →
    (∀ σ', EnvOk K E F H δ' σ' → Grow F H δ σ F H δ' σ' → Q σ' H) → g vs σ H Q
section
variable {K : PySem.W.Frag} {δ δ1 δ2 : List Sl} {te ta tb : TE} {d d1 d2 : D} {ds : List D} {i : Nat}
theorem bj_name (hp : NoPar δ i := by intro o z; cases z) : BindJ K (gName i) d δ (δ.set i (.fr d)) := fun E F H σ v Q e h q => q _ (e.set_fr h) (Grow.set_fr hp)
theorem bsj_nil : BindsJ K gNil [] δ δ := fun E F H σ vs Q e h q => by
  cases h
  exact ⟨rfl, q σ e Grow.refl⟩
theorem bsj_cons {g : TG} {gs : TGs} (h1 : BindJ K g d δ δ1) (h2 : BindsJ K gs ds δ1 δ2) : BindsJ K (gCons g gs) (d :: ds) δ δ2 := fun E F H σ vs Q e h q => by
  cases h with
  | cons hv ht =>
    exact ⟨_, _, rfl, h1 E F H σ _ _ e hv fun σ' e' g' => h2 E F H σ' _ _ e' ht fun σ2 e2 g2 => q σ2 e2 (g'.trans g2)⟩
theorem bj_tup {gs : TGs} {n : Nat} (h : BindsJ K gs ds δ δ1) (hn : ds.length = n := by rfl) : BindJ K (gTup K n gs) (.tuple ds) δ δ1 := fun E F H σ v Q e hv q => by
  cases hv with
  | tup hs ha => exact ⟨_, _, rfl, ex_t e.ex hs, ha.length.trans hn, h E F H σ _ Q e ha q⟩
/-- a fixed list, a fixed tuple -/
theorem src_list (h : EvJ K te δ (.fr (.list ds)) δ1) : SrcJ K (iList K te) δ ds δ1 := ⟨h.1, fun E F H σ Rr e q => h.2 E F H σ _ e fun v F1 H1 e1 g1 h1 _ => by
  cases h1 with
  | @lst a xs _ hs ha =>
    refine ⟨a, rfl, ⟨xs, ex_l e1.ex hs⟩, q _ F1 H1 e1 g1 fun F' H' x1 x2 => ⟨fun i hi => ⟨xs, ex_l (x1.trans x2) hs, by rw [ha.length]; exact hi⟩, fun i d hd => ?_⟩⟩
    obtain ⟨w, hw, rw_⟩ := ha.get hd
    exact ⟨⟨xs, w, ex_l (x1.trans x2) hs, hw⟩, fun x H'' ⟨eH, hx⟩ => by
      subst eH
      have := hx xs (ex_l (x1.trans x2) hs)
      rw [hw] at this
      cases this
      exact ⟨F', Alloc.refl x2, dp_mono x1 rw_⟩⟩⟩
theorem src_tup (h : EvJ K te δ (.fr (.tuple ds)) δ1) : SrcJ K (iTup K te) δ ds δ1 := ⟨h.1, fun E F H σ Rr e q => h.2 E F H σ _ e fun v F1 H1 e1 g1 h1 _ => by
  cases h1 with
  | @tup a xs _ hs ha =>
    refine ⟨a, rfl, ⟨xs, ex_t e1.ex hs⟩, q _ F1 H1 e1 g1 fun F' H' x1 x2 => ⟨fun i hi => ⟨xs, ex_t (x1.trans x2) hs, by rw [ha.length]; exact hi⟩, fun i d hd => ?_⟩⟩
    obtain ⟨w, hw, rw_⟩ := ha.get hd
    exact ⟨⟨xs, w, ex_t (x1.trans x2) hs, hw⟩, fun x H'' ⟨eH, hx⟩ => by
      subst eH
      have := hx xs (ex_t (x1.trans x2) hs)
      rw [hw] at this
      cases this
      exact ⟨F', Alloc.refl x2, dp_mono x1 rw_⟩⟩⟩
/-- range(n), range(a, b) -/
def rngD (a : Int) (n : Nat) : List D := (List.range n).map fun (i : Nat) => PyData.int (a + (i : Int))
theorem rngD_get {a : Int} {n i : Nat} (h : i < n) : (rngD a n)[i]? = some (.int (a + (i : Int))) := by
  unfold rngD
  rw [List.getElem?_map, List.getElem?_range h]
  rfl
theorem rngD_len {a : Int} {n : Nat} : (rngD a n).length = n := by
  unfold rngD
  rw [List.length_map, List.length_range]
theorem itr_ok {F1 : Hp} {a : Int} {n : Nat} : ItOk K F1 (Itr a n) (rngD a n) := fun F' H' x1 x2 => ⟨fun i hi => by
  rw [rngD_len] at hi
  exact hi, fun i d hd => by
  have hi : i < n := by
    have := (List.getElem?_eq_some_iff.mp hd).1
    rw [rngD_len] at this
    exact this
  rw [rngD_get hi] at hd
  cases hd
  exact ⟨hi, fun x H'' ⟨eH, hx⟩ => by
    subst eH
    subst hx
    exact ⟨F', Alloc.refl x2, .int _⟩⟩⟩
theorem src_rng1 {n : Int} {ta : TA} (h : EvA K ta δ [.fr (.int n)] δ1) (h1 : -(2 ^ 62) ≤ n := by omega) (h2 : n < 2 ^ 62 := by omega) : SrcJ K (iRng1 ta) δ (rngD 0 n.toNat) δ1 := ⟨h.1, fun E F H σ Rr e q => h.2 E F H σ _ e fun vs F1 H1 e1 g1 hr _ => by
  cases hr with
  | cons r1 r2 _ =>
    cases r2
    cases r1
    exact ⟨n, rfl, h1, h2, q _ F1 H1 e1 g1 itr_ok⟩⟩
theorem src_rng2 {a b : Int} {ta : TA} (h : EvA K ta δ [.fr (.int a), .fr (.int b)] δ1) (h1 : -(2 ^ 62) ≤ a := by omega) (h2 : a < 2 ^ 62 := by omega) (h3 : -(2 ^ 62) ≤ b := by omega) (h4 : b < 2 ^ 62 := by omega) : SrcJ K (iRng2 ta) δ (rngD a (b - a).toNat) δ1 := ⟨h.1, fun E F H σ Rr e q => h.2 E F H σ _ e fun vs F1 H1 e1 g1 hr _ => by
  cases hr with
  | cons r1 r2 _ =>
    cases r2 with
    | cons r2 r3 _ =>
      cases r3
      cases r1
      cases r2
      exact ⟨a, b, rfl, ⟨h1, h2, h3, h4⟩, q _ F1 H1 e1 g1 itr_ok⟩⟩
end

/-! ### for -/
inductive ForRel (K : PySem.W.Frag) (g : TG) (tb : TS) : List D → List Sl → Out → Prop
  | nil {δ : List Sl} : ForRel K g tb [] δ (.nx δ)
  | go {d : D} {ds : List D} {δ δb δ2 : List Sl} {out : Out} : BindJ K g d δ δb → StJ K tb δb (.nx δ2) → ForRel K g tb ds δ2 out → ForRel K g tb (d :: ds) δ out
  | ct {d : D} {ds : List D} {δ δb δ2 : List Sl} {out : Out} : BindJ K g d δ δb → StJ K tb δb (.ct δ2) → ForRel K g tb ds δ2 out → ForRel K g tb (d :: ds) δ out
  | brk {d : D} {ds : List D} {δ δb δ2 : List Sl} : BindJ K g d δ δb → StJ K tb δb (.bk δ2) → ForRel K g tb (d :: ds) δ (.nx δ2)
  | ret {d : D} {ds : List D} {δ δb δ2 : List Sl} {r : R} : BindJ K g d δ δb → StJ K tb δb (.rt r δ2) → ForRel K g tb (d :: ds) δ (.rt r δ2)
theorem st_for {K : PySem.W.Frag} {wi : TI} {g : TG} {tb : TS} {ds : List D} {δ δ1 : List Sl} {out : Out} (hs : SrcJ K wi δ ds δ1) (hf : ForRel K g tb ds δ1 out) : StJ K (tFor wi g tb) δ out := fun E F H σ D e s =>
  hs.2 E F H σ _ e fun J F1 H1 e1 g1 it => by
    refine ⟨fun i m σ' H' => m = ds.length - i ∧ ∃ F' δ', EnvOk K E F' H' δ' σ' ∧ Grow F1 H1 δ1 σ F' H' δ' σ' ∧ ForRel K g tb (ds.drop i) δ' out, ⟨_, rfl, F1, δ1, e1, Grow.refl, hf⟩, fun i m σ' H' ⟨hm, F', δ', e', g', hr⟩ => ?_⟩
    obtain ⟨i1, i2⟩ := it F' H' g'.f e'.ex
    by_cases hi : i < ds.length
    · have hd : ds[i]? = some ds[i] := List.getElem?_eq_getElem hi
      obtain ⟨go, yl⟩ := i2 i _ hd
      rw [List.drop_eq_getElem_cons hi] at hr
      refine .inr ⟨go, fun σ2 H2 => ∃ F2 δ2, EnvOk K E F2 H2 δ2 σ2 ∧ Grow F1 H1 δ1 σ F2 H2 δ2 σ2 ∧ ForRel K g tb (ds.drop (i + 1)) δ2 out, fun σ2 H2 ⟨F2, δ2, e2, g2, r2⟩ => ⟨m - 1, by omega, by omega, F2, δ2, e2, g2, r2⟩, fun x H'' hy => ?_⟩
      obtain ⟨F'', al, hx⟩ := yl x H'' hy
      have ea := al.env e'
      have ga : Grow F1 H1 δ1 σ F'' H'' δ' σ' := g'.trans al.grow
      cases hr with
      | go hb hst hr2 => exact hb E F'' H'' σ' x _ ea hx fun σ2 e2 g2 => hst E F'' H'' σ2 _ e2 fun σ3 F3 H3 e3 g3 => ⟨F3, _, e3, (ga.trans g2).trans g3, hr2⟩
      | ct hb hst hr2 => exact hb E F'' H'' σ' x _ ea hx fun σ2 e2 g2 => hst E F'' H'' σ2 _ e2 fun σ3 F3 H3 e3 g3 => ⟨F3, _, e3, (ga.trans g2).trans g3, hr2⟩
      | brk hb hst => exact hb E F'' H'' σ' x _ ea hx fun σ2 e2 g2 => hst E F'' H'' σ2 _ e2 fun σ3 F3 H3 e3 g3 => s σ3 F3 H3 e3 (g1.trans ((ga.trans g2).trans g3))
      | ret hb hst => exact hb E F'' H'' σ' x _ ea hx fun σ2 e2 g2 => hst E F'' H'' σ2 _ e2 fun v σ3 F3 H3 e3 g3 => s v σ3 F3 H3 e3 (g1.trans ((ga.trans g2).trans g3))
    · refine .inl ⟨i1 i (by omega), ?_⟩
      rw [List.drop_eq_nil_of_le (by omega)] at hr
      cases hr
      exact s σ' F' H' e' (g1.trans g')

/-! ### while -/
inductive WhRel (K : PySem.W.Frag) (tc : TT) (tb : TS) : Nat → List Sl → Out → Prop
  | done {n : Nat} {δ δ1 : List Sl} : TtJ K tc δ false δ1 → WhRel K tc tb n δ (.nx δ1)
  | go {n : Nat} {δ δ1 δ2 : List Sl} {out : Out} : TtJ K tc δ true δ1 → StJ K tb δ1 (.nx δ2) → WhRel K tc tb n δ2 out → WhRel K tc tb (n + 1) δ out
  | ct {n : Nat} {δ δ1 δ2 : List Sl} {out : Out} : TtJ K tc δ true δ1 → StJ K tb δ1 (.ct δ2) → WhRel K tc tb n δ2 out → WhRel K tc tb (n + 1) δ out
  | brk {n : Nat} {δ δ1 δ2 : List Sl} : TtJ K tc δ true δ1 → StJ K tb δ1 (.bk δ2) → WhRel K tc tb n δ (.nx δ2)
  | ret {n : Nat} {δ δ1 δ2 : List Sl} {r : R} : TtJ K tc δ true δ1 → StJ K tb δ1 (.rt r δ2) → WhRel K tc tb n δ (.rt r δ2)
theorem st_while {K : PySem.W.Frag} {tc : TT} {tb : TS} {n : Nat} {δ : List Sl} {out : Out} (hw : WhRel K tc tb n δ out) : StJ K (tWhile tc tb) δ out := fun E F H σ D e s => by
  refine ⟨fun m σ' H' => ∃ F' δ', EnvOk K E F' H' δ' σ' ∧ Grow F H δ σ F' H' δ' σ' ∧ WhRel K tc tb m δ' out, ⟨n, F, δ, e, Grow.refl, hw⟩, fun m σ' H' ⟨F', δ', e', g', hr⟩ => ?_⟩
  have fin : ∀ {δ1 : List Sl}, TtJ K tc δ' true δ1 → (∀ F2 H2, EnvOk K E F2 H2 δ1 σ' → Grow F' H' δ' σ' F2 H2 δ1 σ' → ∃ N : List (Option V) → Hp → Prop, (∀ σ' H', N σ' H' → ∃ m', m' < m ∧ ∃ F' δ', EnvOk K E F' H' δ' σ' ∧ Grow F H δ σ F' H' δ' σ' ∧ WhRel K tc tb m' δ' out) ∧ tb { D with nx := N, ct := N, bk := D.nx } σ' H2) →
      tc σ' H' fun b H1 => if b = true then ∃ N : List (Option V) → Hp → Prop, (∀ σ' H', N σ' H' → ∃ m', m' < m ∧ ∃ F' δ', EnvOk K E F' H' δ' σ' ∧ Grow F H δ σ F' H' δ' σ' ∧ WhRel K tc tb m' δ' out) ∧ tb { D with nx := N, ct := N, bk := D.nx } σ' H1 else D.nx σ' H1 := fun {δ1} ht q =>
    ht.2 E F' H' σ' _ e' fun F2 H2 e2 g2 => by
      rw [if_pos rfl]
      exact q F2 H2 e2 g2
  cases hr with
  | done ht =>
    exact ht.2 E F' H' σ' _ e' fun F2 H2 e2 g2 => by
      rw [if_neg Bool.false_ne_true]
      exact s σ' F2 H2 e2 (g'.trans g2)
  | @go n' _ _ _ _ ht hst hr2 => exact fin ht fun F2 H2 e2 g2 => ⟨fun σ3 H3 => ∃ F3 δ3, EnvOk K E F3 H3 δ3 σ3 ∧ Grow F H δ σ F3 H3 δ3 σ3 ∧ WhRel K tc tb n' δ3 out, fun σ3 H3 q => ⟨n', Nat.lt_succ_self n', q⟩, hst E F2 H2 σ' _ e2 fun σ3 F3 H3 e3 g3 => ⟨F3, _, e3, (g'.trans g2).trans g3, hr2⟩⟩
  | @ct n' _ _ _ _ ht hst hr2 => exact fin ht fun F2 H2 e2 g2 => ⟨fun σ3 H3 => ∃ F3 δ3, EnvOk K E F3 H3 δ3 σ3 ∧ Grow F H δ σ F3 H3 δ3 σ3 ∧ WhRel K tc tb n' δ3 out, fun σ3 H3 q => ⟨n', Nat.lt_succ_self n', q⟩, hst E F2 H2 σ' _ e2 fun σ3 F3 H3 e3 g3 => ⟨F3, _, e3, (g'.trans g2).trans g3, hr2⟩⟩
  | brk ht hst => exact fin ht fun F2 H2 e2 g2 => ⟨fun _ _ => False, fun _ _ q => q.elim, hst E F2 H2 σ' _ e2 fun σ3 F3 H3 e3 g3 => s σ3 F3 H3 e3 ((g'.trans g2).trans g3)⟩
  | ret ht hst => exact fin ht fun F2 H2 e2 g2 => ⟨fun _ _ => False, fun _ _ q => q.elim, hst E F2 H2 σ' _ e2 fun v σ3 F3 H3 e3 g3 => s v σ3 F3 H3 e3 ((g'.trans g2).trans g3)⟩
end DL
/-! Defs and calls; comprehensions. -/
namespace DL
open PySem PySem.Spec PyProof.Rows L2

abbrev Con := List Sl → R → List Sl → Prop
def spD (K : PySem.W.Frag) (C : Con) : Sp := fun vs H Q _ => ∃ args r args' F, C args r args' ∧ EnvOk K H F H args (vs.map some) ∧
  ∀ v F2 H2, EnvOk K H F2 H2 args' (vs.map some) → Grow F H args (vs.map some) F2 H2 args' (vs.map some) → RepRet K H F2 H2 r v → Q v H2
/-- the arguments behind a call -/
def afterA : List Sl → List Sl → List Sl
  | [], _ => []
  | .ob _ _ :: as, x :: xs => x :: afterA as xs
  | a :: as, _ :: xs => a :: afterA as xs
  | a :: as, [] => a :: as
theorem afterA_get : ∀ {as xs : List Sl} {i : Nat}, as.length ≤ xs.length → (∀ b o, as[i]? ≠ some (.ob b o)) → (afterA as xs)[i]? = as[i]?
  | [], _, _, _, _ => rfl
  | .ob b o :: as, x :: xs, 0, _, h => absurd rfl (h b o)
  | .no :: as, x :: xs, 0, _, _ => rfl
  | .fr d :: as, x :: xs, 0, _, _ => rfl
  | .ob b o :: as, x :: xs, i + 1, hl, h => afterA_get (as := as) (xs := xs) (i := i) (by simpa using hl) h
  | .no :: as, x :: xs, i + 1, hl, h => afterA_get (as := as) (xs := xs) (i := i) (by simpa using hl) h
  | .fr d :: as, x :: xs, i + 1, hl, h => afterA_get (as := as) (xs := xs) (i := i) (by simpa using hl) h
  | a :: as, [], _, hl, _ => by simp at hl
theorem afterA_ob : ∀ {as xs : List Sl} {i : Nat} {b : Bool} {o : O}, as[i]? = some (.ob b o) → as.length ≤ xs.length → (afterA as xs)[i]? = xs[i]?
  | .ob b o :: as, x :: xs, 0, _, _, h, _ => rfl
  | .ob b o :: as, x :: xs, i + 1, _, _, h, hl => afterA_ob (as := as) (xs := xs) (i := i) h (by simpa using hl)
  | .no :: as, x :: xs, i + 1, _, _, h, hl => afterA_ob (as := as) (xs := xs) (i := i) h (by simpa using hl)
  | .fr d :: as, x :: xs, i + 1, _, _, h, hl => afterA_ob (as := as) (xs := xs) (i := i) h (by simpa using hl)
  | .no :: as, x :: xs, 0, _, _, h, _ => by cases h
  | .fr d :: as, x :: xs, 0, _, _, h, _ => by cases h
  | [], _, _, _, _, h, _ => by simp at h
  | a :: as, [], _, _, _, _, hl => by simp at hl
theorem afterA_len : ∀ {as xs : List Sl}, as.length ≤ xs.length → (afterA as xs).length = as.length
  | [], _, _ => rfl
  | .ob b o :: as, x :: xs, hl => congrArg (· + 1) (afterA_len (as := as) (xs := xs) (by simpa using hl))
  | .no :: as, x :: xs, hl => congrArg (· + 1) (afterA_len (as := as) (xs := xs) (by simpa using hl))
  | .fr d :: as, x :: xs, hl => congrArg (· + 1) (afterA_len (as := as) (xs := xs) (by simpa using hl))
  | a :: as, [], hl => by simp at hl

/-- what a def's body must do -/
def BodyOk (K : PySem.W.Frag) (t : TS) (m : Nat) (C : Con) : Prop :=
  ∀ args r args', C args r args' → (∀ (i : Nat) (o : O), args[i]? ≠ some (.ob true o)) ∧ ∃ δ', (StJ K t (args ++ List.replicate m .no) (.rt r δ') ∨ (r = .fr .none ∧ StJ K t (args ++ List.replicate m .no) (.nx δ'))) ∧ args.length ≤ δ'.length ∧ args' = afterA args δ'
section
variable {K : PySem.W.Frag} {E F H F2 H2 : Hp} {δ δ1 δ2 : List Sl} {σ : List (Option V)} {vs : List V}
theorem app_left {α : Type} {l l' : List α} {i : Nat} {x : α} (h : l[i]? = some x) : (l ++ l')[i]? = some x := by
  rw [List.getElem?_append_left (List.getElem?_eq_some_iff.mp h).1]
  exact h
theorem of_app_no {l : List Sl} {m i : Nat} {x : Sl} (h : (l ++ List.replicate m .no)[i]? = some x) (hx : x ≠ .no) : l[i]? = some x := by
  by_cases hi : i < l.length
  · rw [List.getElem?_append_left hi] at h
    exact h
  · rw [List.getElem?_append_right (by omega)] at h
    have := List.eq_of_mem_replicate (List.mem_of_getElem? h)
    exact absurd this hx
theorem EnvOk.extend {m : Nat} (e : EnvOk K E F H δ σ) : EnvOk K E F H (δ ++ List.replicate m .no) (σ ++ List.replicate m none) where
  ex := e.ex
  dom := e.dom
  len := by rw [List.length_append, List.length_append, List.length_replicate, List.length_replicate, e.len]
  fr := fun i d h => by
    obtain ⟨v, h1, h2⟩ := e.fr i d (of_app_no h fun z => nomatch z)
    exact ⟨v, app_left h1, h2⟩
  ob := fun i b o h => by
    obtain ⟨p, ho, h1, h2⟩ := e.ob i b o (of_app_no h fun z => nomatch z)
    exact ⟨p, ho, app_left h1, h2⟩
  dj := fun i j b o b' o' p h1 h2 h3 h4 => by
    have q1 := of_app_no h1 fun z => nomatch z
    have q2 := of_app_no h2 fun z => nomatch z
    obtain ⟨p1, _, w1, _⟩ := e.ob i b o q1
    obtain ⟨p2, _, w2, _⟩ := e.ob j b' o' q2
    have w1' := app_left (l' := List.replicate m (none : Option V)) w1
    have w2' := app_left (l' := List.replicate m (none : Option V)) w2
    rw [h3] at w1'
    rw [h4] at w2'
    cases w1'
    cases w2'
    exact e.dj i j b o b' o' p q1 q2 w1 w2
theorem start_eq {N : List Str} {ps : List Str} {m : Nat} (hm : m = N.length - ps.length) (hl : vs.length = ps.length) : L2.start N vs = vs.map some ++ List.replicate m none := by
  unfold L2.start
  rw [hm, hl]
end

theorem fnD {P : Program} {w : World} {K : PySem.W.Frag} {mg : Str → Option Value} {base : Heap} {x qual : Str} {st : Stmt} {f : Addr} {fd : FuncData} {N ps : List Str} {k m : Nat} {C : Con}
    (F : Fun K x qual st f fd) (S : FnScope N ps (defScope st)) (hl : ∀ args r args', C args r args' → args.length = ps.length) (hm : m = N.length - ps.length)
    (hbody : ∀ (cdv : Value) (A : Around) (outer : List Env) (s : Shared) (H : Hp) (E : XK), Room k (A.deeper (envOfC qual (defScope st) s.heap.objs.size f cdv)) →
      ∃ t, PSs (cxOf CX0 P w K mg base N qual (defScope st) f cdv A outer s H E).nox (defBody st) t ∧ BodyOk K t m C) : FnOk P w K mg base CX0 (k + 1) f fd ps (spD K C) := by
  have len : ∀ vs H Q E, spD K C vs H Q E → vs.length = ps.length := fun vs H Q E ⟨args, r, args', F0, hC, he, _⟩ => by
    have h1 := he.len
    rw [List.length_map, hl _ _ _ hC] at h1
    exact h1
  refine F.ok S len (fun cdv A outer s H vs Q E hr h => ?_)
  have hvl := len _ _ _ _ h
  obtain ⟨args, r, args', F0, hC, he, hq⟩ := h
  obtain ⟨t, ht, hb⟩ := hbody cdv A outer s H E hr
  refine ⟨t, ht, ?_⟩
  obtain ⟨hno, δ', hst, hle, rfl⟩ := hb args r args' hC
  rw [start_eq hm hvl]
  have he2 : EnvOk K H F0 H (args ++ List.replicate m .no) (vs.map some ++ List.replicate m none) := he.extend
  have fin : ∀ v σ' F2 H2, EnvOk K H F2 H2 δ' σ' → Grow F0 H (args ++ List.replicate m .no) (vs.map some ++ List.replicate m none) F2 H2 δ' σ' → RepRet K H F2 H2 r v → Q v H2 := fun v σ' F2 H2 e2 g2 hret => by
    have pr : ∀ (i : Nat) (b : Bool) (o : O), args[i]? = some (.ob b o) → b = false ∧ ∃ o', δ'[i]? = some (.ob false o') ∧ (afterA args δ')[i]? = some (.ob false o') ∧ σ'[i]? = (vs.map some)[i]? := fun i b o hi => by
      cases b with
      | true => exact absurd hi (hno i o)
      | false =>
        obtain ⟨⟨o', h1⟩, h2⟩ := g2.pr i o (app_left hi)
        obtain ⟨p, ho, w1, _⟩ := he.ob i false o hi
        refine ⟨rfl, o', h1, by rw [afterA_ob hi hle]; exact h1, ?_⟩
        rw [h2, w1]
        exact app_left w1
    have fwd : ∀ (i : Nat) (b : Bool) (o' : O), (afterA args δ')[i]? = some (.ob b o') → ∃ b0 o, args[i]? = some (.ob b0 o) := fun i b o' hi => by
      cases q : args[i]? with
      | none =>
        have h1 : args.length ≤ i := List.getElem?_eq_none_iff.mp q
        have h2 := (List.getElem?_eq_some_iff.mp hi).1
        rw [afterA_len hle] at h2
        omega
      | some y =>
        cases y with
        | ob b0 o => exact ⟨b0, o, rfl⟩
        | no =>
          rw [afterA_get hle (by rw [q]; exact fun _ _ z => nomatch z), q] at hi
          cases hi
        | fr d =>
          rw [afterA_get hle (by rw [q]; exact fun _ _ z => nomatch z), q] at hi
          cases hi
    have hot0 : ∀ a, Hot (args ++ List.replicate m .no) (vs.map some ++ List.replicate m none) a → Hot args (vs.map some) a := fun a ⟨i, b, o, h1, h2⟩ => by
      have q1 := of_app_no h1 fun z => nomatch z
      obtain ⟨p, ho, w1, _⟩ := he.ob i b o q1
      have w1' := app_left (l' := List.replicate m (none : Option V)) w1
      rw [h2] at w1'
      cases w1'
      exact ⟨i, b, o, q1, w1⟩
    refine hq v F2 H2 ⟨e2.ex, e2.dom, ?_, fun i d hi => ?_, fun i b o hi => ?_, fun i j b o b' o' p hi hj h1 h2 => ?_⟩ ⟨g2.f, fun a h1 h2 => g2.k a h1 fun z => h2 (hot0 a z), fun a o h1 h2 => g2.h a o h1 fun z => h2 (hot0 a z), fun a ⟨i, b, o, h1, h2⟩ => ?_, g2.dm, fun i o hi => ?_⟩ hret
    · rw [afterA_len hle]
      exact he.len
    · have hn : ∀ b o, args[i]? ≠ some (.ob b o) := fun b o z => by
        obtain ⟨_, o', _, q, _⟩ := pr i b o z
        rw [hi] at q
        cases q
      rw [afterA_get hle hn] at hi
      obtain ⟨v, h1, h2⟩ := he.fr i d hi
      exact ⟨v, h1, dp_mono g2.f h2⟩
    · obtain ⟨b0, o0, h0⟩ := fwd i b o hi
      obtain ⟨_, o', q1, q2, q3⟩ := pr i b0 o0 h0
      rw [hi] at q2
      cases q2
      obtain ⟨p, ho, w1, w2⟩ := e2.ob i _ _ q1
      exact ⟨p, ho, by rw [← q3]; exact w1, w2⟩
    · obtain ⟨b0, o0, h0⟩ := fwd i b o hi
      obtain ⟨b1, o1, h0'⟩ := fwd j b' o' hj
      exact he.dj i j _ _ _ _ p h0 h0' h1 h2
    · obtain ⟨b0, o0, h0⟩ := fwd i b o h1
      exact .inl ⟨i, b0, o0, h0, h2⟩
    · obtain ⟨_, o', q1, q2, q3⟩ := pr i false o hi
      exact ⟨⟨o', q2⟩, rfl⟩
  rcases hst with hst | ⟨rfl, hst⟩
  · exact hst H F0 H _ _ he2 fun v σ' F2 H2 e2 g2 hret => fin v σ' F2 H2 e2 g2 hret
  · exact hst H F0 H _ _ he2 fun σ' F2 H2 e2 g2 => fin .non σ' F2 H2 e2 g2 .non

/-! ### calls -/
def toArgs (δ : List Sl) : List R → Option (List Sl)
  | [] => some []
  | .fr d :: rs => (toArgs δ rs).map (.fr d :: ·)
  | .new o :: rs => (toArgs δ rs).map (.ob false o :: ·)
  | .al i :: rs => match δ[i]? with
    | some (.ob _ o) => (toArgs δ rs).map (.ob false o :: ·)
    | _ => none
def setO (δ : List Sl) (i : Nat) (o : O) : List Sl := match δ[i]? with
  | some (.ob b _) => δ.set i (.ob b o)
  | _ => δ
def backA : List Sl → List R → List Sl → List Sl
  | δ, .al i :: rs, .ob _ o :: as => backA (setO δ i o) rs as
  | δ, _ :: rs, _ :: as => backA δ rs as
  | δ, _, _ => δ
def alsOf : List R → List Nat
  | [] => []
  | .al i :: rs => i :: alsOf rs
  | _ :: rs => alsOf rs
theorem mem_als : ∀ {rs : List R} {j i : Nat}, rs[j]? = some (.al i) → i ∈ alsOf rs
  | .al _ :: rs, 0, i, h => by
    cases h
    exact List.mem_cons_self
  | .al _ :: rs, j + 1, i, h => List.mem_cons_of_mem _ (mem_als (rs := rs) (j := j) h)
  | .fr _ :: rs, j + 1, i, h => mem_als (rs := rs) (j := j) h
  | .new _ :: rs, j + 1, i, h => mem_als (rs := rs) (j := j) h
  | .fr _ :: rs, 0, i, h => by cases h
  | .new _ :: rs, 0, i, h => by cases h
  | [], _, _, h => by simp at h
theorem als_nodup : ∀ {rs : List R} {j k i : Nat}, (alsOf rs).Nodup → rs[j]? = some (.al i) → rs[k]? = some (.al i) → j = k
  | [], _, _, _, _, h, _ => by simp at h
  | .al _ :: rs, 0, 0, i, _, _, _ => rfl
  | .al _ :: rs, 0, k + 1, i, n, h1, h2 => by
    cases h1
    exact absurd (mem_als (rs := rs) (j := k) h2) (List.nodup_cons.mp n).1
  | .al _ :: rs, j + 1, 0, i, n, h1, h2 => by
    cases h2
    exact absurd (mem_als (rs := rs) (j := j) h1) (List.nodup_cons.mp n).1
  | .al _ :: rs, j + 1, k + 1, i, n, h1, h2 => congrArg (· + 1) (als_nodup (rs := rs) (List.nodup_cons.mp n).2 h1 h2)
  | .fr _ :: rs, j + 1, k + 1, i, n, h1, h2 => congrArg (· + 1) (als_nodup (rs := rs) n h1 h2)
  | .new _ :: rs, j + 1, k + 1, i, n, h1, h2 => congrArg (· + 1) (als_nodup (rs := rs) n h1 h2)
  | .fr _ :: rs, 0, _, _, _, h1, _ => by cases h1
  | .new _ :: rs, 0, _, _, _, h1, _ => by cases h1
  | .fr _ :: rs, _ + 1, 0, _, _, _, h2 => by cases h2
  | .new _ :: rs, _ + 1, 0, _, _, _, h2 => by cases h2
theorem als_rev {i : Nat} : ∀ {rs : List R}, i ∈ alsOf rs → ∃ j : Nat, rs[j]? = some (.al i)
  | .al i0 :: rs, h => by
    rcases List.mem_cons.mp h with rfl | h
    · exact ⟨0, rfl⟩
    · obtain ⟨j, hj⟩ := als_rev (rs := rs) h
      exact ⟨j + 1, hj⟩
  | .fr _ :: rs, h => by
    obtain ⟨j, hj⟩ := als_rev (rs := rs) h
    exact ⟨j + 1, hj⟩
  | .new _ :: rs, h => by
    obtain ⟨j, hj⟩ := als_rev (rs := rs) h
    exact ⟨j + 1, hj⟩
  | [], h => nomatch h
theorem setO_ne {δ : List Sl} {i j : Nat} {o : O} (h : j ≠ i) : (setO δ i o)[j]? = δ[j]? := by
  unfold setO
  split
  · rw [List.getElem?_set_ne (Ne.symm h)]
  · rfl
theorem setO_eq {δ : List Sl} {i : Nat} {o o0 : O} {b : Bool} (h : δ[i]? = some (.ob b o0)) : (setO δ i o)[i]? = some (.ob b o) := by
  unfold setO
  rw [h]
  exact List.getElem?_set_self (List.getElem?_eq_some_iff.mp h).1
theorem setO_len {δ : List Sl} {i : Nat} {o : O} : (setO δ i o).length = δ.length := by
  unfold setO
  split
  · rw [List.length_set]
  · rfl
theorem setO_same {δ : List Sl} {i : Nat} {o : O} : SameK δ (setO δ i o) := by
  unfold SameK setO
  split
  · rename_i b o0 h
    refine List.ext_getElem? fun j => ?_
    rw [List.getElem?_map, List.getElem?_map]
    by_cases e : j = i
    · subst e
      rw [List.getElem?_set_self (List.getElem?_eq_some_iff.mp h).1, h]
      rfl
    · rw [List.getElem?_set_ne (Ne.symm e)]
  · rfl
theorem backA_same : ∀ {rs : List R} {δ as : List Sl}, SameK δ (backA δ rs as)
  | [], _, _ => by unfold backA; exact SameK.refl _
  | _ :: _, _, [] => by
    unfold backA
    split <;> first | exact SameK.refl _ | (rename_i h; cases h)
  | .al i :: rs, δ, .ob b o :: as => by
    unfold backA
    exact setO_same.trans (backA_same (rs := rs))
  | .al i :: rs, δ, .fr d :: as => by unfold backA; exact backA_same (rs := rs)
  | .al i :: rs, δ, .no :: as => by unfold backA; exact backA_same (rs := rs)
  | .fr d :: rs, δ, a :: as => by unfold backA; exact backA_same (rs := rs)
  | .new o :: rs, δ, a :: as => by unfold backA; exact backA_same (rs := rs)
theorem backA_ne : ∀ {rs : List R} {δ as : List Sl} {i : Nat}, i ∉ alsOf rs → (backA δ rs as)[i]? = δ[i]?
  | [], _, _, _, _ => by unfold backA; rfl
  | _ :: _, _, [], _, _ => by
    unfold backA
    split <;> first | rfl | (rename_i h; cases h)
  | .al i :: rs, δ, .ob b o :: as, j, h => by
    have h' : j ∉ i :: alsOf rs := h
    rw [List.mem_cons, not_or] at h'
    unfold backA
    rw [backA_ne (rs := rs) h'.2, setO_ne h'.1]
  | .al i :: rs, δ, .fr d :: as, j, h => by
    have h' : j ∉ i :: alsOf rs := h
    rw [List.mem_cons, not_or] at h'
    unfold backA
    exact backA_ne (rs := rs) h'.2
  | .al i :: rs, δ, .no :: as, j, h => by
    have h' : j ∉ i :: alsOf rs := h
    rw [List.mem_cons, not_or] at h'
    unfold backA
    exact backA_ne (rs := rs) h'.2
  | .fr d :: rs, δ, a :: as, j, h => by unfold backA; exact backA_ne (rs := rs) h
  | .new o :: rs, δ, a :: as, j, h => by unfold backA; exact backA_ne (rs := rs) h
theorem backA_eq : ∀ {rs : List R} {δ as : List Sl} {i j : Nat} {b b' : Bool} {o o' : O}, (alsOf rs).Nodup → rs[j]? = some (.al i) → as[j]? = some (.ob b' o') → δ[i]? = some (.ob b o) → (backA δ rs as)[i]? = some (.ob b o')
  | [], _, _, _, _, _, _, _, _, _, h, _, _ => by simp at h
  | _ :: _, _, [], _, _, _, _, _, _, _, _, h, _ => by simp at h
  | .al i0 :: rs, δ, .ob b0 o0 :: as, i, 0, b, b', o, o', n, h1, h2, h3 => by
    cases h1
    cases h2
    unfold backA
    rw [backA_ne (rs := rs) (List.nodup_cons.mp n).1]
    exact setO_eq h3
  | .al i0 :: rs, δ, .ob b0 o0 :: as, i, j + 1, b, b', o, o', n, h1, h2, h3 => by
    unfold backA
    refine backA_eq (rs := rs) (j := j) (o := o) (List.nodup_cons.mp n).2 h1 h2 ?_
    rw [setO_ne]
    · exact h3
    · rintro rfl
      exact (List.nodup_cons.mp n).1 (mem_als (rs := rs) (j := j) h1)
  | .al i0 :: rs, δ, .fr d :: as, i, 0, b, b', o, o', n, h1, h2, h3 => by cases h2
  | .al i0 :: rs, δ, .no :: as, i, 0, b, b', o, o', n, h1, h2, h3 => by cases h2
  | .al i0 :: rs, δ, .fr d :: as, i, j + 1, b, b', o, o', n, h1, h2, h3 => by unfold backA; exact backA_eq (rs := rs) (j := j) (List.nodup_cons.mp n).2 h1 h2 h3
  | .al i0 :: rs, δ, .no :: as, i, j + 1, b, b', o, o', n, h1, h2, h3 => by unfold backA; exact backA_eq (rs := rs) (j := j) (List.nodup_cons.mp n).2 h1 h2 h3
  | .fr d :: rs, δ, a :: as, i, j + 1, b, b', o, o', n, h1, h2, h3 => by unfold backA; exact backA_eq (rs := rs) (j := j) n h1 h2 h3
  | .new d :: rs, δ, a :: as, i, j + 1, b, b', o, o', n, h1, h2, h3 => by unfold backA; exact backA_eq (rs := rs) (j := j) n h1 h2 h3
  | .fr d :: rs, δ, a :: as, i, 0, b, b', o, o', n, h1, h2, h3 => by cases h1
  | .new d :: rs, δ, a :: as, i, 0, b, b', o, o', n, h1, h2, h3 => by cases h1
/-- the arguments, one by one -/
theorem toArgs_get {δ : List Sl} : ∀ {rs : List R} {args : List Sl}, toArgs δ rs = some args → args.length = rs.length ∧ ∀ (j : Nat) (a : Sl), args[j]? = some a →
    (∃ d, rs[j]? = some (.fr d) ∧ a = .fr d) ∨ (∃ o, rs[j]? = some (.new o) ∧ a = .ob false o) ∨ (∃ i b o, rs[j]? = some (.al i) ∧ δ[i]? = some (.ob b o) ∧ a = .ob false o)
  | [], args, h => by
    cases h
    exact ⟨rfl, fun j a h => by simp at h⟩
  | r :: rs, args, h => by
    cases q : toArgs δ rs with
    | none =>
      cases r with
      | fr d => simp [toArgs, q] at h
      | new o => simp [toArgs, q] at h
      | al i =>
        unfold toArgs at h
        split at h
        · rw [q] at h
          cases h
        · cases h
    | some as =>
      obtain ⟨hl, ih⟩ := toArgs_get (rs := rs) q
      cases r with
      | fr d =>
        simp only [toArgs, q, Option.map_some, Option.some.injEq] at h
        subst h
        refine ⟨congrArg (· + 1) hl, fun j a hj => ?_⟩
        cases j with
        | zero =>
          cases hj
          exact .inl ⟨d, rfl, rfl⟩
        | succ j => exact ih j a hj
      | new o =>
        simp only [toArgs, q, Option.map_some, Option.some.injEq] at h
        subst h
        refine ⟨congrArg (· + 1) hl, fun j a hj => ?_⟩
        cases j with
        | zero =>
          cases hj
          exact .inr (.inl ⟨o, rfl, rfl⟩)
        | succ j => exact ih j a hj
      | al i =>
        unfold toArgs at h
        split at h
        · rename_i b o hi
          rw [q] at h
          cases h
          refine ⟨congrArg (· + 1) hl, fun j a hj => ?_⟩
          cases j with
          | zero =>
            cases hj
            exact .inr (.inr ⟨i, b, o, rfl, hi, rfl⟩)
          | succ j => exact ih j a hj
        · cases h
theorem RepRs.get {K : PySem.W.Frag} {F H : Hp} {δ : List Sl} {σ : List (Option V)} : ∀ {rs : List R} {vs : List V} {j : Nat} {r : R}, RepRs K F H δ σ rs vs → rs[j]? = some r → ∃ v, vs[j]? = some v ∧ RepR K F H δ σ r v
  | _, _, _, _, .nil, h => by simp at h
  | _, _, 0, _, .cons h1 _ _, h => by
    cases h
    exact ⟨_, rfl, h1⟩
  | _, _, j + 1, r, .cons _ h2 _, h => RepRs.get (j := j) (r := r) h2 h
theorem RepRs.len {K : PySem.W.Frag} {F H : Hp} {δ : List Sl} {σ : List (Option V)} : ∀ {rs : List R} {vs : List V}, RepRs K F H δ σ rs vs → vs.length = rs.length
  | _, _, .nil => rfl
  | _, _, .cons _ t _ => congrArg (· + 1) t.len
theorem RepRs.dj {K : PySem.W.Frag} {F H : Hp} {δ : List Sl} {σ : List (Option V)} : ∀ {rs : List R} {vs : List V} {j k : Nat} {o o' : O} {p : Addr}, RepRs K F H δ σ rs vs → rs[j]? = some (.new o) → rs[k]? = some (.new o') → vs[j]? = some (.ref p) → vs[k]? = some (.ref p) → j = k
  | _, _, _, _, _, _, _, .nil, h, _, _, _ => by simp at h
  | _, _, 0, 0, _, _, _, .cons _ _ _, _, _, _, _ => rfl
  | _, _, 0, k + 1, o, o', p, .cons _ _ n, h1, h2, h3, h4 => by
    cases h1
    cases h3
    exact absurd h4 (n o p rfl rfl k o' h2)
  | _, _, j + 1, 0, o, o', p, .cons _ _ n, h1, h2, h3, h4 => by
    cases h2
    cases h4
    exact absurd h3 (n o' p rfl rfl j o h1)
  | _, _, j + 1, k + 1, o, o', p, .cons _ t _, h1, h2, h3, h4 => congrArg (· + 1) (RepRs.dj (j := j) (k := k) t h1 h2 h3 h4)
def notAl : R → Bool
  | .al _ => false
  | _ => true
theorem ev_call {K : PySem.W.Frag} {δ δ1 δ2 : List Sl} {ta : TA} {rs : List R} {r : R} {args args' : List Sl} {C : Con} {Ex0 : XK} (ha : EvA K ta δ rs δ1) (ht : toArgs δ1 rs = some args) (hC : C args r args') (hb : backA δ1 rs args' = δ2) (hn : (alsOf rs).Nodup := by decide) (hr : notAl r = true := by rfl) :
    EvJ K (tCall (spD K C) [] Ex0 ta) δ r δ2 := by
  subst hb
  refine ⟨ha.1.trans backA_same, fun E F H σ Q e q => ha.2 E F H σ _ e fun vs F1 H1 e1 g1 hrs hfr => ?_⟩
  obtain ⟨hl, hget⟩ := toArgs_get ht
  have hvl := hrs.len
  show spD K C (vs ++ []) H1 Q Ex0
  rw [List.append_nil]
  have mv : ∀ {j : Nat} {v : V}, vs[j]? = some v → (vs.map some)[j]? = some (some v) := fun {j v} h => by rw [List.getElem?_map, h]; rfl
  have mv' : ∀ {j : Nat} {v : V}, (vs.map some)[j]? = some (some v) → vs[j]? = some v := fun {j v} h => by
    rw [List.getElem?_map] at h
    cases q : vs[j]? with
    | none => rw [q] at h; cases h
    | some u => rw [q] at h; cases h; rfl
  -- an object's argument: its address
  have obj : ∀ (j : Nat) (b : Bool) (o : O), args[j]? = some (.ob b o) → b = false ∧ ∃ p ho, vs[j]? = some (.ref p) ∧ F1 p = none ∧ H1 p = some ho ∧ RepO K F1 o ho ∧
      ((∃ o', rs[j]? = some (.new o') ∧ ¬ Hot δ1 σ p) ∨ ∃ i b' o', rs[j]? = some (.al i) ∧ δ1[i]? = some (.ob b' o') ∧ σ[i]? = some (some (.ref p))) := fun j b o hj => by
    rcases hget j _ hj with ⟨d, _, e0⟩ | ⟨o0, h1, e0⟩ | ⟨i, b0, o0, h1, h2, e0⟩
    · cases e0
    · cases e0
      obtain ⟨v, w1, p, ho, rfl, w2, w3, w4, w5⟩ := hrs.get h1
      exact ⟨rfl, p, ho, w1, w2, w3, w4, .inl ⟨_, h1, w5⟩⟩
    · cases e0
      obtain ⟨v, w1, w2, _⟩ := hrs.get h1
      obtain ⟨p, ho, x1, x2, x3, x4, _⟩ := e1.ob i b0 _ h2
      rw [w2] at x1
      cases x1
      exact ⟨rfl, p, ho, w1, x2, x3, x4, .inr ⟨i, b0, _, h1, h2, w2⟩⟩
  have henv : EnvOk K H1 F1 H1 args (vs.map some) := by
    refine ⟨e1.ex, fun _ h => h, by rw [List.length_map, hvl, hl], fun j d hj => ?_, fun j b o hj => ?_, fun j k b o b' o' p hj hk h1 h2 => ?_⟩
    · rcases hget j _ hj with ⟨d', h1, e0⟩ | ⟨o0, h1, e0⟩ | ⟨i, b0, o0, h1, h2, e0⟩
      · cases e0
        obtain ⟨v, w1, w2⟩ := hrs.get h1
        exact ⟨v, mv w1, w2⟩
      · cases e0
      · cases e0
    · obtain ⟨rfl, p, ho, w1, w2, w3, w4, _⟩ := obj j b o hj
      exact ⟨p, ho, mv w1, w2, w3, w4, fun z => nomatch z⟩
    · have h1 := mv' h1
      have h2 := mv' h2
      obtain ⟨_, p1, _, w1, _, _, _, c1⟩ := obj j b o hj
      obtain ⟨_, p2, _, w2, _, _, _, c2⟩ := obj k b' o' hk
      rw [h1] at w1
      rw [h2] at w2
      cases w1
      cases w2
      rcases c1 with ⟨o1, r1, n1⟩ | ⟨i1, b1, o1, r1, s1, t1⟩
      · rcases c2 with ⟨o2, r2, n2⟩ | ⟨i2, b2, o2, r2, s2, t2⟩
        · exact hrs.dj r1 r2 h1 h2
        · exact absurd ⟨i2, b2, o2, s2, t2⟩ n1
      · rcases c2 with ⟨o2, r2, n2⟩ | ⟨i2, b2, o2, r2, s2, t2⟩
        · exact absurd ⟨i1, b1, o1, s1, t1⟩ n2
        · have e12 := e1.dj i1 i2 b1 o1 b2 o2 p s1 s2 t1 t2
          subst e12
          exact als_nodup hn r1 r2
  -- what the callee may change
  have hotA : ∀ a, Hot args (vs.map some) a → Hot δ1 σ a ∨ H a = none ∨ ∃ (j : Nat) (o' : O), rs[j]? = some (.new o') ∧ vs[j]? = some (.ref a) ∧ ¬ Hot δ1 σ a := fun a ⟨j, b, o, h1, h2⟩ => by
    obtain ⟨_, p, _, w1, _, _, _, c⟩ := obj j b o h1
    have h2 := mv' h2
    rw [h2] at w1
    cases w1
    rcases c with ⟨o1, r1, n1⟩ | ⟨i1, b1, o1, r1, s1, t1⟩
    · exact .inr (.inr ⟨j, o1, r1, h2, n1⟩)
    · exact .inl ⟨i1, b1, o1, s1, t1⟩
  refine ⟨args, r, args', F1, hC, henv, fun v F2 H2 e2 g2 hret => ?_⟩
  have alout : ∀ {i : Nat} {b : Bool} {o : O} {p : Addr}, δ1[i]? = some (.ob b o) → σ[i]? = some (some (.ref p)) → i ∉ alsOf rs → ¬ Hot args (vs.map some) p := fun {i b o p} h1 h2 hni ⟨j, b', o', w1, w2⟩ => by
    obtain ⟨_, p', _, x1, _, _, _, c⟩ := obj j b' o' w1
    have w2 := mv' w2
    rw [w2] at x1
    cases x1
    rcases c with ⟨o1, r1, n1⟩ | ⟨i1, b1, o1, r1, s1, t1⟩
    · exact n1 ⟨i, b, o, h1, h2⟩
    · have e12 := e1.dj i i1 b o b1 o1 _ h1 s1 h2 t1
      subst e12
      exact hni (mem_als r1)
  have hrev : ∀ {i : Nat}, i ∈ alsOf rs → ∃ j : Nat, rs[j]? = some (.al i) := fun h => als_rev h
  have len' : args'.length = args.length := by
    have h1 := e2.len
    have h2 := henv.len
    omega
  -- the objects behind the call
  have back : ∀ {i : Nat} {b : Bool} {o : O}, (backA δ1 rs args')[i]? = some (.ob b o) → ∃ o1, δ1[i]? = some (.ob b o1) ∧ ((i ∉ alsOf rs ∧ o1 = o) ∨ ∃ (j : Nat) (p : Addr), rs[j]? = some (.al i) ∧ args'[j]? = some (.ob false o) ∧ vs[j]? = some (.ref p) ∧ σ[i]? = some (some (.ref p))) := fun {i b o} h => by
    obtain ⟨o1, h1⟩ := (SameK.symm backA_same).ob h
    refine ⟨o1, h1, ?_⟩
    by_cases hm : i ∈ alsOf rs
    · obtain ⟨j, hj⟩ := hrev hm
      obtain ⟨w, w1, w2, _⟩ := hrs.get hj
      obtain ⟨p, _, x1, _⟩ := e1.ob i b o1 h1
      rw [w2] at x1
      cases x1
      have hjl : j < args.length := by
        rw [hl]
        exact (List.getElem?_eq_some_iff.mp hj).1
      have ha : ∃ o0, args[j]? = some (.ob false o0) := by
        rcases hget j args[j] (List.getElem?_eq_getElem hjl) with ⟨d, q1, _⟩ | ⟨o0, q1, _⟩ | ⟨i', b0, o0, q1, q2, q3⟩
        · rw [hj] at q1
          cases q1
        · rw [hj] at q1
          cases q1
        · exact ⟨o0, by rw [List.getElem?_eq_getElem hjl, q3]⟩
      obtain ⟨o0, ha⟩ := ha
      obtain ⟨⟨o', ha'⟩, _⟩ := g2.pr j o0 ha
      have hb := backA_eq hn hj ha' h1
      rw [h] at hb
      cases hb
      exact .inr ⟨j, p, hj, ha', w1, w2⟩
    · have hb := backA_ne (δ := δ1) (as := args') hm
      rw [h, h1] at hb
      cases hb
      exact .inl ⟨hm, rfl⟩
  have E2 : EnvOk K E F2 H2 (backA δ1 rs args') σ := by
    refine ⟨e2.ex, fun a h => e1.dom a (g2.dm a h), ?_, fun i d hi => ?_, fun i b o hi => ?_, fun i j b o b' o' p hi hj => ?_⟩
    · have hk : ((backA δ1 rs args').map kind).length = (δ1.map kind).length := by rw [backA_same]
      rw [List.length_map, List.length_map] at hk
      rw [hk]
      exact e1.len
    · obtain ⟨u, w1, w2⟩ := e1.fr i d ((SameK.symm backA_same).fr hi)
      exact ⟨u, w1, dp_mono g2.f w2⟩
    · obtain ⟨o1, h1, c⟩ := back hi
      obtain ⟨p, ho, w1, w2, w3, w4, w5⟩ := e1.ob i b o1 h1
      rcases c with ⟨hm, rfl⟩ | ⟨j, p', c1, c2, c3, c4⟩
      · have nh := alout h1 w1 hm
        refine ⟨p, ho, w1, ?_, g2.h p ho w3 nh, w4.mono g2.f, w5⟩
        rw [g2.k p (by rw [w3]; exact fun z => nomatch z) nh]
        exact w2
      · rw [c4] at w1
        cases w1
        obtain ⟨p2, ho2, x1, x2, x3, x4, _⟩ := e2.ob j false o c2
        have x1 := mv' x1
        rw [c3] at x1
        cases x1
        exact ⟨p, ho2, c4, x2, x3, x4, w5⟩
    · obtain ⟨o1, h1, _⟩ := back hi
      obtain ⟨o2, h2, _⟩ := back hj
      exact e1.dj i j _ _ _ _ p h1 h2
  have newH : ∀ a, H a ≠ none → ¬ Hot δ1 σ a → ¬ Hot args (vs.map some) a := fun a h1 h2 h3 => by
    rcases hotA a h3 with z | z | ⟨j, o', z1, z2, _⟩
    · exact h2 z
    · exact h1 z
    · exact h1 (hfr j _ _ z1 z2 a rfl)
  have G2 : Grow F H δ σ F2 H2 (backA δ1 rs args') σ := by
    have nh : ∀ a, H a ≠ none → ¬ Hot δ σ a → ¬ Hot δ1 σ a := fun a h1 h2 z => (g1.n a z).elim h2 h1
    have nn1 : ∀ a, H a ≠ none → H1 a ≠ none := fun a h1 z => h1 (g1.dm a z)
    refine ⟨g1.f.trans g2.f, fun a h1 h2 => ?_, fun a o h1 h2 => ?_, fun a ⟨i, b, o, h1, h2⟩ => ?_, fun a h => g1.dm a (g2.dm a h), fun i o hi => ?_⟩
    · rw [g2.k a (nn1 a h1) (newH a h1 (nh a h1 h2)), g1.k a h1 h2]
    · have hne : H a ≠ none := by rw [h1]; exact fun z => nomatch z
      exact g2.h a o (g1.h a o h1 h2) (newH a hne (nh a hne h2))
    · obtain ⟨o1, w1, _⟩ := back h1
      exact g1.n a ⟨i, b, o1, w1, h2⟩
    · obtain ⟨⟨o1, w1⟩, w2⟩ := g1.pr i o hi
      exact ⟨(backA_same (rs := rs) (as := args')).ob w1, w2⟩
  refine q v F2 H2 E2 G2 ?_ ?_
  · cases r with
    | fr d => exact hret
    | al i => cases hr
    | new o =>
      obtain ⟨p, ho, rfl, w1, w2, w3, w4⟩ := hret
      refine ⟨p, ho, rfl, w2, w3, w4, fun ⟨i, b, o', z1, z2⟩ => ?_⟩
      obtain ⟨o1, x1, _⟩ := back z1
      obtain ⟨p', ho', y1, _, y3, _⟩ := e1.ob i b o1 x1
      rw [z2] at y1
      cases y1
      rw [w1] at y3
      cases y3
  · cases r with
    | fr d => trivial
    | al i => trivial
    | new o =>
      intro p e0
      obtain ⟨p', ho, e0', w1, _⟩ := hret
      rw [e0] at e0'
      cases e0'
      exact g1.dm _ w1
end DL
/-! List comprehensions. -/
namespace DL
open PySem PySem.Spec PyProof.Rows L2

def wipeD (δ : List Sl) : List Nat → List Sl
  | [] => δ
  | v :: vs => (wipeD δ vs).set v .no
theorem wipeD_len {δ : List Sl} : ∀ {vs : List Nat}, (wipeD δ vs).length = δ.length
  | [] => rfl
  | v :: vs => by
    unfold wipeD
    rw [List.length_set, wipeD_len]
theorem wipeD_ne {δ : List Sl} {i : Nat} : ∀ {vs : List Nat}, i ∉ vs → (wipeD δ vs)[i]? = δ[i]?
  | [], _ => rfl
  | v :: vs, h => by
    rw [List.mem_cons, not_or] at h
    unfold wipeD
    rw [List.getElem?_set_ne (Ne.symm h.1), wipeD_ne h.2]
theorem wipeD_mem {δ : List Sl} {i : Nat} {x : Sl} : ∀ {vs : List Nat}, i ∈ vs → (wipeD δ vs)[i]? = some x → x = .no
  | v :: vs, h, e => by
    unfold wipeD at e
    rcases getset e with ⟨_, e1, _⟩ | ⟨hn, e1⟩
    · exact e1
    · rcases List.mem_cons.mp h with h | h
      · exact absurd h hn
      · exact wipeD_mem h e1
theorem wipeD_some {δ : List Sl} {i : Nat} {x : Sl} {vs : List Nat} (h : (wipeD δ vs)[i]? = some x) (hx : x ≠ .no) : i ∉ vs ∧ δ[i]? = some x := by
  by_cases hm : i ∈ vs
  · exact absurd (wipeD_mem hm h) hx
  · exact ⟨hm, by rw [← wipeD_ne hm]; exact h⟩
theorem wipe_ne {σ : List (Option V)} {i : Nat} : ∀ {vs : List Nat}, i ∉ vs → (wipe σ vs)[i]? = σ[i]?
  | [], _ => rfl
  | v :: vs, h => by
    rw [List.mem_cons, not_or] at h
    unfold wipe
    rw [List.getElem?_set_ne (Ne.symm h.1), wipe_ne h.2]
theorem wipe_set {σ : List (Option V)} {i : Nat} {x : Option V} {vs : List Nat} (h : i ∈ vs) : wipe (σ.set i x) vs = wipe σ vs := by
  refine List.ext_getElem? fun j => ?_
  by_cases hj : j ∈ vs
  · have w : ∀ τ : List (Option V), τ.length = σ.length → (wipe τ vs)[j]? = if j < σ.length then some none else none := fun τ hτ => by
      have hl : (wipe τ vs).length = σ.length := by rw [wipe_length, hτ]
      by_cases hjl : j < σ.length
      · rw [if_pos hjl]
        have e : (wipe τ vs)[j]? = some (wipe τ vs)[j] := List.getElem?_eq_getElem (by omega)
        rw [e]
        cases q : (wipe τ vs)[j] with
        | none => rfl
        | some v =>
          rw [q] at e
          exact absurd hj (wipe_some e).2
      · rw [if_neg hjl, List.getElem?_eq_none (by omega)]
    rw [w _ (by rw [List.length_set]), w _ rfl]
  · rw [wipe_ne hj, wipe_ne hj]
    rw [List.getElem?_set_ne]
    rintro rfl
    exact hj h
theorem wipe_wipe {σ : List (Option V)} {vs : List Nat} : wipe (wipe σ vs) vs = wipe σ vs := by
  refine List.ext_getElem? fun j => ?_
  by_cases hj : j ∈ vs
  · cases q1 : (wipe (wipe σ vs) vs)[j]? with
    | none =>
      have := List.getElem?_eq_none_iff.mp q1
      rw [wipe_length] at this
      rw [List.getElem?_eq_none this]
    | some z =>
      cases z with
      | some v => exact absurd hj (wipe_some q1).2
      | none =>
        have hlt := (List.getElem?_eq_some_iff.mp q1).1
        rw [wipe_length] at hlt
        cases q2 : (wipe σ vs)[j]? with
        | none =>
          have := List.getElem?_eq_none_iff.mp q2
          omega
        | some z =>
          cases z with
          | some v => exact absurd hj (wipe_some q2).2
          | none => rfl
  · rw [wipe_ne hj]
def NoParV (δ : List Sl) (vs : List Nat) : Prop := ∀ i ∈ vs, NoPar δ i
section
variable {K : PySem.W.Frag} {E F H F2 H2 : Hp} {δ δ1 δ2 : List Sl} {σ : List (Option V)} {vs : List Nat}
theorem EnvOk.wipe (e : EnvOk K E F H δ σ) : EnvOk K E F H (wipeD δ vs) (wipe σ vs) where
  ex := e.ex
  dom := e.dom
  len := by rw [wipeD_len, wipe_length]; exact e.len
  fr := fun i d h => by
    obtain ⟨h1, h2⟩ := wipeD_some h fun z => nomatch z
    rw [wipe_ne h1]
    exact e.fr i d h2
  ob := fun i b o h => by
    obtain ⟨h1, h2⟩ := wipeD_some h fun z => nomatch z
    rw [wipe_ne h1]
    exact e.ob i b o h2
  dj := fun i j b o b' o' p h1 h2 h3 h4 => by
    obtain ⟨q1, q2⟩ := wipeD_some h1 fun z => nomatch z
    obtain ⟨q3, q4⟩ := wipeD_some h2 fun z => nomatch z
    rw [wipe_ne q1] at h3
    rw [wipe_ne q3] at h4
    exact e.dj i j b o b' o' p q2 q4 h3 h4
theorem Hot.wiped {a : Addr} : Hot (wipeD δ vs) (L2.wipe σ vs) a → Hot δ σ a := fun ⟨i, b, o, h1, h2⟩ => by
  obtain ⟨q1, q2⟩ := wipeD_some h1 fun z => nomatch z
  rw [wipe_ne q1] at h2
  exact ⟨i, b, o, q2, h2⟩
theorem Grow.wipe (hp : NoParV δ vs) : Grow F H δ σ F H (wipeD δ vs) (L2.wipe σ vs) where
  f := Ex.refl F
  k := fun _ _ _ => rfl
  h := fun _ _ e _ => e
  n := fun a h => .inl h.wiped
  dm := fun _ h => h
  pr := fun i o h => by
    have hi : i ∉ vs := fun z => hp i z o h
    exact ⟨⟨o, by rw [wipeD_ne hi]; exact h⟩, wipe_ne hi⟩
/-- an object that no name owns is changed -/
theorem EnvOk.poke {p : Addr} {ho : HO} (e : EnvOk K E F H δ σ) (h1 : F p = none) (h2 : ¬ Hot δ σ p) (h3 : H p ≠ none) : EnvOk K E F (upd H p ho) δ σ where
  ex := fun a o h => by
    rw [upd_ne (ne_of_none h h1)]
    exact e.ex a o h
  dom := fun a h => by
    by_cases ha : a = p
    · rw [ha, upd_same] at h
      cases h
    · rw [upd_ne ha] at h
      exact e.dom a h
  len := e.len
  fr := e.fr
  ob := fun i b o h => by
    obtain ⟨q, ho', w1, w2, w3, w4⟩ := e.ob i b o h
    refine ⟨q, ho', w1, w2, ?_, w4⟩
    rw [upd_ne fun z => h2 ⟨i, b, o, h, by rw [← z]; exact w1⟩]
    exact w3
  dj := e.dj
end
theorem Grow.poke {F H F2 H2 : Hp} {δ δ2 : List Sl} {σ σ2 : List (Option V)} {A : Addr} {ho : HO} (G : Grow F H δ σ F2 H2 δ2 σ2) (hA : H A = none) : Grow F H δ σ F2 (upd H2 A ho) δ2 σ2 :=
  ⟨G.f, G.k, fun a o h1 h2 => by
    rw [upd_ne (ne_of_none h1 hA)]
    exact G.h a o h1 h2, G.n, fun a h => by
    by_cases ha : a = A
    · rw [ha]
      exact hA
    · rw [upd_ne ha] at h
      exact G.dm a h, G.pr⟩
def BindW (K : PySem.W.Frag) (g : TG) (d : D) (vs : List Nat) (δ δ' : List Sl) : Prop :=
  (∀ i, i ∉ vs → δ'[i]? = δ[i]?) ∧ ∀ (E F H : Hp) (σ : List (Option V)) (v : V) (Q : List (Option V) → Hp → Prop), EnvOk K E F H δ σ → Dp K F v d →
    (∀ σ', EnvOk K E F H δ' σ' → Grow F H δ σ F H δ' σ' → wipe σ' vs = wipe σ vs → Q σ' H) → g v σ H Q
def BindsW (K : PySem.W.Frag) (g : TGs) (ds : List D) (vs : List Nat) (δ δ' : List Sl) : Prop :=
  (∀ i, i ∉ vs → δ'[i]? = δ[i]?) ∧ ∀ (E F H : Hp) (σ : List (Option V)) (ws : List V) (Q : List (Option V) → Hp → Prop), EnvOk K E F H δ σ → DpAll K F ws ds →
    (∀ σ', EnvOk K E F H δ' σ' → Grow F H δ σ F H δ' σ' → wipe σ' vs = wipe σ vs → Q σ' H) → g ws σ H Q
section
variable {K : PySem.W.Frag} {δ δ1 δ2 : List Sl} {d : D} {ds : List D} {i : Nat} {vs : List Nat}
theorem bw_name (hi : i ∈ vs := by decide) (hp : NoPar δ i := by intro o z; cases z) : BindW K (gName i) d vs δ (δ.set i (.fr d)) :=
  ⟨fun j hj => by rw [List.getElem?_set_ne]; rintro rfl; exact hj hi, fun E F H σ v Q e h q => q _ (e.set_fr h) (Grow.set_fr hp) (wipe_set hi)⟩
theorem bsw_nil : BindsW K gNil [] vs δ δ := ⟨fun _ _ => rfl, fun E F H σ ws Q e h q => by
  cases h
  exact ⟨rfl, q σ e Grow.refl rfl⟩⟩
theorem bsw_cons {g : TG} {gs : TGs} (h1 : BindW K g d vs δ δ1) (h2 : BindsW K gs ds vs δ1 δ2) : BindsW K (gCons g gs) (d :: ds) vs δ δ2 := ⟨fun i hi => (h2.1 i hi).trans (h1.1 i hi), fun E F H σ ws Q e h q => by
  cases h with
  | cons hv ht =>
    exact ⟨_, _, rfl, h1.2 E F H σ _ _ e hv fun σ' e' g' w' => h2.2 E F H σ' _ _ e' ht fun σ2 e2 g2 w2 => q σ2 e2 (g'.trans g2) (w2.trans w')⟩⟩
theorem bw_tup {gs : TGs} {n : Nat} (h : BindsW K gs ds vs δ δ1) (hn : ds.length = n := by rfl) : BindW K (gTup K n gs) (.tuple ds) vs δ δ1 := ⟨h.1, fun E F H σ v Q e hv q => by
  cases hv with
  | tup hs ha => exact ⟨_, _, rfl, ex_t e.ex hs, ha.length.trans hn, h.2 E F H σ _ Q e ha q⟩⟩
end
inductive LcRel (K : PySem.W.Frag) (g : TG) (tt : TT) (te : TE) (vs : List Nat) : List D → List Sl → List D → List Sl → Prop
  | nil {δ : List Sl} : LcRel K g tt te vs [] δ [] δ
  | go {d y : D} {ds ys : List D} {δ δb δc δd δ' : List Sl} : BindW K g d vs δ δb → TtJ K tt δb true δc → EvJ K te δc (.fr y) δd → NoParV δd vs → LcRel K g tt te vs ds (wipeD δd vs) ys δ' → LcRel K g tt te vs (d :: ds) δ (y :: ys) δ'
  | skip {d : D} {ds ys : List D} {δ δb δc δ' : List Sl} : BindW K g d vs δ δb → TtJ K tt δb false δc → NoParV δc vs → LcRel K g tt te vs ds (wipeD δc vs) ys δ' → LcRel K g tt te vs (d :: ds) δ ys δ'
def pick (vs : List Nat) : Nat → List Sl → List Sl → List Sl
  | n, a :: as, b :: bs => (if n ∈ vs then a else b) :: pick vs (n + 1) as bs
  | _, _, _ => []
theorem pick_get {vs : List Nat} : ∀ {as bs : List Sl} {n i : Nat}, as.length = bs.length → (pick vs n as bs)[i]? = if n + i ∈ vs then as[i]? else bs[i]?
  | [], [], n, i, _ => by simp [pick]
  | a :: as, b :: bs, n, 0, _ => by
    show some (if n ∈ vs then a else b) = if n ∈ vs then some a else some b
    split <;> rfl
  | a :: as, b :: bs, n, i + 1, h => by
    show (pick vs (n + 1) as bs)[i]? = _
    rw [pick_get (by simpa using h), show n + 1 + i = n + (i + 1) by omega]
    rfl
  | [], _ :: _, _, _, h => by simp at h
  | _ :: _, [], _, _, h => by simp at h
theorem pick_len {vs : List Nat} : ∀ {as bs : List Sl} {n : Nat}, as.length = bs.length → (pick vs n as bs).length = as.length
  | [], [], _, _ => rfl
  | a :: as, b :: bs, n, h => congrArg (· + 1) (pick_len (by simpa using h))
  | [], _ :: _, _, h => by simp at h
  | _ :: _, [], _, h => by simp at h
theorem kind_get {δ δ' : List Sl} (h : SameK δ δ') (i : Nat) : δ'[i]?.map kind = δ[i]?.map kind := by
  have e : (δ'.map kind)[i]? = (δ.map kind)[i]? := by rw [h]
  rw [List.getElem?_map, List.getElem?_map] at e
  exact e
theorem LcRel.kinds {K : PySem.W.Frag} {g : TG} {tt : TT} {te : TE} {vs : List Nat} {ds ys : List D} {δ δ' : List Sl} (h : LcRel K g tt te vs ds δ ys δ') : ∀ i, i ∉ vs → δ'[i]?.map kind = δ[i]?.map kind := by
  induction h with
  | nil => exact fun _ _ => rfl
  | go hb ht he _ _ ih =>
    intro i hi
    rw [ih i hi, wipeD_ne hi, kind_get he.1, kind_get ht.1, hb.1 i hi]
  | skip hb ht _ _ ih =>
    intro i hi
    rw [ih i hi, wipeD_ne hi, kind_get ht.1, hb.1 i hi]
theorem LcRel.size {K : PySem.W.Frag} {g : TG} {tt : TT} {te : TE} {vs : List Nat} {ds ys : List D} {δ δ' : List Sl} (h : LcRel K g tt te vs ds δ ys δ') : ys.length ≤ ds.length := by
  induction h with
  | nil => exact Nat.le_refl _
  | go _ _ _ _ _ ih => exact Nat.succ_le_succ ih
  | skip _ _ _ _ ih => exact Nat.le_succ_of_le ih
theorem ev_lc {K : PySem.W.Frag} {wi : TI} {g : TG} {tt : TT} {te : TE} {vs : List Nat} {ds ys : List D} {δ δ1 δw δ' : List Sl} (hs : SrcJ K wi δ ds δ1) (hl : LcRel K g tt te vs ds (wipeD δ1 vs) ys δw) (hd : δw.length = δ1.length) (hδ : pick vs 0 δ1 δw = δ') (hp : NoParV δ1 vs) (hz : ds.length ≤ sizeLine) :
    EvJ K (tLc wi g tt te vs) δ (.new (.L ys)) δ' := by
  subst hδ
  have hpg : ∀ i, (pick vs 0 δ1 δw)[i]? = if i ∈ vs then δ1[i]? else δw[i]? := fun i => by
    rw [pick_get hd.symm, Nat.zero_add]
  have hk1 : SameK δ1 (pick vs 0 δ1 δw) := by
    unfold SameK
    refine List.ext_getElem? fun i => ?_
    rw [List.getElem?_map, List.getElem?_map, hpg i]
    split
    · rfl
    · rename_i hi
      rw [hl.kinds i hi, wipeD_ne hi]
  refine ⟨hs.1.trans hk1, fun E F H σ Q e q => hs.2 E F H σ _ e fun J F1 H1 e1 g1 it A hA => ?_⟩
  have hF1 : F1 A = none := nn_ex e1.ex hA
  have hH0 : H A = none := g1.dm A hA
  have nh1 : ¬ Hot δ1 σ A := fun z => by
    obtain ⟨_, ho, h2⟩ := e1.hotF z
    rw [hA] at h2
    cases h2
  have al0 : Alloc F1 H1 F1 (upd H1 A (.lst [])) := Alloc.own e1.ex hA
  refine ⟨fun i m H' => m = ds.length - i ∧ ∃ F' δi acc done rest, EnvOk K E F' H' δi (wipe σ vs) ∧ Grow F1 H1 (wipeD δ1 vs) (wipe σ vs) F' H' δi (wipe σ vs) ∧ H' A = some (.lst acc) ∧ DpAll K F' acc done ∧ F' A = none ∧ ¬ Hot δi (wipe σ vs) A ∧
    LcRel K g tt te vs (ds.drop i) δi rest δw ∧ done ++ rest = ys ∧ done.length ≤ i, ⟨_, rfl, F1, wipeD δ1 vs, [], [], ys, (al0.env e1).wipe, al0.grow, upd_same, .nil, hF1, fun z => nh1 z.wiped, hl, rfl, Nat.le_refl 0⟩, fun i m H' ⟨hm, F', δi, acc, done, rest, e', g', hA', hacc, hFA, hnh, hr, hsum, hdl⟩ => ?_⟩
  obtain ⟨i1, i2⟩ := it F' H' g'.f e'.ex
  by_cases hi : i < ds.length
  · have hdi : ds[i]? = some ds[i] := List.getElem?_eq_getElem hi
    obtain ⟨go, yl⟩ := i2 i _ hdi
    rw [List.drop_eq_getElem_cons hi] at hr
    refine .inr ⟨go, fun H2 => ∃ F2 δ2 acc done rest, EnvOk K E F2 H2 δ2 (wipe σ vs) ∧ Grow F1 H1 (wipeD δ1 vs) (wipe σ vs) F2 H2 δ2 (wipe σ vs) ∧ H2 A = some (.lst acc) ∧ DpAll K F2 acc done ∧ F2 A = none ∧ ¬ Hot δ2 (wipe σ vs) A ∧
      LcRel K g tt te vs (ds.drop (i + 1)) δ2 rest δw ∧ done ++ rest = ys ∧ done.length ≤ i + 1, fun H2 q2 => ⟨m - 1, by omega, by omega, q2⟩, fun x H'' hy => ?_⟩
    obtain ⟨F'', al, hx⟩ := yl x H'' hy
    have ea := al.env e'
    have ga : Grow F1 H1 (wipeD δ1 vs) (wipe σ vs) F'' H'' δi (wipe σ vs) := g'.trans al.grow
    have hAA : H'' A = some (.lst acc) := al.h A _ hA'
    have hFAA : F'' A = none := by rw [al.k A (by rw [hA']; exact fun z => nomatch z)]; exact hFA
    have keepA : ∀ {Fa Ha Fb Hb : Hp} {δa δb : List Sl} {σa σb : List (Option V)}, Grow Fa Ha δa σa Fb Hb δb σb → Ha A = some (.lst acc) → Fa A = none → ¬ Hot δa σa A → Hb A = some (.lst acc) ∧ Fb A = none ∧ ¬ Hot δb σb A := fun {Fa Ha Fb Hb δa δb σa σb} G h1 h2 h3 => by
      refine ⟨G.h A _ h1 h3, ?_, fun z => ?_⟩
      · rw [G.k A (by rw [h1]; exact fun z => nomatch z) h3]
        exact h2
      · rcases G.n A z with q | q
        · exact h3 q
        · rw [h1] at q
          cases q
    cases hr with
    | @go _ y _ ys' _ δb δc δd _ hb ht he hnp hr2 =>
      refine hb.2 E F'' H'' (wipe σ vs) x _ ea hx fun σ2 e2 g2 hw => ⟨hw.trans wipe_wipe, ht.2 E F'' H'' σ2 _ e2 fun F3 H3 e3 g3 => ?_⟩
      have ww : wipe σ2 vs = wipe σ vs := hw.trans wipe_wipe
      rw [if_pos rfl]
      refine he.2 E F3 H3 σ2 _ e3 fun v F4 H4 e4 g4 h4 _ => ?_
      obtain ⟨a1, a2, a3⟩ := keepA g2 hAA hFAA hnh
      obtain ⟨b1, b2, b3⟩ := keepA g3 a1 a2 a3
      obtain ⟨c1, c2, c3⟩ := keepA g4 b1 b2 b3
      have hlen : acc.length = done.length := hacc.length
      refine ⟨acc, c1, by omega, F4, wipeD δd vs, acc ++ [v], done ++ [y], ys', ?_, ?_, upd_same, (dpa_mono (al.f.trans (g2.f.trans (g3.f.trans g4.f))) hacc).append (.cons h4 .nil), c2, fun z => c3 (Hot.wiped (vs := vs) (by rw [ww]; exact z)), hr2, by rw [List.append_assoc]; exact hsum, by rw [List.length_append, List.length_singleton]; omega⟩
      · have e5 := (e4.poke (ho := .lst (acc ++ [v])) c2 c3 (by rw [c1]; exact fun z => nomatch z)).wipe (vs := vs)
        rw [ww] at e5
        exact e5
      · have G : Grow F1 H1 (wipeD δ1 vs) (wipe σ vs) F4 H4 (wipeD δd vs) (wipe σ2 vs) := ((ga.trans g2).trans (g3.trans g4)).trans (Grow.wipe hnp)
        rw [ww] at G
        exact G.poke hA
    | @skip _ _ ys' _ δb δc _ hb ht hnp hr2 =>
      refine hb.2 E F'' H'' (wipe σ vs) x _ ea hx fun σ2 e2 g2 hw => ⟨hw.trans wipe_wipe, ht.2 E F'' H'' σ2 _ e2 fun F3 H3 e3 g3 => ?_⟩
      have ww : wipe σ2 vs = wipe σ vs := hw.trans wipe_wipe
      rw [if_neg Bool.false_ne_true]
      obtain ⟨a1, a2, a3⟩ := keepA g2 hAA hFAA hnh
      obtain ⟨b1, b2, b3⟩ := keepA g3 a1 a2 a3
      refine ⟨F3, wipeD δc vs, acc, done, rest, ?_, ?_, b1, dpa_mono (al.f.trans (g2.f.trans g3.f)) hacc, b2, fun z => b3 (Hot.wiped (vs := vs) (by rw [ww]; exact z)), hr2, hsum, by omega⟩
      · have e5 := e3.wipe (vs := vs)
        rw [ww] at e5
        exact e5
      · have G : Grow F1 H1 (wipeD δ1 vs) (wipe σ vs) F3 H3 (wipeD δc vs) (wipe σ2 vs) := ((ga.trans g2).trans g3).trans (Grow.wipe hnp)
        rw [ww] at G
        exact G
  · refine .inl ⟨i1 i (by omega), ?_⟩
    rw [List.drop_eq_nil_of_le (by omega)] at hr
    cases hr
    rw [List.append_nil] at hsum
    subst hsum
    -- the names of the comprehension are what they were
    have hotB : ∀ a, Hot (pick vs 0 δ1 δw) σ a → Hot δ1 σ a := fun a ⟨j, b, o, h1, h2⟩ => by
      obtain ⟨o1, h3⟩ := hk1.symm.ob h1
      exact ⟨j, b, o1, h3, h2⟩
    have nhw : ∀ {j : Nat} {b : Bool} {o : O} {p : Addr}, j ∈ vs → δ1[j]? = some (.ob b o) → σ[j]? = some (some (.ref p)) → ¬ Hot (wipeD δ1 vs) (wipe σ vs) p := fun {j b o p} hj h1 h2 ⟨k, b', o', h3, h4⟩ => by
      obtain ⟨q1, q2⟩ := wipeD_some h3 fun z => nomatch z
      rw [wipe_ne q1] at h4
      have := e1.dj j k b o b' o' p h1 q2 h2 h4
      subst this
      exact q1 hj
    have E2 : EnvOk K E F' H' (pick vs 0 δ1 δw) σ := by
      refine ⟨e'.ex, e'.dom, by rw [pick_len hd.symm]; exact e1.len, fun j d hj => ?_, fun j b o hj => ?_, fun j k b o b' o' p hj hk h1 h2 => ?_⟩
      · obtain ⟨v, w1, w2⟩ := e1.fr j d (hk1.symm.fr hj)
        exact ⟨v, w1, dp_mono g'.f w2⟩
      · rw [hpg j] at hj
        by_cases hm : j ∈ vs
        · rw [if_pos hm] at hj
          obtain ⟨p, ho, w1, w2, w3, w4, w5⟩ := e1.ob j b o hj
          have nh := nhw hm hj w1
          refine ⟨p, ho, w1, ?_, g'.h p ho w3 nh, w4.mono g'.f, w5⟩
          rw [g'.k p (by rw [w3]; exact fun z => nomatch z) nh]
          exact w2
        · rw [if_neg hm] at hj
          obtain ⟨p, ho, w1, w2⟩ := e'.ob j b o hj
          rw [wipe_ne hm] at w1
          exact ⟨p, ho, w1, w2⟩
      · obtain ⟨o1, q1⟩ := hk1.symm.ob hj
        obtain ⟨o2, q2⟩ := hk1.symm.ob hk
        exact e1.dj j k _ _ _ _ p q1 q2 h1 h2
    have G2 : Grow F1 H1 δ1 σ F' H' (pick vs 0 δ1 δw) σ := by
      refine ⟨g'.f, fun a h1 h2 => g'.k a h1 fun z => h2 z.wiped, fun a o h1 h2 => g'.h a o h1 fun z => h2 z.wiped, fun a z => .inl (hotB a z), g'.dm, fun j o hj => ⟨hk1.ob hj, rfl⟩⟩
    refine q _ F' H' E2 (g1.trans G2) ⟨A, _, rfl, hFA, hA', ⟨acc, rfl, hacc⟩, fun z => ?_⟩ fun p e0 => ?_
    · exact nh1 (hotB A z)
    · cases e0
      exact hH0
end DL
/-! Operators, built-ins, dicts by written keys. -/
namespace DL
open PySem PySem.Spec PyProof.Rows L2

/-! ### own rules of the machine -/
section
variable {X : Cx}
def CDivR (_ j : Int) : Prop := j ≠ 0 ∧ j.natAbs.log2 < 9000
theorem op_fdivR : OpR X (binaryOp .FloorDiv) (rI CDivR fun i j => .int (i.fdiv j)) := opI fun i j _ _ _ _ _ hc q => floordiv_int hc.1 q (.inl (PyProof.noPylong_of_log2 hc.2))
/-- factors of together less than 2 ^ 27 bits -/
def CMulB (i j : Int) : Prop := i.natAbs.log2 + j.natAbs.log2 < 134217720
theorem CMulB.ok {i j : Int} (h : CMulB i j) : IntMulOk i j := by
  have b : ∀ x : Int, Builtin.Int.intBits x ≤ x.natAbs.log2 + 1 := fun x => by
    unfold Builtin.Int.intBits
    split <;> omega
  have h1 := b i
  have h2 := b j
  have h3 : i.natAbs.log2 + j.natAbs.log2 < 134217720 := h
  have e : bitsLine = 134217728 := by decide
  unfold IntMulOk
  intro z
  rw [Bool.and_eq_true] at z
  have z2 := z.2
  unfold Builtin.Int.intTooBig at z2
  have z3 := of_decide_eq_true z2
  rw [e] at z3
  omega
theorem op_mulB : OpR X (binaryOp .Mult) (rI CMulB fun i j => .int (i * j)) := opI fun _ _ _ _ _ _ _ hc q => mul_int q hc.ok
/-- list + list, any two lists that can be read -/
def rCatL (K : PySem.W.Frag) : R2 := fun x y H Q => ∃ l b xs zs, x = .ref l ∧ y = .ref b ∧ SqL K H l xs ∧ SqL K H b zs ∧ xs.length + zs.length ≤ sizeLine ∧ ∀ p, H p = none → Q (.ref p) (upd H p (.lst (xs ++ zs)))
/-- + -/
def rAddU (K : PySem.W.Frag) : R2 := fun x y H Q => rI0 (fun i j => .int (i + j)) x y H Q ∨ (rCat x y H Q ∨ (rCatA K x y H Q ∨ (∃ i j, x = .str i ∧ y = .str j ∧ i.length + j.length ≤ sizeLine ∧ Q (.str (i ++ j)) H)))
theorem op_addU : OpR X (binaryOp .Add) (rAddU X.K) := OpR.or op_add (OpR.or op_cat (OpR.or op_catA op_add_str))
def rMulU (K : PySem.W.Frag) : R2 := fun x y H Q => rI CMulB (fun i j => .int (i * j)) x y H Q ∨ rRepT K x y H Q
theorem op_mulU : OpR X (binaryOp .Mult) (rMulU X.K) := OpR.or op_mulB op_repT
def rSliceU (K : PySem.W.Frag) : V → Option Int → Option Int → Hp → VK → Prop := fun x lo hi H Q => rSlL K x lo hi H Q ∨ (rSlA K x lo hi H Q ∨ rSlS x lo hi H Q)
theorem sl_U : SlR X (rSliceU X.K) := SlR.or sl_list (SlR.or sl_tupA sl_str)
def rLenU (K : PySem.W.Frag) : List V → Hp → VK → Prop := fun xs H Q => (∃ p ys, xs = [.ref p] ∧ (SqL K H p ys ∨ SqT K H p ys) ∧ Q (.int ys.length) H) ∨ ((∃ z, xs = [.str z] ∧ z.length ≤ sizeLine ∧ Q (.int z.length) H) ∨ (∃ a kvs, xs = [V.ref a] ∧ H a = some (.dK kvs) ∧ Q (.int kvs.length) H))
theorem call_lenU : CallR X (.builtin "len") (rLenU X.K) := CallR.or call_len_seq (CallR.or call_len_str call_lenD)
def rTupU (K : PySem.W.Frag) : List V → Hp → VK → Prop := fun xs H Q => ∃ p ys, xs = [.ref p] ∧ ((SqL K H p ys ∧ ∀ l, H l = none → Q (.ref l) (upd H l (.tup ys))) ∨ (SqT K H p ys ∧ Q (.ref p) H))
theorem call_tupU : CallR X (.type "tuple") (rTupU X.K) := call_tuple_of
def rLstU (K : PySem.W.Frag) : List V → Hp → VK → Prop := fun xs H Q => ∃ p ys, xs = [.ref p] ∧ (SqL K H p ys ∨ SqT K H p ys) ∧ ∀ l, H l = none → Q (.ref l) (upd H l (.lst ys))
theorem call_lstU : CallR X (.type "list") (rLstU X.K) := call_list_of
def rAbs : List V → Hp → VK → Prop := fun xs H Q => ∃ i, xs = [.int i] ∧ Q (.int (if i < 0 then -i else i)) H
theorem call_absU : CallR X (.builtin "abs") rAbs := call_abs
def rInt1 : List V → Hp → VK → Prop := fun xs H Q => (∃ i, xs = [.int i] ∧ Q (.int i) H) ∨ ∃ k, xs = [.bl k] ∧ Q (.int (if k then 1 else 0)) H
theorem call_int1U : CallR X (.type "int") rInt1 := call_int1
end

/-! ### operators on data -/
section
variable {K : PySem.W.Frag} {δ : List Sl} {r r1 r2 : R} {d d1 d2 : D} {ds : List D}
theorem od_of {f : R2} (h : ∀ (E F H : Hp) (σ : List (Option V)) (x y : V) (Q : VK), EnvOk K E F H δ σ → RepR K F H δ σ r1 x → RepR K F H δ σ r2 y → ∃ v, (∀ F, Dp K F v d) ∧ (Q v H → f x y H Q)) : OpD K f r1 r2 δ (.fr d) := fun E F H σ x y Q e h1 h2 q => by
  obtain ⟨v, hv, hq⟩ := h E F H σ x y Q e h1 h2
  exact hq (q v F H (Alloc.refl e.ex) (hv F) trivial)
theorem od_I0 {g : Int → Int → Int} {i j : Int} : OpD K (rI0 fun i j => .int (g i j)) (.fr (.int i)) (.fr (.int j)) δ (.fr (.int (g i j))) := fun E F H σ x y Q e h1 h2 q => by
  cases h1
  cases h2
  exact ⟨i, j, rfl, rfl, q _ F H (Alloc.refl e.ex) (.int _) trivial⟩
theorem od_I0b {g : Int → Int → Bool} {i j : Int} : OpD K (rI0 fun i j => .bl (g i j)) (.fr (.int i)) (.fr (.int j)) δ (.fr (.bool (g i j))) := fun E F H σ x y Q e h1 h2 q => by
  cases h1
  cases h2
  exact ⟨i, j, rfl, rfl, q _ F H (Alloc.refl e.ex) (.bl _) trivial⟩
theorem od_I {C : Int → Int → Prop} {g : Int → Int → Int} {i j : Int} (hc : C i j) : OpD K (rI C fun i j => .int (g i j)) (.fr (.int i)) (.fr (.int j)) δ (.fr (.int (g i j))) := fun E F H σ x y Q e h1 h2 q => by
  cases h1
  cases h2
  exact ⟨i, j, rfl, rfl, hc, q _ F H (Alloc.refl e.ex) (.int _) trivial⟩
theorem ud_I {g : Int → Int} {i : Int} : UnD K (rU fun i => .int (g i)) (.fr (.int i)) δ (.fr (.int (g i))) := fun E F H σ x Q e h1 q => by
  cases h1
  exact ⟨i, rfl, q _ F H (Alloc.refl e.ex) (.int _) trivial⟩
/-- the truth of bools in arithmetic: (a > b) - (a < b) -/
def rSubB : R2 := fun x y H Q => ∃ a b : Bool, x = .bl a ∧ y = .bl b ∧ Q (.int (b2i a - b2i b)) H
theorem od_orL {f g : R2} (h : OpD K f r1 r2 δ r) : OpD K (fun x y H Q => f x y H Q ∨ g x y H Q) r1 r2 δ r := fun E F H σ x y Q e h1 h2 q => .inl (h E F H σ x y Q e h1 h2 q)
theorem od_orR {f g : R2} (h : OpD K g r1 r2 δ r) : OpD K (fun x y H Q => f x y H Q ∨ g x y H Q) r1 r2 δ r := fun E F H σ x y Q e h1 h2 q => .inr (h E F H σ x y Q e h1 h2 q)
theorem od_addI {i j : Int} : OpD K (rAddU K) (.fr (.int i)) (.fr (.int j)) δ (.fr (.int (i + j))) := od_orL (od_I0 (g := fun i j => i + j))
theorem od_mulI {i j : Int} (h : CMulB i j) : OpD K (rMulU K) (.fr (.int i)) (.fr (.int j)) δ (.fr (.int (i * j))) := od_orL (od_I (g := fun i j => i * j) h)

/-- data, as they are to be read -/
def rD (δ : List Sl) : R → Option D
  | .fr d => some d
  | .new (.L ds) => some (.list ds)
  | .new _ => none
  | .al i => match δ[i]? with
    | some (.ob _ (.L ds)) => some (.list ds)
    | _ => none
theorem rD_ok {E F H : Hp} {σ : List (Option V)} {v : V} (e : EnvOk K E F H δ σ) (h : RepR K F H δ σ r v) (hd : rD δ r = some d) : Dp K H v d := by
  cases r with
  | fr d' =>
    cases hd
    exact dp_mono e.ex h
  | new o =>
    cases o with
    | L ds =>
      cases hd
      obtain ⟨p, ho, rfl, _, h2, ⟨vs, rfl, h3⟩, _⟩ := h
      exact .lst (.inl (.inl h2)) (dpa_mono e.ex h3)
    | K kvs => cases hd
  | al i =>
    obtain ⟨h1, b, o, h2⟩ := h
    unfold rD at hd
    simp only [h2] at hd
    cases o with
    | L ds =>
      cases hd
      obtain ⟨p, ho, w1, _, w3, ⟨vs, rfl, w4⟩, _⟩ := e.ob i b _ h2
      rw [h1] at w1
      cases w1
      exact .lst (.inl (.inl w3)) (dpa_mono e.ex w4)
    | K kvs => cases hd
/-- a row of data: a tuple (true), a list -/
def rS (δ : List Sl) : R → Option (Bool × List D)
  | .fr (.tuple ds) => some (true, ds)
  | .fr (.list ds) => some (false, ds)
  | .new (.L ds) => some (false, ds)
  | .al i => match δ[i]? with
    | some (.ob _ (.L ds)) => some (false, ds)
    | _ => none
  | _ => none
theorem rS_ok {E F H : Hp} {σ : List (Option V)} {v : V} {t : Bool} (e : EnvOk K E F H δ σ) (h : RepR K F H δ σ r v) (hd : rS δ r = some (t, ds)) : ∃ p vs, v = .ref p ∧ (t = false → SqL K H p vs) ∧ (t = true → SqT K H p vs) ∧ DpAll K F vs ds := by
  cases r with
  | fr d' =>
    cases d' with
    | tuple xs =>
      cases hd
      cases h with
      | tup hs ha => exact ⟨_, _, rfl, (fun z => nomatch z), (fun _ => ex_t e.ex hs), ha⟩
    | list xs =>
      cases hd
      cases h with
      | lst hs ha => exact ⟨_, _, rfl, (fun _ => ex_l e.ex hs), (fun z => nomatch z), ha⟩
    | none => cases hd
    | bool b => cases hd
    | int b => cases hd
    | str b => cases hd
    | dict b => cases hd
  | new o =>
    cases o with
    | L ds =>
      cases hd
      obtain ⟨p, ho, rfl, _, h2, ⟨vs, rfl, h3⟩, _⟩ := h
      exact ⟨p, vs, rfl, (fun _ => .inl (.inl h2)), (fun z => nomatch z), h3⟩
    | K kvs => cases hd
  | al i =>
    obtain ⟨h1, b, o, h2⟩ := h
    unfold rS at hd
    simp only [h2] at hd
    cases o with
    | L ds =>
      cases hd
      obtain ⟨p, ho, w1, _, w3, ⟨vs, rfl, w4⟩, _⟩ := e.ob i b _ h2
      rw [h1] at w1
      cases w1
      exact ⟨p, vs, rfl, (fun _ => .inl (.inl w3)), (fun z => nomatch z), w4⟩
    | K kvs => cases hd
/-- == and != of data -/
theorem od_eq (h1 : rD δ r1 = some d1) (h2 : rD δ r2 = some d2) (s1 : SeqAt.shaped d1 = true) (s2 : SeqAt.shaped d2 = true) : OpD K (rEqD K) r1 r2 δ (.fr (.bool (PyData.eqv d1 d2))) := fun E F H σ x y Q e x1 x2 q =>
  ⟨d1, d2, rD_ok e x1 h1, rD_ok e x2 h2, s1, s2, q _ F H (Alloc.refl e.ex) (.bl _) trivial⟩
theorem od_ne (h1 : rD δ r1 = some d1) (h2 : rD δ r2 = some d2) (s1 : SeqAt.shaped d1 = true) (s2 : SeqAt.shaped d2 = true) : OpD K (rNeD K) r1 r2 δ (.fr (.bool (!PyData.eqv d1 d2))) := fun E F H σ x y Q e x1 x2 q =>
  ⟨d1, d2, rD_ok e x1 h1, rD_ok e x2 h2, s1, s2, q _ F H (Alloc.refl e.ex) (.bl _) trivial⟩
/-- xs[i] -/
theorem atI_map {ds : List D} {vs : List V} {F : Hp} {i : Int} (h : DpAll K F vs ds) (hd : atI ds i = some d) : ∃ v, atI vs i = some v ∧ Dp K F v d := by
  unfold atI at hd ⊢
  rw [h.length]
  cases q : ixN ds.length i with
  | none =>
    rw [q] at hd
    cases hd
  | some j =>
    rw [q] at hd
    obtain ⟨v, h1, h2⟩ := h.get (i := j) hd
    exact ⟨v, h1, h2⟩
theorem od_ix {i : Int} {t : Bool} (h1 : rS δ r = some (t, ds)) (h2 : atI ds i = some d) : OpD K (rIx K) r (.fr (.int i)) δ (.fr d) := fun E F H σ x y Q e x1 x2 q => by
  cases x2
  obtain ⟨p, vs, rfl, hl, ht, ha⟩ := rS_ok e x1 h1
  obtain ⟨v, w1, w2⟩ := atI_map ha h2
  cases t with
  | false => exact .inl ⟨p, vs, i, v, rfl, rfl, hl rfl, w1, q v F H (Alloc.refl e.ex) w2 trivial⟩
  | true => exact .inr (.inl ⟨p, vs, i, v, rfl, rfl, ht rfl, w1, q v F H (Alloc.refl e.ex) w2 trivial⟩)
theorem od_ixS {i : Int} {z : Str} {c : Nat} (hz : z.length ≤ sizeLine) (h2 : atI z.cps.toList i = some c) : OpD K (rIx K) (.fr (.str z)) (.fr (.int i)) δ (.fr (.str ⟨#[c]⟩)) := fun E F H σ x y Q e x1 x2 q => by
  cases x1
  cases x2
  exact .inr (.inr ⟨z, i, c, rfl, rfl, hz, h2, q _ F H (Alloc.refl e.ex) (.str _) trivial⟩)
theorem DpAll.nil_iff {F : Hp} {vs : List V} {ds : List D} (h : DpAll K F vs ds) : vs = [] ↔ ds = [] := by
  cases h with
  | nil => exact ⟨fun _ => rfl, fun _ => rfl⟩
  | cons _ _ => exact ⟨(fun z => nomatch z), (fun z => nomatch z)⟩
/-- tuple + tuple -/
theorem od_catT {as bs : List D} (hz : as.length + bs.length ≤ sizeLine) : OpD K (rAddU K) (.fr (.tuple as)) (.fr (.tuple bs)) δ (.fr (.tuple (as ++ bs))) := fun E F H σ x y Q e x1 x2 q => by
  cases x1 with
  | @tup a xs _ hs ha =>
    cases x2 with
    | @tup b ys _ hs2 hb =>
      refine .inr (.inr (.inl ⟨a, b, xs, ys, rfl, rfl, ex_t e.ex hs, ex_t e.ex hs2, by rw [ha.length, hb.length]; exact hz, fun h0 => ?_, fun h0 h1 => ?_, fun h0 h1 p hp => ?_⟩))
      · rw [DpAll.nil_iff ha] at h0
        subst h0
        exact q _ F H (Alloc.refl e.ex) (.tup hs2 hb) trivial
      · rw [DpAll.nil_iff hb] at h1
        subst h1
        rw [List.append_nil] at q
        exact q _ F H (Alloc.refl e.ex) (.tup hs ha) trivial
      · have al := Alloc.new (o := .tup (xs ++ ys)) e.ex hp
        exact q _ _ _ al (.tup (.inl (.inl upd_same)) (dpa_mono al.f (ha.append hb))) trivial
/-- a new list + a new list (or a name's own) -/
def isL (δ : List Sl) : R → Option (List D)
  | .new (.L ds) => some ds
  | .al i => match δ[i]? with
    | some (.ob _ (.L ds)) => some ds
    | _ => none
  | _ => none
theorem isL_ok {E F H : Hp} {σ : List (Option V)} {v : V} (e : EnvOk K E F H δ σ) (h : RepR K F H δ σ r v) (hd : isL δ r = some ds) : ∃ p vs, v = .ref p ∧ H p = some (.lst vs) ∧ DpAll K F vs ds := by
  cases r with
  | fr d => cases hd
  | new o =>
    cases o with
    | L ds =>
      cases hd
      obtain ⟨p, ho, rfl, _, h2, ⟨vs, rfl, h3⟩, _⟩ := h
      exact ⟨p, vs, rfl, h2, h3⟩
    | K kvs => cases hd
  | al i =>
    obtain ⟨h1, b, o, h2⟩ := h
    unfold isL at hd
    simp only [h2] at hd
    cases o with
    | L ds =>
      cases hd
      obtain ⟨p, ho, w1, _, w3, ⟨vs, rfl, w4⟩, _⟩ := e.ob i b _ h2
      rw [h1] at w1
      cases w1
      exact ⟨p, vs, rfl, w3, w4⟩
    | K kvs => cases hd
theorem new_list {E F H : Hp} {σ : List (Option V)} {vs : List V} (e : EnvOk K E F H δ σ) (ha : DpAll K F vs ds) {p : Addr} (hp : H p = none) : RepR K F (upd H p (.lst vs)) δ σ (.new (.L ds)) (.ref p) ∧ Fresh H (.new (.L ds)) (.ref p) := by
  refine ⟨⟨p, _, rfl, nn_ex e.ex hp, upd_same, ⟨vs, rfl, ha⟩, fun z => ?_⟩, fun q e0 => ?_⟩
  · obtain ⟨_, ho, h2⟩ := e.hotF z
    rw [hp] at h2
    cases h2
  · cases e0
    exact hp
theorem od_catL {as bs : List D} (h1 : isL δ r1 = some as) (h2 : isL δ r2 = some bs) (hz : as.length + bs.length ≤ sizeLine) : OpD K (rAddU K) r1 r2 δ (.new (.L (as ++ bs))) := fun E F H σ x y Q e x1 x2 q => by
  obtain ⟨p, vs, rfl, w1, w2⟩ := isL_ok e x1 h1
  obtain ⟨p', us, rfl, w3, w4⟩ := isL_ok e x2 h2
  refine .inr (.inl ⟨p, p', vs, us, rfl, rfl, w1, w3, by rw [w2.length, w4.length]; exact hz, fun l hl => ?_⟩)
  obtain ⟨n1, n2⟩ := new_list e (w2.append w4) hl
  exact q _ F _ (Alloc.own e.ex hl) n1 n2
theorem od_catS {a b : Str} (hz : a.length + b.length ≤ sizeLine) : OpD K (rAddU K) (.fr (.str a)) (.fr (.str b)) δ (.fr (.str (a ++ b))) := fun E F H σ x y Q e x1 x2 q => by
  cases x1
  cases x2
  exact .inr (.inr (.inr ⟨a, b, rfl, rfl, hz, q _ F H (Alloc.refl e.ex) (.str _) trivial⟩))
/-- displays -/
def frs? : List R → Option (List D)
  | [] => some []
  | .fr d :: rs => (frs? rs).map (d :: ·)
  | _ => none
theorem frs_ok {F H : Hp} {σ : List (Option V)} : ∀ {rs : List R} {ds : List D} {vs : List V}, RepRs K F H δ σ rs vs → frs? rs = some ds → DpAll K F vs ds
  | [], ds, _, .nil, h => by
    cases h
    exact .nil
  | r :: rs, ds, _, .cons h1 h2 _, h => by
    cases r with
    | fr d =>
      cases q : frs? rs with
      | none => simp [frs?, q] at h
      | some ds' =>
        simp only [frs?, q, Option.map_some, Option.some.injEq] at h
        subst h
        exact .cons h1 (frs_ok h2 q)
    | new o => cases h
    | al i => cases h
theorem ev_tup {t : TA} {rs : List R} {δ1 : List Sl} (h : EvA K t δ rs δ1) (hd : frs? rs = some ds) (hz : ds.length ≤ sizeLine := by decide) : EvJ K (tTup t) δ (.fr (.tuple ds)) δ1 := ⟨h.1, fun E F H σ Q e q => h.2 E F H σ _ e fun vs F1 H1 e1 g1 hr _ => by
  have ha := frs_ok hr hd
  refine ⟨by rw [ha.length]; exact hz, fun p hp => ?_⟩
  have al := Alloc.new (o := .tup vs) e1.ex hp
  exact q _ _ _ (al.env e1) (g1.trans al.grow) (.tup (.inl (.inl upd_same)) (dpa_mono al.f ha)) trivial⟩
theorem ev_lst {t : TA} {rs : List R} {δ1 : List Sl} (h : EvA K t δ rs δ1) (hd : frs? rs = some ds) (hz : ds.length ≤ sizeLine := by decide) : EvJ K (tLst t) δ (.new (.L ds)) δ1 := ⟨h.1, fun E F H σ Q e q => h.2 E F H σ _ e fun vs F1 H1 e1 g1 hr _ => by
  have ha := frs_ok hr hd
  refine ⟨by rw [ha.length]; exact hz, fun p hp => ?_⟩
  have al := Alloc.own (o := .lst vs) e1.ex hp
  obtain ⟨n1, n2⟩ := new_list e1 ha hp
  exact q _ _ _ (al.env e1) (g1.trans al.grow) n1 (n2.back g1.dm)⟩
/-- calls of built-ins -/
theorem cd1 {f : List V → Hp → VK → Prop} {r' : R} (h : ∀ (E F H : Hp) (σ : List (Option V)) (v : V) (Q : VK), EnvOk K E F H δ σ → RepR K F H δ σ r v → (∀ w F2 H2, Alloc F H F2 H2 → RepR K F2 H2 δ σ r' w → Fresh H r' w → Q w H2) → f [v] H Q) : CaD K f [r] δ r' := fun E F H σ vs Q e hr q => by
  cases hr with
  | cons h1 h2 _ =>
    cases h2
    exact h E F H σ _ Q e h1 q
theorem cd_len {t : Bool} (h : rS δ r = some (t, ds)) : CaD K (rLenU K) [r] δ (.fr (.int (ds.length : Int))) := cd1 fun E F H σ v Q e x q => by
  obtain ⟨p, vs, rfl, hl, ht, ha⟩ := rS_ok e x h
  rw [← ha.length] at q
  cases t with
  | false => exact .inl ⟨p, vs, rfl, .inl (hl rfl), q _ F H (Alloc.refl e.ex) (.int _) trivial⟩
  | true => exact .inl ⟨p, vs, rfl, .inr (ht rfl), q _ F H (Alloc.refl e.ex) (.int _) trivial⟩
theorem cd_lenS {z : Str} (hz : z.length ≤ sizeLine) : CaD K (rLenU K) [.fr (.str z)] δ (.fr (.int (z.length : Int))) := cd1 fun E F H σ v Q e x q => by
  cases x
  exact .inr (.inl ⟨z, rfl, hz, q _ F H (Alloc.refl e.ex) (.int _) trivial⟩)
theorem cd_tup (h : rS δ r = some (false, ds)) : CaD K (rTupU K) [r] δ (.fr (.tuple ds)) := cd1 fun E F H σ v Q e x q => by
  obtain ⟨p, vs, rfl, hl, ht, ha⟩ := rS_ok e x h
  refine ⟨p, vs, rfl, .inl ⟨hl rfl, fun l hp => ?_⟩⟩
  have al := Alloc.new (o := .tup vs) e.ex hp
  exact q _ _ _ al (.tup (.inl (.inl upd_same)) (dpa_mono al.f ha)) trivial
theorem cd_lst {t : Bool} (h : rS δ r = some (t, ds)) : CaD K (rLstU K) [r] δ (.new (.L ds)) := cd1 fun E F H σ v Q e x q => by
  obtain ⟨p, vs, rfl, hl, ht, ha⟩ := rS_ok e x h
  refine ⟨p, vs, rfl, ?_, fun l hp => ?_⟩
  · cases t with
    | false => exact .inl (hl rfl)
    | true => exact .inr (ht rfl)
  · obtain ⟨n1, n2⟩ := new_list e ha hp
    exact q _ F _ (Alloc.own e.ex hp) n1 n2
theorem cd_abs {i : Int} : CaD K rAbs [.fr (.int i)] δ (.fr (.int (i.natAbs : Int))) := cd1 fun E F H σ v Q e x q => by
  cases x
  have e0 : ((i.natAbs : Nat) : Int) = if i < 0 then -i else i := by split <;> omega
  rw [e0] at q
  exact ⟨i, rfl, q _ F H (Alloc.refl e.ex) (.int _) trivial⟩
theorem cd_int {i : Int} : CaD K rInt1 [.fr (.int i)] δ (.fr (.int i)) := cd1 fun E F H σ v Q e x q => by
  cases x
  exact .inl ⟨i, rfl, q _ F H (Alloc.refl e.ex) (.int _) trivial⟩
theorem cd_intB {b : Bool} : CaD K rInt1 [.fr (.bool b)] δ (.fr (.int (if b then 1 else 0))) := cd1 fun E F H σ v Q e x q => by
  cases x
  exact .inr ⟨b, rfl, q _ F H (Alloc.refl e.ex) (.int _) trivial⟩
theorem cd_gcd {a b : Int} : CaD K rGcd [.fr (.int a), .fr (.int b)] δ (.fr (.int ((Nat.gcd a.natAbs b.natAbs : Nat) : Int))) := fun E F H σ vs Q e hr q => by
  cases hr with
  | cons h1 h2 _ =>
    cases h2 with
    | cons h2 h3 _ =>
      cases h3
      cases h1
      cases h2
      exact ⟨a, b, rfl, q _ F H (Alloc.refl e.ex) (.int _) trivial⟩
theorem DpAll.bools {F : Hp} : ∀ {bs : List Bool} {vs : List V}, DpAll K F vs (bs.map PyData.bool) → vs = bs.map V.bl
  | [], _, h => by
    cases h
    rfl
  | b :: bs, _, h => by
    cases h with
    | cons h1 h2 =>
      cases h1
      rw [DpAll.bools h2]
      rfl
theorem DpAll.ints {F : Hp} : ∀ {bs : List Int} {vs : List V}, DpAll K F vs (bs.map PyData.int) → vs = bs.map V.int
  | [], _, h => by
    cases h
    rfl
  | b :: bs, _, h => by
    cases h with
    | cons h1 h2 =>
      cases h1
      rw [DpAll.ints h2]
      rfl
theorem cd_all {bs : List Bool} (h : rS δ r = some (false, bs.map PyData.bool)) : CaD K (rAll K) [r] δ (.fr (.bool (bs.all id))) := cd1 fun E F H σ v Q e x q => by
  obtain ⟨p, vs, rfl, hl, ht, ha⟩ := rS_ok e x h
  have e0 := DpAll.bools ha
  subst e0
  exact ⟨p, bs, rfl, hl rfl, q _ F H (Alloc.refl e.ex) (.bl _) trivial⟩
theorem cd_any {bs : List Bool} (h : rS δ r = some (false, bs.map PyData.bool)) : CaD K (rAny K) [r] δ (.fr (.bool (bs.any id))) := cd1 fun E F H σ v Q e x q => by
  obtain ⟨p, vs, rfl, hl, ht, ha⟩ := rS_ok e x h
  have e0 := DpAll.bools ha
  subst e0
  exact ⟨p, bs, rfl, hl rfl, q _ F H (Alloc.refl e.ex) (.bl _) trivial⟩
theorem cd_sum {bs : List Int} (h : rS δ r = some (false, bs.map PyData.int)) : CaD K (rSum K) [r] δ (.fr (.int bs.sum)) := cd1 fun E F H σ v Q e x q => by
  obtain ⟨p, vs, rfl, hl, ht, ha⟩ := rS_ok e x h
  have e0 := DpAll.ints ha
  subst e0
  exact ⟨p, bs, rfl, hl rfl, q _ F H (Alloc.refl e.ex) (.int _) trivial⟩
/-- isinstance: the kinds of data -/
def tyD : D → String
  | .none => "NoneType"
  | .bool _ => "bool"
  | .int _ => "int"
  | .str _ => "str"
  | .list _ => "list"
  | .tuple _ => "tuple"
  | .dict _ => "dict"
theorem tyX_of {H : Hp} {v : V} (h : Dp K H v d) : TyX K H v (.type (tyD d)) := by
  cases h with
  | non => exact .base .non
  | bl b => exact .base (.bl b)
  | int i => exact .base (.int i)
  | str x => exact .base (.str x)
  | lst hs _ =>
    rcases hs with (h | ⟨o, h⟩) | ⟨o, its, n, h1, h2, _⟩
    · exact .base (.lst h)
    · exact .base (.frz h)
    · exact .kList h1 h2
  | tup hs _ =>
    rcases hs with (h | ⟨o, h⟩) | ⟨o, its, n, h1, h2, _⟩
    · exact .base (.tup h)
    · exact .fTuple h
    · exact .kTuple h1 h2
/-- isinstance(e, T), T a built-in class -/
theorem ev_isi {te : TE} {n : String} {b : Bool} {δ1 : List Sl} (h : EvJ K te δ r δ1) (hd : rD δ1 r = some d) (hn : kitB (tyD d) n = some b) : EvJ K (tCB (rIsi K) (tCons te (tCons (tC (.ty n)) tNil))) δ (.fr (.bool b)) δ1 := ⟨h.1, fun E F H σ Q e q => h.2 E F H σ _ e fun v F1 H1 e1 g1 hr _ => by
  exact ⟨v, .ty n, .type (tyD d), .type n, b, rfl, .ty n, tyX_of (rD_ok e1 hr hd), kit_ty hn, q _ F1 H1 e1 g1 (.bl _) trivial⟩⟩
end

/-! ### a list is grown, changed -/
section
variable {K : PySem.W.Frag} {E F H : Hp} {δ δ1 δ2 δ3 : List Sl} {σ : List (Option V)} {to te ti : TE} {d : D} {ds : List D} {i : Nat} {b : Bool} {o o' : O}
/-- the object of a name is changed in its place -/
theorem EnvOk.mut {p : Addr} {ho' : HO} (e : EnvOk K E F H δ σ) (hi : δ[i]? = some (.ob b o)) (hs : σ[i]? = some (some (.ref p))) (h' : RepO K F o' ho') : EnvOk K E F (upd H p ho') (δ.set i (.ob b o')) σ := by
  obtain ⟨p0, ho, w1, w2, w3, w4, w5⟩ := e.ob i b o hi
  rw [hs] at w1
  cases w1
  refine ⟨fun a u h => ?_, fun a h => ?_, by rw [List.length_set]; exact e.len, fun j d' hj => ?_, fun j b' o1 hj => ?_, fun j k b1 o1 b2 o2 q hj hk h1 h2 => ?_⟩
  · rw [upd_ne (ne_of_none h w2)]
    exact e.ex a u h
  · by_cases ha : a = p
    · rw [ha, upd_same] at h
      cases h
    · rw [upd_ne ha] at h
      exact e.dom a h
  · rcases getset hj with ⟨_, e1, _⟩ | ⟨_, hj⟩
    · cases e1
    · exact e.fr j d' hj
  · rcases getset hj with ⟨rfl, e1, _⟩ | ⟨hn, hj⟩
    · cases e1
      exact ⟨p, ho', hs, w2, upd_same, h', w5⟩
    · obtain ⟨p1, ho1, x1, x2, x3, x4⟩ := e.ob j b' o1 hj
      refine ⟨p1, ho1, x1, x2, ?_, x4⟩
      rw [upd_ne fun z => hn (e.dj j i b' o1 b o p hj hi (by rw [← z]; exact x1) hs)]
      exact x3
  · have old : ∀ {j : Nat} {b1 : Bool} {o1 : O}, (δ.set i (.ob b o'))[j]? = some (.ob b1 o1) → ∃ b0 o0, δ[j]? = some (.ob b0 o0) := fun {j b1 o1} hj => by
      rcases getset hj with ⟨ej, _, _⟩ | ⟨_, hj⟩
      · exact ⟨b, o, by rw [ej]; exact hi⟩
      · exact ⟨_, _, hj⟩
    obtain ⟨_, _, q1⟩ := old hj
    obtain ⟨_, _, q2⟩ := old hk
    exact e.dj j k _ _ _ _ q q1 q2 h1 h2
theorem Grow.mut {p : Addr} {ho' : HO} (e : EnvOk K E F H δ σ) (hi : δ[i]? = some (.ob b o)) (hs : σ[i]? = some (some (.ref p))) : Grow F H δ σ F (upd H p ho') (δ.set i (.ob b o')) σ := by
  obtain ⟨p0, ho, w1, w2, w3, w4, w5⟩ := e.ob i b o hi
  rw [hs] at w1
  cases w1
  have hot : Hot δ σ p := ⟨i, b, o, hi, hs⟩
  refine ⟨Ex.refl F, fun _ _ _ => rfl, fun a u h hn => ?_, fun a ⟨j, b1, o1, h1, h2⟩ => ?_, fun a h => ?_, fun j o1 hj => ?_⟩
  · rw [upd_ne fun z => hn (by rw [z]; exact hot)]
    exact h
  · rcases getset h1 with ⟨ej, _, _⟩ | ⟨_, h1⟩
    · exact .inl ⟨i, b, o, hi, by rw [← ej]; exact h2⟩
    · exact .inl ⟨j, b1, o1, h1, h2⟩
  · by_cases ha : a = p
    · rw [ha, upd_same] at h
      cases h
    · rw [upd_ne ha] at h
      exact h
  · by_cases ej : j = i
    · subst ej
      rw [hi] at hj
      cases hj
      exact ⟨⟨o', List.getElem?_set_self (List.getElem?_eq_some_iff.mp hi).1⟩, rfl⟩
    · exact ⟨⟨o1, by rw [List.getElem?_set_ne (Ne.symm ej)]; exact hj⟩, rfl⟩
theorem sameK_set (hi : δ[i]? = some (.ob b o)) : SameK δ (δ.set i (.ob b o')) := by
  have h := setO_same (δ := δ) (i := i) (o := o')
  unfold setO at h
  rw [hi] at h
  exact h
theorem RepR.al_ref {v : V} (e : EnvOk K E F H δ σ) (hi : δ[i]? = some (.ob b o)) (h : RepR K F H δ σ (.al i) v) : ∃ p ho, v = .ref p ∧ σ[i]? = some (some (.ref p)) ∧ F p = none ∧ H p = some ho ∧ RepO K F o ho := by
  obtain ⟨p, ho, w1, w2, w3, w4, _⟩ := e.ob i b o hi
  obtain ⟨h1, _⟩ := h
  rw [h1] at w1
  cases w1
  exact ⟨p, ho, rfl, h1, w2, w3, w4⟩
/-- xs.append(e) -/
theorem ev_append {ds0 : List D} (ho : EvJ K to δ (.al i) δ1) (h0 : δ1[i]? = some (.ob b (.L ds0))) (he : EvJ K te δ1 (.fr d) δ2) (hi : δ2[i]? = some (.ob b (.L ds))) (hz : ds.length < sizeLine) : EvJ K (tBM K "list" rAppend to (tCons te tNil)) δ (.fr .none) (δ2.set i (.ob b (.L (ds ++ [d])))) :=
  ⟨(ho.1.trans he.1).trans (sameK_set hi), fun E F H σ Q e q => ho.2 E F H σ _ e fun v F1 H1 e1 g1 h1 _ => by
    obtain ⟨p, ho1, rfl, w1, w2, w3, vs, rfl, _⟩ := h1.al_ref e1 h0
    refine ⟨.inl ⟨rfl, vs, .inl (.inl w3)⟩, he.2 E F1 H1 σ _ e1 fun u F2 H2 e2 g2 h2 _ => ?_⟩
    obtain ⟨p2, ho2, x1, x2, x3, ⟨us, rfl, x4⟩, _⟩ := e2.ob i b _ hi
    rw [w1] at x1
    cases x1
    have hr : RepO K F2 (.L (ds ++ [d])) (.lst (us ++ [u])) := ⟨_, rfl, x4.append (.cons h2 .nil)⟩
    exact ⟨p, us, u, rfl, rfl, x3, by rw [x4.length]; exact hz, q _ F2 _ (e2.mut hi w1 hr) ((g1.trans g2).trans (Grow.mut e2 hi w1)) .non trivial⟩⟩
/-- xs.extend(e), e a new list -/
theorem ev_extend {ds0 es : List D} {r : R} (ho : EvJ K to δ (.al i) δ1) (h0 : δ1[i]? = some (.ob b (.L ds0))) (he : EvJ K te δ1 r δ2) (hr : isL δ2 r = some es) (hi : δ2[i]? = some (.ob b (.L ds))) (hz : ds.length + es.length ≤ sizeLine) : EvJ K (tBM K "list" rExtend to (tCons te tNil)) δ (.fr .none) (δ2.set i (.ob b (.L (ds ++ es)))) :=
  ⟨(ho.1.trans he.1).trans (sameK_set hi), fun E F H σ Q e q => ho.2 E F H σ _ e fun v F1 H1 e1 g1 h1 _ => by
    obtain ⟨p, ho1, rfl, w1, w2, w3, vs, rfl, _⟩ := h1.al_ref e1 h0
    refine ⟨.inl ⟨rfl, vs, .inl (.inl w3)⟩, he.2 E F1 H1 σ _ e1 fun u F2 H2 e2 g2 h2 _ => ?_⟩
    obtain ⟨p2, ho2, x1, x2, x3, ⟨us, rfl, x4⟩, _⟩ := e2.ob i b _ hi
    rw [w1] at x1
    cases x1
    obtain ⟨p3, ws, rfl, y1, y2⟩ := isL_ok e2 h2 hr
    have hro : RepO K F2 (.L (ds ++ es)) (.lst (us ++ ws)) := ⟨_, rfl, x4.append y2⟩
    exact ⟨p, p3, us, ws, rfl, rfl, x3, y1, by rw [x4.length, y2.length]; exact hz, q _ F2 _ (e2.mut hi w1 hro) ((g1.trans g2).trans (Grow.mut e2 hi w1)) .non trivial⟩⟩
/-- xs[k] = e -/
theorem st_setL {k : Int} {j : Nat} {δ4 : List Sl} (he : EvJ K te δ (.fr d) δ1) (ho : EvJ K to δ1 (.al i) δ2) (hk : EvJ K ti δ2 (.fr (.int k)) δ3) (hi : δ3[i]? = some (.ob b (.L ds))) (hj : ixN ds.length k = some j) : StJ K (tAsg te (gSub to ti rSetL)) δ (.nx (δ3.set i (.ob b (.L (ds.set j d))))) := fun E F H σ D e s =>
  he.2 E F H σ _ e fun v F1 H1 e1 g1 h1 _ => ho.2 E F1 H1 σ _ e1 fun x F2 H2 e2 g2 h2 _ => hk.2 E F2 H2 σ _ e2 fun y F3 H3 e3 g3 h3 _ => by
    have h2' := h2.keep g3 hk.1
    have h1' := (RepR.keep (r := .fr d) g2 ho.1 h1).keep (r := .fr d) g3 hk.1
    cases h3
    obtain ⟨p, ho1, rfl, w1, w2, w3, vs, rfl, w4⟩ := h2'.al_ref e3 hi
    have hr : RepO K F3 (.L (ds.set j d)) (.lst (vs.set j v)) := ⟨_, rfl, w4.set h1' j⟩
    exact ⟨p, vs, k, j, rfl, rfl, w3, by rw [w4.length]; exact hj, s σ F3 _ (e3.mut hi w1 hr) (((g1.trans g2).trans g3).trans (Grow.mut e3 hi w1))⟩
/-! ### dicts by written keys -/
def keyD : Key → D
  | .inl i => .int i
  | .inr x => .str x
theorem keyD_v {k : Key} {v : V} {F : Hp} (h : Dp K F v (keyD k)) : v = kV k := by
  cases k with
  | inl i =>
    cases h
    rfl
  | inr x =>
    cases h
    rfl
theorem kd_get {κ : Type} [DecidableEq κ] {F : Hp} {ws : List (κ × V)} {kvs : List (κ × D)} (h : KD K F ws kvs) {k : κ} (hd : kdGet kvs k = some d) : ∃ v, valV ws k = some v ∧ Dp K F v d := by
  induction h with
  | nil => cases hd
  | @cons k' v' d' _ _ h1 _ ih =>
    unfold kdGet at hd
    by_cases hk : k' = k
    · rw [if_pos hk] at hd
      cases hd
      exact ⟨v', valV_pos hk, h1⟩
    · rw [if_neg hk] at hd
      rw [valV_neg (p := (k', v')) hk]
      exact ih hd
theorem kd_none {κ : Type} [DecidableEq κ] {F : Hp} {ws : List (κ × V)} {kvs : List (κ × D)} (h : KD K F ws kvs) {k : κ} (hd : kdGet kvs k = none) : valV ws k = none := by
  induction h with
  | nil => rfl
  | @cons k' v' d' _ _ h1 _ ih =>
    unfold kdGet at hd
    by_cases hk : k' = k
    · rw [if_pos hk] at hd
      cases hd
    · rw [if_neg hk] at hd
      rw [valV_neg (p := (k', v')) hk]
      exact ih hd
theorem KD.keys {κ : Type} {F : Hp} {ws : List (κ × V)} {kvs : List (κ × D)} (h : KD K F ws kvs) : ws.map (·.1) = kvs.map (·.1) := by
  induction h with
  | nil => rfl
  | cons _ _ ih => rw [List.map_cons, List.map_cons, ih]
theorem KD.len {κ : Type} {F : Hp} {ws : List (κ × V)} {kvs : List (κ × D)} (h : KD K F ws kvs) : ws.length = kvs.length := by
  have e := congrArg List.length h.keys
  rw [List.length_map, List.length_map] at e
  exact e
/-- the pairs with one put, told by recursion -/
def putR {κ : Type} [DecidableEq κ] : List (κ × V) → κ → V → List (κ × V)
  | [], k, v => [(k, v)]
  | (k', v') :: r, k, v => if k' = k then (k', v) :: r else (k', v') :: putR r k v
theorem putR_notin {κ : Type} [DecidableEq κ] {k : κ} {v : V} : ∀ {ws : List (κ × V)}, k ∉ ws.map (·.1) → putR ws k v = ws ++ [(k, v)]
  | [], _ => rfl
  | (k', v') :: r, h => by
    rw [List.map_cons, List.mem_cons, not_or] at h
    unfold putR
    rw [if_neg (fun e => h.1 e.symm), putR_notin h.2]
    rfl
theorem map_id_notin {κ : Type} [DecidableEq κ] {k : κ} {v : V} : ∀ {ws : List (κ × V)}, k ∉ ws.map (·.1) → ws.map (fun kv => if kv.1 = k then (kv.1, v) else kv) = ws
  | [], _ => rfl
  | (k', v') :: r, h => by
    rw [List.map_cons, List.mem_cons, not_or] at h
    rw [List.map_cons, map_id_notin h.2]
    show (if k' = k then (k', v) else (k', v')) :: r = _
    rw [if_neg (fun e => h.1 e.symm)]
theorem map_in {κ : Type} [DecidableEq κ] {k : κ} {v : V} : ∀ {ws : List (κ × V)}, (ws.map (·.1)).Nodup → k ∈ ws.map (·.1) → ws.map (fun kv => if kv.1 = k then (kv.1, v) else kv) = putR ws k v
  | [], _, h => by cases h
  | (k', v') :: r, hn, h => by
    rw [List.map_cons, List.nodup_cons] at hn
    rw [List.map_cons]
    show (if k' = k then (k', v) else (k', v')) :: r.map _ = if k' = k then (k', v) :: r else (k', v') :: putR r k v
    by_cases hk : k' = k
    · subst hk
      rw [if_pos rfl, if_pos rfl, map_id_notin hn.1]
    · rw [if_neg hk, if_neg hk]
      rw [List.map_cons, List.mem_cons] at h
      rcases h with h | h
      · exact absurd h.symm hk
      · rw [map_in hn.2 h]
theorem putK_eq {κ : Type} [DecidableEq κ] {k : κ} {v : V} {ws : List (κ × V)} (hn : (ws.map (·.1)).Nodup) : putK ws k v = putR ws k v := by
  unfold putK
  by_cases hm : k ∈ ws.map (·.1)
  · rw [if_pos (by
      obtain ⟨kv, h1, h2⟩ := List.mem_map.mp hm
      exact List.any_eq_true.mpr ⟨kv, h1, decide_eq_true h2⟩)]
    exact map_in hn hm
  · rw [if_neg (by
      intro z
      obtain ⟨kv, h1, h2⟩ := List.any_eq_true.mp z
      exact hm (List.mem_map.mpr ⟨kv, h1, of_decide_eq_true h2⟩)), putR_notin hm]
theorem putR_kd {κ : Type} [DecidableEq κ] {F : Hp} {k : κ} {v : V} (hv : Dp K F v d) {ws : List (κ × V)} {kvs : List (κ × D)} (h : KD K F ws kvs) : KD K F (putR ws k v) (kdPut kvs k d) := by
  induction h with
  | nil => exact .cons hv .nil
  | @cons k' v' d' _ _ h1 h2 ih =>
    unfold putR kdPut
    by_cases hk : k' = k
    · rw [if_pos hk, if_pos hk]
      exact .cons hv h2
    · rw [if_neg hk, if_neg hk]
      exact .cons h1 ih
theorem putR_keys {κ : Type} [DecidableEq κ] {k x : κ} {v : V} : ∀ {ws : List (κ × V)}, x ∈ (putR ws k v).map (·.1) → x = k ∨ x ∈ ws.map (·.1)
  | [], h => by
    rcases List.mem_cons.mp h with h | h
    · exact .inl h
    · cases h
  | (k', v') :: r, h => by
    unfold putR at h
    by_cases hk : k' = k
    · rw [if_pos hk] at h
      exact .inr h
    · rw [if_neg hk] at h
      rcases List.mem_cons.mp h with h | h
      · exact .inr (by rw [h]; exact List.mem_cons_self)
      · rcases putR_keys h with h | h
        · exact .inl h
        · exact .inr (List.mem_cons_of_mem _ h)
theorem putR_nodup {κ : Type} [DecidableEq κ] {k : κ} {v : V} : ∀ {ws : List (κ × V)}, (ws.map (·.1)).Nodup → ((putR ws k v).map (·.1)).Nodup
  | [], _ => by
    show [k].Nodup
    exact List.nodup_cons.mpr ⟨(fun z => nomatch z), List.nodup_nil⟩
  | (k', v') :: r, hn => by
    have hn' := hn
    rw [List.map_cons, List.nodup_cons] at hn'
    unfold putR
    by_cases hk : k' = k
    · rw [if_pos hk]
      exact hn
    · rw [if_neg hk, List.map_cons, List.nodup_cons]
      refine ⟨fun z => ?_, putR_nodup hn'.2⟩
      rcases putR_keys z with z | z
      · exact hk z
      · exact hn'.1 z
/-- d[k] -/
theorem ev_dget {td ty : TE} {kvs kvs' : List (Key × D)} {k : Key} (hd : EvJ K td δ (.al i) δ1) (hk : EvJ K ty δ1 (.fr (keyD k)) δ2) (hi : δ2[i]? = some (.ob b (.K kvs))) (hg : kdGet kvs k = some d) : EvJ K (tDGet td ty) δ (.fr d) δ2 :=
  ⟨hd.1.trans hk.1, fun E F H σ Q e q => hd.2 E F H σ _ e fun v F1 H1 e1 g1 h1 _ => hk.2 E F1 H1 σ _ e1 fun u F2 H2 e2 g2 h2 _ => by
    obtain ⟨p, ho1, rfl, w1, w2, w3, ws, rfl, hn, w4⟩ := (h1.keep g2 hk.1).al_ref e2 hi
    have hu := keyD_v h2
    subst hu
    obtain ⟨w, x1, x2⟩ := kd_get w4 hg
    exact ⟨p, w, rfl, by rw [← x1]; exact DGet.k w3, q w F2 H2 e2 (g1.trans g2) x2 trivial⟩⟩
/-- d[k] = e -/
theorem st_dput {td ty tv : TE} {kvs : List (Key × D)} {k : Key} (he : EvJ K tv δ (.fr d) δ1) (hd : EvJ K td δ1 (.al i) δ2) (hk : EvJ K ty δ2 (.fr (keyD k)) δ3) (hi : δ3[i]? = some (.ob b (.K kvs))) (hz : kvs.length < sizeLine) : StJ K (sDPut td ty tv) δ (.nx (δ3.set i (.ob b (.K (kdPut kvs k d))))) := fun E F H σ D e s =>
  he.2 E F H σ _ e fun v F1 H1 e1 g1 h1 _ => hd.2 E F1 H1 σ _ e1 fun x F2 H2 e2 g2 h2 _ => hk.2 E F2 H2 σ _ e2 fun y F3 H3 e3 g3 h3 _ => by
    have h2' := h2.keep g3 hk.1
    have h1' := (RepR.keep (r := .fr d) g2 hd.1 h1).keep (r := .fr d) g3 hk.1
    have hu := keyD_v h3
    subst hu
    obtain ⟨p, ho1, rfl, w1, w2, w3, ws, rfl, hn, w4⟩ := h2'.al_ref e3 hi
    have hr : RepO K F3 (.K (kdPut kvs k d)) (.dK (putK ws k v)) := by
      rw [putK_eq hn]
      exact ⟨_, rfl, putR_nodup hn, putR_kd h1' w4⟩
    exact ⟨p, _, rfl, DPut.k w3 (by rw [w4.len]; exact hz), s σ F3 _ (e3.mut hi w1 hr) (((g1.trans g2).trans g3).trans (Grow.mut e3 hi w1))⟩
/-- {'a': e, ..} -/
inductive PairsJ (K : PySem.W.Frag) : List (TE × TE) → List Sl → List (Key × D) → List Sl → Prop
  | nil {δ : List Sl} : PairsJ K [] δ [] δ
  | cons {tk tv : TE} {trs : List (TE × TE)} {δ δ1 δ2 δ3 : List Sl} {k : Key} {d : D} {kvs : List (Key × D)} : EvJ K tk δ (.fr (keyD k)) δ1 → EvJ K tv δ1 (.fr d) δ2 → PairsJ K trs δ2 kvs δ3 → PairsJ K ((tk, tv) :: trs) δ ((k, d) :: kvs) δ3
theorem PairsJ.same {trs : List (TE × TE)} {kvs : List (Key × D)} (h : PairsJ K trs δ kvs δ1) : SameK δ δ1 := by
  induction h with
  | nil => exact SameK.refl _
  | cons h1 h2 _ ih => exact (h1.1.trans h2.1).trans ih
theorem PairsJ.run {trs : List (TE × TE)} {kvs : List (Key × D)} (h : PairsJ K trs δ kvs δ1) : ∀ {E F H : Hp} {σ : List (Option V)} {Q : List (V × V) → Hp → Prop}, EnvOk K E F H δ σ →
    (∀ ws F2 H2, EnvOk K E F2 H2 δ1 σ → Grow F H δ σ F2 H2 δ1 σ → KD K F2 ws kvs → Q (ws.map fun kv => (kV kv.1, kv.2)) H2) → tPairs trs σ H Q := by
  induction h with
  | nil =>
    intro E F H σ Q e q
    exact q [] F H e Grow.refl .nil
  | @cons tk tv trs δ δ1 δ2 δ3 k d kvs h1 h2 h3 ih =>
    intro E F H σ Q e q
    refine h1.2 E F H σ _ e fun x F1 H1 e1 g1 r1 _ => h2.2 E F1 H1 σ _ e1 fun y F2 H2 e2 g2 r2 _ => ih e2 fun ws F3 H3 e3 g3 r3 => ?_
    have hx := keyD_v r1
    subst hx
    exact q ((k, y) :: ws) F3 H3 e3 ((g1.trans g2).trans g3) (.cons (dp_mono g3.f r2) r3)
theorem mergeK_nil : ∀ {more kvs : List (Key × V)}, ((kvs ++ more).map (·.1)).Nodup → mergeK kvs more = kvs ++ more
  | [], kvs, _ => by
    rw [List.append_nil]
    rfl
  | p :: more, kvs, hn => by
    have h1 : p.1 ∉ kvs.map (·.1) := fun z => by
      rw [List.map_append, List.nodup_append] at hn
      exact hn.2.2 _ z _ List.mem_cons_self rfl
    have h2 : (kvs.map (·.1)).Nodup := by
      rw [List.map_append, List.nodup_append] at hn
      exact hn.1
    show mergeK (putK kvs p.1 p.2) more = _
    rw [putK_eq h2, putR_notin h1, mergeK_nil]
    · rw [List.append_assoc]
      rfl
    · rw [List.append_assoc]
      exact hn
theorem ev_disp {trs : List (TE × TE)} {kvs : List (Key × D)} (h : PairsJ K trs δ kvs δ1) (hn : (kvs.map (·.1)).Nodup := by decide) (hz : kvs.length ≤ 15 := by decide) : EvJ K (tDisp trs) δ (.new (.K kvs)) δ1 := ⟨h.same, fun E F H σ Q e q => by
  intro p hp
  have al := Alloc.own (o := .dK []) e.ex hp
  have nh : ¬ Hot δ σ p := fun z => by
    obtain ⟨_, ho, w⟩ := e.hotF z
    rw [hp] at w
    cases w
  refine h.run (al.env e) fun ws F2 H2 e2 g2 hk => ?_
  have hH : H2 p = some (.dK []) := g2.h p _ upd_same nh
  have nh2 : ¬ Hot δ1 σ p := fun z => by
    rcases g2.n p z with w | w
    · exact nh w
    · rw [upd_same] at w
      cases w
  have hF2 : F2 p = none := by
    rw [g2.k p (by rw [upd_same]; exact (fun z => nomatch z)) nh]
    exact nn_ex e.ex hp
  have hnd : (ws.map (·.1)).Nodup := by
    rw [hk.keys]
    exact hn
  have hm : mergeK [] ws = ws := mergeK_nil (kvs := []) (by exact hnd)
  refine ⟨hH, ws, rfl, by rw [hk.len]; exact hz, ?_⟩
  rw [hm]
  refine q _ F2 _ (e2.poke hF2 nh2 (by rw [hH]; exact (fun z => nomatch z))) ?_ ⟨p, _, rfl, hF2, upd_same, ⟨ws, rfl, hnd, hk⟩, nh2⟩ (fun q' e0 => by cases e0; exact hp)
  exact (al.grow.trans g2).poke hp⟩
/-- slices -/
def EvO (K : PySem.W.Frag) (to : TO) (δ : List Sl) (o : Option Int) (δ' : List Sl) : Prop :=
  SameK δ δ' ∧ ∀ (E F H : Hp) (σ : List (Option V)) (Q : Option Int → Hp → Prop), EnvOk K E F H δ σ →
    (∀ F2 H2, EnvOk K E F2 H2 δ' σ → Grow F H δ σ F2 H2 δ' σ → Q o H2) → to σ H Q
theorem eo_none : EvO K tNoPart δ none δ := ⟨SameK.refl δ, fun E F H σ Q e q => q F H e Grow.refl⟩
theorem eo_some {k : Int} (h : EvJ K te δ (.fr (.int k)) δ1) : EvO K (tPart te) δ (some k) δ1 := ⟨h.1, fun E F H σ Q e q => h.2 E F H σ _ e fun v F1 H1 e1 g1 h1 _ => by
  cases h1
  exact ⟨k, rfl, q F1 H1 e1 g1⟩⟩
def SlD (K : PySem.W.Frag) (f : V → Option Int → Option Int → Hp → VK → Prop) (r : R) (lo hi : Option Int) (δ : List Sl) (r' : R) : Prop :=
  ∀ (E F H : Hp) (σ : List (Option V)) (x : V) (Q : VK), EnvOk K E F H δ σ → RepR K F H δ σ r x → (∀ w F2 H2, Alloc F H F2 H2 → RepR K F2 H2 δ σ r' w → Fresh H r' w → Q w H2) → f x lo hi H Q
theorem ev_slice {f : V → Option Int → Option Int → Hp → VK → Prop} {tl th : TO} {lo hi : Option Int} {r r' : R} (h : EvJ K te δ r δ1) (hl : EvO K tl δ1 lo δ2) (hh : EvO K th δ2 hi δ3) (hs : SlD K f r lo hi δ3 r') : EvJ K (tSl f te tl th) δ r' δ3 :=
  ⟨(h.1.trans hl.1).trans hh.1, fun E F H σ Q e q => h.2 E F H σ _ e fun x F1 H1 e1 g1 h1 _ => hl.2 E F1 H1 σ _ e1 fun F2 H2 e2 g2 => hh.2 E F2 H2 σ _ e2 fun F3 H3 e3 g3 =>
    hs E F3 H3 σ x Q e3 ((h1.keep g2 hl.1).keep g3 hh.1) fun w F4 H4 al rw_ fw => q w F4 H4 (al.env e3) (((g1.trans g2).trans g3).trans al.grow) rw_ (fw.back ((g1.trans g2).trans g3).dm)⟩
theorem cut_dpa {F : Hp} {vs : List V} {ds : List D} {lo hi : Option Int} (h : DpAll K F vs ds) : DpAll K F (cutV vs lo hi) ((ds.drop (HT.sIx ds.length 0 lo)).take (HT.sIx ds.length ds.length hi - HT.sIx ds.length 0 lo)) := by
  unfold cutV
  rw [h.length]
  exact (h.drop _).take _
/-- the cut of data -/
def cutD (ds : List D) (lo hi : Option Int) : List D := (ds.drop (HT.sIx ds.length 0 lo)).take (HT.sIx ds.length ds.length hi - HT.sIx ds.length 0 lo)
theorem sl_T {lo hi : Option Int} : SlD K (rSliceU K) (.fr (.tuple ds)) lo hi δ (.fr (.tuple (cutD ds lo hi))) := fun E F H σ x Q e h1 q => by
  cases h1 with
  | @tup a xs _ hs ha =>
    refine .inr (.inl ⟨a, xs, rfl, ex_t e.ex hs, fun hw => ?_, fun _ p hp => ?_⟩)
    · rw [ha.length] at hw
      have e0 : cutD ds lo hi = ds := by
        unfold cutD
        rw [hw.1, hw.2, List.drop_zero, Nat.sub_zero, List.take_length]
      rw [e0] at q
      exact q _ F H (Alloc.refl e.ex) (.tup hs ha) trivial
    · have al := Alloc.new (o := .tup (cutV xs lo hi)) e.ex hp
      exact q _ _ _ al (.tup (.inl (.inl upd_same)) (dpa_mono al.f (cut_dpa ha))) trivial
theorem sl_L {r : R} {lo hi : Option Int} (h : rS δ r = some (false, ds)) : SlD K (rSliceU K) r lo hi δ (.new (.L (cutD ds lo hi))) := fun E F H σ x Q e h1 q => by
  obtain ⟨p, vs, rfl, hl, _, ha⟩ := rS_ok e h1 h
  refine .inl ⟨p, vs, rfl, hl rfl, fun l hp => ?_⟩
  obtain ⟨n1, n2⟩ := new_list e (cut_dpa (lo := lo) (hi := hi) ha) hp
  exact q _ F _ (Alloc.own e.ex hp) n1 n2
/-- is None -/
theorem od_isN : OpD K (fun x y H Q => y = .non ∧ Q (.bl (decide (x = .non))) H) (.fr d) (.fr .none) δ (.fr (.bool (decide (tyD d = "NoneType")))) := fun E F H σ x y Q e h1 h2 q => by
  cases h2
  have e0 : decide (x = V.non) = decide (tyD d = "NoneType") := by
    cases h1 with
    | non => rfl
    | bl _ => exact decide_eq_decide.mpr ⟨(fun z => nomatch z), fun z => by simp [tyD] at z⟩
    | int _ => exact decide_eq_decide.mpr ⟨(fun z => nomatch z), fun z => by simp [tyD] at z⟩
    | str _ => exact decide_eq_decide.mpr ⟨(fun z => nomatch z), fun z => by simp [tyD] at z⟩
    | lst _ _ => exact decide_eq_decide.mpr ⟨(fun z => nomatch z), fun z => by simp [tyD] at z⟩
    | tup _ _ => exact decide_eq_decide.mpr ⟨(fun z => nomatch z), fun z => by simp [tyD] at z⟩
  refine ⟨rfl, ?_⟩
  rw [e0]
  exact q _ F H (Alloc.refl e.ex) (.bl _) trivial
theorem od_notN : OpD K (fun x y H Q => y = .non ∧ Q (.bl (!decide (x = .non))) H) (.fr d) (.fr .none) δ (.fr (.bool (!decide (tyD d = "NoneType")))) := fun E F H σ x y Q e h1 h2 q => by
  cases h2
  have e0 : decide (x = V.non) = decide (tyD d = "NoneType") := by
    cases h1 with
    | non => rfl
    | bl _ => exact decide_eq_decide.mpr ⟨(fun z => nomatch z), fun z => by simp [tyD] at z⟩
    | int _ => exact decide_eq_decide.mpr ⟨(fun z => nomatch z), fun z => by simp [tyD] at z⟩
    | str _ => exact decide_eq_decide.mpr ⟨(fun z => nomatch z), fun z => by simp [tyD] at z⟩
    | lst _ _ => exact decide_eq_decide.mpr ⟨(fun z => nomatch z), fun z => by simp [tyD] at z⟩
    | tup _ _ => exact decide_eq_decide.mpr ⟨(fun z => nomatch z), fun z => by simp [tyD] at z⟩
  refine ⟨rfl, ?_⟩
  rw [e0]
  exact q _ F H (Alloc.refl e.ex) (.bl _) trivial
end
end DL
/-! Bools subtracted; lists unpacked; defs by their names; rows of facts. -/
namespace DL
open PySem PySem.Spec PyProof.Rows L2
theorem gives_sub_bb (a b : Bool) : Gives (Builtin.«int.__sub__» ⟨[.bool a, .bool b], []⟩) (.int ((if a = true then (1 : Int) else 0) - if b = true then (1 : Int) else 0)) :=
  .of_wp fun M A E s Q h => by obtain ⟨hp, g, d, tk, os⟩ := s; wp_walk; exact ⟨_, rfl, h⟩
theorem sub_bool_bool {prog : Program} {w : World} {A : Around} {E : Value → Shared → Prop} {s : Shared} {a b : Bool} {Q : Value → Shared → Prop} (h : Q (.int ((if a = true then (1 : Int) else 0) - if b = true then (1 : Int) else 0) s.toks) { s with toks := s.toks + 1 }) : wpAny (model prog w) A (binaryOp .Sub (.bool a) (.bool b)) Q E s :=
  binaryOp_gives (op := .Sub) (T := "bool") rfl rfl F.fills_bool_sub F.slot_bool_sub F.entry_int_sub (F.args_int_sub_2 _ _) (gives_sub_bb a b) trivial h
section
variable {X : Cx}
def rSubBB : R2 := fun x y H Q => ∃ a b : Bool, x = .bl a ∧ y = .bl b ∧ Q (.int ((if a = true then (1 : Int) else 0) - if b = true then (1 : Int) else 0)) H
theorem op_subBB : OpR X (binaryOp .Sub) rSubBB := by
  intro pins s σ H x y v u Q I rx ry h
  obtain ⟨a, b, rfl, rfl, q⟩ := h
  cases rx
  cases ry
  exact sub_bool_bool ⟨.int _, H, I.tok _, ⟨_, rfl⟩, q⟩
def rSubU : R2 := fun x y H Q => rI0 (fun i j => .int (i - j)) x y H Q ∨ rSubBB x y H Q
theorem op_subU : OpR X (binaryOp .Sub) rSubU := OpR.or op_sub op_subBB
end
section
variable {K : PySem.W.Frag} {δ δ1 : List Sl} {ds : List D}
theorem od_subI {i j : Int} : OpD K rSubU (.fr (.int i)) (.fr (.int j)) δ (.fr (.int (i - j))) := od_orL (od_I0 (g := fun i j => i - j))
theorem od_subB {a b : Bool} : OpD K rSubU (.fr (.bool a)) (.fr (.bool b)) δ (.fr (.int ((if a = true then (1 : Int) else 0) - if b = true then (1 : Int) else 0))) := fun E F H σ x y Q e h1 h2 q => by
  cases h1
  cases h2
  exact .inr ⟨a, b, rfl, rfl, q _ F H (Alloc.refl e.ex) (.int _) trivial⟩
/-- a, b = xs (a list, a tuple) -/
theorem st_unL {te : TE} {gs : TGs} {n : Nat} {r : R} {δ2 : List Sl} (h : EvJ K te δ r δ1) (hr : rS δ1 r = some (false, ds)) (hb : BindsJ K gs ds δ1 δ2) (hn : ds.length = n := by rfl) : StJ K (tAsg te (gLst K n gs)) δ (.nx δ2) := fun E F H σ D e s =>
  h.2 E F H σ _ e fun v F1 H1 e1 g1 h1 _ => by
    obtain ⟨p, vs, rfl, hl, _, ha⟩ := rS_ok e1 h1 hr
    exact ⟨p, vs, rfl, hl rfl, ha.length.trans hn, hb E F1 H1 σ vs _ e1 ha fun σ' e' g' => s σ' F1 H1 e' (g1.trans g')⟩
theorem st_unT {te : TE} {gs : TGs} {n : Nat} {δ2 : List Sl} (h : EvJ K te δ (.fr (.tuple ds)) δ1) (hb : BindsJ K gs ds δ1 δ2) (hn : ds.length = n := by rfl) : StJ K (tAsg te (gTup K n gs)) δ (.nx δ2) := fun E F H σ D e s =>
  h.2 E F H σ _ e fun v F1 H1 e1 g1 h1 _ => by
    cases h1 with
    | @tup p vs _ hs ha => exact ⟨p, vs, rfl, ex_t e1.ex hs, ha.length.trans hn, hb E F1 H1 σ vs _ e1 ha fun σ' e' g' => s σ' F1 H1 e' (g1.trans g')⟩
end
/-- a def of the text, under its name -/
structure DefAt (K : PySem.W.Frag) (mg : Str → Option Value) (x : Str) (st : Stmt) (ps : List Str) : Prop where
  ex : ∃ (f : Addr) (fd : FuncData), Fun K x x st f fd ∧ mg x = some (.ref f) ∧ PySem.W.keepIn K (.ref f) = true ∧ Binds K fd ps []
theorem cal_of {P : Program} {w : World} {K : PySem.W.Frag} {mg : Str → Option Value} {base : Heap} {x : Str} {st : Stmt} {ps N : List Str} {k m : Nat} {C : Con}
    (Df : DefAt K mg x st ps) (S : FnScope N ps (defScope st)) (hl : ∀ args r args', C args r args' → args.length = ps.length) (hm : m = N.length - ps.length)
    (hbody : ∀ (f : Addr) (cdv : Value) (A : Around) (outer : List Env) (s : Shared) (H : Hp) (E : XK), Room k (A.deeper (envOfC x (defScope st) s.heap.objs.size f cdv)) →
      ∃ t, PSs (cxOf CX0 P w K mg base N x (defScope st) f cdv A outer s H E).nox (defBody st) t ∧ BodyOk K t m C) : C8.Cal P w K mg base (k + 1) x (spD K C) [] := by
  obtain ⟨f, fd, F, h1, h2, h3⟩ := Df.ex
  exact ⟨f, fd, ps, [], fnD F S hl hm (hbody f), h1, h2, h3, .nil⟩
theorem def_mk {K : PySem.W.Frag} {mg : Str → Option Value} {h : Heap} {x : Str} {st : Stmt} {ps : List Str} {f : Addr} {oc : Value} {od an : Option Addr} {osl : Array (Option Value)} {kV doc pm cdv ct : Value} (X : K.In h) (G : h.Ns mainGlobals mg)
    (a : PySem.W.nsIn K mainGlobals x = some (some (.ref f))) (l : K.lookup f = some ⟨oc, od, .func (PySem.W.fnOf x x (defArgs st) (defBody st) (defScope st) .none kV doc pm an cdv ct), osl⟩)
    (c : PySem.W.codeIn K cdv x = true) (k : PySem.W.keepIn K (.ref f) = true)
    (b : ∀ (kV doc pm : Value) (an : Option Addr) (cdv ct : Value) (us : List Value), us.length = ps.length → bindArgs (PySem.W.fnOf x x (defArgs st) (defBody st) (defScope st) .none kV doc pm an cdv ct) ⟨us, []⟩ = pure (ps.zip us)) : DefAt K mg x st ps := by
  have F := fun_mk (st := st) l c k
  exact ⟨f, _, F, PySem.W.mg_of X G a, k, F.binds b⟩
end DL
/-! Promises in plain words: data in, data out; the law's own state of draws. -/
namespace DL
open PySem PySem.Spec PyProof.Rows L2

/-- data in, data out -/
def CP (f : List D → D → Prop) : Con := fun args r args' => ∃ ds d, f ds d ∧ args = ds.map .fr ∧ r = .fr d ∧ args' = args
theorem afterA_fr : ∀ {ds : List D} {xs : List Sl}, ds.length ≤ xs.length → afterA (ds.map Sl.fr) xs = ds.map Sl.fr
  | [], _, _ => rfl
  | d :: ds, x :: xs, h => by
    show Sl.fr d :: afterA (ds.map Sl.fr) xs = _
    rw [afterA_fr (by simpa using h)]
    rfl
  | d :: ds, [], h => by simp at h
theorem fr_noob {ds : List D} (i : Nat) (b : Bool) (o : O) : (ds.map Sl.fr)[i]? ≠ some (.ob b o) := fun h => by
  rw [List.getElem?_map] at h
  cases q : ds[i]? with
  | none => rw [q] at h; cases h
  | some d => rw [q] at h; cases h
theorem body_pure {K : PySem.W.Frag} {t : TS} {m : Nat} {f : List D → D → Prop} (h : ∀ ds d, f ds d → ∃ δ', StJ K t (ds.map .fr ++ List.replicate m .no) (.rt (.fr d) δ') ∧ ds.length ≤ δ'.length) : BodyOk K t m (CP f) := fun args r args' ⟨ds, d, hf, e1, e2, e3⟩ => by
  subst e1
  subst e2
  subst e3
  obtain ⟨δ', h1, h2⟩ := h ds d hf
  exact ⟨fun i o => fr_noob i true o, δ', .inl h1, by rw [List.length_map]; exact h2, (afterA_fr h2).symm⟩
theorem toArgs_fr {δ : List Sl} : ∀ {rs : List R} {ds : List D}, frs? rs = some ds → toArgs δ rs = some (ds.map .fr) ∧ alsOf rs = [] ∧ ∀ as, backA δ rs as = δ
  | [], ds, h => by
    cases h
    exact ⟨rfl, rfl, fun as => by unfold backA; rfl⟩
  | .fr d :: rs, ds, h => by
    cases q : frs? rs with
    | none => simp [frs?, q] at h
    | some ds' =>
      simp only [frs?, q, Option.map_some, Option.some.injEq] at h
      subst h
      obtain ⟨h1, h2, h3⟩ := toArgs_fr (δ := δ) q
      refine ⟨?_, h2, fun as => ?_⟩
      · show (toArgs δ rs).map (Sl.fr d :: ·) = _
        rw [h1]
        rfl
      · cases as with
        | nil =>
          unfold backA
          first | rfl | (split <;> first | rfl | (rename_i h; cases h))
        | cons a as =>
          unfold backA
          exact h3 as
  | .new o :: rs, ds, h => by cases h
  | .al i :: rs, ds, h => by cases h
theorem ev_callP {K : PySem.W.Frag} {δ δ1 : List Sl} {ta : TA} {rs : List R} {ds : List D} {d : D} {f : List D → D → Prop} {E0' : XK} (ha : EvA K ta δ rs δ1) (hd : frs? rs = some ds) (hf : f ds d) : EvJ K (tCall (spD K (CP f)) [] E0' ta) δ (.fr d) δ1 := by
  obtain ⟨h1, h2, h3⟩ := toArgs_fr (δ := δ1) hd
  exact ev_call ha h1 ⟨ds, d, hf, rfl, rfl, rfl⟩ (h3 _) (by rw [h2]; exact List.nodup_nil) rfl

/-! ### the state of the draws -/
structure DS where
  cells : List Int
  at_ : Int
  left : Int
  mix : Int
def DS.ok (s : DS) : Prop := (∀ c ∈ s.cells, 0 ≤ c) ∧ s.cells.length ≤ 1000 ∧ 0 ≤ s.at_ ∧ 0 ≤ s.left ∧ 0 ≤ s.mix ∧ s.mix < 2147483647
def kCells : Key := .inr "cells"
def kAt : Key := .inr "at"
def kLeft : Key := .inr "left"
def kMix : Key := .inr "mix"
def stO (s : DS) : O := .K [(kCells, .list (s.cells.map .int)), (kAt, .int s.at_), (kLeft, .int s.left), (kMix, .int s.mix)]
def drawTail (s : DS) (b : Int) : Int × DS :=
  if 0 < s.left then (s.left % b, { s with left := s.left.fdiv b })
  else ((((s.mix * 48271 + 11) % 2147483647 * 69621 + 5) % 2147483629) % b, { s with mix := (s.mix * 48271 + 11) % 2147483647 })
def draw (s : DS) (b : Int) : Int × DS :=
  if s.left = 0 ∧ s.at_ < s.cells.length then
    if s.cells.getD s.at_.toNat 0 < 10 ^ 18 then (s.cells.getD s.at_.toNat 0 % b, { s with at_ := s.at_ + 1, mix := (s.mix * 48271 + s.cells.getD s.at_.toNat 0 + 11) % 2147483647 })
    else drawTail { s with at_ := s.at_ + 1, mix := (s.mix * 48271 + s.cells.getD s.at_.toNat 0 + 11) % 2147483647, left := s.cells.getD s.at_.toNat 0 } b
  else drawTail s b
theorem getD_nonneg {xs : List Int} (h : ∀ c ∈ xs, 0 ≤ c) (i : Nat) : 0 ≤ xs.getD i 0 := by
  rw [List.getD_eq_getElem?_getD]
  cases q : xs[i]? with
  | none => exact Int.le_refl 0
  | some x => exact h x (List.mem_of_getElem? q)
theorem fdiv_nonneg' {a b : Int} (ha : 0 ≤ a) (hb : 0 < b) : 0 ≤ a.fdiv b := by
  rw [Int.fdiv_eq_ediv_of_nonneg a (by omega)]
  exact Int.ediv_nonneg ha (by omega)
theorem drawTail_ok {s : DS} {b : Int} (h : s.ok) (hb : 0 < b) : (drawTail s b).2.ok ∧ 0 ≤ (drawTail s b).1 ∧ (drawTail s b).1 < b := by
  obtain ⟨h1, h2, h3, h4, h5, h6⟩ := h
  unfold drawTail
  split
  · exact ⟨⟨h1, h2, h3, fdiv_nonneg' h4 hb, h5, h6⟩, Int.emod_nonneg _ (by omega), Int.emod_lt_of_pos _ hb⟩
  · exact ⟨⟨h1, h2, h3, h4, Int.emod_nonneg _ (by decide), Int.emod_lt_of_pos _ (by decide)⟩, Int.emod_nonneg _ (by omega), Int.emod_lt_of_pos _ hb⟩
theorem draw_ok {s : DS} {b : Int} (h : s.ok) (hb : 0 < b) : (draw s b).2.ok ∧ 0 ≤ (draw s b).1 ∧ (draw s b).1 < b := by
  have hh := h
  obtain ⟨h1, h2, h3, h4, h5, h6⟩ := h
  have hc := getD_nonneg h1 s.at_.toNat
  unfold draw
  split
  · split
    · exact ⟨⟨h1, h2, by show 0 ≤ s.at_ + 1; omega, h4, Int.emod_nonneg _ (by decide), Int.emod_lt_of_pos _ (by decide)⟩, Int.emod_nonneg _ (by omega), Int.emod_lt_of_pos _ hb⟩
    · exact drawTail_ok ⟨h1, h2, by show 0 ≤ s.at_ + 1; omega, hc, Int.emod_nonneg _ (by decide), Int.emod_lt_of_pos _ (by decide)⟩ hb
  · exact drawTail_ok hh hb
/-- the state and data in, data out, the state changed -/
def CS (f : DS → List D → D → DS → Prop) : Con := fun args r args' => ∃ s ds d s', f s ds d s' ∧ args = .ob false (stO s) :: ds.map .fr ∧ r = .fr d ∧ args' = .ob false (stO s') :: ds.map .fr
theorem body_state {K : PySem.W.Frag} {t : TS} {m : Nat} {f : DS → List D → D → DS → Prop} (h : ∀ s ds d s', f s ds d s' → ∃ δ', StJ K t (.ob false (stO s) :: (ds.map .fr ++ List.replicate m .no)) (.rt (.fr d) (.ob false (stO s') :: δ')) ∧ ds.length ≤ δ'.length) : BodyOk K t m (CS f) := fun args r args' ⟨s, ds, d, s', hf, e1, e2, e3⟩ => by
  subst e1
  subst e2
  subst e3
  obtain ⟨δ', h1, h2⟩ := h s ds d s' hf
  refine ⟨fun i o hi => ?_, .ob false (stO s') :: δ', .inl h1, ?_, ?_⟩
  · cases i with
    | zero => cases hi
    | succ i => exact fr_noob i true o hi
  · rw [List.length_cons, List.length_map, List.length_cons]
    omega
  · show _ = Sl.ob false (stO s') :: afterA (ds.map Sl.fr) δ'
    rw [afterA_fr h2]
theorem ev_callS {K : PySem.W.Frag} {δ δ1 δ2 : List Sl} {ta : TA} {i : Nat} {b : Bool} {s s' : DS} {rs : List R} {ds : List D} {d : D} {f : DS → List D → D → DS → Prop} {E0' : XK} (ha : EvA K ta δ (.al i :: rs) δ1) (hi : δ1[i]? = some (.ob b (stO s))) (hd : frs? rs = some ds) (hf : f s ds d s') (he : δ1.set i (.ob b (stO s')) = δ2) :
    EvJ K (tCall (spD K (CS f)) [] E0' ta) δ (.fr d) δ2 := by
  subst he
  obtain ⟨h1, h2, h3⟩ := toArgs_fr (δ := δ1) hd
  refine ev_call ha (args := .ob false (stO s) :: ds.map .fr) ?_ ⟨s, ds, d, s', hf, rfl, rfl, rfl⟩ ?_ ?_ rfl
  · unfold toArgs
    rw [hi]
    show (toArgs δ1 rs).map _ = _
    rw [h1]
    rfl
  · unfold backA
    rw [(toArgs_fr (δ := setO δ1 i (stO s')) hd).2.2]
    unfold setO
    rw [hi]
  · show (i :: alsOf rs).Nodup
    rw [h2]
    exact List.nodup_cons.mpr ⟨(fun z => nomatch z), List.nodup_nil⟩
end DL
/-! The rules in the form in which a tactic applies them. -/
namespace DL
open PySem PySem.Spec PyProof.Rows L2
section
variable {K : PySem.W.Frag} {δ δ1 δ2 δ3 : List Sl} {ta tb tc te to ti td ty tv : TE} {t u : TS} {tt tu : TT} {out : Out} {r r1 r2 r' : R} {d d1 d2 : D} {ds : List D} {i : Nat} {o : O} {b : Bool}
theorem q_set (h : EvJ K te δ (.fr d) δ1) (hp : NoPar δ1 i) (k : StJ K u (δ1.set i (.fr d)) out) : StJ K (tSeq (tAsg te (gName i)) u) δ out := st_seq (st_set h hp) k
theorem q_setN (h : EvJ K te δ (.new o) δ1) (hl : i < δ1.length) (hp : NoPar δ1 i) (k : StJ K u (δ1.set i (.ob true o)) out) : StJ K (tSeq (tAsg te (gName i)) u) δ out := st_seq (st_setN h hl hp) k
theorem q_set1 (h : EvJ K te δ (.fr d) δ1) (hp : NoPar δ1 i) : StJ K (tAsg te (gName i)) δ (.nx (δ1.set i (.fr d))) := st_set h hp
theorem q_ret (h : EvJ K te δ r δ1) (hr : retR δ1 r = some r') : StJ K (tRet te) δ (.rt r' δ1) := st_ret h hr
theorem q_retq (h : EvJ K te δ r δ1) (hr : retR δ1 r = some r') : StJ K (tSeq (tRet te) u) δ (.rt r' δ1) := st_stop_rt (st_ret h hr)
theorem q_drop (h : EvJ K te δ r δ1) (k : StJ K u δ1 out) : StJ K (tSeq (tDrop te) u) δ out := st_seq (st_drop h) k
theorem q_for {wi : TI} {g : TG} (hs : SrcJ K wi δ ds δ1) (hf : ForRel K g t ds δ1 (.nx δ2)) (k : StJ K u δ2 out) : StJ K (tSeq (tFor wi g t) u) δ out := st_seq (st_for hs hf) k
theorem q_dput {kvs : List (Key × D)} {k : Key} (he : EvJ K tv δ (.fr d) δ1) (hd : EvJ K td δ1 (.al i) δ2) (hk : EvJ K ty δ2 (.fr (keyD k)) δ3) (hi : δ3[i]? = some (.ob b (.K kvs))) (hz : kvs.length < sizeLine) (k' : StJ K u (δ3.set i (.ob b (.K (kdPut kvs k d)))) out) : StJ K (tSeq (sDPut td ty tv) u) δ out := st_seq (st_dput he hd hk hi hz) k'
theorem ev_tup' {t : TA} {rs : List R} (h : EvA K t δ rs δ1) (hd : frs? rs = some ds) (hz : ds.length ≤ sizeLine) : EvJ K (tTup t) δ (.fr (.tuple ds)) δ1 := ev_tup h hd hz
theorem ev_lst' {t : TA} {rs : List R} (h : EvA K t δ rs δ1) (hd : frs? rs = some ds) (hz : ds.length ≤ sizeLine) : EvJ K (tLst t) δ (.new (.L ds)) δ1 := ev_lst h hd hz
theorem ev_lstF {t : TA} {rs : List R} (h : EvA K t δ rs δ1) (hd : frs? rs = some ds) (hz : ds.length ≤ sizeLine) : EvJ K (tLst t) δ (.fr (.list ds)) δ1 := ev_frz (ev_lst h hd hz)
/-- tests that leave all as it is -/
theorem tt_andP {a b : Bool} (h1 : TtJ K tt δ a δ) (h2 : TtJ K tu δ b δ) : TtJ K (tAnd tt tu) δ (a && b) δ := tt_and h1 (fun _ => h2) (fun _ => rfl)
theorem tt_orP {a b : Bool} (h1 : TtJ K tt δ a δ) (h2 : TtJ K tu δ b δ) : TtJ K (tOr tt tu) δ (a || b) δ := tt_or h1 (fun _ => h2) (fun _ => rfl)
theorem ev_andP {a b : Bool} (h1 : EvJ K ta δ (.fr (.bool a)) δ) (h2 : EvJ K tb δ (.fr (.bool b)) δ) : EvJ K (tAndV ta tb) δ (.fr (.bool (a && b))) δ := by
  refine ev_andV h1 (fun h => ?_) (fun h => ⟨by rw [h]; rfl, rfl⟩)
  rw [h, Bool.true_and]
  exact h2
theorem ev_orP {a b : Bool} (h1 : EvJ K ta δ (.fr (.bool a)) δ) (h2 : EvJ K tb δ (.fr (.bool b)) δ) : EvJ K (tOrV ta tb) δ (.fr (.bool (a || b))) δ := by
  refine ev_orV h1 (fun h => ?_) (fun h => ⟨by rw [h]; rfl, rfl⟩)
  rw [h, Bool.false_or]
  exact h2
/-- and, the second looked at if the first holds -/
theorem tt_andC {a b : Bool} (h1 : TtJ K tt δ a δ) (h2 : a = true → TtJ K tu δ b δ) : TtJ K (tAnd tt tu) δ (a && b) δ := tt_and h1 h2 (fun _ => rfl)
theorem tt_orC {a b : Bool} (h1 : TtJ K tt δ a δ) (h2 : a = false → TtJ K tu δ b δ) : TtJ K (tOr tt tu) δ (a || b) δ := tt_or h1 h2 (fun _ => rfl)
/-- an if that leaves all as it is, by its two data -/
theorem ev_ifP {b : Bool} (hc : TtJ K tt δ b δ) (h1 : EvJ K ta δ (.fr d1) δ) (h2 : EvJ K tb δ (.fr d2) δ) : EvJ K (tIf tt ta tb) δ (.fr (if b then d1 else d2)) δ := by
  cases b with
  | true => exact ev_if hc (fun _ => h1) (fun h => nomatch h)
  | false => exact ev_if hc (fun h => nomatch h) (fun _ => h2)
theorem StJ.env {δ' : List Sl} (h : StJ K t δ out) (e : δ' = δ) : StJ K t δ' out := e ▸ h
/-- a call whose arguments are data, whatever it gives -/
theorem ev_callF {t : TA} {rs : List R} {C : Con} {E0' : XK} (ha : EvA K t δ rs δ1) (hd : frs? rs = some ds) (hC : C (ds.map .fr) r (ds.map .fr)) (hr : notAl r = true) : EvJ K (tCall (spD K C) [] E0' t) δ r δ1 := by
  obtain ⟨h1, h2, h3⟩ := toArgs_fr (δ := δ1) hd
  exact ev_call ha h1 hC (h3 _) (by rw [h2]; exact List.nodup_nil) hr
theorem ev_append' {ds0 : List D} (ho : EvJ K to δ (.al i) δ1) (h0 : δ1[i]? = some (.ob b (.L ds0))) (he : EvJ K te δ1 (.fr d) δ2) (hi : δ2[i]? = some (.ob b (.L ds))) (hz : ds.length < sizeLine) (e : δ2.set i (.ob b (.L (ds ++ [d]))) = δ3) : EvJ K (tBM K "list" rAppend to (tCons te tNil)) δ (.fr .none) δ3 := e ▸ ev_append ho h0 he hi hz
theorem ev_extend' {ds0 es : List D} (ho : EvJ K to δ (.al i) δ1) (h0 : δ1[i]? = some (.ob b (.L ds0))) (he : EvJ K te δ1 r δ2) (hr : isL δ2 r = some es) (hi : δ2[i]? = some (.ob b (.L ds))) (hz : ds.length + es.length ≤ sizeLine) (e : δ2.set i (.ob b (.L (ds ++ es))) = δ3) : EvJ K (tBM K "list" rExtend to (tCons te tNil)) δ (.fr .none) δ3 := e ▸ ev_extend ho h0 he hr hi hz
theorem q_set1' (h : EvJ K te δ (.fr d) δ1) (hp : NoPar δ1 i) (e : δ1.set i (.fr d) = δ2) : StJ K (tAsg te (gName i)) δ (.nx δ2) := e ▸ st_set h hp
theorem q_drop1 (h : EvJ K te δ r δ1) : StJ K (tDrop te) δ (.nx δ1) := st_drop h
/-- the loop whose state is told by a family -/
theorem ForRel.fold {S : Type} {g : TG} {tb : TS} (δs : S → List Sl) (f : S → D → S) : ∀ {ds : List D} {s : S}, (∀ s d, d ∈ ds → ∃ δb, BindJ K g d (δs s) δb ∧ StJ K tb δb (.nx (δs (f s d)))) → ForRel K g tb ds (δs s) (.nx (δs (ds.foldl f s)))
  | [], s, _ => .nil
  | d :: ds, s, h => by
    obtain ⟨δb, h1, h2⟩ := h s d List.mem_cons_self
    exact .go h1 h2 (ForRel.fold δs f fun s d hd => h s d (List.mem_cons_of_mem _ hd))
/-- a comprehension without tests that leaves all as it is -/
theorem LcRel.map {g : TG} {te : TE} {vs : List Nat} {δ : List Sl} (f : D → D) : ∀ {ds : List D}, (∀ d, d ∈ ds → ∃ δb, BindW K g d vs δ δb ∧ EvJ K te δb (.fr (f d)) δb ∧ NoParV δb vs ∧ wipeD δb vs = δ) → LcRel K g tYes te vs ds δ (ds.map f) δ
  | [], _ => .nil
  | d :: ds, h => by
    obtain ⟨δb, h1, h2, h3, h4⟩ := h d List.mem_cons_self
    refine .go h1 ⟨SameK.refl _, fun E F H σ Q e q => ?_⟩ h2 h3 ?_
    · exact q F H e Grow.refl
    · rw [h4]
      exact LcRel.map f fun d hd => h d (List.mem_cons_of_mem _ hd)
end
end DL
/-! The lengths of promises; the law's own first row. -/
namespace DL
open PySem PySem.Spec PyProof.Rows L2
theorem lenP {F : List D → D → Prop} {n : Nat} (h : ∀ ds d, F ds d → ds.length = n) : ∀ args r args', CP F args r args' → args.length = n := fun _ _ _ ⟨ds, d, hF, e, _⟩ => by
  rw [e, List.length_map]
  exact h _ _ hF
theorem lenS {F : DS → List D → D → DS → Prop} {n : Nat} (h : ∀ s ds d s', F s ds d s' → ds.length = n) : ∀ args r args', CS F args r args' → args.length = n + 1 := fun _ _ _ ⟨s, ds, d, s', hF, e, _⟩ => by
  rw [e, List.length_cons, List.length_map, h _ _ _ _ hF]
theorem ints_dp {K : PySem.W.Frag} {F : Hp} : ∀ ns : List Int, DpAll K F (ns.map V.int) (ns.map PyData.int)
  | [] => .nil
  | i :: is => .cons (.int i) (ints_dp is)
theorem env_law {K : PySem.W.Frag} {H : Hp} {a : Addr} {ns : List Int} {C : Con} (hS : SqL K H a (ns.map V.int)) (h : C [.fr (.list (ns.map .int))] (.fr (.bool true)) [.fr (.list (ns.map .int))]) : spD K C [.ref a] H (fun v _ => v = .bl true) fun _ _ _ => False := by
  refine ⟨_, _, _, H, h, ⟨Ex.refl H, fun _ z => z, rfl, fun i d e => ?_, fun i b o e => ?_, fun i j b o b' o' p e => ?_⟩, fun v F2 H2 _ _ q => ?_⟩
  · match i, e with
    | 0, e =>
      cases e
      exact ⟨_, rfl, .lst hS (ints_dp ns)⟩
    | i + 1, e => cases e
  · match i, e with
    | 0, e => cases e
    | i + 1, e => cases e
  · match i, e with
    | 0, e => cases e
    | i + 1, e => cases e
  · cases q
    rfl
end DL
namespace DL
open PySem PySem.Spec PyProof.Rows L2
def topS (i : Nat) : Stmt := PySem.Challenge.pw_inkplane_k01_fractions.main.body.getD i (.Pass ⟨0, 0, 0, 0⟩)
structure Blt (mg : Str → Option Value) : Prop where
  gcd_ : mg "gcd" = some (.builtin "math.gcd")
  abs_ : mg "abs" = none
  bool_ : mg "bool" = none
  int_ : mg "int" = none
  isinstance_ : mg "isinstance" = none
  len_ : mg "len" = none
  range_ : mg "range" = none
  tuple_ : mg "tuple" = none

local macro_rules | `(tactic| walk_at "len") => `(tactic| exact Nat.le_of_ble_eq_true rfl)
local macro_rules | `(tactic| walk_at "np") => `(tactic| (intro o z; cases z))
local macro_rules | `(tactic| walk_at "od") => `(tactic| first
  | exact od_addI | exact od_subI | exact od_subB | exact od_I0b | exact od_I0
  | exact od_ix rfl rfl | exact od_eq rfl rfl rfl rfl | exact od_ne rfl rfl rfl rfl | exact od_isN | exact od_notN
  | with_reducible apply od_mulI | with_reducible apply od_I | exact ud_I)
local macro_rules | `(tactic| walk_at "cd") => `(tactic| first
  | exact cd_len rfl | exact cd_abs | exact cd_int | exact cd_intB | exact cd_gcd | exact cd_tup rfl | exact cd_lst rfl)
local macro_rules | `(tactic| walk_at "ev1") => `(tactic| first
  | exact ev_int | exact ev_bl | exact ev_str | exact ev_non | exact ev_var rfl | exact ev_varO rfl
  | with_reducible apply ev_op | with_reducible apply ev_un
  | exact ea_nil | with_reducible apply ea_cons
  | with_reducible apply ev_isi | with_reducible apply ev_dget
  | with_reducible apply ev_cb
  | with_reducible apply ev_tup' | with_reducible apply ev_lstF
  | with_reducible apply tt_test | with_reducible apply tt_B | with_reducible apply tt_not
  | walk_at "od" | walk_at "cd" | walk_at "len" | rfl)
local macro_rules | `(tactic| walk_at "ev") => `(tactic| repeat' walk_at "ev1")
local macro_rules | `(tactic| walk_at "set") => `(tactic| (with_reducible apply q_set; rotate_left; walk_at "np"; rotate_left; walk_at "ev"))

/-! ### fractions -/
def dR (q : Rat) : D := .tuple [.int q.num, .int (q.den : Int)]
def F_fraction (ds : List D) (d : D) : Prop := ∃ n m : Int, m ≠ 0 ∧ m.natAbs.log2 < 9000 ∧ ds = [.int n, .int m] ∧ d = dR (Rat.divInt n m)
abbrev C_fraction : Con := CP F_fraction
/-! fraction: slots 0 n, 1 d, 2 common -/
abbrev s_fraction : Stmt := topS 2
theorem sc_fraction : FnScope ["n", "d", "common"] ["n", "d"] (defScope s_fraction) := ⟨rfl, rfl, rfl, by decide +kernel, rfl, by decide +kernel, by decide +kernel⟩
def t_fraction (K : PySem.W.Frag) : TS :=
  (tSeq (tAsg (tCB rGcd (tCons (tVar 0) (tCons (tVar 1) tNil))) (gName 2))
    (tSeq (tIfS (tTest (tOp (rI0 fun i j => .bl (decide (i < j))) (tVar 1) (tC (.int 0)))) (tAsg (tUn (rU fun i => .int (-i)) (tVar 2)) (gName 2)) tNext)
    (tRet (tTup (tCons (tOp (rI CDivR fun i j => .int (i.fdiv j)) (tVar 0) (tVar 2)) (tCons (tOp (rI CDivR fun i j => .int (i.fdiv j)) (tVar 1) (tVar 2)) tNil))))))
theorem tm_fraction {P : Program} {w : World} {K : PySem.W.Frag} {mg : Str → Option Value} {base : Heap} (B : Blt mg) {f : Addr} {cdv : Value} {A : Around} {outer : List Env} {s : Shared} {H : Hp} {E : XK} (hr : Room 0 (A.deeper (envOfC "fraction" (defScope s_fraction) s.heap.objs.size f cdv))) :
    PSs (cxOf CX0 P w K mg base ["n", "d", "common"] "fraction" (defScope s_fraction) f cdv A outer s H E).nox (defBody s_fraction) (t_fraction K) := by
  have nd := sc_fraction.nd
  exact (pss_cons (ps_set (i := 2) nd rfl (Or.inl rfl) (pe_callBfun cr_gcd (by rfl) B.gcd_ (pa_cons (pv 0) (pa_cons (pv 1) pa_nil))))
    (pss_cons (ps_if (pt_cmpR op_lt (pv 1) pe_int (nomark _)) (pss_one (ps_set (i := 2) nd rfl (Or.inl rfl) (pe_un un_neg (pv 2)))) pss_nil)
    (pss_one (ps_ret (pe_tup (pa_cons (pe_op op_fdivR (pv 0) (pv 2)) (pa_cons (pe_op op_fdivR (pv 1) (pv 2)) pa_nil)))))))

theorem fdiv_neg_of {n g : Int} (h : g ∣ n) : n.fdiv (-g) = -(n / g) := by
  rw [Int.fdiv_eq_ediv_of_dvd (Int.neg_dvd.mpr h), Int.ediv_neg]
theorem frac_pos {n m : Int} (h : 0 < m) : n.fdiv ((Nat.gcd n.natAbs m.natAbs : Nat) : Int) = (Rat.divInt n m).num ∧ m.fdiv ((Nat.gcd n.natAbs m.natAbs : Nat) : Int) = ((Rat.divInt n m).den : Int) := by
  have hg : ((Nat.gcd n.natAbs m.natAbs : Nat) : Int) = ((m.gcd n : Nat) : Int) := by rw [Nat.gcd_comm]; rfl
  rw [hg, Rat.num_divInt, Rat.den_divInt, if_neg (by omega), Int.sign_eq_one_of_pos h, Int.one_mul]
  refine ⟨Int.fdiv_eq_ediv_of_nonneg _ (by omega), ?_⟩
  rw [Int.fdiv_eq_ediv_of_nonneg _ (by omega)]
  have e : m = ((m.natAbs : Nat) : Int) := by omega
  rw [e]
  simp
theorem frac_neg {n m : Int} (h : m < 0) : n.fdiv (-((Nat.gcd n.natAbs m.natAbs : Nat) : Int)) = (Rat.divInt n m).num ∧ m.fdiv (-((Nat.gcd n.natAbs m.natAbs : Nat) : Int)) = ((Rat.divInt n m).den : Int) := by
  have hg : ((Nat.gcd n.natAbs m.natAbs : Nat) : Int) = ((m.gcd n : Nat) : Int) := by rw [Nat.gcd_comm]; rfl
  rw [hg, Rat.num_divInt, Rat.den_divInt, if_neg (by omega), Int.sign_eq_neg_one_of_neg h]
  have h1 : ((m.gcd n : Nat) : Int) ∣ m := Int.gcd_dvd_left ..
  have h2 : ((m.gcd n : Nat) : Int) ∣ n := Int.gcd_dvd_right ..
  rw [fdiv_neg_of h1, fdiv_neg_of h2]
  refine ⟨?_, ?_⟩
  · rw [← Int.neg_ediv_of_dvd h2, Int.neg_mul, Int.one_mul]
  · rw [← Int.neg_ediv_of_dvd h1]
    have e : -m = ((m.natAbs : Nat) : Int) := by omega
    rw [e]
    simp
theorem gcd_log {n m : Int} (h : m ≠ 0) (hm : m.natAbs.log2 < 9000) : (Nat.gcd n.natAbs m.natAbs) ≠ 0 ∧ (Nat.gcd n.natAbs m.natAbs).log2 < 9000 := by
  have h0 : 0 < m.natAbs := by omega
  have h1 : 0 < Nat.gcd n.natAbs m.natAbs := Nat.gcd_pos_of_pos_right _ h0
  refine ⟨by omega, ?_⟩
  have h2 : m.natAbs < 2 ^ 9000 := (Nat.log2_lt (by omega)).mp hm
  exact (Nat.log2_lt (by omega)).mpr (Nat.lt_of_le_of_lt (Nat.le_of_dvd h0 (Nat.gcd_dvd_right _ _)) h2)
theorem run_fraction {K : PySem.W.Frag} : BodyOk K (t_fraction K) 1 C_fraction := by
  refine body_pure ?_
  rintro ds d ⟨n, m, h0, h9, rfl, rfl⟩
  obtain ⟨g1, g2⟩ := gcd_log (n := n) h0 h9
  refine ⟨[.fr (.int n), .fr (.int m), .fr (.int (if m < 0 then -((Nat.gcd n.natAbs m.natAbs : Nat) : Int) else (Nat.gcd n.natAbs m.natAbs : Nat)))], ?_, Nat.le_of_ble_eq_true rfl⟩
  show StJ K (t_fraction K) [.fr (.int n), .fr (.int m), .no] _
  apply q_set
  · walk_at "ev"
  · walk_at "np"
  apply st_ifq (b := decide (m < 0))
  · walk_at "ev"
  · intro h
    have h := of_decide_eq_true h
    obtain ⟨e1, e2⟩ := frac_neg (n := n) h
    have e : dR (Rat.divInt n m) = .tuple [.int (n.fdiv (-((Nat.gcd n.natAbs m.natAbs : Nat) : Int))), .int (m.fdiv (-((Nat.gcd n.natAbs m.natAbs : Nat) : Int)))] := by
      unfold dR
      rw [e1, e2]
    apply q_set
    · walk_at "ev"
    · walk_at "np"
    rw [if_pos h, e]
    apply q_ret
    · walk_at "ev"
      all_goals exact ⟨by omega, by rw [Int.natAbs_neg]; exact g2⟩
    · rfl
  · intro h
    have h := of_decide_eq_false h
    obtain ⟨e1, e2⟩ := frac_pos (n := n) (m := m) (by omega)
    have e : dR (Rat.divInt n m) = .tuple [.int (n.fdiv (((Nat.gcd n.natAbs m.natAbs : Nat) : Int))), .int (m.fdiv (((Nat.gcd n.natAbs m.natAbs : Nat) : Int)))] := by
      unfold dR
      rw [e1, e2]
    refine st_nextq ?_
    rw [if_neg h, e]
    apply q_ret
    · walk_at "ev"
      all_goals exact ⟨by omega, g2⟩
    · rfl
theorem ok_fraction {P : Program} {w : World} {K : PySem.W.Frag} {mg : Str → Option Value} {base : Heap} (B : Blt mg) (Df : DefAt K mg "fraction" s_fraction ["n", "d"]) : C8.Cal P w K mg base 1 "fraction" (spD K C_fraction) [] :=
  cal_of Df sc_fraction (fun args r args' ⟨ds, d, ⟨n, m, _, _, e1, _⟩, e2, _⟩ => by rw [e2, e1]; rfl) rfl fun f cdv A outer s H E hr => ⟨t_fraction K, tm_fraction B hr, run_fraction⟩
/-- the size of a fraction -/
def Fit (n : Nat) (q : Rat) : Prop := q.num.natAbs < 2 ^ n ∧ q.den < 2 ^ n
theorem log2_le {x n : Nat} (h : x < 2 ^ n) : x.log2 ≤ n := by
  by_cases h0 : x = 0
  · subst h0
    rw [Nat.log2_zero]
    exact Nat.zero_le _
  · exact Nat.le_of_lt ((Nat.log2_lt h0).mpr h)
theorem mulB_of {i j : Int} {n m : Nat} (hi : i.natAbs < 2 ^ n) (hj : j.natAbs < 2 ^ m) (h : n + m ≤ 1000000) : CMulB i j := by
  have h1 := log2_le hi
  have h2 := log2_le hj
  unfold CMulB
  omega
theorem divInt_num_le {n d : Int} (h : d ≠ 0) : (Rat.divInt n d).num.natAbs ≤ n.natAbs := by
  rw [Rat.num_divInt]
  refine Nat.le_trans (Int.natAbs_ediv_le_natAbs _ _) ?_
  rw [Int.natAbs_mul]
  have : d.sign.natAbs ≤ 1 := by
    rcases Int.lt_trichotomy d 0 with hd | hd | hd
    · rw [Int.sign_eq_neg_one_of_neg hd]; decide
    · exact absurd hd h
    · rw [Int.sign_eq_one_of_pos hd]; decide
  calc d.sign.natAbs * n.natAbs ≤ 1 * n.natAbs := Nat.mul_le_mul_right _ this
    _ = n.natAbs := Nat.one_mul _
theorem divInt_den_le {n d : Int} (h : d ≠ 0) : (Rat.divInt n d).den ≤ d.natAbs := by
  rw [Rat.den_divInt, if_neg h]
  exact Nat.div_le_self _ _
theorem dens_ne (a b : Rat) : ((a.den : Int) * (b.den : Int)) ≠ 0 := by
  have h1 := a.den_pos
  have h2 := b.den_pos
  exact Int.mul_ne_zero (by omega) (by omega)
theorem add_divInt (a b : Rat) : a + b = Rat.divInt (a.num * b.den + b.num * a.den) (a.den * b.den) := by
  have h1 := a.den_pos
  have h2 := b.den_pos
  have e := Rat.divInt_add_divInt a.num b.num (d₁ := (a.den : Int)) (d₂ := (b.den : Int)) (by omega) (by omega)
  rw [Rat.num_divInt_den, Rat.num_divInt_den] at e
  exact e
theorem sub_divInt (a b : Rat) : a - b = Rat.divInt (a.num * b.den - b.num * a.den) (a.den * b.den) := by
  have h1 := a.den_pos
  have h2 := b.den_pos
  have e := Rat.divInt_sub_divInt a.num b.num (d₁ := (a.den : Int)) (d₂ := (b.den : Int)) (by omega) (by omega)
  rw [Rat.num_divInt_den, Rat.num_divInt_den] at e
  exact e
theorem mul_divInt (a b : Rat) : a * b = Rat.divInt (a.num * b.num) (a.den * b.den) := by
  have e := Rat.divInt_mul_divInt a.num b.num (d₁ := (a.den : Int)) (d₂ := (b.den : Int))
  rw [Rat.num_divInt_den, Rat.num_divInt_den] at e
  exact e
theorem div_divInt (a b : Rat) : a / b = Rat.divInt (a.num * b.den) (a.den * b.num) := by
  rw [Rat.div_def, Rat.inv_def]
  have e := Rat.divInt_mul_divInt a.num b.den (d₁ := (a.den : Int)) (d₂ := b.num)
  rw [Rat.num_divInt_den] at e
  exact e
theorem pow_split {n m a b : Nat} (h1 : a < 2 ^ n) (h2 : b < 2 ^ m) : a * b < 2 ^ (n + m) := by
  rw [Nat.pow_add]
  exact Nat.mul_lt_mul'' h1 h2
theorem Fit.mono {n m : Nat} {q : Rat} (h : Fit n q) (hm : n ≤ m) : Fit m q :=
  ⟨Nat.lt_of_lt_of_le h.1 (Nat.pow_le_pow_right (by decide) hm), Nat.lt_of_lt_of_le h.2 (Nat.pow_le_pow_right (by decide) hm)⟩
theorem sum_lt {n m : Nat} {a b : Rat} (ha : Fit n a) (hb : Fit m b) : (a.num * b.den + b.num * a.den).natAbs < 2 ^ (n + m + 1) ∧ (a.num * b.den - b.num * a.den).natAbs < 2 ^ (n + m + 1) := by
  have h1 : (a.num * (b.den : Int)).natAbs < 2 ^ (n + m) := by
    rw [Int.natAbs_mul]
    exact pow_split ha.1 hb.2
  have h2 : (b.num * (a.den : Int)).natAbs < 2 ^ (n + m) := by
    rw [Int.natAbs_mul, Nat.add_comm]
    exact pow_split hb.1 ha.2
  rw [Nat.pow_succ]
  omega
theorem den_lt {n m : Nat} {a b : Rat} (ha : Fit n a) (hb : Fit m b) : ((a.den : Int) * (b.den : Int)).natAbs < 2 ^ (n + m) := by
  rw [Int.natAbs_mul]
  exact pow_split ha.2 hb.2
theorem Fit.add {n m : Nat} {a b : Rat} (ha : Fit n a) (hb : Fit m b) : Fit (n + m + 1) (a + b) := by
  rw [add_divInt]
  exact ⟨Nat.lt_of_le_of_lt (divInt_num_le (dens_ne a b)) (sum_lt ha hb).1, Nat.lt_of_le_of_lt (divInt_den_le (dens_ne a b)) (Nat.lt_of_lt_of_le (den_lt ha hb) (Nat.pow_le_pow_right (by decide) (by omega)))⟩
theorem Fit.sub {n m : Nat} {a b : Rat} (ha : Fit n a) (hb : Fit m b) : Fit (n + m + 1) (a - b) := by
  rw [sub_divInt]
  exact ⟨Nat.lt_of_le_of_lt (divInt_num_le (dens_ne a b)) (sum_lt ha hb).2, Nat.lt_of_le_of_lt (divInt_den_le (dens_ne a b)) (Nat.lt_of_lt_of_le (den_lt ha hb) (Nat.pow_le_pow_right (by decide) (by omega)))⟩
theorem Fit.mul {n m : Nat} {a b : Rat} (ha : Fit n a) (hb : Fit m b) : Fit (n + m) (a * b) := by
  rw [mul_divInt]
  refine ⟨Nat.lt_of_le_of_lt (divInt_num_le (dens_ne a b)) ?_, Nat.lt_of_le_of_lt (divInt_den_le (dens_ne a b)) (den_lt ha hb)⟩
  rw [Int.natAbs_mul]
  exact pow_split ha.1 hb.1
theorem num_ne {b : Rat} (h : b ≠ 0) : b.num ≠ 0 := fun z => h (Rat.num_eq_zero.mp z)
theorem Fit.div {n m : Nat} {a b : Rat} (ha : Fit n a) (hb : Fit m b) (h0 : b ≠ 0) : Fit (n + m) (a / b) := by
  have h1 := a.den_pos
  have hd : (a.den : Int) * b.num ≠ 0 := Int.mul_ne_zero (by omega) (num_ne h0)
  rw [div_divInt]
  refine ⟨Nat.lt_of_le_of_lt (divInt_num_le hd) ?_, Nat.lt_of_le_of_lt (divInt_den_le hd) ?_⟩
  · rw [Int.natAbs_mul]
    exact pow_split ha.1 hb.2
  · rw [Int.natAbs_mul]
    exact pow_split ha.2 hb.1
theorem Fit.neg {n : Nat} {a : Rat} (ha : Fit n a) : Fit n (-a) := by
  refine ⟨?_, ha.2⟩
  rw [Rat.neg_num, Int.natAbs_neg]
  exact ha.1
/-- two fractions whose products are not too large -/
def Two (a b : Rat) : Prop := ∃ n m, Fit n a ∧ Fit m b ∧ n + m ≤ 9000
theorem Two.mul1 {a b : Rat} (h : Two a b) : CMulB a.num (b.den : Int) := by
  obtain ⟨n, m, ha, hb, hs⟩ := h
  exact mulB_of ha.1 hb.2 (by omega)
theorem Two.symm {a b : Rat} (h : Two a b) : Two b a := by
  obtain ⟨n, m, ha, hb, hs⟩ := h
  exact ⟨m, n, hb, ha, by omega⟩
theorem Two.mulD {a b : Rat} (h : Two a b) : CMulB (a.den : Int) (b.den : Int) := by
  obtain ⟨n, m, ha, hb, hs⟩ := h
  exact mulB_of ha.2 hb.2 (by omega)
theorem Two.mulN {a b : Rat} (h : Two a b) : CMulB a.num b.num := by
  obtain ⟨n, m, ha, hb, hs⟩ := h
  exact mulB_of ha.1 hb.1 (by omega)
theorem lt_log {x n : Nat} (h0 : x ≠ 0) (h : x < 2 ^ n) (hn : n ≤ 9000) : x.log2 < 9000 := Nat.lt_of_lt_of_le ((Nat.log2_lt h0).mpr h) hn
theorem Two.den {a b : Rat} (h : Two a b) : ((a.den : Int) * (b.den : Int)).natAbs.log2 < 9000 := by
  obtain ⟨n, m, ha, hb, hs⟩ := h
  have := dens_ne a b
  exact lt_log (by omega) (den_lt ha hb) hs
theorem Two.den2 {a b : Rat} (h : Two a b) (h0 : b ≠ 0) : (a.den : Int) * b.num ≠ 0 ∧ ((a.den : Int) * b.num).natAbs.log2 < 9000 := by
  obtain ⟨n, m, ha, hb, hs⟩ := h
  have h1 := a.den_pos
  have hd : (a.den : Int) * b.num ≠ 0 := Int.mul_ne_zero (by omega) (num_ne h0)
  refine ⟨hd, lt_log (by omega) ?_ hs⟩
  rw [Int.natAbs_mul]
  exact pow_split ha.2 hb.1
def F_plus (ds : List D) (d : D) : Prop := ∃ a b : Rat, Two a b ∧ ds = [dR a, dR b] ∧ d = dR (a + b)
def F_minus (ds : List D) (d : D) : Prop := ∃ a b : Rat, Two a b ∧ ds = [dR a, dR b] ∧ d = dR (a - b)
def F_times (ds : List D) (d : D) : Prop := ∃ a b : Rat, Two a b ∧ ds = [dR a, dR b] ∧ d = dR (a * b)
def F_over (ds : List D) (d : D) : Prop := ∃ a b : Rat, Two a b ∧ b ≠ 0 ∧ ds = [dR a, dR b] ∧ d = dR (a / b)
/-- 1, 0 or -1 -/
def cmpR (a b : Rat) : Int := if a < b then -1 else if b < a then 1 else 0
def F_compare (ds : List D) (d : D) : Prop := ∃ a b : Rat, Two a b ∧ ds = [dR a, dR b] ∧ d = .int (cmpR a b)
abbrev C_plus : Con := CP F_plus
abbrev C_minus : Con := CP F_minus
abbrev C_times : Con := CP F_times
abbrev C_over : Con := CP F_over
abbrev C_compare : Con := CP F_compare
/-! plus: slots 0 a, 1 b -/
abbrev s_plus : Stmt := topS 3
theorem sc_plus : FnScope ["a", "b"] ["a", "b"] (defScope s_plus) := ⟨rfl, rfl, rfl, by decide +kernel, rfl, by decide +kernel, by decide +kernel⟩
def t_plus (K : PySem.W.Frag) : TS :=
  (tRet (tCall (spD K C_fraction) [] E0 (tCons (tOp (rAddU K) (tOp (rMulU K) (tOp (rIx K) (tVar 0) (tC (.int 0))) (tOp (rIx K) (tVar 1) (tC (.int 1)))) (tOp (rMulU K) (tOp (rIx K) (tVar 1) (tC (.int 0))) (tOp (rIx K) (tVar 0) (tC (.int 1))))) (tCons (tOp (rMulU K) (tOp (rIx K) (tVar 0) (tC (.int 1))) (tOp (rIx K) (tVar 1) (tC (.int 1)))) tNil))))
theorem tm_plus {P : Program} {w : World} {K : PySem.W.Frag} {mg : Str → Option Value} {base : Heap} (B : Blt mg) (c_fraction : C8.Cal P w K mg base 1 "fraction" (spD K C_fraction) []) {f : Addr} {cdv : Value} {A : Around} {outer : List Env} {s : Shared} {H : Hp} {E : XK} (hr : Room 1 (A.deeper (envOfC "plus" (defScope s_plus) s.heap.objs.size f cdv))) :
    PSs (cxOf CX0 P w K mg base ["a", "b"] "plus" (defScope s_plus) f cdv A outer s H E).nox (defBody s_plus) (t_plus K) := by
  have nd := sc_plus.nd
  exact (pss_one (ps_ret (C8.pe_c c_fraction hr (by decide) (by rfl) (pa_cons (pe_op op_addU (pe_op op_mulU (pe_ix ix_seq (pv 0) pe_int (fun _ _ => rfl)) (pe_ix ix_seq (pv 1) pe_int (fun _ _ => rfl))) (pe_op op_mulU (pe_ix ix_seq (pv 1) pe_int (fun _ _ => rfl)) (pe_ix ix_seq (pv 0) pe_int (fun _ _ => rfl)))) (pa_cons (pe_op op_mulU (pe_ix ix_seq (pv 0) pe_int (fun _ _ => rfl)) (pe_ix ix_seq (pv 1) pe_int (fun _ _ => rfl))) pa_nil)))))

/-! minus: slots 0 a, 1 b -/
abbrev s_minus : Stmt := topS 4
theorem sc_minus : FnScope ["a", "b"] ["a", "b"] (defScope s_minus) := ⟨rfl, rfl, rfl, by decide +kernel, rfl, by decide +kernel, by decide +kernel⟩
def t_minus (K : PySem.W.Frag) : TS :=
  (tRet (tCall (spD K C_fraction) [] E0 (tCons (tOp rSubU (tOp (rMulU K) (tOp (rIx K) (tVar 0) (tC (.int 0))) (tOp (rIx K) (tVar 1) (tC (.int 1)))) (tOp (rMulU K) (tOp (rIx K) (tVar 1) (tC (.int 0))) (tOp (rIx K) (tVar 0) (tC (.int 1))))) (tCons (tOp (rMulU K) (tOp (rIx K) (tVar 0) (tC (.int 1))) (tOp (rIx K) (tVar 1) (tC (.int 1)))) tNil))))
theorem tm_minus {P : Program} {w : World} {K : PySem.W.Frag} {mg : Str → Option Value} {base : Heap} (B : Blt mg) (c_fraction : C8.Cal P w K mg base 1 "fraction" (spD K C_fraction) []) {f : Addr} {cdv : Value} {A : Around} {outer : List Env} {s : Shared} {H : Hp} {E : XK} (hr : Room 1 (A.deeper (envOfC "minus" (defScope s_minus) s.heap.objs.size f cdv))) :
    PSs (cxOf CX0 P w K mg base ["a", "b"] "minus" (defScope s_minus) f cdv A outer s H E).nox (defBody s_minus) (t_minus K) := by
  have nd := sc_minus.nd
  exact (pss_one (ps_ret (C8.pe_c c_fraction hr (by decide) (by rfl) (pa_cons (pe_op op_subU (pe_op op_mulU (pe_ix ix_seq (pv 0) pe_int (fun _ _ => rfl)) (pe_ix ix_seq (pv 1) pe_int (fun _ _ => rfl))) (pe_op op_mulU (pe_ix ix_seq (pv 1) pe_int (fun _ _ => rfl)) (pe_ix ix_seq (pv 0) pe_int (fun _ _ => rfl)))) (pa_cons (pe_op op_mulU (pe_ix ix_seq (pv 0) pe_int (fun _ _ => rfl)) (pe_ix ix_seq (pv 1) pe_int (fun _ _ => rfl))) pa_nil)))))

/-! times: slots 0 a, 1 b -/
abbrev s_times : Stmt := topS 5
theorem sc_times : FnScope ["a", "b"] ["a", "b"] (defScope s_times) := ⟨rfl, rfl, rfl, by decide +kernel, rfl, by decide +kernel, by decide +kernel⟩
def t_times (K : PySem.W.Frag) : TS :=
  (tRet (tCall (spD K C_fraction) [] E0 (tCons (tOp (rMulU K) (tOp (rIx K) (tVar 0) (tC (.int 0))) (tOp (rIx K) (tVar 1) (tC (.int 0)))) (tCons (tOp (rMulU K) (tOp (rIx K) (tVar 0) (tC (.int 1))) (tOp (rIx K) (tVar 1) (tC (.int 1)))) tNil))))
theorem tm_times {P : Program} {w : World} {K : PySem.W.Frag} {mg : Str → Option Value} {base : Heap} (B : Blt mg) (c_fraction : C8.Cal P w K mg base 1 "fraction" (spD K C_fraction) []) {f : Addr} {cdv : Value} {A : Around} {outer : List Env} {s : Shared} {H : Hp} {E : XK} (hr : Room 1 (A.deeper (envOfC "times" (defScope s_times) s.heap.objs.size f cdv))) :
    PSs (cxOf CX0 P w K mg base ["a", "b"] "times" (defScope s_times) f cdv A outer s H E).nox (defBody s_times) (t_times K) := by
  have nd := sc_times.nd
  exact (pss_one (ps_ret (C8.pe_c c_fraction hr (by decide) (by rfl) (pa_cons (pe_op op_mulU (pe_ix ix_seq (pv 0) pe_int (fun _ _ => rfl)) (pe_ix ix_seq (pv 1) pe_int (fun _ _ => rfl))) (pa_cons (pe_op op_mulU (pe_ix ix_seq (pv 0) pe_int (fun _ _ => rfl)) (pe_ix ix_seq (pv 1) pe_int (fun _ _ => rfl))) pa_nil)))))

/-! over: slots 0 a, 1 b -/
abbrev s_over : Stmt := topS 6
theorem sc_over : FnScope ["a", "b"] ["a", "b"] (defScope s_over) := ⟨rfl, rfl, rfl, by decide +kernel, rfl, by decide +kernel, by decide +kernel⟩
def t_over (K : PySem.W.Frag) : TS :=
  (tRet (tCall (spD K C_fraction) [] E0 (tCons (tOp (rMulU K) (tOp (rIx K) (tVar 0) (tC (.int 0))) (tOp (rIx K) (tVar 1) (tC (.int 1)))) (tCons (tOp (rMulU K) (tOp (rIx K) (tVar 0) (tC (.int 1))) (tOp (rIx K) (tVar 1) (tC (.int 0)))) tNil))))
theorem tm_over {P : Program} {w : World} {K : PySem.W.Frag} {mg : Str → Option Value} {base : Heap} (B : Blt mg) (c_fraction : C8.Cal P w K mg base 1 "fraction" (spD K C_fraction) []) {f : Addr} {cdv : Value} {A : Around} {outer : List Env} {s : Shared} {H : Hp} {E : XK} (hr : Room 1 (A.deeper (envOfC "over" (defScope s_over) s.heap.objs.size f cdv))) :
    PSs (cxOf CX0 P w K mg base ["a", "b"] "over" (defScope s_over) f cdv A outer s H E).nox (defBody s_over) (t_over K) := by
  have nd := sc_over.nd
  exact (pss_one (ps_ret (C8.pe_c c_fraction hr (by decide) (by rfl) (pa_cons (pe_op op_mulU (pe_ix ix_seq (pv 0) pe_int (fun _ _ => rfl)) (pe_ix ix_seq (pv 1) pe_int (fun _ _ => rfl))) (pa_cons (pe_op op_mulU (pe_ix ix_seq (pv 0) pe_int (fun _ _ => rfl)) (pe_ix ix_seq (pv 1) pe_int (fun _ _ => rfl))) pa_nil)))))

/-! compare: slots 0 a, 1 b, 2 gap -/
abbrev s_compare : Stmt := topS 7
theorem sc_compare : FnScope ["a", "b", "gap"] ["a", "b"] (defScope s_compare) := ⟨rfl, rfl, rfl, by decide +kernel, rfl, by decide +kernel, by decide +kernel⟩
def t_compare (K : PySem.W.Frag) : TS :=
  (tSeq (tAsg (tOp rSubU (tOp (rMulU K) (tOp (rIx K) (tVar 0) (tC (.int 0))) (tOp (rIx K) (tVar 1) (tC (.int 1)))) (tOp (rMulU K) (tOp (rIx K) (tVar 1) (tC (.int 0))) (tOp (rIx K) (tVar 0) (tC (.int 1))))) (gName 2))
    (tRet (tOp rSubU (tOp (rI0 fun i j => .bl (decide (j < i))) (tVar 2) (tC (.int 0))) (tOp (rI0 fun i j => .bl (decide (i < j))) (tVar 2) (tC (.int 0))))))
theorem tm_compare {P : Program} {w : World} {K : PySem.W.Frag} {mg : Str → Option Value} {base : Heap} (B : Blt mg) {f : Addr} {cdv : Value} {A : Around} {outer : List Env} {s : Shared} {H : Hp} {E : XK} (hr : Room 0 (A.deeper (envOfC "compare" (defScope s_compare) s.heap.objs.size f cdv))) :
    PSs (cxOf CX0 P w K mg base ["a", "b", "gap"] "compare" (defScope s_compare) f cdv A outer s H E).nox (defBody s_compare) (t_compare K) := by
  have nd := sc_compare.nd
  exact (pss_cons (ps_set (i := 2) nd rfl (Or.inl rfl) (pe_op op_subU (pe_op op_mulU (pe_ix ix_seq (pv 0) pe_int (fun _ _ => rfl)) (pe_ix ix_seq (pv 1) pe_int (fun _ _ => rfl))) (pe_op op_mulU (pe_ix ix_seq (pv 1) pe_int (fun _ _ => rfl)) (pe_ix ix_seq (pv 0) pe_int (fun _ _ => rfl)))))
    (pss_one (ps_ret (pe_op op_subU (pe_cmpR op_gt (pv 2) pe_int (nomark _)) (pe_cmpR op_lt (pv 2) pe_int (nomark _))))))

theorem run_plus {K : PySem.W.Frag} : BodyOk K (t_plus K) 0 C_plus := by
  refine body_pure ?_
  rintro ds d ⟨a, b, h, rfl, rfl⟩
  refine ⟨[.fr (dR a), .fr (dR b)], ?_, Nat.le_of_ble_eq_true rfl⟩
  show StJ K (t_plus K) [.fr (dR a), .fr (dR b)] _
  rw [add_divInt]
  apply q_ret
  · apply ev_callP
    · walk_at "ev"
      · exact h.mul1
      · exact h.symm.mul1
      · exact h.mulD
    · rfl
    · exact ⟨_, _, dens_ne a b, h.den, rfl, rfl⟩
  · rfl
theorem run_minus {K : PySem.W.Frag} : BodyOk K (t_minus K) 0 C_minus := by
  refine body_pure ?_
  rintro ds d ⟨a, b, h, rfl, rfl⟩
  refine ⟨[.fr (dR a), .fr (dR b)], ?_, Nat.le_of_ble_eq_true rfl⟩
  show StJ K (t_minus K) [.fr (dR a), .fr (dR b)] _
  rw [sub_divInt]
  apply q_ret
  · apply ev_callP
    · walk_at "ev"
      · exact h.mul1
      · exact h.symm.mul1
      · exact h.mulD
    · rfl
    · exact ⟨_, _, dens_ne a b, h.den, rfl, rfl⟩
  · rfl
theorem run_times {K : PySem.W.Frag} : BodyOk K (t_times K) 0 C_times := by
  refine body_pure ?_
  rintro ds d ⟨a, b, h, rfl, rfl⟩
  refine ⟨[.fr (dR a), .fr (dR b)], ?_, Nat.le_of_ble_eq_true rfl⟩
  show StJ K (t_times K) [.fr (dR a), .fr (dR b)] _
  rw [mul_divInt]
  apply q_ret
  · apply ev_callP
    · walk_at "ev"
      · exact h.mulN
      · exact h.mulD
    · rfl
    · exact ⟨_, _, dens_ne a b, h.den, rfl, rfl⟩
  · rfl
theorem run_over {K : PySem.W.Frag} : BodyOk K (t_over K) 0 C_over := by
  refine body_pure ?_
  rintro ds d ⟨a, b, h, h0, rfl, rfl⟩
  refine ⟨[.fr (dR a), .fr (dR b)], ?_, Nat.le_of_ble_eq_true rfl⟩
  show StJ K (t_over K) [.fr (dR a), .fr (dR b)] _
  obtain ⟨d1, d2⟩ := h.den2 h0
  rw [div_divInt]
  apply q_ret
  · apply ev_callP
    · walk_at "ev"
      · exact h.mul1
      · obtain ⟨n, m, ha, hb, hs⟩ := h
        exact mulB_of ha.2 hb.1 (by omega)
    · rfl
    · exact ⟨_, _, d1, d2, rfl, rfl⟩
  · rfl
theorem cmp_eq (a b : Rat) : (if decide (0 < a.num * b.den - b.num * a.den) = true then (1 : Int) else 0) - (if decide (a.num * b.den - b.num * a.den < 0) = true then (1 : Int) else 0) = cmpR a b := by
  have e1 := Rat.lt_iff a b
  have e2 := Rat.lt_iff b a
  unfold cmpR
  simp only [decide_eq_true_eq]
  by_cases h1 : a < b
  · have := e1.mp h1
    rw [if_pos h1, if_neg (by omega), if_pos (by omega)]
    rfl
  · have n1 : ¬ (a.num * (b.den : Int) < b.num * (a.den : Int)) := fun z => h1 (e1.mpr z)
    rw [if_neg h1]
    by_cases h2 : b < a
    · have := e2.mp h2
      rw [if_pos h2, if_pos (by omega), if_neg (by omega)]
      rfl
    · have n2 : ¬ (b.num * (a.den : Int) < a.num * (b.den : Int)) := fun z => h2 (e2.mpr z)
      rw [if_neg h2, if_neg (by omega), if_neg (by omega)]
      rfl
theorem run_compare {K : PySem.W.Frag} : BodyOk K (t_compare K) 1 C_compare := by
  refine body_pure ?_
  rintro ds d ⟨a, b, h, rfl, rfl⟩
  refine ⟨[.fr (dR a), .fr (dR b), .fr (.int (a.num * b.den - b.num * a.den))], ?_, Nat.le_of_ble_eq_true rfl⟩
  show StJ K (t_compare K) [.fr (dR a), .fr (dR b), .no] _
  rw [← cmp_eq]
  apply q_set
  · walk_at "ev"
    · exact h.mul1
    · exact h.symm.mul1
  · walk_at "np"
  apply q_ret
  · walk_at "ev"
  · rfl
section
variable {P : Program} {w : World} {K : PySem.W.Frag} {mg : Str → Option Value} {base : Heap}
theorem ok_plus (B : Blt mg) (Df : DefAt K mg "plus" s_plus ["a", "b"]) (c : C8.Cal P w K mg base 1 "fraction" (spD K C_fraction) []) : C8.Cal P w K mg base 2 "plus" (spD K C_plus) [] :=
  cal_of Df sc_plus (fun args r args' ⟨ds, d, ⟨n, m, _, e1, _⟩, e2, _⟩ => by rw [e2, e1]; rfl) rfl fun f cdv A outer s H E hr => ⟨t_plus K, tm_plus B c hr, run_plus⟩
theorem ok_minus (B : Blt mg) (Df : DefAt K mg "minus" s_minus ["a", "b"]) (c : C8.Cal P w K mg base 1 "fraction" (spD K C_fraction) []) : C8.Cal P w K mg base 2 "minus" (spD K C_minus) [] :=
  cal_of Df sc_minus (fun args r args' ⟨ds, d, ⟨n, m, _, e1, _⟩, e2, _⟩ => by rw [e2, e1]; rfl) rfl fun f cdv A outer s H E hr => ⟨t_minus K, tm_minus B c hr, run_minus⟩
theorem ok_times (B : Blt mg) (Df : DefAt K mg "times" s_times ["a", "b"]) (c : C8.Cal P w K mg base 1 "fraction" (spD K C_fraction) []) : C8.Cal P w K mg base 2 "times" (spD K C_times) [] :=
  cal_of Df sc_times (fun args r args' ⟨ds, d, ⟨n, m, _, e1, _⟩, e2, _⟩ => by rw [e2, e1]; rfl) rfl fun f cdv A outer s H E hr => ⟨t_times K, tm_times B c hr, run_times⟩
theorem ok_over (B : Blt mg) (Df : DefAt K mg "over" s_over ["a", "b"]) (c : C8.Cal P w K mg base 1 "fraction" (spD K C_fraction) []) : C8.Cal P w K mg base 2 "over" (spD K C_over) [] :=
  cal_of Df sc_over (fun args r args' ⟨ds, d, ⟨n, m, _, _, e1, _⟩, e2, _⟩ => by rw [e2, e1]; rfl) rfl fun f cdv A outer s H E hr => ⟨t_over K, tm_over B c hr, run_over⟩
theorem ok_compare (B : Blt mg) (Df : DefAt K mg "compare" s_compare ["a", "b"]) : C8.Cal P w K mg base 1 "compare" (spD K C_compare) [] :=
  cal_of Df sc_compare (fun args r args' ⟨ds, d, ⟨n, m, _, e1, _⟩, e2, _⟩ => by rw [e2, e1]; rfl) rfl fun f cdv A outer s H E hr => ⟨t_compare K, tm_compare B hr, run_compare⟩
end
end DL
namespace DL
open PySem PySem.Spec PyProof.Rows L2
local macro_rules | `(tactic| walk_at "len") => `(tactic| exact Nat.le_of_ble_eq_true rfl)
local macro_rules | `(tactic| walk_at "np") => `(tactic| (intro o z; cases z))
local macro_rules | `(tactic| walk_at "od") => `(tactic| first
  | exact od_addI | exact od_subI | exact od_subB | exact od_I0b | exact od_I0
  | exact od_ix rfl rfl | exact od_eq rfl rfl rfl rfl | exact od_ne rfl rfl rfl rfl | exact od_isN | exact od_notN
  | with_reducible apply od_mulI | with_reducible apply od_I | exact ud_I)
local macro_rules | `(tactic| walk_at "cd") => `(tactic| first
  | exact cd_len rfl | exact cd_abs | exact cd_int | exact cd_intB | exact cd_gcd | exact cd_tup rfl | exact cd_lst rfl)
local macro_rules | `(tactic| walk_at "ev1") => `(tactic| first
  | exact ev_int | exact ev_bl | exact ev_str | exact ev_non | exact ev_var rfl | exact ev_varO rfl
  | with_reducible apply ev_op | with_reducible apply ev_un
  | exact ea_nil | with_reducible apply ea_cons
  | with_reducible apply ev_isi | with_reducible apply ev_dget
  | with_reducible apply ev_cb
  | with_reducible apply ev_tup' | with_reducible apply ev_lstF
  | with_reducible apply tt_test | with_reducible apply tt_B | with_reducible apply tt_not
  | walk_at "od" | walk_at "cd" | walk_at "len" | rfl)
local macro_rules | `(tactic| walk_at "ev") => `(tactic| repeat' walk_at "ev1")
local macro_rules | `(tactic| walk_at "set") => `(tactic| (with_reducible apply q_set; rotate_left; walk_at "np"; rotate_left; walk_at "ev"))

/-! ### the law's draws -/
def stL (c a l m : D) : List (Key × D) := [(kCells, c), (kAt, a), (kLeft, l), (kMix, m)]
theorem kd_cells {c a l m : D} : kdGet (stL c a l m) (.inr "cells") = some c := by simp [stL, kdGet, kCells]
theorem kd_at {c a l m : D} : kdGet (stL c a l m) (.inr "at") = some a := by
  have h : ("cells" : Str) ≠ "at" := by decide
  simp [stL, kdGet, kCells, kAt, h]
theorem kd_left {c a l m : D} : kdGet (stL c a l m) (.inr "left") = some l := by
  have h : ("cells" : Str) ≠ "left" := by decide
  have h2 : ("at" : Str) ≠ "left" := by decide
  simp [stL, kdGet, kCells, kAt, kLeft, h, h2]
theorem kd_mix {c a l m : D} : kdGet (stL c a l m) (.inr "mix") = some m := by
  have h : ("cells" : Str) ≠ "mix" := by decide
  have h2 : ("at" : Str) ≠ "mix" := by decide
  have h3 : ("left" : Str) ≠ "mix" := by decide
  simp [stL, kdGet, kCells, kAt, kLeft, kMix, h, h2, h3]
theorem kp_at {c a l m x : D} : kdPut (stL c a l m) (.inr "at") x = stL c x l m := by
  have h : ("cells" : Str) ≠ "at" := by decide
  simp [stL, kdPut, kCells, kAt, h]
theorem kp_left {c a l m x : D} : kdPut (stL c a l m) (.inr "left") x = stL c a x m := by
  have h : ("cells" : Str) ≠ "left" := by decide
  have h2 : ("at" : Str) ≠ "left" := by decide
  simp [stL, kdPut, kCells, kAt, kLeft, h, h2]
theorem kp_mix {c a l m x : D} : kdPut (stL c a l m) (.inr "mix") x = stL c a l x := by
  have h : ("cells" : Str) ≠ "mix" := by decide
  have h2 : ("at" : Str) ≠ "mix" := by decide
  have h3 : ("left" : Str) ≠ "mix" := by decide
  simp [stL, kdPut, kCells, kAt, kLeft, kMix, h, h2, h3]
section
variable {K : PySem.W.Frag} {δ δ1 δ2 : List Sl} {td tv : TE} {u : TS} {out : Out} {i : Nat} {b : Bool} {s : DS} {x : Int}
theorem ev_cells (hd : EvJ K td δ (.al i) δ1) (hi : δ1[i]? = some (.ob b (stO s))) : EvJ K (tDGet td (tC (.str ("cells" : Str)))) δ (.fr (.list (s.cells.map .int))) δ1 := ev_dget (k := .inr "cells") (kvs' := []) hd ev_str hi kd_cells
theorem ev_at (hd : EvJ K td δ (.al i) δ1) (hi : δ1[i]? = some (.ob b (stO s))) : EvJ K (tDGet td (tC (.str ("at" : Str)))) δ (.fr (.int s.at_)) δ1 := ev_dget (k := .inr "at") (kvs' := []) hd ev_str hi kd_at
theorem ev_left (hd : EvJ K td δ (.al i) δ1) (hi : δ1[i]? = some (.ob b (stO s))) : EvJ K (tDGet td (tC (.str ("left" : Str)))) δ (.fr (.int s.left)) δ1 := ev_dget (k := .inr "left") (kvs' := []) hd ev_str hi kd_left
theorem ev_mix (hd : EvJ K td δ (.al i) δ1) (hi : δ1[i]? = some (.ob b (stO s))) : EvJ K (tDGet td (tC (.str ("mix" : Str)))) δ (.fr (.int s.mix)) δ1 := ev_dget (k := .inr "mix") (kvs' := []) hd ev_str hi kd_mix
theorem st_at (he : EvJ K tv δ (.fr (.int x)) δ1) (hd : EvJ K td δ1 (.al i) δ2) (hi : δ2[i]? = some (.ob b (stO s))) : StJ K (sDPut td (tC (.str ("at" : Str))) tv) δ (.nx (δ2.set i (.ob b (stO { s with at_ := x })))) :=
  (st_dput (k := .inr "at") he hd ev_str hi (Nat.le_of_ble_eq_true rfl)).cast (congrArg (fun z => Out.nx (δ2.set i (.ob b (.K z)))) kp_at)
theorem st_left (he : EvJ K tv δ (.fr (.int x)) δ1) (hd : EvJ K td δ1 (.al i) δ2) (hi : δ2[i]? = some (.ob b (stO s))) : StJ K (sDPut td (tC (.str ("left" : Str))) tv) δ (.nx (δ2.set i (.ob b (stO { s with left := x })))) :=
  (st_dput (k := .inr "left") he hd ev_str hi (Nat.le_of_ble_eq_true rfl)).cast (congrArg (fun z => Out.nx (δ2.set i (.ob b (.K z)))) kp_left)
theorem st_mix (he : EvJ K tv δ (.fr (.int x)) δ1) (hd : EvJ K td δ1 (.al i) δ2) (hi : δ2[i]? = some (.ob b (stO s))) : StJ K (sDPut td (tC (.str ("mix" : Str))) tv) δ (.nx (δ2.set i (.ob b (stO { s with mix := x })))) :=
  (st_dput (k := .inr "mix") he hd ev_str hi (Nat.le_of_ble_eq_true rfl)).cast (congrArg (fun z => Out.nx (δ2.set i (.ob b (.K z)))) kp_mix)
theorem q_at (he : EvJ K tv δ (.fr (.int x)) δ1) (hd : EvJ K td δ1 (.al i) δ2) (hi : δ2[i]? = some (.ob b (stO s))) (k : StJ K u (δ2.set i (.ob b (stO { s with at_ := x }))) out) : StJ K (tSeq (sDPut td (tC (.str ("at" : Str))) tv) u) δ out := st_seq (st_at he hd hi) k
theorem q_left (he : EvJ K tv δ (.fr (.int x)) δ1) (hd : EvJ K td δ1 (.al i) δ2) (hi : δ2[i]? = some (.ob b (stO s))) (k : StJ K u (δ2.set i (.ob b (stO { s with left := x }))) out) : StJ K (tSeq (sDPut td (tC (.str ("left" : Str))) tv) u) δ out := st_seq (st_left he hd hi) k
theorem q_mix (he : EvJ K tv δ (.fr (.int x)) δ1) (hd : EvJ K td δ1 (.al i) δ2) (hi : δ2[i]? = some (.ob b (stO s))) (k : StJ K u (δ2.set i (.ob b (stO { s with mix := x }))) out) : StJ K (tSeq (sDPut td (tC (.str ("mix" : Str))) tv) u) δ out := st_seq (st_mix he hd hi) k
end
local macro_rules | `(tactic| walk_at "ev1") => `(tactic| first
  | with_reducible apply ev_cells | with_reducible apply ev_at | with_reducible apply ev_left | with_reducible apply ev_mix)
/-! _law_start -/
def DS.init (ns : List Int) : DS := ⟨ns.map fun i => (i.natAbs : Int), 0, 0, 7 + ns.length⟩
theorem DS.init_ok {ns : List Int} (h : ns.length ≤ 63) : (DS.init ns).ok := by
  refine ⟨fun c hc => ?_, ?_, Int.le_refl 0, Int.le_refl 0, ?_, ?_⟩
  · obtain ⟨i, _, rfl⟩ := List.mem_map.mp hc
    exact Int.natCast_nonneg _
  · show (ns.map _).length ≤ 1000
    rw [List.length_map]
    omega
  · show (0 : Int) ≤ 7 + ns.length
    omega
  · show (7 : Int) + ns.length < 2147483647
    omega
def C__law_start : Con := fun args r args' => ∃ ns : List Int, ns.length ≤ 63 ∧ args = [.fr (.list (ns.map .int))] ∧ r = .new (stO (DS.init ns)) ∧ args' = args
def absD : D → D
  | .int i => .int (i.natAbs : Int)
  | d => d
/-! _law_start: slots 0 _law_script, 1 _law_cell -/
abbrev s__law_start : Stmt := topS 9
theorem sc__law_start : FnScope ["_law_script", "_law_cell"] ["_law_script"] (defScope s__law_start) := ⟨rfl, rfl, rfl, by decide +kernel, rfl, by decide +kernel, by decide +kernel⟩
def t__law_start (K : PySem.W.Frag) : TS :=
  (tRet (tDisp [((tC (.str ("cells" : Str))), (tLc (iList K (tVar 0)) (gName 1) tYes (tCB rAbs (tCons (tCB rInt1 (tCons (tVar 1) tNil)) tNil)) [1])), ((tC (.str ("at" : Str))), (tC (.int 0))), ((tC (.str ("left" : Str))), (tC (.int 0))), ((tC (.str ("mix" : Str))), (tOp (rAddU K) (tC (.int 7)) (tCB (rLenU K) (tCons (tVar 0) tNil))))]))
theorem tm__law_start {P : Program} {w : World} {K : PySem.W.Frag} {mg : Str → Option Value} {base : Heap} (B : Blt mg) {f : Addr} {cdv : Value} {A : Around} {outer : List Env} {s : Shared} {H : Hp} {E : XK} (hr : Room 0 (A.deeper (envOfC "_law_start" (defScope s__law_start) s.heap.objs.size f cdv))) :
    PSs (cxOf CX0 P w K mg base ["_law_script", "_law_cell"] "_law_start" (defScope s__law_start) f cdv A outer s H E).nox (defBody s__law_start) (t__law_start K) := by
  have nd := sc__law_start.nd
  exact (pss_one (ps_ret (pe_disp (pps_cons pe_str (pe_lc (own := [("_law_cell", 1)]) (g := (gName 1)) (tt := tYes) rfl nd (pi_list (pv 0)) (blkOk_by (N := ["_law_script", "_law_cell"]) (sc := defScope s__law_start) (by decide +kernel)) (fun _ _ _ _ _ => (pg_name (i := 1) nd rfl (Or.inl rfl))) (fun _ _ _ _ _ => pts_nil) (fun _ _ _ _ _ => (pe_callB call_absU (by rfl) B.abs_ boot_abs (pa_cons (pe_callTy call_int1U (by rfl) B.int_ boot_int (pa_cons (pv 1) pa_nil)) pa_nil)))) (pps_cons pe_str pe_int (pps_cons pe_str pe_int (pps_cons pe_str (pe_op op_addU pe_int (pe_callB call_lenU (by rfl) B.len_ PySem.boot_len (pa_cons (pv 0) pa_nil))) pps_nil)))) rfl rfl (by simp) (by decide))))

theorem run__law_start {K : PySem.W.Frag} : BodyOk K (t__law_start K) 1 C__law_start := by
  rintro args r args' ⟨ns, hn, rfl, rfl, rfl⟩
  refine ⟨fun i o h => fr_noob (ds := [.list (ns.map .int)]) i true o h, [.fr (.list (ns.map .int)), .no], .inl ?_, Nat.le_of_ble_eq_true rfl, rfl⟩
  show StJ K (t__law_start K) [.fr (.list (ns.map .int)), .no] _
  have e : stO (DS.init ns) = .K [(.inr "cells", .list ((ns.map PyData.int).map absD)), (.inr "at", .int 0), (.inr "left", .int 0), (.inr "mix", .int (7 + ((ns.map PyData.int).length : Int)))] := by
    unfold stO DS.init
    rw [List.map_map, List.map_map, List.length_map]
    rfl
  rw [e]
  apply q_ret
  · apply ev_disp
    · have h1 : EvJ K (tLc (iList K (tVar 0)) (gName 1) tYes (tCB rAbs (tCons (tCB rInt1 (tCons (tVar 1) tNil)) tNil)) [1]) [.fr (.list (ns.map .int)), .no] (.fr (.list ((ns.map PyData.int).map absD))) [.fr (.list (ns.map .int)), .no] := by
        apply ev_frz
        refine ev_lc (src_list (ev_var rfl)) (LcRel.map absD fun d hd => ?_) rfl rfl (fun i hi => ?_) ?_
        · obtain ⟨i, _, rfl⟩ := List.mem_map.mp hd
          refine ⟨[.fr (.list (ns.map .int)), .fr (.int i)], bw_name, ?_, fun j hj o => ?_, rfl⟩
          · show EvJ K _ _ (.fr (.int (i.natAbs : Int))) _
            walk_at "ev"
          · rw [List.mem_singleton.mp hj]
            intro z
            cases z
        · rw [List.mem_singleton.mp hi]
          intro o z
          cases z
        · rw [List.length_map]
          exact Nat.le_trans hn (by decide)
      have h2 : EvJ K (tOp (rAddU K) (tC (.int 7)) (tCB (rLenU K) (tCons (tVar 0) tNil))) [.fr (.list (ns.map .int)), .no] (.fr (.int (7 + ((ns.map PyData.int).length : Int)))) [.fr (.list (ns.map .int)), .no] := by
        walk_at "ev"
      exact .cons (k := .inr "cells") ev_str h1 (.cons (k := .inr "at") ev_str ev_int (.cons (k := .inr "left") ev_str ev_int (.cons (k := .inr "mix") ev_str h2 .nil)))
    · show [(Sum.inr "cells" : Key), .inr "at", .inr "left", .inr "mix"].Nodup
      decide
    · exact Nat.le_of_ble_eq_true rfl
  · rfl
/-! _law_draw -/
def F__law_draw (s : DS) (ds : List D) (d : D) (s' : DS) : Prop := ∃ b : Int, s.ok ∧ 0 < b ∧ b.natAbs.log2 < 9000 ∧ ds = [.int b] ∧ d = .int (draw s b).1 ∧ s' = (draw s b).2
abbrev C__law_draw : Con := CS F__law_draw
/-! _law_draw: slots 0 _law_state, 1 _law_bound, 2 _law_cell, 3 _law_number_here -/
abbrev s__law_draw : Stmt := topS 10
theorem sc__law_draw : FnScope ["_law_state", "_law_bound", "_law_cell", "_law_number_here"] ["_law_state", "_law_bound"] (defScope s__law_draw) := ⟨rfl, rfl, rfl, by decide +kernel, rfl, by decide +kernel, by decide +kernel⟩
def t__law_draw (K : PySem.W.Frag) : TS :=
  (tSeq (tIfS (tAnd (tTest (tOp (rEqD K) (tDGet (tVar 0) (tC (.str ("left" : Str)))) (tC (.int 0)))) (tTest (tOp (rI0 fun i j => .bl (decide (i < j))) (tDGet (tVar 0) (tC (.str ("at" : Str)))) (tCB (rLenU K) (tCons (tDGet (tVar 0) (tC (.str ("cells" : Str)))) tNil))))) (tSeq (tAsg (tOp (rIx K) (tDGet (tVar 0) (tC (.str ("cells" : Str)))) (tDGet (tVar 0) (tC (.str ("at" : Str))))) (gName 2))
    (tSeq (sDPut (tVar 0) (tC (.str ("at" : Str))) (tOp (rAddU K) (tDGet (tVar 0) (tC (.str ("at" : Str)))) (tC (.int 1))))
    (tSeq (sDPut (tVar 0) (tC (.str ("mix" : Str))) (tOp (rI (fun _ j => 0 < j) fun i j => .int (i % j)) (tCB rInt1 (tCons (tOp (rAddU K) (tOp (rAddU K) (tOp (rMulU K) (tDGet (tVar 0) (tC (.str ("mix" : Str)))) (tC (.int 48271))) (tVar 2)) (tC (.int 11))) tNil)) (tC (.int 2147483647))))
    (tSeq (tIfS (tTest (tOp (rI0 fun i j => .bl (decide (i < j))) (tVar 2) (tOp (rI CPow fun i j => .int (i ^ j.toNat)) (tC (.int 10)) (tC (.int 18))))) (tRet (tOp (rI (fun _ j => 0 < j) fun i j => .int (i % j)) (tCB rInt1 (tCons (tVar 2) tNil)) (tVar 1))) tNext)
    (sDPut (tVar 0) (tC (.str ("left" : Str))) (tVar 2)))))) tNext)
    (tSeq (tIfS (tTest (tOp (rI0 fun i j => .bl (decide (j < i))) (tDGet (tVar 0) (tC (.str ("left" : Str)))) (tC (.int 0)))) (tSeq (tAsg (tOp (rI (fun _ j => 0 < j) fun i j => .int (i % j)) (tCB rInt1 (tCons (tDGet (tVar 0) (tC (.str ("left" : Str)))) tNil)) (tVar 1)) (gName 3))
    (tSeq (sDPut (tVar 0) (tC (.str ("left" : Str))) (tOp (rI CDivR fun i j => .int (i.fdiv j)) (tDGet (tVar 0) (tC (.str ("left" : Str)))) (tVar 1)))
    (tRet (tVar 3)))) tNext)
    (tSeq (sDPut (tVar 0) (tC (.str ("mix" : Str))) (tOp (rI (fun _ j => 0 < j) fun i j => .int (i % j)) (tCB rInt1 (tCons (tOp (rAddU K) (tOp (rMulU K) (tDGet (tVar 0) (tC (.str ("mix" : Str)))) (tC (.int 48271))) (tC (.int 11))) tNil)) (tC (.int 2147483647))))
    (tRet (tOp (rI (fun _ j => 0 < j) fun i j => .int (i % j)) (tCB rInt1 (tCons (tOp (rI (fun _ j => 0 < j) fun i j => .int (i % j)) (tCB rInt1 (tCons (tOp (rAddU K) (tOp (rMulU K) (tDGet (tVar 0) (tC (.str ("mix" : Str)))) (tC (.int 69621))) (tC (.int 5))) tNil)) (tC (.int 2147483629))) tNil)) (tVar 1))))))
theorem tm__law_draw {P : Program} {w : World} {K : PySem.W.Frag} {mg : Str → Option Value} {base : Heap} (B : Blt mg) {f : Addr} {cdv : Value} {A : Around} {outer : List Env} {s : Shared} {H : Hp} {E : XK} (hr : Room 0 (A.deeper (envOfC "_law_draw" (defScope s__law_draw) s.heap.objs.size f cdv))) :
    PSs (cxOf CX0 P w K mg base ["_law_state", "_law_bound", "_law_cell", "_law_number_here"] "_law_draw" (defScope s__law_draw) f cdv A outer s H E).nox (defBody s__law_draw) (t__law_draw K) := by
  have nd := sc__law_draw.nd
  exact (pss_cons (ps_if ((pw_and (pt_cmpR (op_eqD hr.units) (pe_dget (hu_of hr) (pv 0) pe_str (fun _ _ => rfl)) pe_int (nomark _)) (pw_and1 (pt_cmpR op_lt (pe_dget (hu_of hr) (pv 0) pe_str (fun _ _ => rfl)) (pe_callB call_lenU (by rfl) B.len_ PySem.boot_len (pa_cons (pe_dget (hu_of hr) (pv 0) pe_str (fun _ _ => rfl)) pa_nil)) (nomark _))))).pt (pss_cons (ps_set (i := 2) nd rfl (Or.inl rfl) (pe_ix ix_seq (pe_dget (hu_of hr) (pv 0) pe_str (fun _ _ => rfl)) (pe_dget (hu_of hr) (pv 0) pe_str (fun _ _ => rfl)) (fun _ _ => rfl)))
    (pss_cons (ps_dput (hu_of hr) (pv 0) pe_str (pe_op op_addU (pe_dget (hu_of hr) (pv 0) pe_str (fun _ _ => rfl)) pe_int) rfl)
    (pss_cons (ps_dput (hu_of hr) (pv 0) pe_str (pe_op op_mod (pe_callTy call_int1U (by rfl) B.int_ boot_int (pa_cons (pe_op op_addU (pe_op op_addU (pe_op op_mulU (pe_dget (hu_of hr) (pv 0) pe_str (fun _ _ => rfl)) pe_int) (pv 2)) pe_int) pa_nil)) pe_int) rfl)
    (pss_cons (ps_if (pt_cmpR op_lt (pv 2) (pe_op op_pow pe_int pe_int) (nomark _)) (pss_one (ps_ret (pe_op op_mod (pe_callTy call_int1U (by rfl) B.int_ boot_int (pa_cons (pv 2) pa_nil)) (pv 1)))) pss_nil)
    (pss_one (ps_dput (hu_of hr) (pv 0) pe_str (pv 2) rfl)))))) pss_nil)
    (pss_cons (ps_if (pt_cmpR op_gt (pe_dget (hu_of hr) (pv 0) pe_str (fun _ _ => rfl)) pe_int (nomark _)) (pss_cons (ps_set (i := 3) nd rfl (Or.inl rfl) (pe_op op_mod (pe_callTy call_int1U (by rfl) B.int_ boot_int (pa_cons (pe_dget (hu_of hr) (pv 0) pe_str (fun _ _ => rfl)) pa_nil)) (pv 1)))
    (pss_cons (ps_dput (hu_of hr) (pv 0) pe_str (pe_op op_fdivR (pe_dget (hu_of hr) (pv 0) pe_str (fun _ _ => rfl)) (pv 1)) rfl)
    (pss_one (ps_ret (pv 3))))) pss_nil)
    (pss_cons (ps_dput (hu_of hr) (pv 0) pe_str (pe_op op_mod (pe_callTy call_int1U (by rfl) B.int_ boot_int (pa_cons (pe_op op_addU (pe_op op_mulU (pe_dget (hu_of hr) (pv 0) pe_str (fun _ _ => rfl)) pe_int) pe_int) pa_nil)) pe_int) rfl)
    (pss_one (ps_ret (pe_op op_mod (pe_callTy call_int1U (by rfl) B.int_ boot_int (pa_cons (pe_op op_mod (pe_callTy call_int1U (by rfl) B.int_ boot_int (pa_cons (pe_op op_addU (pe_op op_mulU (pe_dget (hu_of hr) (pv 0) pe_str (fun _ _ => rfl)) pe_int) pe_int) pa_nil)) pe_int) pa_nil)) (pv 1)))))))

theorem atI_getD {xs : List Int} {i : Int} (h0 : 0 ≤ i) (h : i < xs.length) : atI (xs.map PyData.int) i = some (.int (xs.getD i.toNat 0)) := by
  have e : ((i.toNat : Nat) : Int) = i := by omega
  have q : atI (xs.map PyData.int) ((i.toNat : Nat) : Int) = some (.int (xs.getD i.toNat 0)) := by
    refine atI_nat ?_
    rw [List.getElem?_map, List.getElem?_eq_getElem (by omega), List.getD_eq_getElem?_getD, List.getElem?_eq_getElem (by omega)]
    rfl
  rw [e] at q
  exact q
theorem mix_mul {m c : Int} (h0 : 0 ≤ m) (h1 : m < 2147483647) (hc : c.natAbs < 2 ^ 64) : CMulB m c := mulB_of (n := 31) (m := 64) (by omega) hc (by omega)
theorem run__law_drawTail {K : PySem.W.Frag} {s : DS} {b : Int} (hs : s.ok) (hb : 0 < b) (hl : b.natAbs.log2 < 9000) : ∃ y', StJ K
    (tSeq (tIfS (tTest (tOp (rI0 fun i j => .bl (decide (j < i))) (tDGet (tVar 0) (tC (.str ("left" : Str)))) (tC (.int 0)))) (tSeq (tAsg (tOp (rI (fun _ j => 0 < j) fun i j => .int (i % j)) (tCB rInt1 (tCons (tDGet (tVar 0) (tC (.str ("left" : Str)))) tNil)) (tVar 1)) (gName 3))
    (tSeq (sDPut (tVar 0) (tC (.str ("left" : Str))) (tOp (rI CDivR fun i j => .int (i.fdiv j)) (tDGet (tVar 0) (tC (.str ("left" : Str)))) (tVar 1)))
    (tRet (tVar 3)))) tNext)
    (tSeq (sDPut (tVar 0) (tC (.str ("mix" : Str))) (tOp (rI (fun _ j => 0 < j) fun i j => .int (i % j)) (tCB rInt1 (tCons (tOp (rAddU K) (tOp (rMulU K) (tDGet (tVar 0) (tC (.str ("mix" : Str)))) (tC (.int 48271))) (tC (.int 11))) tNil)) (tC (.int 2147483647))))
    (tRet (tOp (rI (fun _ j => 0 < j) fun i j => .int (i % j)) (tCB rInt1 (tCons (tOp (rI (fun _ j => 0 < j) fun i j => .int (i % j)) (tCB rInt1 (tCons (tOp (rAddU K) (tOp (rMulU K) (tDGet (tVar 0) (tC (.str ("mix" : Str)))) (tC (.int 69621))) (tC (.int 5))) tNil)) (tC (.int 2147483629))) tNil)) (tVar 1)))))
    [.ob false (stO s), .fr (.int b), .no, .no] (.rt (.fr (.int (drawTail s b).1)) [.ob false (stO (drawTail s b).2), .fr (.int b), .no, y']) := by
  obtain ⟨h1, h2, h3, h4, h5, h6⟩ := hs
  by_cases hc : 0 < s.left
  · refine ⟨.fr (.int (s.left % b)), ?_⟩
    have e : drawTail s b = (s.left % b, { s with left := s.left.fdiv b }) := by
      unfold drawTail
      rw [if_pos hc]
    rw [e]
    apply st_ifq (b := decide (0 < s.left))
    · walk_at "ev"
    · intro _
      apply st_stop_rt
      apply q_set
      · walk_at "ev"
        exact hb
      · walk_at "np"
      apply q_left
      · walk_at "ev"
        exact ⟨by omega, hl⟩
      · exact ev_varO rfl
      · rfl
      apply q_ret
      · walk_at "ev"
      · rfl
    · intro h
      rw [decide_eq_true hc] at h
      cases h
  · refine ⟨.no, ?_⟩
    have e : drawTail s b = ((((s.mix * 48271 + 11) % 2147483647 * 69621 + 5) % 2147483629) % b, { s with mix := (s.mix * 48271 + 11) % 2147483647 }) := by
      unfold drawTail
      rw [if_neg hc]
    rw [e]
    apply st_ifq (b := decide (0 < s.left))
    · walk_at "ev"
    · intro h
      rw [decide_eq_false hc] at h
      cases h
    · intro _
      apply st_nextq
      apply q_mix
      · walk_at "ev"
        · exact mix_mul h5 h6 (by decide)
        · decide
      · exact ev_varO rfl
      · rfl
      apply q_ret
      · walk_at "ev"
        · exact mix_mul (Int.emod_nonneg _ (by decide)) (Int.emod_lt_of_pos _ (by decide)) (by decide)
        · decide
        · exact hb
      · rfl
theorem run__law_draw {K : PySem.W.Frag} : BodyOk K (t__law_draw K) 2 C__law_draw := by
  refine body_state ?_
  rintro s ds d s' ⟨b, hs, hb, hl, rfl, rfl, rfl⟩
  have hs' := hs
  obtain ⟨h1, h2, h3, h4, h5, h6⟩ := hs'
  suffices h : ∃ x y, StJ K (t__law_draw K) [.ob false (stO s), .fr (.int b), .no, .no] (.rt (.fr (.int (draw s b).1)) [.ob false (stO (draw s b).2), .fr (.int b), x, y]) by
    obtain ⟨x, y, h⟩ := h
    exact ⟨_, h, Nat.le_of_ble_eq_true rfl⟩
  by_cases hc : s.left = 0 ∧ s.at_ < s.cells.length
  · have hcell : 0 ≤ s.cells.getD s.at_.toNat 0 := getD_nonneg h1 _
    have hat : s.at_ < ((s.cells.map PyData.int).length : Nat) := by
      rw [List.length_map]
      exact hc.2
    have tst : TtJ K (tAnd (tTest (tOp (rEqD K) (tDGet (tVar 0) (tC (.str ("left" : Str)))) (tC (.int 0)))) (tTest (tOp (rI0 fun i j => .bl (decide (i < j))) (tDGet (tVar 0) (tC (.str ("at" : Str)))) (tCB (rLenU K) (tCons (tDGet (tVar 0) (tC (.str ("cells" : Str)))) tNil))))) [.ob false (stO s), .fr (.int b), .no, .no] true [.ob false (stO s), .fr (.int b), .no, .no] := by
      have e : true = (PyData.eqv (.int s.left) (.int 0) && decide (s.at_ < ((s.cells.map PyData.int).length : Nat))) := by
        rw [decide_eq_true hat, hc.1]
        rfl
      rw [e]
      apply tt_andP
      · walk_at "ev"
      · walk_at "ev"
    by_cases hsm : s.cells.getD s.at_.toNat 0 < 10 ^ 18
    · refine ⟨.fr (.int (s.cells.getD s.at_.toNat 0)), .no, ?_⟩
      have e : draw s b = (s.cells.getD s.at_.toNat 0 % b, { s with at_ := s.at_ + 1, mix := (s.mix * 48271 + s.cells.getD s.at_.toNat 0 + 11) % 2147483647 }) := by
        unfold draw
        rw [if_pos hc, if_pos hsm]
      rw [e]
      apply st_ifq (b := true)
      · exact tst
      · intro _
        apply st_stop_rt
        apply q_set
        · walk_at "ev"
          exact od_ix rfl (atI_getD h3 hc.2)
        · walk_at "np"
        apply q_at
        · walk_at "ev"
        · exact ev_varO rfl
        · rfl
        apply q_mix
        · walk_at "ev"
          · exact mix_mul h5 h6 (by decide)
          · decide
        · exact ev_varO rfl
        · rfl
        apply st_ifq (b := decide (s.cells.getD s.at_.toNat 0 < 10 ^ 18))
        · walk_at "ev"
          exact ⟨by decide, by decide, by decide⟩
        · intro _
          apply q_retq
          · walk_at "ev"
            exact hb
          · rfl
        · intro h
          rw [decide_eq_true hsm] at h
          cases h
      · intro h
        cases h
    · have hs1 : DS.ok { s with at_ := s.at_ + 1, mix := (s.mix * 48271 + s.cells.getD s.at_.toNat 0 + 11) % 2147483647, left := s.cells.getD s.at_.toNat 0 } :=
        ⟨h1, h2, by show 0 ≤ s.at_ + 1; omega, hcell, Int.emod_nonneg _ (by decide), Int.emod_lt_of_pos _ (by decide)⟩
      obtain ⟨y', tl⟩ := run__law_drawTail (K := K) hs1 hb hl
      refine ⟨.no, y', ?_⟩
      have e : draw s b = drawTail { s with at_ := s.at_ + 1, mix := (s.mix * 48271 + s.cells.getD s.at_.toNat 0 + 11) % 2147483647, left := s.cells.getD s.at_.toNat 0 } b := by
        unfold draw
        rw [if_pos hc, if_neg hsm]
      rw [e]
      apply st_ifq (b := true)
      · exact tst
      · intro _
        apply st_seq
        · apply q_set
          · walk_at "ev"
            exact od_ix rfl (atI_getD h3 hc.2)
          · walk_at "np"
          apply q_at
          · walk_at "ev"
          · exact ev_varO rfl
          · rfl
          apply q_mix
          · walk_at "ev"
            · exact mix_mul h5 h6 (by decide)
            · decide
          · exact ev_varO rfl
          · rfl
          apply st_ifq (b := decide (s.cells.getD s.at_.toNat 0 < 10 ^ 18))
          · walk_at "ev"
            exact ⟨by decide, by decide, by decide⟩
          · intro h
            rw [decide_eq_false hsm] at h
            cases h
          · intro _
            apply st_nextq
            apply st_left
            · walk_at "ev"
            · exact ev_varO rfl
            · rfl
        · refine st_forget 2 ?_ tl
          walk_at "np"
      · intro h
        cases h
  · obtain ⟨y', tl⟩ := run__law_drawTail (K := K) hs hb hl
    refine ⟨.no, y', ?_⟩
    have e : draw s b = drawTail s b := by
      unfold draw
      rw [if_neg hc]
    rw [e]
    apply st_ifq (b := false)
    · have e2 : false = (PyData.eqv (.int s.left) (.int 0) && decide (s.at_ < ((s.cells.map PyData.int).length : Nat))) := by
        symm
        rw [Bool.and_eq_false_iff]
        by_cases h0 : s.left = 0
        · refine .inr (decide_eq_false fun z => hc ⟨h0, ?_⟩)
          rw [List.length_map] at z
          exact z
        · exact .inl (beq_eq_false_iff_ne.mpr h0)
      have tst : TtJ K (tAnd (tTest (tOp (rEqD K) (tDGet (tVar 0) (tC (.str ("left" : Str)))) (tC (.int 0)))) (tTest (tOp (rI0 fun i j => .bl (decide (i < j))) (tDGet (tVar 0) (tC (.str ("at" : Str)))) (tCB (rLenU K) (tCons (tDGet (tVar 0) (tC (.str ("cells" : Str)))) tNil))))) [.ob false (stO s), .fr (.int b), .no, .no] (PyData.eqv (.int s.left) (.int 0) && decide (s.at_ < ((s.cells.map PyData.int).length : Nat))) [.ob false (stO s), .fr (.int b), .no, .no] := by
        apply tt_andP
        · walk_at "ev"
        · walk_at "ev"
      rw [← e2] at tst
      exact tst
    · intro h
      cases h
    · intro _
      apply st_nextq
      exact tl
/-! _law_pick, _law_is_number -/
def F__law_pick (s : DS) (ds : List D) (d : D) (s' : DS) : Prop := ∃ xs : List D, s.ok ∧ xs ≠ [] ∧ xs.length ≤ 1000 ∧ (ds = [.list xs] ∨ ds = [.tuple xs]) ∧ d = xs.getD (draw s xs.length).1.toNat .none ∧ s' = (draw s xs.length).2
abbrev C__law_pick : Con := CS F__law_pick
/-! _law_pick: slots 0 _law_state, 1 _law_things -/
abbrev s__law_pick : Stmt := topS 11
theorem sc__law_pick : FnScope ["_law_state", "_law_things"] ["_law_state", "_law_things"] (defScope s__law_pick) := ⟨rfl, rfl, rfl, by decide +kernel, rfl, by decide +kernel, by decide +kernel⟩
def t__law_pick (K : PySem.W.Frag) : TS :=
  (tRet (tOp (rIx K) (tVar 1) (tCall (spD K C__law_draw) [] E0 (tCons (tVar 0) (tCons (tCB (rLenU K) (tCons (tVar 1) tNil)) tNil)))))
theorem tm__law_pick {P : Program} {w : World} {K : PySem.W.Frag} {mg : Str → Option Value} {base : Heap} (B : Blt mg) (c__law_draw : C8.Cal P w K mg base 1 "_law_draw" (spD K C__law_draw) []) {f : Addr} {cdv : Value} {A : Around} {outer : List Env} {s : Shared} {H : Hp} {E : XK} (hr : Room 1 (A.deeper (envOfC "_law_pick" (defScope s__law_pick) s.heap.objs.size f cdv))) :
    PSs (cxOf CX0 P w K mg base ["_law_state", "_law_things"] "_law_pick" (defScope s__law_pick) f cdv A outer s H E).nox (defBody s__law_pick) (t__law_pick K) := by
  have nd := sc__law_pick.nd
  exact (pss_one (ps_ret (pe_ix ix_seq (pv 1) (C8.pe_c c__law_draw hr (by decide) (by rfl) (pa_cons (pv 0) (pa_cons (pe_callB call_lenU (by rfl) B.len_ PySem.boot_len (pa_cons (pv 1) pa_nil)) pa_nil))) (fun _ _ => rfl))))

theorem atI_getD' {xs : List D} {i : Int} (h0 : 0 ≤ i) (h : i < xs.length) : atI xs i = some (xs.getD i.toNat .none) := by
  have e : ((i.toNat : Nat) : Int) = i := by omega
  have q : atI xs ((i.toNat : Nat) : Int) = some (xs.getD i.toNat .none) := by
    unfold atI ixN
    rw [if_pos (by omega), if_pos (by omega)]
    show xs[_]? = _
    rw [List.getD_eq_getElem?_getD, show ((i.toNat : Nat) : Int).toNat = i.toNat by omega, List.getElem?_eq_getElem (by omega)]
    rfl
  rw [e] at q
  exact q
theorem small_log {n : Nat} (h0 : n ≠ 0) (h : n ≤ 1000) : ((n : Int).natAbs).log2 < 9000 := lt_log (n := 10) (by omega) (by omega) (by omega)
theorem run__law_pick {K : PySem.W.Frag} : BodyOk K (t__law_pick K) 0 C__law_pick := by
  refine body_state ?_
  rintro s ds d s' ⟨xs, hs, hne, hlen, hds, rfl, rfl⟩
  have hpos : 0 < xs.length := List.length_pos_iff.mpr hne
  obtain ⟨_, q1, q2⟩ := draw_ok hs (b := xs.length) (by omega)
  rcases hds with rfl | rfl
  · refine ⟨[.fr (.list xs)], ?_, Nat.le_of_ble_eq_true rfl⟩
    show StJ K (t__law_pick K) [.ob false (stO s), .fr (.list xs)] _
    apply q_ret
    · apply ev_op
      · walk_at "ev"
      · apply ev_callS
        · walk_at "ev"
        · rfl
        · rfl
        · exact ⟨xs.length, hs, by omega, small_log (by omega) hlen, rfl, rfl, rfl⟩
        · rfl
      · exact od_ix rfl (atI_getD' q1 q2)
    · rfl
  · refine ⟨[.fr (.tuple xs)], ?_, Nat.le_of_ble_eq_true rfl⟩
    show StJ K (t__law_pick K) [.ob false (stO s), .fr (.tuple xs)] _
    apply q_ret
    · apply ev_op
      · walk_at "ev"
      · apply ev_callS
        · walk_at "ev"
        · rfl
        · rfl
        · exact ⟨xs.length, hs, by omega, small_log (by omega) hlen, rfl, rfl, rfl⟩
        · rfl
      · exact od_ix rfl (atI_getD' q1 q2)
    · rfl
def F__law_is_number (ds : List D) (d : D) : Prop := ∃ i : Int, ds = [.int i] ∧ d = .bool true
abbrev C__law_is_number : Con := CP F__law_is_number
/-! _law_is_number: slots 0 _law_thing -/
abbrev s__law_is_number : Stmt := topS 12
theorem sc__law_is_number : FnScope ["_law_thing"] ["_law_thing"] (defScope s__law_is_number) := ⟨rfl, rfl, rfl, by decide +kernel, rfl, by decide +kernel, by decide +kernel⟩
def t__law_is_number (K : PySem.W.Frag) : TS :=
  (tRet (tAndV (tCB (rIsi K) (tCons (tVar 0) (tCons (tC (.ty "int")) tNil))) (tNotV (tCB (rIsi K) (tCons (tVar 0) (tCons (tC (.ty "bool")) tNil))))))
theorem tm__law_is_number {P : Program} {w : World} {K : PySem.W.Frag} {mg : Str → Option Value} {base : Heap} (B : Blt mg) {f : Addr} {cdv : Value} {A : Around} {outer : List Env} {s : Shared} {H : Hp} {E : XK} (hr : Room 0 (A.deeper (envOfC "_law_is_number" (defScope s__law_is_number) s.heap.objs.size f cdv))) :
    PSs (cxOf CX0 P w K mg base ["_law_thing"] "_law_is_number" (defScope s__law_is_number) f cdv A outer s H E).nox (defBody s__law_is_number) (t__law_is_number K) := by
  have nd := sc__law_is_number.nd
  exact (pss_one (ps_ret (pe_and (pe_callB call_isi (by rfl) B.isinstance_ boot_isinstance (pa_cons (pv 0) (pa_cons (pe_bltn (v := .ty "int") (by rfl) B.int_ boot_int rfl) pa_nil))) (pe_one (pe_not (pe_callB call_isi (by rfl) B.isinstance_ boot_isinstance (pa_cons (pv 0) (pa_cons (pe_bltn (v := .ty "bool") (by rfl) B.bool_ boot_bool rfl) pa_nil))))))))

theorem run__law_is_number {K : PySem.W.Frag} : BodyOk K (t__law_is_number K) 0 C__law_is_number := by
  refine body_pure ?_
  rintro ds d ⟨i, rfl, rfl⟩
  refine ⟨[.fr (.int i)], ?_, Nat.le_of_ble_eq_true rfl⟩
  show StJ K (t__law_is_number K) [.fr (.int i)] (.rt (.fr (.bool (true && !false))) [.fr (.int i)])
  apply q_ret
  · apply ev_andP (a := true) (b := !false)
    · apply ev_isi (b := true)
      · walk_at "ev"
      · rfl
      · show kitB "int" "int" = some true
        decide +kernel
    · apply ev_notV (a := false)
      apply ev_isi (b := false)
      · walk_at "ev"
      · rfl
      · show kitB "int" "bool" = some false
        decide +kernel
  · rfl
section
variable {P : Program} {w : World} {K : PySem.W.Frag} {mg : Str → Option Value} {base : Heap}
theorem ok__law_start (B : Blt mg) (Df : DefAt K mg "_law_start" s__law_start ["_law_script"]) : C8.Cal P w K mg base 1 "_law_start" (spD K C__law_start) [] :=
  cal_of Df sc__law_start (fun args r args' ⟨ns, _, e, _⟩ => by rw [e]; rfl) rfl fun f cdv A outer s H E hr => ⟨t__law_start K, tm__law_start B hr, run__law_start⟩
theorem ok__law_draw (B : Blt mg) (Df : DefAt K mg "_law_draw" s__law_draw ["_law_state", "_law_bound"]) : C8.Cal P w K mg base 1 "_law_draw" (spD K C__law_draw) [] :=
  cal_of Df sc__law_draw (fun args r args' ⟨s, ds, d, s', ⟨b, _, _, _, e1, _⟩, e, _⟩ => by rw [e, e1]; rfl) rfl fun f cdv A outer s H E hr => ⟨t__law_draw K, tm__law_draw B hr, run__law_draw⟩
theorem ok__law_pick (B : Blt mg) (Df : DefAt K mg "_law_pick" s__law_pick ["_law_state", "_law_things"]) (c : C8.Cal P w K mg base 1 "_law_draw" (spD K C__law_draw) []) : C8.Cal P w K mg base 2 "_law_pick" (spD K C__law_pick) [] :=
  cal_of Df sc__law_pick (fun args r args' ⟨s, ds, d, s', ⟨b, _, _, _, e1, _⟩, e, _⟩ => by rcases e1 with e1 | e1 <;> (rw [e, e1]; rfl)) rfl fun f cdv A outer s H E hr => ⟨t__law_pick K, tm__law_pick B c hr, run__law_pick⟩
theorem ok__law_is_number (B : Blt mg) (Df : DefAt K mg "_law_is_number" s__law_is_number ["_law_thing"]) : C8.Cal P w K mg base 1 "_law_is_number" (spD K C__law_is_number) [] :=
  cal_of Df sc__law_is_number (fun args r args' ⟨ds, d, ⟨i, e1, _⟩, e, _⟩ => by rw [e, e1]; rfl) rfl fun f cdv A outer s H E hr => ⟨t__law_is_number K, tm__law_is_number B hr, run__law_is_number⟩
end

end DL
namespace DL
open PySem PySem.Spec PyProof.Rows L2
local macro_rules | `(tactic| walk_at "len") => `(tactic| exact Nat.le_of_ble_eq_true rfl)
local macro_rules | `(tactic| walk_at "np") => `(tactic| (intro o z; cases z))
local macro_rules | `(tactic| walk_at "od") => `(tactic| first
  | exact od_addI | exact od_subI | exact od_subB | exact od_I0b | exact od_I0
  | exact od_ix rfl rfl | exact od_eq rfl rfl rfl rfl | exact od_ne rfl rfl rfl rfl | exact od_isN | exact od_notN
  | with_reducible apply od_mulI | with_reducible apply od_I | exact ud_I)
local macro_rules | `(tactic| walk_at "cd") => `(tactic| first
  | exact cd_len rfl | exact cd_abs | exact cd_int | exact cd_intB | exact cd_gcd | exact cd_tup rfl | exact cd_lst rfl)
local macro_rules | `(tactic| walk_at "ev1") => `(tactic| first
  | exact ev_int | exact ev_bl | exact ev_str | exact ev_non | exact ev_var rfl | exact ev_varO rfl
  | with_reducible apply ev_op | with_reducible apply ev_un
  | exact ea_nil | with_reducible apply ea_cons
  | with_reducible apply ev_isi | with_reducible apply ev_dget
  | with_reducible apply ev_cb
  | with_reducible apply ev_tup' | with_reducible apply ev_lstF
  | with_reducible apply tt_test | with_reducible apply tt_B | with_reducible apply tt_not
  | walk_at "od" | walk_at "cd" | walk_at "len" | rfl)
local macro_rules | `(tactic| walk_at "ev") => `(tactic| repeat' walk_at "ev1")
local macro_rules | `(tactic| walk_at "set") => `(tactic| (with_reducible apply q_set; rotate_left; walk_at "np"; rotate_left; walk_at "ev"))

local macro_rules | `(tactic| walk_at "ev1") => `(tactic| first
  | with_reducible apply ev_cells | with_reducible apply ev_at | with_reducible apply ev_left | with_reducible apply ev_mix)
/-! ### the law's own greatest common divisor -/
def eucl : Nat → Nat → Nat → Nat
  | 0, a, _ => a
  | k + 1, a, b => if b = 0 then a else eucl k b (a % b)
/-- the bounds: pairs of neighbours -/
def gp : Nat → Nat × Nat
  | 0 => (1, 2)
  | k + 1 => ((gp k).2, (gp k).1 + (gp k).2)
theorem eucl_gcd : ∀ (k a b : Nat), (b < (gp k).1 → eucl k a b = Nat.gcd a b) ∧ (b < (gp k).2 → eucl (k + 1) a b = Nat.gcd a b)
  | 0, a, b => by
    refine ⟨fun h => ?_, fun h => ?_⟩
    · have h0 : b = 0 := by
        have : b < 1 := h
        omega
      subst h0
      show a = Nat.gcd a 0
      rw [Nat.gcd_zero_right]
    · have hb : b = 0 ∨ b = 1 := by
        have : b < 2 := h
        omega
      rcases hb with rfl | rfl
      · show (if (0 : Nat) = 0 then a else _) = _
        rw [if_pos rfl, Nat.gcd_zero_right]
      · show (if (1 : Nat) = 0 then a else 1) = _
        rw [if_neg (by decide), Nat.gcd_one_right]
  | k + 1, a, b => by
    have ih := eucl_gcd k
    refine ⟨fun h => (ih a b).2 h, fun h => ?_⟩
    have h' : b < (gp k).1 + (gp k).2 := h
    show (if b = 0 then a else eucl (k + 1) b (a % b)) = _
    by_cases hb : b = 0
    · subst hb
      rw [if_pos rfl, Nat.gcd_zero_right]
    · rw [if_neg hb]
      have hr : a % b < b := Nat.mod_lt _ (by omega)
      have e : Nat.gcd a b = Nat.gcd b (a % b) := by
        rw [Nat.gcd_comm a b, Nat.gcd_rec b a, Nat.gcd_comm]
      rw [e]
      by_cases hs : a % b < (gp k).2
      · exact (ih b (a % b)).2 hs
      · -- the rest is great: the next rest is small
        show (if a % b = 0 then b else eucl k (a % b) (b % (a % b))) = _
        by_cases h0 : a % b = 0
        · rw [if_pos h0, h0, Nat.gcd_zero_right]
        · rw [if_neg h0]
          have hlt : b % (a % b) < (gp k).1 := by
            have h1 : b % (a % b) = (b - a % b) % (a % b) := Nat.mod_eq_sub_mod (Nat.le_of_lt hr)
            rw [h1]
            exact Nat.lt_of_le_of_lt (Nat.mod_le _ _) (by omega)
          rw [(ih (a % b) (b % (a % b))).1 hlt, Nat.gcd_comm b (a % b), Nat.gcd_rec (a % b) b, Nat.gcd_comm]
theorem eucl_300 {a b : Nat} (h : b < 2 ^ 200) : eucl 300 a b = Nat.gcd a b := (eucl_gcd 300 a b).1 (Nat.lt_of_lt_of_le h (by decide +kernel))
def Dat : Sl → Prop
  | .ob _ _ => False
  | _ => True
theorem np_at {δ : List Sl} {i : Nat} {x : Sl} (h : δ[i]? = some x) (hx : Dat x) : NoPar δ i := fun o z => by
  rw [h] at z
  cases z
  exact hx

/-! ### _law_common, _law_equals, _law_number -/
def F__law_common (ds : List D) (d : D) : Prop := ∃ a b : Int, b.natAbs < 2 ^ 200 ∧ ds = [.int a, .int b] ∧ d = .int ((Nat.gcd a.natAbs b.natAbs : Nat) : Int)
abbrev C__law_common : Con := CP F__law_common
/-! _law_common: slots 0 _law_a, 1 _law_b, 2 _law_k, 3 _law_rest -/
abbrev s__law_common : Stmt := topS 15
theorem sc__law_common : FnScope ["_law_a", "_law_b", "_law_k", "_law_rest"] ["_law_a", "_law_b"] (defScope s__law_common) := ⟨rfl, rfl, rfl, by decide +kernel, rfl, by decide +kernel, by decide +kernel⟩
def t__law_common (K : PySem.W.Frag) : TS :=
  (tSeq (tAsg (tCB rAbs (tCons (tVar 0) tNil)) (gName 0))
    (tSeq (tAsg (tCB rAbs (tCons (tVar 1) tNil)) (gName 1))
    (tSeq (tFor (iRng1 (tCons (tC (.int 300)) tNil)) (gName 2) (tSeq (tIfS (tTest (tOp (rEqD K) (tVar 1) (tC (.int 0)))) tBreak tNext)
    (tSeq (tAsg (tOp (rI (fun _ j => 0 < j) fun i j => .int (i % j)) (tCB rInt1 (tCons (tVar 0) tNil)) (tVar 1)) (gName 3))
    (tSeq (tAsg (tVar 1) (gName 0))
    (tAsg (tVar 3) (gName 1))))))
    (tRet (tVar 0)))))
theorem tm__law_common {P : Program} {w : World} {K : PySem.W.Frag} {mg : Str → Option Value} {base : Heap} (B : Blt mg) {f : Addr} {cdv : Value} {A : Around} {outer : List Env} {s : Shared} {H : Hp} {E : XK} (hr : Room 0 (A.deeper (envOfC "_law_common" (defScope s__law_common) s.heap.objs.size f cdv))) :
    PSs (cxOf CX0 P w K mg base ["_law_a", "_law_b", "_law_k", "_law_rest"] "_law_common" (defScope s__law_common) f cdv A outer s H E).nox (defBody s__law_common) (t__law_common K) := by
  have nd := sc__law_common.nd
  exact (pss_cons (ps_set (i := 0) nd rfl (Or.inl rfl) (pe_callB call_absU (by rfl) B.abs_ boot_abs (pa_cons (pv 0) pa_nil)))
    (pss_cons (ps_set (i := 1) nd rfl (Or.inl rfl) (pe_callB call_absU (by rfl) B.abs_ boot_abs (pa_cons (pv 1) pa_nil)))
    (pss_cons (ps_for PassesOwn.never rfl (pi_range1 (by rfl) B.range_ (pa_cons pe_int pa_nil)) (pg_name (i := 2) nd rfl (Or.inl rfl)) (pss_cons (ps_if (pt_cmpR (op_eqD hr.units) (pv 1) pe_int (nomark _)) (pss_one ps_break) pss_nil)
    (pss_cons (ps_set (i := 3) nd rfl (Or.inl rfl) (pe_op op_mod (pe_callTy call_int1U (by rfl) B.int_ boot_int (pa_cons (pv 0) pa_nil)) (pv 1)))
    (pss_cons (ps_set (i := 0) nd rfl (Or.inl rfl) (pv 1))
    (pss_one (ps_set (i := 1) nd rfl (Or.inl rfl) (pv 3)))))))
    (pss_one (ps_ret (pv 0))))))

theorem loop_common {K : PySem.W.Frag} : ∀ (ds : List D) (a b : Nat) (x y : Sl), Dat x → Dat y → ∃ z x' y', ForRel K (gName 2) (tSeq (tIfS (tTest (tOp (rEqD K) (tVar 1) (tC (.int 0)))) tBreak tNext)
    (tSeq (tAsg (tOp (rI (fun _ j => 0 < j) fun i j => .int (i % j)) (tCB rInt1 (tCons (tVar 0) tNil)) (tVar 1)) (gName 3))
    (tSeq (tAsg (tVar 1) (gName 0))
    (tAsg (tVar 3) (gName 1))))) ds [.fr (.int (a : Int)), .fr (.int (b : Int)), x, y] (.nx [.fr (.int (eucl ds.length a b : Nat)), z, x', y'])
  | [], a, b, x, y, _, _ => ⟨_, x, y, .nil⟩
  | d :: ds, a, b, x, y, hx, hy => by
    have hb : BindJ K (gName 2) d [.fr (.int (a : Int)), .fr (.int (b : Int)), x, y] [.fr (.int (a : Int)), .fr (.int (b : Int)), .fr d, y] := bj_name (np_at rfl hx)
    by_cases h0 : b = 0
    · subst h0
      refine ⟨.fr (.int 0), .fr d, y, ?_⟩
      have e : eucl (d :: ds).length a 0 = a := by
        show (if (0 : Nat) = 0 then a else _) = a
        rw [if_pos rfl]
      rw [e]
      refine .brk hb ?_
      apply st_ifq
      · exact tt_test (ev_op (ev_var rfl) ev_int (od_eq rfl rfl rfl rfl))
      · intro _
        exact st_stop_bk st_break
      · intro h
        exact absurd h (fun z : true = false => nomatch z)
    · obtain ⟨z, x', y', ih⟩ := loop_common (K := K) ds b (a % b) (.fr d) (.fr (.int ((a % b : Nat) : Int))) trivial trivial
      refine ⟨z, x', y', ?_⟩
      have e : eucl (d :: ds).length a b = eucl ds.length b (a % b) := by
        show (if b = 0 then a else _) = _
        rw [if_neg h0]
      rw [e]
      refine .go hb ?_ ih
      apply st_ifq (b := false)
      · have e2 : PyData.eqv (.int (b : Int)) (.int 0) = false := by
          show ((b : Int) == 0) = false
          rw [beq_eq_false_iff_ne]
          omega
        rw [← e2]
        walk_at "ev"
      · intro h
        cases h
      · intro _
        apply st_nextq
        apply q_set
        · walk_at "ev"
          show (0 : Int) < (b : Int)
          omega
        · exact np_at rfl hy
        apply q_set
        · walk_at "ev"
        · walk_at "np"
        have e3 : ((a : Int) % (b : Int)) = ((a % b : Nat) : Int) := rfl
        rw [e3]
        exact q_set1 (ev_var rfl) (by intro o z; cases z)
theorem run__law_common {K : PySem.W.Frag} : BodyOk K (t__law_common K) 2 C__law_common := by
  refine body_pure ?_
  rintro ds d ⟨a, b, hb, rfl, rfl⟩
  obtain ⟨z, x', y', hl⟩ := loop_common (K := K) (rngD 0 (300 : Int).toNat) a.natAbs b.natAbs .no .no trivial trivial
  rw [rngD_len, show (300 : Int).toNat = 300 from rfl, eucl_300 hb] at hl
  refine ⟨[.fr (.int ((Nat.gcd a.natAbs b.natAbs : Nat) : Int)), z, x', y'], ?_, Nat.le_of_ble_eq_true rfl⟩
  show StJ K (t__law_common K) [.fr (.int a), .fr (.int b), .no, .no] _
  apply q_set
  · walk_at "ev"
  · walk_at "np"
  apply q_set
  · walk_at "ev"
  · walk_at "np"
  apply q_for
  · apply src_rng1
    · walk_at "ev"
    · decide
    · decide
  · exact hl
  apply q_ret
  · exact ev_var rfl
  · rfl
theorem eqv_dR (a b : Rat) : PyData.eqv (dR a) (dR b) = decide (a = b) := by
  show ((a.num == b.num) && (((a.den : Int) == (b.den : Int)) && true)) = _
  by_cases h : a = b
  · subst h
    simp
  · rw [decide_eq_false h]
    by_cases h1 : a.num = b.num
    · have h2 : ¬ ((a.den : Int) = (b.den : Int)) := fun z => h (Rat.ext h1 (by omega))
      rw [beq_eq_false_iff_ne.mpr h2]
      simp
    · rw [beq_eq_false_iff_ne.mpr h1]
      rfl
def F__law_equals (ds : List D) (d : D) : Prop := ∃ n m : Int, m ≠ 0 ∧ n.natAbs < 2 ^ 400 ∧ m.natAbs < 2 ^ 200 ∧ ds = [dR (Rat.divInt n m), .int n, .int m] ∧ d = .bool true
abbrev C__law_equals : Con := CP F__law_equals
/-! _law_equals: slots 0 _law_f, 1 _law_n, 2 _law_d -/
abbrev s__law_equals : Stmt := topS 16
theorem sc__law_equals : FnScope ["_law_f", "_law_n", "_law_d"] ["_law_f", "_law_n", "_law_d"] (defScope s__law_equals) := ⟨rfl, rfl, rfl, by decide +kernel, rfl, by decide +kernel, by decide +kernel⟩
def t__law_equals (K : PySem.W.Frag) : TS :=
  (tSeq (tIfS (tOr (tNot (tB (tCB (rIsi K) (tCons (tVar 0) (tCons (tC (.ty "tuple")) tNil))))) (tOr (tTest (tOp (rNeD K) (tCB (rLenU K) (tCons (tVar 0) tNil)) (tC (.int 2)))) (tOr (tNot (tB (tCall (spD K C__law_is_number) [] E0 (tCons (tOp (rIx K) (tVar 0) (tC (.int 0))) tNil)))) (tNot (tB (tCall (spD K C__law_is_number) [] E0 (tCons (tOp (rIx K) (tVar 0) (tC (.int 1))) tNil))))))) (tRet (tC (.bl false))) tNext)
    (tRet (tAndV (tOp (rI0 fun i j => .bl (decide (j ≤ i))) (tOp (rIx K) (tVar 0) (tC (.int 1))) (tC (.int 1))) (tAndV (tOp (rEqD K) (tCall (spD K C__law_common) [] E0 (tCons (tOp (rIx K) (tVar 0) (tC (.int 0))) (tCons (tOp (rIx K) (tVar 0) (tC (.int 1))) tNil))) (tC (.int 1))) (tOp (rEqD K) (tOp (rMulU K) (tOp (rIx K) (tVar 0) (tC (.int 0))) (tVar 2)) (tOp (rMulU K) (tOp (rIx K) (tVar 0) (tC (.int 1))) (tVar 1)))))))
theorem tm__law_equals {P : Program} {w : World} {K : PySem.W.Frag} {mg : Str → Option Value} {base : Heap} (B : Blt mg) (c__law_is_number : C8.Cal P w K mg base 1 "_law_is_number" (spD K C__law_is_number) []) (c__law_common : C8.Cal P w K mg base 1 "_law_common" (spD K C__law_common) []) {f : Addr} {cdv : Value} {A : Around} {outer : List Env} {s : Shared} {H : Hp} {E : XK} (hr : Room 1 (A.deeper (envOfC "_law_equals" (defScope s__law_equals) s.heap.objs.size f cdv))) :
    PSs (cxOf CX0 P w K mg base ["_law_f", "_law_n", "_law_d"] "_law_equals" (defScope s__law_equals) f cdv A outer s H E).nox (defBody s__law_equals) (t__law_equals K) := by
  have nd := sc__law_equals.nd
  exact (pss_cons (ps_if ((pw_or (pt_not (pt_val (pe_callB call_isi (by rfl) B.isinstance_ boot_isinstance (pa_cons (pv 0) (pa_cons (pe_bltn (v := .ty "tuple") (by rfl) B.tuple_ boot_tuple rfl) pa_nil))))) (pw_or (pt_cmpR (op_neD hr.units) (pe_callB call_lenU (by rfl) B.len_ PySem.boot_len (pa_cons (pv 0) pa_nil)) pe_int (nomark _)) (pw_or (pt_not (pt_val (C8.pe_c c__law_is_number hr (by decide) (by rfl) (pa_cons (pe_ix ix_seq (pv 0) pe_int (fun _ _ => rfl)) pa_nil)))) (pw_or1 (pt_not (pt_val (C8.pe_c c__law_is_number hr (by decide) (by rfl) (pa_cons (pe_ix ix_seq (pv 0) pe_int (fun _ _ => rfl)) pa_nil))))))))).pt (pss_one (ps_ret pe_bl)) pss_nil)
    (pss_one (ps_ret (pe_and (pe_cmpR op_ge (pe_ix ix_seq (pv 0) pe_int (fun _ _ => rfl)) pe_int (nomark _)) (pe_and (pe_cmpR (op_eqD hr.units) (C8.pe_c c__law_common hr (by decide) (by rfl) (pa_cons (pe_ix ix_seq (pv 0) pe_int (fun _ _ => rfl)) (pa_cons (pe_ix ix_seq (pv 0) pe_int (fun _ _ => rfl)) pa_nil))) pe_int (nomark _)) (pe_one (pe_cmpR (op_eqD hr.units) (pe_op op_mulU (pe_ix ix_seq (pv 0) pe_int (fun _ _ => rfl)) (pv 2)) (pe_op op_mulU (pe_ix ix_seq (pv 0) pe_int (fun _ _ => rfl)) (pv 1)) (nomark _))))))))

theorem divInt_cross {n m : Int} (h : m ≠ 0) : (Rat.divInt n m).num * m = ((Rat.divInt n m).den : Int) * n := by
  have h1 := Rat.num_divInt_den (Rat.divInt n m)
  have h2 := (Rat.divInt n m).den_pos
  have h3 := (Rat.divInt_eq_divInt_iff (by omega) h).mp h1
  rw [h3, Int.mul_comm]
theorem run__law_equals {K : PySem.W.Frag} : BodyOk K (t__law_equals K) 0 C__law_equals := by
  refine body_pure ?_
  rintro ds d ⟨n, m, h0, hn, hm, rfl, rfl⟩
  generalize hq : Rat.divInt n m = q
  have hden : q.den < 2 ^ 200 := by
    rw [← hq]
    exact Nat.lt_of_le_of_lt (divInt_den_le h0) hm
  have hnum : q.num.natAbs < 2 ^ 400 := by
    rw [← hq]
    exact Nat.lt_of_le_of_lt (divInt_num_le h0) hn
  have hcr : q.num * m = (q.den : Int) * n := by
    rw [← hq]
    exact divInt_cross h0
  refine ⟨[.fr (dR q), .fr (.int n), .fr (.int m)], ?_, Nat.le_of_ble_eq_true rfl⟩
  show StJ K (t__law_equals K) [.fr (dR q), .fr (.int n), .fr (.int m)] _
  apply st_ifq
  · apply tt_orP
    · apply tt_not
      apply tt_B
      apply ev_isi (b := true)
      · walk_at "ev"
      · rfl
      · show kitB "tuple" "tuple" = some true
        decide +kernel
    · apply tt_orP
      · exact tt_test (ev_op (ev_cb (ea_cons (ev_var rfl) ea_nil) (cd_len rfl)) ev_int (od_ne rfl rfl rfl rfl))
      · apply tt_orP
        · apply tt_not
          apply tt_B
          apply ev_callP
          · walk_at "ev"
          · rfl
          · exact ⟨_, rfl, rfl⟩
        · apply tt_not
          apply tt_B
          apply ev_callP
          · walk_at "ev"
          · rfl
          · exact ⟨_, rfl, rfl⟩
  · intro h
    exact absurd h Bool.false_ne_true
  · intro _
    apply st_nextq
    have hd1 : decide ((1 : Int) ≤ (q.den : Int)) = true := by
      have := q.den_pos
      exact decide_eq_true (by omega)
    have hg : PyData.eqv (.int ((Nat.gcd q.num.natAbs ((q.den : Int)).natAbs : Nat) : Int)) (.int 1) = true := by
      show (((Nat.gcd q.num.natAbs ((q.den : Int)).natAbs : Nat) : Int) == 1) = true
      rw [show ((q.den : Int)).natAbs = q.den from rfl, q.reduced]
      rfl
    have hc : PyData.eqv (.int (q.num * m)) (.int ((q.den : Int) * n)) = true := by
      show (q.num * m == (q.den : Int) * n) = true
      rw [hcr]
      exact beq_self_eq_true _
    have e : PyData.bool true = .bool (decide ((1 : Int) ≤ (q.den : Int)) && (PyData.eqv (.int ((Nat.gcd q.num.natAbs ((q.den : Int)).natAbs : Nat) : Int)) (.int 1) && PyData.eqv (.int (q.num * m)) (.int ((q.den : Int) * n)))) := by
      rw [hd1, hg, hc]
      rfl
    rw [e]
    apply q_ret
    · apply ev_andP
      · walk_at "ev"
      · apply ev_andP
        · apply ev_op
          · apply ev_callP
            · walk_at "ev"
            · rfl
            · exact ⟨q.num, (q.den : Int), hden, rfl, rfl⟩
          · exact ev_int
          · exact od_eq rfl rfl rfl rfl
        · walk_at "ev"
          · exact mulB_of hnum hm (by omega)
          · exact mulB_of hden hn (by omega)
    · rfl
/-! _law_number -/
def lawSigns : List Int := [-1, 1]
def lawBounds : List Int := [3, 13, 1000, 10 ^ (25 : Int).toNat]
theorem getD_map {ns : List Int} {i : Nat} (h : i < ns.length) : (ns.map PyData.int).getD i .none = .int (ns.getD i 0) := by
  rw [List.getD_eq_getElem?_getD, List.getD_eq_getElem?_getD, List.getElem?_map, List.getElem?_eq_getElem h]
  rfl
def lawNumber (s : DS) : Int × DS :=
  let p := draw s 2
  let q := draw p.2 4
  let r := draw q.2 (lawBounds.getD q.1.toNat 0)
  (lawSigns.getD p.1.toNat 0 * r.1, r.2)
theorem bounds_pos {i : Nat} (h : i < 4) : 0 < lawBounds.getD i 0 ∧ lawBounds.getD i 0 ≤ 10 ^ 25 := by
  match i, h with
  | 0, _ => decide
  | 1, _ => decide
  | 2, _ => decide
  | 3, _ => decide
theorem signs_ok {i : Nat} (h : i < 2) : (lawSigns.getD i 0).natAbs = 1 := by
  match i, h with
  | 0, _ => decide
  | 1, _ => decide
theorem lawNumber_ok {s : DS} (h : s.ok) : (lawNumber s).2.ok ∧ (lawNumber s).1.natAbs < 10 ^ 25 := by
  obtain ⟨p1, p2, p3⟩ := draw_ok h (b := 2) (by decide)
  obtain ⟨q1, q2, q3⟩ := draw_ok p1 (b := 4) (by decide)
  obtain ⟨b1, b2⟩ := bounds_pos (i := (draw (draw s 2).2 4).1.toNat) (by omega)
  obtain ⟨r1, r2, r3⟩ := draw_ok q1 b1
  refine ⟨r1, ?_⟩
  show (lawSigns.getD (draw s 2).1.toNat 0 * _).natAbs < 10 ^ 25
  rw [Int.natAbs_mul, signs_ok (by omega), Nat.one_mul]
  omega
def F__law_number (s : DS) (ds : List D) (d : D) (s' : DS) : Prop := s.ok ∧ ds = [] ∧ d = .int (lawNumber s).1 ∧ s' = (lawNumber s).2
abbrev C__law_number : Con := CS F__law_number
/-! _law_number: slots 0 _law_state -/
abbrev s__law_number : Stmt := topS 14
theorem sc__law_number : FnScope ["_law_state"] ["_law_state"] (defScope s__law_number) := ⟨rfl, rfl, rfl, by decide +kernel, rfl, by decide +kernel, by decide +kernel⟩
def t__law_number (K : PySem.W.Frag) : TS :=
  (tRet (tOp (rMulU K) (tCall (spD K C__law_pick) [] E0 (tCons (tVar 0) (tCons (tLst (tCons (tUn (rU fun i => .int (-i)) (tC (.int 1))) (tCons (tC (.int 1)) tNil))) tNil))) (tCall (spD K C__law_draw) [] E0 (tCons (tVar 0) (tCons (tCall (spD K C__law_pick) [] E0 (tCons (tVar 0) (tCons (tLst (tCons (tC (.int 3)) (tCons (tC (.int 13)) (tCons (tC (.int 1000)) (tCons (tOp (rI CPow fun i j => .int (i ^ j.toNat)) (tC (.int 10)) (tC (.int 25))) tNil))))) tNil))) tNil)))))
theorem tm__law_number {P : Program} {w : World} {K : PySem.W.Frag} {mg : Str → Option Value} {base : Heap} (B : Blt mg) (c__law_pick : C8.Cal P w K mg base 2 "_law_pick" (spD K C__law_pick) []) (c__law_draw : C8.Cal P w K mg base 1 "_law_draw" (spD K C__law_draw) []) {f : Addr} {cdv : Value} {A : Around} {outer : List Env} {s : Shared} {H : Hp} {E : XK} (hr : Room 2 (A.deeper (envOfC "_law_number" (defScope s__law_number) s.heap.objs.size f cdv))) :
    PSs (cxOf CX0 P w K mg base ["_law_state"] "_law_number" (defScope s__law_number) f cdv A outer s H E).nox (defBody s__law_number) (t__law_number K) := by
  have nd := sc__law_number.nd
  exact (pss_one (ps_ret (pe_op op_mulU (C8.pe_c c__law_pick hr (by decide) (by rfl) (pa_cons (pv 0) (pa_cons (pe_lst (pa_cons (pe_un un_neg pe_int) (pa_cons pe_int pa_nil))) pa_nil))) (C8.pe_c c__law_draw hr (by decide) (by rfl) (pa_cons (pv 0) (pa_cons (C8.pe_c c__law_pick hr (by decide) (by rfl) (pa_cons (pv 0) (pa_cons (pe_lst (pa_cons pe_int (pa_cons pe_int (pa_cons pe_int (pa_cons (pe_op op_pow pe_int pe_int) pa_nil))))) pa_nil))) pa_nil))))))

theorem run__law_number {K : PySem.W.Frag} : BodyOk K (t__law_number K) 0 C__law_number := by
  refine body_state ?_
  rintro s ds d s' ⟨hs, rfl, rfl, rfl⟩
  obtain ⟨p1, p2, p3⟩ := draw_ok hs (b := 2) (by decide)
  obtain ⟨q1, q2, q3⟩ := draw_ok p1 (b := 4) (by decide)
  obtain ⟨b1, b2⟩ := bounds_pos (i := (draw (draw s 2).2 4).1.toNat) (by omega)
  obtain ⟨r1, r2, r3⟩ := draw_ok q1 b1
  refine ⟨[], ?_, Nat.le_refl _⟩
  show StJ K (t__law_number K) [.ob false (stO s)] (.rt (.fr (.int (lawSigns.getD (draw s 2).1.toNat 0 * (draw (draw (draw s 2).2 4).2 (lawBounds.getD (draw (draw s 2).2 4).1.toNat 0)).1))) [.ob false (stO (draw (draw (draw s 2).2 4).2 (lawBounds.getD (draw (draw s 2).2 4).1.toNat 0)).2)])
  apply q_ret
  · apply ev_op
    · apply EvJ.conv
      · apply ev_callS (s' := (draw s 2).2)
        · walk_at "ev"
        · rfl
        · rfl
        · exact ⟨[.int (-1), .int 1], hs, (fun z => nomatch z), by decide, .inl rfl, rfl, rfl⟩
        · rfl
      · exact getD_map (ns := lawSigns) (i := (draw s 2).1.toNat) (by show _ < 2; omega)
    · apply ev_callS
      · apply ea_cons
        · exact ev_varO rfl
        · apply ea_cons
          · apply EvJ.conv
            · apply ev_callS (s' := (draw (draw s 2).2 4).2)
              · walk_at "ev"
                exact ⟨by decide, by decide, by decide⟩
              · rfl
              · rfl
              · exact ⟨[.int 3, .int 13, .int 1000, .int (10 ^ (25 : Int).toNat)], p1, (fun z => nomatch z), by decide, .inl rfl, rfl, rfl⟩
              · rfl
            · exact getD_map (ns := lawBounds) (i := (draw (draw s 2).2 4).1.toNat) (by show _ < 4; omega)
          · exact ea_nil
      · rfl
      · rfl
      · exact ⟨_, q1, b1, lt_log (n := 84) (by omega) (by omega) (by omega), rfl, rfl, rfl⟩
      · rfl
    · apply od_mulI
      exact mulB_of (n := 1) (m := 84) (by rw [signs_ok (by omega)]; decide) (by omega) (by omega)
  · rfl

end DL
namespace DL
open PySem PySem.Spec PyProof.Rows L2
local macro_rules | `(tactic| walk_at "len") => `(tactic| exact Nat.le_of_ble_eq_true rfl)
local macro_rules | `(tactic| walk_at "np") => `(tactic| (intro o z; cases z))
local macro_rules | `(tactic| walk_at "od") => `(tactic| first
  | exact od_addI | exact od_subI | exact od_subB | exact od_I0b | exact od_I0
  | exact od_ix rfl rfl | exact od_eq rfl rfl rfl rfl | exact od_ne rfl rfl rfl rfl | exact od_isN | exact od_notN
  | with_reducible apply od_mulI | with_reducible apply od_I | exact ud_I)
local macro_rules | `(tactic| walk_at "cd") => `(tactic| first
  | exact cd_len rfl | exact cd_abs | exact cd_int | exact cd_intB | exact cd_gcd | exact cd_tup rfl | exact cd_lst rfl)
local macro_rules | `(tactic| walk_at "ev1") => `(tactic| first
  | exact ev_int | exact ev_bl | exact ev_str | exact ev_non | exact ev_var rfl | exact ev_varO rfl
  | with_reducible apply ev_op | with_reducible apply ev_un
  | exact ea_nil | with_reducible apply ea_cons
  | with_reducible apply ev_isi | with_reducible apply ev_dget
  | with_reducible apply ev_cb
  | with_reducible apply ev_tup' | with_reducible apply ev_lstF
  | with_reducible apply tt_test | with_reducible apply tt_B | with_reducible apply tt_not
  | walk_at "od" | walk_at "cd" | walk_at "len" | rfl)
local macro_rules | `(tactic| walk_at "ev") => `(tactic| repeat' walk_at "ev1")
local macro_rules | `(tactic| walk_at "set") => `(tactic| (with_reducible apply q_set; rotate_left; walk_at "np"; rotate_left; walk_at "ev"))

/-! ### the law -/
def F_law (ds : List D) (d : D) : Prop := ∃ ns : List Int, ns.length ≤ 63 ∧ ds = [.list (ns.map .int)] ∧ d = .bool true
abbrev C_law : Con := CP F_law
/-! law: slots 0 _law_script, 1 _law_state, 2 _law_made, 3 _law_k, 4 _law_n, 5 _law_d, 6 _law_a, 7 _law_b, 8 _law_bottom, 9 _law_gap, 10 _law_due -/
abbrev s_law : Stmt := topS 17
theorem sc_law : FnScope ["_law_script", "_law_state", "_law_made", "_law_k", "_law_n", "_law_d", "_law_a", "_law_b", "_law_bottom", "_law_gap", "_law_due"] ["_law_script"] (defScope s_law) := ⟨rfl, rfl, rfl, by decide +kernel, rfl, by decide +kernel, by decide +kernel⟩
def t_law (K : PySem.W.Frag) : TS :=
  (tSeq (tAsg (tCall (spD K C__law_start) [] E0 (tCons (tVar 0) tNil)) (gName 1))
    (tSeq (tAsg (tLst tNil) (gName 2))
    (tSeq (tFor (iRng1 (tCons (tC (.int 2)) tNil)) (gName 3) (tSeq (tAsg (tCall (spD K C__law_number) [] E0 (tCons (tVar 1) tNil)) (gName 4))
    (tSeq (tAsg (tCall (spD K C__law_number) [] E0 (tCons (tVar 1) tNil)) (gName 5))
    (tSeq (tAsg (tIf (tTest (tOp (rEqD K) (tVar 5) (tC (.int 0)))) (tC (.int 1)) (tVar 5)) (gName 5))
    (tSeq (tIfS (tNot (tB (tCall (spD K C__law_equals) [] E0 (tCons (tCall (spD K C_fraction) [] E0 (tCons (tVar 4) (tCons (tVar 5) tNil))) (tCons (tVar 4) (tCons (tVar 5) tNil)))))) (tRet (tC (.bl false))) tNext)
    (tDrop (tBM K "list" rAppend (tVar 2) (tCons (tCall (spD K C_fraction) [] E0 (tCons (tVar 4) (tCons (tVar 5) tNil))) tNil))))))))
    (tSeq (tAsg (tVar 2) (gLst K 2 (gCons (gName 6) (gCons (gName 7) gNil))))
    (tSeq (tAsg (tOp (rMulU K) (tOp (rIx K) (tVar 6) (tC (.int 1))) (tOp (rIx K) (tVar 7) (tC (.int 1)))) (gName 8))
    (tSeq (tIfS (tOr (tNot (tB (tCall (spD K C__law_equals) [] E0 (tCons (tCall (spD K C_plus) [] E0 (tCons (tVar 6) (tCons (tVar 7) tNil))) (tCons (tOp (rAddU K) (tOp (rMulU K) (tOp (rIx K) (tVar 6) (tC (.int 0))) (tOp (rIx K) (tVar 7) (tC (.int 1)))) (tOp (rMulU K) (tOp (rIx K) (tVar 7) (tC (.int 0))) (tOp (rIx K) (tVar 6) (tC (.int 1))))) (tCons (tVar 8) tNil)))))) (tTest (tOp (rNeD K) (tCall (spD K C_minus) [] E0 (tCons (tCall (spD K C_plus) [] E0 (tCons (tVar 6) (tCons (tVar 7) tNil))) (tCons (tVar 7) tNil))) (tVar 6)))) (tRet (tC (.bl false))) tNext)
    (tSeq (tIfS (tNot (tB (tCall (spD K C__law_equals) [] E0 (tCons (tCall (spD K C_minus) [] E0 (tCons (tVar 6) (tCons (tVar 7) tNil))) (tCons (tOp rSubU (tOp (rMulU K) (tOp (rIx K) (tVar 6) (tC (.int 0))) (tOp (rIx K) (tVar 7) (tC (.int 1)))) (tOp (rMulU K) (tOp (rIx K) (tVar 7) (tC (.int 0))) (tOp (rIx K) (tVar 6) (tC (.int 1))))) (tCons (tVar 8) tNil)))))) (tRet (tC (.bl false))) tNext)
    (tSeq (tIfS (tNot (tB (tCall (spD K C__law_equals) [] E0 (tCons (tCall (spD K C_times) [] E0 (tCons (tVar 6) (tCons (tVar 7) tNil))) (tCons (tOp (rMulU K) (tOp (rIx K) (tVar 6) (tC (.int 0))) (tOp (rIx K) (tVar 7) (tC (.int 0)))) (tCons (tVar 8) tNil)))))) (tRet (tC (.bl false))) tNext)
    (tSeq (tIfS (tAnd (tTest (tOp (rNeD K) (tOp (rIx K) (tVar 7) (tC (.int 0))) (tC (.int 0)))) (tOr (tTest (tOp (rNeD K) (tCall (spD K C_over) [] E0 (tCons (tCall (spD K C_times) [] E0 (tCons (tVar 6) (tCons (tVar 7) tNil))) (tCons (tVar 7) tNil))) (tVar 6))) (tNot (tB (tCall (spD K C__law_equals) [] E0 (tCons (tCall (spD K C_over) [] E0 (tCons (tVar 6) (tCons (tVar 7) tNil))) (tCons (tOp (rMulU K) (tOp (rIx K) (tVar 6) (tC (.int 0))) (tOp (rIx K) (tVar 7) (tC (.int 1)))) (tCons (tOp (rMulU K) (tOp (rIx K) (tVar 6) (tC (.int 1))) (tOp (rIx K) (tVar 7) (tC (.int 0)))) tNil)))))))) (tRet (tC (.bl false))) tNext)
    (tSeq (tAsg (tOp rSubU (tOp (rMulU K) (tOp (rIx K) (tVar 6) (tC (.int 0))) (tOp (rIx K) (tVar 7) (tC (.int 1)))) (tOp (rMulU K) (tOp (rIx K) (tVar 7) (tC (.int 0))) (tOp (rIx K) (tVar 6) (tC (.int 1))))) (gName 9))
    (tSeq (tAsg (tIf (tTest (tOp (rI0 fun i j => .bl (decide (j < i))) (tVar 9) (tC (.int 0)))) (tC (.int 1)) (tIf (tTest (tOp (rI0 fun i j => .bl (decide (i < j))) (tVar 9) (tC (.int 0)))) (tUn (rU fun i => .int (-i)) (tC (.int 1))) (tC (.int 0)))) (gName 10))
    (tRet (tAndV (tCall (spD K C__law_is_number) [] E0 (tCons (tCall (spD K C_compare) [] E0 (tCons (tVar 6) (tCons (tVar 7) tNil))) tNil)) (tAndV (tOp (rEqD K) (tCall (spD K C_compare) [] E0 (tCons (tVar 6) (tCons (tVar 7) tNil))) (tVar 10)) (tOp (rEqD K) (tCall (spD K C_compare) [] E0 (tCons (tVar 7) (tCons (tVar 6) tNil))) (tUn (rU fun i => .int (-i)) (tVar 10)))))))))))))))))
theorem tm_law {P : Program} {w : World} {K : PySem.W.Frag} {mg : Str → Option Value} {base : Heap} (B : Blt mg) (c__law_start : C8.Cal P w K mg base 1 "_law_start" (spD K C__law_start) []) (c__law_number : C8.Cal P w K mg base 3 "_law_number" (spD K C__law_number) []) (c__law_equals : C8.Cal P w K mg base 2 "_law_equals" (spD K C__law_equals) []) (c__law_is_number : C8.Cal P w K mg base 1 "_law_is_number" (spD K C__law_is_number) []) (c_fraction : C8.Cal P w K mg base 1 "fraction" (spD K C_fraction) []) (c_minus : C8.Cal P w K mg base 2 "minus" (spD K C_minus) []) (c_times : C8.Cal P w K mg base 2 "times" (spD K C_times) []) (c_compare : C8.Cal P w K mg base 1 "compare" (spD K C_compare) []) (c_plus : C8.Cal P w K mg base 2 "plus" (spD K C_plus) []) (c_over : C8.Cal P w K mg base 2 "over" (spD K C_over) []) {f : Addr} {cdv : Value} {A : Around} {outer : List Env} {s : Shared} {H : Hp} {E : XK} (hr : Room 3 (A.deeper (envOfC "law" (defScope s_law) s.heap.objs.size f cdv))) :
    PSs (cxOf CX0 P w K mg base ["_law_script", "_law_state", "_law_made", "_law_k", "_law_n", "_law_d", "_law_a", "_law_b", "_law_bottom", "_law_gap", "_law_due"] "law" (defScope s_law) f cdv A outer s H E).nox (defBody s_law) (t_law K) := by
  have nd := sc_law.nd
  exact (pss_cons (ps_set (i := 1) nd rfl (Or.inl rfl) (C8.pe_c c__law_start hr (by decide) (by rfl) (pa_cons (pv 0) pa_nil)))
    (pss_cons (ps_set (i := 2) nd rfl (Or.inl rfl) (pe_lst pa_nil))
    (pss_cons (ps_for PassesOwn.never rfl (pi_range1 (by rfl) B.range_ (pa_cons pe_int pa_nil)) (pg_name (i := 3) nd rfl (Or.inl rfl)) (pss_cons (ps_set (i := 4) nd rfl (Or.inl rfl) (C8.pe_c c__law_number hr (by decide) (by rfl) (pa_cons (pv 1) pa_nil)))
    (pss_cons (ps_set (i := 5) nd rfl (Or.inl rfl) (C8.pe_c c__law_number hr (by decide) (by rfl) (pa_cons (pv 1) pa_nil)))
    (pss_cons (ps_set (i := 5) nd rfl (Or.inl rfl) (pe_ifExp (pt_cmpR (op_eqD hr.units) (pv 5) pe_int (nomark _)) pe_int (pv 5)))
    (pss_cons (ps_if (pt_not (pt_val (C8.pe_c c__law_equals hr (by decide) (by rfl) (pa_cons (C8.pe_c c_fraction hr (by decide) (by rfl) (pa_cons (pv 4) (pa_cons (pv 5) pa_nil))) (pa_cons (pv 4) (pa_cons (pv 5) pa_nil)))))) (pss_one (ps_ret pe_bl)) pss_nil)
    (pss_one (ps_expr (pe_bm PySem.F.plainAttrs_list PySem.F.slot_list_append PySem.F.type_list_append mt_append (pv 2) (pa_cons (C8.pe_c c_fraction hr (by decide) (by rfl) (pa_cons (pv 4) (pa_cons (pv 5) pa_nil))) pa_nil)))))))))
    (pss_cons (ps_asg (pv 2) (pg_lst rfl (pgs_cons (pg_name (i := 6) nd rfl (Or.inl rfl)) (pgs_cons (pg_name (i := 7) nd rfl (Or.inl rfl)) pgs_nil))))
    (pss_cons (ps_set (i := 8) nd rfl (Or.inl rfl) (pe_op op_mulU (pe_ix ix_seq (pv 6) pe_int (fun _ _ => rfl)) (pe_ix ix_seq (pv 7) pe_int (fun _ _ => rfl))))
    (pss_cons (ps_if ((pw_or (pt_not (pt_val (C8.pe_c c__law_equals hr (by decide) (by rfl) (pa_cons (C8.pe_c c_plus hr (by decide) (by rfl) (pa_cons (pv 6) (pa_cons (pv 7) pa_nil))) (pa_cons (pe_op op_addU (pe_op op_mulU (pe_ix ix_seq (pv 6) pe_int (fun _ _ => rfl)) (pe_ix ix_seq (pv 7) pe_int (fun _ _ => rfl))) (pe_op op_mulU (pe_ix ix_seq (pv 7) pe_int (fun _ _ => rfl)) (pe_ix ix_seq (pv 6) pe_int (fun _ _ => rfl)))) (pa_cons (pv 8) pa_nil)))))) (pw_or1 (pt_cmpR (op_neD hr.units) (C8.pe_c c_minus hr (by decide) (by rfl) (pa_cons (C8.pe_c c_plus hr (by decide) (by rfl) (pa_cons (pv 6) (pa_cons (pv 7) pa_nil))) (pa_cons (pv 7) pa_nil))) (pv 6) (nomark _))))).pt (pss_one (ps_ret pe_bl)) pss_nil)
    (pss_cons (ps_if (pt_not (pt_val (C8.pe_c c__law_equals hr (by decide) (by rfl) (pa_cons (C8.pe_c c_minus hr (by decide) (by rfl) (pa_cons (pv 6) (pa_cons (pv 7) pa_nil))) (pa_cons (pe_op op_subU (pe_op op_mulU (pe_ix ix_seq (pv 6) pe_int (fun _ _ => rfl)) (pe_ix ix_seq (pv 7) pe_int (fun _ _ => rfl))) (pe_op op_mulU (pe_ix ix_seq (pv 7) pe_int (fun _ _ => rfl)) (pe_ix ix_seq (pv 6) pe_int (fun _ _ => rfl)))) (pa_cons (pv 8) pa_nil)))))) (pss_one (ps_ret pe_bl)) pss_nil)
    (pss_cons (ps_if (pt_not (pt_val (C8.pe_c c__law_equals hr (by decide) (by rfl) (pa_cons (C8.pe_c c_times hr (by decide) (by rfl) (pa_cons (pv 6) (pa_cons (pv 7) pa_nil))) (pa_cons (pe_op op_mulU (pe_ix ix_seq (pv 6) pe_int (fun _ _ => rfl)) (pe_ix ix_seq (pv 7) pe_int (fun _ _ => rfl))) (pa_cons (pv 8) pa_nil)))))) (pss_one (ps_ret pe_bl)) pss_nil)
    (pss_cons (ps_if ((pw_and (pt_cmpR (op_neD hr.units) (pe_ix ix_seq (pv 7) pe_int (fun _ _ => rfl)) pe_int (nomark _)) (pw_and1 ((pw_or (pt_cmpR (op_neD hr.units) (C8.pe_c c_over hr (by decide) (by rfl) (pa_cons (C8.pe_c c_times hr (by decide) (by rfl) (pa_cons (pv 6) (pa_cons (pv 7) pa_nil))) (pa_cons (pv 7) pa_nil))) (pv 6) (nomark _)) (pw_or1 (pt_not (pt_val (C8.pe_c c__law_equals hr (by decide) (by rfl) (pa_cons (C8.pe_c c_over hr (by decide) (by rfl) (pa_cons (pv 6) (pa_cons (pv 7) pa_nil))) (pa_cons (pe_op op_mulU (pe_ix ix_seq (pv 6) pe_int (fun _ _ => rfl)) (pe_ix ix_seq (pv 7) pe_int (fun _ _ => rfl))) (pa_cons (pe_op op_mulU (pe_ix ix_seq (pv 6) pe_int (fun _ _ => rfl)) (pe_ix ix_seq (pv 7) pe_int (fun _ _ => rfl))) pa_nil))))))))).pt))).pt (pss_one (ps_ret pe_bl)) pss_nil)
    (pss_cons (ps_set (i := 9) nd rfl (Or.inl rfl) (pe_op op_subU (pe_op op_mulU (pe_ix ix_seq (pv 6) pe_int (fun _ _ => rfl)) (pe_ix ix_seq (pv 7) pe_int (fun _ _ => rfl))) (pe_op op_mulU (pe_ix ix_seq (pv 7) pe_int (fun _ _ => rfl)) (pe_ix ix_seq (pv 6) pe_int (fun _ _ => rfl)))))
    (pss_cons (ps_set (i := 10) nd rfl (Or.inl rfl) (pe_ifExp (pt_cmpR op_gt (pv 9) pe_int (nomark _)) pe_int (pe_ifExp (pt_cmpR op_lt (pv 9) pe_int (nomark _)) (pe_un un_neg pe_int) pe_int)))
    (pss_one (ps_ret (pe_and (C8.pe_c c__law_is_number hr (by decide) (by rfl) (pa_cons (C8.pe_c c_compare hr (by decide) (by rfl) (pa_cons (pv 6) (pa_cons (pv 7) pa_nil))) pa_nil)) (pe_and (pe_cmpR (op_eqD hr.units) (C8.pe_c c_compare hr (by decide) (by rfl) (pa_cons (pv 6) (pa_cons (pv 7) pa_nil))) (pv 10) (nomark _)) (pe_one (pe_cmpR (op_eqD hr.units) (C8.pe_c c_compare hr (by decide) (by rfl) (pa_cons (pv 7) (pa_cons (pv 6) pa_nil))) (pe_un un_neg (pv 10)) (nomark _))))))))))))))))))

/-- what one turn makes -/
def nz (d : Int) : Int := if d = 0 then 1 else d
theorem turn_law {K : PySem.W.Frag} {s : DS} {acc : List D} {x0 x3 x4 x5 x6 x7 x8 x9 x10 : Sl} {d : D} (hs : s.ok) (ha : acc.length ≤ 1) (h3 : Dat x3) (h4 : Dat x4) (h5 : Dat x5) :
    ∃ (s' : DS) (n m : Int) (y3 y4 y5 : Sl) (δb : List Sl), s'.ok ∧ Dat y3 ∧ Dat y4 ∧ Dat y5 ∧ m ≠ 0 ∧ n.natAbs < 10 ^ 25 ∧ m.natAbs < 10 ^ 25 ∧
      BindJ K (gName 3) d [x0, .ob true (stO s), .ob true (.L acc), x3, x4, x5, x6, x7, x8, x9, x10] δb ∧ StJ K (tSeq (tAsg (tCall (spD K C__law_number) [] E0 (tCons (tVar 1) tNil)) (gName 4))
    (tSeq (tAsg (tCall (spD K C__law_number) [] E0 (tCons (tVar 1) tNil)) (gName 5))
    (tSeq (tAsg (tIf (tTest (tOp (rEqD K) (tVar 5) (tC (.int 0)))) (tC (.int 1)) (tVar 5)) (gName 5))
    (tSeq (tIfS (tNot (tB (tCall (spD K C__law_equals) [] E0 (tCons (tCall (spD K C_fraction) [] E0 (tCons (tVar 4) (tCons (tVar 5) tNil))) (tCons (tVar 4) (tCons (tVar 5) tNil)))))) (tRet (tC (.bl false))) tNext)
    (tDrop (tBM K "list" rAppend (tVar 2) (tCons (tCall (spD K C_fraction) [] E0 (tCons (tVar 4) (tCons (tVar 5) tNil))) tNil))))))) δb
        (.nx [x0, .ob true (stO s'), .ob true (.L (acc ++ [dR (Rat.divInt n m)])), y3, y4, y5, x6, x7, x8, x9, x10]) := by
  obtain ⟨s1, n1⟩ := lawNumber_ok hs
  obtain ⟨s2, n2⟩ := lawNumber_ok s1
  have hm0 : (if PyData.eqv (.int (lawNumber (lawNumber s).2).1) (.int 0) then PyData.int 1 else .int (lawNumber (lawNumber s).2).1) = .int (nz (lawNumber (lawNumber s).2).1) := by
    unfold nz
    by_cases h : (lawNumber (lawNumber s).2).1 = 0
    · rw [if_pos h, if_pos (by show ((lawNumber (lawNumber s).2).1 == 0) = true; rw [h]; rfl)]
    · rw [if_neg h, if_neg (by show ¬ ((lawNumber (lawNumber s).2).1 == 0) = true; rw [beq_iff_eq]; exact h)]
  generalize hn : (lawNumber s).1 = n at *
  generalize hd : (lawNumber (lawNumber s).2).1 = m0 at *
  generalize hm : nz m0 = m at *
  have m1 : m ≠ 0 := by
    rw [← hm]
    unfold nz
    split <;> omega
  have m2 : m.natAbs < 10 ^ 25 := by
    rw [← hm]
    unfold nz
    split <;> omega
  refine ⟨(lawNumber (lawNumber s).2).2, n, m, .fr d, .fr (.int n), .fr (.int m), _, s2, trivial, trivial, trivial, m1, n1, m2, bj_name (np_at rfl h3), ?_⟩
  show StJ K _ [x0, .ob true (stO s), .ob true (.L acc), .fr d, x4, x5, x6, x7, x8, x9, x10] _
  have hlog : m.natAbs.log2 < 9000 := lt_log (n := 84) (by omega) (by omega) (by omega)
  apply q_set
  · apply ev_callS
    · walk_at "ev"
    · rfl
    · rfl
    · exact ⟨hs, rfl, rfl, rfl⟩
    · rfl
  · exact np_at rfl h4
  rw [hn]
  apply q_set
  · apply ev_callS
    · walk_at "ev"
    · rfl
    · rfl
    · exact ⟨s1, rfl, rfl, rfl⟩
    · rfl
  · exact np_at rfl h5
  rw [hd]
  apply q_set
  · apply EvJ.conv
    · apply ev_ifP
      · walk_at "ev"
      · walk_at "ev"
      · walk_at "ev"
    · exact hm0
  · walk_at "np"
  apply st_ifq
  · apply tt_not
    apply tt_B
    apply ev_callP
    · apply ea_cons
      · apply ev_callP
        · walk_at "ev"
        · rfl
        · exact ⟨n, m, m1, hlog, rfl, rfl⟩
      · walk_at "ev"
    · rfl
    · exact ⟨n, m, m1, by omega, by omega, rfl, rfl⟩
  · intro h
    cases h
  · intro _
    apply st_nextq
    apply st_drop
    apply ev_append'
    · walk_at "ev"
    · rfl
    · apply ev_callP
      · walk_at "ev"
      · rfl
      · exact ⟨n, m, m1, hlog, rfl, rfl⟩
    · rfl
    · exact Nat.lt_of_le_of_lt ha (by decide)
    · rfl
theorem fit_of {n m : Int} (h : m ≠ 0) (hn : n.natAbs < 10 ^ 25) (hm : m.natAbs < 10 ^ 25) : Fit 84 (Rat.divInt n m) :=
  ⟨Nat.lt_of_le_of_lt (divInt_num_le h) (by omega), Nat.lt_of_le_of_lt (divInt_den_le h) (by omega)⟩
theorem fit_pow {n k : Nat} {q : Rat} (h : Fit n q) (hk : n ≤ k) : q.num.natAbs < 2 ^ k ∧ ((q.den : Int)).natAbs < 2 ^ k := by
  have := h.mono hk
  exact ⟨this.1, this.2⟩
theorem run_law {K : PySem.W.Frag} : BodyOk K (t_law K) 10 C_law := by
  refine body_pure ?_
  rintro ds d ⟨ns, hns, rfl, rfl⟩
  obtain ⟨s1, n1, d1, y3, y4, y5, δb1, o1, p3, p4, p5, e1, f1, g1, b1, t1⟩ := turn_law (K := K) (x0 := .fr (.list (ns.map .int))) (x3 := .no) (x4 := .no) (x5 := .no) (x6 := .no) (x7 := .no) (x8 := .no) (x9 := .no) (x10 := .no) (acc := []) (d := .int 0) (DS.init_ok hns) (by decide) trivial trivial trivial
  obtain ⟨s2, n2, d2, z3, z4, z5, δb2, o2, r3, r4, r5, e2, f2, g2, b2, t2⟩ := turn_law (K := K) (x0 := .fr (.list (ns.map .int))) (x6 := .no) (x7 := .no) (x8 := .no) (x9 := .no) (x10 := .no) (acc := [dR (Rat.divInt n1 d1)]) (d := .int 1) o1 (Nat.le_refl 1) p3 p4 p5
  have A := fit_of e1 f1 g1
  have B := fit_of e2 f2 g2
  generalize Rat.divInt n1 d1 = a at *
  generalize Rat.divInt n2 d2 = b at *
  have hl : ForRel K (gName 3) _ (rngD 0 (2 : Int).toNat) [.fr (.list (ns.map .int)), .ob true (stO (DS.init ns)), .ob true (.L []), .no, .no, .no, .no, .no, .no, .no, .no] _ := .go b1 t1 (.go b2 t2 .nil)
  have T : Two a b := ⟨84, 84, A, B, by omega⟩
  obtain ⟨a84, ad⟩ := fit_pow A (Nat.le_refl _)
  obtain ⟨b84, bd⟩ := fit_pow B (Nat.le_refl _)
  have D0 := dens_ne a b
  have Dl : ((a.den : Int) * (b.den : Int)).natAbs < 2 ^ 200 := Nat.lt_of_lt_of_le (den_lt A B) (Nat.pow_le_pow_right (by decide) (by omega))
  have sumL := sum_lt A B
  have p400 : ∀ {x : Int}, x.natAbs < 2 ^ (84 + 84 + 1) → x.natAbs < 2 ^ 400 := fun h => Nat.lt_of_lt_of_le h (Nat.pow_le_pow_right (by decide) (by omega))
  have p400' : ∀ {x : Int}, x.natAbs < 2 ^ (84 + 84) → x.natAbs < 2 ^ 400 := fun h => Nat.lt_of_lt_of_le h (Nat.pow_le_pow_right (by decide) (by omega))
  have hab : (a.num * b.num).natAbs < 2 ^ (84 + 84) := by
    rw [Int.natAbs_mul]
    exact pow_split a84 b84
  have had : (a.num * (b.den : Int)).natAbs < 2 ^ (84 + 84) := by
    rw [Int.natAbs_mul]
    exact pow_split a84 bd
  suffices h : ∃ δ', StJ K (t_law K) [.fr (.list (ns.map .int)), .no, .no, .no, .no, .no, .no, .no, .no, .no, .no] (.rt (.fr (.bool true)) δ') ∧ 1 ≤ δ'.length by
    exact h
  refine ⟨[.fr (.list (ns.map .int)), .ob true (stO s2), .ob true (.L [dR a, dR b]), z3, z4, z5, .fr (dR a), .fr (dR b), .fr (.int ((a.den : Int) * b.den)), .fr (.int (a.num * b.den - b.num * a.den)), .fr (.int (cmpR a b))], ?_, Nat.le_of_ble_eq_true rfl⟩
  apply q_setN
  · apply ev_callF
    · walk_at "ev"
    · rfl
    · exact ⟨ns, hns, rfl, rfl, rfl⟩
    · rfl
  · exact Nat.le_of_ble_eq_true rfl
  · walk_at "np"
  apply q_setN
  · exact ev_lst' ea_nil rfl (Nat.zero_le _)
  · exact Nat.le_of_ble_eq_true rfl
  · walk_at "np"
  apply q_for
  · apply src_rng1
    · walk_at "ev"
    · decide
    · decide
  · exact hl
  apply st_seq
  · apply st_unL
    · exact ev_varO rfl
    · rfl
    · refine bsj_cons (bj_name ?_) (bsj_cons (bj_name ?_) bsj_nil)
      · walk_at "np"
      · walk_at "np"
    · rfl
  show StJ K _ [.fr (.list (ns.map .int)), .ob true (stO s2), .ob true (.L [dR a, dR b]), z3, z4, z5, .fr (dR a), .fr (dR b), .no, .no, .no] _
  apply q_set
  · walk_at "ev"
    exact T.mulD
  · walk_at "np"
  apply st_ifq
  · apply tt_orP
    · apply tt_not
      apply tt_B
      apply ev_callP
      · apply ea_cons
        · apply ev_callP
          · walk_at "ev"
          · rfl
          · exact ⟨a, b, T, rfl, rfl⟩
        · walk_at "ev"
          · exact T.mul1
          · exact T.symm.mul1
      · rfl
      · exact ⟨_, _, D0, p400 sumL.1, Dl, by rw [add_divInt], rfl⟩
    · apply tt_test
      apply ev_op
      · apply ev_callP
        · apply ea_cons
          · apply ev_callP
            · walk_at "ev"
            · rfl
            · exact ⟨a, b, T, rfl, rfl⟩
          · walk_at "ev"
        · rfl
        · exact ⟨a + b, b, ⟨84 + 84 + 1, 84, A.add B, B, by omega⟩, rfl, rfl⟩
      · exact ev_var rfl
      · exact od_ne rfl rfl rfl rfl
  · intro h
    rw [eqv_dR, Rat.add_sub_cancel, decide_eq_true rfl] at h
    cases h
  · intro _
    apply st_nextq
    apply st_ifq
    · apply tt_not
      apply tt_B
      apply ev_callP
      · apply ea_cons
        · apply ev_callP
          · walk_at "ev"
          · rfl
          · exact ⟨a, b, T, rfl, rfl⟩
        · walk_at "ev"
          · exact T.mul1
          · exact T.symm.mul1
      · rfl
      · exact ⟨_, _, D0, p400 sumL.2, Dl, by rw [sub_divInt], rfl⟩
    · intro h
      cases h
    · intro _
      apply st_nextq
      apply st_ifq
      · apply tt_not
        apply tt_B
        apply ev_callP
        · apply ea_cons
          · apply ev_callP
            · walk_at "ev"
            · rfl
            · exact ⟨a, b, T, rfl, rfl⟩
          · walk_at "ev"
            exact T.mulN
        · rfl
        · exact ⟨_, _, D0, p400' hab, Dl, by rw [mul_divInt], rfl⟩
      · intro h
        cases h
      · intro _
        apply st_nextq
        apply st_ifq (b := (!PyData.eqv (.int b.num) (.int 0)) && false)
        · apply tt_andC
          · walk_at "ev"
          · intro hb
            have hb0 : b ≠ 0 := by
              rintro rfl
              cases hb
            have e0 : false = (!PyData.eqv (dR (a * b / b)) (dR a) || !true) := by
              rw [eqv_dR, Rat.mul_div_cancel hb0, decide_eq_true rfl]
              rfl
            rw [e0]
            apply tt_orP
            · apply tt_test
              apply ev_op
              · apply ev_callP
                · apply ea_cons
                  · apply ev_callP
                    · walk_at "ev"
                    · rfl
                    · exact ⟨a, b, T, rfl, rfl⟩
                  · walk_at "ev"
                · rfl
                · exact ⟨a * b, b, ⟨84 + 84, 84, A.mul B, B, by omega⟩, hb0, rfl, rfl⟩
              · exact ev_var rfl
              · exact od_ne rfl rfl rfl rfl
            · apply tt_not
              apply tt_B
              apply ev_callP
              · apply ea_cons
                · apply ev_callP
                  · walk_at "ev"
                  · rfl
                  · exact ⟨a, b, T, hb0, rfl, rfl⟩
                · walk_at "ev"
                  · exact T.mul1
                  · exact mulB_of ad b84 (by omega)
              · rfl
              · refine ⟨_, _, (T.den2 hb0).1, p400' had, ?_, by rw [div_divInt], rfl⟩
                rw [Int.natAbs_mul]
                exact Nat.lt_of_lt_of_le (pow_split ad b84) (Nat.pow_le_pow_right (by decide) (by omega))
        · intro h
          rw [Bool.and_false] at h
          cases h
        · intro _
          apply st_nextq
          apply q_set
          · walk_at "ev"
            · exact T.mul1
            · exact T.symm.mul1
          · walk_at "np"
          apply q_set
          · apply EvJ.conv
            · apply ev_ifP
              · walk_at "ev"
              · walk_at "ev"
              · apply ev_ifP
                · walk_at "ev"
                · walk_at "ev"
                · walk_at "ev"
            · show _ = PyData.int (cmpR a b)
              rw [← cmp_eq]
              generalize a.num * (b.den : Int) - b.num * (a.den : Int) = g
              by_cases h1 : 0 < g
              · have h2 : ¬ g < 0 := by omega
                simp only [h1, h2, decide_true, decide_false, if_true]
                rfl
              · by_cases h2 : g < 0
                · simp only [h1, h2, decide_true, decide_false, if_true]
                  rfl
                · simp only [h1, h2, decide_true, decide_false]
                  rfl
          · walk_at "np"
          have ha : cmpR b a = -cmpR a b := by
            have q1 := @Rat.lt_iff a b
            have q2 := @Rat.lt_iff b a
            unfold cmpR
            by_cases h1 : a < b
            · have := q1.mp h1
              have n2 : ¬ b < a := fun z => by have := q2.mp z; omega
              rw [if_neg n2, if_pos h1, if_pos h1]
              rfl
            · by_cases h2 : b < a
              · rw [if_pos h2, if_neg h1, if_pos h2]
              · rw [if_neg h2, if_neg h1, if_neg h1, if_neg h2]
                rfl
          have e5 : PyData.bool true = .bool (true && (PyData.eqv (.int (cmpR a b)) (.int (cmpR a b)) && PyData.eqv (.int (cmpR b a)) (.int (-cmpR a b)))) := by
            rw [ha]
            show _ = PyData.bool (true && ((cmpR a b == cmpR a b) && (-cmpR a b == -cmpR a b)))
            rw [beq_self_eq_true, beq_self_eq_true]
            rfl
          rw [e5]
          apply q_ret
          · apply ev_andP
            · apply ev_callP
              · apply ea_cons
                · apply ev_callP
                  · walk_at "ev"
                  · rfl
                  · exact ⟨a, b, T, rfl, rfl⟩
                · exact ea_nil
              · rfl
              · exact ⟨_, rfl, rfl⟩
            · apply ev_andP
              · apply ev_op
                · apply ev_callP
                  · walk_at "ev"
                  · rfl
                  · exact ⟨a, b, T, rfl, rfl⟩
                · exact ev_var rfl
                · exact od_eq rfl rfl rfl rfl
              · apply ev_op
                · apply ev_callP
                  · walk_at "ev"
                  · rfl
                  · exact ⟨b, a, T.symm, rfl, rfl⟩
                · walk_at "ev"
                · exact od_eq rfl rfl rfl rfl
          · rfl

end DL
namespace DL
open PySem PySem.Spec PyProof.Rows L2
theorem len__law_common : ∀ args r args', C__law_common args r args' → args.length = 2 := lenP fun ds d h => by
  unfold F__law_common at h
  grind
theorem ok__law_common {P : Program} {w : World} {K : PySem.W.Frag} {mg : Str → Option Value} {base : Heap} (B : Blt mg) (Df : DefAt K mg "_law_common" s__law_common ["_law_a", "_law_b"]) : C8.Cal P w K mg base 1 "_law_common" (spD K C__law_common) [] :=
  cal_of Df sc__law_common len__law_common rfl fun f cdv A outer s H E hr => ⟨t__law_common K, tm__law_common B hr, run__law_common⟩

theorem len__law_equals : ∀ args r args', C__law_equals args r args' → args.length = 3 := lenP fun ds d h => by
  unfold F__law_equals at h
  grind
theorem ok__law_equals {P : Program} {w : World} {K : PySem.W.Frag} {mg : Str → Option Value} {base : Heap} (B : Blt mg) (Df : DefAt K mg "_law_equals" s__law_equals ["_law_f", "_law_n", "_law_d"]) (c__law_is_number : C8.Cal P w K mg base 1 "_law_is_number" (spD K C__law_is_number) []) (c__law_common : C8.Cal P w K mg base 1 "_law_common" (spD K C__law_common) []) : C8.Cal P w K mg base 2 "_law_equals" (spD K C__law_equals) [] :=
  cal_of Df sc__law_equals len__law_equals rfl fun f cdv A outer s H E hr => ⟨t__law_equals K, tm__law_equals B c__law_is_number c__law_common hr, run__law_equals⟩

theorem len__law_number : ∀ args r args', C__law_number args r args' → args.length = 1 := lenS fun s ds d s' h => by
  unfold F__law_number at h
  grind
theorem ok__law_number {P : Program} {w : World} {K : PySem.W.Frag} {mg : Str → Option Value} {base : Heap} (B : Blt mg) (Df : DefAt K mg "_law_number" s__law_number ["_law_state"]) (c__law_pick : C8.Cal P w K mg base 2 "_law_pick" (spD K C__law_pick) []) (c__law_draw : C8.Cal P w K mg base 1 "_law_draw" (spD K C__law_draw) []) : C8.Cal P w K mg base 3 "_law_number" (spD K C__law_number) [] :=
  cal_of Df sc__law_number len__law_number rfl fun f cdv A outer s H E hr => ⟨t__law_number K, tm__law_number B c__law_pick c__law_draw hr, run__law_number⟩

theorem len_law : ∀ args r args', C_law args r args' → args.length = 1 := lenP fun ds d h => by
  obtain ⟨ns, _, rfl, rfl⟩ := h
  rfl

theorem all_mk {l : PySem.W.OpenLaw} {w : World} {K : PySem.W.Frag} {h : Heap} {mg : Str → Option Value} {fa : Addr} (X : K.In h) (G : h.Ns mainGlobals mg) (hfa : mg "law" = some (.ref fa))
    {od_law_start an_law_start : Option Addr} {sl_law_start : Array (Option Value)} {oc_law_start kV_law_start dc_law_start pm_law_start cd_law_start ct_law_start : Value} {f_law_start : Addr}
    (a_law_start : PySem.W.nsIn K mainGlobals "_law_start" = some (some (.ref f_law_start))) (l_law_start : K.lookup f_law_start = some ⟨oc_law_start, od_law_start, .func (PySem.W.fnOf "_law_start" "_law_start" (defArgs s__law_start) (defBody s__law_start) (defScope s__law_start) .none kV_law_start dc_law_start pm_law_start an_law_start cd_law_start ct_law_start), sl_law_start⟩) (c_law_start : PySem.W.codeIn K cd_law_start "_law_start" = true) (k_law_start : PySem.W.keepIn K (.ref f_law_start) = true)
    {od_law_draw an_law_draw : Option Addr} {sl_law_draw : Array (Option Value)} {oc_law_draw kV_law_draw dc_law_draw pm_law_draw cd_law_draw ct_law_draw : Value} {f_law_draw : Addr}
    (a_law_draw : PySem.W.nsIn K mainGlobals "_law_draw" = some (some (.ref f_law_draw))) (l_law_draw : K.lookup f_law_draw = some ⟨oc_law_draw, od_law_draw, .func (PySem.W.fnOf "_law_draw" "_law_draw" (defArgs s__law_draw) (defBody s__law_draw) (defScope s__law_draw) .none kV_law_draw dc_law_draw pm_law_draw an_law_draw cd_law_draw ct_law_draw), sl_law_draw⟩) (c_law_draw : PySem.W.codeIn K cd_law_draw "_law_draw" = true) (k_law_draw : PySem.W.keepIn K (.ref f_law_draw) = true)
    {od_law_pick an_law_pick : Option Addr} {sl_law_pick : Array (Option Value)} {oc_law_pick kV_law_pick dc_law_pick pm_law_pick cd_law_pick ct_law_pick : Value} {f_law_pick : Addr}
    (a_law_pick : PySem.W.nsIn K mainGlobals "_law_pick" = some (some (.ref f_law_pick))) (l_law_pick : K.lookup f_law_pick = some ⟨oc_law_pick, od_law_pick, .func (PySem.W.fnOf "_law_pick" "_law_pick" (defArgs s__law_pick) (defBody s__law_pick) (defScope s__law_pick) .none kV_law_pick dc_law_pick pm_law_pick an_law_pick cd_law_pick ct_law_pick), sl_law_pick⟩) (c_law_pick : PySem.W.codeIn K cd_law_pick "_law_pick" = true) (k_law_pick : PySem.W.keepIn K (.ref f_law_pick) = true)
    {od_law_number an_law_number : Option Addr} {sl_law_number : Array (Option Value)} {oc_law_number kV_law_number dc_law_number pm_law_number cd_law_number ct_law_number : Value} {f_law_number : Addr}
    (a_law_number : PySem.W.nsIn K mainGlobals "_law_number" = some (some (.ref f_law_number))) (l_law_number : K.lookup f_law_number = some ⟨oc_law_number, od_law_number, .func (PySem.W.fnOf "_law_number" "_law_number" (defArgs s__law_number) (defBody s__law_number) (defScope s__law_number) .none kV_law_number dc_law_number pm_law_number an_law_number cd_law_number ct_law_number), sl_law_number⟩) (c_law_number : PySem.W.codeIn K cd_law_number "_law_number" = true) (k_law_number : PySem.W.keepIn K (.ref f_law_number) = true)
    {od_law_is_number an_law_is_number : Option Addr} {sl_law_is_number : Array (Option Value)} {oc_law_is_number kV_law_is_number dc_law_is_number pm_law_is_number cd_law_is_number ct_law_is_number : Value} {f_law_is_number : Addr}
    (a_law_is_number : PySem.W.nsIn K mainGlobals "_law_is_number" = some (some (.ref f_law_is_number))) (l_law_is_number : K.lookup f_law_is_number = some ⟨oc_law_is_number, od_law_is_number, .func (PySem.W.fnOf "_law_is_number" "_law_is_number" (defArgs s__law_is_number) (defBody s__law_is_number) (defScope s__law_is_number) .none kV_law_is_number dc_law_is_number pm_law_is_number an_law_is_number cd_law_is_number ct_law_is_number), sl_law_is_number⟩) (c_law_is_number : PySem.W.codeIn K cd_law_is_number "_law_is_number" = true) (k_law_is_number : PySem.W.keepIn K (.ref f_law_is_number) = true)
    {od_law_common an_law_common : Option Addr} {sl_law_common : Array (Option Value)} {oc_law_common kV_law_common dc_law_common pm_law_common cd_law_common ct_law_common : Value} {f_law_common : Addr}
    (a_law_common : PySem.W.nsIn K mainGlobals "_law_common" = some (some (.ref f_law_common))) (l_law_common : K.lookup f_law_common = some ⟨oc_law_common, od_law_common, .func (PySem.W.fnOf "_law_common" "_law_common" (defArgs s__law_common) (defBody s__law_common) (defScope s__law_common) .none kV_law_common dc_law_common pm_law_common an_law_common cd_law_common ct_law_common), sl_law_common⟩) (c_law_common : PySem.W.codeIn K cd_law_common "_law_common" = true) (k_law_common : PySem.W.keepIn K (.ref f_law_common) = true)
    {od_law_equals an_law_equals : Option Addr} {sl_law_equals : Array (Option Value)} {oc_law_equals kV_law_equals dc_law_equals pm_law_equals cd_law_equals ct_law_equals : Value} {f_law_equals : Addr}
    (a_law_equals : PySem.W.nsIn K mainGlobals "_law_equals" = some (some (.ref f_law_equals))) (l_law_equals : K.lookup f_law_equals = some ⟨oc_law_equals, od_law_equals, .func (PySem.W.fnOf "_law_equals" "_law_equals" (defArgs s__law_equals) (defBody s__law_equals) (defScope s__law_equals) .none kV_law_equals dc_law_equals pm_law_equals an_law_equals cd_law_equals ct_law_equals), sl_law_equals⟩) (c_law_equals : PySem.W.codeIn K cd_law_equals "_law_equals" = true) (k_law_equals : PySem.W.keepIn K (.ref f_law_equals) = true)
    {odfraction anfraction : Option Addr} {slfraction : Array (Option Value)} {ocfraction kVfraction dcfraction pmfraction cdfraction ctfraction : Value} {ffraction : Addr}
    (afraction : PySem.W.nsIn K mainGlobals "fraction" = some (some (.ref ffraction))) (lfraction : K.lookup ffraction = some ⟨ocfraction, odfraction, .func (PySem.W.fnOf "fraction" "fraction" (defArgs s_fraction) (defBody s_fraction) (defScope s_fraction) .none kVfraction dcfraction pmfraction anfraction cdfraction ctfraction), slfraction⟩) (cfraction : PySem.W.codeIn K cdfraction "fraction" = true) (kfraction : PySem.W.keepIn K (.ref ffraction) = true)
    {odminus anminus : Option Addr} {slminus : Array (Option Value)} {ocminus kVminus dcminus pmminus cdminus ctminus : Value} {fminus : Addr}
    (aminus : PySem.W.nsIn K mainGlobals "minus" = some (some (.ref fminus))) (lminus : K.lookup fminus = some ⟨ocminus, odminus, .func (PySem.W.fnOf "minus" "minus" (defArgs s_minus) (defBody s_minus) (defScope s_minus) .none kVminus dcminus pmminus anminus cdminus ctminus), slminus⟩) (cminus : PySem.W.codeIn K cdminus "minus" = true) (kminus : PySem.W.keepIn K (.ref fminus) = true)
    {odtimes antimes : Option Addr} {sltimes : Array (Option Value)} {octimes kVtimes dctimes pmtimes cdtimes cttimes : Value} {ftimes : Addr}
    (atimes : PySem.W.nsIn K mainGlobals "times" = some (some (.ref ftimes))) (ltimes : K.lookup ftimes = some ⟨octimes, odtimes, .func (PySem.W.fnOf "times" "times" (defArgs s_times) (defBody s_times) (defScope s_times) .none kVtimes dctimes pmtimes antimes cdtimes cttimes), sltimes⟩) (ctimes : PySem.W.codeIn K cdtimes "times" = true) (ktimes : PySem.W.keepIn K (.ref ftimes) = true)
    {odcompare ancompare : Option Addr} {slcompare : Array (Option Value)} {occompare kVcompare dccompare pmcompare cdcompare ctcompare : Value} {fcompare : Addr}
    (acompare : PySem.W.nsIn K mainGlobals "compare" = some (some (.ref fcompare))) (lcompare : K.lookup fcompare = some ⟨occompare, odcompare, .func (PySem.W.fnOf "compare" "compare" (defArgs s_compare) (defBody s_compare) (defScope s_compare) .none kVcompare dccompare pmcompare ancompare cdcompare ctcompare), slcompare⟩) (ccompare : PySem.W.codeIn K cdcompare "compare" = true) (kcompare : PySem.W.keepIn K (.ref fcompare) = true)
    {odplus anplus : Option Addr} {slplus : Array (Option Value)} {ocplus kVplus dcplus pmplus cdplus ctplus : Value} {fplus : Addr}
    (aplus : PySem.W.nsIn K mainGlobals "plus" = some (some (.ref fplus))) (lplus : K.lookup fplus = some ⟨ocplus, odplus, .func (PySem.W.fnOf "plus" "plus" (defArgs s_plus) (defBody s_plus) (defScope s_plus) .none kVplus dcplus pmplus anplus cdplus ctplus), slplus⟩) (cplus : PySem.W.codeIn K cdplus "plus" = true) (kplus : PySem.W.keepIn K (.ref fplus) = true)
    {odover anover : Option Addr} {slover : Array (Option Value)} {ocover kVover dcover pmover cdover ctover : Value} {fover : Addr}
    (aover : PySem.W.nsIn K mainGlobals "over" = some (some (.ref fover))) (lover : K.lookup fover = some ⟨ocover, odover, .func (PySem.W.fnOf "over" "over" (defArgs s_over) (defBody s_over) (defScope s_over) .none kVover dcover pmover anover cdover ctover), slover⟩) (cover : PySem.W.codeIn K cdover "over" = true) (kover : PySem.W.keepIn K (.ref fover) = true)
    {odlaw anlaw : Option Addr} {sllaw : Array (Option Value)} {oclaw kVlaw dclaw pmlaw cdlaw ctlaw : Value} {flaw : Addr}
    (alaw : PySem.W.nsIn K mainGlobals "law" = some (some (.ref flaw))) (llaw : K.lookup flaw = some ⟨oclaw, odlaw, .func (PySem.W.fnOf "law" "law" (defArgs s_law) (defBody s_law) (defScope s_law) .none kVlaw dclaw pmlaw anlaw cdlaw ctlaw), sllaw⟩) (claw : PySem.W.codeIn K cdlaw "law" = true) (klaw : PySem.W.keepIn K (.ref flaw) = true)
    (zgcd : PySem.W.nsIn K mainGlobals "gcd" = some (some (.builtin "math.gcd")))
    (zabs : PySem.W.nsIn K mainGlobals "abs" = some none)
    (zbool : PySem.W.nsIn K mainGlobals "bool" = some none)
    (zint : PySem.W.nsIn K mainGlobals "int" = some none)
    (zisinstance : PySem.W.nsIn K mainGlobals "isinstance" = some none)
    (zlen : PySem.W.nsIn K mainGlobals "len" = some none)
    (zrange : PySem.W.nsIn K mainGlobals "range" = some none)
    (ztuple : PySem.W.nsIn K mainGlobals "tuple" = some none)
    : ∃ fd : FuncData, (∀ (s : Shared) (v : Value), BindsTo s fd ⟨[v], []⟩ [("_law_script", v)]) ∧ ∀ base : Heap, K.In base → base.Ns mainGlobals mg → FnOk l.prog w K mg base CX0 4 fa fd ["_law_script"] (spD K C_law) := by
  have e := hfa.symm.trans (PySem.W.mg_of X G alaw)
  cases e
  have B : Blt mg := ⟨PySem.W.mg_of X G zgcd, PySem.W.mg_none_of X G zabs, PySem.W.mg_none_of X G zbool, PySem.W.mg_none_of X G zint, PySem.W.mg_none_of X G zisinstance, PySem.W.mg_none_of X G zlen, PySem.W.mg_none_of X G zrange, PySem.W.mg_none_of X G ztuple⟩
  have D__law_start : DefAt K mg "_law_start" s__law_start ["_law_script"] := def_mk X G a_law_start l_law_start c_law_start k_law_start fun _ _ _ _ _ _ us hl => match us, hl with | [_], _ => rfl
  have D__law_draw : DefAt K mg "_law_draw" s__law_draw ["_law_state", "_law_bound"] := def_mk X G a_law_draw l_law_draw c_law_draw k_law_draw fun _ _ _ _ _ _ us hl => match us, hl with | [_, _], _ => rfl
  have D__law_pick : DefAt K mg "_law_pick" s__law_pick ["_law_state", "_law_things"] := def_mk X G a_law_pick l_law_pick c_law_pick k_law_pick fun _ _ _ _ _ _ us hl => match us, hl with | [_, _], _ => rfl
  have D__law_number : DefAt K mg "_law_number" s__law_number ["_law_state"] := def_mk X G a_law_number l_law_number c_law_number k_law_number fun _ _ _ _ _ _ us hl => match us, hl with | [_], _ => rfl
  have D__law_is_number : DefAt K mg "_law_is_number" s__law_is_number ["_law_thing"] := def_mk X G a_law_is_number l_law_is_number c_law_is_number k_law_is_number fun _ _ _ _ _ _ us hl => match us, hl with | [_], _ => rfl
  have D__law_common : DefAt K mg "_law_common" s__law_common ["_law_a", "_law_b"] := def_mk X G a_law_common l_law_common c_law_common k_law_common fun _ _ _ _ _ _ us hl => match us, hl with | [_, _], _ => rfl
  have D__law_equals : DefAt K mg "_law_equals" s__law_equals ["_law_f", "_law_n", "_law_d"] := def_mk X G a_law_equals l_law_equals c_law_equals k_law_equals fun _ _ _ _ _ _ us hl => match us, hl with | [_, _, _], _ => rfl
  have D_fraction : DefAt K mg "fraction" s_fraction ["n", "d"] := def_mk X G afraction lfraction cfraction kfraction fun _ _ _ _ _ _ us hl => match us, hl with | [_, _], _ => rfl
  have D_minus : DefAt K mg "minus" s_minus ["a", "b"] := def_mk X G aminus lminus cminus kminus fun _ _ _ _ _ _ us hl => match us, hl with | [_, _], _ => rfl
  have D_times : DefAt K mg "times" s_times ["a", "b"] := def_mk X G atimes ltimes ctimes ktimes fun _ _ _ _ _ _ us hl => match us, hl with | [_, _], _ => rfl
  have D_compare : DefAt K mg "compare" s_compare ["a", "b"] := def_mk X G acompare lcompare ccompare kcompare fun _ _ _ _ _ _ us hl => match us, hl with | [_, _], _ => rfl
  have D_plus : DefAt K mg "plus" s_plus ["a", "b"] := def_mk X G aplus lplus cplus kplus fun _ _ _ _ _ _ us hl => match us, hl with | [_, _], _ => rfl
  have D_over : DefAt K mg "over" s_over ["a", "b"] := def_mk X G aover lover cover kover fun _ _ _ _ _ _ us hl => match us, hl with | [_, _], _ => rfl
  refine ⟨PySem.W.fnOf "law" "law" (defArgs s_law) (defBody s_law) (defScope s_law) .none kVlaw dclaw pmlaw anlaw cdlaw ctlaw, fun s v => .of_eq rfl, fun base _ _ => ?_⟩
  have K__law_start := ok__law_start (P := l.prog) (w := w) (base := base) B D__law_start 
  have K__law_draw := ok__law_draw (P := l.prog) (w := w) (base := base) B D__law_draw 
  have K__law_pick := ok__law_pick (P := l.prog) (w := w) (base := base) B D__law_pick K__law_draw
  have K__law_number := ok__law_number (P := l.prog) (w := w) (base := base) B D__law_number K__law_pick K__law_draw
  have K__law_is_number := ok__law_is_number (P := l.prog) (w := w) (base := base) B D__law_is_number 
  have K__law_common := ok__law_common (P := l.prog) (w := w) (base := base) B D__law_common 
  have K__law_equals := ok__law_equals (P := l.prog) (w := w) (base := base) B D__law_equals K__law_is_number K__law_common
  have K_fraction := ok_fraction (P := l.prog) (w := w) (base := base) B D_fraction 
  have K_minus := ok_minus (P := l.prog) (w := w) (base := base) B D_minus K_fraction
  have K_times := ok_times (P := l.prog) (w := w) (base := base) B D_times K_fraction
  have K_compare := ok_compare (P := l.prog) (w := w) (base := base) B D_compare 
  have K_plus := ok_plus (P := l.prog) (w := w) (base := base) B D_plus K_fraction
  have K_over := ok_over (P := l.prog) (w := w) (base := base) B D_over K_fraction
  exact fnD (fun_mk (st := s_law) llaw claw klaw) sc_law len_law rfl fun cdv A outer s H E hr => ⟨t_law K, tm_law B K__law_start K__law_number K__law_equals K__law_is_number K_fraction K_minus K_times K_compare K_plus K_over hr, run_law⟩
end DL
open PySem PySem.W PyProof.Rows
set_option maxHeartbeats 0 in
theorem PySem.Challenge.cw_inkplane_k01_fractions_holds : PySem.Challenge.rw_inkplane_k01_fractions.Holds := by
  w_on; o_law; k_head; (case hw => w_witness2)
  k_fill
  refine L2.walk_of (l := PySem.Challenge.rw_inkplane_k01_fractions) (n := 63) (k := 4) (x := "_law_script") (CX := fun _ => L2.CX0) (sp := fun w => DL.spD _ DL.C_law) rfl (by decide) rfl ⟨rfl, by decide, by decide⟩ (fun w h Y => PySem.W.kIn_of Y) ?F (fun _ _ _ ns hl _ hS => DL.env_law hS ⟨_, _, ⟨ns, hl, rfl, rfl⟩, rfl, rfl, rfl⟩) (fun _ _ _ _ _ h => h)
  case F =>
    intro w mg fa h KX G hmg
    refine' DL.all_mk KX G hmg ?a_law_start ?l_law_start ?c_law_start ?k_law_start ?a_law_draw ?l_law_draw ?c_law_draw ?k_law_draw ?a_law_pick ?l_law_pick ?c_law_pick ?k_law_pick ?a_law_number ?l_law_number ?c_law_number ?k_law_number ?a_law_is_number ?l_law_is_number ?c_law_is_number ?k_law_is_number ?a_law_common ?l_law_common ?c_law_common ?k_law_common ?a_law_equals ?l_law_equals ?c_law_equals ?k_law_equals ?afraction ?lfraction ?cfraction ?kfraction ?aminus ?lminus ?cminus ?kminus ?atimes ?ltimes ?ctimes ?ktimes ?acompare ?lcompare ?ccompare ?kcompare ?aplus ?lplus ?cplus ?kplus ?aover ?lover ?cover ?kover ?alaw ?llaw ?claw ?klaw ?zgcd ?zabs ?zbool ?zint ?zisinstance ?zlen ?zrange ?ztuple
    (case a_law_start => k_is); (case l_law_start => k_is); (case c_law_start => k_is); (case k_law_start => k_is); (case a_law_draw => k_is); (case l_law_draw => k_is); (case c_law_draw => k_is); (case k_law_draw => k_is); (case a_law_pick => k_is); (case l_law_pick => k_is); (case c_law_pick => k_is); (case k_law_pick => k_is); (case a_law_number => k_is); (case l_law_number => k_is); (case c_law_number => k_is); (case k_law_number => k_is); (case a_law_is_number => k_is); (case l_law_is_number => k_is); (case c_law_is_number => k_is); (case k_law_is_number => k_is); (case a_law_common => k_is); (case l_law_common => k_is); (case c_law_common => k_is); (case k_law_common => k_is); (case a_law_equals => k_is); (case l_law_equals => k_is); (case c_law_equals => k_is); (case k_law_equals => k_is); (case afraction => k_is); (case lfraction => k_is); (case cfraction => k_is); (case kfraction => k_is); (case aminus => k_is); (case lminus => k_is); (case cminus => k_is); (case kminus => k_is); (case atimes => k_is); (case ltimes => k_is); (case ctimes => k_is); (case ktimes => k_is); (case acompare => k_is); (case lcompare => k_is); (case ccompare => k_is); (case kcompare => k_is); (case aplus => k_is); (case lplus => k_is); (case cplus => k_is); (case kplus => k_is); (case aover => k_is); (case lover => k_is); (case cover => k_is); (case kover => k_is); (case alaw => k_is); (case llaw => k_is); (case claw => k_is); (case klaw => k_is); (case zgcd => k_is); (case zabs => k_is); (case zbool => k_is); (case zint => k_is); (case zisinstance => k_is); (case zlen => k_is); (case zrange => k_is); (case ztuple => k_is)
