import PyProof.Rows.All
import Wide.All
import OpenK.AllK
import Wide.FinOn
import HandS.ForMost
import HandS.Codes
import HandS.Gcd
import HandS.IsInst
import HandS.TupAny
import HandS.TupMul
import HandS.Wide
import HandS.Conv
import HandS.TryOnly
import HandS.Zip
import HandS.More
import PySem.Challenge.RW_inkplane_k26_lines_and_curves
set_option Elab.async false
set_option linter.all false
set_option maxRecDepth 100000
/-! My own layer over the readings: pure environments, owned objects, big steps. -/
namespace DL
open PySem PySem.Spec PyProof.Rows L2

abbrev D := PyData
abbrev St := L2.St

/-! ### data stand as the heap grows -/
def Ex (H H' : Hp) : Prop := ∀ a o, H a = some o → H' a = some o
theorem Ex.refl (H : Hp) : Ex H H := fun _ _ h => h
theorem Ex.trans {H H1 H2 : Hp} (a : Ex H H1) (b : Ex H1 H2) : Ex H H2 := fun x o h => b x o (a x o h)
theorem ex_rd {H H' : Hp} {a : Addr} {u : HO} (e : Ex H H') (h : Rd H a u) : Rd H' a u := by
  rcases h with h | ⟨o, h⟩
  · exact .inl (e a _ h)
  · exact .inr ⟨o, e a _ h⟩
theorem ex_l {K : PySem.W.Frag} {H H' : Hp} {a : Addr} {xs : List V} (e : Ex H H') (h : SqL K H a xs) : SqL K H' a xs := h.elim (fun h => .inl (ex_rd e h)) .inr
theorem ex_t {K : PySem.W.Frag} {H H' : Hp} {a : Addr} {xs : List V} (e : Ex H H') (h : SqT K H a xs) : SqT K H' a xs := h.elim (fun h => .inl (ex_rd e h)) .inr
theorem Ex.new {H : Hp} {p : Addr} {o : HO} (h : H p = none) : Ex H (upd H p o) := fun a u e => by
  rw [upd_ne (ne_of_none e h)]
  exact e

mutual
theorem dp_mono {K : PySem.W.Frag} {F F' : Hp} (e : Ex F F') : ∀ {d : D} {v : V}, Dp K F v d → Dp K F' v d
  | _, _, .non => .non
  | _, _, .bl b => .bl b
  | _, _, .int i => .int i
  | _, _, .str x => .str x
  | _, _, .lst hs ha => .lst (ex_l e hs) (dpa_mono e ha)
  | _, _, .tup hs ha => .tup (ex_t e hs) (dpa_mono e ha)
theorem dpa_mono {K : PySem.W.Frag} {F F' : Hp} (e : Ex F F') : ∀ {ds : List D} {vs : List V}, DpAll K F vs ds → DpAll K F' vs ds
  | _, _, .nil => .nil
  | _, _, .cons h t => .cons (dp_mono e h) (dpa_mono e t)
end
end DL
namespace L2
open PySem PySem.Spec PyProof.Rows
theorem DpAll.length {K : PySem.W.Frag} {F : Hp} : ∀ {vs : List V} {ds : List PyData}, DpAll K F vs ds → vs.length = ds.length
  | _, _, .nil => rfl
  | _, _, .cons _ t => congrArg (· + 1) (DpAll.length t)
theorem DpAll.get {K : PySem.W.Frag} {F : Hp} : ∀ {vs : List V} {ds : List PyData} {i : Nat} {d : PyData}, DpAll K F vs ds → ds[i]? = some d → ∃ v, vs[i]? = some v ∧ Dp K F v d
  | _, _, _, _, .nil, e => by simp at e
  | _, _, 0, _, .cons h _, e => by
    have e' := Option.some.inj e
    subst e'
    exact ⟨_, rfl, h⟩
  | _, _, i + 1, d, .cons _ t, e => DpAll.get (i := i) (d := d) t e
theorem DpAll.getV {K : PySem.W.Frag} {F : Hp} : ∀ {vs : List V} {ds : List PyData} {i : Nat} {v : V}, DpAll K F vs ds → vs[i]? = some v → ∃ d, ds[i]? = some d ∧ Dp K F v d
  | _, _, _, _, .nil, e => by simp at e
  | _, _, 0, _, .cons h _, e => by
    have e' := Option.some.inj e
    subst e'
    exact ⟨_, rfl, h⟩
  | _, _, i + 1, v, .cons _ t, e => DpAll.getV (i := i) (v := v) t e
theorem DpAll.append {K : PySem.W.Frag} {F : Hp} : ∀ {vs ws : List V} {ds es : List PyData}, DpAll K F vs ds → DpAll K F ws es → DpAll K F (vs ++ ws) (ds ++ es)
  | _, _, _, _, .nil, s => s
  | _, _, _, _, .cons h t, s => .cons h (DpAll.append t s)
theorem DpAll.take {K : PySem.W.Frag} {F : Hp} : ∀ {vs : List V} {ds : List PyData} (n : Nat), DpAll K F vs ds → DpAll K F (vs.take n) (ds.take n)
  | _, _, 0, _ => .nil
  | _, _, _ + 1, .nil => .nil
  | _, _, n + 1, .cons h t => .cons h (DpAll.take n t)
theorem DpAll.drop {K : PySem.W.Frag} {F : Hp} : ∀ {vs : List V} {ds : List PyData} (n : Nat), DpAll K F vs ds → DpAll K F (vs.drop n) (ds.drop n)
  | _, _, 0, h => h
  | _, _, _ + 1, .nil => .nil
  | _, _, n + 1, .cons _ t => DpAll.drop n t
theorem DpAll.set {K : PySem.W.Frag} {F : Hp} {v : V} {d : PyData} (r : Dp K F v d) : ∀ {vs : List V} {ds : List PyData} (i : Nat), DpAll K F vs ds → DpAll K F (vs.set i v) (ds.set i d)
  | _, _, _, .nil => .nil
  | _, _, 0, .cons _ t => .cons r t
  | _, _, i + 1, .cons h t => .cons h (DpAll.set r i t)
theorem DpAll.reverse {K : PySem.W.Frag} {F : Hp} {vs : List V} {ds : List PyData} (h : DpAll K F vs ds) : DpAll K F vs.reverse ds.reverse := by
  induction vs generalizing ds with
  | nil =>
    cases h
    exact .nil
  | cons v vs ih =>
    cases h with
    | cons h t =>
      rw [List.reverse_cons, List.reverse_cons]
      exact DpAll.append (ih t) (.cons h .nil)

end L2
namespace DL
open PySem PySem.Spec PyProof.Rows L2
/-! ### pairs of a dict -/
inductive KD (K : PySem.W.Frag) (F : Hp) {κ : Type} : List (κ × V) → List (κ × D) → Prop
  | nil : KD K F [] []
  | cons {k : κ} {v : V} {d : D} {vs : List (κ × V)} {ds : List (κ × D)} : Dp K F v d → KD K F vs ds → KD K F ((k, v) :: vs) ((k, d) :: ds)
theorem KD.mono {K : PySem.W.Frag} {F F' : Hp} {κ : Type} (e : Ex F F') {vs : List (κ × V)} {ds : List (κ × D)} (h : KD K F vs ds) : KD K F' vs ds := by
  induction h with
  | nil => exact .nil
  | cons h _ ih => exact .cons (dp_mono e h) ih
/-- the value at a key -/
def kdGet {κ : Type} [DecidableEq κ] : List (κ × D) → κ → Option D
  | [], _ => none
  | (k', d) :: r, k => if k' = k then some d else kdGet r k
def kdPut {κ : Type} [DecidableEq κ] : List (κ × D) → κ → D → List (κ × D)
  | [], k, d => [(k, d)]
  | (k', d') :: r, k, d => if k' = k then (k', d) :: r else (k', d') :: kdPut r k d

/-! ### objects that are owned by a name -/
inductive O where
  | L (ds : List D)
  | K (kvs : List (Key × D))
def RepO (K : PySem.W.Frag) (F : Hp) : O → HO → Prop
  | .L ds, ho => ∃ vs, ho = .lst vs ∧ DpAll K F vs ds
  | .K kvs, ho => ∃ ws, ho = .dK ws ∧ (ws.map (·.1)).Nodup ∧ KD K F ws kvs
theorem RepO.mono {K : PySem.W.Frag} {F F' : Hp} (e : Ex F F') : ∀ {o : O} {ho : HO}, RepO K F o ho → RepO K F' o ho
  | .L _, _, ⟨vs, h, a⟩ => ⟨vs, h, dpa_mono e a⟩
  | .K _, _, ⟨vs, h, n, a⟩ => ⟨vs, h, n, a.mono e⟩

/-- a slot: unknown, fixed data, an object (own: made in this def, or handed in) -/
inductive Sl where
  | no
  | fr (d : D)
  | ob (own : Bool) (o : O)
abbrev Dn := List Sl

structure EnvOk (K : PySem.W.Frag) (E F H : Hp) (δ : List Sl) (σ : List (Option V)) : Prop where
  ex : Ex F H
  dom : ∀ a, H a = none → E a = none
  len : σ.length = δ.length
  fr : ∀ (i : Nat) (d : D), δ[i]? = some (.fr d) → ∃ v, σ[i]? = some (some v) ∧ Dp K F v d
  ob : ∀ (i : Nat) (b : Bool) (o : O), δ[i]? = some (.ob b o) → ∃ p ho, σ[i]? = some (some (.ref p)) ∧ F p = none ∧ H p = some ho ∧ RepO K F o ho ∧ (b = true → E p = none)
  dj : ∀ (i j : Nat) (b : Bool) (o : O) (b' : Bool) (o' : O) (p : Addr), δ[i]? = some (.ob b o) → δ[j]? = some (.ob b' o') → σ[i]? = some (some (.ref p)) → σ[j]? = some (some (.ref p)) → i = j
/-- the addresses of the objects that the names own -/
def Hot (δ : List Sl) (σ : List (Option V)) (a : Addr) : Prop := ∃ (i : Nat) (b : Bool) (o : O), δ[i]? = some (.ob b o) ∧ σ[i]? = some (some (.ref a))
theorem EnvOk.hotF {K : PySem.W.Frag} {E F H : Hp} {δ : List Sl} {σ : List (Option V)} (e : EnvOk K E F H δ σ) {a : Addr} (h : Hot δ σ a) : F a = none ∧ ∃ ho, H a = some ho := by
  obtain ⟨i, b, o, h1, h2⟩ := h
  obtain ⟨p, ho, q1, q2, q3, _⟩ := e.ob i b o h1
  rw [h2] at q1
  cases q1
  exact ⟨q2, ho, q3⟩

structure Grow (F H : Hp) (δ : List Sl) (σ : List (Option V)) (F2 H2 : Hp) (δ2 : List Sl) (σ2 : List (Option V)) : Prop where
  f : Ex F F2
  k : ∀ a, H a ≠ none → ¬ Hot δ σ a → F2 a = F a
  h : ∀ a o, H a = some o → ¬ Hot δ σ a → H2 a = some o
  n : ∀ a, Hot δ2 σ2 a → Hot δ σ a ∨ H a = none
  dm : ∀ a, H2 a = none → H a = none
  pr : ∀ (i : Nat) (o : O), δ[i]? = some (.ob false o) → (∃ o', δ2[i]? = some (.ob false o')) ∧ σ2[i]? = σ[i]?
theorem Grow.refl {F H : Hp} {δ : List Sl} {σ : List (Option V)} : Grow F H δ σ F H δ σ :=
  ⟨Ex.refl F, fun _ _ _ => rfl, fun _ _ e _ => e, fun _ h => .inl h, fun _ h => h, fun _ o h => ⟨⟨o, h⟩, rfl⟩⟩
theorem Grow.trans {F H F1 H1 F2 H2 : Hp} {δ δ1 δ2 : List Sl} {σ σ1 σ2 : List (Option V)} (a : Grow F H δ σ F1 H1 δ1 σ1) (b : Grow F1 H1 δ1 σ1 F2 H2 δ2 σ2) : Grow F H δ σ F2 H2 δ2 σ2 where
  f := a.f.trans b.f
  k := fun x h n => by
    have h1 : H1 x ≠ none := fun z => h (a.dm x z)
    have n1 : ¬ Hot δ1 σ1 x := fun z => (a.n x z).elim n h
    rw [b.k x h1 n1, a.k x h n]
  h := fun x o e n => by
    have n1 : ¬ Hot δ1 σ1 x := fun z => (a.n x z).elim n fun q => by rw [e] at q; cases q
    exact b.h x o (a.h x o e n) n1
  n := fun x z => (b.n x z).elim (a.n x) fun q => .inr (a.dm x q)
  dm := fun x z => a.dm x (b.dm x z)
  pr := fun i o h => by
    obtain ⟨⟨o1, h1⟩, e1⟩ := a.pr i o h
    obtain ⟨h2, e2⟩ := b.pr i o1 h1
    exact ⟨h2, e2.trans e1⟩

/-- nothing but new objects -/
structure Alloc (F H F2 H2 : Hp) : Prop where
  k : ∀ a, H a ≠ none → F2 a = F a
  h : Ex H H2
  ex : Ex F2 H2
  f : Ex F F2
theorem Alloc.refl {F H : Hp} (e : Ex F H) : Alloc F H F H := ⟨fun _ _ => rfl, Ex.refl H, e, Ex.refl F⟩
theorem Alloc.trans {F H F1 H1 F2 H2 : Hp} (a : Alloc F H F1 H1) (b : Alloc F1 H1 F2 H2) : Alloc F H F2 H2 := by
  refine ⟨fun x h => ?_, a.h.trans b.h, b.ex, a.f.trans b.f⟩
  have h1 : H1 x ≠ none := fun z => by
    cases q : H x with
    | none => exact h q
    | some o =>
      rw [a.h x o q] at z
      cases z
  rw [b.k x h1, a.k x h]
theorem nn_ex {H H2 : Hp} (e : Ex H H2) {a : Addr} (h : H2 a = none) : H a = none := by
  cases q : H a with
  | none => rfl
  | some o =>
    rw [e a o q] at h
    cases h
/-- a new fixed object -/
theorem Alloc.new {F H : Hp} (e : Ex F H) {p : Addr} {o : HO} (h : H p = none) : Alloc F H (upd F p o) (upd H p o) := by
  refine ⟨fun x hx => ?_, Ex.new h, fun x u hu => ?_, Ex.new (nn_ex e h)⟩
  · rw [upd_ne fun z => hx (by rw [z]; exact h)]
  · by_cases hx : x = p
    · subst hx
      rw [upd_same] at hu ⊢
      exact hu
    · rw [upd_ne hx] at hu ⊢
      exact e x u hu
/-- a new object that is not fixed -/
theorem Alloc.own {F H : Hp} (e : Ex F H) {p : Addr} {o : HO} (h : H p = none) : Alloc F H F (upd H p o) :=
  ⟨fun _ _ => rfl, Ex.new h, e.trans (Ex.new h), Ex.refl F⟩
theorem Alloc.env {K : PySem.W.Frag} {E F H F2 H2 : Hp} {δ : List Sl} {σ : List (Option V)} (a : Alloc F H F2 H2) (e : EnvOk K E F H δ σ) : EnvOk K E F2 H2 δ σ where
  ex := a.ex
  dom := fun x h => e.dom x (nn_ex a.h h)
  len := e.len
  fr := fun i d h => by
    obtain ⟨v, h1, h2⟩ := e.fr i d h
    exact ⟨v, h1, dp_mono a.f h2⟩
  ob := fun i b o h => by
    obtain ⟨p, ho, h1, h2, h3, h4, h5⟩ := e.ob i b o h
    exact ⟨p, ho, h1, by rw [a.k p (by rw [h3]; exact fun z => nomatch z)]; exact h2, a.h p ho h3, h4.mono a.f, h5⟩
  dj := e.dj
theorem Alloc.grow {F H F2 H2 : Hp} {δ : List Sl} {σ : List (Option V)} (a : Alloc F H F2 H2) : Grow F H δ σ F2 H2 δ σ :=
  ⟨a.f, fun x h _ => a.k x h, fun x o h _ => a.h x o h, fun _ h => .inl h, fun _ h => nn_ex a.h h, fun _ o h => ⟨⟨o, h⟩, rfl⟩⟩

/-! ### what an expression gives -/
inductive R where
  | fr (d : D)
  | new (o : O)
  | al (i : Nat)
def RepR (K : PySem.W.Frag) (F H : Hp) (δ : List Sl) (σ : List (Option V)) : R → V → Prop
  | .fr d, v => Dp K F v d
  | .new o, v => ∃ p ho, v = .ref p ∧ F p = none ∧ H p = some ho ∧ RepO K F o ho ∧ ¬ Hot δ σ p
  | .al i, v => σ[i]? = some (some v) ∧ ∃ b o, δ[i]? = some (.ob b o)
/-- a new object was not there ahead -/
def Fresh (H : Hp) : R → V → Prop
  | .new _, v => ∀ p, v = .ref p → H p = none
  | _, _ => True
theorem Fresh.back {H H1 : Hp} (dm : ∀ a, H1 a = none → H a = none) : ∀ {r : R} {v : V}, Fresh H1 r v → Fresh H r v
  | .fr _, _, _ => trivial
  | .al _, _, _ => trivial
  | .new _, _, h => fun p e => dm p (h p e)
def kind : Sl → Sl
  | .no => .no
  | .fr d => .fr d
  | .ob b _ => .ob b (.L [])
def SameK (δ δ' : List Sl) : Prop := δ'.map kind = δ.map kind
theorem SameK.refl (δ : List Sl) : SameK δ δ := rfl
theorem SameK.trans {δ δ1 δ2 : List Sl} (a : SameK δ δ1) (b : SameK δ1 δ2) : SameK δ δ2 := Eq.trans b a
theorem SameK.symm {δ δ1 : List Sl} (a : SameK δ δ1) : SameK δ1 δ := Eq.symm a
theorem SameK.ob {δ δ' : List Sl} (s : SameK δ δ') {i : Nat} {b : Bool} {o : O} (h : δ[i]? = some (.ob b o)) : ∃ o', δ'[i]? = some (.ob b o') := by
  have e : (δ'.map kind)[i]? = (δ.map kind)[i]? := by rw [s]
  rw [List.getElem?_map, List.getElem?_map, h] at e
  cases q : δ'[i]? with
  | none =>
    rw [q] at e
    cases e
  | some x =>
    rw [q] at e
    cases x with
    | no => cases e
    | fr d => cases e
    | ob b' o' =>
      have e' := Option.some.inj e
      injection e' with e1 _
      subst e1
      exact ⟨o', rfl⟩
theorem SameK.fr {δ δ' : List Sl} (s : SameK δ δ') {i : Nat} {d : D} (h : δ[i]? = some (.fr d)) : δ'[i]? = some (.fr d) := by
  have e : (δ'.map kind)[i]? = (δ.map kind)[i]? := by rw [s]
  rw [List.getElem?_map, List.getElem?_map, h] at e
  cases q : δ'[i]? with
  | none =>
    rw [q] at e
    cases e
  | some x =>
    rw [q] at e
    cases x with
    | no => cases e
    | ob _ _ => cases e
    | fr d' =>
      have e' : Sl.fr d' = Sl.fr d := Option.some.inj e
      rw [e']
theorem SameK.hot {δ δ' : List Sl} {σ : List (Option V)} {a : Addr} (s : SameK δ δ') : Hot δ σ a → Hot δ' σ a := fun ⟨i, b, o, h, e⟩ => by
  obtain ⟨o', h'⟩ := s.ob h
  exact ⟨i, b, o', h', e⟩
/-- what was seen stands -/
theorem RepR.keep {K : PySem.W.Frag} {F H F2 H2 : Hp} {δ δ2 : List Sl} {σ : List (Option V)} (g : Grow F H δ σ F2 H2 δ2 σ) (s : SameK δ δ2) : ∀ {r : R} {v : V}, RepR K F H δ σ r v → RepR K F2 H2 δ2 σ r v
  | .fr _, _, h => dp_mono g.f h
  | .al _, _, ⟨h1, b, o, h2⟩ => ⟨h1, b, s.ob h2⟩
  | .new _, _, ⟨p, ho, e, h1, h2, h3, h4⟩ => by
    refine ⟨p, ho, e, ?_, g.h p ho h2 h4, h3.mono g.f, fun z => ?_⟩
    · rw [g.k p (by rw [h2]; exact fun z => nomatch z) h4]
      exact h1
    · rcases g.n p z with q | q
      · exact h4 q
      · rw [h2] at q
        cases q

def EvJ (K : PySem.W.Frag) (te : TE) (δ : List Sl) (r : R) (δ' : List Sl) : Prop :=
  SameK δ δ' ∧ ∀ (E F H : Hp) (σ : List (Option V)) (Q : VK), EnvOk K E F H δ σ →
    (∀ v F2 H2, EnvOk K E F2 H2 δ' σ → Grow F H δ σ F2 H2 δ' σ → RepR K F2 H2 δ' σ r v → Fresh H r v → Q v H2) → te σ H Q
def TtJ (K : PySem.W.Frag) (tt : TT) (δ : List Sl) (b : Bool) (δ' : List Sl) : Prop :=
  SameK δ δ' ∧ ∀ (E F H : Hp) (σ : List (Option V)) (Q : Bool → Hp → Prop), EnvOk K E F H δ σ →
    (∀ F2 H2, EnvOk K E F2 H2 δ' σ → Grow F H δ σ F2 H2 δ' σ → Q b H2) → tt σ H Q
/-- what several expressions give -/
inductive RepRs (K : PySem.W.Frag) (F H : Hp) (δ : List Sl) (σ : List (Option V)) : List R → List V → Prop
  | nil : RepRs K F H δ σ [] []
  | cons {r : R} {v : V} {rs : List R} {vs : List V} : RepR K F H δ σ r v → RepRs K F H δ σ rs vs → (∀ (o : O) (p : Addr), r = .new o → v = .ref p → ∀ (j : Nat) (o' : O), rs[j]? = some (.new o') → vs[j]? ≠ some (.ref p)) → RepRs K F H δ σ (r :: rs) (v :: vs)
def EvA (K : PySem.W.Frag) (ta : TA) (δ : List Sl) (rs : List R) (δ' : List Sl) : Prop :=
  SameK δ δ' ∧ ∀ (E F H : Hp) (σ : List (Option V)) (Q : List V → Hp → Prop), EnvOk K E F H δ σ →
    (∀ vs F2 H2, EnvOk K E F2 H2 δ' σ → Grow F H δ σ F2 H2 δ' σ → RepRs K F2 H2 δ' σ rs vs → (∀ (j : Nat) (r : R) (v : V), rs[j]? = some r → vs[j]? = some v → Fresh H r v) → Q vs H2) → ta σ H Q

section
variable {K : PySem.W.Frag} {δ δ1 δ2 δ3 : List Sl} {ta tb tc te : TE} {r r1 r2 : R} {d d1 d2 : D} {v : V}
theorem ev_var {i : Nat} (h : δ[i]? = some (.fr d)) : EvJ K (tVar i) δ (.fr d) δ := ⟨SameK.refl δ, fun _ F H σ Q e q => by
  obtain ⟨v, h1, h2⟩ := e.fr i d h
  exact ⟨v, h1, q v F H e Grow.refl h2 trivial⟩⟩
theorem ev_varO {i : Nat} {b : Bool} {o : O} (h : δ[i]? = some (.ob b o)) : EvJ K (tVar i) δ (.al i) δ := ⟨SameK.refl δ, fun _ F H σ Q e q => by
  obtain ⟨p, ho, h1, _⟩ := e.ob i b o h
  exact ⟨_, h1, q _ F H e Grow.refl ⟨h1, b, o, h⟩ trivial⟩⟩
theorem ev_c (h : ∀ F, Dp K F v d) : EvJ K (tC v) δ (.fr d) δ := ⟨SameK.refl δ, fun _ F H _ _ e q => q v F H e Grow.refl (h F) trivial⟩
theorem ev_int {i : Int} : EvJ K (tC (.int i)) δ (.fr (.int i)) δ := ev_c fun _ => .int i
theorem ev_bl {b : Bool} : EvJ K (tC (.bl b)) δ (.fr (.bool b)) δ := ev_c fun _ => .bl b
theorem ev_str {x : Str} : EvJ K (tC (.str x)) δ (.fr (.str x)) δ := ev_c fun _ => .str x
theorem ev_non : EvJ K (tC .non) δ (.fr .none) δ := ev_c fun _ => .non
theorem EvJ.conv (h : EvJ K te δ (.fr d) δ1) (e : d = d1) : EvJ K te δ (.fr d1) δ1 := e ▸ h
theorem EvJ.cast {r' : R} (h : EvJ K te δ r δ1) (e : r = r') : EvJ K te δ r' δ1 := e ▸ h

/-- a rule on one value -/
def UnD (K : PySem.W.Frag) (u : V → Hp → VK → Prop) (r : R) (δ : List Sl) (r' : R) : Prop :=
  ∀ (E F H : Hp) (σ : List (Option V)) (v : V) (Q : VK), EnvOk K E F H δ σ → RepR K F H δ σ r v → (∀ w F2 H2, Alloc F H F2 H2 → RepR K F2 H2 δ σ r' w → Fresh H r' w → Q w H2) → u v H Q
/-- a rule on two values -/
def OpD (K : PySem.W.Frag) (f : R2) (r1 r2 : R) (δ : List Sl) (r' : R) : Prop :=
  ∀ (E F H : Hp) (σ : List (Option V)) (x y : V) (Q : VK), EnvOk K E F H δ σ → RepR K F H δ σ r1 x → RepR K F H δ σ r2 y → (∀ w F2 H2, Alloc F H F2 H2 → RepR K F2 H2 δ σ r' w → Fresh H r' w → Q w H2) → f x y H Q
/-- a rule on the values of arguments -/
def CaD (K : PySem.W.Frag) (f : List V → Hp → VK → Prop) (rs : List R) (δ : List Sl) (r' : R) : Prop :=
  ∀ (E F H : Hp) (σ : List (Option V)) (vs : List V) (Q : VK), EnvOk K E F H δ σ → RepRs K F H δ σ rs vs → (∀ w F2 H2, Alloc F H F2 H2 → RepR K F2 H2 δ σ r' w → Fresh H r' w → Q w H2) → f vs H Q
theorem ev_un {u : V → Hp → VK → Prop} (ha : EvJ K ta δ r δ1) (hu : UnD K u r δ1 r1) : EvJ K (tUn u ta) δ r1 δ1 := ⟨ha.1, fun E F H σ Q e q =>
  ha.2 E F H σ _ e fun v F2 H2 e2 g2 h2 _ => hu E F2 H2 σ v Q e2 h2 fun w F3 H3 al rw fw => q w F3 H3 (al.env e2) (g2.trans al.grow) rw (fw.back g2.dm)⟩
theorem ev_op {f : R2} {r' : R} (ha : EvJ K ta δ r1 δ1) (hb : EvJ K tb δ1 r2 δ2) (ho : OpD K f r1 r2 δ2 r') : EvJ K (tOp f ta tb) δ r' δ2 := ⟨ha.1.trans hb.1, fun E F H σ Q e q =>
  ha.2 E F H σ _ e fun v F2 H2 e2 g2 h2 _ => hb.2 E F2 H2 σ _ e2 fun u F3 H3 e3 g3 h3 _ => ho E F3 H3 σ v u Q e3 (h2.keep g3 hb.1) h3 fun w F4 H4 al rw fw =>
    q w F4 H4 (al.env e3) ((g2.trans g3).trans al.grow) rw (fw.back (g2.trans g3).dm)⟩
theorem ea_nil : EvA K tNil δ [] δ := ⟨SameK.refl δ, fun _ F H _ _ e q => q [] F H e Grow.refl .nil (fun j r v h _ => by simp at h)⟩
theorem ea_cons {t : TA} {rs : List R} (ha : EvJ K ta δ r δ1) (ht : EvA K t δ1 rs δ2) : EvA K (tCons ta t) δ (r :: rs) δ2 := ⟨ha.1.trans ht.1, fun E F H σ Q e q =>
  ha.2 E F H σ _ e fun v F2 H2 e2 g2 h2 f2 => ht.2 E F2 H2 σ _ e2 fun vs F3 H3 e3 g3 h3 f3 => q (v :: vs) F3 H3 e3 (g2.trans g3) (.cons (h2.keep g3 ht.1) h3 (fun o p e1 e2' j o' hj hv => by
    subst e1
    obtain ⟨p', ho, ev, _, hp, _⟩ := h2
    rw [e2'] at ev
    cases ev
    have := f3 j _ _ hj hv p rfl
    rw [hp] at this
    cases this)) (fun j r' v' hr hv => by
      cases j with
      | zero =>
        cases hr
        cases hv
        exact f2
      | succ j => exact (f3 j r' v' hr hv).back g2.dm)⟩
theorem ev_cb {f : List V → Hp → VK → Prop} {t : TA} {rs : List R} (ha : EvA K t δ rs δ1) (hc : CaD K f rs δ1 r) : EvJ K (tCB f t) δ r δ1 := ⟨ha.1, fun E F H σ Q e q =>
  ha.2 E F H σ _ e fun vs F2 H2 e2 g2 h2 _ => hc E F2 H2 σ vs Q e2 h2 fun w F3 H3 al rw fw => q w F3 H3 (al.env e2) (g2.trans al.grow) rw (fw.back g2.dm)⟩
theorem ev_if {tt : TT} {b : Bool} (hc : TtJ K tt δ b δ1) (h1 : b = true → EvJ K ta δ1 r δ2) (h2 : b = false → EvJ K tb δ1 r δ2) : EvJ K (tIf tt ta tb) δ r δ2 := by
  cases b with
  | true =>
    have h := h1 rfl
    exact ⟨hc.1.trans h.1, fun E F H σ Q e q => hc.2 E F H σ _ e fun F2 H2 e2 g2 => by
      rw [if_pos rfl]
      exact h.2 E F2 H2 σ Q e2 fun v F3 H3 e3 g3 h3 f3 => q v F3 H3 e3 (g2.trans g3) h3 (f3.back g2.dm)⟩
  | false =>
    have h := h2 rfl
    exact ⟨hc.1.trans h.1, fun E F H σ Q e q => hc.2 E F H σ _ e fun F2 H2 e2 g2 => by
      rw [if_neg Bool.false_ne_true]
      exact h.2 E F2 H2 σ Q e2 fun v F3 H3 e3 g3 h3 f3 => q v F3 H3 e3 (g2.trans g3) h3 (f3.back g2.dm)⟩
/-- tests -/
theorem tt_B {b : Bool} (h : EvJ K te δ (.fr (.bool b)) δ1) : TtJ K (tB te) δ b δ1 := ⟨h.1, fun E F H σ Q e q => h.2 E F H σ _ e fun v F2 H2 e2 g2 h2 _ => by
  cases h2
  exact ⟨b, rfl, q F2 H2 e2 g2⟩⟩
theorem tt_test {b : Bool} (h : EvJ K te δ (.fr (.bool b)) δ1) : TtJ K (tTest te) δ b δ1 := ⟨h.1, fun E F H σ Q e q => h.2 E F H σ _ e fun v F2 H2 e2 g2 h2 _ => by
  cases h2
  exact ⟨b, rfl, q F2 H2 e2 g2⟩⟩
theorem tt_not {tt : TT} {b : Bool} (h : TtJ K tt δ b δ1) : TtJ K (tNot tt) δ (!b) δ1 := ⟨h.1, fun E F H σ Q e q => h.2 E F H σ _ e q⟩
theorem tt_and {t u : TT} {a b : Bool} (h1 : TtJ K t δ a δ1) (h2 : a = true → TtJ K u δ1 b δ2) (h3 : a = false → δ2 = δ1) : TtJ K (tAnd t u) δ (a && b) δ2 := by
  cases a with
  | true =>
    have h := h2 rfl
    exact ⟨h1.1.trans h.1, fun E F H σ Q e q => h1.2 E F H σ _ e fun F2 H2 e2 g2 => by
      rw [if_pos rfl]
      exact h.2 E F2 H2 σ Q e2 fun F3 H3 e3 g3 => q F3 H3 e3 (g2.trans g3)⟩
  | false =>
    have h := h3 rfl
    subst h
    exact ⟨h1.1, fun E F H σ Q e q => h1.2 E F H σ _ e fun F2 H2 e2 g2 => by
      rw [if_neg Bool.false_ne_true]
      exact q F2 H2 e2 g2⟩
theorem tt_or {t u : TT} {a b : Bool} (h1 : TtJ K t δ a δ1) (h2 : a = false → TtJ K u δ1 b δ2) (h3 : a = true → δ2 = δ1) : TtJ K (tOr t u) δ (a || b) δ2 := by
  cases a with
  | false =>
    have h := h2 rfl
    exact ⟨h1.1.trans h.1, fun E F H σ Q e q => h1.2 E F H σ _ e fun F2 H2 e2 g2 => by
      rw [if_neg Bool.false_ne_true]
      exact h.2 E F2 H2 σ Q e2 fun F3 H3 e3 g3 => q F3 H3 e3 (g2.trans g3)⟩
  | true =>
    have h := h3 rfl
    subst h
    exact ⟨h1.1, fun E F H σ Q e q => h1.2 E F H σ _ e fun F2 H2 e2 g2 => by
      rw [if_pos rfl]
      exact q F2 H2 e2 g2⟩
theorem ev_andV {a : Bool} (h1 : EvJ K ta δ (.fr (.bool a)) δ1) (h2 : a = true → EvJ K tb δ1 (.fr d) δ2) (h3 : a = false → d = .bool false ∧ δ2 = δ1) : EvJ K (tAndV ta tb) δ (.fr d) δ2 := by
  cases a with
  | true =>
    have h := h2 rfl
    exact ⟨h1.1.trans h.1, fun E F H σ Q e q => h1.2 E F H σ _ e fun v F2 H2 e2 g2 h2 _ => by
      cases h2
      refine ⟨true, rfl, ?_⟩
      rw [if_pos rfl]
      exact h.2 E F2 H2 σ Q e2 fun w F3 H3 e3 g3 h3 f3 => q w F3 H3 e3 (g2.trans g3) h3 (f3.back g2.dm)⟩
  | false =>
    obtain ⟨rfl, rfl⟩ := h3 rfl
    exact ⟨h1.1, fun E F H σ Q e q => h1.2 E F H σ _ e fun v F2 H2 e2 g2 h2 _ => by
      cases h2
      refine ⟨false, rfl, ?_⟩
      rw [if_neg Bool.false_ne_true]
      exact q _ F2 H2 e2 g2 (.bl false) trivial⟩
theorem ev_orV {a : Bool} (h1 : EvJ K ta δ (.fr (.bool a)) δ1) (h2 : a = false → EvJ K tb δ1 (.fr d) δ2) (h3 : a = true → d = .bool true ∧ δ2 = δ1) : EvJ K (tOrV ta tb) δ (.fr d) δ2 := by
  cases a with
  | false =>
    have h := h2 rfl
    exact ⟨h1.1.trans h.1, fun E F H σ Q e q => h1.2 E F H σ _ e fun v F2 H2 e2 g2 h2 _ => by
      cases h2
      refine ⟨false, rfl, ?_⟩
      rw [if_neg Bool.false_ne_true]
      exact h.2 E F2 H2 σ Q e2 fun w F3 H3 e3 g3 h3 f3 => q w F3 H3 e3 (g2.trans g3) h3 (f3.back g2.dm)⟩
  | true =>
    obtain ⟨rfl, rfl⟩ := h3 rfl
    exact ⟨h1.1, fun E F H σ Q e q => h1.2 E F H σ _ e fun v F2 H2 e2 g2 h2 _ => by
      cases h2
      refine ⟨true, rfl, ?_⟩
      rw [if_pos rfl]
      exact q _ F2 H2 e2 g2 (.bl true) trivial⟩
theorem ev_notV {a : Bool} (h1 : EvJ K ta δ (.fr (.bool a)) δ1) : EvJ K (tNotV ta) δ (.fr (.bool (!a))) δ1 := ⟨h1.1, fun E F H σ Q e q => h1.2 E F H σ _ e fun v F2 H2 e2 g2 h2 _ => by
  cases h2
  exact ⟨a, rfl, q _ F2 H2 e2 g2 (.bl _) trivial⟩⟩
/-- a new list becomes fixed -/
theorem ev_frz {ds : List D} (h : EvJ K te δ (.new (.L ds)) δ1) : EvJ K te δ (.fr (.list ds)) δ1 := ⟨h.1, fun E F H σ Q e q => h.2 E F H σ _ e fun v F2 H2 e2 g2 h2 f2 => by
  obtain ⟨p, ho, rfl, h3, h4, ⟨vs, rfl, h5⟩, h6⟩ := h2
  have hF : Ex F2 (upd F2 p (.lst vs)) := Ex.new h3
  refine q _ (upd F2 p (.lst vs)) H2 ⟨fun a o ha => ?_, e2.dom, e2.len, fun i d hi => ?_, fun i b o hi => ?_, e2.dj⟩ ⟨g2.f.trans hF, fun a ha hn => ?_, g2.h, g2.n, g2.dm, g2.pr⟩ (.lst (.inl (.inl upd_same)) (dpa_mono hF h5)) trivial
  · by_cases hp : a = p
    · subst hp
      rw [upd_same] at ha
      cases ha
      exact h4
    · rw [upd_ne hp] at ha
      exact e2.ex a o ha
  · obtain ⟨w, w1, w2⟩ := e2.fr i d hi
    exact ⟨w, w1, dp_mono hF w2⟩
  · obtain ⟨p', ho, w1, w2, w3, w4, w5⟩ := e2.ob i b o hi
    refine ⟨p', ho, w1, ?_, w3, w4.mono hF, w5⟩
    rw [upd_ne fun z => h6 ⟨i, b, o, hi, by rw [← z]; exact w1⟩]
    exact w2
  · rw [upd_ne fun z => ha (by rw [z]; exact f2 p rfl)]
    exact g2.k a ha hn⟩
end
end DL
/-! Statements, loops, comprehensions, defs. -/
namespace DL
open PySem PySem.Spec PyProof.Rows L2

inductive Out where
  | nx (δ : List Sl)
  | bk (δ : List Sl)
  | ct (δ : List Sl)
  | rt (r : R) (δ : List Sl)
def RepRet (K : PySem.W.Frag) (E F H : Hp) : R → V → Prop
  | .fr d, v => Dp K F v d
  | .new o, v => ∃ p ho, v = .ref p ∧ E p = none ∧ F p = none ∧ H p = some ho ∧ RepO K F o ho
  | .al _, _ => False
def Sat (K : PySem.W.Frag) (E F H : Hp) (δ : List Sl) (σ : List (Option V)) (D : Ends) : Out → Prop
  | .nx δ' => ∀ σ' F2 H2, EnvOk K E F2 H2 δ' σ' → Grow F H δ σ F2 H2 δ' σ' → D.nx σ' H2
  | .bk δ' => ∀ σ' F2 H2, EnvOk K E F2 H2 δ' σ' → Grow F H δ σ F2 H2 δ' σ' → D.bk σ' H2
  | .ct δ' => ∀ σ' F2 H2, EnvOk K E F2 H2 δ' σ' → Grow F H δ σ F2 H2 δ' σ' → D.ct σ' H2
  | .rt r δ' => ∀ v σ' F2 H2, EnvOk K E F2 H2 δ' σ' → Grow F H δ σ F2 H2 δ' σ' → RepRet K E F2 H2 r v → D.rt v H2
theorem Sat.grow {K : PySem.W.Frag} {E F H F1 H1 : Hp} {δ δ1 : List Sl} {σ σ1 : List (Option V)} {D : Ends} (g : Grow F H δ σ F1 H1 δ1 σ1) : ∀ {out : Out}, Sat K E F H δ σ D out → Sat K E F1 H1 δ1 σ1 D out
  | .nx _, s => fun σ' F2 H2 e g2 => s σ' F2 H2 e (g.trans g2)
  | .bk _, s => fun σ' F2 H2 e g2 => s σ' F2 H2 e (g.trans g2)
  | .ct _, s => fun σ' F2 H2 e g2 => s σ' F2 H2 e (g.trans g2)
  | .rt _ _, s => fun v σ' F2 H2 e g2 => s v σ' F2 H2 e (g.trans g2)
def StJ (K : PySem.W.Frag) (ts : TS) (δ : List Sl) (out : Out) : Prop :=
  ∀ (E F H : Hp) (σ : List (Option V)) (D : Ends), EnvOk K E F H δ σ → Sat K E F H δ σ D out → ts D σ H

/-- an object handed in is not stored over -/
def NoPar (δ : List Sl) (i : Nat) : Prop := ∀ o, δ[i]? ≠ some (.ob false o)
theorem getset {α : Type} {l : List α} {i j : Nat} {x y : α} (h : (l.set i x)[j]? = some y) : (j = i ∧ y = x ∧ i < l.length) ∨ (j ≠ i ∧ l[j]? = some y) := by
  by_cases e : j = i
  · subst e
    by_cases hl : j < l.length
    · rw [List.getElem?_set_self hl] at h
      cases h
      exact .inl ⟨rfl, rfl, hl⟩
    · rw [List.getElem?_eq_none (by rw [List.length_set]; omega)] at h
      cases h
  · rw [List.getElem?_set_ne (Ne.symm e)] at h
    exact .inr ⟨e, h⟩
section
variable {K : PySem.W.Frag} {E F H F2 H2 : Hp} {δ δ1 δ2 δ3 : List Sl} {σ : List (Option V)} {D' : Ends} {t u : TS} {te : TE} {out : Out} {r : R} {d : D} {v : V} {i j : Nat} {o : O} {b : Bool}
/-- a name is stored with fixed data -/
theorem EnvOk.set_fr (e : EnvOk K E F H δ σ) (h : Dp K F v d) : EnvOk K E F H (δ.set i (.fr d)) (σ.set i (some v)) where
  ex := e.ex
  dom := e.dom
  len := by rw [List.length_set, List.length_set]; exact e.len
  fr := fun j d' hj => by
    rcases getset hj with ⟨rfl, e1, hl⟩ | ⟨hn, hj⟩
    · cases e1
      exact ⟨v, List.getElem?_set_self (by rw [e.len]; exact hl), h⟩
    · obtain ⟨w, h1, h2⟩ := e.fr j d' hj
      exact ⟨w, by rw [List.getElem?_set_ne (Ne.symm hn)]; exact h1, h2⟩
  ob := fun j b o hj => by
    rcases getset hj with ⟨rfl, e1, hl⟩ | ⟨hn, hj⟩
    · cases e1
    · obtain ⟨p, ho, h1, h2⟩ := e.ob j b o hj
      exact ⟨p, ho, by rw [List.getElem?_set_ne (Ne.symm hn)]; exact h1, h2⟩
  dj := fun j k b o b' o' p hj hk h1 h2 => by
    rcases getset hj with ⟨rfl, e1, _⟩ | ⟨hn, hj⟩
    · cases e1
    · rcases getset hk with ⟨rfl, e1, _⟩ | ⟨hn', hk⟩
      · cases e1
      · rw [List.getElem?_set_ne (Ne.symm hn)] at h1
        rw [List.getElem?_set_ne (Ne.symm hn')] at h2
        exact e.dj j k b o b' o' p hj hk h1 h2
theorem Grow.set_fr {F H : Hp} {δ : List Sl} {σ : List (Option V)} {i : Nat} {d : D} {v : V} (hp : NoPar δ i) : Grow F H δ σ F H (δ.set i (.fr d)) (σ.set i (some v)) where
  f := Ex.refl F
  k := fun _ _ _ => rfl
  h := fun _ _ e _ => e
  n := fun a ⟨j, b, o, hj, hs⟩ => by
    rcases getset hj with ⟨rfl, e1, _⟩ | ⟨hn, hj⟩
    · cases e1
    · rw [List.getElem?_set_ne (Ne.symm hn)] at hs
      exact .inl ⟨j, b, o, hj, hs⟩
  dm := fun _ h => h
  pr := fun j o hj => by
    have hn : j ≠ i := fun z => hp o (by rw [← z]; exact hj)
    exact ⟨⟨o, by rw [List.getElem?_set_ne (Ne.symm hn)]; exact hj⟩, List.getElem?_set_ne (Ne.symm hn)⟩
/-- a name is stored with a new object -/
theorem EnvOk.set_ob {p : Addr} {ho : HO} (e : EnvOk K E F H δ σ) (h1 : F p = none) (h2 : H p = some ho) (h3 : RepO K F o ho) (h4 : E p = none) (h5 : ∀ j b' o', j ≠ i → δ[j]? = some (.ob b' o') → σ[j]? ≠ some (some (.ref p))) : EnvOk K E F H (δ.set i (.ob true o)) (σ.set i (some (.ref p))) where
  ex := e.ex
  dom := e.dom
  len := by rw [List.length_set, List.length_set]; exact e.len
  fr := fun j d' hj => by
    rcases getset hj with ⟨rfl, e1, hl⟩ | ⟨hn, hj⟩
    · cases e1
    · obtain ⟨w, h1, h2⟩ := e.fr j d' hj
      exact ⟨w, by rw [List.getElem?_set_ne (Ne.symm hn)]; exact h1, h2⟩
  ob := fun j b o' hj => by
    rcases getset hj with ⟨rfl, e1, hl⟩ | ⟨hn, hj⟩
    · cases e1
      exact ⟨p, ho, List.getElem?_set_self (by rw [e.len]; exact hl), h1, h2, h3, fun _ => h4⟩
    · obtain ⟨p, ho, q1, q2⟩ := e.ob j b o' hj
      exact ⟨p, ho, by rw [List.getElem?_set_ne (Ne.symm hn)]; exact q1, q2⟩
  dj := fun j k b o1 b' o2 q hj hk e1 e2 => by
    rcases getset hj with ⟨ej, _, hl⟩ | ⟨hn, hj'⟩
    · rcases getset hk with ⟨ek, _, _⟩ | ⟨hn', hk'⟩
      · rw [ej, ek]
      · rw [ej, List.getElem?_set_self (by rw [e.len]; exact hl)] at e1
        rw [List.getElem?_set_ne (Ne.symm hn')] at e2
        cases e1
        exact absurd e2 (h5 k b' o2 hn' hk')
    · rcases getset hk with ⟨ek, _, hl⟩ | ⟨hn', hk'⟩
      · rw [ek, List.getElem?_set_self (by rw [e.len]; exact hl)] at e2
        rw [List.getElem?_set_ne (Ne.symm hn)] at e1
        cases e2
        exact absurd e1 (h5 j b o1 hn hj')
      · rw [List.getElem?_set_ne (Ne.symm hn)] at e1
        rw [List.getElem?_set_ne (Ne.symm hn')] at e2
        exact e.dj j k b o1 b' o2 q hj' hk' e1 e2
theorem Grow.set_ob {F H : Hp} {δ : List Sl} {σ : List (Option V)} {i : Nat} {o : O} {p : Addr} (hl : i < σ.length) (hp : NoPar δ i) (hn : Hot δ σ p ∨ H p = none) : Grow F H δ σ F H (δ.set i (.ob true o)) (σ.set i (some (.ref p))) where
  f := Ex.refl F
  k := fun _ _ _ => rfl
  h := fun _ _ e _ => e
  n := fun a ⟨j, b, o', hj, hs⟩ => by
    rcases getset hj with ⟨rfl, e1, _⟩ | ⟨hne, hj⟩
    · rw [List.getElem?_set_self hl] at hs
      cases hs
      exact hn
    · rw [List.getElem?_set_ne (Ne.symm hne)] at hs
      exact .inl ⟨j, b, o', hj, hs⟩
  dm := fun _ h => h
  pr := fun j o hj => by
    have hne : j ≠ i := fun z => hp o (by rw [← z]; exact hj)
    exact ⟨⟨o, by rw [List.getElem?_set_ne (Ne.symm hne)]; exact hj⟩, List.getElem?_set_ne (Ne.symm hne)⟩

theorem st_seq (h1 : StJ K t δ (.nx δ1)) (h2 : StJ K u δ1 out) : StJ K (tSeq t u) δ out := fun E F H σ D e s =>
  h1 E F H σ { D with nx := u D } e fun σ' F2 H2 e2 g2 => h2 E F2 H2 σ' D e2 (s.grow g2)
theorem st_stop_rt (h1 : StJ K t δ (.rt r δ1)) : StJ K (tSeq t u) δ (.rt r δ1) := fun E F H σ D e s => h1 E F H σ { D with nx := u D } e s
theorem st_stop_bk (h1 : StJ K t δ (.bk δ1)) : StJ K (tSeq t u) δ (.bk δ1) := fun E F H σ D e s => h1 E F H σ { D with nx := u D } e s
theorem st_stop_ct (h1 : StJ K t δ (.ct δ1)) : StJ K (tSeq t u) δ (.ct δ1) := fun E F H σ D e s => h1 E F H σ { D with nx := u D } e s
theorem st_next : StJ K tNext δ (.nx δ) := fun E F H σ D e s => s σ F H e Grow.refl
theorem st_break : StJ K tBreak δ (.bk δ) := fun E F H σ D e s => s σ F H e Grow.refl
theorem st_cont : StJ K tCont δ (.ct δ) := fun E F H σ D e s => s σ F H e Grow.refl
/-- x = e, fixed data -/
theorem st_set (h : EvJ K te δ (.fr d) δ1) (hp : NoPar δ1 i := by intro o z; cases z) : StJ K (tAsg te (gName i)) δ (.nx (δ1.set i (.fr d))) := fun E F H σ D e s =>
  h.2 E F H σ _ e fun v F2 H2 e2 g2 h2 _ => s _ F2 H2 (e2.set_fr h2) (g2.trans (Grow.set_fr hp))
/-- x = e, a new object -/
theorem st_setN (h : EvJ K te δ (.new o) δ1) (hl : i < δ1.length := by decide) (hp : NoPar δ1 i := by intro o z; cases z) : StJ K (tAsg te (gName i)) δ (.nx (δ1.set i (.ob true o))) := fun E F H σ D e s =>
  h.2 E F H σ _ e fun v F2 H2 e2 g2 h2 f2 => by
    obtain ⟨p, ho, rfl, q1, q2, q3, q4⟩ := h2
    have hE : E p = none := e.dom p (f2 p rfl)
    refine s _ F2 H2 (e2.set_ob q1 q2 q3 hE fun j b' o' _ hj hs => q4 ⟨j, b', o', hj, hs⟩) ⟨g2.f, g2.k, g2.h, fun a ⟨j, b, o', hj, hs⟩ => ?_, g2.dm, fun j o' hj => ?_⟩
    · rcases getset hj with ⟨rfl, e1, _⟩ | ⟨hne, hj⟩
      · rw [List.getElem?_set_self (by rw [e2.len]; exact hl)] at hs
        cases hs
        exact .inr (f2 p rfl)
      · rw [List.getElem?_set_ne (Ne.symm hne)] at hs
        exact g2.n a ⟨j, b, o', hj, hs⟩
    · obtain ⟨⟨o1, h1⟩, e1⟩ := g2.pr j o' hj
      have hne : j ≠ i := fun z => hp o1 (by rw [← z]; exact h1)
      exact ⟨⟨o1, by rw [List.getElem?_set_ne (Ne.symm hne)]; exact h1⟩, by rw [List.getElem?_set_ne (Ne.symm hne)]⟩
/-- a name's own object becomes fixed data -/
theorem st_frz {ds : List D} (i : Nat) (hi : δ[i]? = some (.ob true (.L ds))) (h : StJ K t (δ.set i (.fr (.list ds))) out) : StJ K t δ out := fun E F H σ D e s => by
  obtain ⟨p, ho, h1, h2, h3, ⟨vs, rfl, h4⟩, h5⟩ := e.ob i true _ hi
  have hF : Ex F (upd F p (.lst vs)) := Ex.new h2
  have hil : i < δ.length := (List.getElem?_eq_some_iff.mp hi).1
  have hne : ∀ a, ¬ Hot δ σ a → a ≠ p := fun a hn z => hn ⟨i, true, _, hi, by rw [z]; exact h1⟩
  have E2 : EnvOk K E (upd F p (.lst vs)) H (δ.set i (.fr (.list ds))) σ := by
    refine ⟨fun a o ha => ?_, e.dom, by rw [List.length_set]; exact e.len, fun j d hj => ?_, fun j b o hj => ?_, fun j k b o b' o' q hj hk => ?_⟩
    · by_cases hp : a = p
      · subst hp
        rw [upd_same] at ha
        cases ha
        exact h3
      · rw [upd_ne hp] at ha
        exact e.ex a o ha
    · rcases getset hj with ⟨rfl, e1, _⟩ | ⟨hn, hj⟩
      · cases e1
        exact ⟨_, h1, .lst (.inl (.inl upd_same)) (dpa_mono hF h4)⟩
      · obtain ⟨w, w1, w2⟩ := e.fr j d hj
        exact ⟨w, w1, dp_mono hF w2⟩
    · rcases getset hj with ⟨rfl, e1, _⟩ | ⟨hn, hj⟩
      · cases e1
      · obtain ⟨q, ho, w1, w2, w3, w4, w5⟩ := e.ob j b o hj
        refine ⟨q, ho, w1, ?_, w3, w4.mono hF, w5⟩
        rw [upd_ne fun z => hn (e.dj j i b o true _ p hj hi (by rw [← z]; exact w1) h1)]
        exact w2
    · rcases getset hj with ⟨rfl, e1, _⟩ | ⟨hn, hj⟩
      · cases e1
      · rcases getset hk with ⟨rfl, e1, _⟩ | ⟨hn', hk⟩
        · cases e1
        · exact e.dj j k b o b' o' q hj hk
  have G : Grow F H δ σ (upd F p (.lst vs)) H (δ.set i (.fr (.list ds))) σ := by
    refine ⟨hF, fun a _ hn => ?_, fun _ _ q _ => q, fun a ⟨j, b, o, hj, hs⟩ => ?_, fun _ q => q, fun j o hj => ?_⟩
    · rw [upd_ne (hne a hn)]
    · rcases getset hj with ⟨rfl, e1, _⟩ | ⟨hn, hj⟩
      · cases e1
      · exact .inl ⟨j, b, o, hj, hs⟩
    · have hn : j ≠ i := fun z => by
        rw [z, hi] at hj
        cases hj
      exact ⟨⟨o, by rw [List.getElem?_set_ne (Ne.symm hn)]; exact hj⟩, rfl⟩
  exact h E _ H σ D E2 (s.grow G)
/-- a name is forgotten -/
theorem EnvOk.forget (e : EnvOk K E F H δ σ) (i : Nat) : EnvOk K E F H (δ.set i .no) σ where
  ex := e.ex
  dom := e.dom
  len := by rw [List.length_set]; exact e.len
  fr := fun j d hj => by
    rcases getset hj with ⟨rfl, e1, _⟩ | ⟨_, hj⟩
    · cases e1
    · exact e.fr j d hj
  ob := fun j b o hj => by
    rcases getset hj with ⟨rfl, e1, _⟩ | ⟨_, hj⟩
    · cases e1
    · exact e.ob j b o hj
  dj := fun j k b o b' o' p hj hk => by
    rcases getset hj with ⟨rfl, e1, _⟩ | ⟨_, hj⟩
    · cases e1
    · rcases getset hk with ⟨rfl, e1, _⟩ | ⟨_, hk⟩
      · cases e1
      · exact e.dj j k b o b' o' p hj hk
theorem Grow.forget {F H : Hp} {δ : List Sl} {σ : List (Option V)} {i : Nat} (hp : NoPar δ i) : Grow F H δ σ F H (δ.set i .no) σ where
  f := Ex.refl F
  k := fun _ _ _ => rfl
  h := fun _ _ e _ => e
  n := fun a ⟨j, b, o, hj, hs⟩ => by
    rcases getset hj with ⟨rfl, e1, _⟩ | ⟨hn, hj⟩
    · cases e1
    · exact .inl ⟨j, b, o, hj, hs⟩
  dm := fun _ h => h
  pr := fun j o hj => by
    have hn : j ≠ i := fun z => hp o (by rw [← z]; exact hj)
    exact ⟨⟨o, by rw [List.getElem?_set_ne (Ne.symm hn)]; exact hj⟩, rfl⟩
theorem st_forget (i : Nat) (hp : NoPar δ i) (h : StJ K t (δ.set i .no) out) : StJ K t δ out := fun E F H σ D e s =>
  h E F H σ D (e.forget i) (s.grow (Grow.forget hp))
/-- what is returned -/
def retR (δ : List Sl) : R → Option R
  | .fr d => some (.fr d)
  | .new o => some (.new o)
  | .al i => match δ[i]? with
    | some (.ob true o) => some (.new o)
    | _ => none
theorem st_ret {r' : R} (h : EvJ K te δ r δ1) (hr : retR δ1 r = some r') : StJ K (tRet te) δ (.rt r' δ1) := fun E F H σ D e s =>
  h.2 E F H σ _ e fun v F2 H2 e2 g2 h2 f2 => s v σ F2 H2 e2 g2 (by
    cases r with
    | fr d =>
      cases hr
      exact h2
    | new o =>
      cases hr
      obtain ⟨p, ho, rfl, q1, q2, q3, q4⟩ := h2
      exact ⟨p, ho, rfl, e.dom p (f2 p rfl), q1, q2, q3⟩
    | al i =>
      obtain ⟨h1, b, o, h3⟩ := h2
      unfold retR at hr
      simp only [h3] at hr
      cases b with
      | false => cases hr
      | true =>
        cases hr
        obtain ⟨p, ho, q1, q2, q3, q4, q5⟩ := e2.ob i true o h3
        rw [h1] at q1
        cases q1
        exact ⟨p, ho, rfl, q5 rfl, q2, q3, q4⟩)
theorem st_retN : StJ K tRetN δ (.rt (.fr .none) δ) := fun E F H σ D e s => s .non σ F H e Grow.refl .non
theorem st_drop (h : EvJ K te δ r δ1) : StJ K (tDrop te) δ (.nx δ1) := fun E F H σ D e s =>
  h.2 E F H σ _ e fun v F2 H2 e2 g2 _ _ => s σ F2 H2 e2 g2
theorem st_if {c : TT} {b : Bool} (hc : TtJ K c δ b δ1) (h1 : b = true → StJ K t δ1 out) (h2 : b = false → StJ K u δ1 out) : StJ K (tIfS c t u) δ out := fun E F H σ D e s =>
  hc.2 E F H σ _ e fun F2 H2 e2 g2 => by
    cases b with
    | true =>
      rw [if_pos rfl]
      exact h1 rfl E F2 H2 σ D e2 (s.grow g2)
    | false =>
      rw [if_neg Bool.false_ne_true]
      exact h2 rfl E F2 H2 σ D e2 (s.grow g2)
/-- an if whose ways go on each by itself -/
theorem st_ifq {c : TT} {b : Bool} {w : TS} (hc : TtJ K c δ b δ1) (h1 : b = true → StJ K (tSeq t w) δ1 out) (h2 : b = false → StJ K (tSeq u w) δ1 out) : StJ K (tSeq (tIfS c t u) w) δ out := fun E F H σ D e s =>
  hc.2 E F H σ _ e fun F2 H2 e2 g2 => by
    cases b with
    | true =>
      rw [if_pos rfl]
      exact h1 rfl E F2 H2 σ D e2 (s.grow g2)
    | false =>
      rw [if_neg Bool.false_ne_true]
      exact h2 rfl E F2 H2 σ D e2 (s.grow g2)
theorem st_nextq (h : StJ K u δ out) : StJ K (tSeq tNext u) δ out := st_seq st_next h
theorem StJ.cast {out' : Out} (h : StJ K t δ out) (e : out = out') : StJ K t δ out' := e ▸ h
end

/-! ### what a for walks -/
def ItOk (K : PySem.W.Frag) (F1 : Hp) (J : It) (ds : List D) : Prop :=
  ∀ F' H', Ex F1 F' → Ex F' H' → (∀ i, ds.length ≤ i → J.stop i H') ∧
    ∀ i d, ds[i]? = some d → J.go i H' ∧ ∀ x H'', J.yld i H' x H'' → ∃ F'', Alloc F' H' F'' H'' ∧ Dp K F'' x d
def SrcJ (K : PySem.W.Frag) (wi : TI) (δ : List Sl) (ds : List D) (δ' : List Sl) : Prop :=
  SameK δ δ' ∧ ∀ (E F H : Hp) (σ : List (Option V)) (Rr : It → Hp → Prop), EnvOk K E F H δ σ →
    (∀ J F1 H1, EnvOk K E F1 H1 δ' σ → Grow F H δ σ F1 H1 δ' σ → ItOk K F1 J ds → Rr J H1) → wi σ H Rr
def BindJ (K : PySem.W.Frag) (g : TG) (d : D) (δ δ' : List Sl) : Prop :=
  ∀ (E F H : Hp) (σ : List (Option V)) (v : V) (Q : List (Option V) → Hp → Prop), EnvOk K E F H δ σ → Dp K F v d →
    (∀ σ', EnvOk K E F H δ' σ' → Grow F H δ σ F H δ' σ' → Q σ' H) → g v σ H Q
def BindsJ (K : PySem.W.Frag) (g : TGs) (ds : List D) (δ δ' : List Sl) : Prop :=
  ∀ (E F H : Hp) (σ : List (Option V)) (vs : List V) (Q : List (Option V) → Hp → Prop), EnvOk K E F H δ σ → DpAll K F vs ds →
    (∀ σ', EnvOk K E F H δ' σ' → Grow F H δ σ F H δ' σ' → Q σ' H) → g vs σ H Q
section
variable {K : PySem.W.Frag} {δ δ1 δ2 : List Sl} {te ta tb : TE} {d d1 d2 : D} {ds : List D} {i : Nat}
theorem bj_name (hp : NoPar δ i := by intro o z; cases z) : BindJ K (gName i) d δ (δ.set i (.fr d)) := fun E F H σ v Q e h q => q _ (e.set_fr h) (Grow.set_fr hp)
theorem bsj_nil : BindsJ K gNil [] δ δ := fun E F H σ vs Q e h q => by
  cases h
  exact ⟨rfl, q σ e Grow.refl⟩
theorem bsj_cons {g : TG} {gs : TGs} (h1 : BindJ K g d δ δ1) (h2 : BindsJ K gs ds δ1 δ2) : BindsJ K (gCons g gs) (d :: ds) δ δ2 := fun E F H σ vs Q e h q => by
  cases h with
  | cons hv ht =>
    exact ⟨_, _, rfl, h1 E F H σ _ _ e hv fun σ' e' g' => h2 E F H σ' _ _ e' ht fun σ2 e2 g2 => q σ2 e2 (g'.trans g2)⟩
theorem bj_tup {gs : TGs} {n : Nat} (h : BindsJ K gs ds δ δ1) (hn : ds.length = n := by rfl) : BindJ K (gTup K n gs) (.tuple ds) δ δ1 := fun E F H σ v Q e hv q => by
  cases hv with
  | tup hs ha => exact ⟨_, _, rfl, ex_t e.ex hs, ha.length.trans hn, h E F H σ _ Q e ha q⟩
/-- a fixed list, a fixed tuple -/
theorem src_list (h : EvJ K te δ (.fr (.list ds)) δ1) : SrcJ K (iList K te) δ ds δ1 := ⟨h.1, fun E F H σ Rr e q => h.2 E F H σ _ e fun v F1 H1 e1 g1 h1 _ => by
  cases h1 with
  | @lst a xs _ hs ha =>
    refine ⟨a, rfl, ⟨xs, ex_l e1.ex hs⟩, q _ F1 H1 e1 g1 fun F' H' x1 x2 => ⟨fun i hi => ⟨xs, ex_l (x1.trans x2) hs, by rw [ha.length]; exact hi⟩, fun i d hd => ?_⟩⟩
    obtain ⟨w, hw, rw_⟩ := ha.get hd
    exact ⟨⟨xs, w, ex_l (x1.trans x2) hs, hw⟩, fun x H'' ⟨eH, hx⟩ => by
      subst eH
      have := hx xs (ex_l (x1.trans x2) hs)
      rw [hw] at this
      cases this
      exact ⟨F', Alloc.refl x2, dp_mono x1 rw_⟩⟩⟩
theorem src_tup (h : EvJ K te δ (.fr (.tuple ds)) δ1) : SrcJ K (iTup K te) δ ds δ1 := ⟨h.1, fun E F H σ Rr e q => h.2 E F H σ _ e fun v F1 H1 e1 g1 h1 _ => by
  cases h1 with
  | @tup a xs _ hs ha =>
    refine ⟨a, rfl, ⟨xs, ex_t e1.ex hs⟩, q _ F1 H1 e1 g1 fun F' H' x1 x2 => ⟨fun i hi => ⟨xs, ex_t (x1.trans x2) hs, by rw [ha.length]; exact hi⟩, fun i d hd => ?_⟩⟩
    obtain ⟨w, hw, rw_⟩ := ha.get hd
    exact ⟨⟨xs, w, ex_t (x1.trans x2) hs, hw⟩, fun x H'' ⟨eH, hx⟩ => by
      subst eH
      have := hx xs (ex_t (x1.trans x2) hs)
      rw [hw] at this
      cases this
      exact ⟨F', Alloc.refl x2, dp_mono x1 rw_⟩⟩⟩
/-- range(n), range(a, b) -/
def rngD (a : Int) (n : Nat) : List D := (List.range n).map fun (i : Nat) => PyData.int (a + (i : Int))
theorem rngD_get {a : Int} {n i : Nat} (h : i < n) : (rngD a n)[i]? = some (.int (a + (i : Int))) := by
  unfold rngD
  rw [List.getElem?_map, List.getElem?_range h]
  rfl
theorem rngD_len {a : Int} {n : Nat} : (rngD a n).length = n := by
  unfold rngD
  rw [List.length_map, List.length_range]
theorem itr_ok {F1 : Hp} {a : Int} {n : Nat} : ItOk K F1 (Itr a n) (rngD a n) := fun F' H' x1 x2 => ⟨fun i hi => by
  rw [rngD_len] at hi
  exact hi, fun i d hd => by
  have hi : i < n := by
    have := (List.getElem?_eq_some_iff.mp hd).1
    rw [rngD_len] at this
    exact this
  rw [rngD_get hi] at hd
  cases hd
  exact ⟨hi, fun x H'' ⟨eH, hx⟩ => by
    subst eH
    subst hx
    exact ⟨F', Alloc.refl x2, .int _⟩⟩⟩
theorem src_rng1 {n : Int} {ta : TA} (h : EvA K ta δ [.fr (.int n)] δ1) (h1 : -(2 ^ 62) ≤ n := by omega) (h2 : n < 2 ^ 62 := by omega) : SrcJ K (iRng1 ta) δ (rngD 0 n.toNat) δ1 := ⟨h.1, fun E F H σ Rr e q => h.2 E F H σ _ e fun vs F1 H1 e1 g1 hr _ => by
  cases hr with
  | cons r1 r2 _ =>
    cases r2
    cases r1
    exact ⟨n, rfl, h1, h2, q _ F1 H1 e1 g1 itr_ok⟩⟩
theorem src_rng2 {a b : Int} {ta : TA} (h : EvA K ta δ [.fr (.int a), .fr (.int b)] δ1) (h1 : -(2 ^ 62) ≤ a := by omega) (h2 : a < 2 ^ 62 := by omega) (h3 : -(2 ^ 62) ≤ b := by omega) (h4 : b < 2 ^ 62 := by omega) : SrcJ K (iRng2 ta) δ (rngD a (b - a).toNat) δ1 := ⟨h.1, fun E F H σ Rr e q => h.2 E F H σ _ e fun vs F1 H1 e1 g1 hr _ => by
  cases hr with
  | cons r1 r2 _ =>
    cases r2 with
    | cons r2 r3 _ =>
      cases r3
      cases r1
      cases r2
      exact ⟨a, b, rfl, ⟨h1, h2, h3, h4⟩, q _ F1 H1 e1 g1 itr_ok⟩⟩
end

/-! ### for -/
inductive ForRel (K : PySem.W.Frag) (g : TG) (tb : TS) : List D → List Sl → Out → Prop
  | nil {δ : List Sl} : ForRel K g tb [] δ (.nx δ)
  | go {d : D} {ds : List D} {δ δb δ2 : List Sl} {out : Out} : BindJ K g d δ δb → StJ K tb δb (.nx δ2) → ForRel K g tb ds δ2 out → ForRel K g tb (d :: ds) δ out
  | ct {d : D} {ds : List D} {δ δb δ2 : List Sl} {out : Out} : BindJ K g d δ δb → StJ K tb δb (.ct δ2) → ForRel K g tb ds δ2 out → ForRel K g tb (d :: ds) δ out
  | brk {d : D} {ds : List D} {δ δb δ2 : List Sl} : BindJ K g d δ δb → StJ K tb δb (.bk δ2) → ForRel K g tb (d :: ds) δ (.nx δ2)
  | ret {d : D} {ds : List D} {δ δb δ2 : List Sl} {r : R} : BindJ K g d δ δb → StJ K tb δb (.rt r δ2) → ForRel K g tb (d :: ds) δ (.rt r δ2)
theorem st_for {K : PySem.W.Frag} {wi : TI} {g : TG} {tb : TS} {ds : List D} {δ δ1 : List Sl} {out : Out} (hs : SrcJ K wi δ ds δ1) (hf : ForRel K g tb ds δ1 out) : StJ K (tFor wi g tb) δ out := fun E F H σ D e s =>
  hs.2 E F H σ _ e fun J F1 H1 e1 g1 it => by
    refine ⟨fun i m σ' H' => m = ds.length - i ∧ ∃ F' δ', EnvOk K E F' H' δ' σ' ∧ Grow F1 H1 δ1 σ F' H' δ' σ' ∧ ForRel K g tb (ds.drop i) δ' out, ⟨_, rfl, F1, δ1, e1, Grow.refl, hf⟩, fun i m σ' H' ⟨hm, F', δ', e', g', hr⟩ => ?_⟩
    obtain ⟨i1, i2⟩ := it F' H' g'.f e'.ex
    by_cases hi : i < ds.length
    · have hd : ds[i]? = some ds[i] := List.getElem?_eq_getElem hi
      obtain ⟨go, yl⟩ := i2 i _ hd
      rw [List.drop_eq_getElem_cons hi] at hr
      refine .inr ⟨go, fun σ2 H2 => ∃ F2 δ2, EnvOk K E F2 H2 δ2 σ2 ∧ Grow F1 H1 δ1 σ F2 H2 δ2 σ2 ∧ ForRel K g tb (ds.drop (i + 1)) δ2 out, fun σ2 H2 ⟨F2, δ2, e2, g2, r2⟩ => ⟨m - 1, by omega, by omega, F2, δ2, e2, g2, r2⟩, fun x H'' hy => ?_⟩
      obtain ⟨F'', al, hx⟩ := yl x H'' hy
      have ea := al.env e'
      have ga : Grow F1 H1 δ1 σ F'' H'' δ' σ' := g'.trans al.grow
      cases hr with
      | go hb hst hr2 => exact hb E F'' H'' σ' x _ ea hx fun σ2 e2 g2 => hst E F'' H'' σ2 _ e2 fun σ3 F3 H3 e3 g3 => ⟨F3, _, e3, (ga.trans g2).trans g3, hr2⟩
      | ct hb hst hr2 => exact hb E F'' H'' σ' x _ ea hx fun σ2 e2 g2 => hst E F'' H'' σ2 _ e2 fun σ3 F3 H3 e3 g3 => ⟨F3, _, e3, (ga.trans g2).trans g3, hr2⟩
      | brk hb hst => exact hb E F'' H'' σ' x _ ea hx fun σ2 e2 g2 => hst E F'' H'' σ2 _ e2 fun σ3 F3 H3 e3 g3 => s σ3 F3 H3 e3 (g1.trans ((ga.trans g2).trans g3))
      | ret hb hst => exact hb E F'' H'' σ' x _ ea hx fun σ2 e2 g2 => hst E F'' H'' σ2 _ e2 fun v σ3 F3 H3 e3 g3 => s v σ3 F3 H3 e3 (g1.trans ((ga.trans g2).trans g3))
    · refine .inl ⟨i1 i (by omega), ?_⟩
      rw [List.drop_eq_nil_of_le (by omega)] at hr
      cases hr
      exact s σ' F' H' e' (g1.trans g')

/-! ### while -/
inductive WhRel (K : PySem.W.Frag) (tc : TT) (tb : TS) : Nat → List Sl → Out → Prop
  | done {n : Nat} {δ δ1 : List Sl} : TtJ K tc δ false δ1 → WhRel K tc tb n δ (.nx δ1)
  | go {n : Nat} {δ δ1 δ2 : List Sl} {out : Out} : TtJ K tc δ true δ1 → StJ K tb δ1 (.nx δ2) → WhRel K tc tb n δ2 out → WhRel K tc tb (n + 1) δ out
  | ct {n : Nat} {δ δ1 δ2 : List Sl} {out : Out} : TtJ K tc δ true δ1 → StJ K tb δ1 (.ct δ2) → WhRel K tc tb n δ2 out → WhRel K tc tb (n + 1) δ out
  | brk {n : Nat} {δ δ1 δ2 : List Sl} : TtJ K tc δ true δ1 → StJ K tb δ1 (.bk δ2) → WhRel K tc tb n δ (.nx δ2)
  | ret {n : Nat} {δ δ1 δ2 : List Sl} {r : R} : TtJ K tc δ true δ1 → StJ K tb δ1 (.rt r δ2) → WhRel K tc tb n δ (.rt r δ2)
theorem st_while {K : PySem.W.Frag} {tc : TT} {tb : TS} {n : Nat} {δ : List Sl} {out : Out} (hw : WhRel K tc tb n δ out) : StJ K (tWhile tc tb) δ out := fun E F H σ D e s => by
  refine ⟨fun m σ' H' => ∃ F' δ', EnvOk K E F' H' δ' σ' ∧ Grow F H δ σ F' H' δ' σ' ∧ WhRel K tc tb m δ' out, ⟨n, F, δ, e, Grow.refl, hw⟩, fun m σ' H' ⟨F', δ', e', g', hr⟩ => ?_⟩
  have fin : ∀ {δ1 : List Sl}, TtJ K tc δ' true δ1 → (∀ F2 H2, EnvOk K E F2 H2 δ1 σ' → Grow F' H' δ' σ' F2 H2 δ1 σ' → ∃ N : List (Option V) → Hp → Prop, (∀ σ' H', N σ' H' → ∃ m', m' < m ∧ ∃ F' δ', EnvOk K E F' H' δ' σ' ∧ Grow F H δ σ F' H' δ' σ' ∧ WhRel K tc tb m' δ' out) ∧ tb { D with nx := N, ct := N, bk := D.nx } σ' H2) →
      tc σ' H' fun b H1 => if b = true then ∃ N : List (Option V) → Hp → Prop, (∀ σ' H', N σ' H' → ∃ m', m' < m ∧ ∃ F' δ', EnvOk K E F' H' δ' σ' ∧ Grow F H δ σ F' H' δ' σ' ∧ WhRel K tc tb m' δ' out) ∧ tb { D with nx := N, ct := N, bk := D.nx } σ' H1 else D.nx σ' H1 := fun {δ1} ht q =>
    ht.2 E F' H' σ' _ e' fun F2 H2 e2 g2 => by
      rw [if_pos rfl]
      exact q F2 H2 e2 g2
  cases hr with
  | done ht =>
    exact ht.2 E F' H' σ' _ e' fun F2 H2 e2 g2 => by
      rw [if_neg Bool.false_ne_true]
      exact s σ' F2 H2 e2 (g'.trans g2)
  | @go n' _ _ _ _ ht hst hr2 => exact fin ht fun F2 H2 e2 g2 => ⟨fun σ3 H3 => ∃ F3 δ3, EnvOk K E F3 H3 δ3 σ3 ∧ Grow F H δ σ F3 H3 δ3 σ3 ∧ WhRel K tc tb n' δ3 out, fun σ3 H3 q => ⟨n', Nat.lt_succ_self n', q⟩, hst E F2 H2 σ' _ e2 fun σ3 F3 H3 e3 g3 => ⟨F3, _, e3, (g'.trans g2).trans g3, hr2⟩⟩
  | @ct n' _ _ _ _ ht hst hr2 => exact fin ht fun F2 H2 e2 g2 => ⟨fun σ3 H3 => ∃ F3 δ3, EnvOk K E F3 H3 δ3 σ3 ∧ Grow F H δ σ F3 H3 δ3 σ3 ∧ WhRel K tc tb n' δ3 out, fun σ3 H3 q => ⟨n', Nat.lt_succ_self n', q⟩, hst E F2 H2 σ' _ e2 fun σ3 F3 H3 e3 g3 => ⟨F3, _, e3, (g'.trans g2).trans g3, hr2⟩⟩
  | brk ht hst => exact fin ht fun F2 H2 e2 g2 => ⟨fun _ _ => False, fun _ _ q => q.elim, hst E F2 H2 σ' _ e2 fun σ3 F3 H3 e3 g3 => s σ3 F3 H3 e3 ((g'.trans g2).trans g3)⟩
  | ret ht hst => exact fin ht fun F2 H2 e2 g2 => ⟨fun _ _ => False, fun _ _ q => q.elim, hst E F2 H2 σ' _ e2 fun v σ3 F3 H3 e3 g3 => s v σ3 F3 H3 e3 ((g'.trans g2).trans g3)⟩
end DL
/-! Defs and calls; comprehensions. -/
namespace DL
open PySem PySem.Spec PyProof.Rows L2

abbrev Con := List Sl → R → List Sl → Prop
def spD (K : PySem.W.Frag) (C : Con) : Sp := fun vs H Q _ => ∃ args r args' F, C args r args' ∧ EnvOk K H F H args (vs.map some) ∧
  ∀ v F2 H2, EnvOk K H F2 H2 args' (vs.map some) → Grow F H args (vs.map some) F2 H2 args' (vs.map some) → RepRet K H F2 H2 r v → Q v H2
/-- the arguments behind a call -/
def afterA : List Sl → List Sl → List Sl
  | [], _ => []
  | .ob _ _ :: as, x :: xs => x :: afterA as xs
  | a :: as, _ :: xs => a :: afterA as xs
  | a :: as, [] => a :: as
theorem afterA_get : ∀ {as xs : List Sl} {i : Nat}, as.length ≤ xs.length → (∀ b o, as[i]? ≠ some (.ob b o)) → (afterA as xs)[i]? = as[i]?
  | [], _, _, _, _ => rfl
  | .ob b o :: as, x :: xs, 0, _, h => absurd rfl (h b o)
  | .no :: as, x :: xs, 0, _, _ => rfl
  | .fr d :: as, x :: xs, 0, _, _ => rfl
  | .ob b o :: as, x :: xs, i + 1, hl, h => afterA_get (as := as) (xs := xs) (i := i) (by simpa using hl) h
  | .no :: as, x :: xs, i + 1, hl, h => afterA_get (as := as) (xs := xs) (i := i) (by simpa using hl) h
  | .fr d :: as, x :: xs, i + 1, hl, h => afterA_get (as := as) (xs := xs) (i := i) (by simpa using hl) h
  | a :: as, [], _, hl, _ => by simp at hl
theorem afterA_ob : ∀ {as xs : List Sl} {i : Nat} {b : Bool} {o : O}, as[i]? = some (.ob b o) → as.length ≤ xs.length → (afterA as xs)[i]? = xs[i]?
  | .ob b o :: as, x :: xs, 0, _, _, h, _ => rfl
  | .ob b o :: as, x :: xs, i + 1, _, _, h, hl => afterA_ob (as := as) (xs := xs) (i := i) h (by simpa using hl)
  | .no :: as, x :: xs, i + 1, _, _, h, hl => afterA_ob (as := as) (xs := xs) (i := i) h (by simpa using hl)
  | .fr d :: as, x :: xs, i + 1, _, _, h, hl => afterA_ob (as := as) (xs := xs) (i := i) h (by simpa using hl)
  | .no :: as, x :: xs, 0, _, _, h, _ => by cases h
  | .fr d :: as, x :: xs, 0, _, _, h, _ => by cases h
  | [], _, _, _, _, h, _ => by simp at h
  | a :: as, [], _, _, _, _, hl => by simp at hl
theorem afterA_len : ∀ {as xs : List Sl}, as.length ≤ xs.length → (afterA as xs).length = as.length
  | [], _, _ => rfl
  | .ob b o :: as, x :: xs, hl => congrArg (· + 1) (afterA_len (as := as) (xs := xs) (by simpa using hl))
  | .no :: as, x :: xs, hl => congrArg (· + 1) (afterA_len (as := as) (xs := xs) (by simpa using hl))
  | .fr d :: as, x :: xs, hl => congrArg (· + 1) (afterA_len (as := as) (xs := xs) (by simpa using hl))
  | a :: as, [], hl => by simp at hl

/-- what a def's body must do -/
def BodyOk (K : PySem.W.Frag) (t : TS) (m : Nat) (C : Con) : Prop :=
  ∀ args r args', C args r args' → (∀ (i : Nat) (o : O), args[i]? ≠ some (.ob true o)) ∧ ∃ δ', (StJ K t (args ++ List.replicate m .no) (.rt r δ') ∨ (r = .fr .none ∧ StJ K t (args ++ List.replicate m .no) (.nx δ'))) ∧ args.length ≤ δ'.length ∧ args' = afterA args δ'
section
variable {K : PySem.W.Frag} {E F H F2 H2 : Hp} {δ δ1 δ2 : List Sl} {σ : List (Option V)} {vs : List V}
theorem app_left {α : Type} {l l' : List α} {i : Nat} {x : α} (h : l[i]? = some x) : (l ++ l')[i]? = some x := by
  rw [List.getElem?_append_left (List.getElem?_eq_some_iff.mp h).1]
  exact h
theorem of_app_no {l : List Sl} {m i : Nat} {x : Sl} (h : (l ++ List.replicate m .no)[i]? = some x) (hx : x ≠ .no) : l[i]? = some x := by
  by_cases hi : i < l.length
  · rw [List.getElem?_append_left hi] at h
    exact h
  · rw [List.getElem?_append_right (by omega)] at h
    have := List.eq_of_mem_replicate (List.mem_of_getElem? h)
    exact absurd this hx
theorem EnvOk.extend {m : Nat} (e : EnvOk K E F H δ σ) : EnvOk K E F H (δ ++ List.replicate m .no) (σ ++ List.replicate m none) where
  ex := e.ex
  dom := e.dom
  len := by rw [List.length_append, List.length_append, List.length_replicate, List.length_replicate, e.len]
  fr := fun i d h => by
    obtain ⟨v, h1, h2⟩ := e.fr i d (of_app_no h fun z => nomatch z)
    exact ⟨v, app_left h1, h2⟩
  ob := fun i b o h => by
    obtain ⟨p, ho, h1, h2⟩ := e.ob i b o (of_app_no h fun z => nomatch z)
    exact ⟨p, ho, app_left h1, h2⟩
  dj := fun i j b o b' o' p h1 h2 h3 h4 => by
    have q1 := of_app_no h1 fun z => nomatch z
    have q2 := of_app_no h2 fun z => nomatch z
    obtain ⟨p1, _, w1, _⟩ := e.ob i b o q1
    obtain ⟨p2, _, w2, _⟩ := e.ob j b' o' q2
    have w1' := app_left (l' := List.replicate m (none : Option V)) w1
    have w2' := app_left (l' := List.replicate m (none : Option V)) w2
    rw [h3] at w1'
    rw [h4] at w2'
    cases w1'
    cases w2'
    exact e.dj i j b o b' o' p q1 q2 w1 w2
theorem start_eq {N : List Str} {ps : List Str} {m : Nat} (hm : m = N.length - ps.length) (hl : vs.length = ps.length) : L2.start N vs = vs.map some ++ List.replicate m none := by
  unfold L2.start
  rw [hm, hl]
end

theorem fnD {P : Program} {w : World} {K : PySem.W.Frag} {mg : Str → Option Value} {base : Heap} {x qual : Str} {st : Stmt} {f : Addr} {fd : FuncData} {N ps : List Str} {k m : Nat} {C : Con}
    (F : Fun K x qual st f fd) (S : FnScope N ps (defScope st)) (hl : ∀ args r args', C args r args' → args.length = ps.length) (hm : m = N.length - ps.length)
    (hbody : ∀ (cdv : Value) (A : Around) (outer : List Env) (s : Shared) (H : Hp) (E : XK), Room k (A.deeper (envOfC qual (defScope st) s.heap.objs.size f cdv)) →
      ∃ t, PSs (cxOf CX0 P w K mg base N qual (defScope st) f cdv A outer s H E).nox (defBody st) t ∧ BodyOk K t m C) : FnOk P w K mg base CX0 (k + 1) f fd ps (spD K C) := by
  have len : ∀ vs H Q E, spD K C vs H Q E → vs.length = ps.length := fun vs H Q E ⟨args, r, args', F0, hC, he, _⟩ => by
    have h1 := he.len
    rw [List.length_map, hl _ _ _ hC] at h1
    exact h1
  refine F.ok S len (fun cdv A outer s H vs Q E hr h => ?_)
  have hvl := len _ _ _ _ h
  obtain ⟨args, r, args', F0, hC, he, hq⟩ := h
  obtain ⟨t, ht, hb⟩ := hbody cdv A outer s H E hr
  refine ⟨t, ht, ?_⟩
  obtain ⟨hno, δ', hst, hle, rfl⟩ := hb args r args' hC
  rw [start_eq hm hvl]
  have he2 : EnvOk K H F0 H (args ++ List.replicate m .no) (vs.map some ++ List.replicate m none) := he.extend
  have fin : ∀ v σ' F2 H2, EnvOk K H F2 H2 δ' σ' → Grow F0 H (args ++ List.replicate m .no) (vs.map some ++ List.replicate m none) F2 H2 δ' σ' → RepRet K H F2 H2 r v → Q v H2 := fun v σ' F2 H2 e2 g2 hret => by
    have pr : ∀ (i : Nat) (b : Bool) (o : O), args[i]? = some (.ob b o) → b = false ∧ ∃ o', δ'[i]? = some (.ob false o') ∧ (afterA args δ')[i]? = some (.ob false o') ∧ σ'[i]? = (vs.map some)[i]? := fun i b o hi => by
      cases b with
      | true => exact absurd hi (hno i o)
      | false =>
        obtain ⟨⟨o', h1⟩, h2⟩ := g2.pr i o (app_left hi)
        obtain ⟨p, ho, w1, _⟩ := he.ob i false o hi
        refine ⟨rfl, o', h1, by rw [afterA_ob hi hle]; exact h1, ?_⟩
        rw [h2, w1]
        exact app_left w1
    have fwd : ∀ (i : Nat) (b : Bool) (o' : O), (afterA args δ')[i]? = some (.ob b o') → ∃ b0 o, args[i]? = some (.ob b0 o) := fun i b o' hi => by
      cases q : args[i]? with
      | none =>
        have h1 : args.length ≤ i := List.getElem?_eq_none_iff.mp q
        have h2 := (List.getElem?_eq_some_iff.mp hi).1
        rw [afterA_len hle] at h2
        omega
      | some y =>
        cases y with
        | ob b0 o => exact ⟨b0, o, rfl⟩
        | no =>
          rw [afterA_get hle (by rw [q]; exact fun _ _ z => nomatch z), q] at hi
          cases hi
        | fr d =>
          rw [afterA_get hle (by rw [q]; exact fun _ _ z => nomatch z), q] at hi
          cases hi
    have hot0 : ∀ a, Hot (args ++ List.replicate m .no) (vs.map some ++ List.replicate m none) a → Hot args (vs.map some) a := fun a ⟨i, b, o, h1, h2⟩ => by
      have q1 := of_app_no h1 fun z => nomatch z
      obtain ⟨p, ho, w1, _⟩ := he.ob i b o q1
      have w1' := app_left (l' := List.replicate m (none : Option V)) w1
      rw [h2] at w1'
      cases w1'
      exact ⟨i, b, o, q1, w1⟩
    refine hq v F2 H2 ⟨e2.ex, e2.dom, ?_, fun i d hi => ?_, fun i b o hi => ?_, fun i j b o b' o' p hi hj h1 h2 => ?_⟩ ⟨g2.f, fun a h1 h2 => g2.k a h1 fun z => h2 (hot0 a z), fun a o h1 h2 => g2.h a o h1 fun z => h2 (hot0 a z), fun a ⟨i, b, o, h1, h2⟩ => ?_, g2.dm, fun i o hi => ?_⟩ hret
    · rw [afterA_len hle]
      exact he.len
    · have hn : ∀ b o, args[i]? ≠ some (.ob b o) := fun b o z => by
        obtain ⟨_, o', _, q, _⟩ := pr i b o z
        rw [hi] at q
        cases q
      rw [afterA_get hle hn] at hi
      obtain ⟨v, h1, h2⟩ := he.fr i d hi
      exact ⟨v, h1, dp_mono g2.f h2⟩
    · obtain ⟨b0, o0, h0⟩ := fwd i b o hi
      obtain ⟨_, o', q1, q2, q3⟩ := pr i b0 o0 h0
      rw [hi] at q2
      cases q2
      obtain ⟨p, ho, w1, w2⟩ := e2.ob i _ _ q1
      exact ⟨p, ho, by rw [← q3]; exact w1, w2⟩
    · obtain ⟨b0, o0, h0⟩ := fwd i b o hi
      obtain ⟨b1, o1, h0'⟩ := fwd j b' o' hj
      exact he.dj i j _ _ _ _ p h0 h0' h1 h2
    · obtain ⟨b0, o0, h0⟩ := fwd i b o h1
      exact .inl ⟨i, b0, o0, h0, h2⟩
    · obtain ⟨_, o', q1, q2, q3⟩ := pr i false o hi
      exact ⟨⟨o', q2⟩, rfl⟩
  rcases hst with hst | ⟨rfl, hst⟩
  · exact hst H F0 H _ _ he2 fun v σ' F2 H2 e2 g2 hret => fin v σ' F2 H2 e2 g2 hret
  · exact hst H F0 H _ _ he2 fun σ' F2 H2 e2 g2 => fin .non σ' F2 H2 e2 g2 .non

/-! ### calls -/
def toArgs (δ : List Sl) : List R → Option (List Sl)
  | [] => some []
  | .fr d :: rs => (toArgs δ rs).map (.fr d :: ·)
  | .new o :: rs => (toArgs δ rs).map (.ob false o :: ·)
  | .al i :: rs => match δ[i]? with
    | some (.ob _ o) => (toArgs δ rs).map (.ob false o :: ·)
    | _ => none
def setO (δ : List Sl) (i : Nat) (o : O) : List Sl := match δ[i]? with
  | some (.ob b _) => δ.set i (.ob b o)
  | _ => δ
def backA : List Sl → List R → List Sl → List Sl
  | δ, .al i :: rs, .ob _ o :: as => backA (setO δ i o) rs as
  | δ, _ :: rs, _ :: as => backA δ rs as
  | δ, _, _ => δ
def alsOf : List R → List Nat
  | [] => []
  | .al i :: rs => i :: alsOf rs
  | _ :: rs => alsOf rs
theorem mem_als : ∀ {rs : List R} {j i : Nat}, rs[j]? = some (.al i) → i ∈ alsOf rs
  | .al _ :: rs, 0, i, h => by
    cases h
    exact List.mem_cons_self
  | .al _ :: rs, j + 1, i, h => List.mem_cons_of_mem _ (mem_als (rs := rs) (j := j) h)
  | .fr _ :: rs, j + 1, i, h => mem_als (rs := rs) (j := j) h
  | .new _ :: rs, j + 1, i, h => mem_als (rs := rs) (j := j) h
  | .fr _ :: rs, 0, i, h => by cases h
  | .new _ :: rs, 0, i, h => by cases h
  | [], _, _, h => by simp at h
theorem als_nodup : ∀ {rs : List R} {j k i : Nat}, (alsOf rs).Nodup → rs[j]? = some (.al i) → rs[k]? = some (.al i) → j = k
  | [], _, _, _, _, h, _ => by simp at h
  | .al _ :: rs, 0, 0, i, _, _, _ => rfl
  | .al _ :: rs, 0, k + 1, i, n, h1, h2 => by
    cases h1
    exact absurd (mem_als (rs := rs) (j := k) h2) (List.nodup_cons.mp n).1
  | .al _ :: rs, j + 1, 0, i, n, h1, h2 => by
    cases h2
    exact absurd (mem_als (rs := rs) (j := j) h1) (List.nodup_cons.mp n).1
  | .al _ :: rs, j + 1, k + 1, i, n, h1, h2 => congrArg (· + 1) (als_nodup (rs := rs) (List.nodup_cons.mp n).2 h1 h2)
  | .fr _ :: rs, j + 1, k + 1, i, n, h1, h2 => congrArg (· + 1) (als_nodup (rs := rs) n h1 h2)
  | .new _ :: rs, j + 1, k + 1, i, n, h1, h2 => congrArg (· + 1) (als_nodup (rs := rs) n h1 h2)
  | .fr _ :: rs, 0, _, _, _, h1, _ => by cases h1
  | .new _ :: rs, 0, _, _, _, h1, _ => by cases h1
  | .fr _ :: rs, _ + 1, 0, _, _, _, h2 => by cases h2
  | .new _ :: rs, _ + 1, 0, _, _, _, h2 => by cases h2
theorem als_rev {i : Nat} : ∀ {rs : List R}, i ∈ alsOf rs → ∃ j : Nat, rs[j]? = some (.al i)
  | .al i0 :: rs, h => by
    rcases List.mem_cons.mp h with rfl | h
    · exact ⟨0, rfl⟩
    · obtain ⟨j, hj⟩ := als_rev (rs := rs) h
      exact ⟨j + 1, hj⟩
  | .fr _ :: rs, h => by
    obtain ⟨j, hj⟩ := als_rev (rs := rs) h
    exact ⟨j + 1, hj⟩
  | .new _ :: rs, h => by
    obtain ⟨j, hj⟩ := als_rev (rs := rs) h
    exact ⟨j + 1, hj⟩
  | [], h => nomatch h
theorem setO_ne {δ : List Sl} {i j : Nat} {o : O} (h : j ≠ i) : (setO δ i o)[j]? = δ[j]? := by
  unfold setO
  split
  · rw [List.getElem?_set_ne (Ne.symm h)]
  · rfl
theorem setO_eq {δ : List Sl} {i : Nat} {o o0 : O} {b : Bool} (h : δ[i]? = some (.ob b o0)) : (setO δ i o)[i]? = some (.ob b o) := by
  unfold setO
  rw [h]
  exact List.getElem?_set_self (List.getElem?_eq_some_iff.mp h).1
theorem setO_len {δ : List Sl} {i : Nat} {o : O} : (setO δ i o).length = δ.length := by
  unfold setO
  split
  · rw [List.length_set]
  · rfl
theorem setO_same {δ : List Sl} {i : Nat} {o : O} : SameK δ (setO δ i o) := by
  unfold SameK setO
  split
  · rename_i b o0 h
    refine List.ext_getElem? fun j => ?_
    rw [List.getElem?_map, List.getElem?_map]
    by_cases e : j = i
    · subst e
      rw [List.getElem?_set_self (List.getElem?_eq_some_iff.mp h).1, h]
      rfl
    · rw [List.getElem?_set_ne (Ne.symm e)]
  · rfl
theorem backA_same : ∀ {rs : List R} {δ as : List Sl}, SameK δ (backA δ rs as)
  | [], _, _ => by unfold backA; exact SameK.refl _
  | _ :: _, _, [] => by
    unfold backA
    split <;> first | exact SameK.refl _ | (rename_i h; cases h)
  | .al i :: rs, δ, .ob b o :: as => by
    unfold backA
    exact setO_same.trans (backA_same (rs := rs))
  | .al i :: rs, δ, .fr d :: as => by unfold backA; exact backA_same (rs := rs)
  | .al i :: rs, δ, .no :: as => by unfold backA; exact backA_same (rs := rs)
  | .fr d :: rs, δ, a :: as => by unfold backA; exact backA_same (rs := rs)
  | .new o :: rs, δ, a :: as => by unfold backA; exact backA_same (rs := rs)
theorem backA_ne : ∀ {rs : List R} {δ as : List Sl} {i : Nat}, i ∉ alsOf rs → (backA δ rs as)[i]? = δ[i]?
  | [], _, _, _, _ => by unfold backA; rfl
  | _ :: _, _, [], _, _ => by
    unfold backA
    split <;> first | rfl | (rename_i h; cases h)
  | .al i :: rs, δ, .ob b o :: as, j, h => by
    have h' : j ∉ i :: alsOf rs := h
    rw [List.mem_cons, not_or] at h'
    unfold backA
    rw [backA_ne (rs := rs) h'.2, setO_ne h'.1]
  | .al i :: rs, δ, .fr d :: as, j, h => by
    have h' : j ∉ i :: alsOf rs := h
    rw [List.mem_cons, not_or] at h'
    unfold backA
    exact backA_ne (rs := rs) h'.2
  | .al i :: rs, δ, .no :: as, j, h => by
    have h' : j ∉ i :: alsOf rs := h
    rw [List.mem_cons, not_or] at h'
    unfold backA
    exact backA_ne (rs := rs) h'.2
  | .fr d :: rs, δ, a :: as, j, h => by unfold backA; exact backA_ne (rs := rs) h
  | .new o :: rs, δ, a :: as, j, h => by unfold backA; exact backA_ne (rs := rs) h
theorem backA_eq : ∀ {rs : List R} {δ as : List Sl} {i j : Nat} {b b' : Bool} {o o' : O}, (alsOf rs).Nodup → rs[j]? = some (.al i) → as[j]? = some (.ob b' o') → δ[i]? = some (.ob b o) → (backA δ rs as)[i]? = some (.ob b o')
  | [], _, _, _, _, _, _, _, _, _, h, _, _ => by simp at h
  | _ :: _, _, [], _, _, _, _, _, _, _, _, h, _ => by simp at h
  | .al i0 :: rs, δ, .ob b0 o0 :: as, i, 0, b, b', o, o', n, h1, h2, h3 => by
    cases h1
    cases h2
    unfold backA
    rw [backA_ne (rs := rs) (List.nodup_cons.mp n).1]
    exact setO_eq h3
  | .al i0 :: rs, δ, .ob b0 o0 :: as, i, j + 1, b, b', o, o', n, h1, h2, h3 => by
    unfold backA
    refine backA_eq (rs := rs) (j := j) (o := o) (List.nodup_cons.mp n).2 h1 h2 ?_
    rw [setO_ne]
    · exact h3
    · rintro rfl
      exact (List.nodup_cons.mp n).1 (mem_als (rs := rs) (j := j) h1)
  | .al i0 :: rs, δ, .fr d :: as, i, 0, b, b', o, o', n, h1, h2, h3 => by cases h2
  | .al i0 :: rs, δ, .no :: as, i, 0, b, b', o, o', n, h1, h2, h3 => by cases h2
  | .al i0 :: rs, δ, .fr d :: as, i, j + 1, b, b', o, o', n, h1, h2, h3 => by unfold backA; exact backA_eq (rs := rs) (j := j) (List.nodup_cons.mp n).2 h1 h2 h3
  | .al i0 :: rs, δ, .no :: as, i, j + 1, b, b', o, o', n, h1, h2, h3 => by unfold backA; exact backA_eq (rs := rs) (j := j) (List.nodup_cons.mp n).2 h1 h2 h3
  | .fr d :: rs, δ, a :: as, i, j + 1, b, b', o, o', n, h1, h2, h3 => by unfold backA; exact backA_eq (rs := rs) (j := j) n h1 h2 h3
  | .new d :: rs, δ, a :: as, i, j + 1, b, b', o, o', n, h1, h2, h3 => by unfold backA; exact backA_eq (rs := rs) (j := j) n h1 h2 h3
  | .fr d :: rs, δ, a :: as, i, 0, b, b', o, o', n, h1, h2, h3 => by cases h1
  | .new d :: rs, δ, a :: as, i, 0, b, b', o, o', n, h1, h2, h3 => by cases h1
/-- the arguments, one by one -/
theorem toArgs_get {δ : List Sl} : ∀ {rs : List R} {args : List Sl}, toArgs δ rs = some args → args.length = rs.length ∧ ∀ (j : Nat) (a : Sl), args[j]? = some a →
    (∃ d, rs[j]? = some (.fr d) ∧ a = .fr d) ∨ (∃ o, rs[j]? = some (.new o) ∧ a = .ob false o) ∨ (∃ i b o, rs[j]? = some (.al i) ∧ δ[i]? = some (.ob b o) ∧ a = .ob false o)
  | [], args, h => by
    cases h
    exact ⟨rfl, fun j a h => by simp at h⟩
  | r :: rs, args, h => by
    cases q : toArgs δ rs with
    | none =>
      cases r with
      | fr d => simp [toArgs, q] at h
      | new o => simp [toArgs, q] at h
      | al i =>
        unfold toArgs at h
        split at h
        · rw [q] at h
          cases h
        · cases h
    | some as =>
      obtain ⟨hl, ih⟩ := toArgs_get (rs := rs) q
      cases r with
      | fr d =>
        simp only [toArgs, q, Option.map_some, Option.some.injEq] at h
        subst h
        refine ⟨congrArg (· + 1) hl, fun j a hj => ?_⟩
        cases j with
        | zero =>
          cases hj
          exact .inl ⟨d, rfl, rfl⟩
        | succ j => exact ih j a hj
      | new o =>
        simp only [toArgs, q, Option.map_some, Option.some.injEq] at h
        subst h
        refine ⟨congrArg (· + 1) hl, fun j a hj => ?_⟩
        cases j with
        | zero =>
          cases hj
          exact .inr (.inl ⟨o, rfl, rfl⟩)
        | succ j => exact ih j a hj
      | al i =>
        unfold toArgs at h
        split at h
        · rename_i b o hi
          rw [q] at h
          cases h
          refine ⟨congrArg (· + 1) hl, fun j a hj => ?_⟩
          cases j with
          | zero =>
            cases hj
            exact .inr (.inr ⟨i, b, o, rfl, hi, rfl⟩)
          | succ j => exact ih j a hj
        · cases h
theorem RepRs.get {K : PySem.W.Frag} {F H : Hp} {δ : List Sl} {σ : List (Option V)} : ∀ {rs : List R} {vs : List V} {j : Nat} {r : R}, RepRs K F H δ σ rs vs → rs[j]? = some r → ∃ v, vs[j]? = some v ∧ RepR K F H δ σ r v
  | _, _, _, _, .nil, h => by simp at h
  | _, _, 0, _, .cons h1 _ _, h => by
    cases h
    exact ⟨_, rfl, h1⟩
  | _, _, j + 1, r, .cons _ h2 _, h => RepRs.get (j := j) (r := r) h2 h
theorem RepRs.len {K : PySem.W.Frag} {F H : Hp} {δ : List Sl} {σ : List (Option V)} : ∀ {rs : List R} {vs : List V}, RepRs K F H δ σ rs vs → vs.length = rs.length
  | _, _, .nil => rfl
  | _, _, .cons _ t _ => congrArg (· + 1) t.len
theorem RepRs.dj {K : PySem.W.Frag} {F H : Hp} {δ : List Sl} {σ : List (Option V)} : ∀ {rs : List R} {vs : List V} {j k : Nat} {o o' : O} {p : Addr}, RepRs K F H δ σ rs vs → rs[j]? = some (.new o) → rs[k]? = some (.new o') → vs[j]? = some (.ref p) → vs[k]? = some (.ref p) → j = k
  | _, _, _, _, _, _, _, .nil, h, _, _, _ => by simp at h
  | _, _, 0, 0, _, _, _, .cons _ _ _, _, _, _, _ => rfl
  | _, _, 0, k + 1, o, o', p, .cons _ _ n, h1, h2, h3, h4 => by
    cases h1
    cases h3
    exact absurd h4 (n o p rfl rfl k o' h2)
  | _, _, j + 1, 0, o, o', p, .cons _ _ n, h1, h2, h3, h4 => by
    cases h2
    cases h4
    exact absurd h3 (n o' p rfl rfl j o h1)
  | _, _, j + 1, k + 1, o, o', p, .cons _ t _, h1, h2, h3, h4 => congrArg (· + 1) (RepRs.dj (j := j) (k := k) t h1 h2 h3 h4)
def notAl : R → Bool
  | .al _ => false
  | _ => true
theorem ev_call {K : PySem.W.Frag} {δ δ1 δ2 : List Sl} {ta : TA} {rs : List R} {r : R} {args args' : List Sl} {C : Con} {Ex0 : XK} (ha : EvA K ta δ rs δ1) (ht : toArgs δ1 rs = some args) (hC : C args r args') (hb : backA δ1 rs args' = δ2) (hn : (alsOf rs).Nodup := by decide) (hr : notAl r = true := by rfl) :
    EvJ K (tCall (spD K C) [] Ex0 ta) δ r δ2 := by
  subst hb
  refine ⟨ha.1.trans backA_same, fun E F H σ Q e q => ha.2 E F H σ _ e fun vs F1 H1 e1 g1 hrs hfr => ?_⟩
  obtain ⟨hl, hget⟩ := toArgs_get ht
  have hvl := hrs.len
  show spD K C (vs ++ []) H1 Q Ex0
  rw [List.append_nil]
  have mv : ∀ {j : Nat} {v : V}, vs[j]? = some v → (vs.map some)[j]? = some (some v) := fun {j v} h => by rw [List.getElem?_map, h]; rfl
  have mv' : ∀ {j : Nat} {v : V}, (vs.map some)[j]? = some (some v) → vs[j]? = some v := fun {j v} h => by
    rw [List.getElem?_map] at h
    cases q : vs[j]? with
    | none => rw [q] at h; cases h
    | some u => rw [q] at h; cases h; rfl
  -- an object's argument: its address
  have obj : ∀ (j : Nat) (b : Bool) (o : O), args[j]? = some (.ob b o) → b = false ∧ ∃ p ho, vs[j]? = some (.ref p) ∧ F1 p = none ∧ H1 p = some ho ∧ RepO K F1 o ho ∧
      ((∃ o', rs[j]? = some (.new o') ∧ ¬ Hot δ1 σ p) ∨ ∃ i b' o', rs[j]? = some (.al i) ∧ δ1[i]? = some (.ob b' o') ∧ σ[i]? = some (some (.ref p))) := fun j b o hj => by
    rcases hget j _ hj with ⟨d, _, e0⟩ | ⟨o0, h1, e0⟩ | ⟨i, b0, o0, h1, h2, e0⟩
    · cases e0
    · cases e0
      obtain ⟨v, w1, p, ho, rfl, w2, w3, w4, w5⟩ := hrs.get h1
      exact ⟨rfl, p, ho, w1, w2, w3, w4, .inl ⟨_, h1, w5⟩⟩
    · cases e0
      obtain ⟨v, w1, w2, _⟩ := hrs.get h1
      obtain ⟨p, ho, x1, x2, x3, x4, _⟩ := e1.ob i b0 _ h2
      rw [w2] at x1
      cases x1
      exact ⟨rfl, p, ho, w1, x2, x3, x4, .inr ⟨i, b0, _, h1, h2, w2⟩⟩
  have henv : EnvOk K H1 F1 H1 args (vs.map some) := by
    refine ⟨e1.ex, fun _ h => h, by rw [List.length_map, hvl, hl], fun j d hj => ?_, fun j b o hj => ?_, fun j k b o b' o' p hj hk h1 h2 => ?_⟩
    · rcases hget j _ hj with ⟨d', h1, e0⟩ | ⟨o0, h1, e0⟩ | ⟨i, b0, o0, h1, h2, e0⟩
      · cases e0
        obtain ⟨v, w1, w2⟩ := hrs.get h1
        exact ⟨v, mv w1, w2⟩
      · cases e0
      · cases e0
    · obtain ⟨rfl, p, ho, w1, w2, w3, w4, _⟩ := obj j b o hj
      exact ⟨p, ho, mv w1, w2, w3, w4, fun z => nomatch z⟩
    · have h1 := mv' h1
      have h2 := mv' h2
      obtain ⟨_, p1, _, w1, _, _, _, c1⟩ := obj j b o hj
      obtain ⟨_, p2, _, w2, _, _, _, c2⟩ := obj k b' o' hk
      rw [h1] at w1
      rw [h2] at w2
      cases w1
      cases w2
      rcases c1 with ⟨o1, r1, n1⟩ | ⟨i1, b1, o1, r1, s1, t1⟩
      · rcases c2 with ⟨o2, r2, n2⟩ | ⟨i2, b2, o2, r2, s2, t2⟩
        · exact hrs.dj r1 r2 h1 h2
        · exact absurd ⟨i2, b2, o2, s2, t2⟩ n1
      · rcases c2 with ⟨o2, r2, n2⟩ | ⟨i2, b2, o2, r2, s2, t2⟩
        · exact absurd ⟨i1, b1, o1, s1, t1⟩ n2
        · have e12 := e1.dj i1 i2 b1 o1 b2 o2 p s1 s2 t1 t2
          subst e12
          exact als_nodup hn r1 r2
  -- what the callee may change
  have hotA : ∀ a, Hot args (vs.map some) a → Hot δ1 σ a ∨ H a = none ∨ ∃ (j : Nat) (o' : O), rs[j]? = some (.new o') ∧ vs[j]? = some (.ref a) ∧ ¬ Hot δ1 σ a := fun a ⟨j, b, o, h1, h2⟩ => by
    obtain ⟨_, p, _, w1, _, _, _, c⟩ := obj j b o h1
    have h2 := mv' h2
    rw [h2] at w1
    cases w1
    rcases c with ⟨o1, r1, n1⟩ | ⟨i1, b1, o1, r1, s1, t1⟩
    · exact .inr (.inr ⟨j, o1, r1, h2, n1⟩)
    · exact .inl ⟨i1, b1, o1, s1, t1⟩
  refine ⟨args, r, args', F1, hC, henv, fun v F2 H2 e2 g2 hret => ?_⟩
  have alout : ∀ {i : Nat} {b : Bool} {o : O} {p : Addr}, δ1[i]? = some (.ob b o) → σ[i]? = some (some (.ref p)) → i ∉ alsOf rs → ¬ Hot args (vs.map some) p := fun {i b o p} h1 h2 hni ⟨j, b', o', w1, w2⟩ => by
    obtain ⟨_, p', _, x1, _, _, _, c⟩ := obj j b' o' w1
    have w2 := mv' w2
    rw [w2] at x1
    cases x1
    rcases c with ⟨o1, r1, n1⟩ | ⟨i1, b1, o1, r1, s1, t1⟩
    · exact n1 ⟨i, b, o, h1, h2⟩
    · have e12 := e1.dj i i1 b o b1 o1 _ h1 s1 h2 t1
      subst e12
      exact hni (mem_als r1)
  have hrev : ∀ {i : Nat}, i ∈ alsOf rs → ∃ j : Nat, rs[j]? = some (.al i) := fun h => als_rev h
  have len' : args'.length = args.length := by
    have h1 := e2.len
    have h2 := henv.len
    omega
  -- the objects behind the call
  have back : ∀ {i : Nat} {b : Bool} {o : O}, (backA δ1 rs args')[i]? = some (.ob b o) → ∃ o1, δ1[i]? = some (.ob b o1) ∧ ((i ∉ alsOf rs ∧ o1 = o) ∨ ∃ (j : Nat) (p : Addr), rs[j]? = some (.al i) ∧ args'[j]? = some (.ob false o) ∧ vs[j]? = some (.ref p) ∧ σ[i]? = some (some (.ref p))) := fun {i b o} h => by
    obtain ⟨o1, h1⟩ := (SameK.symm backA_same).ob h
    refine ⟨o1, h1, ?_⟩
    by_cases hm : i ∈ alsOf rs
    · obtain ⟨j, hj⟩ := hrev hm
      obtain ⟨w, w1, w2, _⟩ := hrs.get hj
      obtain ⟨p, _, x1, _⟩ := e1.ob i b o1 h1
      rw [w2] at x1
      cases x1
      have hjl : j < args.length := by
        rw [hl]
        exact (List.getElem?_eq_some_iff.mp hj).1
      have ha : ∃ o0, args[j]? = some (.ob false o0) := by
        rcases hget j args[j] (List.getElem?_eq_getElem hjl) with ⟨d, q1, _⟩ | ⟨o0, q1, _⟩ | ⟨i', b0, o0, q1, q2, q3⟩
        · rw [hj] at q1
          cases q1
        · rw [hj] at q1
          cases q1
        · exact ⟨o0, by rw [List.getElem?_eq_getElem hjl, q3]⟩
      obtain ⟨o0, ha⟩ := ha
      obtain ⟨⟨o', ha'⟩, _⟩ := g2.pr j o0 ha
      have hb := backA_eq hn hj ha' h1
      rw [h] at hb
      cases hb
      exact .inr ⟨j, p, hj, ha', w1, w2⟩
    · have hb := backA_ne (δ := δ1) (as := args') hm
      rw [h, h1] at hb
      cases hb
      exact .inl ⟨hm, rfl⟩
  have E2 : EnvOk K E F2 H2 (backA δ1 rs args') σ := by
    refine ⟨e2.ex, fun a h => e1.dom a (g2.dm a h), ?_, fun i d hi => ?_, fun i b o hi => ?_, fun i j b o b' o' p hi hj => ?_⟩
    · have hk : ((backA δ1 rs args').map kind).length = (δ1.map kind).length := by rw [backA_same]
      rw [List.length_map, List.length_map] at hk
      rw [hk]
      exact e1.len
    · obtain ⟨u, w1, w2⟩ := e1.fr i d ((SameK.symm backA_same).fr hi)
      exact ⟨u, w1, dp_mono g2.f w2⟩
    · obtain ⟨o1, h1, c⟩ := back hi
      obtain ⟨p, ho, w1, w2, w3, w4, w5⟩ := e1.ob i b o1 h1
      rcases c with ⟨hm, rfl⟩ | ⟨j, p', c1, c2, c3, c4⟩
      · have nh := alout h1 w1 hm
        refine ⟨p, ho, w1, ?_, g2.h p ho w3 nh, w4.mono g2.f, w5⟩
        rw [g2.k p (by rw [w3]; exact fun z => nomatch z) nh]
        exact w2
      · rw [c4] at w1
        cases w1
        obtain ⟨p2, ho2, x1, x2, x3, x4, _⟩ := e2.ob j false o c2
        have x1 := mv' x1
        rw [c3] at x1
        cases x1
        exact ⟨p, ho2, c4, x2, x3, x4, w5⟩
    · obtain ⟨o1, h1, _⟩ := back hi
      obtain ⟨o2, h2, _⟩ := back hj
      exact e1.dj i j _ _ _ _ p h1 h2
  have newH : ∀ a, H a ≠ none → ¬ Hot δ1 σ a → ¬ Hot args (vs.map some) a := fun a h1 h2 h3 => by
    rcases hotA a h3 with z | z | ⟨j, o', z1, z2, _⟩
    · exact h2 z
    · exact h1 z
    · exact h1 (hfr j _ _ z1 z2 a rfl)
  have G2 : Grow F H δ σ F2 H2 (backA δ1 rs args') σ := by
    have nh : ∀ a, H a ≠ none → ¬ Hot δ σ a → ¬ Hot δ1 σ a := fun a h1 h2 z => (g1.n a z).elim h2 h1
    have nn1 : ∀ a, H a ≠ none → H1 a ≠ none := fun a h1 z => h1 (g1.dm a z)
    refine ⟨g1.f.trans g2.f, fun a h1 h2 => ?_, fun a o h1 h2 => ?_, fun a ⟨i, b, o, h1, h2⟩ => ?_, fun a h => g1.dm a (g2.dm a h), fun i o hi => ?_⟩
    · rw [g2.k a (nn1 a h1) (newH a h1 (nh a h1 h2)), g1.k a h1 h2]
    · have hne : H a ≠ none := by rw [h1]; exact fun z => nomatch z
      exact g2.h a o (g1.h a o h1 h2) (newH a hne (nh a hne h2))
    · obtain ⟨o1, w1, _⟩ := back h1
      exact g1.n a ⟨i, b, o1, w1, h2⟩
    · obtain ⟨⟨o1, w1⟩, w2⟩ := g1.pr i o hi
      exact ⟨(backA_same (rs := rs) (as := args')).ob w1, w2⟩
  refine q v F2 H2 E2 G2 ?_ ?_
  · cases r with
    | fr d => exact hret
    | al i => cases hr
    | new o =>
      obtain ⟨p, ho, rfl, w1, w2, w3, w4⟩ := hret
      refine ⟨p, ho, rfl, w2, w3, w4, fun ⟨i, b, o', z1, z2⟩ => ?_⟩
      obtain ⟨o1, x1, _⟩ := back z1
      obtain ⟨p', ho', y1, _, y3, _⟩ := e1.ob i b o1 x1
      rw [z2] at y1
      cases y1
      rw [w1] at y3
      cases y3
  · cases r with
    | fr d => trivial
    | al i => trivial
    | new o =>
      intro p e0
      obtain ⟨p', ho, e0', w1, _⟩ := hret
      rw [e0] at e0'
      cases e0'
      exact g1.dm _ w1
end DL
/-! List comprehensions. -/
namespace DL
open PySem PySem.Spec PyProof.Rows L2

def wipeD (δ : List Sl) : List Nat → List Sl
  | [] => δ
  | v :: vs => (wipeD δ vs).set v .no
theorem wipeD_len {δ : List Sl} : ∀ {vs : List Nat}, (wipeD δ vs).length = δ.length
  | [] => rfl
  | v :: vs => by
    unfold wipeD
    rw [List.length_set, wipeD_len]
theorem wipeD_ne {δ : List Sl} {i : Nat} : ∀ {vs : List Nat}, i ∉ vs → (wipeD δ vs)[i]? = δ[i]?
  | [], _ => rfl
  | v :: vs, h => by
    rw [List.mem_cons, not_or] at h
    unfold wipeD
    rw [List.getElem?_set_ne (Ne.symm h.1), wipeD_ne h.2]
theorem wipeD_mem {δ : List Sl} {i : Nat} {x : Sl} : ∀ {vs : List Nat}, i ∈ vs → (wipeD δ vs)[i]? = some x → x = .no
  | v :: vs, h, e => by
    unfold wipeD at e
    rcases getset e with ⟨_, e1, _⟩ | ⟨hn, e1⟩
    · exact e1
    · rcases List.mem_cons.mp h with h | h
      · exact absurd h hn
      · exact wipeD_mem h e1
theorem wipeD_some {δ : List Sl} {i : Nat} {x : Sl} {vs : List Nat} (h : (wipeD δ vs)[i]? = some x) (hx : x ≠ .no) : i ∉ vs ∧ δ[i]? = some x := by
  by_cases hm : i ∈ vs
  · exact absurd (wipeD_mem hm h) hx
  · exact ⟨hm, by rw [← wipeD_ne hm]; exact h⟩
theorem wipe_ne {σ : List (Option V)} {i : Nat} : ∀ {vs : List Nat}, i ∉ vs → (wipe σ vs)[i]? = σ[i]?
  | [], _ => rfl
  | v :: vs, h => by
    rw [List.mem_cons, not_or] at h
    unfold wipe
    rw [List.getElem?_set_ne (Ne.symm h.1), wipe_ne h.2]
theorem wipe_set {σ : List (Option V)} {i : Nat} {x : Option V} {vs : List Nat} (h : i ∈ vs) : wipe (σ.set i x) vs = wipe σ vs := by
  refine List.ext_getElem? fun j => ?_
  by_cases hj : j ∈ vs
  · have w : ∀ τ : List (Option V), τ.length = σ.length → (wipe τ vs)[j]? = if j < σ.length then some none else none := fun τ hτ => by
      have hl : (wipe τ vs).length = σ.length := by rw [wipe_length, hτ]
      by_cases hjl : j < σ.length
      · rw [if_pos hjl]
        have e : (wipe τ vs)[j]? = some (wipe τ vs)[j] := List.getElem?_eq_getElem (by omega)
        rw [e]
        cases q : (wipe τ vs)[j] with
        | none => rfl
        | some v =>
          rw [q] at e
          exact absurd hj (wipe_some e).2
      · rw [if_neg hjl, List.getElem?_eq_none (by omega)]
    rw [w _ (by rw [List.length_set]), w _ rfl]
  · rw [wipe_ne hj, wipe_ne hj]
    rw [List.getElem?_set_ne]
    rintro rfl
    exact hj h
theorem wipe_wipe {σ : List (Option V)} {vs : List Nat} : wipe (wipe σ vs) vs = wipe σ vs := by
  refine List.ext_getElem? fun j => ?_
  by_cases hj : j ∈ vs
  · cases q1 : (wipe (wipe σ vs) vs)[j]? with
    | none =>
      have := List.getElem?_eq_none_iff.mp q1
      rw [wipe_length] at this
      rw [List.getElem?_eq_none this]
    | some z =>
      cases z with
      | some v => exact absurd hj (wipe_some q1).2
      | none =>
        have hlt := (List.getElem?_eq_some_iff.mp q1).1
        rw [wipe_length] at hlt
        cases q2 : (wipe σ vs)[j]? with
        | none =>
          have := List.getElem?_eq_none_iff.mp q2
          omega
        | some z =>
          cases z with
          | some v => exact absurd hj (wipe_some q2).2
          | none => rfl
  · rw [wipe_ne hj]
def NoParV (δ : List Sl) (vs : List Nat) : Prop := ∀ i ∈ vs, NoPar δ i
section
variable {K : PySem.W.Frag} {E F H F2 H2 : Hp} {δ δ1 δ2 : List Sl} {σ : List (Option V)} {vs : List Nat}
theorem EnvOk.wipe (e : EnvOk K E F H δ σ) : EnvOk K E F H (wipeD δ vs) (wipe σ vs) where
  ex := e.ex
  dom := e.dom
  len := by rw [wipeD_len, wipe_length]; exact e.len
  fr := fun i d h => by
    obtain ⟨h1, h2⟩ := wipeD_some h fun z => nomatch z
    rw [wipe_ne h1]
    exact e.fr i d h2
  ob := fun i b o h => by
    obtain ⟨h1, h2⟩ := wipeD_some h fun z => nomatch z
    rw [wipe_ne h1]
    exact e.ob i b o h2
  dj := fun i j b o b' o' p h1 h2 h3 h4 => by
    obtain ⟨q1, q2⟩ := wipeD_some h1 fun z => nomatch z
    obtain ⟨q3, q4⟩ := wipeD_some h2 fun z => nomatch z
    rw [wipe_ne q1] at h3
    rw [wipe_ne q3] at h4
    exact e.dj i j b o b' o' p q2 q4 h3 h4
theorem Hot.wiped {a : Addr} : Hot (wipeD δ vs) (L2.wipe σ vs) a → Hot δ σ a := fun ⟨i, b, o, h1, h2⟩ => by
  obtain ⟨q1, q2⟩ := wipeD_some h1 fun z => nomatch z
  rw [wipe_ne q1] at h2
  exact ⟨i, b, o, q2, h2⟩
theorem Grow.wipe (hp : NoParV δ vs) : Grow F H δ σ F H (wipeD δ vs) (L2.wipe σ vs) where
  f := Ex.refl F
  k := fun _ _ _ => rfl
  h := fun _ _ e _ => e
  n := fun a h => .inl h.wiped
  dm := fun _ h => h
  pr := fun i o h => by
    have hi : i ∉ vs := fun z => hp i z o h
    exact ⟨⟨o, by rw [wipeD_ne hi]; exact h⟩, wipe_ne hi⟩
/-- an object that no name owns is changed -/
theorem EnvOk.poke {p : Addr} {ho : HO} (e : EnvOk K E F H δ σ) (h1 : F p = none) (h2 : ¬ Hot δ σ p) (h3 : H p ≠ none) : EnvOk K E F (upd H p ho) δ σ where
  ex := fun a o h => by
    rw [upd_ne (ne_of_none h h1)]
    exact e.ex a o h
  dom := fun a h => by
    by_cases ha : a = p
    · rw [ha, upd_same] at h
      cases h
    · rw [upd_ne ha] at h
      exact e.dom a h
  len := e.len
  fr := e.fr
  ob := fun i b o h => by
    obtain ⟨q, ho', w1, w2, w3, w4⟩ := e.ob i b o h
    refine ⟨q, ho', w1, w2, ?_, w4⟩
    rw [upd_ne fun z => h2 ⟨i, b, o, h, by rw [← z]; exact w1⟩]
    exact w3
  dj := e.dj
end
theorem Grow.poke {F H F2 H2 : Hp} {δ δ2 : List Sl} {σ σ2 : List (Option V)} {A : Addr} {ho : HO} (G : Grow F H δ σ F2 H2 δ2 σ2) (hA : H A = none) : Grow F H δ σ F2 (upd H2 A ho) δ2 σ2 :=
  ⟨G.f, G.k, fun a o h1 h2 => by
    rw [upd_ne (ne_of_none h1 hA)]
    exact G.h a o h1 h2, G.n, fun a h => by
    by_cases ha : a = A
    · rw [ha]
      exact hA
    · rw [upd_ne ha] at h
      exact G.dm a h, G.pr⟩
def BindW (K : PySem.W.Frag) (g : TG) (d : D) (vs : List Nat) (δ δ' : List Sl) : Prop :=
  (∀ i, i ∉ vs → δ'[i]? = δ[i]?) ∧ ∀ (E F H : Hp) (σ : List (Option V)) (v : V) (Q : List (Option V) → Hp → Prop), EnvOk K E F H δ σ → Dp K F v d →
    (∀ σ', EnvOk K E F H δ' σ' → Grow F H δ σ F H δ' σ' → wipe σ' vs = wipe σ vs → Q σ' H) → g v σ H Q
def BindsW (K : PySem.W.Frag) (g : TGs) (ds : List D) (vs : List Nat) (δ δ' : List Sl) : Prop :=
  (∀ i, i ∉ vs → δ'[i]? = δ[i]?) ∧ ∀ (E F H : Hp) (σ : List (Option V)) (ws : List V) (Q : List (Option V) → Hp → Prop), EnvOk K E F H δ σ → DpAll K F ws ds →
    (∀ σ', EnvOk K E F H δ' σ' → Grow F H δ σ F H δ' σ' → wipe σ' vs = wipe σ vs → Q σ' H) → g ws σ H Q
section
variable {K : PySem.W.Frag} {δ δ1 δ2 : List Sl} {d : D} {ds : List D} {i : Nat} {vs : List Nat}
theorem bw_name (hi : i ∈ vs := by decide) (hp : NoPar δ i := by intro o z; cases z) : BindW K (gName i) d vs δ (δ.set i (.fr d)) :=
  ⟨fun j hj => by rw [List.getElem?_set_ne]; rintro rfl; exact hj hi, fun E F H σ v Q e h q => q _ (e.set_fr h) (Grow.set_fr hp) (wipe_set hi)⟩
theorem bsw_nil : BindsW K gNil [] vs δ δ := ⟨fun _ _ => rfl, fun E F H σ ws Q e h q => by
  cases h
  exact ⟨rfl, q σ e Grow.refl rfl⟩⟩
theorem bsw_cons {g : TG} {gs : TGs} (h1 : BindW K g d vs δ δ1) (h2 : BindsW K gs ds vs δ1 δ2) : BindsW K (gCons g gs) (d :: ds) vs δ δ2 := ⟨fun i hi => (h2.1 i hi).trans (h1.1 i hi), fun E F H σ ws Q e h q => by
  cases h with
  | cons hv ht =>
    exact ⟨_, _, rfl, h1.2 E F H σ _ _ e hv fun σ' e' g' w' => h2.2 E F H σ' _ _ e' ht fun σ2 e2 g2 w2 => q σ2 e2 (g'.trans g2) (w2.trans w')⟩⟩
theorem bw_tup {gs : TGs} {n : Nat} (h : BindsW K gs ds vs δ δ1) (hn : ds.length = n := by rfl) : BindW K (gTup K n gs) (.tuple ds) vs δ δ1 := ⟨h.1, fun E F H σ v Q e hv q => by
  cases hv with
  | tup hs ha => exact ⟨_, _, rfl, ex_t e.ex hs, ha.length.trans hn, h.2 E F H σ _ Q e ha q⟩⟩
end
inductive LcRel (K : PySem.W.Frag) (g : TG) (tt : TT) (te : TE) (vs : List Nat) : List D → List Sl → List D → List Sl → Prop
  | nil {δ : List Sl} : LcRel K g tt te vs [] δ [] δ
  | go {d y : D} {ds ys : List D} {δ δb δc δd δ' : List Sl} : BindW K g d vs δ δb → TtJ K tt δb true δc → EvJ K te δc (.fr y) δd → NoParV δd vs → LcRel K g tt te vs ds (wipeD δd vs) ys δ' → LcRel K g tt te vs (d :: ds) δ (y :: ys) δ'
  | skip {d : D} {ds ys : List D} {δ δb δc δ' : List Sl} : BindW K g d vs δ δb → TtJ K tt δb false δc → NoParV δc vs → LcRel K g tt te vs ds (wipeD δc vs) ys δ' → LcRel K g tt te vs (d :: ds) δ ys δ'
def pick (vs : List Nat) : Nat → List Sl → List Sl → List Sl
  | n, a :: as, b :: bs => (if n ∈ vs then a else b) :: pick vs (n + 1) as bs
  | _, _, _ => []
theorem pick_get {vs : List Nat} : ∀ {as bs : List Sl} {n i : Nat}, as.length = bs.length → (pick vs n as bs)[i]? = if n + i ∈ vs then as[i]? else bs[i]?
  | [], [], n, i, _ => by simp [pick]
  | a :: as, b :: bs, n, 0, _ => by
    show some (if n ∈ vs then a else b) = if n ∈ vs then some a else some b
    split <;> rfl
  | a :: as, b :: bs, n, i + 1, h => by
    show (pick vs (n + 1) as bs)[i]? = _
    rw [pick_get (by simpa using h), show n + 1 + i = n + (i + 1) by omega]
    rfl
  | [], _ :: _, _, _, h => by simp at h
  | _ :: _, [], _, _, h => by simp at h
theorem pick_len {vs : List Nat} : ∀ {as bs : List Sl} {n : Nat}, as.length = bs.length → (pick vs n as bs).length = as.length
  | [], [], _, _ => rfl
  | a :: as, b :: bs, n, h => congrArg (· + 1) (pick_len (by simpa using h))
  | [], _ :: _, _, h => by simp at h
  | _ :: _, [], _, h => by simp at h
theorem kind_get {δ δ' : List Sl} (h : SameK δ δ') (i : Nat) : δ'[i]?.map kind = δ[i]?.map kind := by
  have e : (δ'.map kind)[i]? = (δ.map kind)[i]? := by rw [h]
  rw [List.getElem?_map, List.getElem?_map] at e
  exact e
theorem LcRel.kinds {K : PySem.W.Frag} {g : TG} {tt : TT} {te : TE} {vs : List Nat} {ds ys : List D} {δ δ' : List Sl} (h : LcRel K g tt te vs ds δ ys δ') : ∀ i, i ∉ vs → δ'[i]?.map kind = δ[i]?.map kind := by
  induction h with
  | nil => exact fun _ _ => rfl
  | go hb ht he _ _ ih =>
    intro i hi
    rw [ih i hi, wipeD_ne hi, kind_get he.1, kind_get ht.1, hb.1 i hi]
  | skip hb ht _ _ ih =>
    intro i hi
    rw [ih i hi, wipeD_ne hi, kind_get ht.1, hb.1 i hi]
theorem LcRel.size {K : PySem.W.Frag} {g : TG} {tt : TT} {te : TE} {vs : List Nat} {ds ys : List D} {δ δ' : List Sl} (h : LcRel K g tt te vs ds δ ys δ') : ys.length ≤ ds.length := by
  induction h with
  | nil => exact Nat.le_refl _
  | go _ _ _ _ _ ih => exact Nat.succ_le_succ ih
  | skip _ _ _ _ ih => exact Nat.le_succ_of_le ih
theorem ev_lc {K : PySem.W.Frag} {wi : TI} {g : TG} {tt : TT} {te : TE} {vs : List Nat} {ds ys : List D} {δ δ1 δw δ' : List Sl} (hs : SrcJ K wi δ ds δ1) (hl : LcRel K g tt te vs ds (wipeD δ1 vs) ys δw) (hd : δw.length = δ1.length) (hδ : pick vs 0 δ1 δw = δ') (hp : NoParV δ1 vs) (hz : ds.length ≤ sizeLine) :
    EvJ K (tLc wi g tt te vs) δ (.new (.L ys)) δ' := by
  subst hδ
  have hpg : ∀ i, (pick vs 0 δ1 δw)[i]? = if i ∈ vs then δ1[i]? else δw[i]? := fun i => by
    rw [pick_get hd.symm, Nat.zero_add]
  have hk1 : SameK δ1 (pick vs 0 δ1 δw) := by
    unfold SameK
    refine List.ext_getElem? fun i => ?_
    rw [List.getElem?_map, List.getElem?_map, hpg i]
    split
    · rfl
    · rename_i hi
      rw [hl.kinds i hi, wipeD_ne hi]
  refine ⟨hs.1.trans hk1, fun E F H σ Q e q => hs.2 E F H σ _ e fun J F1 H1 e1 g1 it A hA => ?_⟩
  have hF1 : F1 A = none := nn_ex e1.ex hA
  have hH0 : H A = none := g1.dm A hA
  have nh1 : ¬ Hot δ1 σ A := fun z => by
    obtain ⟨_, ho, h2⟩ := e1.hotF z
    rw [hA] at h2
    cases h2
  have al0 : Alloc F1 H1 F1 (upd H1 A (.lst [])) := Alloc.own e1.ex hA
  refine ⟨fun i m H' => m = ds.length - i ∧ ∃ F' δi acc done rest, EnvOk K E F' H' δi (wipe σ vs) ∧ Grow F1 H1 (wipeD δ1 vs) (wipe σ vs) F' H' δi (wipe σ vs) ∧ H' A = some (.lst acc) ∧ DpAll K F' acc done ∧ F' A = none ∧ ¬ Hot δi (wipe σ vs) A ∧
    LcRel K g tt te vs (ds.drop i) δi rest δw ∧ done ++ rest = ys ∧ done.length ≤ i, ⟨_, rfl, F1, wipeD δ1 vs, [], [], ys, (al0.env e1).wipe, al0.grow, upd_same, .nil, hF1, fun z => nh1 z.wiped, hl, rfl, Nat.le_refl 0⟩, fun i m H' ⟨hm, F', δi, acc, done, rest, e', g', hA', hacc, hFA, hnh, hr, hsum, hdl⟩ => ?_⟩
  obtain ⟨i1, i2⟩ := it F' H' g'.f e'.ex
  by_cases hi : i < ds.length
  · have hdi : ds[i]? = some ds[i] := List.getElem?_eq_getElem hi
    obtain ⟨go, yl⟩ := i2 i _ hdi
    rw [List.drop_eq_getElem_cons hi] at hr
    refine .inr ⟨go, fun H2 => ∃ F2 δ2 acc done rest, EnvOk K E F2 H2 δ2 (wipe σ vs) ∧ Grow F1 H1 (wipeD δ1 vs) (wipe σ vs) F2 H2 δ2 (wipe σ vs) ∧ H2 A = some (.lst acc) ∧ DpAll K F2 acc done ∧ F2 A = none ∧ ¬ Hot δ2 (wipe σ vs) A ∧
      LcRel K g tt te vs (ds.drop (i + 1)) δ2 rest δw ∧ done ++ rest = ys ∧ done.length ≤ i + 1, fun H2 q2 => ⟨m - 1, by omega, by omega, q2⟩, fun x H'' hy => ?_⟩
    obtain ⟨F'', al, hx⟩ := yl x H'' hy
    have ea := al.env e'
    have ga : Grow F1 H1 (wipeD δ1 vs) (wipe σ vs) F'' H'' δi (wipe σ vs) := g'.trans al.grow
    have hAA : H'' A = some (.lst acc) := al.h A _ hA'
    have hFAA : F'' A = none := by rw [al.k A (by rw [hA']; exact fun z => nomatch z)]; exact hFA
    have keepA : ∀ {Fa Ha Fb Hb : Hp} {δa δb : List Sl} {σa σb : List (Option V)}, Grow Fa Ha δa σa Fb Hb δb σb → Ha A = some (.lst acc) → Fa A = none → ¬ Hot δa σa A → Hb A = some (.lst acc) ∧ Fb A = none ∧ ¬ Hot δb σb A := fun {Fa Ha Fb Hb δa δb σa σb} G h1 h2 h3 => by
      refine ⟨G.h A _ h1 h3, ?_, fun z => ?_⟩
      · rw [G.k A (by rw [h1]; exact fun z => nomatch z) h3]
        exact h2
      · rcases G.n A z with q | q
        · exact h3 q
        · rw [h1] at q
          cases q
    cases hr with
    | @go _ y _ ys' _ δb δc δd _ hb ht he hnp hr2 =>
      refine hb.2 E F'' H'' (wipe σ vs) x _ ea hx fun σ2 e2 g2 hw => ⟨hw.trans wipe_wipe, ht.2 E F'' H'' σ2 _ e2 fun F3 H3 e3 g3 => ?_⟩
      have ww : wipe σ2 vs = wipe σ vs := hw.trans wipe_wipe
      rw [if_pos rfl]
      refine he.2 E F3 H3 σ2 _ e3 fun v F4 H4 e4 g4 h4 _ => ?_
      obtain ⟨a1, a2, a3⟩ := keepA g2 hAA hFAA hnh
      obtain ⟨b1, b2, b3⟩ := keepA g3 a1 a2 a3
      obtain ⟨c1, c2, c3⟩ := keepA g4 b1 b2 b3
      have hlen : acc.length = done.length := hacc.length
      refine ⟨acc, c1, by omega, F4, wipeD δd vs, acc ++ [v], done ++ [y], ys', ?_, ?_, upd_same, (dpa_mono (al.f.trans (g2.f.trans (g3.f.trans g4.f))) hacc).append (.cons h4 .nil), c2, fun z => c3 (Hot.wiped (vs := vs) (by rw [ww]; exact z)), hr2, by rw [List.append_assoc]; exact hsum, by rw [List.length_append, List.length_singleton]; omega⟩
      · have e5 := (e4.poke (ho := .lst (acc ++ [v])) c2 c3 (by rw [c1]; exact fun z => nomatch z)).wipe (vs := vs)
        rw [ww] at e5
        exact e5
      · have G : Grow F1 H1 (wipeD δ1 vs) (wipe σ vs) F4 H4 (wipeD δd vs) (wipe σ2 vs) := ((ga.trans g2).trans (g3.trans g4)).trans (Grow.wipe hnp)
        rw [ww] at G
        exact G.poke hA
    | @skip _ _ ys' _ δb δc _ hb ht hnp hr2 =>
      refine hb.2 E F'' H'' (wipe σ vs) x _ ea hx fun σ2 e2 g2 hw => ⟨hw.trans wipe_wipe, ht.2 E F'' H'' σ2 _ e2 fun F3 H3 e3 g3 => ?_⟩
      have ww : wipe σ2 vs = wipe σ vs := hw.trans wipe_wipe
      rw [if_neg Bool.false_ne_true]
      obtain ⟨a1, a2, a3⟩ := keepA g2 hAA hFAA hnh
      obtain ⟨b1, b2, b3⟩ := keepA g3 a1 a2 a3
      refine ⟨F3, wipeD δc vs, acc, done, rest, ?_, ?_, b1, dpa_mono (al.f.trans (g2.f.trans g3.f)) hacc, b2, fun z => b3 (Hot.wiped (vs := vs) (by rw [ww]; exact z)), hr2, hsum, by omega⟩
      · have e5 := e3.wipe (vs := vs)
        rw [ww] at e5
        exact e5
      · have G : Grow F1 H1 (wipeD δ1 vs) (wipe σ vs) F3 H3 (wipeD δc vs) (wipe σ2 vs) := ((ga.trans g2).trans g3).trans (Grow.wipe hnp)
        rw [ww] at G
        exact G
  · refine .inl ⟨i1 i (by omega), ?_⟩
    rw [List.drop_eq_nil_of_le (by omega)] at hr
    cases hr
    rw [List.append_nil] at hsum
    subst hsum
    -- the names of the comprehension are what they were
    have hotB : ∀ a, Hot (pick vs 0 δ1 δw) σ a → Hot δ1 σ a := fun a ⟨j, b, o, h1, h2⟩ => by
      obtain ⟨o1, h3⟩ := hk1.symm.ob h1
      exact ⟨j, b, o1, h3, h2⟩
    have nhw : ∀ {j : Nat} {b : Bool} {o : O} {p : Addr}, j ∈ vs → δ1[j]? = some (.ob b o) → σ[j]? = some (some (.ref p)) → ¬ Hot (wipeD δ1 vs) (wipe σ vs) p := fun {j b o p} hj h1 h2 ⟨k, b', o', h3, h4⟩ => by
      obtain ⟨q1, q2⟩ := wipeD_some h3 fun z => nomatch z
      rw [wipe_ne q1] at h4
      have := e1.dj j k b o b' o' p h1 q2 h2 h4
      subst this
      exact q1 hj
    have E2 : EnvOk K E F' H' (pick vs 0 δ1 δw) σ := by
      refine ⟨e'.ex, e'.dom, by rw [pick_len hd.symm]; exact e1.len, fun j d hj => ?_, fun j b o hj => ?_, fun j k b o b' o' p hj hk h1 h2 => ?_⟩
      · obtain ⟨v, w1, w2⟩ := e1.fr j d (hk1.symm.fr hj)
        exact ⟨v, w1, dp_mono g'.f w2⟩
      · rw [hpg j] at hj
        by_cases hm : j ∈ vs
        · rw [if_pos hm] at hj
          obtain ⟨p, ho, w1, w2, w3, w4, w5⟩ := e1.ob j b o hj
          have nh := nhw hm hj w1
          refine ⟨p, ho, w1, ?_, g'.h p ho w3 nh, w4.mono g'.f, w5⟩
          rw [g'.k p (by rw [w3]; exact fun z => nomatch z) nh]
          exact w2
        · rw [if_neg hm] at hj
          obtain ⟨p, ho, w1, w2⟩ := e'.ob j b o hj
          rw [wipe_ne hm] at w1
          exact ⟨p, ho, w1, w2⟩
      · obtain ⟨o1, q1⟩ := hk1.symm.ob hj
        obtain ⟨o2, q2⟩ := hk1.symm.ob hk
        exact e1.dj j k _ _ _ _ p q1 q2 h1 h2
    have G2 : Grow F1 H1 δ1 σ F' H' (pick vs 0 δ1 δw) σ := by
      refine ⟨g'.f, fun a h1 h2 => g'.k a h1 fun z => h2 z.wiped, fun a o h1 h2 => g'.h a o h1 fun z => h2 z.wiped, fun a z => .inl (hotB a z), g'.dm, fun j o hj => ⟨hk1.ob hj, rfl⟩⟩
    refine q _ F' H' E2 (g1.trans G2) ⟨A, _, rfl, hFA, hA', ⟨acc, rfl, hacc⟩, fun z => ?_⟩ fun p e0 => ?_
    · exact nh1 (hotB A z)
    · cases e0
      exact hH0
end DL
/-! Operators, built-ins, dicts by written keys. -/
namespace DL
open PySem PySem.Spec PyProof.Rows L2

/-! ### own rules of the machine -/
section
variable {X : Cx}
def CDivR (_ j : Int) : Prop := j ≠ 0 ∧ j.natAbs.log2 < 9000
theorem op_fdivR : OpR X (binaryOp .FloorDiv) (rI CDivR fun i j => .int (i.fdiv j)) := opI fun i j _ _ _ _ _ hc q => floordiv_int hc.1 q (.inl (PyProof.noPylong_of_log2 hc.2))
/-- factors of together less than 2 ^ 27 bits -/
def CMulB (i j : Int) : Prop := i.natAbs.log2 + j.natAbs.log2 < 134217720
theorem CMulB.ok {i j : Int} (h : CMulB i j) : IntMulOk i j := by
  have b : ∀ x : Int, Builtin.Int.intBits x ≤ x.natAbs.log2 + 1 := fun x => by
    unfold Builtin.Int.intBits
    split <;> omega
  have h1 := b i
  have h2 := b j
  have h3 : i.natAbs.log2 + j.natAbs.log2 < 134217720 := h
  have e : bitsLine = 134217728 := by decide
  unfold IntMulOk
  intro z
  rw [Bool.and_eq_true] at z
  have z2 := z.2
  unfold Builtin.Int.intTooBig at z2
  have z3 := of_decide_eq_true z2
  rw [e] at z3
  omega
theorem op_mulB : OpR X (binaryOp .Mult) (rI CMulB fun i j => .int (i * j)) := opI fun _ _ _ _ _ _ _ hc q => mul_int q hc.ok
/-- list + list, any two lists that can be read -/
def rCatL (K : PySem.W.Frag) : R2 := fun x y H Q => ∃ l b xs zs, x = .ref l ∧ y = .ref b ∧ SqL K H l xs ∧ SqL K H b zs ∧ xs.length + zs.length ≤ sizeLine ∧ ∀ p, H p = none → Q (.ref p) (upd H p (.lst (xs ++ zs)))
theorem op_catLL : OpR X (binaryOp .Add) (rCatL X.K) := by
  intro pins s σ H x y v u Q I rx ry h
  obtain ⟨l, b, xs, zs, rfl, rfl, hH, hB, hz, q⟩ := h
  cases rx
  cases ry
  obtain ⟨its, r, e, _⟩ := I.list hH
  obtain ⟨its2, r2, e2, _⟩ := I.list hB
  have hl := r.length
  have hl2 := r2.length
  obtain ⟨⟨cls, dd, data, sl⟩, ho, hc, n, hd⟩ := id e.isList
  obtain ⟨⟨cls2, dd2, data2, sl2⟩, ho2, hc2, n2, hd2⟩ := id e2.isList
  simp only at hc hd hc2 hd2
  subst hc hd hc2 hd2
  have ea : its.toArray ++ its2.toArray = (its ++ its2).toArray := by simp
  refine concat_meets ⟨_, ho, rfl⟩ ⟨_, ho2, rfl⟩ noFill_list_add seq_list_add PySem.F.slot_list_add PySem.F.entry_list_add (PySem.F.args_list_add_2 _ _) (list_addW l b its.toArray its2.toArray n n2 dd dd2 sl sl2 (by rw [List.size_toArray, List.size_toArray]; omega)) ⟨ho, ho2, ?_⟩
  rw [ea]
  exact ⟨.ref _, _, I.lnew (t' := s.toks) (r.append r2) (by rw [List.length_append]; omega), rfl, q _ I.fresh⟩
/-- + -/
def rAddU (K : PySem.W.Frag) : R2 := fun x y H Q => rI0 (fun i j => .int (i + j)) x y H Q ∨ (rCatL K x y H Q ∨ (rCatA K x y H Q ∨ (∃ i j, x = .str i ∧ y = .str j ∧ i.length + j.length ≤ sizeLine ∧ Q (.str (i ++ j)) H)))
theorem op_addU : OpR X (binaryOp .Add) (rAddU X.K) := OpR.or op_add (OpR.or op_catLL (OpR.or op_catA op_add_str))
def rMulU (K : PySem.W.Frag) : R2 := fun x y H Q => rI CMulB (fun i j => .int (i * j)) x y H Q ∨ rRepT K x y H Q
theorem op_mulU : OpR X (binaryOp .Mult) (rMulU X.K) := OpR.or op_mulB op_repT
def rSliceU (K : PySem.W.Frag) : V → Option Int → Option Int → Hp → VK → Prop := fun x lo hi H Q => rSlL K x lo hi H Q ∨ (rSlA K x lo hi H Q ∨ rSlS x lo hi H Q)
theorem sl_U : SlR X (rSliceU X.K) := SlR.or sl_list (SlR.or sl_tupA sl_str)
def rLenU (K : PySem.W.Frag) : List V → Hp → VK → Prop := fun xs H Q => (∃ p ys, xs = [.ref p] ∧ (SqL K H p ys ∨ SqT K H p ys) ∧ Q (.int ys.length) H) ∨ ((∃ z, xs = [.str z] ∧ z.length ≤ sizeLine ∧ Q (.int z.length) H) ∨ (∃ a kvs, xs = [V.ref a] ∧ H a = some (.dK kvs) ∧ Q (.int kvs.length) H))
theorem call_lenU : CallR X (.builtin "len") (rLenU X.K) := CallR.or call_len_seq (CallR.or call_len_str call_lenD)
def rTupU (K : PySem.W.Frag) : List V → Hp → VK → Prop := fun xs H Q => ∃ p ys, xs = [.ref p] ∧ ((SqL K H p ys ∧ ∀ l, H l = none → Q (.ref l) (upd H l (.tup ys))) ∨ (SqT K H p ys ∧ Q (.ref p) H))
theorem call_tupU : CallR X (.type "tuple") (rTupU X.K) := call_tuple_of
def rLstU (K : PySem.W.Frag) : List V → Hp → VK → Prop := fun xs H Q => ∃ p ys, xs = [.ref p] ∧ (SqL K H p ys ∨ SqT K H p ys) ∧ ∀ l, H l = none → Q (.ref l) (upd H l (.lst ys))
theorem call_lstU : CallR X (.type "list") (rLstU X.K) := call_list_of
def rAbs : List V → Hp → VK → Prop := fun xs H Q => ∃ i, xs = [.int i] ∧ Q (.int (if i < 0 then -i else i)) H
theorem call_absU : CallR X (.builtin "abs") rAbs := call_abs
def rInt1 : List V → Hp → VK → Prop := fun xs H Q => (∃ i, xs = [.int i] ∧ Q (.int i) H) ∨ ∃ k, xs = [.bl k] ∧ Q (.int (if k then 1 else 0)) H
theorem call_int1U : CallR X (.type "int") rInt1 := call_int1
end

/-! ### operators on data -/
section
variable {K : PySem.W.Frag} {δ : List Sl} {r r1 r2 : R} {d d1 d2 : D} {ds : List D}
theorem od_of {f : R2} (h : ∀ (E F H : Hp) (σ : List (Option V)) (x y : V) (Q : VK), EnvOk K E F H δ σ → RepR K F H δ σ r1 x → RepR K F H δ σ r2 y → ∃ v, (∀ F, Dp K F v d) ∧ (Q v H → f x y H Q)) : OpD K f r1 r2 δ (.fr d) := fun E F H σ x y Q e h1 h2 q => by
  obtain ⟨v, hv, hq⟩ := h E F H σ x y Q e h1 h2
  exact hq (q v F H (Alloc.refl e.ex) (hv F) trivial)
theorem od_I0 {g : Int → Int → Int} {i j : Int} : OpD K (rI0 fun i j => .int (g i j)) (.fr (.int i)) (.fr (.int j)) δ (.fr (.int (g i j))) := fun E F H σ x y Q e h1 h2 q => by
  cases h1
  cases h2
  exact ⟨i, j, rfl, rfl, q _ F H (Alloc.refl e.ex) (.int _) trivial⟩
theorem od_I0b {g : Int → Int → Bool} {i j : Int} : OpD K (rI0 fun i j => .bl (g i j)) (.fr (.int i)) (.fr (.int j)) δ (.fr (.bool (g i j))) := fun E F H σ x y Q e h1 h2 q => by
  cases h1
  cases h2
  exact ⟨i, j, rfl, rfl, q _ F H (Alloc.refl e.ex) (.bl _) trivial⟩
theorem od_I {C : Int → Int → Prop} {g : Int → Int → Int} {i j : Int} (hc : C i j) : OpD K (rI C fun i j => .int (g i j)) (.fr (.int i)) (.fr (.int j)) δ (.fr (.int (g i j))) := fun E F H σ x y Q e h1 h2 q => by
  cases h1
  cases h2
  exact ⟨i, j, rfl, rfl, hc, q _ F H (Alloc.refl e.ex) (.int _) trivial⟩
theorem ud_I {g : Int → Int} {i : Int} : UnD K (rU fun i => .int (g i)) (.fr (.int i)) δ (.fr (.int (g i))) := fun E F H σ x Q e h1 q => by
  cases h1
  exact ⟨i, rfl, q _ F H (Alloc.refl e.ex) (.int _) trivial⟩
/-- the truth of bools in arithmetic: (a > b) - (a < b) -/
def rSubB : R2 := fun x y H Q => ∃ a b : Bool, x = .bl a ∧ y = .bl b ∧ Q (.int (b2i a - b2i b)) H
theorem od_orL {f g : R2} (h : OpD K f r1 r2 δ r) : OpD K (fun x y H Q => f x y H Q ∨ g x y H Q) r1 r2 δ r := fun E F H σ x y Q e h1 h2 q => .inl (h E F H σ x y Q e h1 h2 q)
theorem od_orR {f g : R2} (h : OpD K g r1 r2 δ r) : OpD K (fun x y H Q => f x y H Q ∨ g x y H Q) r1 r2 δ r := fun E F H σ x y Q e h1 h2 q => .inr (h E F H σ x y Q e h1 h2 q)
theorem od_addI {i j : Int} : OpD K (rAddU K) (.fr (.int i)) (.fr (.int j)) δ (.fr (.int (i + j))) := od_orL (od_I0 (g := fun i j => i + j))
theorem od_mulI {i j : Int} (h : CMulB i j) : OpD K (rMulU K) (.fr (.int i)) (.fr (.int j)) δ (.fr (.int (i * j))) := od_orL (od_I (g := fun i j => i * j) h)

/-- data, as they are to be read -/
def rD (δ : List Sl) : R → Option D
  | .fr d => some d
  | .new (.L ds) => some (.list ds)
  | .new _ => none
  | .al i => match δ[i]? with
    | some (.ob _ (.L ds)) => some (.list ds)
    | _ => none
theorem rD_ok {E F H : Hp} {σ : List (Option V)} {v : V} (e : EnvOk K E F H δ σ) (h : RepR K F H δ σ r v) (hd : rD δ r = some d) : Dp K H v d := by
  cases r with
  | fr d' =>
    cases hd
    exact dp_mono e.ex h
  | new o =>
    cases o with
    | L ds =>
      cases hd
      obtain ⟨p, ho, rfl, _, h2, ⟨vs, rfl, h3⟩, _⟩ := h
      exact .lst (.inl (.inl h2)) (dpa_mono e.ex h3)
    | K kvs => cases hd
  | al i =>
    obtain ⟨h1, b, o, h2⟩ := h
    unfold rD at hd
    simp only [h2] at hd
    cases o with
    | L ds =>
      cases hd
      obtain ⟨p, ho, w1, _, w3, ⟨vs, rfl, w4⟩, _⟩ := e.ob i b _ h2
      rw [h1] at w1
      cases w1
      exact .lst (.inl (.inl w3)) (dpa_mono e.ex w4)
    | K kvs => cases hd
/-- a row of data: a tuple (true), a list -/
def rS (δ : List Sl) : R → Option (Bool × List D)
  | .fr (.tuple ds) => some (true, ds)
  | .fr (.list ds) => some (false, ds)
  | .new (.L ds) => some (false, ds)
  | .al i => match δ[i]? with
    | some (.ob _ (.L ds)) => some (false, ds)
    | _ => none
  | _ => none
theorem rS_ok {E F H : Hp} {σ : List (Option V)} {v : V} {t : Bool} (e : EnvOk K E F H δ σ) (h : RepR K F H δ σ r v) (hd : rS δ r = some (t, ds)) : ∃ p vs, v = .ref p ∧ (t = false → SqL K H p vs) ∧ (t = true → SqT K H p vs) ∧ DpAll K F vs ds := by
  cases r with
  | fr d' =>
    cases d' with
    | tuple xs =>
      cases hd
      cases h with
      | tup hs ha => exact ⟨_, _, rfl, (fun z => nomatch z), (fun _ => ex_t e.ex hs), ha⟩
    | list xs =>
      cases hd
      cases h with
      | lst hs ha => exact ⟨_, _, rfl, (fun _ => ex_l e.ex hs), (fun z => nomatch z), ha⟩
    | none => cases hd
    | bool b => cases hd
    | int b => cases hd
    | str b => cases hd
    | dict b => cases hd
  | new o =>
    cases o with
    | L ds =>
      cases hd
      obtain ⟨p, ho, rfl, _, h2, ⟨vs, rfl, h3⟩, _⟩ := h
      exact ⟨p, vs, rfl, (fun _ => .inl (.inl h2)), (fun z => nomatch z), h3⟩
    | K kvs => cases hd
  | al i =>
    obtain ⟨h1, b, o, h2⟩ := h
    unfold rS at hd
    simp only [h2] at hd
    cases o with
    | L ds =>
      cases hd
      obtain ⟨p, ho, w1, _, w3, ⟨vs, rfl, w4⟩, _⟩ := e.ob i b _ h2
      rw [h1] at w1
      cases w1
      exact ⟨p, vs, rfl, (fun _ => .inl (.inl w3)), (fun z => nomatch z), w4⟩
    | K kvs => cases hd
/-- == and != of data -/
theorem od_eq (h1 : rD δ r1 = some d1) (h2 : rD δ r2 = some d2) (s1 : SeqAt.shaped d1 = true) (s2 : SeqAt.shaped d2 = true) : OpD K (rEqD K) r1 r2 δ (.fr (.bool (PyData.eqv d1 d2))) := fun E F H σ x y Q e x1 x2 q =>
  ⟨d1, d2, rD_ok e x1 h1, rD_ok e x2 h2, s1, s2, q _ F H (Alloc.refl e.ex) (.bl _) trivial⟩
theorem od_ne (h1 : rD δ r1 = some d1) (h2 : rD δ r2 = some d2) (s1 : SeqAt.shaped d1 = true) (s2 : SeqAt.shaped d2 = true) : OpD K (rNeD K) r1 r2 δ (.fr (.bool (!PyData.eqv d1 d2))) := fun E F H σ x y Q e x1 x2 q =>
  ⟨d1, d2, rD_ok e x1 h1, rD_ok e x2 h2, s1, s2, q _ F H (Alloc.refl e.ex) (.bl _) trivial⟩
/-- xs[i] -/
theorem atI_map {ds : List D} {vs : List V} {F : Hp} {i : Int} (h : DpAll K F vs ds) (hd : atI ds i = some d) : ∃ v, atI vs i = some v ∧ Dp K F v d := by
  unfold atI at hd ⊢
  rw [h.length]
  cases q : ixN ds.length i with
  | none =>
    rw [q] at hd
    cases hd
  | some j =>
    rw [q] at hd
    obtain ⟨v, h1, h2⟩ := h.get (i := j) hd
    exact ⟨v, h1, h2⟩
theorem od_ix {i : Int} {t : Bool} (h1 : rS δ r = some (t, ds)) (h2 : atI ds i = some d) : OpD K (rIx K) r (.fr (.int i)) δ (.fr d) := fun E F H σ x y Q e x1 x2 q => by
  cases x2
  obtain ⟨p, vs, rfl, hl, ht, ha⟩ := rS_ok e x1 h1
  obtain ⟨v, w1, w2⟩ := atI_map ha h2
  cases t with
  | false => exact .inl ⟨p, vs, i, v, rfl, rfl, hl rfl, w1, q v F H (Alloc.refl e.ex) w2 trivial⟩
  | true => exact .inr (.inl ⟨p, vs, i, v, rfl, rfl, ht rfl, w1, q v F H (Alloc.refl e.ex) w2 trivial⟩)
theorem od_ixS {i : Int} {z : Str} {c : Nat} (hz : z.length ≤ sizeLine) (h2 : atI z.cps.toList i = some c) : OpD K (rIx K) (.fr (.str z)) (.fr (.int i)) δ (.fr (.str ⟨#[c]⟩)) := fun E F H σ x y Q e x1 x2 q => by
  cases x1
  cases x2
  exact .inr (.inr ⟨z, i, c, rfl, rfl, hz, h2, q _ F H (Alloc.refl e.ex) (.str _) trivial⟩)
theorem DpAll.nil_iff {F : Hp} {vs : List V} {ds : List D} (h : DpAll K F vs ds) : vs = [] ↔ ds = [] := by
  cases h with
  | nil => exact ⟨fun _ => rfl, fun _ => rfl⟩
  | cons _ _ => exact ⟨(fun z => nomatch z), (fun z => nomatch z)⟩
/-- tuple + tuple -/
theorem od_catT {as bs : List D} (hz : as.length + bs.length ≤ sizeLine) : OpD K (rAddU K) (.fr (.tuple as)) (.fr (.tuple bs)) δ (.fr (.tuple (as ++ bs))) := fun E F H σ x y Q e x1 x2 q => by
  cases x1 with
  | @tup a xs _ hs ha =>
    cases x2 with
    | @tup b ys _ hs2 hb =>
      refine .inr (.inr (.inl ⟨a, b, xs, ys, rfl, rfl, ex_t e.ex hs, ex_t e.ex hs2, by rw [ha.length, hb.length]; exact hz, fun h0 => ?_, fun h0 h1 => ?_, fun h0 h1 p hp => ?_⟩))
      · rw [DpAll.nil_iff ha] at h0
        subst h0
        exact q _ F H (Alloc.refl e.ex) (.tup hs2 hb) trivial
      · rw [DpAll.nil_iff hb] at h1
        subst h1
        rw [List.append_nil] at q
        exact q _ F H (Alloc.refl e.ex) (.tup hs ha) trivial
      · have al := Alloc.new (o := .tup (xs ++ ys)) e.ex hp
        exact q _ _ _ al (.tup (.inl (.inl upd_same)) (dpa_mono al.f (ha.append hb))) trivial
/-- a new list + a new list (or a name's own) -/
def isL (δ : List Sl) : R → Option (List D)
  | .new (.L ds) => some ds
  | .al i => match δ[i]? with
    | some (.ob _ (.L ds)) => some ds
    | _ => none
  | _ => none
theorem isL_ok {E F H : Hp} {σ : List (Option V)} {v : V} (e : EnvOk K E F H δ σ) (h : RepR K F H δ σ r v) (hd : isL δ r = some ds) : ∃ p vs, v = .ref p ∧ H p = some (.lst vs) ∧ DpAll K F vs ds := by
  cases r with
  | fr d => cases hd
  | new o =>
    cases o with
    | L ds =>
      cases hd
      obtain ⟨p, ho, rfl, _, h2, ⟨vs, rfl, h3⟩, _⟩ := h
      exact ⟨p, vs, rfl, h2, h3⟩
    | K kvs => cases hd
  | al i =>
    obtain ⟨h1, b, o, h2⟩ := h
    unfold isL at hd
    simp only [h2] at hd
    cases o with
    | L ds =>
      cases hd
      obtain ⟨p, ho, w1, _, w3, ⟨vs, rfl, w4⟩, _⟩ := e.ob i b _ h2
      rw [h1] at w1
      cases w1
      exact ⟨p, vs, rfl, w3, w4⟩
    | K kvs => cases hd
theorem new_list {E F H : Hp} {σ : List (Option V)} {vs : List V} (e : EnvOk K E F H δ σ) (ha : DpAll K F vs ds) {p : Addr} (hp : H p = none) : RepR K F (upd H p (.lst vs)) δ σ (.new (.L ds)) (.ref p) ∧ Fresh H (.new (.L ds)) (.ref p) := by
  refine ⟨⟨p, _, rfl, nn_ex e.ex hp, upd_same, ⟨vs, rfl, ha⟩, fun z => ?_⟩, fun q e0 => ?_⟩
  · obtain ⟨_, ho, h2⟩ := e.hotF z
    rw [hp] at h2
    cases h2
  · cases e0
    exact hp
theorem od_catL {as bs : List D} (h1 : rS δ r1 = some (false, as)) (h2 : rS δ r2 = some (false, bs)) (hz : as.length + bs.length ≤ sizeLine) : OpD K (rAddU K) r1 r2 δ (.new (.L (as ++ bs))) := fun E F H σ x y Q e x1 x2 q => by
  obtain ⟨p, vs, rfl, w1, _, w2⟩ := rS_ok e x1 h1
  obtain ⟨p', us, rfl, w3, _, w4⟩ := rS_ok e x2 h2
  refine .inr (.inl ⟨p, p', vs, us, rfl, rfl, w1 rfl, w3 rfl, by rw [w2.length, w4.length]; exact hz, fun l hl => ?_⟩)
  obtain ⟨n1, n2⟩ := new_list e (w2.append w4) hl
  exact q _ F _ (Alloc.own e.ex hl) n1 n2
/-- a tuple some times over -/
theorem od_repT {as : List D} {k : Int} (hn : as ≠ []) (h1 : 2 ≤ k) (h2 : k ≤ 1000) (hz : as.length ≤ 1000) : OpD K (rMulU K) (.fr (.tuple as)) (.fr (.int k)) δ (.fr (.tuple (List.replicate k.toNat as).flatten)) := fun E F H σ x y Q e x1 x2 q => by
  cases x2
  cases x1 with
  | @tup p vs _ hs ha =>
    have hv : vs ≠ [] := fun z => by
      subst z
      cases ha
      exact hn rfl
    refine .inr ⟨p, k, vs, rfl, rfl, ex_t e.ex hs, hv, h1, h2, by rw [ha.length]; exact hz, fun l hl => ?_⟩
    have al := Alloc.new (o := .tup (List.replicate k.toNat vs).flatten) e.ex hl
    have rep : ∀ n, DpAll K F (List.replicate n vs).flatten (List.replicate n as).flatten := fun n => by
      induction n with
      | zero => exact .nil
      | succ n ih =>
        rw [List.replicate_succ, List.replicate_succ, List.flatten_cons, List.flatten_cons]
        exact ha.append ih
    exact q _ _ _ al (.tup (.inl (.inl upd_same)) (dpa_mono al.f (rep _))) trivial
theorem od_catS {a b : Str} (hz : a.length + b.length ≤ sizeLine) : OpD K (rAddU K) (.fr (.str a)) (.fr (.str b)) δ (.fr (.str (a ++ b))) := fun E F H σ x y Q e x1 x2 q => by
  cases x1
  cases x2
  exact .inr (.inr (.inr ⟨a, b, rfl, rfl, hz, q _ F H (Alloc.refl e.ex) (.str _) trivial⟩))
/-- displays -/
def frs? : List R → Option (List D)
  | [] => some []
  | .fr d :: rs => (frs? rs).map (d :: ·)
  | _ => none
theorem frs_ok {F H : Hp} {σ : List (Option V)} : ∀ {rs : List R} {ds : List D} {vs : List V}, RepRs K F H δ σ rs vs → frs? rs = some ds → DpAll K F vs ds
  | [], ds, _, .nil, h => by
    cases h
    exact .nil
  | r :: rs, ds, _, .cons h1 h2 _, h => by
    cases r with
    | fr d =>
      cases q : frs? rs with
      | none => simp [frs?, q] at h
      | some ds' =>
        simp only [frs?, q, Option.map_some, Option.some.injEq] at h
        subst h
        exact .cons h1 (frs_ok h2 q)
    | new o => cases h
    | al i => cases h
theorem ev_tup {t : TA} {rs : List R} {δ1 : List Sl} (h : EvA K t δ rs δ1) (hd : frs? rs = some ds) (hz : ds.length ≤ sizeLine := by decide) : EvJ K (tTup t) δ (.fr (.tuple ds)) δ1 := ⟨h.1, fun E F H σ Q e q => h.2 E F H σ _ e fun vs F1 H1 e1 g1 hr _ => by
  have ha := frs_ok hr hd
  refine ⟨by rw [ha.length]; exact hz, fun p hp => ?_⟩
  have al := Alloc.new (o := .tup vs) e1.ex hp
  exact q _ _ _ (al.env e1) (g1.trans al.grow) (.tup (.inl (.inl upd_same)) (dpa_mono al.f ha)) trivial⟩
theorem ev_lst {t : TA} {rs : List R} {δ1 : List Sl} (h : EvA K t δ rs δ1) (hd : frs? rs = some ds) (hz : ds.length ≤ sizeLine := by decide) : EvJ K (tLst t) δ (.new (.L ds)) δ1 := ⟨h.1, fun E F H σ Q e q => h.2 E F H σ _ e fun vs F1 H1 e1 g1 hr _ => by
  have ha := frs_ok hr hd
  refine ⟨by rw [ha.length]; exact hz, fun p hp => ?_⟩
  have al := Alloc.own (o := .lst vs) e1.ex hp
  obtain ⟨n1, n2⟩ := new_list e1 ha hp
  exact q _ _ _ (al.env e1) (g1.trans al.grow) n1 (n2.back g1.dm)⟩
/-- calls of built-ins -/
theorem cd1 {f : List V → Hp → VK → Prop} {r' : R} (h : ∀ (E F H : Hp) (σ : List (Option V)) (v : V) (Q : VK), EnvOk K E F H δ σ → RepR K F H δ σ r v → (∀ w F2 H2, Alloc F H F2 H2 → RepR K F2 H2 δ σ r' w → Fresh H r' w → Q w H2) → f [v] H Q) : CaD K f [r] δ r' := fun E F H σ vs Q e hr q => by
  cases hr with
  | cons h1 h2 _ =>
    cases h2
    exact h E F H σ _ Q e h1 q
theorem cd_len {t : Bool} (h : rS δ r = some (t, ds)) : CaD K (rLenU K) [r] δ (.fr (.int (ds.length : Int))) := cd1 fun E F H σ v Q e x q => by
  obtain ⟨p, vs, rfl, hl, ht, ha⟩ := rS_ok e x h
  rw [← ha.length] at q
  cases t with
  | false => exact .inl ⟨p, vs, rfl, .inl (hl rfl), q _ F H (Alloc.refl e.ex) (.int _) trivial⟩
  | true => exact .inl ⟨p, vs, rfl, .inr (ht rfl), q _ F H (Alloc.refl e.ex) (.int _) trivial⟩
theorem cd_lenS {z : Str} (hz : z.length ≤ sizeLine) : CaD K (rLenU K) [.fr (.str z)] δ (.fr (.int (z.length : Int))) := cd1 fun E F H σ v Q e x q => by
  cases x
  exact .inr (.inl ⟨z, rfl, hz, q _ F H (Alloc.refl e.ex) (.int _) trivial⟩)
theorem cd_tup (h : rS δ r = some (false, ds)) : CaD K (rTupU K) [r] δ (.fr (.tuple ds)) := cd1 fun E F H σ v Q e x q => by
  obtain ⟨p, vs, rfl, hl, ht, ha⟩ := rS_ok e x h
  refine ⟨p, vs, rfl, .inl ⟨hl rfl, fun l hp => ?_⟩⟩
  have al := Alloc.new (o := .tup vs) e.ex hp
  exact q _ _ _ al (.tup (.inl (.inl upd_same)) (dpa_mono al.f ha)) trivial
theorem cd_lst {t : Bool} (h : rS δ r = some (t, ds)) : CaD K (rLstU K) [r] δ (.new (.L ds)) := cd1 fun E F H σ v Q e x q => by
  obtain ⟨p, vs, rfl, hl, ht, ha⟩ := rS_ok e x h
  refine ⟨p, vs, rfl, ?_, fun l hp => ?_⟩
  · cases t with
    | false => exact .inl (hl rfl)
    | true => exact .inr (ht rfl)
  · obtain ⟨n1, n2⟩ := new_list e ha hp
    exact q _ F _ (Alloc.own e.ex hp) n1 n2
theorem cd_abs {i : Int} : CaD K rAbs [.fr (.int i)] δ (.fr (.int (i.natAbs : Int))) := cd1 fun E F H σ v Q e x q => by
  cases x
  have e0 : ((i.natAbs : Nat) : Int) = if i < 0 then -i else i := by split <;> omega
  rw [e0] at q
  exact ⟨i, rfl, q _ F H (Alloc.refl e.ex) (.int _) trivial⟩
theorem cd_int {i : Int} : CaD K rInt1 [.fr (.int i)] δ (.fr (.int i)) := cd1 fun E F H σ v Q e x q => by
  cases x
  exact .inl ⟨i, rfl, q _ F H (Alloc.refl e.ex) (.int _) trivial⟩
theorem cd_intB {b : Bool} : CaD K rInt1 [.fr (.bool b)] δ (.fr (.int (if b then 1 else 0))) := cd1 fun E F H σ v Q e x q => by
  cases x
  exact .inr ⟨b, rfl, q _ F H (Alloc.refl e.ex) (.int _) trivial⟩
theorem cd_gcd {a b : Int} : CaD K rGcd [.fr (.int a), .fr (.int b)] δ (.fr (.int ((Nat.gcd a.natAbs b.natAbs : Nat) : Int))) := fun E F H σ vs Q e hr q => by
  cases hr with
  | cons h1 h2 _ =>
    cases h2 with
    | cons h2 h3 _ =>
      cases h3
      cases h1
      cases h2
      exact ⟨a, b, rfl, q _ F H (Alloc.refl e.ex) (.int _) trivial⟩
theorem DpAll.bools {F : Hp} : ∀ {bs : List Bool} {vs : List V}, DpAll K F vs (bs.map PyData.bool) → vs = bs.map V.bl
  | [], _, h => by
    cases h
    rfl
  | b :: bs, _, h => by
    cases h with
    | cons h1 h2 =>
      cases h1
      rw [DpAll.bools h2]
      rfl
theorem DpAll.ints {F : Hp} : ∀ {bs : List Int} {vs : List V}, DpAll K F vs (bs.map PyData.int) → vs = bs.map V.int
  | [], _, h => by
    cases h
    rfl
  | b :: bs, _, h => by
    cases h with
    | cons h1 h2 =>
      cases h1
      rw [DpAll.ints h2]
      rfl
theorem cd_all {bs : List Bool} (h : rS δ r = some (false, bs.map PyData.bool)) : CaD K (rAll K) [r] δ (.fr (.bool (bs.all id))) := cd1 fun E F H σ v Q e x q => by
  obtain ⟨p, vs, rfl, hl, ht, ha⟩ := rS_ok e x h
  have e0 := DpAll.bools ha
  subst e0
  exact ⟨p, bs, rfl, hl rfl, q _ F H (Alloc.refl e.ex) (.bl _) trivial⟩
theorem cd_any {bs : List Bool} (h : rS δ r = some (false, bs.map PyData.bool)) : CaD K (rAny K) [r] δ (.fr (.bool (bs.any id))) := cd1 fun E F H σ v Q e x q => by
  obtain ⟨p, vs, rfl, hl, ht, ha⟩ := rS_ok e x h
  have e0 := DpAll.bools ha
  subst e0
  exact ⟨p, bs, rfl, hl rfl, q _ F H (Alloc.refl e.ex) (.bl _) trivial⟩
theorem cd_sum {bs : List Int} (h : rS δ r = some (false, bs.map PyData.int)) : CaD K (rSum K) [r] δ (.fr (.int bs.sum)) := cd1 fun E F H σ v Q e x q => by
  obtain ⟨p, vs, rfl, hl, ht, ha⟩ := rS_ok e x h
  have e0 := DpAll.ints ha
  subst e0
  exact ⟨p, bs, rfl, hl rfl, q _ F H (Alloc.refl e.ex) (.int _) trivial⟩
/-- isinstance: the kinds of data -/
def tyD : D → String
  | .none => "NoneType"
  | .bool _ => "bool"
  | .int _ => "int"
  | .str _ => "str"
  | .list _ => "list"
  | .tuple _ => "tuple"
  | .dict _ => "dict"
theorem tyX_of {H : Hp} {v : V} (h : Dp K H v d) : TyX K H v (.type (tyD d)) := by
  cases h with
  | non => exact .base .non
  | bl b => exact .base (.bl b)
  | int i => exact .base (.int i)
  | str x => exact .base (.str x)
  | lst hs _ =>
    rcases hs with (h | ⟨o, h⟩) | ⟨o, its, n, h1, h2, _⟩
    · exact .base (.lst h)
    · exact .base (.frz h)
    · exact .kList h1 h2
  | tup hs _ =>
    rcases hs with (h | ⟨o, h⟩) | ⟨o, its, n, h1, h2, _⟩
    · exact .base (.tup h)
    · exact .fTuple h
    · exact .kTuple h1 h2
/-- isinstance(e, T), T a built-in class -/
theorem ev_isi {te : TE} {n : String} {b : Bool} {δ1 : List Sl} (h : EvJ K te δ r δ1) (hd : rD δ1 r = some d) (hn : kitB (tyD d) n = some b) : EvJ K (tCB (rIsi K) (tCons te (tCons (tC (.ty n)) tNil))) δ (.fr (.bool b)) δ1 := ⟨h.1, fun E F H σ Q e q => h.2 E F H σ _ e fun v F1 H1 e1 g1 hr _ => by
  exact ⟨v, .ty n, .type (tyD d), .type n, b, rfl, .ty n, tyX_of (rD_ok e1 hr hd), kit_ty hn, q _ F1 H1 e1 g1 (.bl _) trivial⟩⟩
end

/-! ### a list is grown, changed -/
section
variable {K : PySem.W.Frag} {E F H : Hp} {δ δ1 δ2 δ3 : List Sl} {σ : List (Option V)} {to te ti : TE} {d : D} {ds : List D} {i : Nat} {b : Bool} {o o' : O}
/-- the object of a name is changed in its place -/
theorem EnvOk.mut {p : Addr} {ho' : HO} (e : EnvOk K E F H δ σ) (hi : δ[i]? = some (.ob b o)) (hs : σ[i]? = some (some (.ref p))) (h' : RepO K F o' ho') : EnvOk K E F (upd H p ho') (δ.set i (.ob b o')) σ := by
  obtain ⟨p0, ho, w1, w2, w3, w4, w5⟩ := e.ob i b o hi
  rw [hs] at w1
  cases w1
  refine ⟨fun a u h => ?_, fun a h => ?_, by rw [List.length_set]; exact e.len, fun j d' hj => ?_, fun j b' o1 hj => ?_, fun j k b1 o1 b2 o2 q hj hk h1 h2 => ?_⟩
  · rw [upd_ne (ne_of_none h w2)]
    exact e.ex a u h
  · by_cases ha : a = p
    · rw [ha, upd_same] at h
      cases h
    · rw [upd_ne ha] at h
      exact e.dom a h
  · rcases getset hj with ⟨_, e1, _⟩ | ⟨_, hj⟩
    · cases e1
    · exact e.fr j d' hj
  · rcases getset hj with ⟨rfl, e1, _⟩ | ⟨hn, hj⟩
    · cases e1
      exact ⟨p, ho', hs, w2, upd_same, h', w5⟩
    · obtain ⟨p1, ho1, x1, x2, x3, x4⟩ := e.ob j b' o1 hj
      refine ⟨p1, ho1, x1, x2, ?_, x4⟩
      rw [upd_ne fun z => hn (e.dj j i b' o1 b o p hj hi (by rw [← z]; exact x1) hs)]
      exact x3
  · have old : ∀ {j : Nat} {b1 : Bool} {o1 : O}, (δ.set i (.ob b o'))[j]? = some (.ob b1 o1) → ∃ b0 o0, δ[j]? = some (.ob b0 o0) := fun {j b1 o1} hj => by
      rcases getset hj with ⟨ej, _, _⟩ | ⟨_, hj⟩
      · exact ⟨b, o, by rw [ej]; exact hi⟩
      · exact ⟨_, _, hj⟩
    obtain ⟨_, _, q1⟩ := old hj
    obtain ⟨_, _, q2⟩ := old hk
    exact e.dj j k _ _ _ _ q q1 q2 h1 h2
theorem Grow.mut {p : Addr} {ho' : HO} (e : EnvOk K E F H δ σ) (hi : δ[i]? = some (.ob b o)) (hs : σ[i]? = some (some (.ref p))) : Grow F H δ σ F (upd H p ho') (δ.set i (.ob b o')) σ := by
  obtain ⟨p0, ho, w1, w2, w3, w4, w5⟩ := e.ob i b o hi
  rw [hs] at w1
  cases w1
  have hot : Hot δ σ p := ⟨i, b, o, hi, hs⟩
  refine ⟨Ex.refl F, fun _ _ _ => rfl, fun a u h hn => ?_, fun a ⟨j, b1, o1, h1, h2⟩ => ?_, fun a h => ?_, fun j o1 hj => ?_⟩
  · rw [upd_ne fun z => hn (by rw [z]; exact hot)]
    exact h
  · rcases getset h1 with ⟨ej, _, _⟩ | ⟨_, h1⟩
    · exact .inl ⟨i, b, o, hi, by rw [← ej]; exact h2⟩
    · exact .inl ⟨j, b1, o1, h1, h2⟩
  · by_cases ha : a = p
    · rw [ha, upd_same] at h
      cases h
    · rw [upd_ne ha] at h
      exact h
  · by_cases ej : j = i
    · subst ej
      rw [hi] at hj
      cases hj
      exact ⟨⟨o', List.getElem?_set_self (List.getElem?_eq_some_iff.mp hi).1⟩, rfl⟩
    · exact ⟨⟨o1, by rw [List.getElem?_set_ne (Ne.symm ej)]; exact hj⟩, rfl⟩
theorem sameK_set (hi : δ[i]? = some (.ob b o)) : SameK δ (δ.set i (.ob b o')) := by
  have h := setO_same (δ := δ) (i := i) (o := o')
  unfold setO at h
  rw [hi] at h
  exact h
theorem RepR.al_ref {v : V} (e : EnvOk K E F H δ σ) (hi : δ[i]? = some (.ob b o)) (h : RepR K F H δ σ (.al i) v) : ∃ p ho, v = .ref p ∧ σ[i]? = some (some (.ref p)) ∧ F p = none ∧ H p = some ho ∧ RepO K F o ho := by
  obtain ⟨p, ho, w1, w2, w3, w4, _⟩ := e.ob i b o hi
  obtain ⟨h1, _⟩ := h
  rw [h1] at w1
  cases w1
  exact ⟨p, ho, rfl, h1, w2, w3, w4⟩
/-- xs.append(e) -/
theorem ev_append {ds0 : List D} (ho : EvJ K to δ (.al i) δ1) (h0 : δ1[i]? = some (.ob b (.L ds0))) (he : EvJ K te δ1 (.fr d) δ2) (hi : δ2[i]? = some (.ob b (.L ds))) (hz : ds.length < sizeLine) : EvJ K (tBM K "list" rAppend to (tCons te tNil)) δ (.fr .none) (δ2.set i (.ob b (.L (ds ++ [d])))) :=
  ⟨(ho.1.trans he.1).trans (sameK_set hi), fun E F H σ Q e q => ho.2 E F H σ _ e fun v F1 H1 e1 g1 h1 _ => by
    obtain ⟨p, ho1, rfl, w1, w2, w3, vs, rfl, _⟩ := h1.al_ref e1 h0
    refine ⟨.inl ⟨rfl, vs, .inl (.inl w3)⟩, he.2 E F1 H1 σ _ e1 fun u F2 H2 e2 g2 h2 _ => ?_⟩
    obtain ⟨p2, ho2, x1, x2, x3, ⟨us, rfl, x4⟩, _⟩ := e2.ob i b _ hi
    rw [w1] at x1
    cases x1
    have hr : RepO K F2 (.L (ds ++ [d])) (.lst (us ++ [u])) := ⟨_, rfl, x4.append (.cons h2 .nil)⟩
    exact ⟨p, us, u, rfl, rfl, x3, by rw [x4.length]; exact hz, q _ F2 _ (e2.mut hi w1 hr) ((g1.trans g2).trans (Grow.mut e2 hi w1)) .non trivial⟩⟩
/-- xs.extend(e), e a new list -/
theorem ev_extend {ds0 es : List D} {r : R} (ho : EvJ K to δ (.al i) δ1) (h0 : δ1[i]? = some (.ob b (.L ds0))) (he : EvJ K te δ1 r δ2) (hr : isL δ2 r = some es) (hi : δ2[i]? = some (.ob b (.L ds))) (hz : ds.length + es.length ≤ sizeLine) : EvJ K (tBM K "list" rExtend to (tCons te tNil)) δ (.fr .none) (δ2.set i (.ob b (.L (ds ++ es)))) :=
  ⟨(ho.1.trans he.1).trans (sameK_set hi), fun E F H σ Q e q => ho.2 E F H σ _ e fun v F1 H1 e1 g1 h1 _ => by
    obtain ⟨p, ho1, rfl, w1, w2, w3, vs, rfl, _⟩ := h1.al_ref e1 h0
    refine ⟨.inl ⟨rfl, vs, .inl (.inl w3)⟩, he.2 E F1 H1 σ _ e1 fun u F2 H2 e2 g2 h2 _ => ?_⟩
    obtain ⟨p2, ho2, x1, x2, x3, ⟨us, rfl, x4⟩, _⟩ := e2.ob i b _ hi
    rw [w1] at x1
    cases x1
    obtain ⟨p3, ws, rfl, y1, y2⟩ := isL_ok e2 h2 hr
    have hro : RepO K F2 (.L (ds ++ es)) (.lst (us ++ ws)) := ⟨_, rfl, x4.append y2⟩
    exact ⟨p, p3, us, ws, rfl, rfl, x3, y1, by rw [x4.length, y2.length]; exact hz, q _ F2 _ (e2.mut hi w1 hro) ((g1.trans g2).trans (Grow.mut e2 hi w1)) .non trivial⟩⟩
/-- xs[k] = e -/
theorem st_setL {k : Int} {j : Nat} {δ4 : List Sl} (he : EvJ K te δ (.fr d) δ1) (ho : EvJ K to δ1 (.al i) δ2) (hk : EvJ K ti δ2 (.fr (.int k)) δ3) (hi : δ3[i]? = some (.ob b (.L ds))) (hj : ixN ds.length k = some j) : StJ K (tAsg te (gSub to ti rSetL)) δ (.nx (δ3.set i (.ob b (.L (ds.set j d))))) := fun E F H σ D e s =>
  he.2 E F H σ _ e fun v F1 H1 e1 g1 h1 _ => ho.2 E F1 H1 σ _ e1 fun x F2 H2 e2 g2 h2 _ => hk.2 E F2 H2 σ _ e2 fun y F3 H3 e3 g3 h3 _ => by
    have h2' := h2.keep g3 hk.1
    have h1' := (RepR.keep (r := .fr d) g2 ho.1 h1).keep (r := .fr d) g3 hk.1
    cases h3
    obtain ⟨p, ho1, rfl, w1, w2, w3, vs, rfl, w4⟩ := h2'.al_ref e3 hi
    have hr : RepO K F3 (.L (ds.set j d)) (.lst (vs.set j v)) := ⟨_, rfl, w4.set h1' j⟩
    exact ⟨p, vs, k, j, rfl, rfl, w3, by rw [w4.length]; exact hj, s σ F3 _ (e3.mut hi w1 hr) (((g1.trans g2).trans g3).trans (Grow.mut e3 hi w1))⟩
/-! ### dicts by written keys -/
def keyD : Key → D
  | .inl i => .int i
  | .inr x => .str x
theorem keyD_v {k : Key} {v : V} {F : Hp} (h : Dp K F v (keyD k)) : v = kV k := by
  cases k with
  | inl i =>
    cases h
    rfl
  | inr x =>
    cases h
    rfl
theorem kd_get {κ : Type} [DecidableEq κ] {F : Hp} {ws : List (κ × V)} {kvs : List (κ × D)} (h : KD K F ws kvs) {k : κ} (hd : kdGet kvs k = some d) : ∃ v, valV ws k = some v ∧ Dp K F v d := by
  induction h with
  | nil => cases hd
  | @cons k' v' d' _ _ h1 _ ih =>
    unfold kdGet at hd
    by_cases hk : k' = k
    · rw [if_pos hk] at hd
      cases hd
      exact ⟨v', valV_pos hk, h1⟩
    · rw [if_neg hk] at hd
      rw [valV_neg (p := (k', v')) hk]
      exact ih hd
theorem kd_none {κ : Type} [DecidableEq κ] {F : Hp} {ws : List (κ × V)} {kvs : List (κ × D)} (h : KD K F ws kvs) {k : κ} (hd : kdGet kvs k = none) : valV ws k = none := by
  induction h with
  | nil => rfl
  | @cons k' v' d' _ _ h1 _ ih =>
    unfold kdGet at hd
    by_cases hk : k' = k
    · rw [if_pos hk] at hd
      cases hd
    · rw [if_neg hk] at hd
      rw [valV_neg (p := (k', v')) hk]
      exact ih hd
theorem KD.keys {κ : Type} {F : Hp} {ws : List (κ × V)} {kvs : List (κ × D)} (h : KD K F ws kvs) : ws.map (·.1) = kvs.map (·.1) := by
  induction h with
  | nil => rfl
  | cons _ _ ih => rw [List.map_cons, List.map_cons, ih]
theorem KD.len {κ : Type} {F : Hp} {ws : List (κ × V)} {kvs : List (κ × D)} (h : KD K F ws kvs) : ws.length = kvs.length := by
  have e := congrArg List.length h.keys
  rw [List.length_map, List.length_map] at e
  exact e
/-- the pairs with one put, told by recursion -/
def putR {κ : Type} [DecidableEq κ] : List (κ × V) → κ → V → List (κ × V)
  | [], k, v => [(k, v)]
  | (k', v') :: r, k, v => if k' = k then (k', v) :: r else (k', v') :: putR r k v
theorem putR_notin {κ : Type} [DecidableEq κ] {k : κ} {v : V} : ∀ {ws : List (κ × V)}, k ∉ ws.map (·.1) → putR ws k v = ws ++ [(k, v)]
  | [], _ => rfl
  | (k', v') :: r, h => by
    rw [List.map_cons, List.mem_cons, not_or] at h
    unfold putR
    rw [if_neg (fun e => h.1 e.symm), putR_notin h.2]
    rfl
theorem map_id_notin {κ : Type} [DecidableEq κ] {k : κ} {v : V} : ∀ {ws : List (κ × V)}, k ∉ ws.map (·.1) → ws.map (fun kv => if kv.1 = k then (kv.1, v) else kv) = ws
  | [], _ => rfl
  | (k', v') :: r, h => by
    rw [List.map_cons, List.mem_cons, not_or] at h
    rw [List.map_cons, map_id_notin h.2]
    show (if k' = k then (k', v) else (k', v')) :: r = _
    rw [if_neg (fun e => h.1 e.symm)]
theorem map_in {κ : Type} [DecidableEq κ] {k : κ} {v : V} : ∀ {ws : List (κ × V)}, (ws.map (·.1)).Nodup → k ∈ ws.map (·.1) → ws.map (fun kv => if kv.1 = k then (kv.1, v) else kv) = putR ws k v
  | [], _, h => by cases h
  | (k', v') :: r, hn, h => by
    rw [List.map_cons, List.nodup_cons] at hn
    rw [List.map_cons]
    show (if k' = k then (k', v) else (k', v')) :: r.map _ = if k' = k then (k', v) :: r else (k', v') :: putR r k v
    by_cases hk : k' = k
    · subst hk
      rw [if_pos rfl, if_pos rfl, map_id_notin hn.1]
    · rw [if_neg hk, if_neg hk]
      rw [List.map_cons, List.mem_cons] at h
      rcases h with h | h
      · exact absurd h.symm hk
      · rw [map_in hn.2 h]
theorem putK_eq {κ : Type} [DecidableEq κ] {k : κ} {v : V} {ws : List (κ × V)} (hn : (ws.map (·.1)).Nodup) : putK ws k v = putR ws k v := by
  unfold putK
  by_cases hm : k ∈ ws.map (·.1)
  · rw [if_pos (by
      obtain ⟨kv, h1, h2⟩ := List.mem_map.mp hm
      exact List.any_eq_true.mpr ⟨kv, h1, decide_eq_true h2⟩)]
    exact map_in hn hm
  · rw [if_neg (by
      intro z
      obtain ⟨kv, h1, h2⟩ := List.any_eq_true.mp z
      exact hm (List.mem_map.mpr ⟨kv, h1, of_decide_eq_true h2⟩)), putR_notin hm]
theorem putR_kd {κ : Type} [DecidableEq κ] {F : Hp} {k : κ} {v : V} (hv : Dp K F v d) {ws : List (κ × V)} {kvs : List (κ × D)} (h : KD K F ws kvs) : KD K F (putR ws k v) (kdPut kvs k d) := by
  induction h with
  | nil => exact .cons hv .nil
  | @cons k' v' d' _ _ h1 h2 ih =>
    unfold putR kdPut
    by_cases hk : k' = k
    · rw [if_pos hk, if_pos hk]
      exact .cons hv h2
    · rw [if_neg hk, if_neg hk]
      exact .cons h1 ih
theorem putR_keys {κ : Type} [DecidableEq κ] {k x : κ} {v : V} : ∀ {ws : List (κ × V)}, x ∈ (putR ws k v).map (·.1) → x = k ∨ x ∈ ws.map (·.1)
  | [], h => by
    rcases List.mem_cons.mp h with h | h
    · exact .inl h
    · cases h
  | (k', v') :: r, h => by
    unfold putR at h
    by_cases hk : k' = k
    · rw [if_pos hk] at h
      exact .inr h
    · rw [if_neg hk] at h
      rcases List.mem_cons.mp h with h | h
      · exact .inr (by rw [h]; exact List.mem_cons_self)
      · rcases putR_keys h with h | h
        · exact .inl h
        · exact .inr (List.mem_cons_of_mem _ h)
theorem putR_nodup {κ : Type} [DecidableEq κ] {k : κ} {v : V} : ∀ {ws : List (κ × V)}, (ws.map (·.1)).Nodup → ((putR ws k v).map (·.1)).Nodup
  | [], _ => by
    show [k].Nodup
    exact List.nodup_cons.mpr ⟨(fun z => nomatch z), List.nodup_nil⟩
  | (k', v') :: r, hn => by
    have hn' := hn
    rw [List.map_cons, List.nodup_cons] at hn'
    unfold putR
    by_cases hk : k' = k
    · rw [if_pos hk]
      exact hn
    · rw [if_neg hk, List.map_cons, List.nodup_cons]
      refine ⟨fun z => ?_, putR_nodup hn'.2⟩
      rcases putR_keys z with z | z
      · exact hk z
      · exact hn'.1 z
/-- d[k] -/
theorem ev_dget {td ty : TE} {kvs kvs' : List (Key × D)} {k : Key} (hd : EvJ K td δ (.al i) δ1) (hk : EvJ K ty δ1 (.fr (keyD k)) δ2) (hi : δ2[i]? = some (.ob b (.K kvs))) (hg : kdGet kvs k = some d) : EvJ K (tDGet td ty) δ (.fr d) δ2 :=
  ⟨hd.1.trans hk.1, fun E F H σ Q e q => hd.2 E F H σ _ e fun v F1 H1 e1 g1 h1 _ => hk.2 E F1 H1 σ _ e1 fun u F2 H2 e2 g2 h2 _ => by
    obtain ⟨p, ho1, rfl, w1, w2, w3, ws, rfl, hn, w4⟩ := (h1.keep g2 hk.1).al_ref e2 hi
    have hu := keyD_v h2
    subst hu
    obtain ⟨w, x1, x2⟩ := kd_get w4 hg
    exact ⟨p, w, rfl, by rw [← x1]; exact DGet.k w3, q w F2 H2 e2 (g1.trans g2) x2 trivial⟩⟩
/-- d[k] = e -/
theorem st_dput {td ty tv : TE} {kvs : List (Key × D)} {k : Key} (he : EvJ K tv δ (.fr d) δ1) (hd : EvJ K td δ1 (.al i) δ2) (hk : EvJ K ty δ2 (.fr (keyD k)) δ3) (hi : δ3[i]? = some (.ob b (.K kvs))) (hz : kvs.length < sizeLine) : StJ K (sDPut td ty tv) δ (.nx (δ3.set i (.ob b (.K (kdPut kvs k d))))) := fun E F H σ D e s =>
  he.2 E F H σ _ e fun v F1 H1 e1 g1 h1 _ => hd.2 E F1 H1 σ _ e1 fun x F2 H2 e2 g2 h2 _ => hk.2 E F2 H2 σ _ e2 fun y F3 H3 e3 g3 h3 _ => by
    have h2' := h2.keep g3 hk.1
    have h1' := (RepR.keep (r := .fr d) g2 hd.1 h1).keep (r := .fr d) g3 hk.1
    have hu := keyD_v h3
    subst hu
    obtain ⟨p, ho1, rfl, w1, w2, w3, ws, rfl, hn, w4⟩ := h2'.al_ref e3 hi
    have hr : RepO K F3 (.K (kdPut kvs k d)) (.dK (putK ws k v)) := by
      rw [putK_eq hn]
      exact ⟨_, rfl, putR_nodup hn, putR_kd h1' w4⟩
    exact ⟨p, _, rfl, DPut.k w3 (by rw [w4.len]; exact hz), s σ F3 _ (e3.mut hi w1 hr) (((g1.trans g2).trans g3).trans (Grow.mut e3 hi w1))⟩
/-- {'a': e, ..} -/
inductive PairsJ (K : PySem.W.Frag) : List (TE × TE) → List Sl → List (Key × D) → List Sl → Prop
  | nil {δ : List Sl} : PairsJ K [] δ [] δ
  | cons {tk tv : TE} {trs : List (TE × TE)} {δ δ1 δ2 δ3 : List Sl} {k : Key} {d : D} {kvs : List (Key × D)} : EvJ K tk δ (.fr (keyD k)) δ1 → EvJ K tv δ1 (.fr d) δ2 → PairsJ K trs δ2 kvs δ3 → PairsJ K ((tk, tv) :: trs) δ ((k, d) :: kvs) δ3
theorem PairsJ.same {trs : List (TE × TE)} {kvs : List (Key × D)} (h : PairsJ K trs δ kvs δ1) : SameK δ δ1 := by
  induction h with
  | nil => exact SameK.refl _
  | cons h1 h2 _ ih => exact (h1.1.trans h2.1).trans ih
theorem PairsJ.run {trs : List (TE × TE)} {kvs : List (Key × D)} (h : PairsJ K trs δ kvs δ1) : ∀ {E F H : Hp} {σ : List (Option V)} {Q : List (V × V) → Hp → Prop}, EnvOk K E F H δ σ →
    (∀ ws F2 H2, EnvOk K E F2 H2 δ1 σ → Grow F H δ σ F2 H2 δ1 σ → KD K F2 ws kvs → Q (ws.map fun kv => (kV kv.1, kv.2)) H2) → tPairs trs σ H Q := by
  induction h with
  | nil =>
    intro E F H σ Q e q
    exact q [] F H e Grow.refl .nil
  | @cons tk tv trs δ δ1 δ2 δ3 k d kvs h1 h2 h3 ih =>
    intro E F H σ Q e q
    refine h1.2 E F H σ _ e fun x F1 H1 e1 g1 r1 _ => h2.2 E F1 H1 σ _ e1 fun y F2 H2 e2 g2 r2 _ => ih e2 fun ws F3 H3 e3 g3 r3 => ?_
    have hx := keyD_v r1
    subst hx
    exact q ((k, y) :: ws) F3 H3 e3 ((g1.trans g2).trans g3) (.cons (dp_mono g3.f r2) r3)
theorem mergeK_nil : ∀ {more kvs : List (Key × V)}, ((kvs ++ more).map (·.1)).Nodup → mergeK kvs more = kvs ++ more
  | [], kvs, _ => by
    rw [List.append_nil]
    rfl
  | p :: more, kvs, hn => by
    have h1 : p.1 ∉ kvs.map (·.1) := fun z => by
      rw [List.map_append, List.nodup_append] at hn
      exact hn.2.2 _ z _ List.mem_cons_self rfl
    have h2 : (kvs.map (·.1)).Nodup := by
      rw [List.map_append, List.nodup_append] at hn
      exact hn.1
    show mergeK (putK kvs p.1 p.2) more = _
    rw [putK_eq h2, putR_notin h1, mergeK_nil]
    · rw [List.append_assoc]
      rfl
    · rw [List.append_assoc]
      exact hn
theorem ev_disp {trs : List (TE × TE)} {kvs : List (Key × D)} (h : PairsJ K trs δ kvs δ1) (hn : (kvs.map (·.1)).Nodup := by decide) (hz : kvs.length ≤ 15 := by decide) : EvJ K (tDisp trs) δ (.new (.K kvs)) δ1 := ⟨h.same, fun E F H σ Q e q => by
  intro p hp
  have al := Alloc.own (o := .dK []) e.ex hp
  have nh : ¬ Hot δ σ p := fun z => by
    obtain ⟨_, ho, w⟩ := e.hotF z
    rw [hp] at w
    cases w
  refine h.run (al.env e) fun ws F2 H2 e2 g2 hk => ?_
  have hH : H2 p = some (.dK []) := g2.h p _ upd_same nh
  have nh2 : ¬ Hot δ1 σ p := fun z => by
    rcases g2.n p z with w | w
    · exact nh w
    · rw [upd_same] at w
      cases w
  have hF2 : F2 p = none := by
    rw [g2.k p (by rw [upd_same]; exact (fun z => nomatch z)) nh]
    exact nn_ex e.ex hp
  have hnd : (ws.map (·.1)).Nodup := by
    rw [hk.keys]
    exact hn
  have hm : mergeK [] ws = ws := mergeK_nil (kvs := []) (by exact hnd)
  refine ⟨hH, ws, rfl, by rw [hk.len]; exact hz, ?_⟩
  rw [hm]
  refine q _ F2 _ (e2.poke hF2 nh2 (by rw [hH]; exact (fun z => nomatch z))) ?_ ⟨p, _, rfl, hF2, upd_same, ⟨ws, rfl, hnd, hk⟩, nh2⟩ (fun q' e0 => by cases e0; exact hp)
  exact (al.grow.trans g2).poke hp⟩
/-- slices -/
def EvO (K : PySem.W.Frag) (to : TO) (δ : List Sl) (o : Option Int) (δ' : List Sl) : Prop :=
  SameK δ δ' ∧ ∀ (E F H : Hp) (σ : List (Option V)) (Q : Option Int → Hp → Prop), EnvOk K E F H δ σ →
    (∀ F2 H2, EnvOk K E F2 H2 δ' σ → Grow F H δ σ F2 H2 δ' σ → Q o H2) → to σ H Q
theorem eo_none : EvO K tNoPart δ none δ := ⟨SameK.refl δ, fun E F H σ Q e q => q F H e Grow.refl⟩
theorem eo_some {k : Int} (h : EvJ K te δ (.fr (.int k)) δ1) : EvO K (tPart te) δ (some k) δ1 := ⟨h.1, fun E F H σ Q e q => h.2 E F H σ _ e fun v F1 H1 e1 g1 h1 _ => by
  cases h1
  exact ⟨k, rfl, q F1 H1 e1 g1⟩⟩
def SlD (K : PySem.W.Frag) (f : V → Option Int → Option Int → Hp → VK → Prop) (r : R) (lo hi : Option Int) (δ : List Sl) (r' : R) : Prop :=
  ∀ (E F H : Hp) (σ : List (Option V)) (x : V) (Q : VK), EnvOk K E F H δ σ → RepR K F H δ σ r x → (∀ w F2 H2, Alloc F H F2 H2 → RepR K F2 H2 δ σ r' w → Fresh H r' w → Q w H2) → f x lo hi H Q
theorem ev_slice {f : V → Option Int → Option Int → Hp → VK → Prop} {tl th : TO} {lo hi : Option Int} {r r' : R} (h : EvJ K te δ r δ1) (hl : EvO K tl δ1 lo δ2) (hh : EvO K th δ2 hi δ3) (hs : SlD K f r lo hi δ3 r') : EvJ K (tSl f te tl th) δ r' δ3 :=
  ⟨(h.1.trans hl.1).trans hh.1, fun E F H σ Q e q => h.2 E F H σ _ e fun x F1 H1 e1 g1 h1 _ => hl.2 E F1 H1 σ _ e1 fun F2 H2 e2 g2 => hh.2 E F2 H2 σ _ e2 fun F3 H3 e3 g3 =>
    hs E F3 H3 σ x Q e3 ((h1.keep g2 hl.1).keep g3 hh.1) fun w F4 H4 al rw_ fw => q w F4 H4 (al.env e3) (((g1.trans g2).trans g3).trans al.grow) rw_ (fw.back ((g1.trans g2).trans g3).dm)⟩
theorem cut_dpa {F : Hp} {vs : List V} {ds : List D} {lo hi : Option Int} (h : DpAll K F vs ds) : DpAll K F (cutV vs lo hi) ((ds.drop (HT.sIx ds.length 0 lo)).take (HT.sIx ds.length ds.length hi - HT.sIx ds.length 0 lo)) := by
  unfold cutV
  rw [h.length]
  exact (h.drop _).take _
/-- the cut of data -/
def cutD (ds : List D) (lo hi : Option Int) : List D := (ds.drop (HT.sIx ds.length 0 lo)).take (HT.sIx ds.length ds.length hi - HT.sIx ds.length 0 lo)
theorem sl_T {lo hi : Option Int} : SlD K (rSliceU K) (.fr (.tuple ds)) lo hi δ (.fr (.tuple (cutD ds lo hi))) := fun E F H σ x Q e h1 q => by
  cases h1 with
  | @tup a xs _ hs ha =>
    refine .inr (.inl ⟨a, xs, rfl, ex_t e.ex hs, fun hw => ?_, fun _ p hp => ?_⟩)
    · rw [ha.length] at hw
      have e0 : cutD ds lo hi = ds := by
        unfold cutD
        rw [hw.1, hw.2, List.drop_zero, Nat.sub_zero, List.take_length]
      rw [e0] at q
      exact q _ F H (Alloc.refl e.ex) (.tup hs ha) trivial
    · have al := Alloc.new (o := .tup (cutV xs lo hi)) e.ex hp
      exact q _ _ _ al (.tup (.inl (.inl upd_same)) (dpa_mono al.f (cut_dpa ha))) trivial
theorem sl_L {r : R} {lo hi : Option Int} (h : rS δ r = some (false, ds)) : SlD K (rSliceU K) r lo hi δ (.new (.L (cutD ds lo hi))) := fun E F H σ x Q e h1 q => by
  obtain ⟨p, vs, rfl, hl, _, ha⟩ := rS_ok e h1 h
  refine .inl ⟨p, vs, rfl, hl rfl, fun l hp => ?_⟩
  obtain ⟨n1, n2⟩ := new_list e (cut_dpa (lo := lo) (hi := hi) ha) hp
  exact q _ F _ (Alloc.own e.ex hp) n1 n2
/-- is None -/
theorem od_isN : OpD K (fun x y H Q => y = .non ∧ Q (.bl (decide (x = .non))) H) (.fr d) (.fr .none) δ (.fr (.bool (decide (tyD d = "NoneType")))) := fun E F H σ x y Q e h1 h2 q => by
  cases h2
  have e0 : decide (x = V.non) = decide (tyD d = "NoneType") := by
    cases h1 with
    | non => rfl
    | bl _ => exact decide_eq_decide.mpr ⟨(fun z => nomatch z), fun z => by simp [tyD] at z⟩
    | int _ => exact decide_eq_decide.mpr ⟨(fun z => nomatch z), fun z => by simp [tyD] at z⟩
    | str _ => exact decide_eq_decide.mpr ⟨(fun z => nomatch z), fun z => by simp [tyD] at z⟩
    | lst _ _ => exact decide_eq_decide.mpr ⟨(fun z => nomatch z), fun z => by simp [tyD] at z⟩
    | tup _ _ => exact decide_eq_decide.mpr ⟨(fun z => nomatch z), fun z => by simp [tyD] at z⟩
  refine ⟨rfl, ?_⟩
  rw [e0]
  exact q _ F H (Alloc.refl e.ex) (.bl _) trivial
theorem od_notN : OpD K (fun x y H Q => y = .non ∧ Q (.bl (!decide (x = .non))) H) (.fr d) (.fr .none) δ (.fr (.bool (!decide (tyD d = "NoneType")))) := fun E F H σ x y Q e h1 h2 q => by
  cases h2
  have e0 : decide (x = V.non) = decide (tyD d = "NoneType") := by
    cases h1 with
    | non => rfl
    | bl _ => exact decide_eq_decide.mpr ⟨(fun z => nomatch z), fun z => by simp [tyD] at z⟩
    | int _ => exact decide_eq_decide.mpr ⟨(fun z => nomatch z), fun z => by simp [tyD] at z⟩
    | str _ => exact decide_eq_decide.mpr ⟨(fun z => nomatch z), fun z => by simp [tyD] at z⟩
    | lst _ _ => exact decide_eq_decide.mpr ⟨(fun z => nomatch z), fun z => by simp [tyD] at z⟩
    | tup _ _ => exact decide_eq_decide.mpr ⟨(fun z => nomatch z), fun z => by simp [tyD] at z⟩
  refine ⟨rfl, ?_⟩
  rw [e0]
  exact q _ F H (Alloc.refl e.ex) (.bl _) trivial
end
end DL
/-! Bools subtracted; lists unpacked; defs by their names; rows of facts. -/
namespace DL
open PySem PySem.Spec PyProof.Rows L2
theorem gives_sub_bb (a b : Bool) : Gives (Builtin.«int.__sub__» ⟨[.bool a, .bool b], []⟩) (.int ((if a = true then (1 : Int) else 0) - if b = true then (1 : Int) else 0)) :=
  .of_wp fun M A E s Q h => by obtain ⟨hp, g, d, tk, os⟩ := s; wp_walk; exact ⟨_, rfl, h⟩
theorem sub_bool_bool {prog : Program} {w : World} {A : Around} {E : Value → Shared → Prop} {s : Shared} {a b : Bool} {Q : Value → Shared → Prop} (h : Q (.int ((if a = true then (1 : Int) else 0) - if b = true then (1 : Int) else 0) s.toks) { s with toks := s.toks + 1 }) : wpAny (model prog w) A (binaryOp .Sub (.bool a) (.bool b)) Q E s :=
  binaryOp_gives (op := .Sub) (T := "bool") rfl rfl F.fills_bool_sub F.slot_bool_sub F.entry_int_sub (F.args_int_sub_2 _ _) (gives_sub_bb a b) trivial h
section
variable {X : Cx}
def rSubBB : R2 := fun x y H Q => ∃ a b : Bool, x = .bl a ∧ y = .bl b ∧ Q (.int ((if a = true then (1 : Int) else 0) - if b = true then (1 : Int) else 0)) H
theorem op_subBB : OpR X (binaryOp .Sub) rSubBB := by
  intro pins s σ H x y v u Q I rx ry h
  obtain ⟨a, b, rfl, rfl, q⟩ := h
  cases rx
  cases ry
  exact sub_bool_bool ⟨.int _, H, I.tok _, ⟨_, rfl⟩, q⟩
def rSubU : R2 := fun x y H Q => rI0 (fun i j => .int (i - j)) x y H Q ∨ rSubBB x y H Q
theorem op_subU : OpR X (binaryOp .Sub) rSubU := OpR.or op_sub op_subBB
end
section
variable {K : PySem.W.Frag} {δ δ1 : List Sl} {ds : List D}
theorem od_subI {i j : Int} : OpD K rSubU (.fr (.int i)) (.fr (.int j)) δ (.fr (.int (i - j))) := od_orL (od_I0 (g := fun i j => i - j))
theorem od_subB {a b : Bool} : OpD K rSubU (.fr (.bool a)) (.fr (.bool b)) δ (.fr (.int ((if a = true then (1 : Int) else 0) - if b = true then (1 : Int) else 0))) := fun E F H σ x y Q e h1 h2 q => by
  cases h1
  cases h2
  exact .inr ⟨a, b, rfl, rfl, q _ F H (Alloc.refl e.ex) (.int _) trivial⟩
/-- a, b = xs (a list, a tuple) -/
theorem st_unL {te : TE} {gs : TGs} {n : Nat} {r : R} {δ2 : List Sl} (h : EvJ K te δ r δ1) (hr : rS δ1 r = some (false, ds)) (hb : BindsJ K gs ds δ1 δ2) (hn : ds.length = n := by rfl) : StJ K (tAsg te (gLst K n gs)) δ (.nx δ2) := fun E F H σ D e s =>
  h.2 E F H σ _ e fun v F1 H1 e1 g1 h1 _ => by
    obtain ⟨p, vs, rfl, hl, _, ha⟩ := rS_ok e1 h1 hr
    exact ⟨p, vs, rfl, hl rfl, ha.length.trans hn, hb E F1 H1 σ vs _ e1 ha fun σ' e' g' => s σ' F1 H1 e' (g1.trans g')⟩
theorem st_unT {te : TE} {gs : TGs} {n : Nat} {δ2 : List Sl} (h : EvJ K te δ (.fr (.tuple ds)) δ1) (hb : BindsJ K gs ds δ1 δ2) (hn : ds.length = n := by rfl) : StJ K (tAsg te (gTup K n gs)) δ (.nx δ2) := fun E F H σ D e s =>
  h.2 E F H σ _ e fun v F1 H1 e1 g1 h1 _ => by
    cases h1 with
    | @tup p vs _ hs ha => exact ⟨p, vs, rfl, ex_t e1.ex hs, ha.length.trans hn, hb E F1 H1 σ vs _ e1 ha fun σ' e' g' => s σ' F1 H1 e' (g1.trans g')⟩
end
/-- a def of the text, under its name -/
structure DefAt (K : PySem.W.Frag) (mg : Str → Option Value) (x : Str) (st : Stmt) (ps : List Str) : Prop where
  ex : ∃ (f : Addr) (fd : FuncData), Fun K x x st f fd ∧ mg x = some (.ref f) ∧ PySem.W.keepIn K (.ref f) = true ∧ Binds K fd ps []
theorem cal_of {P : Program} {w : World} {K : PySem.W.Frag} {mg : Str → Option Value} {base : Heap} {x : Str} {st : Stmt} {ps N : List Str} {k m : Nat} {C : Con}
    (Df : DefAt K mg x st ps) (S : FnScope N ps (defScope st)) (hl : ∀ args r args', C args r args' → args.length = ps.length) (hm : m = N.length - ps.length)
    (hbody : ∀ (f : Addr) (cdv : Value) (A : Around) (outer : List Env) (s : Shared) (H : Hp) (E : XK), Room k (A.deeper (envOfC x (defScope st) s.heap.objs.size f cdv)) →
      ∃ t, PSs (cxOf CX0 P w K mg base N x (defScope st) f cdv A outer s H E).nox (defBody st) t ∧ BodyOk K t m C) : C8.Cal P w K mg base (k + 1) x (spD K C) [] := by
  obtain ⟨f, fd, F, h1, h2, h3⟩ := Df.ex
  exact ⟨f, fd, ps, [], fnD F S hl hm (hbody f), h1, h2, h3, .nil⟩
theorem def_mk {K : PySem.W.Frag} {mg : Str → Option Value} {h : Heap} {x : Str} {st : Stmt} {ps : List Str} {f : Addr} {oc : Value} {od an : Option Addr} {osl : Array (Option Value)} {kV doc pm cdv ct : Value} (X : K.In h) (G : h.Ns mainGlobals mg)
    (a : PySem.W.nsIn K mainGlobals x = some (some (.ref f))) (l : K.lookup f = some ⟨oc, od, .func (PySem.W.fnOf x x (defArgs st) (defBody st) (defScope st) .none kV doc pm an cdv ct), osl⟩)
    (c : PySem.W.codeIn K cdv x = true) (k : PySem.W.keepIn K (.ref f) = true)
    (b : ∀ (kV doc pm : Value) (an : Option Addr) (cdv ct : Value) (us : List Value), us.length = ps.length → bindArgs (PySem.W.fnOf x x (defArgs st) (defBody st) (defScope st) .none kV doc pm an cdv ct) ⟨us, []⟩ = pure (ps.zip us)) : DefAt K mg x st ps := by
  have F := fun_mk (st := st) l c k
  exact ⟨f, _, F, PySem.W.mg_of X G a, k, F.binds b⟩
end DL
/-! Promises in plain words: data in, data out; the law's own state of draws. -/
namespace DL
open PySem PySem.Spec PyProof.Rows L2

/-- data in, data out -/
def CP (f : List D → D → Prop) : Con := fun args r args' => ∃ ds d, f ds d ∧ args = ds.map .fr ∧ r = .fr d ∧ args' = args
theorem afterA_fr : ∀ {ds : List D} {xs : List Sl}, ds.length ≤ xs.length → afterA (ds.map Sl.fr) xs = ds.map Sl.fr
  | [], _, _ => rfl
  | d :: ds, x :: xs, h => by
    show Sl.fr d :: afterA (ds.map Sl.fr) xs = _
    rw [afterA_fr (by simpa using h)]
    rfl
  | d :: ds, [], h => by simp at h
theorem fr_noob {ds : List D} (i : Nat) (b : Bool) (o : O) : (ds.map Sl.fr)[i]? ≠ some (.ob b o) := fun h => by
  rw [List.getElem?_map] at h
  cases q : ds[i]? with
  | none => rw [q] at h; cases h
  | some d => rw [q] at h; cases h
theorem body_pure {K : PySem.W.Frag} {t : TS} {m : Nat} {f : List D → D → Prop} (h : ∀ ds d, f ds d → ∃ δ', StJ K t (ds.map .fr ++ List.replicate m .no) (.rt (.fr d) δ') ∧ ds.length ≤ δ'.length) : BodyOk K t m (CP f) := fun args r args' ⟨ds, d, hf, e1, e2, e3⟩ => by
  subst e1
  subst e2
  subst e3
  obtain ⟨δ', h1, h2⟩ := h ds d hf
  exact ⟨fun i o => fr_noob i true o, δ', .inl h1, by rw [List.length_map]; exact h2, (afterA_fr h2).symm⟩
theorem toArgs_fr {δ : List Sl} : ∀ {rs : List R} {ds : List D}, frs? rs = some ds → toArgs δ rs = some (ds.map .fr) ∧ alsOf rs = [] ∧ ∀ as, backA δ rs as = δ
  | [], ds, h => by
    cases h
    exact ⟨rfl, rfl, fun as => by unfold backA; rfl⟩
  | .fr d :: rs, ds, h => by
    cases q : frs? rs with
    | none => simp [frs?, q] at h
    | some ds' =>
      simp only [frs?, q, Option.map_some, Option.some.injEq] at h
      subst h
      obtain ⟨h1, h2, h3⟩ := toArgs_fr (δ := δ) q
      refine ⟨?_, h2, fun as => ?_⟩
      · show (toArgs δ rs).map (Sl.fr d :: ·) = _
        rw [h1]
        rfl
      · cases as with
        | nil =>
          unfold backA
          first | rfl | (split <;> first | rfl | (rename_i h; cases h))
        | cons a as =>
          unfold backA
          exact h3 as
  | .new o :: rs, ds, h => by cases h
  | .al i :: rs, ds, h => by cases h
theorem ev_callP {K : PySem.W.Frag} {δ δ1 : List Sl} {ta : TA} {rs : List R} {ds : List D} {d : D} {f : List D → D → Prop} {E0' : XK} (ha : EvA K ta δ rs δ1) (hd : frs? rs = some ds) (hf : f ds d) : EvJ K (tCall (spD K (CP f)) [] E0' ta) δ (.fr d) δ1 := by
  obtain ⟨h1, h2, h3⟩ := toArgs_fr (δ := δ1) hd
  exact ev_call ha h1 ⟨ds, d, hf, rfl, rfl, rfl⟩ (h3 _) (by rw [h2]; exact List.nodup_nil) rfl

/-! ### the state of the draws -/
structure DS where
  cells : List Int
  at_ : Int
  left : Int
  mix : Int
def DS.ok (s : DS) : Prop := (∀ c ∈ s.cells, 0 ≤ c) ∧ s.cells.length ≤ 1000 ∧ 0 ≤ s.at_ ∧ 0 ≤ s.left ∧ 0 ≤ s.mix ∧ s.mix < 2147483647
def kCells : Key := .inr "cells"
def kAt : Key := .inr "at"
def kLeft : Key := .inr "left"
def kMix : Key := .inr "mix"
def stO (s : DS) : O := .K [(kCells, .list (s.cells.map .int)), (kAt, .int s.at_), (kLeft, .int s.left), (kMix, .int s.mix)]
def drawTail (s : DS) (b : Int) : Int × DS :=
  if 0 < s.left then (s.left % b, { s with left := s.left.fdiv b })
  else ((((s.mix * 48271 + 11) % 2147483647 * 69621 + 5) % 2147483629) % b, { s with mix := (s.mix * 48271 + 11) % 2147483647 })
def draw (s : DS) (b : Int) : Int × DS :=
  if s.left = 0 ∧ s.at_ < s.cells.length then
    if s.cells.getD s.at_.toNat 0 < 10 ^ 18 then (s.cells.getD s.at_.toNat 0 % b, { s with at_ := s.at_ + 1, mix := (s.mix * 48271 + s.cells.getD s.at_.toNat 0 + 11) % 2147483647 })
    else drawTail { s with at_ := s.at_ + 1, mix := (s.mix * 48271 + s.cells.getD s.at_.toNat 0 + 11) % 2147483647, left := s.cells.getD s.at_.toNat 0 } b
  else drawTail s b
theorem getD_nonneg {xs : List Int} (h : ∀ c ∈ xs, 0 ≤ c) (i : Nat) : 0 ≤ xs.getD i 0 := by
  rw [List.getD_eq_getElem?_getD]
  cases q : xs[i]? with
  | none => exact Int.le_refl 0
  | some x => exact h x (List.mem_of_getElem? q)
theorem fdiv_nonneg' {a b : Int} (ha : 0 ≤ a) (hb : 0 < b) : 0 ≤ a.fdiv b := by
  rw [Int.fdiv_eq_ediv_of_nonneg a (by omega)]
  exact Int.ediv_nonneg ha (by omega)
theorem drawTail_ok {s : DS} {b : Int} (h : s.ok) (hb : 0 < b) : (drawTail s b).2.ok ∧ 0 ≤ (drawTail s b).1 ∧ (drawTail s b).1 < b := by
  obtain ⟨h1, h2, h3, h4, h5, h6⟩ := h
  unfold drawTail
  split
  · exact ⟨⟨h1, h2, h3, fdiv_nonneg' h4 hb, h5, h6⟩, Int.emod_nonneg _ (by omega), Int.emod_lt_of_pos _ hb⟩
  · exact ⟨⟨h1, h2, h3, h4, Int.emod_nonneg _ (by decide), Int.emod_lt_of_pos _ (by decide)⟩, Int.emod_nonneg _ (by omega), Int.emod_lt_of_pos _ hb⟩
theorem draw_ok {s : DS} {b : Int} (h : s.ok) (hb : 0 < b) : (draw s b).2.ok ∧ 0 ≤ (draw s b).1 ∧ (draw s b).1 < b := by
  have hh := h
  obtain ⟨h1, h2, h3, h4, h5, h6⟩ := h
  have hc := getD_nonneg h1 s.at_.toNat
  unfold draw
  split
  · split
    · exact ⟨⟨h1, h2, by show 0 ≤ s.at_ + 1; omega, h4, Int.emod_nonneg _ (by decide), Int.emod_lt_of_pos _ (by decide)⟩, Int.emod_nonneg _ (by omega), Int.emod_lt_of_pos _ hb⟩
    · exact drawTail_ok ⟨h1, h2, by show 0 ≤ s.at_ + 1; omega, hc, Int.emod_nonneg _ (by decide), Int.emod_lt_of_pos _ (by decide)⟩ hb
  · exact drawTail_ok hh hb
/-- the state and data in, data out, the state changed -/
def CS (f : DS → List D → D → DS → Prop) : Con := fun args r args' => ∃ s ds d s', f s ds d s' ∧ args = .ob false (stO s) :: ds.map .fr ∧ r = .fr d ∧ args' = .ob false (stO s') :: ds.map .fr
theorem body_state {K : PySem.W.Frag} {t : TS} {m : Nat} {f : DS → List D → D → DS → Prop} (h : ∀ s ds d s', f s ds d s' → ∃ δ', StJ K t (.ob false (stO s) :: (ds.map .fr ++ List.replicate m .no)) (.rt (.fr d) (.ob false (stO s') :: δ')) ∧ ds.length ≤ δ'.length) : BodyOk K t m (CS f) := fun args r args' ⟨s, ds, d, s', hf, e1, e2, e3⟩ => by
  subst e1
  subst e2
  subst e3
  obtain ⟨δ', h1, h2⟩ := h s ds d s' hf
  refine ⟨fun i o hi => ?_, .ob false (stO s') :: δ', .inl h1, ?_, ?_⟩
  · cases i with
    | zero => cases hi
    | succ i => exact fr_noob i true o hi
  · rw [List.length_cons, List.length_map, List.length_cons]
    omega
  · show _ = Sl.ob false (stO s') :: afterA (ds.map Sl.fr) δ'
    rw [afterA_fr h2]
theorem ev_callS {K : PySem.W.Frag} {δ δ1 δ2 : List Sl} {ta : TA} {i : Nat} {b : Bool} {s s' : DS} {rs : List R} {ds : List D} {d : D} {f : DS → List D → D → DS → Prop} {E0' : XK} (ha : EvA K ta δ (.al i :: rs) δ1) (hi : δ1[i]? = some (.ob b (stO s))) (hd : frs? rs = some ds) (hf : f s ds d s') (he : δ1.set i (.ob b (stO s')) = δ2) :
    EvJ K (tCall (spD K (CS f)) [] E0' ta) δ (.fr d) δ2 := by
  subst he
  obtain ⟨h1, h2, h3⟩ := toArgs_fr (δ := δ1) hd
  refine ev_call ha (args := .ob false (stO s) :: ds.map .fr) ?_ ⟨s, ds, d, s', hf, rfl, rfl, rfl⟩ ?_ ?_ rfl
  · unfold toArgs
    rw [hi]
    show (toArgs δ1 rs).map _ = _
    rw [h1]
    rfl
  · unfold backA
    rw [(toArgs_fr (δ := setO δ1 i (stO s')) hd).2.2]
    unfold setO
    rw [hi]
  · show (i :: alsOf rs).Nodup
    rw [h2]
    exact List.nodup_cons.mpr ⟨(fun z => nomatch z), List.nodup_nil⟩
end DL
/-! The rules in the form in which a tactic applies them. -/
namespace DL
open PySem PySem.Spec PyProof.Rows L2
section
variable {K : PySem.W.Frag} {δ δ1 δ2 δ3 : List Sl} {ta tb tc te to ti td ty tv : TE} {t u : TS} {tt tu : TT} {out : Out} {r r1 r2 r' : R} {d d1 d2 : D} {ds : List D} {i : Nat} {o : O} {b : Bool}
theorem q_set (h : EvJ K te δ (.fr d) δ1) (hp : NoPar δ1 i) (k : StJ K u (δ1.set i (.fr d)) out) : StJ K (tSeq (tAsg te (gName i)) u) δ out := st_seq (st_set h hp) k
theorem q_setN (h : EvJ K te δ (.new o) δ1) (hl : i < δ1.length) (hp : NoPar δ1 i) (k : StJ K u (δ1.set i (.ob true o)) out) : StJ K (tSeq (tAsg te (gName i)) u) δ out := st_seq (st_setN h hl hp) k
theorem q_set1 (h : EvJ K te δ (.fr d) δ1) (hp : NoPar δ1 i) : StJ K (tAsg te (gName i)) δ (.nx (δ1.set i (.fr d))) := st_set h hp
theorem q_ret (h : EvJ K te δ r δ1) (hr : retR δ1 r = some r') : StJ K (tRet te) δ (.rt r' δ1) := st_ret h hr
theorem q_retq (h : EvJ K te δ r δ1) (hr : retR δ1 r = some r') : StJ K (tSeq (tRet te) u) δ (.rt r' δ1) := st_stop_rt (st_ret h hr)
theorem q_drop (h : EvJ K te δ r δ1) (k : StJ K u δ1 out) : StJ K (tSeq (tDrop te) u) δ out := st_seq (st_drop h) k
theorem q_for {wi : TI} {g : TG} (hs : SrcJ K wi δ ds δ1) (hf : ForRel K g t ds δ1 (.nx δ2)) (k : StJ K u δ2 out) : StJ K (tSeq (tFor wi g t) u) δ out := st_seq (st_for hs hf) k
theorem q_dput {kvs : List (Key × D)} {k : Key} (he : EvJ K tv δ (.fr d) δ1) (hd : EvJ K td δ1 (.al i) δ2) (hk : EvJ K ty δ2 (.fr (keyD k)) δ3) (hi : δ3[i]? = some (.ob b (.K kvs))) (hz : kvs.length < sizeLine) (k' : StJ K u (δ3.set i (.ob b (.K (kdPut kvs k d)))) out) : StJ K (tSeq (sDPut td ty tv) u) δ out := st_seq (st_dput he hd hk hi hz) k'
theorem ev_tup' {t : TA} {rs : List R} (h : EvA K t δ rs δ1) (hd : frs? rs = some ds) (hz : ds.length ≤ sizeLine) : EvJ K (tTup t) δ (.fr (.tuple ds)) δ1 := ev_tup h hd hz
theorem ev_lst' {t : TA} {rs : List R} (h : EvA K t δ rs δ1) (hd : frs? rs = some ds) (hz : ds.length ≤ sizeLine) : EvJ K (tLst t) δ (.new (.L ds)) δ1 := ev_lst h hd hz
theorem ev_lstF {t : TA} {rs : List R} (h : EvA K t δ rs δ1) (hd : frs? rs = some ds) (hz : ds.length ≤ sizeLine) : EvJ K (tLst t) δ (.fr (.list ds)) δ1 := ev_frz (ev_lst h hd hz)
/-- tests that leave all as it is -/
theorem tt_andP {a b : Bool} (h1 : TtJ K tt δ a δ) (h2 : TtJ K tu δ b δ) : TtJ K (tAnd tt tu) δ (a && b) δ := tt_and h1 (fun _ => h2) (fun _ => rfl)
theorem tt_orP {a b : Bool} (h1 : TtJ K tt δ a δ) (h2 : TtJ K tu δ b δ) : TtJ K (tOr tt tu) δ (a || b) δ := tt_or h1 (fun _ => h2) (fun _ => rfl)
theorem ev_andP {a b : Bool} (h1 : EvJ K ta δ (.fr (.bool a)) δ) (h2 : EvJ K tb δ (.fr (.bool b)) δ) : EvJ K (tAndV ta tb) δ (.fr (.bool (a && b))) δ := by
  refine ev_andV h1 (fun h => ?_) (fun h => ⟨by rw [h]; rfl, rfl⟩)
  rw [h, Bool.true_and]
  exact h2
theorem ev_orP {a b : Bool} (h1 : EvJ K ta δ (.fr (.bool a)) δ) (h2 : EvJ K tb δ (.fr (.bool b)) δ) : EvJ K (tOrV ta tb) δ (.fr (.bool (a || b))) δ := by
  refine ev_orV h1 (fun h => ?_) (fun h => ⟨by rw [h]; rfl, rfl⟩)
  rw [h, Bool.false_or]
  exact h2
/-- and, the second looked at if the first holds -/
theorem tt_andC {a b : Bool} (h1 : TtJ K tt δ a δ) (h2 : a = true → TtJ K tu δ b δ) : TtJ K (tAnd tt tu) δ (a && b) δ := tt_and h1 h2 (fun _ => rfl)
theorem tt_orC {a b : Bool} (h1 : TtJ K tt δ a δ) (h2 : a = false → TtJ K tu δ b δ) : TtJ K (tOr tt tu) δ (a || b) δ := tt_or h1 h2 (fun _ => rfl)
/-- an if that leaves all as it is, by its two data -/
theorem ev_ifP {b : Bool} (hc : TtJ K tt δ b δ) (h1 : EvJ K ta δ (.fr d1) δ) (h2 : EvJ K tb δ (.fr d2) δ) : EvJ K (tIf tt ta tb) δ (.fr (if b then d1 else d2)) δ := by
  cases b with
  | true => exact ev_if hc (fun _ => h1) (fun h => nomatch h)
  | false => exact ev_if hc (fun h => nomatch h) (fun _ => h2)
theorem StJ.env {δ' : List Sl} (h : StJ K t δ out) (e : δ' = δ) : StJ K t δ' out := e ▸ h
/-- a call whose arguments are data, whatever it gives -/
theorem ev_callF {t : TA} {rs : List R} {C : Con} {E0' : XK} (ha : EvA K t δ rs δ1) (hd : frs? rs = some ds) (hC : C (ds.map .fr) r (ds.map .fr)) (hr : notAl r = true) : EvJ K (tCall (spD K C) [] E0' t) δ r δ1 := by
  obtain ⟨h1, h2, h3⟩ := toArgs_fr (δ := δ1) hd
  exact ev_call ha h1 hC (h3 _) (by rw [h2]; exact List.nodup_nil) hr
theorem ev_append' {ds0 : List D} (ho : EvJ K to δ (.al i) δ1) (h0 : δ1[i]? = some (.ob b (.L ds0))) (he : EvJ K te δ1 (.fr d) δ2) (hi : δ2[i]? = some (.ob b (.L ds))) (hz : ds.length < sizeLine) (e : δ2.set i (.ob b (.L (ds ++ [d]))) = δ3) : EvJ K (tBM K "list" rAppend to (tCons te tNil)) δ (.fr .none) δ3 := e ▸ ev_append ho h0 he hi hz
theorem ev_extend' {ds0 es : List D} (ho : EvJ K to δ (.al i) δ1) (h0 : δ1[i]? = some (.ob b (.L ds0))) (he : EvJ K te δ1 r δ2) (hr : isL δ2 r = some es) (hi : δ2[i]? = some (.ob b (.L ds))) (hz : ds.length + es.length ≤ sizeLine) (e : δ2.set i (.ob b (.L (ds ++ es))) = δ3) : EvJ K (tBM K "list" rExtend to (tCons te tNil)) δ (.fr .none) δ3 := e ▸ ev_extend ho h0 he hr hi hz
theorem q_set1' (h : EvJ K te δ (.fr d) δ1) (hp : NoPar δ1 i) (e : δ1.set i (.fr d) = δ2) : StJ K (tAsg te (gName i)) δ (.nx δ2) := e ▸ st_set h hp
theorem q_drop1 (h : EvJ K te δ r δ1) : StJ K (tDrop te) δ (.nx δ1) := st_drop h
/-- the loop whose state is told by a family -/
theorem ForRel.fold {S : Type} {g : TG} {tb : TS} (δs : S → List Sl) (f : S → D → S) : ∀ {ds : List D} {s : S}, (∀ s d, d ∈ ds → ∃ δb, BindJ K g d (δs s) δb ∧ StJ K tb δb (.nx (δs (f s d)))) → ForRel K g tb ds (δs s) (.nx (δs (ds.foldl f s)))
  | [], s, _ => .nil
  | d :: ds, s, h => by
    obtain ⟨δb, h1, h2⟩ := h s d List.mem_cons_self
    exact .go h1 h2 (ForRel.fold δs f fun s d hd => h s d (List.mem_cons_of_mem _ hd))
/-- a comprehension without tests that leaves all as it is -/
theorem LcRel.map {g : TG} {te : TE} {vs : List Nat} {δ : List Sl} (f : D → D) : ∀ {ds : List D}, (∀ d, d ∈ ds → ∃ δb, BindW K g d vs δ δb ∧ EvJ K te δb (.fr (f d)) δb ∧ NoParV δb vs ∧ wipeD δb vs = δ) → LcRel K g tYes te vs ds δ (ds.map f) δ
  | [], _ => .nil
  | d :: ds, h => by
    obtain ⟨δb, h1, h2, h3, h4⟩ := h d List.mem_cons_self
    refine .go h1 ⟨SameK.refl _, fun E F H σ Q e q => ?_⟩ h2 h3 ?_
    · exact q F H e Grow.refl
    · rw [h4]
      exact LcRel.map f fun d hd => h d (List.mem_cons_of_mem _ hd)
end
end DL
/-! The lengths of promises; the law's own first row. -/
namespace DL
open PySem PySem.Spec PyProof.Rows L2
theorem lenP {F : List D → D → Prop} {n : Nat} (h : ∀ ds d, F ds d → ds.length = n) : ∀ args r args', CP F args r args' → args.length = n := fun _ _ _ ⟨ds, d, hF, e, _⟩ => by
  rw [e, List.length_map]
  exact h _ _ hF
theorem lenS {F : DS → List D → D → DS → Prop} {n : Nat} (h : ∀ s ds d s', F s ds d s' → ds.length = n) : ∀ args r args', CS F args r args' → args.length = n + 1 := fun _ _ _ ⟨s, ds, d, s', hF, e, _⟩ => by
  rw [e, List.length_cons, List.length_map, h _ _ _ _ hF]
theorem ints_dp {K : PySem.W.Frag} {F : Hp} : ∀ ns : List Int, DpAll K F (ns.map V.int) (ns.map PyData.int)
  | [] => .nil
  | i :: is => .cons (.int i) (ints_dp is)
theorem env_law {K : PySem.W.Frag} {H : Hp} {a : Addr} {ns : List Int} {C : Con} (hS : SqL K H a (ns.map V.int)) (h : C [.fr (.list (ns.map .int))] (.fr (.bool true)) [.fr (.list (ns.map .int))]) : spD K C [.ref a] H (fun v _ => v = .bl true) fun _ _ _ => False := by
  refine ⟨_, _, _, H, h, ⟨Ex.refl H, fun _ z => z, rfl, fun i d e => ?_, fun i b o e => ?_, fun i j b o b' o' p e => ?_⟩, fun v F2 H2 _ _ q => ?_⟩
  · match i, e with
    | 0, e =>
      cases e
      exact ⟨_, rfl, .lst hS (ints_dp ns)⟩
    | i + 1, e => cases e
  · match i, e with
    | 0, e => cases e
    | i + 1, e => cases e
  · match i, e with
    | 0, e => cases e
    | i + 1, e => cases e
  · cases q
    rfl
/-! ### small helps -/
theorem log2_le {x n : Nat} (h : x < 2 ^ n) : x.log2 ≤ n := by
  by_cases h0 : x = 0
  · subst h0
    rw [Nat.log2_zero]
    exact Nat.zero_le _
  · exact Nat.le_of_lt ((Nat.log2_lt h0).mpr h)
theorem mulB_of {i j : Int} {n m : Nat} (hi : i.natAbs < 2 ^ n) (hj : j.natAbs < 2 ^ m) (h : n + m ≤ 1000000) : CMulB i j := by
  have h1 := log2_le hi
  have h2 := log2_le hj
  unfold CMulB
  omega
theorem pow_split {n m a b : Nat} (h1 : a < 2 ^ n) (h2 : b < 2 ^ m) : a * b < 2 ^ (n + m) := by
  rw [Nat.pow_add]
  exact Nat.mul_lt_mul'' h1 h2
theorem lt_log {x n : Nat} (h0 : x ≠ 0) (h : x < 2 ^ n) (hn : n ≤ 9000) : x.log2 < 9000 := Nat.lt_of_lt_of_le ((Nat.log2_lt h0).mpr h) hn
def Dat : Sl → Prop
  | .ob _ _ => False
  | _ => True
theorem np_at {δ : List Sl} {i : Nat} {x : Sl} (h : δ[i]? = some x) (hx : Dat x) : NoPar δ i := fun o z => by
  rw [h] at z
  cases z
  exact hx
end DL
/-! zip; promises of defs that call themselves. -/
namespace DL
open PySem PySem.Spec PyProof.Rows L2
/-- pairs, as far as both go -/
def zipD : List D → List D → List D
  | a :: as, b :: bs => .tuple [a, b] :: zipD as bs
  | _, _ => []
theorem zipD_get : ∀ {as bs : List D} {i : Nat} {d : D}, (zipD as bs)[i]? = some d → ∃ a b, as[i]? = some a ∧ bs[i]? = some b ∧ d = .tuple [a, b]
  | a :: as, b :: bs, 0, d, h => by
    cases h
    exact ⟨a, b, rfl, rfl, rfl⟩
  | a :: as, b :: bs, i + 1, d, h => zipD_get (as := as) (bs := bs) (i := i) h
  | [], _, _, _, h => by simp [zipD] at h
  | _ :: _, [], _, _, h => by simp [zipD] at h
theorem zipD_end : ∀ {as bs : List D} {i : Nat}, (zipD as bs).length ≤ i → as.length ≤ i ∨ bs.length ≤ i
  | [], _, _, _ => .inl (Nat.zero_le _)
  | _ :: _, [], _, _ => .inr (Nat.zero_le _)
  | a :: as, b :: bs, 0, h => by simp [zipD] at h
  | a :: as, b :: bs, i + 1, h => (zipD_end (as := as) (bs := bs) (i := i) (by simpa [zipD] using h)).elim (fun h => .inl (by simpa using h)) fun h => .inr (by simpa using h)
section
variable {K : PySem.W.Frag} {δ δ1 : List Sl} {as bs : List D} {ta : TA} {r1 r2 : R}
theorem src_zip {t : Bool} (h : EvA K ta δ [r1, r2] δ1) (e1 : rS δ1 r1 = some (t, as)) (e2 : rS δ1 r2 = some (t, bs)) (hf : ∀ F H E σ, EnvOk K E F H δ1 σ → ∀ v, (RepR K F H δ1 σ r1 v → ∃ vs p, v = .ref p ∧ DpAll K F vs as ∧ ((t = false ∧ SqL K F p vs) ∨ (t = true ∧ SqT K F p vs))) ∧ (RepR K F H δ1 σ r2 v → ∃ vs p, v = .ref p ∧ DpAll K F vs bs ∧ ((t = false ∧ SqL K F p vs) ∨ (t = true ∧ SqT K F p vs)))) :
    SrcJ K (RZ.iZipA K ta) δ (zipD as bs) δ1 := ⟨h.1, fun E F H σ Rr e q => h.2 E F H σ _ e fun vs F1 H1 e1' g1 hr _ => by
  cases hr with
  | cons x1 x2 _ =>
    cases x2 with
    | cons x2 x3 _ =>
      cases x3
      obtain ⟨us, p, rfl, a1, b1⟩ := (hf F1 H1 E σ e1' _).1 x1
      obtain ⟨ws, p', rfl, a2, b2⟩ := (hf F1 H1 E σ e1' _).2 x2
      refine ⟨p, p', us, ws, rfl, ?_⟩
      rcases b1 with ⟨t1, b1⟩ | ⟨t1, b1⟩
      · rcases b2 with ⟨t2, b2⟩ | ⟨t2, b2⟩
        · refine .inl ⟨ex_l e1'.ex b1, ex_l e1'.ex b2, q _ F1 H1 e1' g1 fun F' H' y1 y2 => ⟨fun i hi => ⟨us, ws, ex_l (y1.trans y2) b1, ex_l (y1.trans y2) b2, (zipD_end hi).elim (fun z => .inl (by rw [a1.length]; exact z)) fun z => .inr (by rw [a2.length]; exact z)⟩, fun i d hd => ?_⟩⟩
          obtain ⟨da, db, z1, z2, rfl⟩ := zipD_get hd
          obtain ⟨v1, w1, k1⟩ := a1.get z1
          obtain ⟨v2, w2, k2⟩ := a2.get z2
          refine ⟨⟨us, ws, v1, v2, ex_l (y1.trans y2) b1, ex_l (y1.trans y2) b2, w1, w2⟩, fun x H'' ⟨T, x1, x2, ex, hT, eH, m1, m2⟩ => ?_⟩
          have f1 := m1 us (ex_l (y1.trans y2) b1)
          have f2 := m2 ws (ex_l (y1.trans y2) b2)
          rw [w1] at f1
          rw [w2] at f2
          cases f1
          cases f2
          subst ex
          subst eH
          have al := Alloc.new (o := .tup [v1, v2]) y2 hT
          exact ⟨_, al, .tup (.inl (.inl upd_same)) (.cons (dp_mono (y1.trans al.f) k1) (.cons (dp_mono (y1.trans al.f) k2) .nil))⟩
        · rw [t1] at t2
          cases t2
      · rcases b2 with ⟨t2, b2⟩ | ⟨t2, b2⟩
        · rw [t1] at t2
          cases t2
        · refine .inr ⟨ex_t e1'.ex b1, ex_t e1'.ex b2, q _ F1 H1 e1' g1 fun F' H' y1 y2 => ⟨fun i hi => ⟨us, ws, ex_t (y1.trans y2) b1, ex_t (y1.trans y2) b2, (zipD_end hi).elim (fun z => .inl (by rw [a1.length]; exact z)) fun z => .inr (by rw [a2.length]; exact z)⟩, fun i d hd => ?_⟩⟩
          obtain ⟨da, db, z1, z2, rfl⟩ := zipD_get hd
          obtain ⟨v1, w1, k1⟩ := a1.get z1
          obtain ⟨v2, w2, k2⟩ := a2.get z2
          refine ⟨⟨us, ws, v1, v2, ex_t (y1.trans y2) b1, ex_t (y1.trans y2) b2, w1, w2⟩, fun x H'' ⟨T, x1, x2, ex, hT, eH, m1, m2⟩ => ?_⟩
          have f1 := m1 us (ex_t (y1.trans y2) b1)
          have f2 := m2 ws (ex_t (y1.trans y2) b2)
          rw [w1] at f1
          rw [w2] at f2
          cases f1
          cases f2
          subst ex
          subst eH
          have al := Alloc.new (o := .tup [v1, v2]) y2 hT
          exact ⟨_, al, .tup (.inl (.inl upd_same)) (.cons (dp_mono (y1.trans al.f) k1) (.cons (dp_mono (y1.trans al.f) k2) .nil))⟩⟩
theorem src_zipL (h : EvA K ta δ [.fr (.list as), .fr (.list bs)] δ1) : SrcJ K (RZ.iZipA K ta) δ (zipD as bs) δ1 :=
  src_zip (t := false) h rfl rfl fun F H E σ e v => ⟨fun h => by
    cases h with
    | lst hs ha => exact ⟨_, _, rfl, ha, .inl ⟨rfl, hs⟩⟩, fun h => by
    cases h with
    | lst hs ha => exact ⟨_, _, rfl, ha, .inl ⟨rfl, hs⟩⟩⟩
theorem src_zipT (h : EvA K ta δ [.fr (.tuple as), .fr (.tuple bs)] δ1) : SrcJ K (RZ.iZipA K ta) δ (zipD as bs) δ1 :=
  src_zip (t := true) h rfl rfl fun F H E σ e v => ⟨fun h => by
    cases h with
    | tup hs ha => exact ⟨_, _, rfl, ha, .inr ⟨rfl, hs⟩⟩, fun h => by
    cases h with
    | tup hs ha => exact ⟨_, _, rfl, ha, .inr ⟨rfl, hs⟩⟩⟩
/-- a comprehension without tests that leaves all as it is, over a family -/
theorem LcRel.maps {α : Type} {g : TG} {te : TE} {vs : List Nat} {δ : List Sl} (a b : α → D) : ∀ {ls : List α}, (∀ x, x ∈ ls → ∃ δb, BindW K g (a x) vs δ δb ∧ EvJ K te δb (.fr (b x)) δb ∧ NoParV δb vs ∧ wipeD δb vs = δ) → LcRel K g tYes te vs (ls.map a) δ (ls.map b) δ
  | [], _ => .nil
  | d :: ds, h => by
    obtain ⟨δb, h1, h2, h3, h4⟩ := h d List.mem_cons_self
    refine .go h1 ⟨SameK.refl _, fun E F H σ Q e q => ?_⟩ h2 h3 ?_
    · exact q F H e Grow.refl
    · rw [h4]
      exact LcRel.maps a b fun d hd => h d (List.mem_cons_of_mem _ hd)
theorem zipD_map {α : Type} (f g : α → D) : ∀ ls : List α, zipD (ls.map f) (ls.map g) = ls.map fun x => .tuple [f x, g x]
  | [] => rfl
  | x :: ls => congrArg (_ :: ·) (zipD_map f g ls)
theorem range_two {α : Type} (h : Nat) (g : Nat → α) : (List.range (h + h)).map g = (List.range h).map g ++ (List.range h).map fun j => g (h + j) := by
  rw [List.range_add, List.map_append, List.map_map]
  rfl
theorem cut_lo {α : Type} (n h : Nat) (g : Nat → D) (hn : n = h + h) : cutD ((List.range n).map g) none (some (h : Int)) = (List.range h).map g := by
  subst hn
  unfold cutD
  rw [HT.sIx_none, HT.sIx_nat, List.length_map, List.length_range, range_two, Nat.min_eq_left (Nat.le_add_right _ _), Nat.sub_zero, List.drop_zero]
  exact List.take_left' (by rw [List.length_map, List.length_range])
theorem cut_hi {α : Type} (n h : Nat) (g : Nat → D) (hn : n = h + h) : cutD ((List.range n).map g) (some (h : Int)) none = (List.range h).map fun j => g (h + j) := by
  subst hn
  unfold cutD
  rw [HT.sIx_none, HT.sIx_nat, List.length_map, List.length_range, range_two, Nat.min_eq_left (Nat.le_add_right _ _), List.drop_left' (by rw [List.length_map, List.length_range])]
  exact List.take_of_length_le (by rw [List.length_map, List.length_range]; omega)
end
/-! ### data that may be compared -/
def Lay (n : Nat) (d : D) : Prop := d.canLay0 = true ∧ d.depth ≤ n
def LayAll (n : Nat) (ds : List D) : Prop := PyData.canLayAll0 ds = true ∧ PyData.depthAll ds ≤ n
theorem Lay.int {n : Nat} {i : Int} : Lay n (.int i) := ⟨rfl, Nat.zero_le n⟩
theorem Lay.bool {n : Nat} {b : Bool} : Lay n (.bool b) := ⟨rfl, Nat.zero_le n⟩
theorem Lay.non {n : Nat} : Lay n .none := ⟨rfl, Nat.zero_le n⟩
theorem LayAll.nil {n : Nat} : LayAll n [] := ⟨rfl, Nat.zero_le n⟩
theorem LayAll.cons {n : Nat} {d : D} {ds : List D} (h : Lay n d) (t : LayAll n ds) : LayAll n (d :: ds) := by
  constructor
  · show (PyData.canLay0 d && PyData.canLayAll0 ds) = true
    rw [h.1, t.1]
    rfl
  · show max (PyData.depth d) (PyData.depthAll ds) ≤ n
    exact Nat.max_le.mpr ⟨h.2, t.2⟩
theorem LayAll.of {n : Nat} : ∀ {ds : List D}, (∀ d ∈ ds, Lay n d) → LayAll n ds
  | [], _ => .nil
  | _ :: _, h => .cons (h _ List.mem_cons_self) (.of fun d hd => h d (List.mem_cons_of_mem _ hd))
theorem Lay.tup {n : Nat} {ds : List D} (h : LayAll n ds) : Lay (n + 1) (.tuple ds) := ⟨h.1, Nat.succ_le_succ h.2⟩
theorem Lay.lst {n : Nat} {ds : List D} (h : LayAll n ds) : Lay (n + 1) (.list ds) := ⟨h.1, Nat.succ_le_succ h.2⟩
theorem Lay.mono {n m : Nat} {d : D} (h : Lay n d) (k : n ≤ m) : Lay m d := ⟨h.1, Nat.le_trans h.2 k⟩
theorem Lay.shaped {n : Nat} {d : D} (h : Lay n d) (k : n ≤ 64 := by decide) : SeqAt.shaped d = true := by
  show (d.canLay0 && decide (d.depth ≤ 64)) = true
  rw [h.1, decide_eq_true (Nat.le_trans h.2 k)]
  rfl
/-- a promise that nobody can ask for -/
theorem cal_void {P : Program} {w : World} {K : PySem.W.Frag} {mg : Str → Option Value} {base : Heap} {x : Str} {st : Stmt} {ps N : List Str} {k : Nat} {C : Con}
    (Df : DefAt K mg x st ps) (S : FnScope N ps (defScope st)) (hC : ∀ args r args', ¬ C args r args') : C8.Cal P w K mg base (k + 1) x (spD K C) [] := by
  obtain ⟨f, fd, F, h1, h2, h3⟩ := Df.ex
  exact ⟨f, fd, ps, [], F.ok S (fun vs H Q E ⟨args, r, args', _, h, _⟩ => absurd h (hC _ _ _)) (fun cdv A outer s H vs Q E hr ⟨args, r, args', _, h, _⟩ => absurd h (hC _ _ _)), h1, h2, h3, .nil⟩
/-- a promise holds of what it holds -/
theorem cal_mono {P : Program} {w : World} {K : PySem.W.Frag} {mg : Str → Option Value} {base : Heap} {x : Str} {k : Nat} {C C' : Con} (c : C8.Cal P w K mg base k x (spD K C) []) (h : ∀ args r args', C' args r args' → C args r args') : C8.Cal P w K mg base k x (spD K C') [] := by
  obtain ⟨f, fd, ps, ds, F, h1, h2, h3, h4⟩ := c.ex
  exact ⟨f, fd, ps, ds, F.imp fun vs H Q E ⟨args, r, args', F, hC, he, q⟩ => ⟨args, r, args', F, h _ _ _ hC, he, q⟩, h1, h2, h3, h4⟩
end DL
/-! The law's own def, at the top: a list of lists whose rows are written to. -/
namespace DL
open PySem PySem.Spec PyProof.Rows L2
theorem dpa_of {K : PySem.W.Frag} {F : Hp} : ∀ {vs : List V} {ds : List D}, vs.length = ds.length → (∀ (j : Nat) (v : V) (d : D), vs[j]? = some v → ds[j]? = some d → Dp K F v d) → DpAll K F vs ds
  | [], [], _, _ => .nil
  | v :: vs, d :: ds, hl, h => .cons (h 0 v d rfl rfl) (dpa_of (by simpa using hl) fun j v d h1 h2 => h (j + 1) v d h1 h2)
  | [], _ :: _, hl, _ => by simp at hl
  | _ :: _, [], hl, _ => by simp at hl
/-- rows that stand apart, each a list of its own -/
structure Grid (K : PySem.W.Frag) (F : Hp) (v : V) (rows : List (List D)) : Prop where
  ex : ∃ (q : Addr) (ps : List Addr), v = .ref q ∧ F q = some (.lst (ps.map V.ref)) ∧ (q :: ps).Nodup ∧ ps.length = rows.length ∧
    ∀ (j : Nat) (p : Addr) (row : List D), ps[j]? = some p → rows[j]? = some row → ∃ vs, F p = some (.lst vs) ∧ DpAll K F vs row
theorem Grid.mono {K : PySem.W.Frag} {F F' : Hp} {v : V} {rows : List (List D)} (e : Ex F F') (g : Grid K F v rows) : Grid K F' v rows := by
  obtain ⟨q, ps, h1, h2, h3, h4, h5⟩ := g.ex
  refine ⟨q, ps, h1, e _ _ h2, h3, h4, fun j p row a b => ?_⟩
  obtain ⟨vs, w1, w2⟩ := h5 j p row a b
  exact ⟨vs, e _ _ w1, dpa_mono e w2⟩
theorem Grid.dp {K : PySem.W.Frag} {F : Hp} {v : V} {rows : List (List D)} (g : Grid K F v rows) : Dp K F v (.list (rows.map .list)) := by
  obtain ⟨q, ps, rfl, h2, h3, h4, h5⟩ := g.ex
  refine .lst (.inl (.inl h2)) (dpa_of (by rw [List.length_map, List.length_map, h4]) fun j v d a b => ?_)
  rw [List.getElem?_map] at a b
  cases e1 : ps[j]? with
  | none =>
    rw [e1] at a
    cases a
  | some p =>
    rw [e1] at a
    cases a
    cases e2 : rows[j]? with
    | none =>
      rw [e2] at b
      cases b
    | some row =>
      rw [e2] at b
      cases b
      obtain ⟨vs, w1, w2⟩ := h5 j p row e1 e2
      exact .lst (.inl (.inl w1)) w2
def EvG (K : PySem.W.Frag) (te : TE) (δ : List Sl) (rows : List (List D)) (δ' : List Sl) : Prop :=
  ∀ (E F H : Hp) (σ : List (Option V)) (Q : VK), EnvOk K E F H δ σ → (∀ v F2 H2, EnvOk K E F2 H2 δ' σ → Grow F H δ σ F2 H2 δ' σ → Grid K F2 v rows → Q v H2) → te σ H Q
/-- an object that no name owns is fixed -/
theorem EnvOk.fix {K : PySem.W.Frag} {E F H : Hp} {δ : List Sl} {σ : List (Option V)} {p : Addr} {vs : List V} (e2 : EnvOk K E F H δ σ) (h3 : F p = none) (h4 : H p = some (.lst vs)) (h6 : ¬ Hot δ σ p) : EnvOk K E (upd F p (.lst vs)) H δ σ := by
  have hF : Ex F (upd F p (.lst vs)) := Ex.new h3
  refine ⟨fun a o ha => ?_, e2.dom, e2.len, fun i d hi => ?_, fun i b o hi => ?_, e2.dj⟩
  · by_cases hp : a = p
    · subst hp
      rw [upd_same] at ha
      cases ha
      exact h4
    · rw [upd_ne hp] at ha
      exact e2.ex a o ha
  · obtain ⟨w, w1, w2⟩ := e2.fr i d hi
    exact ⟨w, w1, dp_mono hF w2⟩
  · obtain ⟨p', ho, w1, w2, w3, w4, w5⟩ := e2.ob i b o hi
    refine ⟨p', ho, w1, ?_, w3, w4.mono hF, w5⟩
    rw [upd_ne fun z => h6 ⟨i, b, o, hi, by rw [← z]; exact w1⟩]
    exact w2
theorem Grow.fix {F H F2 H2 : Hp} {δ δ2 : List Sl} {σ σ2 : List (Option V)} {p : Addr} {o : HO} (g : Grow F H δ σ F2 H2 δ2 σ2) (h3 : F2 p = none) (hp : H p = none) : Grow F H δ σ (upd F2 p o) H2 δ2 σ2 :=
  ⟨g.f.trans (Ex.new h3), fun a ha hn => by
    rw [upd_ne fun z => ha (by rw [z]; exact hp)]
    exact g.k a ha hn, g.h, g.n, g.dm, g.pr⟩
/-- the rows of a comprehension are lists of their own -/
theorem ev_grid {K : PySem.W.Frag} {wi : TI} {g : TG} {te : TE} {vs : List Nat} {ds : List D} {rows : List (List D)} {δ : List Sl} (hs : SrcJ K wi δ ds δ) (hlen : rows.length = ds.length)
    (hl : ∀ (j : Nat) (d : D) (row : List D), ds[j]? = some d → rows[j]? = some row → ∃ δb, BindW K g d vs (wipeD δ vs) δb ∧ EvJ K te δb (.new (.L row)) δb ∧ NoParV δb vs ∧ wipeD δb vs = wipeD δ vs)
    (hp : ∀ i ∈ vs, ∀ b o, δ[i]? ≠ some (.ob b o)) (hz : ds.length ≤ sizeLine) : EvG K (tLc wi g tYes te vs) δ rows δ := fun E F H σ Q e q => hs.2 E F H σ _ e fun J F1 H1 e1 g1 it A hA => by
  have hF1 : F1 A = none := nn_ex e1.ex hA
  have hH0 : H A = none := g1.dm A hA
  have nh1 : ¬ Hot δ σ A := fun z => by
    obtain ⟨_, ho, h2⟩ := e1.hotF z
    rw [hA] at h2
    cases h2
  have al0 : Alloc F1 H1 F1 (upd H1 A (.lst [])) := Alloc.own e1.ex hA
  refine ⟨fun i m H' => m = ds.length - i ∧ ∃ (F' : Hp) (ps : List Addr), EnvOk K E F' H' (wipeD δ vs) (wipe σ vs) ∧ Grow F1 H1 (wipeD δ vs) (wipe σ vs) F' H' (wipeD δ vs) (wipe σ vs) ∧ H' A = some (.lst (ps.map V.ref)) ∧ F' A = none ∧ ¬ Hot (wipeD δ vs) (wipe σ vs) A ∧
    (A :: ps).Nodup ∧ ps.length = i ∧ i ≤ ds.length ∧ ∀ (j : Nat) (p : Addr) (row : List D), ps[j]? = some p → rows[j]? = some row → ∃ vs, F' p = some (.lst vs) ∧ DpAll K F' vs row,
    ⟨_, rfl, F1, [], (al0.env e1).wipe, al0.grow, upd_same, hF1, fun z => nh1 z.wiped, by simp, rfl, Nat.zero_le _, fun j p row h => by simp at h⟩, fun i m H' ⟨hm, F', ps, e', g', hA', hFA, hnh, hnd, hpl, hil, hps⟩ => ?_⟩
  obtain ⟨i1, i2⟩ := it F' H' g'.f e'.ex
  by_cases hi : i < ds.length
  · have hdi : ds[i]? = some ds[i] := List.getElem?_eq_getElem hi
    obtain ⟨go, yl⟩ := i2 i _ hdi
    refine .inr ⟨go, fun H2 => ∃ (F2 : Hp) (ps : List Addr), EnvOk K E F2 H2 (wipeD δ vs) (wipe σ vs) ∧ Grow F1 H1 (wipeD δ vs) (wipe σ vs) F2 H2 (wipeD δ vs) (wipe σ vs) ∧ H2 A = some (.lst (ps.map V.ref)) ∧ F2 A = none ∧ ¬ Hot (wipeD δ vs) (wipe σ vs) A ∧
      (A :: ps).Nodup ∧ ps.length = i + 1 ∧ i + 1 ≤ ds.length ∧ ∀ (j : Nat) (p : Addr) (row : List D), ps[j]? = some p → rows[j]? = some row → ∃ vs, F2 p = some (.lst vs) ∧ DpAll K F2 vs row, fun H2 q2 => ⟨m - 1, by omega, by omega, q2⟩, fun x H'' hy => ?_⟩
    obtain ⟨F'', al, hx⟩ := yl x H'' hy
    have ea := al.env e'
    have ga : Grow F1 H1 (wipeD δ vs) (wipe σ vs) F'' H'' (wipeD δ vs) (wipe σ vs) := g'.trans al.grow
    have hAA : H'' A = some (.lst (ps.map V.ref)) := al.h A _ hA'
    have hFAA : F'' A = none := by rw [al.k A (by rw [hA']; exact fun z => nomatch z)]; exact hFA
    have keepA : ∀ {Fa Ha Fb Hb : Hp} {δa δb : List Sl} {σa σb : List (Option V)}, Grow Fa Ha δa σa Fb Hb δb σb → Ha A = some (.lst (ps.map V.ref)) → Fa A = none → ¬ Hot δa σa A → Hb A = some (.lst (ps.map V.ref)) ∧ Fb A = none ∧ ¬ Hot δb σb A := fun {Fa Ha Fb Hb δa δb σa σb} G h1 h2 h3 => by
      refine ⟨G.h A _ h1 h3, ?_, fun z => ?_⟩
      · rw [G.k A (by rw [h1]; exact fun z => nomatch z) h3]
        exact h2
      · rcases G.n A z with q | q
        · exact h3 q
        · rw [h1] at q
          cases q
    have hri : rows[i]? = some rows[i] := List.getElem?_eq_getElem (by omega)
    obtain ⟨δb, hb, he, hnp, hw2⟩ := hl i _ _ hdi hri
    refine hb.2 E F'' H'' (wipe σ vs) x _ ea hx fun σ2 e2 g2 hw => ⟨hw.trans wipe_wipe, ?_⟩
    have ww : wipe σ2 vs = wipe σ vs := hw.trans wipe_wipe
    refine he.2 E F'' H'' σ2 _ e2 fun v F4 H4 e4 g4 h4 f4 => ?_
    obtain ⟨a1, a2, a3⟩ := keepA g2 hAA hFAA hnh
    obtain ⟨c1, c2, c3⟩ := keepA g4 a1 a2 a3
    obtain ⟨p, ho, rfl, k1, k2, ⟨us, rfl, k3⟩, k4⟩ := h4
    have hp0 : H'' p = none := f4 p rfl
    have pA : p ≠ A := fun z => by
      rw [z, hAA] at hp0
      cases hp0
    have hpp : ∀ p' ∈ ps, p' ≠ p := fun p' hp' z => by
      obtain ⟨j, hj⟩ := List.mem_iff_getElem?.mp hp'
      have hjl : j < rows.length := by
        have := (List.getElem?_eq_some_iff.mp hj).1
        omega
      obtain ⟨us', w1, _⟩ := hps j p' _ hj (List.getElem?_eq_getElem hjl)
      have := e'.ex _ _ w1
      have := al.h _ _ this
      rw [z, hp0] at this
      cases this
    -- the row is fixed, the list is written to
    have e5 := (e4.fix (vs := us) k1 k2 k4).poke (p := A) (ho := .lst (ps.map V.ref ++ [.ref p])) (by rw [upd_ne (Ne.symm pA)]; exact c2) c3 (by rw [c1]; exact fun z => nomatch z)
    have hp1 : H1 p = none := ga.dm p hp0
    have G : Grow F1 H1 (wipeD δ vs) (wipe σ vs) (upd F4 p (.lst us)) (upd H4 A (.lst (ps.map V.ref ++ [.ref p]))) (wipeD δ vs) (wipe σ vs) := by
      have G0 : Grow F1 H1 (wipeD δ vs) (wipe σ vs) F4 H4 (wipeD δb vs) (wipe σ2 vs) := ((ga.trans g2).trans g4).trans (Grow.wipe hnp)
      rw [ww, hw2] at G0
      exact (G0.fix k1 hp1).poke hA
    refine ⟨ps.map V.ref, c1, by rw [List.length_map]; omega, upd F4 p (.lst us), ps ++ [p], ?_, G, ?_, ?_, hnh, ?_, by rw [List.length_append, List.length_singleton]; omega, by omega, fun j p' row hj hr => ?_⟩
    · have e6 := e5.wipe (vs := vs)
      rw [ww, hw2] at e6
      exact e6
    · rw [upd_same, List.map_append]
      rfl
    · rw [upd_ne (Ne.symm pA)]
      exact c2
    · rw [List.nodup_cons] at hnd ⊢
      rw [List.nodup_append]
      refine ⟨fun z => ?_, hnd.2, by simp, fun a ha b hb => ?_⟩
      · rcases List.mem_append.mp z with z | z
        · exact hnd.1 z
        · exact pA (List.mem_singleton.mp z).symm
      · rw [List.mem_singleton.mp hb]
        exact hpp a ha
    · have f24 : Ex F' F4 := al.f.trans (g2.f.trans g4.f)
      have hF4 : Ex F4 (upd F4 p (.lst us)) := Ex.new k1
      by_cases hji : j < ps.length
      · rw [List.getElem?_append_left hji] at hj
        obtain ⟨us', w1, w2⟩ := hps j p' row hj hr
        refine ⟨us', ?_, dpa_mono (f24.trans hF4) w2⟩
        rw [upd_ne (hpp p' (List.mem_of_getElem? hj))]
        exact f24 _ _ w1
      · rw [List.getElem?_append_right (by omega)] at hj
        have ej : j = i := by
          have := (List.getElem?_eq_some_iff.mp hj).1
          rw [List.length_singleton] at this
          omega
        subst ej
        rw [show j - ps.length = 0 by omega] at hj
        cases hj
        rw [hri] at hr
        cases hr
        exact ⟨us, upd_same, dpa_mono hF4 k3⟩
  · refine .inl ⟨i1 i (by omega), ?_⟩
    have hot : ∀ {a : Addr}, Hot δ σ a → Hot (wipeD δ vs) (wipe σ vs) a := fun {a} ⟨j, b, o, h1, h2⟩ => by
      have hj : j ∉ vs := fun z => hp j z b o h1
      exact ⟨j, b, o, by rw [wipeD_ne hj]; exact h1, by rw [wipe_ne hj]; exact h2⟩
    have E2 : EnvOk K E F' H' δ σ := by
      refine ⟨e'.ex, e'.dom, e1.len, fun j d hj => ?_, fun j b o hj => ?_, e1.dj⟩
      · obtain ⟨v, w1, w2⟩ := e1.fr j d hj
        exact ⟨v, w1, dp_mono g'.f w2⟩
      · have hjv : j ∉ vs := fun z => hp j z b o hj
        obtain ⟨p, ho, w1, w2⟩ := e'.ob j b o (by rw [wipeD_ne hjv]; exact hj)
        rw [wipe_ne hjv] at w1
        exact ⟨p, ho, w1, w2⟩
    have nA : ¬ Hot δ σ A := fun z => hnh (hot z)
    have G2 : Grow F1 H1 δ σ F' H' δ σ := ⟨g'.f, fun a h1 h2 => g'.k a h1 fun z => h2 z.wiped, fun a o h1 h2 => g'.h a o h1 fun z => h2 z.wiped, fun a z => .inl z, g'.dm, fun j o hj => ⟨⟨o, hj⟩, rfl⟩⟩
    have hFx : Ex F' (upd F' A (.lst (ps.map V.ref))) := Ex.new hFA
    refine q _ _ H' (E2.fix hFA hA' nA) ((g1.trans G2).fix hFA hH0) ⟨A, ps, rfl, upd_same, hnd, by omega, fun j p row h1 h2 => ?_⟩
    obtain ⟨us, w1, w2⟩ := hps j p row h1 h2
    exact ⟨us, hFx _ _ w1, dpa_mono hFx w2⟩
/-! ### data without lists but of ints -/
def isI : D → Bool
  | .int _ => true
  | _ => false
mutual
def thin : D → Bool
  | .list ds => ds.all isI
  | .tuple ds => thins ds
  | _ => true
def thins : List D → Bool
  | [] => true
  | d :: ds => thin d && thins ds
end
def thinO : O → Bool
  | .L ds => thins ds
  | .K kvs => kvs.all fun kv => thin kv.2
theorem dpa_ints {K : PySem.W.Frag} {F : Hp} : ∀ {vs : List V} {ds : List D}, (ds.all isI) = true → DpAll K F vs ds → ∀ v ∈ vs, ∃ i, v = .int i
  | _, _, _, .nil => fun v h => nomatch h
  | _ :: _, _ :: _, h, .cons r t => by
    rw [List.all_cons, Bool.and_eq_true] at h
    intro x hx
    rcases List.mem_cons.mp hx with rfl | hx
    · cases r with
      | int i => exact ⟨i, rfl⟩
      | non => cases h.1
      | bl b => cases h.1
      | str s => cases h.1
      | lst _ _ => cases h.1
      | tup _ _ => cases h.1
    · exact dpa_ints h.2 t x hx
theorem dpa_ints' {K : PySem.W.Frag} {F F' : Hp} : ∀ {vs : List V} {ds : List D}, (ds.all isI) = true → DpAll K F vs ds → DpAll K F' vs ds
  | _, _, _, .nil => .nil
  | _ :: _, _ :: _, h, .cons r t => by
    rw [List.all_cons, Bool.and_eq_true] at h
    refine .cons ?_ (dpa_ints' h.2 t)
    cases r with
    | int i => exact .int i
    | non => cases h.1
    | bl b => cases h.1
    | str s => cases h.1
    | lst _ _ => cases h.1
    | tup _ _ => cases h.1
/-- a row that holds an address may change: no thin datum saw it -/
structure Aside (F : Hp) (p : Addr) : Prop where
  ex : ∃ (vs : List V) (a : Addr), F p = some (.lst vs) ∧ V.ref a ∈ vs
theorem Aside.rd_t {F : Hp} {p a : Addr} {xs : List V} {o : HO} (s : Aside F p) (h : Rd F a (.tup xs)) : Rd (upd F p o) a (.tup xs) := by
  obtain ⟨vs, b, h1, _⟩ := s.ex
  rcases h with h | ⟨u, h⟩
  · by_cases e : a = p
    · subst e
      rw [h1] at h
      cases h
    · exact .inl (by rw [upd_ne e]; exact h)
  · by_cases e : a = p
    · subst e
      rw [h1] at h
      cases h
    · exact .inr ⟨u, by rw [upd_ne e]; exact h⟩
mutual
theorem dp_aside {K : PySem.W.Frag} {F : Hp} {p : Addr} {o : HO} (s : Aside F p) : ∀ {d : D} {v : V}, thin d = true → Dp K F v d → Dp K (upd F p o) v d
  | _, _, _, .non => .non
  | _, _, _, .bl b => .bl b
  | _, _, _, .int i => .int i
  | _, _, _, .str x => .str x
  | _, _, h, .lst (a := a) (xs := xs) hs ha => by
    have h' : List.all _ isI = true := h
    refine .lst ?_ (dpa_ints' h' ha)
    rcases hs with hs | hs
    · refine .inl ?_
      obtain ⟨vs, b, h1, h2⟩ := s.ex
      rcases hs with hs | ⟨u, hs⟩
      · by_cases e : a = p
        · subst e
          rw [h1] at hs
          cases hs
          obtain ⟨i, hi⟩ := dpa_ints h' ha _ h2
          cases hi
        · exact .inl (by rw [upd_ne e]; exact hs)
      · by_cases e : a = p
        · subst e
          rw [h1] at hs
          cases hs
        · exact .inr ⟨u, by rw [upd_ne e]; exact hs⟩
    · exact .inr hs
  | _, _, h, .tup hs ha => by
    refine .tup ?_ (dpa_aside s (by exact h) ha)
    rcases hs with hs | hs
    · exact .inl (s.rd_t hs)
    · exact .inr hs
theorem dpa_aside {K : PySem.W.Frag} {F : Hp} {p : Addr} {o : HO} (s : Aside F p) : ∀ {ds : List D} {vs : List V}, thins ds = true → DpAll K F vs ds → DpAll K (upd F p o) vs ds
  | _, _, _, .nil => .nil
  | _, _, h, .cons r t => by
    have h' : (thin _ && thins _) = true := h
    rw [Bool.and_eq_true] at h'
    exact .cons (dp_aside s h'.1 r) (dpa_aside s h'.2 t)
end
theorem kd_aside {K : PySem.W.Frag} {F : Hp} {p : Addr} {o : HO} {κ : Type} (s : Aside F p) : ∀ {ws : List (κ × V)} {kvs : List (κ × D)}, (kvs.all fun kv => thin kv.2) = true → KD K F ws kvs → KD K (upd F p o) ws kvs
  | _, _, _, .nil => .nil
  | _, _, h, .cons r t => by
    rw [List.all_cons, Bool.and_eq_true] at h
    exact .cons (dp_aside s h.1 r) (kd_aside s h.2 t)
theorem repo_aside {K : PySem.W.Frag} {F : Hp} {p : Addr} {o : HO} (s : Aside F p) : ∀ {u : O} {ho : HO}, thinO u = true → RepO K F u ho → RepO K (upd F p o) u ho
  | .L _, _, h, ⟨vs, e, a⟩ => ⟨vs, e, dpa_aside s h a⟩
  | .K _, _, h, ⟨ws, e, n, a⟩ => ⟨ws, e, n, kd_aside s h a⟩
theorem thins_get : ∀ {ds : List D} {d : D}, thins ds = true → d ∈ ds → thin d = true
  | d' :: ds, d, h, hd => by
    have h' : (thin d' && thins ds) = true := h
    rw [Bool.and_eq_true] at h'
    rcases List.mem_cons.mp hd with rfl | hd
    · exact h'.1
    · exact thins_get h'.2 hd
/-! ### the top -/
abbrev Pst := List Sl → List (List D) → Prop
/-- what is told of the law's own body: it gives True, or goes on under P -/
def TopJ (K : PySem.W.Frag) (t : TS) (c : Nat) (δ : List Sl) (rows : List (List D)) (P : Pst) : Prop :=
  ∀ (E F H : Hp) (σ : List (Option V)) (D : Ends) (v : V), EnvOk K E F H δ σ → σ[c]? = some (some v) → Grid K F v rows → (∀ H', D.rt (.bl true) H') →
    (∀ δ' rows' F' H' σ' v', P δ' rows' → EnvOk K E F' H' δ' σ' → σ'[c]? = some (some v') → Grid K F' v' rows' → D.nx σ' H') → t D σ H
/-- .. ahead of the rows -/
def WJ (K : PySem.W.Frag) (t : TS) (δ : List Sl) : Prop := ∀ (E F H : Hp) (σ : List (Option V)) (D : Ends), EnvOk K E F H δ σ → (∀ H', D.rt (.bl true) H') → t D σ H
def Never : Pst := fun _ _ => False
section
variable {K : PySem.W.Frag} {δ δ1 : List Sl} {rows : List (List D)} {P : Pst} {t u w : TS} {te : TE} {c i : Nat} {d : D}
theorem w_st (h : StJ K t δ (.nx δ1)) (k : WJ K u δ1) : WJ K (tSeq t u) δ := fun E F H σ D e q => h E F H σ _ e fun σ' F2 H2 e2 _ => k E F2 H2 σ' D e2 q
theorem w_set (h : EvJ K te δ (.fr d) δ1) (hp : NoPar δ1 i) (k : WJ K u (δ1.set i (.fr d))) : WJ K (tSeq (tAsg te (gName i)) u) δ := w_st (st_set h hp) k
theorem w_ret {r : R} (h : EvJ K te δ (.fr (.bool true)) δ1) : WJ K (tRet te) δ := fun E F H σ D e q => h.2 E F H σ _ e fun v F2 H2 _ _ h2 _ => by
  cases h2
  exact q _
theorem w_setN {o : O} (h : EvJ K te δ (.new o) δ1) (hl : i < δ1.length) (hp : NoPar δ1 i) (k : WJ K u (δ1.set i (.ob true o))) : WJ K (tSeq (tAsg te (gName i)) u) δ := w_st (st_setN h hl hp) k
theorem w_if {b : Bool} {tt : TT} (h : TtJ K tt δ b δ1) (h1 : b = true → WJ K (tSeq t w) δ1) (h2 : b = false → WJ K (tSeq u w) δ1) : WJ K (tSeq (tIfS tt t u) w) δ := fun E F H σ D e q =>
  h.2 E F H σ _ e fun F2 H2 e2 _ => by
    cases b with
    | true =>
      rw [if_pos rfl]
      exact h1 rfl E F2 H2 σ D e2 q
    | false =>
      rw [if_neg Bool.false_ne_true]
      exact h2 rfl E F2 H2 σ D e2 q
theorem w_next (k : WJ K u δ) : WJ K (tSeq tNext u) δ := fun E F H σ D e q => k E F H σ D e q
theorem w_frz {ds : List D} (i : Nat) (hi : δ[i]? = some (.ob true (.L ds))) (k : WJ K t (δ.set i (.fr (.list ds)))) : WJ K t δ := fun E F H σ D e q =>
  st_frz (t := tNext) i hi st_next E F H σ { D with nx := t D } e fun σ' F2 H2 e2 _ => k E F2 H2 σ' D e2 q
theorem w_grid (h : EvG K te δ rows δ1) (hc : c < δ1.length) (k : TopJ K u c (δ1.set c (.fr (.list (rows.map .list)))) rows Never) : WJ K (tSeq (tAsg te (gName c)) u) δ := fun E F H σ D e q =>
  h E F H σ _ e fun v F2 H2 e2 _ g => k E F2 H2 (σ.set c (some v)) D v (e2.set_fr g.dp) (List.getElem?_set_self (by rw [e2.len]; exact hc)) g q fun _ _ _ _ _ _ z => z.elim
theorem top_set (h : EvJ K te δ (.fr d) δ1) (hp : NoPar δ1 i) (hi : i ≠ c) (k : TopJ K u c (δ1.set i (.fr d)) rows P) : TopJ K (tSeq (tAsg te (gName i)) u) c δ rows P := fun E F H σ D v e hc g q n =>
  h.2 E F H σ _ e fun x F2 H2 e2 g2 h2 _ => k E F2 H2 (σ.set i (some x)) D v (e2.set_fr h2) (by rw [List.getElem?_set_ne hi]; exact hc) (g.mono g2.f) q n
theorem top_set1 (h : EvJ K te δ (.fr d) δ1) (hp : NoPar δ1 i) (hi : i ≠ c) (k : P (δ1.set i (.fr d)) rows) : TopJ K (tAsg te (gName i)) c δ rows P := fun E F H σ D v e hc g q n =>
  h.2 E F H σ _ e fun x F2 H2 e2 g2 h2 _ => n _ _ F2 H2 (σ.set i (some x)) v k (e2.set_fr h2) (by rw [List.getElem?_set_ne hi]; exact hc) (g.mono g2.f)
theorem top_if {b : Bool} {tt : TT} (h : TtJ K tt δ b δ1) (h1 : b = true → TopJ K (tSeq t w) c δ1 rows P) (h2 : b = false → TopJ K (tSeq u w) c δ1 rows P) : TopJ K (tSeq (tIfS tt t u) w) c δ rows P := fun E F H σ D v e hc g q n =>
  h.2 E F H σ _ e fun F2 H2 e2 g2 => by
    cases b with
    | true =>
      rw [if_pos rfl]
      exact h1 rfl E F2 H2 σ D v e2 hc (g.mono g2.f) q n
    | false =>
      rw [if_neg Bool.false_ne_true]
      exact h2 rfl E F2 H2 σ D v e2 hc (g.mono g2.f) q n
theorem top_next (k : TopJ K u c δ rows P) : TopJ K (tSeq tNext u) c δ rows P := fun E F H σ D v e hc g q n => k E F H σ D v e hc g q n
theorem top_ret (h : EvJ K te δ (.fr (.bool true)) δ1) : TopJ K (tRet te) c δ rows P := fun E F H σ D v e hc g q n => h.2 E F H σ _ e fun v F2 H2 _ _ h2 _ => by
  cases h2
  exact q _
/-- for x in range(n) -/
theorem top_for {ta : TA} {n : Int} {x : Nat} (P0 : Nat → Pst) (h : EvA K ta δ [.fr (.int n)] δ1) (h1 : -(2 ^ 62) ≤ n) (h2 : n < 2 ^ 62) (h0 : P0 0 δ1 rows) (hx : x ≠ c)
    (hs : ∀ i δ' rows', i < n.toNat → P0 i δ' rows' → NoPar δ' x ∧ TopJ K t c (δ'.set x (.fr (.int (0 + (i : Int))))) rows' (P0 (i + 1)))
    (he : ∀ δ' rows', P0 n.toNat δ' rows' → TopJ K u c δ' rows' P) : TopJ K (tSeq (tFor (iRng1 ta) (gName x) t) u) c δ rows P := fun E F H σ D v e hc g q nx =>
  h.2 E F H σ _ e fun vs F1 H1 e1 g1 hr _ => by
    cases hr with
    | cons r1 r2 _ =>
      cases r2
      cases r1
      refine ⟨n, rfl, h1, h2, fun i m σ' H' => m = n.toNat - i ∧ i ≤ n.toNat ∧ ∃ F' δ' rows' v', P0 i δ' rows' ∧ EnvOk K E F' H' δ' σ' ∧ σ'[c]? = some (some v') ∧ Grid K F' v' rows', ⟨_, rfl, Nat.zero_le _, F1, δ1, rows, v, h0, e1, hc, g.mono g1.f⟩, fun i m σ' H' ⟨hm, hi, F', δ', rows', v', p', e', hc', g'⟩ => ?_⟩
      by_cases hl : i < n.toNat
      · obtain ⟨s1, s2⟩ := hs i δ' rows' hl p'
        refine .inr ⟨hl, fun σ2 H2 => i + 1 ≤ n.toNat ∧ ∃ F' δ' rows' v', P0 (i + 1) δ' rows' ∧ EnvOk K E F' H2 δ' σ2 ∧ σ2[c]? = some (some v') ∧ Grid K F' v' rows', fun σ2 H2 hN => ⟨m - 1, by omega, by omega, hN⟩, fun y H'' ⟨eH, ey⟩ => ?_⟩
        subst eH
        subst ey
        exact s2 E F' H'' _ _ v' (e'.set_fr (.int _)) (by rw [List.getElem?_set_ne hx]; exact hc') g' q fun δ2 rows2 F2 H2 σ2 v2 p2 e2 c2 g2 => ⟨by omega, F2, δ2, rows2, v2, p2, e2, c2, g2⟩
      · have ei : i = n.toNat := by omega
        subst ei
        exact .inl ⟨Nat.le_refl _, he δ' rows' p' E F' H' σ' D v' e' hc' g' q nx⟩
/-- row = rows[j]; row[i] = d -/
theorem top_mut {jx ix s r j i : Nat} {row : List D} {d : D} (hj : δ[jx]? = some (.fr (.int (j : Int)))) (hi : δ[ix]? = some (.fr (.int (i : Int)))) (hd : δ[s]? = some (.fr d)) (hrow : rows[j]? = some row) (hil : i < row.length)
    (rc : r ≠ c) (rj : r ≠ jx) (ri : r ≠ ix) (rs : r ≠ s) (sc : s ≠ c) (hr : r < δ.length) (hcl : c < δ.length) (nr : NoPar δ r) (nc : NoPar δ c) (hne : ∃ ts, PyData.tuple ts ∈ row)
    (ht : ∀ k d, k ≠ c → k ≠ r → δ[k]? = some (.fr d) → thin d = true) (hto : ∀ k b o, k ≠ c → k ≠ r → δ[k]? = some (.ob b o) → thinO o = true) (htr : ∀ row ∈ rows, thins row = true)
    (k : TopJ K u c ((δ.set r .no).set c (.fr (.list ((rows.set j (row.set i d)).map .list)))) (rows.set j (row.set i d)) P) :
    TopJ K (tSeq (tAsg (tOp (rIx K) (tVar c) (tVar jx)) (gName r)) (tSeq (tAsg (tVar s) (gSub (tVar r) (tVar ix) rSetL)) u)) c δ rows P := fun E F H σ D v e hc g q n => by
  obtain ⟨a, ps, rfl, g2, g3, g4, g5⟩ := g.ex
  have hjl : j < ps.length := by
    have := (List.getElem?_eq_some_iff.mp hrow).1
    omega
  obtain ⟨vs, w1, w2⟩ := g5 j ps[j] row (List.getElem?_eq_getElem hjl) hrow
  generalize hp : ps[j] = p at *
  have hpj : ps[j]? = some p := by rw [← hp]; exact List.getElem?_eq_getElem hjl
  obtain ⟨x, x1, x2⟩ := e.fr _ _ hj
  cases x2
  obtain ⟨y, y1, y2⟩ := e.fr _ _ hi
  cases y2
  obtain ⟨z, z1, z2⟩ := e.fr _ _ hd
  have hrl : r < σ.length := by rw [e.len]; exact hr
  have hpF : H p = some (.lst vs) := e.ex _ _ w1
  have hrr : (σ.set r (some (.ref p)))[r]? = some (some (.ref p)) := List.getElem?_set_self hrl
  have aside : Aside F p := by
    obtain ⟨ts, hts⟩ := hne
    obtain ⟨m, hm⟩ := List.mem_iff_getElem?.mp hts
    obtain ⟨b, b1, b2⟩ := w2.get hm
    cases b2 with
    | @tup b0 _ _ _ _ => exact ⟨vs, _, w1, List.mem_of_getElem? b1⟩
  have hpa : a ≠ p := fun z => (List.nodup_cons.mp g3).1 (by rw [z]; exact List.mem_of_getElem? hpj)
  have nhp : ¬ Hot δ σ p := fun z => by
    have := (e.hotF z).1
    rw [w1] at this
    cases this
  have hz2 : Dp K (upd F p (.lst (vs.set i z))) z d := dp_aside aside (ht s d sc rs.symm hd) z2
  have hF2 : (upd F p (.lst (vs.set i z))) p = some (.lst (vs.set i z)) := upd_same
  have hrow' : row.length = vs.length := w2.length.symm
  have g' : Grid K (upd F p (.lst (vs.set i z))) (.ref a) (rows.set j (row.set i d)) := by
    refine ⟨a, ps, rfl, by rw [upd_ne hpa]; exact g2, g3, by rw [List.length_set]; exact g4, fun j' p' row' q1 q2 => ?_⟩
    by_cases ej : j' = j
    · subst ej
      rw [List.getElem?_set_self (by omega)] at q2
      cases q2
      rw [hpj] at q1
      cases q1
      exact ⟨_, upd_same, (dpa_aside aside (htr row (List.mem_of_getElem? hrow)) w2).set hz2 i⟩
    · rw [List.getElem?_set_ne (Ne.symm ej)] at q2
      obtain ⟨us, u1, u2⟩ := g5 j' p' row' q1 q2
      have hpp : p' ≠ p := fun z => ej (by
        subst z
        have nd := (List.nodup_cons.mp g3).2
        exact (List.getElem?_inj (List.getElem?_eq_some_iff.mp q1).1 nd).mp (by rw [q1, hpj]))
      exact ⟨us, by rw [upd_ne hpp]; exact u1, dpa_aside aside (htr row' (List.mem_of_getElem? q2)) u2⟩
  have e' : EnvOk K E (upd F p (.lst (vs.set i z))) (upd H p (.lst (vs.set i z))) ((δ.set r .no).set c (.fr (.list ((rows.set j (row.set i d)).map .list)))) (σ.set r (some (.ref p))) := by
    refine ⟨fun b o h => ?_, fun b h => ?_, by rw [List.length_set, List.length_set, List.length_set]; exact e.len, fun k d' hk => ?_, fun k b o hk => ?_, fun k k' b o b' o' q hk hk' h1 h2 => ?_⟩
    · by_cases eb : b = p
      · subst eb
        rw [upd_same] at h ⊢
        exact h
      · rw [upd_ne eb] at h ⊢
        exact e.ex b o h
    · by_cases eb : b = p
      · subst eb
        rw [upd_same] at h
        cases h
      · rw [upd_ne eb] at h
        exact e.dom b h
    · rcases getset hk with ⟨ek, e1, _⟩ | ⟨nk, hk⟩
      · cases e1
        rw [ek]
        exact ⟨_, by rw [List.getElem?_set_ne rc]; exact hc, g'.dp⟩
      · rcases getset hk with ⟨_, e1, _⟩ | ⟨nk', hk⟩
        · cases e1
        · obtain ⟨u, u1, u2⟩ := e.fr k d' hk
          exact ⟨u, by rw [List.getElem?_set_ne (Ne.symm nk')]; exact u1, dp_aside aside (ht k d' nk nk' hk) u2⟩
    · rcases getset hk with ⟨_, e1, _⟩ | ⟨nk, hk⟩
      · cases e1
      · rcases getset hk with ⟨_, e1, _⟩ | ⟨nk', hk⟩
        · cases e1
        · obtain ⟨u, ho, u1, u2, u3, u4, u5⟩ := e.ob k b o hk
          have up : u ≠ p := fun z => by
            rw [z, w1] at u2
            cases u2
          exact ⟨u, ho, by rw [List.getElem?_set_ne (Ne.symm nk')]; exact u1, by rw [upd_ne up]; exact u2, by rw [upd_ne up]; exact u3, repo_aside aside (hto k b o nk nk' hk) u4, u5⟩
    · rcases getset hk with ⟨_, e1, _⟩ | ⟨nk, hk⟩
      · cases e1
      · rcases getset hk with ⟨_, e1, _⟩ | ⟨nk', hk⟩
        · cases e1
        · rcases getset hk' with ⟨_, e1, _⟩ | ⟨mk, hk'⟩
          · cases e1
          · rcases getset hk' with ⟨_, e1, _⟩ | ⟨mk', hk'⟩
            · cases e1
            · rw [List.getElem?_set_ne (Ne.symm nk')] at h1
              rw [List.getElem?_set_ne (Ne.symm mk')] at h2
              exact e.dj k k' b o b' o' q hk hk' h1 h2
  refine ⟨_, hc, _, x1, .inl ⟨a, ps.map V.ref, (j : Int), .ref p, rfl, rfl, .inl (.inl (e.ex _ _ g2)), atI_nat (by rw [List.getElem?_map, hpj]; rfl), ?_⟩⟩
  refine ⟨z, by rw [List.getElem?_set_ne rs]; exact z1, .ref p, hrr, .int (i : Int), by rw [List.getElem?_set_ne ri]; exact y1, p, vs, (i : Int), i, rfl, rfl, hpF, ?_, ?_⟩
  · unfold ixN
    rw [if_pos (by omega), if_pos (by omega), Int.toNat_natCast]
  · exact k E _ _ _ D _ e' (by rw [List.getElem?_set_ne rc]; exact hc) g' q n
end
/-! ### the law's own def -/
def spL (K : PySem.W.Frag) : Sp := fun vs H Q _ => ∃ (a : Addr) (ns : List Int), vs = [.ref a] ∧ SqL K H a (ns.map V.int) ∧ ns.length ≤ 63 ∧ ∀ H', Q (.bl true) H'
theorem env0 {K : PySem.W.Frag} {H : Hp} {a : Addr} {ns : List Int} (hS : SqL K H a (ns.map V.int)) : EnvOk K H H H [.fr (.list (ns.map .int))] ([V.ref a].map some) := by
  refine ⟨Ex.refl H, fun _ z => z, rfl, fun i d e => ?_, fun i b o e => ?_, fun i j b o b' o' p e => ?_⟩
  · match i, e with
    | 0, e =>
      cases e
      exact ⟨_, rfl, .lst hS (ints_dp ns)⟩
    | i + 1, e => cases e
  · match i, e with
    | 0, e => cases e
    | i + 1, e => cases e
  · match i, e with
    | 0, e => cases e
    | i + 1, e => cases e
theorem fnW {P : Program} {w : World} {K : PySem.W.Frag} {mg : Str → Option Value} {base : Heap} {x y : Str} {st : Stmt} {f : Addr} {fd : FuncData} {N : List Str} {k m : Nat}
    (F : Fun K x x st f fd) (S : FnScope N [y] (defScope st)) (hm : m = N.length - 1)
    (hbody : ∀ (cdv : Value) (A : Around) (outer : List Env) (s : Shared) (H : Hp) (E : XK), Room k (A.deeper (envOfC x (defScope st) s.heap.objs.size f cdv)) →
      ∃ t, PSs (cxOf CX0 P w K mg base N x (defScope st) f cdv A outer s H E).nox (defBody st) t ∧ ∀ ns : List Int, ns.length ≤ 63 → WJ K t (.fr (.list (ns.map .int)) :: List.replicate m .no)) : FnOk P w K mg base CX0 (k + 1) f fd [y] (spL K) := by
  refine F.ok S (fun vs H Q E ⟨a, ns, h, _⟩ => by rw [h]; rfl) (fun cdv A outer s H vs Q E hr h => ?_)
  obtain ⟨a, ns, rfl, hS, hl, hq⟩ := h
  obtain ⟨t, ht, hb⟩ := hbody cdv A outer s H E hr
  refine ⟨t, ht, ?_⟩
  rw [start_eq (ps := [y]) hm rfl]
  exact hb ns hl H H H _ _ (env0 hS).extend hq
end DL
/-! Constants of the module that are data; pop, truth of a list, sorted keys. -/
namespace DL
open PySem PySem.Spec PyProof.Rows L2
/-- a constant of the module, by its data -/
def tCon (K : PySem.W.Frag) (d : D) : TE := fun _ H Q => ∀ v, (∀ F, Dp K F v d) → Q v H
structure ConAt (K : PySem.W.Frag) (mg : Str → Option Value) (x : Str) (d : D) : Prop where
  ex : ∃ v u, mg x = some u ∧ RelV v u ∧ ∀ F, Dp K F v d
theorem pe_con {X : Cx} {x : Str} {pos : Pos} {d : D} (hg : Gl X x) (h : ConAt X.K X.mg x d) (hd : (x == ("__debug__" : Str)) = false := by decide) : PE X (.Name x pos) (tCon X.K d) := by
  obtain ⟨v, u, hm, r, hv⟩ := h.ex
  exact ⟨fun pins s σ H Q I q => (C8.pe_gc (pos := pos) hg ⟨u, hm, r⟩ hd).run pins s σ H Q I (q v hv)⟩
theorem con_pair {K : PySem.W.Frag} {mg : Str → Option Value} {h : Heap} {x : Str} {a : Addr} {od : Option Addr} {n : Nat} {sl : Array (Option Value)} {i j : Int} {t1 t2 : Tok} (X : K.In h) (G : h.Ns mainGlobals mg)
    (z : PySem.W.nsIn K mainGlobals x = some (some (.ref a))) (l : K.lookup a = some ⟨.type "tuple", od, .seq #[.int i t1, .int j t2] n, sl⟩) : ConAt K mg x (.tuple [.int i, .int j]) :=
  ⟨.ref a, .ref a, PySem.W.mg_of X G z, rfl, fun F => .tup (xs := [.int i, .int j]) (.inr ⟨_, #[.int i t1, .int j t2], n, l, rfl, rfl, Nat.le_of_ble_eq_true rfl, .cons ⟨t1, rfl⟩ (.cons ⟨t2, rfl⟩ .nil)⟩) (.cons (.int i) (.cons (.int j) .nil))⟩
section
variable {K : PySem.W.Frag} {δ δ1 δ2 : List Sl} {te to : TE} {d : D} {ds : List D} {i : Nat} {b : Bool} {o : O}
theorem ev_con : EvJ K (tCon K d) δ (.fr d) δ := ⟨SameK.refl δ, fun E F H σ Q e q v h => q v F H e Grow.refl (h F) trivial⟩
/-- xs.pop() -/
theorem ev_pop (ho : EvJ K to δ (.al i) δ1) (hi : δ1[i]? = some (.ob b (.L ds))) (hd : ds[ds.length - 1]? = some d) (e0 : δ1.set i (.ob b (.L ds.dropLast)) = δ2) : EvJ K (tBM0 K "list" rPop to) δ (.fr d) δ2 := by
  subst e0
  refine ⟨ho.1.trans (sameK_set hi), fun E F H σ Q e q => ho.2 E F H σ _ e fun v F1 H1 e1 g1 h1 _ => ?_⟩
  obtain ⟨p, ho1, rfl, w1, w2, w3, vs, rfl, w4⟩ := h1.al_ref e1 hi
  obtain ⟨u, u1, u2⟩ := w4.get hd
  have hr : RepO K F1 (.L ds.dropLast) (.lst vs.dropLast) := ⟨_, rfl, by
    rw [List.dropLast_eq_take, List.dropLast_eq_take, w4.length]
    exact w4.take _⟩
  exact ⟨.inl ⟨rfl, vs, .inl (.inl w3)⟩, p, vs, u, rfl, rfl, w3, by rw [w4.length]; exact u1, q _ F1 _ (e1.mut hi w1 hr) (g1.trans (Grow.mut e1 hi w1)) u2 trivial⟩
def tTru (K : PySem.W.Frag) (te : TE) : TT := fun σ H Q => te σ H fun x H' => ∃ k, TruV K x H' k ∧ Q k H'
theorem tt_truL (h : EvJ K te δ (.al i) δ1) (hi : δ1[i]? = some (.ob b (.L ds))) : TtJ K (tTru K te) δ (!ds.isEmpty) δ1 := ⟨h.1, fun E F H σ Q e q => h.2 E F H σ _ e fun v F1 H1 e1 g1 h1 _ => by
  obtain ⟨p, ho1, rfl, w1, w2, w3, vs, rfl, w4⟩ := h1.al_ref e1 hi
  refine ⟨!ds.isEmpty, .inl ⟨vs, .inl (.inl w3), ?_⟩, q F1 H1 e1 g1⟩
  cases w4 <;> rfl⟩
def rSortDI : List V → Hp → VK → Prop := fun xs H Q => ∃ (a : Addr) (kvs : List (Key × V)) (ks : List Int), xs = [.ref a] ∧ Rd H a (.dK kvs) ∧ kvs.map (·.1) = ks.map Sum.inl ∧ ks.length < 64 ∧
    ∀ (ys : List Int) (p : Addr), ys.Perm ks → ys.Pairwise (· ≤ ·) → H p = none → Q (.ref p) (upd H p (.lst (ys.map V.int)))
theorem call_sortDI {X : Cx} (hc : X.calm = true) : CallR X (.builtin "sorted") rSortDI := call_sortedDI hc
theorem sorted_uniq : ∀ {xs ys : List Int}, xs.Perm ys → xs.Pairwise (· ≤ ·) → ys.Pairwise (· ≤ ·) → xs = ys
  | [], ys, h, _, _ => (List.nil_perm.mp h).symm
  | x :: xs, [], h, _, _ => absurd (List.perm_nil.mp h) (List.cons_ne_nil x xs)
  | x :: xs, y :: ys, h, h1, h2 => by
    rw [List.pairwise_cons] at h1 h2
    have e : x = y := by
      have a : x ∈ y :: ys := h.subset List.mem_cons_self
      have c : y ∈ x :: xs := h.symm.subset List.mem_cons_self
      rcases List.mem_cons.mp a with rfl | a
      · rfl
      · rcases List.mem_cons.mp c with rfl | c
        · rfl
        · exact Int.le_antisymm (h1.1 y c) (h2.1 x a)
    subst e
    rw [sorted_uniq (List.Perm.cons_inv h) h1.2 h2.2]
theorem cd_sortDI {kvs : List (Key × D)} {ks ys : List Int} (hi : δ[i]? = some (.ob b (.K kvs))) (hk : kvs.map (·.1) = ks.map Sum.inl) (hn : ks.length < 64) (hp : ys.Perm ks) (hs : ys.Pairwise (· ≤ ·)) :
    CaD K rSortDI [.al i] δ (.new (.L (ys.map .int))) := cd1 fun E F H σ v Q e x q => by
  obtain ⟨p, ho1, rfl, w1, w2, w3, ws, rfl, nd, w4⟩ := x.al_ref e hi
  refine ⟨p, ws, ks, rfl, .inl w3, by rw [w4.keys]; exact hk, hn, fun zs l h1 h2 hl => ?_⟩
  have ez : zs = ys := sorted_uniq (h1.trans hp.symm) h2 hs
  subst ez
  obtain ⟨n1, n2⟩ := new_list e (ints_dp zs) hl
  exact q _ F _ (Alloc.own e.ex hl) n1 n2
end
end DL
namespace DL
open PySem PySem.Spec PyProof.Rows L2
/-! ### points -/
structure Pt where
  x : Rat
  y : Rat
  deriving DecidableEq
def gapQ (a b : Pt) : Pt := ⟨b.x - a.x, b.y - a.y⟩
def dotQ (v w : Pt) : Rat := v.x * w.x + v.y * w.y
def crossQ (v w : Pt) : Rat := v.x * w.y - v.y * w.x
def sqQ (a b : Pt) : Rat := dotQ (gapQ a b) (gapQ a b)
def alongQ (a b : Pt) (t : Rat) : Pt := ⟨a.x + t * (gapQ a b).x, a.y + t * (gapQ a b).y⟩
def partQ (a b p : Pt) : Rat := dotQ (gapQ a b) (gapQ a p) / dotQ (gapQ a b) (gapQ a b)
def nearQ (a b p : Pt) : Pt := if partQ a b p ≤ 0 then a else if 1 ≤ partQ a b p then b else alongQ a b (partQ a b p)
def farQ (a b p : Pt) : Rat := if a = b then sqQ a p else sqQ p (nearQ a b p)
theorem sq_nonneg (q : Rat) : 0 ≤ q * q := by
  rcases Rat.le_total (a := 0) (b := q) with h | h
  · exact Rat.mul_nonneg h h
  · have h' : 0 ≤ -q := by grind
    have := Rat.mul_nonneg h' h'
    grind
theorem sq_pos {q : Rat} (h : q ≠ 0) : 0 < q * q := by
  have h1 := sq_nonneg q
  have h2 : q * q ≠ 0 := fun z => by
    rcases Rat.mul_eq_zero.mp z with z | z <;> exact h z
  exact Rat.lt_of_le_of_ne h1 (Ne.symm h2)
theorem way_pos {a b : Pt} (h : a ≠ b) : 0 < dotQ (gapQ a b) (gapQ a b) := by
  unfold dotQ gapQ
  have h1 := sq_nonneg (b.x - a.x)
  have h2 := sq_nonneg (b.y - a.y)
  by_cases e : b.x - a.x = 0
  · have e2 : b.y - a.y ≠ 0 := fun z => h (by
      cases a
      cases b
      simp only [Pt.mk.injEq]
      constructor <;> grind)
    have := sq_pos e2
    grind
  · have := sq_pos e
    grind
theorem part_mul {a b p : Pt} (h : a ≠ b) : partQ a b p * dotQ (gapQ a b) (gapQ a b) = dotQ (gapQ a b) (gapQ a p) := by
  unfold partQ
  have := way_pos h
  exact Rat.div_mul_cancel (by grind)
theorem sq_along (a b p : Pt) (s : Rat) : sqQ p (alongQ a b s) = dotQ (gapQ a p) (gapQ a p) - 2 * s * dotQ (gapQ a b) (gapQ a p) + s * s * dotQ (gapQ a b) (gapQ a b) := by
  unfold sqQ alongQ dotQ gapQ
  grind
theorem along0 (a b : Pt) : alongQ a b 0 = a := by
  unfold alongQ gapQ
  cases a
  cases b
  simp only [Pt.mk.injEq]
  constructor <;> grind
theorem along1 (a b : Pt) : alongQ a b 1 = b := by
  unfold alongQ gapQ
  cases a
  cases b
  simp only [Pt.mk.injEq]
  constructor <;> grind
/-- no point of the segment is nearer -/
theorem far_le (a b p : Pt) {s : Rat} (h0 : 0 ≤ s) (h1 : s ≤ 1) : farQ a b p ≤ sqQ p (alongQ a b s) := by
  unfold farQ
  by_cases e : a = b
  · subst e
    rw [if_pos rfl, sq_along]
    unfold sqQ
    have : dotQ (gapQ a a) (gapQ a p) = 0 := by
      unfold dotQ gapQ
      grind
    have h2 : dotQ (gapQ a a) (gapQ a a) = 0 := by
      unfold dotQ gapQ
      grind
    rw [this, h2]
    grind
  · rw [if_neg e]
    have W := way_pos e
    have hc := part_mul (p := p) e
    generalize hw : dotQ (gapQ a b) (gapQ a b) = w at *
    generalize ht : partQ a b p = t at *
    have near : nearQ a b p = if t ≤ 0 then alongQ a b 0 else if 1 ≤ t then alongQ a b 1 else alongQ a b t := by
      unfold nearQ
      rw [ht, along0, along1]
    rw [near]
    by_cases q : t ≤ 0
    · rw [if_pos q, sq_along, sq_along, hw, ← hc]
      have p1 := Rat.mul_nonneg (Rat.mul_nonneg h0 (show (0 : Rat) ≤ -t by grind)) (Rat.le_of_lt W)
      have p2 := Rat.mul_nonneg (sq_nonneg s) (Rat.le_of_lt W)
      grind
    · rw [if_neg q]
      by_cases q1 : 1 ≤ t
      · rw [if_pos q1, sq_along, sq_along, hw, ← hc]
        have p1 := Rat.mul_nonneg (Rat.mul_nonneg (show (0 : Rat) ≤ 1 - s by grind) (show (0 : Rat) ≤ t - 1 by grind)) (Rat.le_of_lt W)
        have p2 := Rat.mul_nonneg (sq_nonneg (1 - s)) (Rat.le_of_lt W)
        grind
      · rw [if_neg q1, sq_along, sq_along, hw, ← hc]
        have p2 := Rat.mul_nonneg (sq_nonneg (s - t)) (Rat.le_of_lt W)
        grind
theorem sq_self (a : Pt) : sqQ a a = 0 := by
  unfold sqQ dotQ gapQ
  grind
theorem far_left {a b : Pt} {e : Rat} (h : 0 ≤ e) : farQ a b a ≤ e := by
  have := far_le a b a (s := 0) (by grind) (by grind)
  rw [along0, sq_self] at this
  grind
theorem far_right {a b : Pt} {e : Rat} (h : 0 ≤ e) : farQ a b b ≤ e := by
  have := far_le a b b (s := 1) (by grind) (by grind)
  rw [along1, sq_self] at this
  grind
/-! ### the curve -/
def curveQ (c0 c1 c2 t : Rat) : Rat := 0 + (1 - t) * (1 - t) * c0 + 2 * (t * (1 - t)) * c1 + t * t * c2
structure Cv where
  a : Pt
  c : Pt
  b : Pt
def Cv.at (v : Cv) (t : Rat) : Pt := ⟨curveQ v.a.x v.c.x v.b.x t, curveQ v.a.y v.c.y v.b.y t⟩
def Cv.bend (v : Cv) : Pt := ⟨(gapQ v.c v.a).x - (gapQ v.b v.c).x, (gapQ v.c v.a).y - (gapQ v.b v.c).y⟩
theorem near_curve (v : Cv) {t0 h s : Rat} (h0 : 0 ≤ s) (h1 : s ≤ 1) : farQ (v.at t0) (v.at (t0 + h)) (v.at (t0 + s * h)) ≤ dotQ v.bend v.bend * (h * h * (h * h) / 16) := by
  have H := far_le (v.at t0) (v.at (t0 + h)) (v.at (t0 + s * h)) h0 h1
  have e : sqQ (v.at (t0 + s * h)) (alongQ (v.at t0) (v.at (t0 + h)) s) = dotQ v.bend v.bend * ((s * (1 - s)) * (s * (1 - s)) * (h * h * (h * h))) := by
    unfold sqQ alongQ gapQ Cv.at curveQ Cv.bend dotQ gapQ
    grind
  rw [e] at H
  have d0 : 0 ≤ dotQ v.bend v.bend := by
    unfold dotQ
    have h1 := sq_nonneg v.bend.x
    have h2 := sq_nonneg v.bend.y
    grind
  have hh : 0 ≤ h * h * (h * h) := sq_nonneg (h * h)
  have u0 : 0 ≤ s * (1 - s) := Rat.mul_nonneg h0 (by grind)
  have u1 : s * (1 - s) ≤ 1 / 4 := by
    have := sq_nonneg (s - 1 / 2)
    grind
  have uu : 0 ≤ (1 / 4 - s * (1 - s)) * (1 / 4 + s * (1 - s)) := Rat.mul_nonneg (by grind) (by grind)
  have p := Rat.mul_nonneg (Rat.mul_nonneg d0 hh) uu
  grind

end DL
namespace DL
open PySem PySem.Spec PyProof.Rows L2
def topS (i : Nat) : Stmt := PySem.Challenge.pw_inkplane_k26_lines_and_curves.main.body.getD i (.Pass ⟨0, 0, 0, 0⟩)
structure Blt (mg : Str → Option Value) : Prop where
  gcd_ : mg "gcd" = some (.builtin "math.gcd")
  abs_ : mg "abs" = none
  int_ : mg "int" = none
  len_ : mg "len" = none
  range_ : mg "range" = none
  sorted_ : mg "sorted" = none
  tuple_ : mg "tuple" = none
  zip_ : mg "zip" = none

local macro_rules | `(tactic| walk_at "len") => `(tactic| exact Nat.le_of_ble_eq_true rfl)
local macro_rules | `(tactic| walk_at "np") => `(tactic| (intro o z; cases z))
local macro_rules | `(tactic| walk_at "od") => `(tactic| first
  | exact od_addI | exact od_subI | exact od_subB | exact od_I0b | exact od_I0
  | exact od_ix rfl rfl | exact od_eq rfl rfl rfl rfl | exact od_ne rfl rfl rfl rfl | exact od_isN | exact od_notN
  | with_reducible apply od_mulI | with_reducible apply od_I | exact ud_I)
local macro_rules | `(tactic| walk_at "cd") => `(tactic| first
  | exact cd_len rfl | exact cd_abs | exact cd_int | exact cd_intB | exact cd_gcd | exact cd_tup rfl | exact cd_lst rfl)
local macro_rules | `(tactic| walk_at "ev1") => `(tactic| first
  | exact ev_int | exact ev_bl | exact ev_str | exact ev_non | exact ev_var rfl | exact ev_varO rfl
  | with_reducible apply ev_op | with_reducible apply ev_un
  | exact ea_nil | with_reducible apply ea_cons
  | with_reducible apply ev_isi | with_reducible apply ev_dget
  | with_reducible apply ev_cb
  | with_reducible apply ev_tup' | with_reducible apply ev_lstF
  | with_reducible apply tt_test | with_reducible apply tt_B | with_reducible apply tt_not
  | walk_at "od" | walk_at "cd" | walk_at "len" | rfl)
local macro_rules | `(tactic| walk_at "ev") => `(tactic| repeat' walk_at "ev1")
local macro_rules | `(tactic| walk_at "set") => `(tactic| (with_reducible apply q_set; rotate_left; walk_at "np"; rotate_left; walk_at "ev"))

/-! ### fractions -/
def dR (q : Rat) : D := .tuple [.int q.num, .int (q.den : Int)]
def F_fraction (ds : List D) (d : D) : Prop := ∃ n m : Int, m ≠ 0 ∧ m.natAbs.log2 < 9000 ∧ ds = [.int n, .int m] ∧ d = dR (Rat.divInt n m)
abbrev C_fraction : Con := CP F_fraction
/-! fraction: slots 0 n, 1 d, 2 common -/
abbrev s_fraction : Stmt := topS 3
theorem sc_fraction : FnScope ["n", "d", "common"] ["n", "d"] (defScope s_fraction) := ⟨rfl, rfl, rfl, by decide +kernel, rfl, by decide +kernel, by decide +kernel⟩
def t_fraction (K : PySem.W.Frag) : TS :=
  (tSeq (tAsg (tCB rGcd (tCons (tVar 0) (tCons (tVar 1) tNil))) (gName 2))
    (tSeq (tIfS (tTest (tOp (rI0 fun i j => .bl (decide (i < j))) (tVar 1) (tC (.int 0)))) (tAsg (tUn (rU fun i => .int (-i)) (tVar 2)) (gName 2)) tNext)
    (tRet (tTup (tCons (tOp (rI CDivR fun i j => .int (i.fdiv j)) (tVar 0) (tVar 2)) (tCons (tOp (rI CDivR fun i j => .int (i.fdiv j)) (tVar 1) (tVar 2)) tNil))))))
theorem tm_fraction {P : Program} {w : World} {K : PySem.W.Frag} {mg : Str → Option Value} {base : Heap} (B : Blt mg) {f : Addr} {cdv : Value} {A : Around} {outer : List Env} {s : Shared} {H : Hp} {E : XK} (hr : Room 0 (A.deeper (envOfC "fraction" (defScope s_fraction) s.heap.objs.size f cdv))) :
    PSs (cxOf CX0 P w K mg base ["n", "d", "common"] "fraction" (defScope s_fraction) f cdv A outer s H E).nox (defBody s_fraction) (t_fraction K) := by
  have nd := sc_fraction.nd
  exact (pss_cons (ps_set (i := 2) nd rfl (Or.inl rfl) (pe_callBfun cr_gcd (by rfl) B.gcd_ (pa_cons (pv 0) (pa_cons (pv 1) pa_nil))))
    (pss_cons (ps_if (pt_cmpR op_lt (pv 1) pe_int (nomark _)) (pss_one (ps_set (i := 2) nd rfl (Or.inl rfl) (pe_un un_neg (pv 2)))) pss_nil)
    (pss_one (ps_ret (pe_tup (pa_cons (pe_op op_fdivR (pv 0) (pv 2)) (pa_cons (pe_op op_fdivR (pv 1) (pv 2)) pa_nil)))))))

theorem fdiv_neg_of {n g : Int} (h : g ∣ n) : n.fdiv (-g) = -(n / g) := by
  rw [Int.fdiv_eq_ediv_of_dvd (Int.neg_dvd.mpr h), Int.ediv_neg]
theorem frac_pos {n m : Int} (h : 0 < m) : n.fdiv ((Nat.gcd n.natAbs m.natAbs : Nat) : Int) = (Rat.divInt n m).num ∧ m.fdiv ((Nat.gcd n.natAbs m.natAbs : Nat) : Int) = ((Rat.divInt n m).den : Int) := by
  have hg : ((Nat.gcd n.natAbs m.natAbs : Nat) : Int) = ((m.gcd n : Nat) : Int) := by rw [Nat.gcd_comm]; rfl
  rw [hg, Rat.num_divInt, Rat.den_divInt, if_neg (by omega), Int.sign_eq_one_of_pos h, Int.one_mul]
  refine ⟨Int.fdiv_eq_ediv_of_nonneg _ (by omega), ?_⟩
  rw [Int.fdiv_eq_ediv_of_nonneg _ (by omega)]
  have e : m = ((m.natAbs : Nat) : Int) := by omega
  rw [e]
  simp
theorem frac_neg {n m : Int} (h : m < 0) : n.fdiv (-((Nat.gcd n.natAbs m.natAbs : Nat) : Int)) = (Rat.divInt n m).num ∧ m.fdiv (-((Nat.gcd n.natAbs m.natAbs : Nat) : Int)) = ((Rat.divInt n m).den : Int) := by
  have hg : ((Nat.gcd n.natAbs m.natAbs : Nat) : Int) = ((m.gcd n : Nat) : Int) := by rw [Nat.gcd_comm]; rfl
  rw [hg, Rat.num_divInt, Rat.den_divInt, if_neg (by omega), Int.sign_eq_neg_one_of_neg h]
  have h1 : ((m.gcd n : Nat) : Int) ∣ m := Int.gcd_dvd_left ..
  have h2 : ((m.gcd n : Nat) : Int) ∣ n := Int.gcd_dvd_right ..
  rw [fdiv_neg_of h1, fdiv_neg_of h2]
  refine ⟨?_, ?_⟩
  · rw [← Int.neg_ediv_of_dvd h2, Int.neg_mul, Int.one_mul]
  · rw [← Int.neg_ediv_of_dvd h1]
    have e : -m = ((m.natAbs : Nat) : Int) := by omega
    rw [e]
    simp
theorem gcd_log {n m : Int} (h : m ≠ 0) (hm : m.natAbs.log2 < 9000) : (Nat.gcd n.natAbs m.natAbs) ≠ 0 ∧ (Nat.gcd n.natAbs m.natAbs).log2 < 9000 := by
  have h0 : 0 < m.natAbs := by omega
  have h1 : 0 < Nat.gcd n.natAbs m.natAbs := Nat.gcd_pos_of_pos_right _ h0
  refine ⟨by omega, ?_⟩
  have h2 : m.natAbs < 2 ^ 9000 := (Nat.log2_lt (by omega)).mp hm
  exact (Nat.log2_lt (by omega)).mpr (Nat.lt_of_le_of_lt (Nat.le_of_dvd h0 (Nat.gcd_dvd_right _ _)) h2)
theorem run_fraction {K : PySem.W.Frag} : BodyOk K (t_fraction K) 1 C_fraction := by
  refine body_pure ?_
  rintro ds d ⟨n, m, h0, h9, rfl, rfl⟩
  obtain ⟨g1, g2⟩ := gcd_log (n := n) h0 h9
  refine ⟨[.fr (.int n), .fr (.int m), .fr (.int (if m < 0 then -((Nat.gcd n.natAbs m.natAbs : Nat) : Int) else (Nat.gcd n.natAbs m.natAbs : Nat)))], ?_, Nat.le_of_ble_eq_true rfl⟩
  show StJ K (t_fraction K) [.fr (.int n), .fr (.int m), .no] _
  apply q_set
  · walk_at "ev"
  · walk_at "np"
  apply st_ifq (b := decide (m < 0))
  · walk_at "ev"
  · intro h
    have h := of_decide_eq_true h
    obtain ⟨e1, e2⟩ := frac_neg (n := n) h
    have e : dR (Rat.divInt n m) = .tuple [.int (n.fdiv (-((Nat.gcd n.natAbs m.natAbs : Nat) : Int))), .int (m.fdiv (-((Nat.gcd n.natAbs m.natAbs : Nat) : Int)))] := by
      unfold dR
      rw [e1, e2]
    apply q_set
    · walk_at "ev"
    · walk_at "np"
    rw [if_pos h, e]
    apply q_ret
    · walk_at "ev"
      all_goals exact ⟨by omega, by rw [Int.natAbs_neg]; exact g2⟩
    · rfl
  · intro h
    have h := of_decide_eq_false h
    obtain ⟨e1, e2⟩ := frac_pos (n := n) (m := m) (by omega)
    have e : dR (Rat.divInt n m) = .tuple [.int (n.fdiv (((Nat.gcd n.natAbs m.natAbs : Nat) : Int))), .int (m.fdiv (((Nat.gcd n.natAbs m.natAbs : Nat) : Int)))] := by
      unfold dR
      rw [e1, e2]
    refine st_nextq ?_
    rw [if_neg h, e]
    apply q_ret
    · walk_at "ev"
      all_goals exact ⟨by omega, g2⟩
    · rfl
theorem ok_fraction {P : Program} {w : World} {K : PySem.W.Frag} {mg : Str → Option Value} {base : Heap} (B : Blt mg) (Df : DefAt K mg "fraction" s_fraction ["n", "d"]) : C8.Cal P w K mg base 1 "fraction" (spD K C_fraction) [] :=
  cal_of Df sc_fraction (fun args r args' ⟨ds, d, ⟨n, m, _, _, e1, _⟩, e2, _⟩ => by rw [e2, e1]; rfl) rfl fun f cdv A outer s H E hr => ⟨t_fraction K, tm_fraction B hr, run_fraction⟩
/-- the size of a fraction -/
def Fit (n : Nat) (q : Rat) : Prop := q.num.natAbs < 2 ^ n ∧ q.den < 2 ^ n
theorem divInt_num_le {n d : Int} (h : d ≠ 0) : (Rat.divInt n d).num.natAbs ≤ n.natAbs := by
  rw [Rat.num_divInt]
  refine Nat.le_trans (Int.natAbs_ediv_le_natAbs _ _) ?_
  rw [Int.natAbs_mul]
  have : d.sign.natAbs ≤ 1 := by
    rcases Int.lt_trichotomy d 0 with hd | hd | hd
    · rw [Int.sign_eq_neg_one_of_neg hd]; decide
    · exact absurd hd h
    · rw [Int.sign_eq_one_of_pos hd]; decide
  calc d.sign.natAbs * n.natAbs ≤ 1 * n.natAbs := Nat.mul_le_mul_right _ this
    _ = n.natAbs := Nat.one_mul _
theorem divInt_den_le {n d : Int} (h : d ≠ 0) : (Rat.divInt n d).den ≤ d.natAbs := by
  rw [Rat.den_divInt, if_neg h]
  exact Nat.div_le_self _ _
theorem dens_ne (a b : Rat) : ((a.den : Int) * (b.den : Int)) ≠ 0 := by
  have h1 := a.den_pos
  have h2 := b.den_pos
  exact Int.mul_ne_zero (by omega) (by omega)
theorem add_divInt (a b : Rat) : a + b = Rat.divInt (a.num * b.den + b.num * a.den) (a.den * b.den) := by
  have h1 := a.den_pos
  have h2 := b.den_pos
  have e := Rat.divInt_add_divInt a.num b.num (d₁ := (a.den : Int)) (d₂ := (b.den : Int)) (by omega) (by omega)
  rw [Rat.num_divInt_den, Rat.num_divInt_den] at e
  exact e
theorem sub_divInt (a b : Rat) : a - b = Rat.divInt (a.num * b.den - b.num * a.den) (a.den * b.den) := by
  have h1 := a.den_pos
  have h2 := b.den_pos
  have e := Rat.divInt_sub_divInt a.num b.num (d₁ := (a.den : Int)) (d₂ := (b.den : Int)) (by omega) (by omega)
  rw [Rat.num_divInt_den, Rat.num_divInt_den] at e
  exact e
theorem mul_divInt (a b : Rat) : a * b = Rat.divInt (a.num * b.num) (a.den * b.den) := by
  have e := Rat.divInt_mul_divInt a.num b.num (d₁ := (a.den : Int)) (d₂ := (b.den : Int))
  rw [Rat.num_divInt_den, Rat.num_divInt_den] at e
  exact e
theorem div_divInt (a b : Rat) : a / b = Rat.divInt (a.num * b.den) (a.den * b.num) := by
  rw [Rat.div_def, Rat.inv_def]
  have e := Rat.divInt_mul_divInt a.num b.den (d₁ := (a.den : Int)) (d₂ := b.num)
  rw [Rat.num_divInt_den] at e
  exact e
theorem Fit.mono {n m : Nat} {q : Rat} (h : Fit n q) (hm : n ≤ m) : Fit m q :=
  ⟨Nat.lt_of_lt_of_le h.1 (Nat.pow_le_pow_right (by decide) hm), Nat.lt_of_lt_of_le h.2 (Nat.pow_le_pow_right (by decide) hm)⟩
theorem sum_lt {n m : Nat} {a b : Rat} (ha : Fit n a) (hb : Fit m b) : (a.num * b.den + b.num * a.den).natAbs < 2 ^ (n + m + 1) ∧ (a.num * b.den - b.num * a.den).natAbs < 2 ^ (n + m + 1) := by
  have h1 : (a.num * (b.den : Int)).natAbs < 2 ^ (n + m) := by
    rw [Int.natAbs_mul]
    exact pow_split ha.1 hb.2
  have h2 : (b.num * (a.den : Int)).natAbs < 2 ^ (n + m) := by
    rw [Int.natAbs_mul, Nat.add_comm]
    exact pow_split hb.1 ha.2
  rw [Nat.pow_succ]
  omega
theorem den_lt {n m : Nat} {a b : Rat} (ha : Fit n a) (hb : Fit m b) : ((a.den : Int) * (b.den : Int)).natAbs < 2 ^ (n + m) := by
  rw [Int.natAbs_mul]
  exact pow_split ha.2 hb.2
theorem Fit.add {n m : Nat} {a b : Rat} (ha : Fit n a) (hb : Fit m b) : Fit (n + m + 1) (a + b) := by
  rw [add_divInt]
  exact ⟨Nat.lt_of_le_of_lt (divInt_num_le (dens_ne a b)) (sum_lt ha hb).1, Nat.lt_of_le_of_lt (divInt_den_le (dens_ne a b)) (Nat.lt_of_lt_of_le (den_lt ha hb) (Nat.pow_le_pow_right (by decide) (by omega)))⟩
theorem Fit.sub {n m : Nat} {a b : Rat} (ha : Fit n a) (hb : Fit m b) : Fit (n + m + 1) (a - b) := by
  rw [sub_divInt]
  exact ⟨Nat.lt_of_le_of_lt (divInt_num_le (dens_ne a b)) (sum_lt ha hb).2, Nat.lt_of_le_of_lt (divInt_den_le (dens_ne a b)) (Nat.lt_of_lt_of_le (den_lt ha hb) (Nat.pow_le_pow_right (by decide) (by omega)))⟩
theorem Fit.mul {n m : Nat} {a b : Rat} (ha : Fit n a) (hb : Fit m b) : Fit (n + m) (a * b) := by
  rw [mul_divInt]
  refine ⟨Nat.lt_of_le_of_lt (divInt_num_le (dens_ne a b)) ?_, Nat.lt_of_le_of_lt (divInt_den_le (dens_ne a b)) (den_lt ha hb)⟩
  rw [Int.natAbs_mul]
  exact pow_split ha.1 hb.1
theorem num_ne {b : Rat} (h : b ≠ 0) : b.num ≠ 0 := fun z => h (Rat.num_eq_zero.mp z)
theorem Fit.div {n m : Nat} {a b : Rat} (ha : Fit n a) (hb : Fit m b) (h0 : b ≠ 0) : Fit (n + m) (a / b) := by
  have h1 := a.den_pos
  have hd : (a.den : Int) * b.num ≠ 0 := Int.mul_ne_zero (by omega) (num_ne h0)
  rw [div_divInt]
  refine ⟨Nat.lt_of_le_of_lt (divInt_num_le hd) ?_, Nat.lt_of_le_of_lt (divInt_den_le hd) ?_⟩
  · rw [Int.natAbs_mul]
    exact pow_split ha.1 hb.2
  · rw [Int.natAbs_mul]
    exact pow_split ha.2 hb.1
theorem Fit.neg {n : Nat} {a : Rat} (ha : Fit n a) : Fit n (-a) := by
  refine ⟨?_, ha.2⟩
  rw [Rat.neg_num, Int.natAbs_neg]
  exact ha.1
/-- two fractions whose products are not too large -/
def Two (a b : Rat) : Prop := ∃ n m, Fit n a ∧ Fit m b ∧ n + m ≤ 9000
theorem Two.mul1 {a b : Rat} (h : Two a b) : CMulB a.num (b.den : Int) := by
  obtain ⟨n, m, ha, hb, hs⟩ := h
  exact mulB_of ha.1 hb.2 (by omega)
theorem Two.symm {a b : Rat} (h : Two a b) : Two b a := by
  obtain ⟨n, m, ha, hb, hs⟩ := h
  exact ⟨m, n, hb, ha, by omega⟩
theorem Two.mulD {a b : Rat} (h : Two a b) : CMulB (a.den : Int) (b.den : Int) := by
  obtain ⟨n, m, ha, hb, hs⟩ := h
  exact mulB_of ha.2 hb.2 (by omega)
theorem Two.mulN {a b : Rat} (h : Two a b) : CMulB a.num b.num := by
  obtain ⟨n, m, ha, hb, hs⟩ := h
  exact mulB_of ha.1 hb.1 (by omega)
theorem Two.den {a b : Rat} (h : Two a b) : ((a.den : Int) * (b.den : Int)).natAbs.log2 < 9000 := by
  obtain ⟨n, m, ha, hb, hs⟩ := h
  have := dens_ne a b
  exact lt_log (by omega) (den_lt ha hb) hs
theorem Two.den2 {a b : Rat} (h : Two a b) (h0 : b ≠ 0) : (a.den : Int) * b.num ≠ 0 ∧ ((a.den : Int) * b.num).natAbs.log2 < 9000 := by
  obtain ⟨n, m, ha, hb, hs⟩ := h
  have h1 := a.den_pos
  have hd : (a.den : Int) * b.num ≠ 0 := Int.mul_ne_zero (by omega) (num_ne h0)
  refine ⟨hd, lt_log (by omega) ?_ hs⟩
  rw [Int.natAbs_mul]
  exact pow_split ha.2 hb.1
def F_plus (ds : List D) (d : D) : Prop := ∃ a b : Rat, Two a b ∧ ds = [dR a, dR b] ∧ d = dR (a + b)
def F_minus (ds : List D) (d : D) : Prop := ∃ a b : Rat, Two a b ∧ ds = [dR a, dR b] ∧ d = dR (a - b)
def F_times (ds : List D) (d : D) : Prop := ∃ a b : Rat, Two a b ∧ ds = [dR a, dR b] ∧ d = dR (a * b)
def F_over (ds : List D) (d : D) : Prop := ∃ a b : Rat, Two a b ∧ b ≠ 0 ∧ ds = [dR a, dR b] ∧ d = dR (a / b)
/-- 1, 0 or -1 -/
def cmpR (a b : Rat) : Int := if a < b then -1 else if b < a then 1 else 0
def F_compare (ds : List D) (d : D) : Prop := ∃ a b : Rat, Two a b ∧ ds = [dR a, dR b] ∧ d = .int (cmpR a b)
abbrev C_plus : Con := CP F_plus
abbrev C_minus : Con := CP F_minus
abbrev C_times : Con := CP F_times
abbrev C_over : Con := CP F_over
abbrev C_compare : Con := CP F_compare
/-! plus: slots 0 a, 1 b -/
abbrev s_plus : Stmt := topS 4
theorem sc_plus : FnScope ["a", "b"] ["a", "b"] (defScope s_plus) := ⟨rfl, rfl, rfl, by decide +kernel, rfl, by decide +kernel, by decide +kernel⟩
def t_plus (K : PySem.W.Frag) : TS :=
  (tRet (tCall (spD K C_fraction) [] E0 (tCons (tOp (rAddU K) (tOp (rMulU K) (tOp (rIx K) (tVar 0) (tC (.int 0))) (tOp (rIx K) (tVar 1) (tC (.int 1)))) (tOp (rMulU K) (tOp (rIx K) (tVar 1) (tC (.int 0))) (tOp (rIx K) (tVar 0) (tC (.int 1))))) (tCons (tOp (rMulU K) (tOp (rIx K) (tVar 0) (tC (.int 1))) (tOp (rIx K) (tVar 1) (tC (.int 1)))) tNil))))
theorem tm_plus {P : Program} {w : World} {K : PySem.W.Frag} {mg : Str → Option Value} {base : Heap} (B : Blt mg) (c_fraction : C8.Cal P w K mg base 1 "fraction" (spD K C_fraction) []) {f : Addr} {cdv : Value} {A : Around} {outer : List Env} {s : Shared} {H : Hp} {E : XK} (hr : Room 1 (A.deeper (envOfC "plus" (defScope s_plus) s.heap.objs.size f cdv))) :
    PSs (cxOf CX0 P w K mg base ["a", "b"] "plus" (defScope s_plus) f cdv A outer s H E).nox (defBody s_plus) (t_plus K) := by
  have nd := sc_plus.nd
  exact (pss_one (ps_ret (C8.pe_c c_fraction hr (by omega) (by rfl) (pa_cons (pe_op op_addU (pe_op op_mulU (pe_ix ix_seq (pv 0) pe_int (fun _ _ => rfl)) (pe_ix ix_seq (pv 1) pe_int (fun _ _ => rfl))) (pe_op op_mulU (pe_ix ix_seq (pv 1) pe_int (fun _ _ => rfl)) (pe_ix ix_seq (pv 0) pe_int (fun _ _ => rfl)))) (pa_cons (pe_op op_mulU (pe_ix ix_seq (pv 0) pe_int (fun _ _ => rfl)) (pe_ix ix_seq (pv 1) pe_int (fun _ _ => rfl))) pa_nil)))))

/-! minus: slots 0 a, 1 b -/
abbrev s_minus : Stmt := topS 5
theorem sc_minus : FnScope ["a", "b"] ["a", "b"] (defScope s_minus) := ⟨rfl, rfl, rfl, by decide +kernel, rfl, by decide +kernel, by decide +kernel⟩
def t_minus (K : PySem.W.Frag) : TS :=
  (tRet (tCall (spD K C_fraction) [] E0 (tCons (tOp rSubU (tOp (rMulU K) (tOp (rIx K) (tVar 0) (tC (.int 0))) (tOp (rIx K) (tVar 1) (tC (.int 1)))) (tOp (rMulU K) (tOp (rIx K) (tVar 1) (tC (.int 0))) (tOp (rIx K) (tVar 0) (tC (.int 1))))) (tCons (tOp (rMulU K) (tOp (rIx K) (tVar 0) (tC (.int 1))) (tOp (rIx K) (tVar 1) (tC (.int 1)))) tNil))))
theorem tm_minus {P : Program} {w : World} {K : PySem.W.Frag} {mg : Str → Option Value} {base : Heap} (B : Blt mg) (c_fraction : C8.Cal P w K mg base 1 "fraction" (spD K C_fraction) []) {f : Addr} {cdv : Value} {A : Around} {outer : List Env} {s : Shared} {H : Hp} {E : XK} (hr : Room 1 (A.deeper (envOfC "minus" (defScope s_minus) s.heap.objs.size f cdv))) :
    PSs (cxOf CX0 P w K mg base ["a", "b"] "minus" (defScope s_minus) f cdv A outer s H E).nox (defBody s_minus) (t_minus K) := by
  have nd := sc_minus.nd
  exact (pss_one (ps_ret (C8.pe_c c_fraction hr (by omega) (by rfl) (pa_cons (pe_op op_subU (pe_op op_mulU (pe_ix ix_seq (pv 0) pe_int (fun _ _ => rfl)) (pe_ix ix_seq (pv 1) pe_int (fun _ _ => rfl))) (pe_op op_mulU (pe_ix ix_seq (pv 1) pe_int (fun _ _ => rfl)) (pe_ix ix_seq (pv 0) pe_int (fun _ _ => rfl)))) (pa_cons (pe_op op_mulU (pe_ix ix_seq (pv 0) pe_int (fun _ _ => rfl)) (pe_ix ix_seq (pv 1) pe_int (fun _ _ => rfl))) pa_nil)))))

/-! times: slots 0 a, 1 b -/
abbrev s_times : Stmt := topS 6
theorem sc_times : FnScope ["a", "b"] ["a", "b"] (defScope s_times) := ⟨rfl, rfl, rfl, by decide +kernel, rfl, by decide +kernel, by decide +kernel⟩
def t_times (K : PySem.W.Frag) : TS :=
  (tRet (tCall (spD K C_fraction) [] E0 (tCons (tOp (rMulU K) (tOp (rIx K) (tVar 0) (tC (.int 0))) (tOp (rIx K) (tVar 1) (tC (.int 0)))) (tCons (tOp (rMulU K) (tOp (rIx K) (tVar 0) (tC (.int 1))) (tOp (rIx K) (tVar 1) (tC (.int 1)))) tNil))))
theorem tm_times {P : Program} {w : World} {K : PySem.W.Frag} {mg : Str → Option Value} {base : Heap} (B : Blt mg) (c_fraction : C8.Cal P w K mg base 1 "fraction" (spD K C_fraction) []) {f : Addr} {cdv : Value} {A : Around} {outer : List Env} {s : Shared} {H : Hp} {E : XK} (hr : Room 1 (A.deeper (envOfC "times" (defScope s_times) s.heap.objs.size f cdv))) :
    PSs (cxOf CX0 P w K mg base ["a", "b"] "times" (defScope s_times) f cdv A outer s H E).nox (defBody s_times) (t_times K) := by
  have nd := sc_times.nd
  exact (pss_one (ps_ret (C8.pe_c c_fraction hr (by omega) (by rfl) (pa_cons (pe_op op_mulU (pe_ix ix_seq (pv 0) pe_int (fun _ _ => rfl)) (pe_ix ix_seq (pv 1) pe_int (fun _ _ => rfl))) (pa_cons (pe_op op_mulU (pe_ix ix_seq (pv 0) pe_int (fun _ _ => rfl)) (pe_ix ix_seq (pv 1) pe_int (fun _ _ => rfl))) pa_nil)))))

/-! over: slots 0 a, 1 b -/
abbrev s_over : Stmt := topS 7
theorem sc_over : FnScope ["a", "b"] ["a", "b"] (defScope s_over) := ⟨rfl, rfl, rfl, by decide +kernel, rfl, by decide +kernel, by decide +kernel⟩
def t_over (K : PySem.W.Frag) : TS :=
  (tRet (tCall (spD K C_fraction) [] E0 (tCons (tOp (rMulU K) (tOp (rIx K) (tVar 0) (tC (.int 0))) (tOp (rIx K) (tVar 1) (tC (.int 1)))) (tCons (tOp (rMulU K) (tOp (rIx K) (tVar 0) (tC (.int 1))) (tOp (rIx K) (tVar 1) (tC (.int 0)))) tNil))))
theorem tm_over {P : Program} {w : World} {K : PySem.W.Frag} {mg : Str → Option Value} {base : Heap} (B : Blt mg) (c_fraction : C8.Cal P w K mg base 1 "fraction" (spD K C_fraction) []) {f : Addr} {cdv : Value} {A : Around} {outer : List Env} {s : Shared} {H : Hp} {E : XK} (hr : Room 1 (A.deeper (envOfC "over" (defScope s_over) s.heap.objs.size f cdv))) :
    PSs (cxOf CX0 P w K mg base ["a", "b"] "over" (defScope s_over) f cdv A outer s H E).nox (defBody s_over) (t_over K) := by
  have nd := sc_over.nd
  exact (pss_one (ps_ret (C8.pe_c c_fraction hr (by omega) (by rfl) (pa_cons (pe_op op_mulU (pe_ix ix_seq (pv 0) pe_int (fun _ _ => rfl)) (pe_ix ix_seq (pv 1) pe_int (fun _ _ => rfl))) (pa_cons (pe_op op_mulU (pe_ix ix_seq (pv 0) pe_int (fun _ _ => rfl)) (pe_ix ix_seq (pv 1) pe_int (fun _ _ => rfl))) pa_nil)))))

/-! compare: slots 0 a, 1 b, 2 gap -/
abbrev s_compare : Stmt := topS 8
theorem sc_compare : FnScope ["a", "b", "gap"] ["a", "b"] (defScope s_compare) := ⟨rfl, rfl, rfl, by decide +kernel, rfl, by decide +kernel, by decide +kernel⟩
def t_compare (K : PySem.W.Frag) : TS :=
  (tSeq (tAsg (tOp rSubU (tOp (rMulU K) (tOp (rIx K) (tVar 0) (tC (.int 0))) (tOp (rIx K) (tVar 1) (tC (.int 1)))) (tOp (rMulU K) (tOp (rIx K) (tVar 1) (tC (.int 0))) (tOp (rIx K) (tVar 0) (tC (.int 1))))) (gName 2))
    (tRet (tOp rSubU (tOp (rI0 fun i j => .bl (decide (j < i))) (tVar 2) (tC (.int 0))) (tOp (rI0 fun i j => .bl (decide (i < j))) (tVar 2) (tC (.int 0))))))
theorem tm_compare {P : Program} {w : World} {K : PySem.W.Frag} {mg : Str → Option Value} {base : Heap} (B : Blt mg) {f : Addr} {cdv : Value} {A : Around} {outer : List Env} {s : Shared} {H : Hp} {E : XK} (hr : Room 0 (A.deeper (envOfC "compare" (defScope s_compare) s.heap.objs.size f cdv))) :
    PSs (cxOf CX0 P w K mg base ["a", "b", "gap"] "compare" (defScope s_compare) f cdv A outer s H E).nox (defBody s_compare) (t_compare K) := by
  have nd := sc_compare.nd
  exact (pss_cons (ps_set (i := 2) nd rfl (Or.inl rfl) (pe_op op_subU (pe_op op_mulU (pe_ix ix_seq (pv 0) pe_int (fun _ _ => rfl)) (pe_ix ix_seq (pv 1) pe_int (fun _ _ => rfl))) (pe_op op_mulU (pe_ix ix_seq (pv 1) pe_int (fun _ _ => rfl)) (pe_ix ix_seq (pv 0) pe_int (fun _ _ => rfl)))))
    (pss_one (ps_ret (pe_op op_subU (pe_cmpR op_gt (pv 2) pe_int (nomark _)) (pe_cmpR op_lt (pv 2) pe_int (nomark _))))))

theorem run_plus {K : PySem.W.Frag} : BodyOk K (t_plus K) 0 C_plus := by
  refine body_pure ?_
  rintro ds d ⟨a, b, h, rfl, rfl⟩
  refine ⟨[.fr (dR a), .fr (dR b)], ?_, Nat.le_of_ble_eq_true rfl⟩
  show StJ K (t_plus K) [.fr (dR a), .fr (dR b)] _
  rw [add_divInt]
  apply q_ret
  · apply ev_callP
    · walk_at "ev"
      · exact h.mul1
      · exact h.symm.mul1
      · exact h.mulD
    · rfl
    · exact ⟨_, _, dens_ne a b, h.den, rfl, rfl⟩
  · rfl
theorem run_minus {K : PySem.W.Frag} : BodyOk K (t_minus K) 0 C_minus := by
  refine body_pure ?_
  rintro ds d ⟨a, b, h, rfl, rfl⟩
  refine ⟨[.fr (dR a), .fr (dR b)], ?_, Nat.le_of_ble_eq_true rfl⟩
  show StJ K (t_minus K) [.fr (dR a), .fr (dR b)] _
  rw [sub_divInt]
  apply q_ret
  · apply ev_callP
    · walk_at "ev"
      · exact h.mul1
      · exact h.symm.mul1
      · exact h.mulD
    · rfl
    · exact ⟨_, _, dens_ne a b, h.den, rfl, rfl⟩
  · rfl
theorem run_times {K : PySem.W.Frag} : BodyOk K (t_times K) 0 C_times := by
  refine body_pure ?_
  rintro ds d ⟨a, b, h, rfl, rfl⟩
  refine ⟨[.fr (dR a), .fr (dR b)], ?_, Nat.le_of_ble_eq_true rfl⟩
  show StJ K (t_times K) [.fr (dR a), .fr (dR b)] _
  rw [mul_divInt]
  apply q_ret
  · apply ev_callP
    · walk_at "ev"
      · exact h.mulN
      · exact h.mulD
    · rfl
    · exact ⟨_, _, dens_ne a b, h.den, rfl, rfl⟩
  · rfl
theorem run_over {K : PySem.W.Frag} : BodyOk K (t_over K) 0 C_over := by
  refine body_pure ?_
  rintro ds d ⟨a, b, h, h0, rfl, rfl⟩
  refine ⟨[.fr (dR a), .fr (dR b)], ?_, Nat.le_of_ble_eq_true rfl⟩
  show StJ K (t_over K) [.fr (dR a), .fr (dR b)] _
  obtain ⟨d1, d2⟩ := h.den2 h0
  rw [div_divInt]
  apply q_ret
  · apply ev_callP
    · walk_at "ev"
      · exact h.mul1
      · obtain ⟨n, m, ha, hb, hs⟩ := h
        exact mulB_of ha.2 hb.1 (by omega)
    · rfl
    · exact ⟨_, _, d1, d2, rfl, rfl⟩
  · rfl
theorem cmp_eq (a b : Rat) : (if decide (0 < a.num * b.den - b.num * a.den) = true then (1 : Int) else 0) - (if decide (a.num * b.den - b.num * a.den < 0) = true then (1 : Int) else 0) = cmpR a b := by
  have e1 := Rat.lt_iff a b
  have e2 := Rat.lt_iff b a
  unfold cmpR
  simp only [decide_eq_true_eq]
  by_cases h1 : a < b
  · have := e1.mp h1
    rw [if_pos h1, if_neg (by omega), if_pos (by omega)]
    rfl
  · have n1 : ¬ (a.num * (b.den : Int) < b.num * (a.den : Int)) := fun z => h1 (e1.mpr z)
    rw [if_neg h1]
    by_cases h2 : b < a
    · have := e2.mp h2
      rw [if_pos h2, if_pos (by omega), if_neg (by omega)]
      rfl
    · have n2 : ¬ (b.num * (a.den : Int) < a.num * (b.den : Int)) := fun z => h2 (e2.mpr z)
      rw [if_neg h2, if_neg (by omega), if_neg (by omega)]
      rfl
theorem run_compare {K : PySem.W.Frag} : BodyOk K (t_compare K) 1 C_compare := by
  refine body_pure ?_
  rintro ds d ⟨a, b, h, rfl, rfl⟩
  refine ⟨[.fr (dR a), .fr (dR b), .fr (.int (a.num * b.den - b.num * a.den))], ?_, Nat.le_of_ble_eq_true rfl⟩
  show StJ K (t_compare K) [.fr (dR a), .fr (dR b), .no] _
  rw [← cmp_eq]
  apply q_set
  · walk_at "ev"
    · exact h.mul1
    · exact h.symm.mul1
  · walk_at "np"
  apply q_ret
  · walk_at "ev"
  · rfl
section
variable {P : Program} {w : World} {K : PySem.W.Frag} {mg : Str → Option Value} {base : Heap}
theorem ok_plus (B : Blt mg) (Df : DefAt K mg "plus" s_plus ["a", "b"]) (c : C8.Cal P w K mg base 1 "fraction" (spD K C_fraction) []) : C8.Cal P w K mg base 2 "plus" (spD K C_plus) [] :=
  cal_of Df sc_plus (fun args r args' ⟨ds, d, ⟨n, m, _, e1, _⟩, e2, _⟩ => by rw [e2, e1]; rfl) rfl fun f cdv A outer s H E hr => ⟨t_plus K, tm_plus B c hr, run_plus⟩
theorem ok_minus (B : Blt mg) (Df : DefAt K mg "minus" s_minus ["a", "b"]) (c : C8.Cal P w K mg base 1 "fraction" (spD K C_fraction) []) : C8.Cal P w K mg base 2 "minus" (spD K C_minus) [] :=
  cal_of Df sc_minus (fun args r args' ⟨ds, d, ⟨n, m, _, e1, _⟩, e2, _⟩ => by rw [e2, e1]; rfl) rfl fun f cdv A outer s H E hr => ⟨t_minus K, tm_minus B c hr, run_minus⟩
theorem ok_times (B : Blt mg) (Df : DefAt K mg "times" s_times ["a", "b"]) (c : C8.Cal P w K mg base 1 "fraction" (spD K C_fraction) []) : C8.Cal P w K mg base 2 "times" (spD K C_times) [] :=
  cal_of Df sc_times (fun args r args' ⟨ds, d, ⟨n, m, _, e1, _⟩, e2, _⟩ => by rw [e2, e1]; rfl) rfl fun f cdv A outer s H E hr => ⟨t_times K, tm_times B c hr, run_times⟩
theorem ok_over (B : Blt mg) (Df : DefAt K mg "over" s_over ["a", "b"]) (c : C8.Cal P w K mg base 1 "fraction" (spD K C_fraction) []) : C8.Cal P w K mg base 2 "over" (spD K C_over) [] :=
  cal_of Df sc_over (fun args r args' ⟨ds, d, ⟨n, m, _, _, e1, _⟩, e2, _⟩ => by rw [e2, e1]; rfl) rfl fun f cdv A outer s H E hr => ⟨t_over K, tm_over B c hr, run_over⟩
theorem ok_compare (B : Blt mg) (Df : DefAt K mg "compare" s_compare ["a", "b"]) : C8.Cal P w K mg base 1 "compare" (spD K C_compare) [] :=
  cal_of Df sc_compare (fun args r args' ⟨ds, d, ⟨n, m, _, e1, _⟩, e2, _⟩ => by rw [e2, e1]; rfl) rfl fun f cdv A outer s H E hr => ⟨t_compare K, tm_compare B hr, run_compare⟩
end

/-! ### calls of fractions, as rules -/
section
variable {K : PySem.W.Frag} {δ δ1 : List Sl} {ta : TA} {a b : Rat} {n m : Int} {E0' : XK}
theorem ev_fraction (ha : EvA K ta δ [.fr (.int n), .fr (.int m)] δ1) (h0 : m ≠ 0) (hl : m.natAbs.log2 < 9000) : EvJ K (tCall (spD K C_fraction) [] E0' ta) δ (.fr (dR (Rat.divInt n m))) δ1 := ev_callP ha rfl ⟨n, m, h0, hl, rfl, rfl⟩
theorem ev_plus (ha : EvA K ta δ [.fr (dR a), .fr (dR b)] δ1) (h : Two a b) : EvJ K (tCall (spD K C_plus) [] E0' ta) δ (.fr (dR (a + b))) δ1 := ev_callP ha rfl ⟨a, b, h, rfl, rfl⟩
theorem ev_minus (ha : EvA K ta δ [.fr (dR a), .fr (dR b)] δ1) (h : Two a b) : EvJ K (tCall (spD K C_minus) [] E0' ta) δ (.fr (dR (a - b))) δ1 := ev_callP ha rfl ⟨a, b, h, rfl, rfl⟩
theorem ev_times (ha : EvA K ta δ [.fr (dR a), .fr (dR b)] δ1) (h : Two a b) : EvJ K (tCall (spD K C_times) [] E0' ta) δ (.fr (dR (a * b))) δ1 := ev_callP ha rfl ⟨a, b, h, rfl, rfl⟩
theorem ev_over (ha : EvA K ta δ [.fr (dR a), .fr (dR b)] δ1) (h : Two a b) (h0 : b ≠ 0) : EvJ K (tCall (spD K C_over) [] E0' ta) δ (.fr (dR (a / b))) δ1 := ev_callP ha rfl ⟨a, b, h, h0, rfl, rfl⟩
theorem ev_compare (ha : EvA K ta δ [.fr (dR a), .fr (dR b)] δ1) (h : Two a b) : EvJ K (tCall (spD K C_compare) [] E0' ta) δ (.fr (.int (cmpR a b))) δ1 := ev_callP ha rfl ⟨a, b, h, rfl, rfl⟩
end

local macro_rules | `(tactic| walk_at "ev1") => `(tactic| first
  | with_reducible apply ev_plus | with_reducible apply ev_minus | with_reducible apply ev_times | with_reducible apply ev_over | with_reducible apply ev_compare | with_reducible apply ev_fraction)

/-! ### points -/
def ptD (p : Pt) : D := .tuple [dR p.x, dR p.y]
def FitP (n : Nat) (p : Pt) : Prop := Fit n p.x ∧ Fit n p.y
def TwoP (a b : Pt) : Prop := ∃ n m, FitP n a ∧ FitP m b ∧ n + m ≤ 4000
theorem FitP.mono {n m : Nat} {p : Pt} (h : FitP n p) (k : n ≤ m) : FitP m p := ⟨h.1.mono k, h.2.mono k⟩
theorem FitP.gap {n m : Nat} {a b : Pt} (ha : FitP n a) (hb : FitP m b) : FitP (n + m + 1) (gapQ a b) := by
  have h1 := hb.1.sub ha.1
  have h2 := hb.2.sub ha.2
  rw [Nat.add_comm m n] at h1 h2
  exact ⟨h1, h2⟩
theorem FitP.dot {n m : Nat} {v w : Pt} (ha : FitP n v) (hb : FitP m w) : Fit (n + m + (n + m) + 1) (dotQ v w) := (ha.1.mul hb.1).add (ha.2.mul hb.2)
theorem FitP.cross {n m : Nat} {v w : Pt} (ha : FitP n v) (hb : FitP m w) : Fit (n + m + (n + m) + 1) (crossQ v w) := (ha.1.mul hb.2).sub (ha.2.mul hb.1)
def F_gap (ds : List D) (d : D) : Prop := ∃ a b, TwoP a b ∧ ds = [ptD a, ptD b] ∧ d = ptD (gapQ a b)
abbrev C_gap : Con := CP F_gap
/-! gap: slots 0 a, 1 b -/
abbrev s_gap : Stmt := topS 10
theorem sc_gap : FnScope ["a", "b"] ["a", "b"] (defScope s_gap) := ⟨rfl, rfl, rfl, by decide +kernel, rfl, by decide +kernel, by decide +kernel⟩
def t_gap (K : PySem.W.Frag) : TS :=
  (tRet (tTup (tCons (tCall (spD K C_minus) [] E0 (tCons (tOp (rIx K) (tVar 1) (tC (.int 0))) (tCons (tOp (rIx K) (tVar 0) (tC (.int 0))) tNil))) (tCons (tCall (spD K C_minus) [] E0 (tCons (tOp (rIx K) (tVar 1) (tC (.int 1))) (tCons (tOp (rIx K) (tVar 0) (tC (.int 1))) tNil))) tNil))))
theorem tm_gap {P : Program} {w : World} {K : PySem.W.Frag} {mg : Str → Option Value} {base : Heap} (B : Blt mg) (c_minus : C8.Cal P w K mg base 2 "minus" (spD K C_minus) []) {f : Addr} {cdv : Value} {A : Around} {outer : List Env} {s : Shared} {H : Hp} {E : XK} (hr : Room 2 (A.deeper (envOfC "gap" (defScope s_gap) s.heap.objs.size f cdv))) :
    PSs (cxOf CX0 P w K mg base ["a", "b"] "gap" (defScope s_gap) f cdv A outer s H E).nox (defBody s_gap) (t_gap K) := by
  have nd := sc_gap.nd
  exact (pss_one (ps_ret (pe_tup (pa_cons (C8.pe_c c_minus hr (by omega) (by rfl) (pa_cons (pe_ix ix_seq (pv 1) pe_int (fun _ _ => rfl)) (pa_cons (pe_ix ix_seq (pv 0) pe_int (fun _ _ => rfl)) pa_nil))) (pa_cons (C8.pe_c c_minus hr (by omega) (by rfl) (pa_cons (pe_ix ix_seq (pv 1) pe_int (fun _ _ => rfl)) (pa_cons (pe_ix ix_seq (pv 0) pe_int (fun _ _ => rfl)) pa_nil))) pa_nil)))))

theorem run_gap {K : PySem.W.Frag} : BodyOk K (t_gap K) 0 C_gap := by
  refine body_pure ?_
  rintro ds d ⟨a, b, ⟨n, m, ha, hb, h⟩, rfl, rfl⟩
  refine ⟨[.fr (ptD a), .fr (ptD b)], ?_, Nat.le_of_ble_eq_true rfl⟩
  show StJ K (t_gap K) [.fr (ptD a), .fr (ptD b)] (.rt (.fr (.tuple [dR (b.x - a.x), dR (b.y - a.y)])) _)
  apply q_ret
  · walk_at "ev"
    · exact ⟨m, n, hb.1, ha.1, by omega⟩
    · exact ⟨m, n, hb.2, ha.2, by omega⟩
  · rfl
theorem len_gap : ∀ args r args', C_gap args r args' → args.length = 2 := lenP fun ds d ⟨a, b, _, h, _⟩ => by rw [h]; rfl
theorem ok_gap {P : Program} {w : World} {K : PySem.W.Frag} {mg : Str → Option Value} {base : Heap} (B : Blt mg) (Df : DefAt K mg "gap" s_gap ["a", "b"]) (c_minus : C8.Cal P w K mg base 2 "minus" (spD K C_minus) []) : C8.Cal P w K mg base 3 "gap" (spD K C_gap) [] :=
  cal_of Df sc_gap len_gap rfl fun f cdv A outer s H E hr => ⟨t_gap K, tm_gap B c_minus hr, run_gap⟩

def F_cross (ds : List D) (d : D) : Prop := ∃ v w, TwoP v w ∧ ds = [ptD v, ptD w] ∧ d = dR (crossQ v w)
abbrev C_cross : Con := CP F_cross
/-! cross: slots 0 v, 1 w -/
abbrev s_cross : Stmt := topS 11
theorem sc_cross : FnScope ["v", "w"] ["v", "w"] (defScope s_cross) := ⟨rfl, rfl, rfl, by decide +kernel, rfl, by decide +kernel, by decide +kernel⟩
def t_cross (K : PySem.W.Frag) : TS :=
  (tRet (tCall (spD K C_minus) [] E0 (tCons (tCall (spD K C_times) [] E0 (tCons (tOp (rIx K) (tVar 0) (tC (.int 0))) (tCons (tOp (rIx K) (tVar 1) (tC (.int 1))) tNil))) (tCons (tCall (spD K C_times) [] E0 (tCons (tOp (rIx K) (tVar 0) (tC (.int 1))) (tCons (tOp (rIx K) (tVar 1) (tC (.int 0))) tNil))) tNil))))
theorem tm_cross {P : Program} {w : World} {K : PySem.W.Frag} {mg : Str → Option Value} {base : Heap} (B : Blt mg) (c_minus : C8.Cal P w K mg base 2 "minus" (spD K C_minus) []) (c_times : C8.Cal P w K mg base 2 "times" (spD K C_times) []) {f : Addr} {cdv : Value} {A : Around} {outer : List Env} {s : Shared} {H : Hp} {E : XK} (hr : Room 2 (A.deeper (envOfC "cross" (defScope s_cross) s.heap.objs.size f cdv))) :
    PSs (cxOf CX0 P w K mg base ["v", "w"] "cross" (defScope s_cross) f cdv A outer s H E).nox (defBody s_cross) (t_cross K) := by
  have nd := sc_cross.nd
  exact (pss_one (ps_ret (C8.pe_c c_minus hr (by omega) (by rfl) (pa_cons (C8.pe_c c_times hr (by omega) (by rfl) (pa_cons (pe_ix ix_seq (pv 0) pe_int (fun _ _ => rfl)) (pa_cons (pe_ix ix_seq (pv 1) pe_int (fun _ _ => rfl)) pa_nil))) (pa_cons (C8.pe_c c_times hr (by omega) (by rfl) (pa_cons (pe_ix ix_seq (pv 0) pe_int (fun _ _ => rfl)) (pa_cons (pe_ix ix_seq (pv 1) pe_int (fun _ _ => rfl)) pa_nil))) pa_nil)))))

theorem run_cross {K : PySem.W.Frag} : BodyOk K (t_cross K) 0 C_cross := by
  refine body_pure ?_
  rintro ds d ⟨a, b, ⟨n, m, ha, hb, h⟩, rfl, rfl⟩
  refine ⟨[.fr (ptD a), .fr (ptD b)], ?_, Nat.le_of_ble_eq_true rfl⟩
  show StJ K (t_cross K) [.fr (ptD a), .fr (ptD b)] (.rt (.fr (dR (a.x * b.y - a.y * b.x))) _)
  apply q_ret
  · walk_at "ev"
    · exact ⟨n, m, ha.1, hb.2, by omega⟩
    · exact ⟨n, m, ha.2, hb.1, by omega⟩
    · exact ⟨n + m, n + m, ha.1.mul hb.2, ha.2.mul hb.1, by omega⟩
  · rfl
theorem len_cross : ∀ args r args', C_cross args r args' → args.length = 2 := lenP fun ds d ⟨a, b, _, h, _⟩ => by rw [h]; rfl
theorem ok_cross {P : Program} {w : World} {K : PySem.W.Frag} {mg : Str → Option Value} {base : Heap} (B : Blt mg) (Df : DefAt K mg "cross" s_cross ["v", "w"]) (c_minus : C8.Cal P w K mg base 2 "minus" (spD K C_minus) []) (c_times : C8.Cal P w K mg base 2 "times" (spD K C_times) []) : C8.Cal P w K mg base 3 "cross" (spD K C_cross) [] :=
  cal_of Df sc_cross len_cross rfl fun f cdv A outer s H E hr => ⟨t_cross K, tm_cross B c_minus c_times hr, run_cross⟩

def F_dot (ds : List D) (d : D) : Prop := ∃ v w, TwoP v w ∧ ds = [ptD v, ptD w] ∧ d = dR (dotQ v w)
abbrev C_dot : Con := CP F_dot
/-! dot: slots 0 v, 1 w -/
abbrev s_dot : Stmt := topS 12
theorem sc_dot : FnScope ["v", "w"] ["v", "w"] (defScope s_dot) := ⟨rfl, rfl, rfl, by decide +kernel, rfl, by decide +kernel, by decide +kernel⟩
def t_dot (K : PySem.W.Frag) : TS :=
  (tRet (tCall (spD K C_plus) [] E0 (tCons (tCall (spD K C_times) [] E0 (tCons (tOp (rIx K) (tVar 0) (tC (.int 0))) (tCons (tOp (rIx K) (tVar 1) (tC (.int 0))) tNil))) (tCons (tCall (spD K C_times) [] E0 (tCons (tOp (rIx K) (tVar 0) (tC (.int 1))) (tCons (tOp (rIx K) (tVar 1) (tC (.int 1))) tNil))) tNil))))
theorem tm_dot {P : Program} {w : World} {K : PySem.W.Frag} {mg : Str → Option Value} {base : Heap} (B : Blt mg) (c_plus : C8.Cal P w K mg base 2 "plus" (spD K C_plus) []) (c_times : C8.Cal P w K mg base 2 "times" (spD K C_times) []) {f : Addr} {cdv : Value} {A : Around} {outer : List Env} {s : Shared} {H : Hp} {E : XK} (hr : Room 2 (A.deeper (envOfC "dot" (defScope s_dot) s.heap.objs.size f cdv))) :
    PSs (cxOf CX0 P w K mg base ["v", "w"] "dot" (defScope s_dot) f cdv A outer s H E).nox (defBody s_dot) (t_dot K) := by
  have nd := sc_dot.nd
  exact (pss_one (ps_ret (C8.pe_c c_plus hr (by omega) (by rfl) (pa_cons (C8.pe_c c_times hr (by omega) (by rfl) (pa_cons (pe_ix ix_seq (pv 0) pe_int (fun _ _ => rfl)) (pa_cons (pe_ix ix_seq (pv 1) pe_int (fun _ _ => rfl)) pa_nil))) (pa_cons (C8.pe_c c_times hr (by omega) (by rfl) (pa_cons (pe_ix ix_seq (pv 0) pe_int (fun _ _ => rfl)) (pa_cons (pe_ix ix_seq (pv 1) pe_int (fun _ _ => rfl)) pa_nil))) pa_nil)))))

theorem run_dot {K : PySem.W.Frag} : BodyOk K (t_dot K) 0 C_dot := by
  refine body_pure ?_
  rintro ds d ⟨a, b, ⟨n, m, ha, hb, h⟩, rfl, rfl⟩
  refine ⟨[.fr (ptD a), .fr (ptD b)], ?_, Nat.le_of_ble_eq_true rfl⟩
  show StJ K (t_dot K) [.fr (ptD a), .fr (ptD b)] (.rt (.fr (dR (a.x * b.x + a.y * b.y))) _)
  apply q_ret
  · walk_at "ev"
    · exact ⟨n, m, ha.1, hb.1, by omega⟩
    · exact ⟨n, m, ha.2, hb.2, by omega⟩
    · exact ⟨n + m, n + m, ha.1.mul hb.1, ha.2.mul hb.2, by omega⟩
  · rfl
theorem len_dot : ∀ args r args', C_dot args r args' → args.length = 2 := lenP fun ds d ⟨a, b, _, h, _⟩ => by rw [h]; rfl
theorem ok_dot {P : Program} {w : World} {K : PySem.W.Frag} {mg : Str → Option Value} {base : Heap} (B : Blt mg) (Df : DefAt K mg "dot" s_dot ["v", "w"]) (c_plus : C8.Cal P w K mg base 2 "plus" (spD K C_plus) []) (c_times : C8.Cal P w K mg base 2 "times" (spD K C_times) []) : C8.Cal P w K mg base 3 "dot" (spD K C_dot) [] :=
  cal_of Df sc_dot len_dot rfl fun f cdv A outer s H E hr => ⟨t_dot K, tm_dot B c_plus c_times hr, run_dot⟩

/-- by x, then by y -/
def cmpP (p q : Pt) : Int := if cmpR p.x q.x ≠ 0 then cmpR p.x q.x else cmpR p.y q.y
def F_compare_points (ds : List D) (d : D) : Prop := ∃ p q, TwoP p q ∧ ds = [ptD p, ptD q] ∧ d = .int (cmpP p q)
abbrev C_compare_points : Con := CP F_compare_points
/-! compare_points: slots 0 p, 1 q, 2 by_x -/
abbrev s_compare_points : Stmt := topS 13
theorem sc_compare_points : FnScope ["p", "q", "by_x"] ["p", "q"] (defScope s_compare_points) := ⟨rfl, rfl, rfl, by decide +kernel, rfl, by decide +kernel, by decide +kernel⟩
def t_compare_points (K : PySem.W.Frag) : TS :=
  (tSeq (tAsg (tCall (spD K C_compare) [] E0 (tCons (tOp (rIx K) (tVar 0) (tC (.int 0))) (tCons (tOp (rIx K) (tVar 1) (tC (.int 0))) tNil))) (gName 2))
    (tRet (tIf (tTest (tOp (rNeD K) (tVar 2) (tC (.int 0)))) (tVar 2) (tCall (spD K C_compare) [] E0 (tCons (tOp (rIx K) (tVar 0) (tC (.int 1))) (tCons (tOp (rIx K) (tVar 1) (tC (.int 1))) tNil))))))
theorem tm_compare_points {P : Program} {w : World} {K : PySem.W.Frag} {mg : Str → Option Value} {base : Heap} (B : Blt mg) (c_compare : C8.Cal P w K mg base 1 "compare" (spD K C_compare) []) {f : Addr} {cdv : Value} {A : Around} {outer : List Env} {s : Shared} {H : Hp} {E : XK} (hr : Room 1 (A.deeper (envOfC "compare_points" (defScope s_compare_points) s.heap.objs.size f cdv))) :
    PSs (cxOf CX0 P w K mg base ["p", "q", "by_x"] "compare_points" (defScope s_compare_points) f cdv A outer s H E).nox (defBody s_compare_points) (t_compare_points K) := by
  have nd := sc_compare_points.nd
  exact (pss_cons (ps_set (i := 2) nd rfl (Or.inl rfl) (C8.pe_c c_compare hr (by omega) (by rfl) (pa_cons (pe_ix ix_seq (pv 0) pe_int (fun _ _ => rfl)) (pa_cons (pe_ix ix_seq (pv 1) pe_int (fun _ _ => rfl)) pa_nil))))
    (pss_one (ps_ret (pe_ifExp (pt_cmpR (op_neD hr.units) (pv 2) pe_int (nomark _)) (pv 2) (C8.pe_c c_compare hr (by omega) (by rfl) (pa_cons (pe_ix ix_seq (pv 0) pe_int (fun _ _ => rfl)) (pa_cons (pe_ix ix_seq (pv 1) pe_int (fun _ _ => rfl)) pa_nil)))))))

theorem run_compare_points {K : PySem.W.Frag} : BodyOk K (t_compare_points K) 1 C_compare_points := by
  refine body_pure ?_
  rintro ds d ⟨a, b, ⟨n, m, ha, hb, h⟩, rfl, rfl⟩
  refine ⟨[.fr (ptD a), .fr (ptD b), .fr (.int (cmpR a.x b.x))], ?_, Nat.le_of_ble_eq_true rfl⟩
  show StJ K (t_compare_points K) [.fr (ptD a), .fr (ptD b), .no] _
  apply q_set
  · walk_at "ev"
    exact ⟨n, m, ha.1, hb.1, by omega⟩
  · walk_at "np"
  apply q_ret
  · apply EvJ.conv
    · apply ev_ifP
      · walk_at "ev"
      · walk_at "ev"
      · walk_at "ev"
        exact ⟨n, m, ha.2, hb.2, by omega⟩
    · show _ = PyData.int (cmpP a b)
      unfold cmpP
      show (if (!(cmpR a.x b.x == 0)) = true then _ else _) = _
      by_cases e : cmpR a.x b.x = 0
      · rw [if_neg (by rw [e]; decide), if_neg (by rw [e]; decide)]
      · rw [if_pos (by rw [beq_eq_false_iff_ne.mpr e]; rfl), if_pos e]
  · rfl
theorem len_compare_points : ∀ args r args', C_compare_points args r args' → args.length = 2 := lenP fun ds d ⟨a, b, _, h, _⟩ => by rw [h]; rfl
theorem ok_compare_points {P : Program} {w : World} {K : PySem.W.Frag} {mg : Str → Option Value} {base : Heap} (B : Blt mg) (Df : DefAt K mg "compare_points" s_compare_points ["p", "q"]) (c_compare : C8.Cal P w K mg base 1 "compare" (spD K C_compare) []) : C8.Cal P w K mg base 2 "compare_points" (spD K C_compare_points) [] :=
  cal_of Df sc_compare_points len_compare_points rfl fun f cdv A outer s H E hr => ⟨t_compare_points K, tm_compare_points B c_compare hr, run_compare_points⟩

theorem cmpR_zero {a b : Rat} : cmpR a b = 0 ↔ a = b := by
  unfold cmpR
  constructor
  · intro h
    split at h
    · cases h
    · split at h
      · cases h
      · grind
  · rintro rfl
    rw [if_neg (Rat.lt_irrefl), if_neg (Rat.lt_irrefl)]
theorem cmpR_pos {a b : Rat} : 0 < cmpR a b ↔ b < a := by
  unfold cmpR
  by_cases h1 : a < b
  · rw [if_pos h1]
    constructor
    · intro h
      exact absurd h (by decide)
    · intro h
      grind
  · rw [if_neg h1]
    by_cases h2 : b < a
    · rw [if_pos h2]
      exact ⟨fun _ => h2, fun _ => by decide⟩
    · rw [if_neg h2]
      exact ⟨fun h => absurd h (by decide), fun h => absurd h h2⟩
theorem cmpP_zero {a b : Pt} : cmpP a b = 0 ↔ a = b := by
  unfold cmpP
  by_cases h : cmpR a.x b.x = 0
  · rw [if_neg (fun z => z h), cmpR_zero]
    have e := cmpR_zero.mp h
    cases a
    cases b
    simp only [Pt.mk.injEq] at *
    exact ⟨fun q => ⟨e, q⟩, fun q => q.2⟩
  · rw [if_pos h]
    constructor
    · intro z
      exact absurd z h
    · rintro rfl
      exact cmpR_zero.mpr rfl
section
variable {K : PySem.W.Frag} {δ δ1 : List Sl} {ta : TA} {a b : Pt} {E0' : XK}
theorem ev_gap (ha : EvA K ta δ [.fr (ptD a), .fr (ptD b)] δ1) (h : TwoP a b) : EvJ K (tCall (spD K C_gap) [] E0' ta) δ (.fr (ptD (gapQ a b))) δ1 := ev_callP ha rfl ⟨a, b, h, rfl, rfl⟩
theorem ev_cross (ha : EvA K ta δ [.fr (ptD a), .fr (ptD b)] δ1) (h : TwoP a b) : EvJ K (tCall (spD K C_cross) [] E0' ta) δ (.fr (dR (crossQ a b))) δ1 := ev_callP ha rfl ⟨a, b, h, rfl, rfl⟩
theorem ev_dot (ha : EvA K ta δ [.fr (ptD a), .fr (ptD b)] δ1) (h : TwoP a b) : EvJ K (tCall (spD K C_dot) [] E0' ta) δ (.fr (dR (dotQ a b))) δ1 := ev_callP ha rfl ⟨a, b, h, rfl, rfl⟩
theorem ev_compare_points (ha : EvA K ta δ [.fr (ptD a), .fr (ptD b)] δ1) (h : TwoP a b) : EvJ K (tCall (spD K C_compare_points) [] E0' ta) δ (.fr (.int (cmpP a b))) δ1 := ev_callP ha rfl ⟨a, b, h, rfl, rfl⟩
end

end DL
namespace DL
open PySem PySem.Spec PyProof.Rows L2
local macro_rules | `(tactic| walk_at "len") => `(tactic| exact Nat.le_of_ble_eq_true rfl)
local macro_rules | `(tactic| walk_at "np") => `(tactic| (intro o z; cases z))
local macro_rules | `(tactic| walk_at "od") => `(tactic| first
  | exact od_addI | exact od_subI | exact od_subB | exact od_I0b | exact od_I0
  | exact od_ix rfl rfl | exact od_eq rfl rfl rfl rfl | exact od_ne rfl rfl rfl rfl | exact od_isN | exact od_notN
  | with_reducible apply od_mulI | with_reducible apply od_I | exact ud_I)
local macro_rules | `(tactic| walk_at "cd") => `(tactic| first
  | exact cd_len rfl | exact cd_abs | exact cd_int | exact cd_intB | exact cd_gcd | exact cd_tup rfl | exact cd_lst rfl)
local macro_rules | `(tactic| walk_at "ev1") => `(tactic| first
  | exact ev_int | exact ev_bl | exact ev_str | exact ev_non | exact ev_var rfl | exact ev_varO rfl
  | with_reducible apply ev_op | with_reducible apply ev_un
  | exact ea_nil | with_reducible apply ea_cons
  | with_reducible apply ev_isi | with_reducible apply ev_dget
  | with_reducible apply ev_cb
  | with_reducible apply ev_tup' | with_reducible apply ev_lstF
  | with_reducible apply tt_test | with_reducible apply tt_B | with_reducible apply tt_not
  | walk_at "od" | walk_at "cd" | walk_at "len" | rfl)
local macro_rules | `(tactic| walk_at "ev") => `(tactic| repeat' walk_at "ev1")
local macro_rules | `(tactic| walk_at "set") => `(tactic| (with_reducible apply q_set; rotate_left; walk_at "np"; rotate_left; walk_at "ev"))

local macro_rules | `(tactic| walk_at "ev1") => `(tactic| first
  | with_reducible apply ev_plus | with_reducible apply ev_minus | with_reducible apply ev_times | with_reducible apply ev_over | with_reducible apply ev_compare | with_reducible apply ev_fraction)

local macro_rules | `(tactic| walk_at "ev1") => `(tactic| first
  | with_reducible apply ev_gap | with_reducible apply ev_cross | with_reducible apply ev_dot | with_reducible apply ev_compare_points)

/-! ### sizes -/
def OnG (D : Int) (q : Rat) : Prop := ∃ m : Int, q = (m : Rat) / (D : Rat) ∧ 0 ≤ m ∧ m ≤ 8 * D
def GridP (D : Int) (p : Pt) : Prop := OnG D p.x ∧ OnG D p.y
def DOk (D : Int) : Prop := 0 < D ∧ D < 2 ^ 14
theorem fit_div {m D : Int} {n : Nat} (h0 : D ≠ 0) (h1 : m.natAbs < 2 ^ n) (h2 : D.natAbs < 2 ^ n) : Fit n ((m : Rat) / (D : Rat)) := by
  rw [← Rat.divInt_eq_div]
  exact ⟨Nat.lt_of_le_of_lt (divInt_num_le h0) h1, Nat.lt_of_le_of_lt (divInt_den_le h0) h2⟩
theorem OnG.fit {D : Int} {q : Rat} (h : OnG D q) (d : DOk D) : Fit 17 q := by
  obtain ⟨m, rfl, h0, h1⟩ := h
  obtain ⟨d0, d1⟩ := d
  exact fit_div (by omega) (by omega) (by omega)
theorem GridP.fit {D : Int} {p : Pt} (h : GridP D p) (d : DOk D) : FitP 17 p := ⟨h.1.fit d, h.2.fit d⟩
theorem dot_grid {D : Int} {a b p : Pt} (d : DOk D) (ha : GridP D a) (hb : GridP D b) (hp : GridP D p) : ∃ I : Int, I.natAbs < 2 ^ 36 ∧ dotQ (gapQ a b) (gapQ a p) = (I : Rat) * ((1 / (D : Rat)) * (1 / (D : Rat))) := by
  obtain ⟨⟨a1, e1, l1, u1⟩, ⟨a2, e2, l2, u2⟩⟩ := ha
  obtain ⟨⟨b1, f1, k1, v1⟩, ⟨b2, f2, k2, v2⟩⟩ := hb
  obtain ⟨⟨p1, g1, m1, w1⟩, ⟨p2, g2, m2, w2⟩⟩ := hp
  obtain ⟨d0, d1⟩ := d
  have small : ∀ u v : Int, u.natAbs < 2 ^ 17 → v.natAbs < 2 ^ 17 → (u * v).natAbs < 2 ^ 34 := fun u v hu hv => by
    rw [Int.natAbs_mul]
    exact pow_split (n := 17) (m := 17) hu hv
  have s1 := small (b1 - a1) (p1 - a1) (by omega) (by omega)
  have s2 := small (b2 - a2) (p2 - a2) (by omega) (by omega)
  refine ⟨(b1 - a1) * (p1 - a1) + (b2 - a2) * (p2 - a2), by omega, ?_⟩
  unfold dotQ gapQ
  rw [e1, e2, f1, f2, g1, g2]
  simp only [Rat.intCast_add, Rat.intCast_mul, Rat.intCast_sub]
  grind
theorem part_fit {D : Int} {a b p : Pt} (d : DOk D) (ha : GridP D a) (hb : GridP D b) (hp : GridP D p) (hab : a ≠ b) : Fit 36 (partQ a b p) := by
  obtain ⟨I, i1, i2⟩ := dot_grid d ha hb hp
  obtain ⟨J, j1, j2⟩ := dot_grid d ha hb hb
  have W := way_pos hab
  unfold partQ
  rw [j2] at W ⊢
  rw [i2]
  have hJ : J ≠ 0 := fun z => by
    rw [z] at W
    simp at W
  have hr : (1 / (D : Rat)) * (1 / (D : Rat)) ≠ 0 := fun z => by
    rw [z] at W
    simp at W
  have hJr : (J : Rat) ≠ 0 := fun z => hJ (by exact_mod_cast z)
  have e : (I : Rat) * ((1 / (D : Rat)) * (1 / (D : Rat))) / ((J : Rat) * ((1 / (D : Rat)) * (1 / (D : Rat)))) = (I : Rat) / (J : Rat) := by
    generalize (1 / (D : Rat)) * (1 / (D : Rat)) = r at *
    grind
  rw [e]
  exact fit_div hJ i1 j1
theorem along_fit {a b : Pt} {t : Rat} {n m k : Nat} (ha : FitP n a) (hb : FitP m b) (ht : Fit k t) : FitP (n + (k + (n + m + 1)) + 1) (alongQ a b t) :=
  ⟨ha.1.add (ht.mul (ha.gap hb).1), ha.2.add (ht.mul (ha.gap hb).2)⟩
theorem near_fit {D : Int} {a b p : Pt} (d : DOk D) (ha : GridP D a) (hb : GridP D b) (hp : GridP D p) (hab : a ≠ b) : FitP 89 (nearQ a b p) := by
  unfold nearQ
  split
  · exact (ha.fit d).mono (by omega)
  · split
    · exact (hb.fit d).mono (by omega)
    · have h := along_fit (ha.fit d) (hb.fit d) (part_fit d ha hb hp hab)
      exact h.mono (by omega)
theorem sq_fit {a b : Pt} {n m : Nat} (ha : FitP n a) (hb : FitP m b) : Fit (4 * (n + m) + 5) (sqQ a b) := by
  have := (ha.gap hb).dot (ha.gap hb)
  exact Fit.mono this (by omega)
theorem far_fit {D : Int} {a b p : Pt} (d : DOk D) (ha : GridP D a) (hb : GridP D b) (hp : GridP D p) : Fit 429 (farQ a b p) := by
  unfold farQ
  by_cases e : a = b
  · rw [if_pos e]
    exact (sq_fit (ha.fit d) (hp.fit d)).mono (by omega)
  · rw [if_neg e]
    exact (sq_fit (hp.fit d) (near_fit d ha hb hp e)).mono (by omega)
/-! ### along, square, nearest_on, far_from -/
def F_along (ds : List D) (d : D) : Prop := ∃ n m k a b t, FitP n a ∧ FitP m b ∧ Fit k t ∧ n + m + k ≤ 2000 ∧ ds = [ptD a, ptD b, dR t] ∧ d = ptD (alongQ a b t)
abbrev C_along : Con := CP F_along
/-! along: slots 0 a, 1 b, 2 part, 3 way -/
abbrev s_along : Stmt := topS 14
theorem sc_along : FnScope ["a", "b", "part", "way"] ["a", "b", "part"] (defScope s_along) := ⟨rfl, rfl, rfl, by decide +kernel, rfl, by decide +kernel, by decide +kernel⟩
def t_along (K : PySem.W.Frag) : TS :=
  (tSeq (tAsg (tCall (spD K C_gap) [] E0 (tCons (tVar 0) (tCons (tVar 1) tNil))) (gName 3))
    (tRet (tTup (tCons (tCall (spD K C_plus) [] E0 (tCons (tOp (rIx K) (tVar 0) (tC (.int 0))) (tCons (tCall (spD K C_times) [] E0 (tCons (tVar 2) (tCons (tOp (rIx K) (tVar 3) (tC (.int 0))) tNil))) tNil))) (tCons (tCall (spD K C_plus) [] E0 (tCons (tOp (rIx K) (tVar 0) (tC (.int 1))) (tCons (tCall (spD K C_times) [] E0 (tCons (tVar 2) (tCons (tOp (rIx K) (tVar 3) (tC (.int 1))) tNil))) tNil))) tNil)))))
theorem tm_along {P : Program} {w : World} {K : PySem.W.Frag} {mg : Str → Option Value} {base : Heap} (B : Blt mg) (c_gap : C8.Cal P w K mg base 3 "gap" (spD K C_gap) []) (c_plus : C8.Cal P w K mg base 2 "plus" (spD K C_plus) []) (c_times : C8.Cal P w K mg base 2 "times" (spD K C_times) []) {f : Addr} {cdv : Value} {A : Around} {outer : List Env} {s : Shared} {H : Hp} {E : XK} (hr : Room 3 (A.deeper (envOfC "along" (defScope s_along) s.heap.objs.size f cdv))) :
    PSs (cxOf CX0 P w K mg base ["a", "b", "part", "way"] "along" (defScope s_along) f cdv A outer s H E).nox (defBody s_along) (t_along K) := by
  have nd := sc_along.nd
  exact (pss_cons (ps_set (i := 3) nd rfl (Or.inl rfl) (C8.pe_c c_gap hr (by omega) (by rfl) (pa_cons (pv 0) (pa_cons (pv 1) pa_nil))))
    (pss_one (ps_ret (pe_tup (pa_cons (C8.pe_c c_plus hr (by omega) (by rfl) (pa_cons (pe_ix ix_seq (pv 0) pe_int (fun _ _ => rfl)) (pa_cons (C8.pe_c c_times hr (by omega) (by rfl) (pa_cons (pv 2) (pa_cons (pe_ix ix_seq (pv 3) pe_int (fun _ _ => rfl)) pa_nil))) pa_nil))) (pa_cons (C8.pe_c c_plus hr (by omega) (by rfl) (pa_cons (pe_ix ix_seq (pv 0) pe_int (fun _ _ => rfl)) (pa_cons (C8.pe_c c_times hr (by omega) (by rfl) (pa_cons (pv 2) (pa_cons (pe_ix ix_seq (pv 3) pe_int (fun _ _ => rfl)) pa_nil))) pa_nil))) pa_nil))))))

theorem run_along {K : PySem.W.Frag} : BodyOk K (t_along K) 1 C_along := by
  refine body_pure ?_
  rintro ds d ⟨n, m, k, a, b, t, ha, hb, ht, h, rfl, rfl⟩
  refine ⟨[.fr (ptD a), .fr (ptD b), .fr (dR t), .fr (ptD (gapQ a b))], ?_, Nat.le_of_ble_eq_true rfl⟩
  show StJ K (t_along K) [.fr (ptD a), .fr (ptD b), .fr (dR t), .no] (.rt (.fr (.tuple [dR (a.x + t * (gapQ a b).x), dR (a.y + t * (gapQ a b).y)])) _)
  have hw := ha.gap hb
  apply q_set
  · walk_at "ev"
    exact ⟨n, m, ha, hb, by omega⟩
  · walk_at "np"
  apply q_ret
  · walk_at "ev"
    · exact ⟨k, n + m + 1, ht, hw.1, by omega⟩
    · exact ⟨n, k + (n + m + 1), ha.1, ht.mul hw.1, by omega⟩
    · exact ⟨k, n + m + 1, ht, hw.2, by omega⟩
    · exact ⟨n, k + (n + m + 1), ha.2, ht.mul hw.2, by omega⟩
  · rfl
theorem len_along : ∀ args r args', C_along args r args' → args.length = 3 := lenP fun ds d ⟨_, _, _, _, _, _, _, _, _, _, h, _⟩ => by rw [h]; rfl
theorem ok_along {P : Program} {w : World} {K : PySem.W.Frag} {mg : Str → Option Value} {base : Heap} (B : Blt mg) (Df : DefAt K mg "along" s_along ["a", "b", "part"]) (c_gap : C8.Cal P w K mg base 3 "gap" (spD K C_gap) []) (c_plus : C8.Cal P w K mg base 2 "plus" (spD K C_plus) []) (c_times : C8.Cal P w K mg base 2 "times" (spD K C_times) []) : C8.Cal P w K mg base 4 "along" (spD K C_along) [] :=
  cal_of Df sc_along len_along rfl fun f cdv A outer s H E hr => ⟨t_along K, tm_along B c_gap c_plus c_times hr, run_along⟩

def F_square (ds : List D) (d : D) : Prop := ∃ n m a b, FitP n a ∧ FitP m b ∧ n + m ≤ 900 ∧ ds = [ptD a, ptD b] ∧ d = dR (sqQ a b)
abbrev C_square : Con := CP F_square
/-! square: slots 0 a, 1 b, 2 way -/
abbrev s_square : Stmt := topS 16
theorem sc_square : FnScope ["a", "b", "way"] ["a", "b"] (defScope s_square) := ⟨rfl, rfl, rfl, by decide +kernel, rfl, by decide +kernel, by decide +kernel⟩
def t_square (K : PySem.W.Frag) : TS :=
  (tSeq (tAsg (tCall (spD K C_gap) [] E0 (tCons (tVar 0) (tCons (tVar 1) tNil))) (gName 2))
    (tRet (tCall (spD K C_dot) [] E0 (tCons (tVar 2) (tCons (tVar 2) tNil)))))
theorem tm_square {P : Program} {w : World} {K : PySem.W.Frag} {mg : Str → Option Value} {base : Heap} (B : Blt mg) (c_gap : C8.Cal P w K mg base 3 "gap" (spD K C_gap) []) (c_dot : C8.Cal P w K mg base 3 "dot" (spD K C_dot) []) {f : Addr} {cdv : Value} {A : Around} {outer : List Env} {s : Shared} {H : Hp} {E : XK} (hr : Room 3 (A.deeper (envOfC "square" (defScope s_square) s.heap.objs.size f cdv))) :
    PSs (cxOf CX0 P w K mg base ["a", "b", "way"] "square" (defScope s_square) f cdv A outer s H E).nox (defBody s_square) (t_square K) := by
  have nd := sc_square.nd
  exact (pss_cons (ps_set (i := 2) nd rfl (Or.inl rfl) (C8.pe_c c_gap hr (by omega) (by rfl) (pa_cons (pv 0) (pa_cons (pv 1) pa_nil))))
    (pss_one (ps_ret (C8.pe_c c_dot hr (by omega) (by rfl) (pa_cons (pv 2) (pa_cons (pv 2) pa_nil))))))

theorem run_square {K : PySem.W.Frag} : BodyOk K (t_square K) 1 C_square := by
  refine body_pure ?_
  rintro ds d ⟨n, m, a, b, ha, hb, h, rfl, rfl⟩
  refine ⟨[.fr (ptD a), .fr (ptD b), .fr (ptD (gapQ a b))], ?_, Nat.le_of_ble_eq_true rfl⟩
  show StJ K (t_square K) [.fr (ptD a), .fr (ptD b), .no] (.rt (.fr (dR (dotQ (gapQ a b) (gapQ a b)))) _)
  have hw := ha.gap hb
  apply q_set
  · walk_at "ev"
    exact ⟨n, m, ha, hb, by omega⟩
  · walk_at "np"
  apply q_ret
  · walk_at "ev"
    exact ⟨_, _, hw, hw, by omega⟩
  · rfl
theorem len_square : ∀ args r args', C_square args r args' → args.length = 2 := lenP fun ds d ⟨_, _, _, _, _, _, _, h, _⟩ => by rw [h]; rfl
theorem ok_square {P : Program} {w : World} {K : PySem.W.Frag} {mg : Str → Option Value} {base : Heap} (B : Blt mg) (Df : DefAt K mg "square" s_square ["a", "b"]) (c_gap : C8.Cal P w K mg base 3 "gap" (spD K C_gap) []) (c_dot : C8.Cal P w K mg base 3 "dot" (spD K C_dot) []) : C8.Cal P w K mg base 4 "square" (spD K C_square) [] :=
  cal_of Df sc_square len_square rfl fun f cdv A outer s H E hr => ⟨t_square K, tm_square B c_gap c_dot hr, run_square⟩

def F_nearest_on (ds : List D) (d : D) : Prop := ∃ (M : Int) (a b p : Pt), DOk M ∧ GridP M a ∧ GridP M b ∧ GridP M p ∧ a ≠ b ∧ ds = [ptD a, ptD b, ptD p] ∧ d = ptD (nearQ a b p)
abbrev C_nearest_on : Con := CP F_nearest_on
/-! nearest_on: slots 0 a, 1 b, 2 point, 3 way, 4 part -/
abbrev s_nearest_on : Stmt := topS 17
theorem sc_nearest_on : FnScope ["a", "b", "point", "way", "part"] ["a", "b", "point"] (defScope s_nearest_on) := ⟨rfl, rfl, rfl, by decide +kernel, rfl, by decide +kernel, by decide +kernel⟩
def t_nearest_on (K : PySem.W.Frag) : TS :=
  (tSeq (tAsg (tCall (spD K C_gap) [] E0 (tCons (tVar 0) (tCons (tVar 1) tNil))) (gName 3))
    (tSeq (tAsg (tCall (spD K C_over) [] E0 (tCons (tCall (spD K C_dot) [] E0 (tCons (tVar 3) (tCons (tCall (spD K C_gap) [] E0 (tCons (tVar 0) (tCons (tVar 2) tNil))) tNil))) (tCons (tCall (spD K C_dot) [] E0 (tCons (tVar 3) (tCons (tVar 3) tNil))) tNil))) (gName 4))
    (tSeq (tIfS (tTest (tOp (rI0 fun i j => .bl (decide (i ≤ j))) (tOp (rIx K) (tVar 4) (tC (.int 0))) (tC (.int 0)))) (tRet (tVar 0)) tNext)
    (tSeq (tIfS (tTest (tOp (rI0 fun i j => .bl (decide (j ≤ i))) (tOp (rIx K) (tVar 4) (tC (.int 0))) (tOp (rIx K) (tVar 4) (tC (.int 1))))) (tRet (tVar 1)) tNext)
    (tRet (tCall (spD K C_along) [] E0 (tCons (tVar 0) (tCons (tVar 1) (tCons (tVar 4) tNil)))))))))
theorem tm_nearest_on {P : Program} {w : World} {K : PySem.W.Frag} {mg : Str → Option Value} {base : Heap} (B : Blt mg) (c_gap : C8.Cal P w K mg base 3 "gap" (spD K C_gap) []) (c_over : C8.Cal P w K mg base 2 "over" (spD K C_over) []) (c_along : C8.Cal P w K mg base 4 "along" (spD K C_along) []) (c_dot : C8.Cal P w K mg base 3 "dot" (spD K C_dot) []) {f : Addr} {cdv : Value} {A : Around} {outer : List Env} {s : Shared} {H : Hp} {E : XK} (hr : Room 4 (A.deeper (envOfC "nearest_on" (defScope s_nearest_on) s.heap.objs.size f cdv))) :
    PSs (cxOf CX0 P w K mg base ["a", "b", "point", "way", "part"] "nearest_on" (defScope s_nearest_on) f cdv A outer s H E).nox (defBody s_nearest_on) (t_nearest_on K) := by
  have nd := sc_nearest_on.nd
  exact (pss_cons (ps_set (i := 3) nd rfl (Or.inl rfl) (C8.pe_c c_gap hr (by omega) (by rfl) (pa_cons (pv 0) (pa_cons (pv 1) pa_nil))))
    (pss_cons (ps_set (i := 4) nd rfl (Or.inl rfl) (C8.pe_c c_over hr (by omega) (by rfl) (pa_cons (C8.pe_c c_dot hr (by omega) (by rfl) (pa_cons (pv 3) (pa_cons (C8.pe_c c_gap hr (by omega) (by rfl) (pa_cons (pv 0) (pa_cons (pv 2) pa_nil))) pa_nil))) (pa_cons (C8.pe_c c_dot hr (by omega) (by rfl) (pa_cons (pv 3) (pa_cons (pv 3) pa_nil))) pa_nil))))
    (pss_cons (ps_if (pt_cmpR op_le (pe_ix ix_seq (pv 4) pe_int (fun _ _ => rfl)) pe_int (nomark _)) (pss_one (ps_ret (pv 0))) pss_nil)
    (pss_cons (ps_if (pt_cmpR op_ge (pe_ix ix_seq (pv 4) pe_int (fun _ _ => rfl)) (pe_ix ix_seq (pv 4) pe_int (fun _ _ => rfl)) (nomark _)) (pss_one (ps_ret (pv 1))) pss_nil)
    (pss_one (ps_ret (C8.pe_c c_along hr (by omega) (by rfl) (pa_cons (pv 0) (pa_cons (pv 1) (pa_cons (pv 4) pa_nil))))))))))

theorem num_le {q : Rat} : q.num ≤ 0 ↔ q ≤ 0 := by
  rw [Rat.le_iff]
  simp
theorem den_le {q : Rat} : (q.den : Int) ≤ q.num ↔ 1 ≤ q := by
  rw [Rat.le_iff]
  simp
theorem run_nearest_on {K : PySem.W.Frag} : BodyOk K (t_nearest_on K) 2 C_nearest_on := by
  refine body_pure ?_
  rintro ds d ⟨M, a, b, p, hM, ha, hb, hp, hab, rfl, rfl⟩
  have fa := ha.fit hM
  have fb := hb.fit hM
  have fp := hp.fit hM
  have hw := fa.gap fb
  have hv := fa.gap fp
  have W := way_pos hab
  have ft := part_fit hM ha hb hp hab
  refine ⟨[.fr (ptD a), .fr (ptD b), .fr (ptD p), .fr (ptD (gapQ a b)), .fr (dR (partQ a b p))], ?_, Nat.le_of_ble_eq_true rfl⟩
  show StJ K (t_nearest_on K) [.fr (ptD a), .fr (ptD b), .fr (ptD p), .no, .no] _
  apply q_set
  · walk_at "ev"
    exact ⟨17, 17, fa, fb, by decide⟩
  · walk_at "np"
  apply q_set (d := dR (partQ a b p))
  · unfold partQ
    walk_at "ev"
    · exact ⟨17, 17, fa, fp, by decide⟩
    · exact ⟨35, 35, hw, hv, by decide⟩
    · exact ⟨35, 35, hw, hw, by decide⟩
    · exact ⟨141, 141, hw.dot hv, hw.dot hw, by decide⟩
    · grind
  · walk_at "np"
  have e0 : nearQ a b p = if partQ a b p ≤ 0 then a else if 1 ≤ partQ a b p then b else alongQ a b (partQ a b p) := rfl
  rw [e0]
  generalize partQ a b p = t at *
  apply st_ifq (b := decide (t ≤ 0))
  · have e : decide (t ≤ 0) = decide (t.num ≤ 0) := by simp only [num_le]
    rw [e]
    walk_at "ev"
  · intro h
    rw [if_pos (of_decide_eq_true h)]
    exact q_retq (ev_var rfl) rfl
  · intro h
    rw [if_neg (of_decide_eq_false h)]
    apply st_nextq
    apply st_ifq (b := decide (1 ≤ t))
    · have e : decide (1 ≤ t) = decide ((t.den : Int) ≤ t.num) := by simp only [den_le]
      rw [e]
      walk_at "ev"
    · intro h
      rw [if_pos (of_decide_eq_true h)]
      exact q_retq (ev_var rfl) rfl
    · intro h
      rw [if_neg (of_decide_eq_false h)]
      apply st_nextq
      apply q_ret
      · apply ev_callP
        · walk_at "ev"
        · rfl
        · exact ⟨17, 17, 36, a, b, t, fa, fb, ft, by decide, rfl, rfl⟩
      · rfl
theorem len_nearest_on : ∀ args r args', C_nearest_on args r args' → args.length = 3 := lenP fun ds d ⟨_, _, _, _, _, _, _, _, _, h, _⟩ => by rw [h]; rfl
theorem ok_nearest_on {P : Program} {w : World} {K : PySem.W.Frag} {mg : Str → Option Value} {base : Heap} (B : Blt mg) (Df : DefAt K mg "nearest_on" s_nearest_on ["a", "b", "point"]) (c_gap : C8.Cal P w K mg base 3 "gap" (spD K C_gap) []) (c_over : C8.Cal P w K mg base 2 "over" (spD K C_over) []) (c_along : C8.Cal P w K mg base 4 "along" (spD K C_along) []) (c_dot : C8.Cal P w K mg base 3 "dot" (spD K C_dot) []) : C8.Cal P w K mg base 5 "nearest_on" (spD K C_nearest_on) [] :=
  cal_of Df sc_nearest_on len_nearest_on rfl fun f cdv A outer s H E hr => ⟨t_nearest_on K, tm_nearest_on B c_gap c_over c_along c_dot hr, run_nearest_on⟩


end DL
namespace DL
open PySem PySem.Spec PyProof.Rows L2
local macro_rules | `(tactic| walk_at "len") => `(tactic| exact Nat.le_of_ble_eq_true rfl)
local macro_rules | `(tactic| walk_at "np") => `(tactic| (intro o z; cases z))
local macro_rules | `(tactic| walk_at "od") => `(tactic| first
  | exact od_addI | exact od_subI | exact od_subB | exact od_I0b | exact od_I0
  | exact od_ix rfl rfl | exact od_eq rfl rfl rfl rfl | exact od_ne rfl rfl rfl rfl | exact od_isN | exact od_notN
  | with_reducible apply od_mulI | with_reducible apply od_I | exact ud_I)
local macro_rules | `(tactic| walk_at "cd") => `(tactic| first
  | exact cd_len rfl | exact cd_abs | exact cd_int | exact cd_intB | exact cd_gcd | exact cd_tup rfl | exact cd_lst rfl)
local macro_rules | `(tactic| walk_at "ev1") => `(tactic| first
  | exact ev_int | exact ev_bl | exact ev_str | exact ev_non | exact ev_var rfl | exact ev_varO rfl
  | with_reducible apply ev_op | with_reducible apply ev_un
  | exact ea_nil | with_reducible apply ea_cons
  | with_reducible apply ev_isi | with_reducible apply ev_dget
  | with_reducible apply ev_cb
  | with_reducible apply ev_tup' | with_reducible apply ev_lstF
  | with_reducible apply tt_test | with_reducible apply tt_B | with_reducible apply tt_not
  | walk_at "od" | walk_at "cd" | walk_at "len" | rfl)
local macro_rules | `(tactic| walk_at "ev") => `(tactic| repeat' walk_at "ev1")
local macro_rules | `(tactic| walk_at "set") => `(tactic| (with_reducible apply q_set; rotate_left; walk_at "np"; rotate_left; walk_at "ev"))

local macro_rules | `(tactic| walk_at "ev1") => `(tactic| first
  | with_reducible apply ev_plus | with_reducible apply ev_minus | with_reducible apply ev_times | with_reducible apply ev_over | with_reducible apply ev_compare | with_reducible apply ev_fraction)

local macro_rules | `(tactic| walk_at "ev1") => `(tactic| first
  | with_reducible apply ev_gap | with_reducible apply ev_cross | with_reducible apply ev_dot | with_reducible apply ev_compare_points)

/-! ### far_from, farthest -/
def F_far_from (ds : List D) (d : D) : Prop := ∃ (M : Int) (a b p : Pt), DOk M ∧ GridP M a ∧ GridP M b ∧ GridP M p ∧ ds = [ptD a, ptD b, ptD p] ∧ d = dR (farQ a b p)
abbrev C_far_from : Con := CP F_far_from
/-! far_from: slots 0 a, 1 b, 2 point -/
abbrev s_far_from : Stmt := topS 20
theorem sc_far_from : FnScope ["a", "b", "point"] ["a", "b", "point"] (defScope s_far_from) := ⟨rfl, rfl, rfl, by decide +kernel, rfl, by decide +kernel, by decide +kernel⟩
def t_far_from (K : PySem.W.Frag) : TS :=
  (tSeq (tIfS (tTest (tOp (rEqD K) (tCall (spD K C_compare_points) [] E0 (tCons (tVar 0) (tCons (tVar 1) tNil))) (tC (.int 0)))) (tRet (tCall (spD K C_square) [] E0 (tCons (tVar 0) (tCons (tVar 2) tNil)))) tNext)
    (tRet (tCall (spD K C_square) [] E0 (tCons (tVar 2) (tCons (tCall (spD K C_nearest_on) [] E0 (tCons (tVar 0) (tCons (tVar 1) (tCons (tVar 2) tNil)))) tNil)))))
theorem tm_far_from {P : Program} {w : World} {K : PySem.W.Frag} {mg : Str → Option Value} {base : Heap} (B : Blt mg) (c_square : C8.Cal P w K mg base 4 "square" (spD K C_square) []) (c_compare_points : C8.Cal P w K mg base 2 "compare_points" (spD K C_compare_points) []) (c_nearest_on : C8.Cal P w K mg base 5 "nearest_on" (spD K C_nearest_on) []) {f : Addr} {cdv : Value} {A : Around} {outer : List Env} {s : Shared} {H : Hp} {E : XK} (hr : Room 5 (A.deeper (envOfC "far_from" (defScope s_far_from) s.heap.objs.size f cdv))) :
    PSs (cxOf CX0 P w K mg base ["a", "b", "point"] "far_from" (defScope s_far_from) f cdv A outer s H E).nox (defBody s_far_from) (t_far_from K) := by
  have nd := sc_far_from.nd
  exact (pss_cons (ps_if (pt_cmpR (op_eqD hr.units) (C8.pe_c c_compare_points hr (by omega) (by rfl) (pa_cons (pv 0) (pa_cons (pv 1) pa_nil))) pe_int (nomark _)) (pss_one (ps_ret (C8.pe_c c_square hr (by omega) (by rfl) (pa_cons (pv 0) (pa_cons (pv 2) pa_nil))))) pss_nil)
    (pss_one (ps_ret (C8.pe_c c_square hr (by omega) (by rfl) (pa_cons (pv 2) (pa_cons (C8.pe_c c_nearest_on hr (by omega) (by rfl) (pa_cons (pv 0) (pa_cons (pv 1) (pa_cons (pv 2) pa_nil)))) pa_nil))))))

theorem run_far_from {K : PySem.W.Frag} : BodyOk K (t_far_from K) 0 C_far_from := by
  refine body_pure ?_
  rintro ds d ⟨M, a, b, p, hM, ha, hb, hp, rfl, rfl⟩
  have fa := ha.fit hM
  have fb := hb.fit hM
  have fp := hp.fit hM
  refine ⟨[.fr (ptD a), .fr (ptD b), .fr (ptD p)], ?_, Nat.le_of_ble_eq_true rfl⟩
  show StJ K (t_far_from K) [.fr (ptD a), .fr (ptD b), .fr (ptD p)] _
  apply st_ifq (b := decide (a = b))
  · have e : decide (a = b) = PyData.eqv (.int (cmpP a b)) (.int 0) := by
      show _ = decide (cmpP a b = 0)
      simp only [cmpP_zero]
    rw [e]
    walk_at "ev"
    exact ⟨17, 17, fa, fb, by decide⟩
  · intro h
    have h := of_decide_eq_true h
    unfold farQ
    rw [if_pos h]
    apply q_retq
    · apply ev_callP
      · walk_at "ev"
      · rfl
      · exact ⟨17, 17, a, p, fa, fp, by decide, rfl, rfl⟩
    · rfl
  · intro h
    have h := of_decide_eq_false h
    unfold farQ
    rw [if_neg h]
    apply st_nextq
    apply q_ret
    · apply ev_callP
      · apply ea_cons
        · walk_at "ev"
        · apply ea_cons
          · apply ev_callP
            · walk_at "ev"
            · rfl
            · exact ⟨M, a, b, p, hM, ha, hb, hp, h, rfl, rfl⟩
          · exact ea_nil
      · rfl
      · exact ⟨17, 89, p, nearQ a b p, fp, near_fit hM ha hb hp h, by decide, rfl, rfl⟩
    · rfl
theorem len_far_from : ∀ args r args', C_far_from args r args' → args.length = 3 := lenP fun ds d ⟨_, _, _, _, _, _, _, _, h, _⟩ => by rw [h]; rfl
theorem ok_far_from {P : Program} {w : World} {K : PySem.W.Frag} {mg : Str → Option Value} {base : Heap} (B : Blt mg) (Df : DefAt K mg "far_from" s_far_from ["a", "b", "point"]) (c_square : C8.Cal P w K mg base 4 "square" (spD K C_square) []) (c_compare_points : C8.Cal P w K mg base 2 "compare_points" (spD K C_compare_points) []) (c_nearest_on : C8.Cal P w K mg base 5 "nearest_on" (spD K C_nearest_on) []) : C8.Cal P w K mg base 6 "far_from" (spD K C_far_from) [] :=
  cal_of Df sc_far_from len_far_from rfl fun f cdv A outer s H E hr => ⟨t_far_from K, tm_far_from B c_square c_compare_points c_nearest_on hr, run_far_from⟩

/-- the farthest so far -/
def bestStep (f : Nat → Rat) (b : Option (Rat × Nat)) (i : Nat) : Option (Rat × Nat) :=
  match b with
  | none => some (f i, i)
  | some (g, j) => if g < f i then some (f i, i) else some (g, j)
def bestQ (f : Nat → Rat) (lo hi : Nat) : Option (Rat × Nat) := ((List.range (hi - (lo + 1))).map fun i => lo + 1 + i).foldl (bestStep f) none
def bestD : Option (Rat × Nat) → D
  | none => .none
  | some (g, j) => .tuple [dR g, .int (j : Int)]
theorem best_fold (f : Nat → Rat) : ∀ (l : List Nat) (b : Option (Rat × Nat)), (∀ g j, b = some (g, j) → g = f j) →
    (l.foldl (bestStep f) b = none → l = [] ∧ b = none) ∧ ∀ g j, l.foldl (bestStep f) b = some (g, j) → g = f j ∧ (j ∈ l ∨ b = some (g, j)) ∧ (∀ i ∈ l, f i ≤ g) ∧ ∀ g' j', b = some (g', j') → g' ≤ g
  | [], b, hb => ⟨fun h => ⟨rfl, h⟩, fun g j h => ⟨hb g j h, .inr h, (fun i hi => nomatch hi), fun g' j' h' => by
    have : b = some (g, j) := h
    rw [this] at h'
    cases h'
    exact Rat.le_refl⟩⟩
  | i :: l, b, hb => by
    have hb' : ∀ g j, bestStep f b i = some (g, j) → g = f j := by
      intro g j h
      unfold bestStep at h
      split at h
      · cases h
        rfl
      · rename_i g' j'
        split at h
        · cases h
          rfl
        · cases h
          exact hb _ _ rfl
    obtain ⟨h1, h2⟩ := best_fold f l (bestStep f b i) hb'
    refine ⟨fun h => ?_, fun g j h => ?_⟩
    · obtain ⟨_, z⟩ := h1 h
      unfold bestStep at z
      split at z
      · cases z
      · split at z <;> cases z
    · obtain ⟨k1, k2, k3, k4⟩ := h2 g j h
      have hi : f i ≤ g ∧ ∀ g' j', b = some (g', j') → g' ≤ g := by
        cases e : b with
        | none =>
          refine ⟨?_, fun g' j' z => nomatch z⟩
          exact k4 (f i) i (by rw [e]; rfl)
        | some gj =>
          obtain ⟨g0, j0⟩ := gj
          by_cases c : g0 < f i
          · have s : bestStep f b i = some (f i, i) := by
              rw [e]
              exact if_pos c
            have := k4 _ _ s
            refine ⟨this, fun g' j' z => ?_⟩
            cases z
            grind
          · have s : bestStep f b i = some (g0, j0) := by
              rw [e]
              exact if_neg c
            have := k4 _ _ s
            refine ⟨?_, fun g' j' z => ?_⟩
            · grind
            · cases z
              exact this
      refine ⟨k1, ?_, fun x hx => ?_, hi.2⟩
      · rcases k2 with k2 | k2
        · exact .inl (List.mem_cons_of_mem _ k2)
        · cases e : b with
          | none =>
            rw [e] at k2
            cases k2
            exact .inl List.mem_cons_self
          | some gj =>
            obtain ⟨g0, j0⟩ := gj
            rw [e] at k2
            by_cases c : g0 < f i
            · have s : bestStep f (some (g0, j0)) i = some (f i, i) := if_pos c
              rw [s] at k2
              cases k2
              exact .inl List.mem_cons_self
            · have s : bestStep f (some (g0, j0)) i = some (g0, j0) := if_neg c
              rw [s] at k2
              exact .inr k2
      · rcases List.mem_cons.mp hx with rfl | hx
        · exact hi.1
        · exact k3 x hx
theorem best_none {f : Nat → Rat} {lo hi : Nat} (h : bestQ f lo hi = none) : hi ≤ lo + 1 := by
  obtain ⟨h1, _⟩ := (best_fold f _ none (fun _ _ z => nomatch z)).1 h
  have := congrArg List.length h1
  rw [List.length_map, List.length_range, List.length_nil] at this
  omega
theorem best_some {f : Nat → Rat} {lo hi m : Nat} {g : Rat} (h : bestQ f lo hi = some (g, m)) : g = f m ∧ lo < m ∧ m < hi ∧ ∀ i, lo < i → i < hi → f i ≤ g := by
  obtain ⟨h1, h2, h3, _⟩ := (best_fold f _ none (fun _ _ z => nomatch z)).2 g m h
  rcases h2 with h2 | h2
  · obtain ⟨i, hi, rfl⟩ := List.mem_map.mp h2
    have := List.mem_range.mp hi
    refine ⟨h1, by omega, by omega, fun x a b => h3 x (List.mem_map.mpr ⟨x - (lo + 1), List.mem_range.mpr (by omega), by omega⟩)⟩
  · cases h2
/-- the points of a line, by their places -/
abbrev Ln := Nat → Pt
def farI (P : Ln) (lo hi : Nat) (i : Nat) : Rat := farQ (P lo) (P hi) (P i)
def lineD (n : Nat) (P : Ln) : D := .tuple ((List.range n).map fun i => ptD (P i))
def LnOk (P : Ln) : Prop := ∀ i, GridP 2 (P i)
theorem two_ok : DOk 2 := ⟨by decide, by decide⟩
def F_farthest (ds : List D) (d : D) : Prop := ∃ (n lo hi : Nat) (P : Ln), LnOk P ∧ n ≤ 100 ∧ lo < hi ∧ hi < n ∧ ds = [lineD n P, .int (lo : Int), .int (hi : Int)] ∧ d = bestD (bestQ (farI P lo hi) lo hi)
abbrev C_farthest : Con := CP F_farthest
/-! farthest: slots 0 line, 1 low, 2 high, 3 best, 4 at, 5 far -/
abbrev s_farthest : Stmt := topS 21
theorem sc_farthest : FnScope ["line", "low", "high", "best", "at", "far"] ["line", "low", "high"] (defScope s_farthest) := ⟨rfl, rfl, rfl, by decide +kernel, rfl, by decide +kernel, by decide +kernel⟩
def t_farthest (K : PySem.W.Frag) : TS :=
  (tSeq (tAsg (tC .non) (gName 3))
    (tSeq (tFor (iRng2 (tCons (tOp (rAddU K) (tVar 1) (tC (.int 1))) (tCons (tVar 2) tNil))) (gName 4) (tSeq (tAsg (tCall (spD K C_far_from) [] E0 (tCons (tOp (rIx K) (tVar 0) (tVar 1)) (tCons (tOp (rIx K) (tVar 0) (tVar 2)) (tCons (tOp (rIx K) (tVar 0) (tVar 4)) tNil)))) (gName 5))
    (tIfS (tOr (tTest (tOp (fun x y H Q => y = .non ∧ Q (.bl (decide (x = .non))) H) (tVar 3) (tC .non))) (tTest (tOp (rI0 fun i j => .bl (decide (j < i))) (tCall (spD K C_compare) [] E0 (tCons (tVar 5) (tCons (tOp (rIx K) (tVar 3) (tC (.int 0))) tNil))) (tC (.int 0))))) (tAsg (tTup (tCons (tVar 5) (tCons (tVar 4) tNil))) (gName 3)) tNext)))
    (tRet (tVar 3))))
theorem tm_farthest {P : Program} {w : World} {K : PySem.W.Frag} {mg : Str → Option Value} {base : Heap} (B : Blt mg) (c_far_from : C8.Cal P w K mg base 6 "far_from" (spD K C_far_from) []) (c_compare : C8.Cal P w K mg base 1 "compare" (spD K C_compare) []) {f : Addr} {cdv : Value} {A : Around} {outer : List Env} {s : Shared} {H : Hp} {E : XK} (hr : Room 6 (A.deeper (envOfC "farthest" (defScope s_farthest) s.heap.objs.size f cdv))) :
    PSs (cxOf CX0 P w K mg base ["line", "low", "high", "best", "at", "far"] "farthest" (defScope s_farthest) f cdv A outer s H E).nox (defBody s_farthest) (t_farthest K) := by
  have nd := sc_farthest.nd
  exact (pss_cons (ps_set (i := 3) nd rfl (Or.inl rfl) pe_non)
    (pss_cons (ps_for PassesOwn.never rfl (pi_range2 (by rfl) B.range_ (pa_cons (pe_op op_addU (pv 1) pe_int) (pa_cons (pv 2) pa_nil))) (pg_name (i := 4) nd rfl (Or.inl rfl)) (pss_cons (ps_set (i := 5) nd rfl (Or.inl rfl) (C8.pe_c c_far_from hr (by omega) (by rfl) (pa_cons (pe_ix ix_seq (pv 0) (pv 1) (fun _ _ => rfl)) (pa_cons (pe_ix ix_seq (pv 0) (pv 2) (fun _ _ => rfl)) (pa_cons (pe_ix ix_seq (pv 0) (pv 4) (fun _ _ => rfl)) pa_nil)))))
    (pss_one (ps_if ((pw_or (pt_cmpR op_isN (pv 3) pe_non (nomark _)) (pw_or1 (pt_cmpR op_gt (C8.pe_c c_compare hr (by omega) (by rfl) (pa_cons (pv 5) (pa_cons (pe_ix ix_seq (pv 3) pe_int (fun _ _ => rfl)) pa_nil))) pe_int (nomark _))))).pt (pss_one (ps_set (i := 3) nd rfl (Or.inl rfl) (pe_tup (pa_cons (pv 5) (pa_cons (pv 4) pa_nil))))) pss_nil))))
    (pss_one (ps_ret (pv 3)))))

theorem rngD_map (lo : Nat) (k : Nat) : rngD ((lo : Int) + 1) k = ((List.range k).map fun i => lo + 1 + i).map fun i : Nat => PyData.int (i : Int) := by
  unfold rngD
  rw [List.map_map]
  refine List.map_congr_left fun i _ => ?_
  show PyData.int ((lo : Int) + 1 + (i : Int)) = PyData.int ((lo + 1 + i : Nat) : Int)
  congr 1
theorem tyD_best (b : Option (Rat × Nat)) : decide (tyD (bestD b) = "NoneType") = b.isNone := by
  cases b with
  | none => rfl
  | some gj => rfl
theorem line_at {n i : Nat} {P : Ln} (h : i < n) : atI ((List.range n).map fun i => ptD (P i)) (i : Int) = some (ptD (P i)) := by
  refine atI_nat ?_
  rw [List.getElem?_map, List.getElem?_range h]
  rfl
theorem run_farthest {K : PySem.W.Frag} : BodyOk K (t_farthest K) 3 C_farthest := by
  refine body_pure ?_
  rintro ds d ⟨n, lo, hi, P, hP, hn, hl, hh, rfl, rfl⟩
  have f429 : ∀ i, Fit 429 (farI P lo hi i) := fun i => far_fit two_ok (hP _) (hP _) (hP _)
  -- the loop
  have loop : ∀ (l : List Nat) (b : Option (Rat × Nat)) (x4 x5 : Sl), (∀ i ∈ l, i < n) → Dat x4 → Dat x5 → (∀ g j, b = some (g, j) → g = farI P lo hi j) → ∃ y4 y5,
      ForRel K (gName 4) (tSeq (tAsg (tCall (spD K C_far_from) [] E0 (tCons (tOp (rIx K) (tVar 0) (tVar 1)) (tCons (tOp (rIx K) (tVar 0) (tVar 2)) (tCons (tOp (rIx K) (tVar 0) (tVar 4)) tNil)))) (gName 5))
        (tIfS (tOr (tTest (tOp (fun x y H Q => y = .non ∧ Q (.bl (decide (x = .non))) H) (tVar 3) (tC .non))) (tTest (tOp (rI0 fun i j => .bl (decide (j < i))) (tCall (spD K C_compare) [] E0 (tCons (tVar 5) (tCons (tOp (rIx K) (tVar 3) (tC (.int 0))) tNil))) (tC (.int 0))))) (tAsg (tTup (tCons (tVar 5) (tCons (tVar 4) tNil))) (gName 3)) tNext))
        (l.map fun i : Nat => PyData.int (i : Int)) [.fr (lineD n P), .fr (.int (lo : Int)), .fr (.int (hi : Int)), .fr (bestD b), x4, x5] (.nx [.fr (lineD n P), .fr (.int (lo : Int)), .fr (.int (hi : Int)), .fr (bestD (l.foldl (bestStep (farI P lo hi)) b)), y4, y5]) := by
    intro l
    induction l with
    | nil => exact fun b x4 x5 _ _ _ _ => ⟨x4, x5, .nil⟩
    | cons i l ih =>
      intro b x4 x5 hil d4 d5 hb
      have hin : i < n := hil i List.mem_cons_self
      have hb' : ∀ g j, bestStep (farI P lo hi) b i = some (g, j) → g = farI P lo hi j := by
        intro g j h
        unfold bestStep at h
        split at h
        · cases h
          rfl
        · split at h
          · cases h
            rfl
          · cases h
            exact hb _ _ rfl
      obtain ⟨y4, y5, q⟩ := ih (bestStep (farI P lo hi) b i) (.fr (.int (i : Int))) (.fr (dR (farI P lo hi i))) (fun i hi => hil i (List.mem_cons_of_mem _ hi)) trivial trivial hb'
      refine ⟨y4, y5, .go (δb := [.fr (lineD n P), .fr (.int (lo : Int)), .fr (.int (hi : Int)), .fr (bestD b), .fr (.int (i : Int)), x5]) (bj_name (np_at rfl d4)) ?_ q⟩
      apply q_set (d := dR (farI P lo hi i))
      · apply ev_callP
        · apply ea_cons
          · exact ev_op (ev_var rfl) (ev_var rfl) (od_ix rfl (line_at (by omega)))
          · apply ea_cons
            · exact ev_op (ev_var rfl) (ev_var rfl) (od_ix rfl (line_at hh))
            · apply ea_cons
              · exact ev_op (ev_var rfl) (ev_var rfl) (od_ix rfl (line_at hin))
              · exact ea_nil
        · rfl
        · exact ⟨2, P lo, P hi, P i, two_ok, hP _, hP _, hP _, rfl, rfl⟩
      · exact np_at rfl d5
      show StJ K _ [.fr (lineD n P), .fr (.int (lo : Int)), .fr (.int (hi : Int)), .fr (bestD b), .fr (.int (i : Int)), .fr (dR (farI P lo hi i))] _
      have fin : StJ K (tAsg (tTup (tCons (tVar 5) (tCons (tVar 4) tNil))) (gName 3)) [.fr (lineD n P), .fr (.int (lo : Int)), .fr (.int (hi : Int)), .fr (bestD b), .fr (.int (i : Int)), .fr (dR (farI P lo hi i))] (.nx [.fr (lineD n P), .fr (.int (lo : Int)), .fr (.int (hi : Int)), .fr (bestD (some (farI P lo hi i, i))), .fr (.int (i : Int)), .fr (dR (farI P lo hi i))]) := by
        apply q_set1' (d := .tuple [dR (farI P lo hi i), .int (i : Int)])
        · walk_at "ev"
        · exact np_at rfl trivial
        · rfl
      cases hbb : b with
      | none =>
        rw [hbb] at fin
        apply st_if (b := true)
        · refine tt_orC (a := true) (b := false) (tt_test (ev_op (ev_var rfl) ev_non (od_isN (d := .none)))) (fun z => nomatch z)
        · exact fun _ => fin
        · exact fun z => nomatch z
      | some gj =>
        obtain ⟨g, j⟩ := gj
        have hg := hb g j hbb
        rw [hbb] at fin
        apply st_if (b := false || decide (g < farI P lo hi i))
        · refine tt_orP (tt_test (ev_op (ev_var rfl) ev_non (od_isN (d := .tuple [dR g, .int (j : Int)])))) ?_
          have e : decide (g < farI P lo hi i) = decide (0 < cmpR (farI P lo hi i) g) := by simp only [cmpR_pos]
          rw [e]
          apply tt_test
          apply ev_op
          · apply ev_compare
            · apply ea_cons
              · exact ev_var rfl
              · apply ea_cons
                · exact ev_op (ev_var (d := .tuple [dR g, .int (j : Int)]) rfl) ev_int (od_ix rfl rfl)
                · exact ea_nil
            · rw [hg]
              exact ⟨429, 429, f429 _, f429 _, by decide⟩
          · exact ev_int
          · exact od_I0b
        · intro z
          have c : g < farI P lo hi i := of_decide_eq_true z
          have s : bestStep (farI P lo hi) (some (g, j)) i = some (farI P lo hi i, i) := if_pos c
          rw [s]
          exact fin
        · intro z
          have c : ¬ g < farI P lo hi i := of_decide_eq_false z
          have s : bestStep (farI P lo hi) (some (g, j)) i = some (g, j) := if_neg c
          rw [s]
          exact st_next
  obtain ⟨y4, y5, q⟩ := loop ((List.range (hi - (lo + 1))).map fun i => lo + 1 + i) none .no .no (fun i hi' => by
    obtain ⟨k, hk, rfl⟩ := List.mem_map.mp hi'
    have := List.mem_range.mp hk
    omega) trivial trivial (fun _ _ z => nomatch z)
  refine ⟨[.fr (lineD n P), .fr (.int (lo : Int)), .fr (.int (hi : Int)), .fr (bestD (bestQ (farI P lo hi) lo hi)), y4, y5], ?_, Nat.le_of_ble_eq_true rfl⟩
  show StJ K (t_farthest K) [.fr (lineD n P), .fr (.int (lo : Int)), .fr (.int (hi : Int)), .no, .no, .no] _
  apply q_set
  · exact ev_non
  · walk_at "np"
  apply q_for
  · apply src_rng2
    · walk_at "ev"
    · omega
    · omega
    · omega
    · omega
  · rw [rngD_map, show ((hi : Int) - ((lo : Int) + 1)).toNat = hi - (lo + 1) by omega]
    exact q
  exact q_ret (ev_var rfl) rfl
theorem len_farthest : ∀ args r args', C_farthest args r args' → args.length = 3 := lenP fun ds d ⟨_, _, _, _, _, _, _, _, h, _⟩ => by rw [h]; rfl
theorem ok_farthest {P : Program} {w : World} {K : PySem.W.Frag} {mg : Str → Option Value} {base : Heap} (B : Blt mg) (Df : DefAt K mg "farthest" s_farthest ["line", "low", "high"]) (c_far_from : C8.Cal P w K mg base 6 "far_from" (spD K C_far_from) []) (c_compare : C8.Cal P w K mg base 1 "compare" (spD K C_compare) []) : C8.Cal P w K mg base 7 "farthest" (spD K C_farthest) [] :=
  cal_of Df sc_farthest len_farthest rfl fun f cdv A outer s H E hr => ⟨t_farthest K, tm_farthest B c_far_from c_compare hr, run_farthest⟩


end DL
namespace DL
open PySem PySem.Spec PyProof.Rows L2
local macro_rules | `(tactic| walk_at "len") => `(tactic| exact Nat.le_of_ble_eq_true rfl)
local macro_rules | `(tactic| walk_at "np") => `(tactic| (intro o z; cases z))
local macro_rules | `(tactic| walk_at "od") => `(tactic| first
  | exact od_addI | exact od_subI | exact od_subB | exact od_I0b | exact od_I0
  | exact od_ix rfl rfl | exact od_eq rfl rfl rfl rfl | exact od_ne rfl rfl rfl rfl | exact od_isN | exact od_notN
  | with_reducible apply od_mulI | with_reducible apply od_I | exact ud_I)
local macro_rules | `(tactic| walk_at "cd") => `(tactic| first
  | exact cd_len rfl | exact cd_abs | exact cd_int | exact cd_intB | exact cd_gcd | exact cd_tup rfl | exact cd_lst rfl)
local macro_rules | `(tactic| walk_at "ev1") => `(tactic| first
  | exact ev_int | exact ev_bl | exact ev_str | exact ev_non | exact ev_var rfl | exact ev_varO rfl
  | with_reducible apply ev_op | with_reducible apply ev_un
  | exact ea_nil | with_reducible apply ea_cons
  | with_reducible apply ev_isi | with_reducible apply ev_dget
  | with_reducible apply ev_cb
  | with_reducible apply ev_tup' | with_reducible apply ev_lstF
  | with_reducible apply tt_test | with_reducible apply tt_B | with_reducible apply tt_not
  | walk_at "od" | walk_at "cd" | walk_at "len" | rfl)
local macro_rules | `(tactic| walk_at "ev") => `(tactic| repeat' walk_at "ev1")
local macro_rules | `(tactic| walk_at "set") => `(tactic| (with_reducible apply q_set; rotate_left; walk_at "np"; rotate_left; walk_at "ev"))

local macro_rules | `(tactic| walk_at "ev1") => `(tactic| first
  | with_reducible apply ev_plus | with_reducible apply ev_minus | with_reducible apply ev_times | with_reducible apply ev_over | with_reducible apply ev_compare | with_reducible apply ev_fraction)

local macro_rules | `(tactic| walk_at "ev1") => `(tactic| first
  | with_reducible apply ev_gap | with_reducible apply ev_cross | with_reducible apply ev_dot | with_reducible apply ev_compare_points)

/-! ### what is kept -/
def keptF (P : Ln) (e : Rat) : Nat → Nat → Nat → List Nat
  | 0, _, _ => []
  | n + 1, lo, hi => match bestQ (farI P lo hi) lo hi with
    | none => []
    | some (g, m) => if e < g then keptF P e n lo m ++ [m] ++ keptF P e n m hi else []
theorem kept_fuel (P : Ln) (e : Rat) : ∀ (n k lo hi : Nat), hi - lo ≤ n → hi - lo ≤ k → keptF P e n lo hi = keptF P e k lo hi
  | 0, 0, _, _, _, _ => rfl
  | 0, k + 1, lo, hi, h, _ => by
    have : bestQ (farI P lo hi) lo hi = none := by
      unfold bestQ
      rw [show hi - (lo + 1) = 0 by omega]
      rfl
    show [] = _
    unfold keptF
    rw [this]
  | n + 1, 0, lo, hi, _, h => by
    have : bestQ (farI P lo hi) lo hi = none := by
      unfold bestQ
      rw [show hi - (lo + 1) = 0 by omega]
      rfl
    show _ = []
    unfold keptF
    rw [this]
  | n + 1, k + 1, lo, hi, h1, h2 => by
    unfold keptF
    cases q : bestQ (farI P lo hi) lo hi with
    | none => rfl
    | some gm =>
      obtain ⟨g, m⟩ := gm
      obtain ⟨_, b1, b2, _⟩ := best_some q
      show (if e < g then _ else _) = (if e < g then _ else _)
      rw [kept_fuel P e n k lo m (by omega) (by omega), kept_fuel P e n k m hi (by omega) (by omega)]
def keptQ (P : Ln) (e : Rat) (lo hi : Nat) : List Nat := keptF P e (hi - lo) lo hi
theorem kept_eq (P : Ln) (e : Rat) (lo hi : Nat) : keptQ P e lo hi = match bestQ (farI P lo hi) lo hi with
    | none => []
    | some (g, m) => if e < g then keptQ P e lo m ++ [m] ++ keptQ P e m hi else [] := by
  unfold keptQ
  rw [kept_fuel P e (hi - lo) (hi - lo + 1) lo hi (by omega) (by omega)]
  show (match bestQ (farI P lo hi) lo hi with
    | none => []
    | some (g, m) => if e < g then keptF P e (hi - lo) lo m ++ [m] ++ keptF P e (hi - lo) m hi else []) = _
  cases q : bestQ (farI P lo hi) lo hi with
  | none => rfl
  | some gm =>
    obtain ⟨g, m⟩ := gm
    obtain ⟨_, b1, b2, _⟩ := best_some q
    show (if e < g then _ else _) = (if e < g then _ else _)
    rw [kept_fuel P e (hi - lo) (m - lo) lo m (by omega) (by omega), kept_fuel P e (hi - lo) (hi - m) m hi (by omega) (by omega)]
theorem kept_in (P : Ln) (e : Rat) : ∀ (n lo hi : Nat), hi - lo ≤ n → (∀ i ∈ keptQ P e lo hi, lo < i ∧ i < hi) ∧ (keptQ P e lo hi).Pairwise (· < ·)
  | n, lo, hi, h => by
    rw [kept_eq]
    cases q : bestQ (farI P lo hi) lo hi with
    | none => exact ⟨(fun i hi => nomatch hi), .nil⟩
    | some gm =>
      obtain ⟨g, m⟩ := gm
      obtain ⟨_, b1, b2, _⟩ := best_some q
      cases n with
      | zero => omega
      | succ n =>
        obtain ⟨p1, p2⟩ := kept_in P e n lo m (by omega)
        obtain ⟨q1, q2⟩ := kept_in P e n m hi (by omega)
        show (∀ i ∈ (if e < g then keptQ P e lo m ++ [m] ++ keptQ P e m hi else []), lo < i ∧ i < hi) ∧ (if e < g then keptQ P e lo m ++ [m] ++ keptQ P e m hi else []).Pairwise (· < ·)
        split
        · refine ⟨fun i hi => ?_, ?_⟩
          · rcases List.mem_append.mp hi with hi | hi
            · rcases List.mem_append.mp hi with hi | hi
              · have := p1 i hi
                omega
              · rw [List.mem_singleton.mp hi]
                omega
            · have := q1 i hi
              omega
          · rw [List.pairwise_append, List.pairwise_append]
            refine ⟨⟨p2, by simp, fun a ha b hb => ?_⟩, q2, fun a ha b hb => ?_⟩
            · rw [List.mem_singleton.mp hb]
              exact (p1 a ha).2
            · have := (q1 b hb).1
              rcases List.mem_append.mp ha with ha | ha
              · have := (p1 a ha).2
                omega
              · rw [List.mem_singleton.mp ha]
                exact this
        · exact ⟨(fun i hi => nomatch hi), .nil⟩
/-- the whole row -/
def rowQ (P : Ln) (e : Rat) (L : Nat) : List Nat := [0] ++ keptQ P e 0 L ++ [L]
theorem row_up (P : Ln) (e : Rat) {L : Nat} (h : 0 < L) : (rowQ P e L).Pairwise (· < ·) := by
  obtain ⟨p1, p2⟩ := kept_in P e L 0 L (by omega)
  unfold rowQ
  rw [List.pairwise_append, List.pairwise_append]
  refine ⟨⟨by simp, p2, fun a ha b hb => ?_⟩, by simp, fun a ha b hb => ?_⟩
  · rw [List.mem_singleton.mp ha]
    exact (p1 b hb).1
  · rw [List.mem_singleton.mp hb]
    rcases List.mem_append.mp ha with ha | ha
    · rw [List.mem_singleton.mp ha]
      exact h
    · exact (p1 a ha).2
/-! ### simpler -/
def kvsOf (ks : List Int) : List (Key × D) := ks.map fun i => (.inl i, .bool true)
theorem put_in : ∀ (ks : List Int) (m : Int), kdPut (kvsOf ks) (.inl m) (.bool true) = kvsOf (if m ∈ ks then ks else ks ++ [m])
  | [], m => rfl
  | k :: ks, m => by
    show (if (Sum.inl k : Key) = .inl m then _ else _) = _
    by_cases e : k = m
    · subst e
      rw [if_pos rfl, if_pos List.mem_cons_self]
      rfl
    · rw [if_neg fun z => e (Sum.inl.inj z)]
      show _ :: kdPut (kvsOf ks) (.inl m) (.bool true) = _
      rw [put_in ks m]
      by_cases h : m ∈ ks
      · rw [if_pos h, if_pos (List.mem_cons_of_mem _ h)]
        rfl
      · rw [if_neg h, if_neg fun z => (List.mem_cons.mp z).elim (fun z => e z.symm) h]
        rfl
def waitD (w : Nat × Nat) : D := .tuple [.int (w.1 : Int), .int (w.2 : Int)]
def cost : List (Nat × Nat) → Nat
  | [] => 0
  | (a, b) :: r => (2 * (b - a) - 1) + cost r
theorem cost_app : ∀ (u v : List (Nat × Nat)), cost (u ++ v) = cost u + cost v
  | [], v => by simp [cost]
  | (a, b) :: u, v => by
    show (2 * (b - a) - 1) + cost (u ++ v) = (2 * (b - a) - 1) + cost u + cost v
    rw [cost_app u v]
    omega
theorem snoc {α : Type} {l : List α} (h : l ≠ []) : ∃ u x, l = u ++ [x] := ⟨l.dropLast, l.getLast h, (List.dropLast_concat_getLast h).symm⟩
def St26 (n : Nat) (P : Ln) (e : Rat) (ks : List Int) (W : List (Nat × Nat)) (x4 x5 x6 : Sl) : List Sl :=
  [.fr (lineD n P), .fr (dR e), .ob true (.K (kvsOf ks)), .ob true (.L (W.map waitD)), x4, x5, x6, .no]
def F_simpler (ds : List D) (d : D) : Prop := ∃ (L : Nat) (P : Ln) (e : Rat), LnOk P ∧ 0 < L ∧ L ≤ 20 ∧ Fit 20 e ∧ ds = [lineD (L + 1) P, dR e] ∧ d = .tuple ((rowQ P e L).map fun i => ptD (P i))
abbrev C_simpler : Con := CP F_simpler
/-! simpler: slots 0 line, 1 e, 2 kept, 3 waiting, 4 low, 5 high, 6 best, 7 at -/
abbrev s_simpler : Stmt := topS 22
theorem sc_simpler : FnScope ["line", "e", "kept", "waiting", "low", "high", "best", "at"] ["line", "e"] (defScope s_simpler) := ⟨rfl, rfl, rfl, by decide +kernel, rfl, by decide +kernel, by decide +kernel⟩
def t_simpler (K : PySem.W.Frag) : TS :=
  (tSeq (tAsg (tDisp [((tC (.int 0)), (tC (.bl true))), ((tOp rSubU (tCB (rLenU K) (tCons (tVar 0) tNil)) (tC (.int 1))), (tC (.bl true)))]) (gName 2))
    (tSeq (tAsg (tLst (tCons (tTup (tCons (tC (.int 0)) (tCons (tOp rSubU (tCB (rLenU K) (tCons (tVar 0) tNil)) (tC (.int 1))) tNil))) tNil)) (gName 3))
    (tSeq (tWhile (tTru K (tVar 3)) (tSeq (tAsg (tBM0 K "list" rPop (tVar 3)) (gTup K 2 (gCons (gName 4) (gCons (gName 5) gNil))))
    (tSeq (tAsg (tCall (spD K C_farthest) [] E0 (tCons (tVar 0) (tCons (tVar 4) (tCons (tVar 5) tNil)))) (gName 6))
    (tIfS (tAnd (tTest (tOp (fun x y H Q => y = .non ∧ Q (.bl (!decide (x = .non))) H) (tVar 6) (tC .non))) (tTest (tOp (rI0 fun i j => .bl (decide (j < i))) (tCall (spD K C_compare) [] E0 (tCons (tOp (rIx K) (tVar 6) (tC (.int 0))) (tCons (tVar 1) tNil))) (tC (.int 0))))) (tSeq (sDPut (tVar 2) (tOp (rIx K) (tVar 6) (tC (.int 1))) (tC (.bl true)))
    (tDrop (tBM K "list" rExtend (tVar 3) (tCons (tLst (tCons (tTup (tCons (tVar 4) (tCons (tOp (rIx K) (tVar 6) (tC (.int 1))) tNil))) (tCons (tTup (tCons (tOp (rIx K) (tVar 6) (tC (.int 1))) (tCons (tVar 5) tNil))) tNil))) tNil)))) tNext))))
    (tRet (tCB (rTupU K) (tCons (tLc (iList K (tCB rSortDI (tCons (tVar 2) tNil))) (gName 7) tYes (tOp (rIx K) (tVar 0) (tVar 7)) [7]) tNil))))))
theorem tm_simpler {P : Program} {w : World} {K : PySem.W.Frag} {mg : Str → Option Value} {base : Heap} (B : Blt mg) (c_farthest : C8.Cal P w K mg base 7 "farthest" (spD K C_farthest) []) (c_compare : C8.Cal P w K mg base 1 "compare" (spD K C_compare) []) {f : Addr} {cdv : Value} {A : Around} {outer : List Env} {s : Shared} {H : Hp} {E : XK} (hr : Room 7 (A.deeper (envOfC "simpler" (defScope s_simpler) s.heap.objs.size f cdv))) :
    PSs (cxOf CX0 P w K mg base ["line", "e", "kept", "waiting", "low", "high", "best", "at"] "simpler" (defScope s_simpler) f cdv A outer s H E).nox (defBody s_simpler) (t_simpler K) := by
  have nd := sc_simpler.nd
  exact (pss_cons (ps_set (i := 2) nd rfl (Or.inl rfl) (pe_disp (pps_cons pe_int pe_bl (pps_cons (pe_op op_subU (pe_callB call_lenU (by rfl) B.len_ PySem.boot_len (pa_cons (pv 0) pa_nil)) pe_int) pe_bl pps_nil)) rfl rfl (by simp) (by decide)))
    (pss_cons (ps_set (i := 3) nd rfl (Or.inl rfl) (pe_lst (pa_cons (pe_tup (pa_cons pe_int (pa_cons (pe_op op_subU (pe_callB call_lenU (by rfl) B.len_ PySem.boot_len (pa_cons (pv 0) pa_nil)) pe_int) pa_nil))) pa_nil)))
    (pss_cons (ps_while PassesOwn.never (pt_truth (pv 3) (fun _ => rfl)) (pss_cons (ps_asg (pe_bm0 PySem.F.plainAttrs_list PySem.F.slot_list_pop PySem.F.type_list_pop mt_pop (pv 3)) (pg_tup rfl (pgs_cons (pg_name (i := 4) nd rfl (Or.inl rfl)) (pgs_cons (pg_name (i := 5) nd rfl (Or.inl rfl)) pgs_nil))))
    (pss_cons (ps_set (i := 6) nd rfl (Or.inl rfl) (C8.pe_c c_farthest hr (by omega) (by rfl) (pa_cons (pv 0) (pa_cons (pv 4) (pa_cons (pv 5) pa_nil)))))
    (pss_one (ps_if ((pw_and (pt_cmpR op_notN (pv 6) pe_non (nomark _)) (pw_and1 (pt_cmpR op_gt (C8.pe_c c_compare hr (by omega) (by rfl) (pa_cons (pe_ix ix_seq (pv 6) pe_int (fun _ _ => rfl)) (pa_cons (pv 1) pa_nil))) pe_int (nomark _))))).pt (pss_cons (ps_dput (hu_of hr) (pv 2) (pe_ix ix_seq (pv 6) pe_int (fun _ _ => rfl)) pe_bl rfl)
    (pss_one (ps_expr (pe_bm PySem.F.plainAttrs_list PySem.F.slot_list_extend PySem.F.type_list_extend mt_extend (pv 3) (pa_cons (pe_lst (pa_cons (pe_tup (pa_cons (pv 4) (pa_cons (pe_ix ix_seq (pv 6) pe_int (fun _ _ => rfl)) pa_nil))) (pa_cons (pe_tup (pa_cons (pe_ix ix_seq (pv 6) pe_int (fun _ _ => rfl)) (pa_cons (pv 5) pa_nil))) pa_nil))) pa_nil))))) pss_nil)))))
    (pss_one (ps_ret (pe_callTy call_tupU (by rfl) B.tuple_ boot_tuple (pa_cons (pe_lc (own := [("at", 7)]) (g := (gName 7)) (tt := tYes) rfl nd (pi_list (pe_callB (call_sortDI rfl) (by rfl) B.sorted_ boot_sorted (pa_cons (pv 2) pa_nil))) (blkOk_by (N := ["line", "e", "kept", "waiting", "low", "high", "best", "at"]) (sc := defScope s_simpler) (by decide +kernel)) (fun _ _ _ _ _ => (pg_name (i := 7) nd rfl (Or.inl rfl))) (fun _ _ _ _ _ => pts_nil) (fun _ _ _ _ _ => (pe_ix ix_seq (pv 0) (pv 7) (fun _ _ => rfl)))) pa_nil)))))))

theorem wait_loop {K : PySem.W.Frag} {n : Nat} {P : Ln} {e : Rat} (hP : LnOk P) (hn : n ≤ 50) (he : Fit 20 e) : ∀ (c : Nat) (W : List (Nat × Nat)) (ks : List Int) (x4 x5 x6 : Sl), cost W ≤ c → (∀ w ∈ W, w.1 < w.2 ∧ w.2 < n) → W.length + c ≤ 500 → ks.Nodup → ks.length + c ≤ 500 → Dat x4 → Dat x5 → Dat x6 →
    ∃ ks' y4 y5 y6, ks'.Nodup ∧ (∀ x, x ∈ ks' ↔ x ∈ ks ∨ ∃ w ∈ W, ∃ i ∈ keptQ P e w.1 w.2, x = (i : Int)) ∧
    WhRel K (tTru K (tVar 3)) (tSeq (tAsg (tBM0 K "list" rPop (tVar 3)) (gTup K 2 (gCons (gName 4) (gCons (gName 5) gNil))))
    (tSeq (tAsg (tCall (spD K C_farthest) [] E0 (tCons (tVar 0) (tCons (tVar 4) (tCons (tVar 5) tNil)))) (gName 6))
    (tIfS (tAnd (tTest (tOp (fun x y H Q => y = .non ∧ Q (.bl (!decide (x = .non))) H) (tVar 6) (tC .non))) (tTest (tOp (rI0 fun i j => .bl (decide (j < i))) (tCall (spD K C_compare) [] E0 (tCons (tOp (rIx K) (tVar 6) (tC (.int 0))) (tCons (tVar 1) tNil))) (tC (.int 0))))) (tSeq (sDPut (tVar 2) (tOp (rIx K) (tVar 6) (tC (.int 1))) (tC (.bl true)))
    (tDrop (tBM K "list" rExtend (tVar 3) (tCons (tLst (tCons (tTup (tCons (tVar 4) (tCons (tOp (rIx K) (tVar 6) (tC (.int 1))) tNil))) (tCons (tTup (tCons (tOp (rIx K) (tVar 6) (tC (.int 1))) (tCons (tVar 5) tNil))) tNil))) tNil)))) tNext)))
      c (St26 n P e ks W x4 x5 x6) (.nx (St26 n P e ks' [] y4 y5 y6)) := by
  intro c
  induction c with
  | zero =>
    intro W ks x4 x5 x6 hc hW hl hnd hkl d4 d5 d6
    cases W with
    | nil => exact ⟨ks, x4, x5, x6, hnd, fun x => ⟨.inl, fun h => h.elim id fun ⟨w, hw, _⟩ => nomatch hw⟩, .done (tt_truL (b := true) (ds := []) (ev_varO (b := true) (o := .L []) rfl) rfl)⟩
    | cons w W =>
      obtain ⟨a, b⟩ := w
      have := hW (a, b) List.mem_cons_self
      have h2 : (2 * (b - a) - 1) + cost W ≤ 0 := hc
      omega
  | succ c ih =>
    intro W ks x4 x5 x6 hc hW hl hnd hkl d4 d5 d6
    by_cases hw : W = []
    · subst hw
      exact ⟨ks, x4, x5, x6, hnd, fun x => ⟨.inl, fun h => h.elim id fun ⟨w, hw, _⟩ => nomatch hw⟩, .done (tt_truL (b := true) (ds := []) (ev_varO (b := true) (o := .L []) rfl) rfl)⟩
    · obtain ⟨U, ⟨lo, hi⟩, rfl⟩ := snoc hw
      have hlh := hW (lo, hi) (List.mem_append_right _ List.mem_cons_self)
      rw [cost_app] at hc
      have hc' : cost U + ((2 * (hi - lo) - 1) + 0) ≤ c + 1 := hc
      have hU : ∀ w ∈ U, w.1 < w.2 ∧ w.2 < n := fun w h => hW w (List.mem_append_left _ h)
      rw [List.length_append, List.length_singleton] at hl
      have tru : TtJ K (tTru K (tVar 3)) (St26 n P e ks (U ++ [(lo, hi)]) x4 x5 x6) true (St26 n P e ks (U ++ [(lo, hi)]) x4 x5 x6) := by
        have h := tt_truL (K := K) (δ := St26 n P e ks (U ++ [(lo, hi)]) x4 x5 x6) (te := tVar 3) (i := 3) (b := true) (ds := (U ++ [(lo, hi)]).map waitD) (ev_varO rfl) rfl
        have e1 : (!((U ++ [(lo, hi)]).map waitD).isEmpty) = true := by
          rw [List.map_append]
          cases U <;> rfl
        rw [e1] at h
        exact h
      let B := bestQ (farI P lo hi) lo hi
      -- the head of the turn
      have head : ∀ {t : TS} {out : Out}, StJ K t (St26 n P e ks U (.fr (.int (lo : Int))) (.fr (.int (hi : Int))) (.fr (bestD B))) out →
          StJ K (tSeq (tAsg (tBM0 K "list" rPop (tVar 3)) (gTup K 2 (gCons (gName 4) (gCons (gName 5) gNil)))) (tSeq (tAsg (tCall (spD K C_farthest) [] E0 (tCons (tVar 0) (tCons (tVar 4) (tCons (tVar 5) tNil)))) (gName 6)) t)) (St26 n P e ks (U ++ [(lo, hi)]) x4 x5 x6) out := by
        intro t out ht
        apply st_seq
        · apply st_unT (ds := [.int (lo : Int), .int (hi : Int)]) (δ1 := St26 n P e ks U x4 x5 x6)
          · refine ev_pop (i := 3) (b := true) (ds := (U ++ [(lo, hi)]).map waitD) (ev_varO rfl) rfl ?_ ?_
            · rw [List.map_append, List.length_append, List.length_map, List.length_map, List.length_singleton, Nat.add_sub_cancel, List.getElem?_append_right (by rw [List.length_map]; exact Nat.le_refl _), List.length_map, Nat.sub_self]
              rfl
            · show List.set (St26 n P e ks (U ++ [(lo, hi)]) x4 x5 x6) 3 (.ob true (.L ((U ++ [(lo, hi)]).map waitD).dropLast)) = _
              rw [List.map_append, List.map_singleton, List.dropLast_concat]
              rfl
          · exact bsj_cons (bj_name (np_at rfl d4)) (bsj_cons (bj_name (np_at rfl d5)) bsj_nil)
        apply q_set (d := bestD B)
        · apply ev_callP
          · walk_at "ev"
          · rfl
          · exact ⟨n, lo, hi, P, hP, by omega, hlh.1, hlh.2, rfl, rfl⟩
        · exact np_at rfl d6
        · exact ht
      have hk := kept_eq P e lo hi
      cases hB : bestQ (farI P lo hi) lo hi with
      | none =>
        obtain ⟨ks', y4, y5, y6, q1, q2, q3⟩ := ih U ks (.fr (.int (lo : Int))) (.fr (.int (hi : Int))) (.fr (bestD B)) (by omega) hU (by omega) hnd (by omega) trivial trivial trivial
        refine ⟨ks', y4, y5, y6, q1, fun x => ?_, .go tru (head ?_) q3⟩
        · rw [q2]
          constructor
          · rintro (h | ⟨w, hw, h⟩)
            · exact .inl h
            · exact .inr ⟨w, List.mem_append_left _ hw, h⟩
          · rintro (h | ⟨w, hw, i, hi', h⟩)
            · exact .inl h
            · rcases List.mem_append.mp hw with hw | hw
              · exact .inr ⟨w, hw, i, hi', h⟩
              · rw [List.mem_singleton.mp hw, hk, hB] at hi'
                exact nomatch hi'
        · have eB : B = none := hB
          rw [eB]
          apply st_if (b := false)
          · exact tt_andC (a := false) (b := false) (tt_test (ev_op (ev_var rfl) ev_non (od_notN (d := .none)))) (fun z => nomatch z)
          · exact fun z => nomatch z
          · exact fun _ => st_next
      | some gm =>
        obtain ⟨g, m⟩ := gm
        obtain ⟨e1, b1, b2, _⟩ := best_some hB
        have eB : B = some (g, m) := hB
        have fg : Fit 429 g := by
          rw [e1]
          exact far_fit two_ok (hP _) (hP _) (hP _)
        have test : TtJ K (tAnd (tTest (tOp (fun x y H Q => y = .non ∧ Q (.bl (!decide (x = .non))) H) (tVar 6) (tC .non))) (tTest (tOp (rI0 fun i j => .bl (decide (j < i))) (tCall (spD K C_compare) [] E0 (tCons (tOp (rIx K) (tVar 6) (tC (.int 0))) (tCons (tVar 1) tNil))) (tC (.int 0))))) (St26 n P e ks U (.fr (.int (lo : Int))) (.fr (.int (hi : Int))) (.fr (bestD B))) (true && decide (e < g)) (St26 n P e ks U (.fr (.int (lo : Int))) (.fr (.int (hi : Int))) (.fr (bestD B))) := by
          rw [eB]
          refine tt_andP (tt_test (ev_op (ev_var rfl) ev_non (od_notN (d := .tuple [dR g, .int (m : Int)])))) ?_
          have ee : decide (e < g) = decide (0 < cmpR g e) := by simp only [cmpR_pos]
          rw [ee]
          apply tt_test
          apply ev_op
          · apply ev_compare
            · apply ea_cons
              · exact ev_op (ev_var (d := .tuple [dR g, .int (m : Int)]) rfl) ev_int (od_ix rfl rfl)
              · exact ea_cons (ev_var rfl) ea_nil
            · exact ⟨429, 20, fg, he, by decide⟩
          · exact ev_int
          · exact od_I0b
        by_cases c0 : e < g
        · -- kept, and both stretches wait
          have hk' : keptQ P e lo hi = keptQ P e lo m ++ [m] ++ keptQ P e m hi := by
            rw [hk, hB]
            exact if_pos c0
          have cst : cost (U ++ [(lo, m), (m, hi)]) ≤ c := by
            rw [cost_app]
            show cost U + ((2 * (m - lo) - 1) + ((2 * (hi - m) - 1) + 0)) ≤ c
            omega
          obtain ⟨ks', y4, y5, y6, q1, q2, q3⟩ := ih (U ++ [(lo, m), (m, hi)]) (if (m : Int) ∈ ks then ks else ks ++ [(m : Int)]) (.fr (.int (lo : Int))) (.fr (.int (hi : Int))) (.fr (bestD B)) cst
            (fun w hw => (List.mem_append.mp hw).elim (hU w) fun hw => by
              simp only [List.mem_cons, List.not_mem_nil, or_false] at hw
              rcases hw with rfl | rfl
              · exact ⟨b1, by show m < n; omega⟩
              · exact ⟨b2, hlh.2⟩) (by rw [List.length_append]; show U.length + 2 + c ≤ 500; omega) (by
              split
              · exact hnd
              · rename_i hm
                rw [List.nodup_append]
                exact ⟨hnd, by simp, fun a ha b hb z => hm (by rw [← List.mem_singleton.mp hb, ← z]; exact ha)⟩) (by
              split
              · omega
              · rw [List.length_append, List.length_singleton]
                omega) trivial trivial trivial
          refine ⟨ks', y4, y5, y6, q1, fun x => ?_, .go tru (head ?_) q3⟩
          · rw [q2]
            have hm : (x ∈ if (m : Int) ∈ ks then ks else ks ++ [(m : Int)]) ↔ (x ∈ ks ∨ x = (m : Int)) := by
              split
              · rename_i hm
                exact ⟨.inl, fun h => h.elim id fun z => by rw [z]; exact hm⟩
              · rw [List.mem_append, List.mem_singleton]
            rw [hm]
            constructor
            · rintro ((h | h) | ⟨w, hw, i, hi', h⟩)
              · exact .inl h
              · refine .inr ⟨(lo, hi), List.mem_append_right _ List.mem_cons_self, m, ?_, h⟩
                show m ∈ keptQ P e lo hi
                rw [hk']
                simp
              · rcases List.mem_append.mp hw with hw | hw
                · exact .inr ⟨w, List.mem_append_left _ hw, i, hi', h⟩
                · refine .inr ⟨(lo, hi), List.mem_append_right _ List.mem_cons_self, i, ?_, h⟩
                  show i ∈ keptQ P e lo hi
                  rw [hk']
                  simp only [List.mem_cons, List.not_mem_nil, or_false] at hw
                  rcases hw with rfl | rfl
                  · exact List.mem_append_left _ (List.mem_append_left _ hi')
                  · exact List.mem_append_right _ hi'
            · rintro (h | ⟨w, hw, i, hi', h⟩)
              · exact .inl (.inl h)
              · rcases List.mem_append.mp hw with hw | hw
                · exact .inr ⟨w, List.mem_append_left _ hw, i, hi', h⟩
                · have hi2 : i ∈ keptQ P e lo hi := by
                    rw [List.mem_singleton.mp hw] at hi'
                    exact hi'
                  rw [hk'] at hi2
                  rcases List.mem_append.mp hi2 with hi2 | hi2
                  · rcases List.mem_append.mp hi2 with hi2 | hi2
                    · exact .inr ⟨(lo, m), List.mem_append_right _ (by simp), i, hi2, h⟩
                    · rw [List.mem_singleton.mp hi2] at h
                      exact .inl (.inr h)
                  · exact .inr ⟨(m, hi), List.mem_append_right _ (by simp), i, hi2, h⟩
          · apply st_if (b := true && decide (e < g)) test
            · intro _
              rw [eB]
              have m1 : ∀ δ : List Sl, δ[6]? = some (.fr (bestD (some (g, m)))) → EvJ K (tOp (rIx K) (tVar 6) (tC (.int 1))) δ (.fr (.int (m : Int))) δ := fun δ h => ev_op (ev_var (d := .tuple [dR g, .int (m : Int)]) h) ev_int (od_ix rfl rfl)
              apply q_dput (k := .inl (m : Int)) (δ3 := St26 n P e ks U (.fr (.int (lo : Int))) (.fr (.int (hi : Int))) (.fr (bestD (some (g, m)))))
              · exact ev_bl
              · exact ev_varO rfl
              · exact m1 _ rfl
              · rfl
              · show (kvsOf ks).length < sizeLine
                unfold kvsOf
                rw [List.length_map]
                exact Nat.lt_of_le_of_lt (show ks.length ≤ 500 by omega) (by decide)
              rw [put_in]
              generalize hks : (if (m : Int) ∈ ks then ks else ks ++ [(m : Int)]) = ks2
              show StJ K _ (St26 n P e ks2 U (.fr (.int (lo : Int))) (.fr (.int (hi : Int))) (.fr (bestD (some (g, m))))) _
              apply q_drop1
              apply ev_extend' (i := 3) (b := true) (ds := U.map waitD) (es := [waitD (lo, m), waitD (m, hi)])
              · exact ev_varO rfl
              · rfl
              · refine ev_lst' (δ1 := St26 n P e ks2 U (.fr (.int (lo : Int))) (.fr (.int (hi : Int))) (.fr (bestD (some (g, m))))) (ea_cons (ev_tup' (ea_cons (ev_var rfl) (ea_cons (m1 _ rfl) ea_nil)) rfl (Nat.le_of_ble_eq_true rfl)) (ea_cons (ev_tup' (ea_cons (m1 _ rfl) (ea_cons (ev_var rfl) ea_nil)) rfl (Nat.le_of_ble_eq_true rfl)) ea_nil)) rfl (Nat.le_of_ble_eq_true rfl)
              · rfl
              · rfl
              · rw [List.length_map]
                exact Nat.le_trans (show U.length + 2 ≤ 502 by omega) (by decide)
              · show List.set (St26 n P e ks2 U (.fr (.int (lo : Int))) (.fr (.int (hi : Int))) (.fr (bestD (some (g, m))))) 3 (.ob true (.L (U.map waitD ++ [(lo, m), (m, hi)].map waitD))) = _
                rw [← List.map_append]
                rfl
            · intro z
              have z' : decide (e < g) = false := z
              exact absurd c0 (of_decide_eq_false z')
        · have hk' : keptQ P e lo hi = [] := by
            rw [hk, hB]
            exact if_neg c0
          obtain ⟨ks', y4, y5, y6, q1, q2, q3⟩ := ih U ks (.fr (.int (lo : Int))) (.fr (.int (hi : Int))) (.fr (bestD B)) (by omega) hU (by omega) hnd (by omega) trivial trivial trivial
          refine ⟨ks', y4, y5, y6, q1, fun x => ?_, .go tru (head ?_) q3⟩
          · rw [q2]
            constructor
            · rintro (h | ⟨w, hw, h⟩)
              · exact .inl h
              · exact .inr ⟨w, List.mem_append_left _ hw, h⟩
            · rintro (h | ⟨w, hw, i, hi', h⟩)
              · exact .inl h
              · rcases List.mem_append.mp hw with hw | hw
                · exact .inr ⟨w, hw, i, hi', h⟩
                · rw [List.mem_singleton.mp hw, hk'] at hi'
                  exact nomatch hi'
          · apply st_if (b := true && decide (e < g)) test
            · intro z
              have z' : decide (e < g) = true := z
              exact absurd (of_decide_eq_true z') c0
            · intro _
              exact st_next
theorem run_simpler {K : PySem.W.Frag} : BodyOk K (t_simpler K) 6 C_simpler := by
  refine body_pure ?_
  rintro ds d ⟨L, P, e, hP, h0, hL, he, rfl, rfl⟩
  obtain ⟨ks', y4, y5, y6, q1, q2, q3⟩ := wait_loop (K := K) (n := L + 1) (P := P) (e := e) hP (by omega) he 40 [(0, L)] [0, (L : Int)] .no .no .no (by show (2 * (L - 0) - 1) + 0 ≤ 40; omega) (fun w hw => by
    rw [List.mem_singleton.mp hw]
    exact ⟨h0, Nat.lt_succ_self L⟩) (Nat.le_of_ble_eq_true rfl) (by
    rw [List.nodup_cons]
    exact ⟨fun z => by have := List.mem_singleton.mp z; omega, by simp⟩) (Nat.le_of_ble_eq_true rfl) trivial trivial trivial
  refine ⟨St26 (L + 1) P e ks' [] y4 y5 y6, ?_, Nat.le_of_ble_eq_true rfl⟩
  show StJ K (t_simpler K) [.fr (lineD (L + 1) P), .fr (dR e), .no, .no, .no, .no, .no, .no] _
  have last : ∀ (x2 x3 : Sl), EvJ K (tOp rSubU (tCB (rLenU K) (tCons (tVar 0) tNil)) (tC (.int 1))) [.fr (lineD (L + 1) P), .fr (dR e), x2, x3, .no, .no, .no, .no] (.fr (.int (L : Int))) [.fr (lineD (L + 1) P), .fr (dR e), x2, x3, .no, .no, .no, .no] := by
    intro x2 x3
    apply EvJ.conv
    · walk_at "ev"
    · rw [List.length_map, List.length_range]
      congr 1
      omega
  apply q_setN (o := .K (kvsOf [0, (L : Int)]))
  · apply ev_disp
    · exact .cons (k := .inl 0) ev_int ev_bl (.cons (k := .inl (L : Int)) (last _ _) ev_bl .nil)
    · show [(Sum.inl 0 : Key), .inl (L : Int)].Nodup
      rw [List.nodup_cons]
      exact ⟨fun z => by have := Sum.inl.inj (List.mem_singleton.mp z); omega, by simp⟩
    · exact Nat.le_of_ble_eq_true rfl
  · exact Nat.le_of_ble_eq_true rfl
  · walk_at "np"
  apply q_setN (o := .L [waitD (0, L)])
  · apply ev_lst'
    · apply ea_cons
      · apply ev_tup'
        · exact ea_cons ev_int (ea_cons (last _ _) ea_nil)
        · rfl
        · exact Nat.le_of_ble_eq_true rfl
      · exact ea_nil
    · rfl
    · exact Nat.le_of_ble_eq_true rfl
  · exact Nat.le_of_ble_eq_true rfl
  · walk_at "np"
  apply st_seq
  · exact st_while q3
  -- the keys, sorted
  have row : (rowQ P e L).Pairwise (· < ·) := row_up P e h0
  have rowI : ((rowQ P e L).map fun i : Nat => (i : Int)).Pairwise (· ≤ ·) := by
    rw [List.pairwise_map]
    exact row.imp fun h => by omega
  have rowN : ((rowQ P e L).map fun i : Nat => (i : Int)).Nodup := by
    rw [List.Nodup, List.pairwise_map]
    exact row.imp fun h => by omega
  have perm : ((rowQ P e L).map fun i : Nat => (i : Int)).Perm ks' := by
    refine (List.perm_ext_iff_of_nodup rowN q1).mpr fun x => ?_
    rw [q2]
    unfold rowQ
    simp only [List.map_append, List.map_cons, List.map_nil, List.mem_append, List.mem_cons, List.not_mem_nil, or_false, List.mem_map]
    constructor
    · rintro ((h | ⟨i, hi, h⟩) | h)
      · exact .inl (.inl h)
      · exact .inr ⟨(0, L), rfl, i, hi, h.symm⟩
      · exact .inl (.inr h)
    · rintro ((h | h) | ⟨w, rfl, i, hi, h⟩)
      · exact .inl (.inl h)
      · exact .inr h
      · exact .inl (.inr ⟨i, hi, h.symm⟩)
  have lt : ∀ i ∈ rowQ P e L, i < L + 1 := by
    intro i hi
    unfold rowQ at hi
    rcases List.mem_append.mp hi with hi | hi
    · rcases List.mem_append.mp hi with hi | hi
      · rw [List.mem_singleton.mp hi]
        omega
      · have := ((kept_in P e L 0 L (by omega)).1 i hi).2
        omega
    · rw [List.mem_singleton.mp hi]
      omega
  have len : (rowQ P e L).length ≤ L + 1 := by
    have h := List.Nodup.length_le_of_subset (l₁ := rowQ P e L) (l₂ := List.range (L + 1)) (by rw [List.Nodup]; exact row.imp fun h => by omega) fun i hi => List.mem_range.mpr (lt i hi)
    rw [List.length_range] at h
    exact h
  have klen : ks'.length < 64 := by
    rw [← perm.length_eq, List.length_map]
    omega
  apply q_ret
  · apply ev_cb
    · apply ea_cons
      · refine ev_lc (ys := (rowQ P e L).map fun i => ptD (P i)) (δ1 := St26 (L + 1) P e ks' [] y4 y5 y6) (δw := St26 (L + 1) P e ks' [] y4 y5 y6) (src_list (ds := ((rowQ P e L).map fun i : Nat => (i : Int)).map PyData.int) (ev_frz (ev_cb (ea_cons (ev_varO rfl) ea_nil) (cd_sortDI rfl (by unfold kvsOf; rw [List.map_map, List.map_inj_left]; exact fun _ _ => rfl) klen perm rowI)))) ?_ rfl rfl (fun i hi => ?_) ?_
        · rw [List.map_map]
          refine LcRel.maps (fun i : Nat => PyData.int (i : Int)) (fun i => ptD (P i)) fun i hi => ⟨(St26 (L + 1) P e ks' [] y4 y5 y6).set 7 (.fr (.int (i : Int))), bw_name, ?_, fun j hj o z => ?_, rfl⟩
          · exact ev_op (ev_var rfl) (ev_var rfl) (od_ix rfl (line_at (lt i hi)))
          · rw [List.mem_singleton.mp hj] at z
            cases z
        · rw [List.mem_singleton.mp hi]
          intro o z
          cases z
        · rw [List.length_map, List.length_map]
          exact Nat.le_trans (show (rowQ P e L).length ≤ 21 by omega) (by decide)
      · exact ea_nil
    · exact cd_tup rfl
  · rfl
theorem len_simpler : ∀ args r args', C_simpler args r args' → args.length = 2 := lenP fun ds d ⟨_, _, _, _, _, _, _, h, _⟩ => by rw [h]; rfl
theorem ok_simpler {P : Program} {w : World} {K : PySem.W.Frag} {mg : Str → Option Value} {base : Heap} (B : Blt mg) (Df : DefAt K mg "simpler" s_simpler ["line", "e"]) (c_farthest : C8.Cal P w K mg base 7 "farthest" (spD K C_farthest) []) (c_compare : C8.Cal P w K mg base 1 "compare" (spD K C_compare) []) : C8.Cal P w K mg base 8 "simpler" (spD K C_simpler) [] :=
  cal_of Df sc_simpler len_simpler rfl fun f cdv A outer s H E hr => ⟨t_simpler K, tm_simpler B c_farthest c_compare hr, run_simpler⟩


end DL
namespace DL
open PySem PySem.Spec PyProof.Rows L2
local macro_rules | `(tactic| walk_at "len") => `(tactic| exact Nat.le_of_ble_eq_true rfl)
local macro_rules | `(tactic| walk_at "np") => `(tactic| (intro o z; cases z))
local macro_rules | `(tactic| walk_at "od") => `(tactic| first
  | exact od_addI | exact od_subI | exact od_subB | exact od_I0b | exact od_I0
  | exact od_ix rfl rfl | exact od_eq rfl rfl rfl rfl | exact od_ne rfl rfl rfl rfl | exact od_isN | exact od_notN
  | with_reducible apply od_mulI | with_reducible apply od_I | exact ud_I)
local macro_rules | `(tactic| walk_at "cd") => `(tactic| first
  | exact cd_len rfl | exact cd_abs | exact cd_int | exact cd_intB | exact cd_gcd | exact cd_tup rfl | exact cd_lst rfl)
local macro_rules | `(tactic| walk_at "ev1") => `(tactic| first
  | exact ev_int | exact ev_bl | exact ev_str | exact ev_non | exact ev_var rfl | exact ev_varO rfl
  | with_reducible apply ev_op | with_reducible apply ev_un
  | exact ea_nil | with_reducible apply ea_cons
  | with_reducible apply ev_isi | with_reducible apply ev_dget
  | with_reducible apply ev_cb
  | with_reducible apply ev_tup' | with_reducible apply ev_lstF
  | with_reducible apply tt_test | with_reducible apply tt_B | with_reducible apply tt_not
  | walk_at "od" | walk_at "cd" | walk_at "len" | rfl)
local macro_rules | `(tactic| walk_at "ev") => `(tactic| repeat' walk_at "ev1")
local macro_rules | `(tactic| walk_at "set") => `(tactic| (with_reducible apply q_set; rotate_left; walk_at "np"; rotate_left; walk_at "ev"))

local macro_rules | `(tactic| walk_at "ev1") => `(tactic| first
  | with_reducible apply ev_plus | with_reducible apply ev_minus | with_reducible apply ev_times | with_reducible apply ev_over | with_reducible apply ev_compare | with_reducible apply ev_fraction)

local macro_rules | `(tactic| walk_at "ev1") => `(tactic| first
  | with_reducible apply ev_gap | with_reducible apply ev_cross | with_reducible apply ev_dot | with_reducible apply ev_compare_points)

/-! ### the curve -/
theorem dR0 : dR 0 = .tuple [.int 0, .int 1] := rfl
theorem dR1 : dR 1 = .tuple [.int 1, .int 1] := rfl
theorem dR2 : dR 2 = .tuple [.int 2, .int 1] := rfl
theorem fit0 : Fit 1 0 := ⟨by decide, by decide⟩
theorem fit1 : Fit 1 1 := ⟨by decide, by decide⟩
theorem fit2 : Fit 2 2 := ⟨by decide, by decide⟩
def CvOk (v : Cv) : Prop := GridP 2 v.a ∧ GridP 2 v.c ∧ GridP 2 v.b
def cvD (v : Cv) : D := .tuple [ptD v.a, ptD v.c, ptD v.b]
def TOk (M N : Int) : Prop := 0 ≤ M ∧ M ≤ N ∧ 0 < N ∧ N ≤ 84
theorem coord_grid {M N : Int} {c0 c1 c2 : Rat} (h : TOk M N) (h0 : OnG 2 c0) (h1 : OnG 2 c1) (h2 : OnG 2 c2) : OnG (2 * (N * N)) (curveQ c0 c1 c2 ((M : Rat) / (N : Rat))) := by
  obtain ⟨a, rfl, a0, a1⟩ := h0
  obtain ⟨b, rfl, b0, b1⟩ := h1
  obtain ⟨c, rfl, c0, c1⟩ := h2
  obtain ⟨m0, m1, n0, n1⟩ := h
  have u0 : 0 ≤ (N - M) * (N - M) := Int.mul_nonneg (by omega) (by omega)
  have u1 : 0 ≤ M * (N - M) := Int.mul_nonneg (by omega) (by omega)
  have u2 : 0 ≤ M * M := Int.mul_nonneg (by omega) (by omega)
  refine ⟨(N - M) * (N - M) * a + 2 * (M * (N - M)) * b + M * M * c, ?_, ?_, ?_⟩
  · have hN : (N : Rat) ≠ 0 := fun z => by
      have : N = 0 := by exact_mod_cast z
      omega
    unfold curveQ
    simp only [Rat.intCast_add, Rat.intCast_mul, Rat.intCast_sub, Rat.intCast_ofNat]
    grind
  · have p0 := Int.mul_nonneg u0 a0
    have p1 := Int.mul_nonneg u1 b0
    have p2 := Int.mul_nonneg u2 c0
    grind
  · have p0 := Int.mul_nonneg u0 (show 0 ≤ 16 - a by omega)
    have p1 := Int.mul_nonneg u1 (show 0 ≤ 16 - b by omega)
    have p2 := Int.mul_nonneg u2 (show 0 ≤ 16 - c by omega)
    grind
theorem at_grid {M N : Int} {v : Cv} (hv : CvOk v) (h : TOk M N) : GridP (2 * (N * N)) (v.at ((M : Rat) / (N : Rat))) :=
  ⟨coord_grid h hv.1.1 hv.2.1.1 hv.2.2.1, coord_grid h hv.1.2 hv.2.1.2 hv.2.2.2⟩
theorem grid_ok {N : Int} (h0 : 0 < N) (h1 : N ≤ 84) : DOk (2 * (N * N)) := by
  have p0 : 0 < N * N := Int.mul_pos h0 h0
  have p1 : N * N ≤ 84 * 84 := Int.mul_le_mul h1 h1 (by omega) (by omega)
  exact ⟨by omega, by omega⟩
theorem t_fit {M N : Int} (h : TOk M N) : Fit 7 ((M : Rat) / (N : Rat)) := by
  obtain ⟨m0, m1, n0, n1⟩ := h
  exact fit_div (by omega) (by omega) (by omega)
def F_curve_point (ds : List D) (d : D) : Prop := ∃ (v : Cv) (M N : Int), CvOk v ∧ TOk M N ∧ ds = [cvD v, dR ((M : Rat) / (N : Rat))] ∧ d = ptD (v.at ((M : Rat) / (N : Rat)))
abbrev C_curve_point : Con := CP F_curve_point
/-! curve_point: slots 0 curve, 1 t, 2 rest, 3 shares, 4 total, 5 share, 6 point -/
abbrev s_curve_point : Stmt := topS 23
theorem sc_curve_point : FnScope ["curve", "t", "rest", "shares", "total", "share", "point"] ["curve", "t"] (defScope s_curve_point) := ⟨rfl, rfl, rfl, by decide +kernel, rfl, by decide +kernel, by decide +kernel⟩
def t_curve_point (K : PySem.W.Frag) : TS :=
  (tSeq (tAsg (tCall (spD K C_minus) [] E0 (tCons (tCon K (.tuple [.int 1, .int 1])) (tCons (tVar 1) tNil))) (gName 2))
    (tSeq (tAsg (tTup (tCons (tCall (spD K C_times) [] E0 (tCons (tVar 2) (tCons (tVar 2) tNil))) (tCons (tCall (spD K C_times) [] E0 (tCons (tCon K (.tuple [.int 2, .int 1])) (tCons (tCall (spD K C_times) [] E0 (tCons (tVar 1) (tCons (tVar 2) tNil))) tNil))) (tCons (tCall (spD K C_times) [] E0 (tCons (tVar 1) (tCons (tVar 1) tNil))) tNil)))) (gName 3))
    (tSeq (tAsg (tTup (tCons (tTup (tCons (tC (.int 0)) (tCons (tC (.int 1)) tNil))) (tCons (tTup (tCons (tC (.int 0)) (tCons (tC (.int 1)) tNil))) tNil))) (gName 4))
    (tSeq (tFor (RZ.iZipA K (tCons (tVar 3) (tCons (tVar 0) tNil))) (gTup K 2 (gCons (gName 5) (gCons (gName 6) gNil))) (tAsg (tTup (tCons (tCall (spD K C_plus) [] E0 (tCons (tOp (rIx K) (tVar 4) (tC (.int 0))) (tCons (tCall (spD K C_times) [] E0 (tCons (tVar 5) (tCons (tOp (rIx K) (tVar 6) (tC (.int 0))) tNil))) tNil))) (tCons (tCall (spD K C_plus) [] E0 (tCons (tOp (rIx K) (tVar 4) (tC (.int 1))) (tCons (tCall (spD K C_times) [] E0 (tCons (tVar 5) (tCons (tOp (rIx K) (tVar 6) (tC (.int 1))) tNil))) tNil))) tNil))) (gName 4)))
    (tRet (tVar 4))))))
theorem tm_curve_point {P : Program} {w : World} {K : PySem.W.Frag} {mg : Str → Option Value} {base : Heap} (g_ONE : ConAt K mg "ONE" (.tuple [.int 1, .int 1])) (g_TWO : ConAt K mg "TWO" (.tuple [.int 2, .int 1])) (B : Blt mg) (c_minus : C8.Cal P w K mg base 2 "minus" (spD K C_minus) []) (c_times : C8.Cal P w K mg base 2 "times" (spD K C_times) []) (c_plus : C8.Cal P w K mg base 2 "plus" (spD K C_plus) []) {f : Addr} {cdv : Value} {A : Around} {outer : List Env} {s : Shared} {H : Hp} {E : XK} (hr : Room 2 (A.deeper (envOfC "curve_point" (defScope s_curve_point) s.heap.objs.size f cdv))) :
    PSs (cxOf CX0 P w K mg base ["curve", "t", "rest", "shares", "total", "share", "point"] "curve_point" (defScope s_curve_point) f cdv A outer s H E).nox (defBody s_curve_point) (t_curve_point K) := by
  have nd := sc_curve_point.nd
  exact (pss_cons (ps_set (i := 2) nd rfl (Or.inl rfl) (C8.pe_c c_minus hr (by omega) (by rfl) (pa_cons (pe_con (by rfl) g_ONE) (pa_cons (pv 1) pa_nil))))
    (pss_cons (ps_set (i := 3) nd rfl (Or.inl rfl) (pe_tup (pa_cons (C8.pe_c c_times hr (by omega) (by rfl) (pa_cons (pv 2) (pa_cons (pv 2) pa_nil))) (pa_cons (C8.pe_c c_times hr (by omega) (by rfl) (pa_cons (pe_con (by rfl) g_TWO) (pa_cons (C8.pe_c c_times hr (by omega) (by rfl) (pa_cons (pv 1) (pa_cons (pv 2) pa_nil))) pa_nil))) (pa_cons (C8.pe_c c_times hr (by omega) (by rfl) (pa_cons (pv 1) (pa_cons (pv 1) pa_nil))) pa_nil)))))
    (pss_cons (ps_set (i := 4) nd rfl (Or.inl rfl) (pe_tup (pa_cons (pe_tup (pa_cons pe_int (pa_cons pe_int pa_nil))) (pa_cons (pe_tup (pa_cons pe_int (pa_cons pe_int pa_nil))) pa_nil))))
    (pss_cons (ps_for PassesOwn.never rfl (RZ.pi_zipA (by rfl) B.zip_ (pa_cons (pv 3) (pa_cons (pv 0) pa_nil))) (pg_tup rfl (pgs_cons (pg_name (i := 5) nd rfl (Or.inl rfl)) (pgs_cons (pg_name (i := 6) nd rfl (Or.inl rfl)) pgs_nil))) (pss_one (ps_set (i := 4) nd rfl (Or.inl rfl) (pe_tup (pa_cons (C8.pe_c c_plus hr (by omega) (by rfl) (pa_cons (pe_ix ix_seq (pv 4) pe_int (fun _ _ => rfl)) (pa_cons (C8.pe_c c_times hr (by omega) (by rfl) (pa_cons (pv 5) (pa_cons (pe_ix ix_seq (pv 6) pe_int (fun _ _ => rfl)) pa_nil))) pa_nil))) (pa_cons (C8.pe_c c_plus hr (by omega) (by rfl) (pa_cons (pe_ix ix_seq (pv 4) pe_int (fun _ _ => rfl)) (pa_cons (C8.pe_c c_times hr (by omega) (by rfl) (pa_cons (pv 5) (pa_cons (pe_ix ix_seq (pv 6) pe_int (fun _ _ => rfl)) pa_nil))) pa_nil))) pa_nil))))))
    (pss_one (ps_ret (pv 4)))))))

theorem run_curve_point {K : PySem.W.Frag} : BodyOk K (t_curve_point K) 5 C_curve_point := by
  refine body_pure ?_
  rintro ds d ⟨v, M, N, hv, hT, rfl, rfl⟩
  have ft := t_fit hT
  generalize (M : Rat) / (N : Rat) = t at *
  have fr : Fit 9 (1 - t) := fit1.sub ft
  have f0 : Fit 18 ((1 - t) * (1 - t)) := fr.mul fr
  have f1 : Fit 18 (2 * (t * (1 - t))) := fit2.mul (ft.mul fr)
  have f2 : Fit 18 (t * t) := (ft.mul ft).mono (by decide)
  let sh : D := .tuple [dR ((1 - t) * (1 - t)), dR (2 * (t * (1 - t))), dR (t * t)]
  have ga := hv.1.fit two_ok
  have gc := hv.2.1.fit two_ok
  have gb := hv.2.2.fit two_ok
  -- one turn
  have turn : ∀ (k : Nat) (s : Rat) (p q : Pt) (x5 x6 : Sl), Fit 18 s → FitP 17 p → FitP (37 * k + 1) q → k ≤ 3 → Dat x5 → Dat x6 → ∃ δb, BindJ K (gTup K 2 (gCons (gName 5) (gCons (gName 6) gNil))) (.tuple [dR s, ptD p]) [.fr (cvD v), .fr (dR t), .fr (dR (1 - t)), .fr sh, .fr (ptD q), x5, x6] δb ∧
      StJ K (tAsg (tTup (tCons (tCall (spD K C_plus) [] E0 (tCons (tOp (rIx K) (tVar 4) (tC (.int 0))) (tCons (tCall (spD K C_times) [] E0 (tCons (tVar 5) (tCons (tOp (rIx K) (tVar 6) (tC (.int 0))) tNil))) tNil))) (tCons (tCall (spD K C_plus) [] E0 (tCons (tOp (rIx K) (tVar 4) (tC (.int 1))) (tCons (tCall (spD K C_times) [] E0 (tCons (tVar 5) (tCons (tOp (rIx K) (tVar 6) (tC (.int 1))) tNil))) tNil))) tNil))) (gName 4)) δb
        (.nx [.fr (cvD v), .fr (dR t), .fr (dR (1 - t)), .fr sh, .fr (ptD ⟨q.x + s * p.x, q.y + s * p.y⟩), .fr (dR s), .fr (ptD p)]) := by
    intro k s p q x5 x6 hs hp hq hk d5 d6
    refine ⟨[.fr (cvD v), .fr (dR t), .fr (dR (1 - t)), .fr sh, .fr (ptD q), .fr (dR s), .fr (ptD p)], bj_tup (bsj_cons (bj_name (np_at rfl d5)) (bsj_cons (bj_name (np_at rfl d6)) bsj_nil)), ?_⟩
    apply q_set1' (d := .tuple [dR (q.x + s * p.x), dR (q.y + s * p.y)])
    · walk_at "ev"
      · exact ⟨18, 17, hs, hp.1, by decide⟩
      · exact ⟨37 * k + 1, 35, hq.1, hs.mul hp.1, by omega⟩
      · exact ⟨18, 17, hs, hp.2, by decide⟩
      · exact ⟨37 * k + 1, 35, hq.2, hs.mul hp.2, by omega⟩
    · walk_at "np"
    · rfl
  obtain ⟨δ1, b1, t1⟩ := turn 0 ((1 - t) * (1 - t)) v.a ⟨0, 0⟩ .no .no f0 ga ⟨fit0, fit0⟩ (by decide) trivial trivial
  obtain ⟨δ2, b2, t2⟩ := turn 1 (2 * (t * (1 - t))) v.c ⟨0 + (1 - t) * (1 - t) * v.a.x, 0 + (1 - t) * (1 - t) * v.a.y⟩ (.fr (dR ((1 - t) * (1 - t)))) (.fr (ptD v.a)) f1 gc ⟨(fit0.add (f0.mul ga.1)).mono (by decide), (fit0.add (f0.mul ga.2)).mono (by decide)⟩ (by decide) trivial trivial
  obtain ⟨δ3, b3, t3⟩ := turn 2 (t * t) v.b ⟨0 + (1 - t) * (1 - t) * v.a.x + 2 * (t * (1 - t)) * v.c.x, 0 + (1 - t) * (1 - t) * v.a.y + 2 * (t * (1 - t)) * v.c.y⟩ (.fr (dR (2 * (t * (1 - t))))) (.fr (ptD v.c)) f2 gb ⟨((fit0.add (f0.mul ga.1)).add (f1.mul gc.1)).mono (by decide), ((fit0.add (f0.mul ga.2)).add (f1.mul gc.2)).mono (by decide)⟩ (by decide) trivial trivial
  refine ⟨[.fr (cvD v), .fr (dR t), .fr (dR (1 - t)), .fr sh, .fr (ptD (v.at t)), .fr (dR (t * t)), .fr (ptD v.b)], ?_, Nat.le_of_ble_eq_true rfl⟩
  show StJ K (t_curve_point K) [.fr (cvD v), .fr (dR t), .no, .no, .no, .no, .no] _
  apply q_set (d := dR (1 - t))
  · apply ev_minus
    · exact ea_cons (ev_con.conv dR1.symm) (ea_cons (ev_var rfl) ea_nil)
    · exact ⟨1, 7, fit1, ft, by decide⟩
  · walk_at "np"
  apply q_set (d := sh)
  · apply ev_tup'
    · apply ea_cons
      · walk_at "ev"
        exact ⟨9, 9, fr, fr, by decide⟩
      · apply ea_cons
        · apply ev_times
          · apply ea_cons
            · exact ev_con.conv dR2.symm
            · walk_at "ev"
              exact ⟨7, 9, ft, fr, by decide⟩
          · exact ⟨2, 16, fit2, ft.mul fr, by decide⟩
        · walk_at "ev"
          exact ⟨7, 7, ft, ft, by decide⟩
    · rfl
    · exact Nat.le_of_ble_eq_true rfl
  · walk_at "np"
  apply q_set (d := ptD ⟨0, 0⟩)
  · show EvJ K _ _ (.fr (.tuple [.tuple [.int 0, .int 1], .tuple [.int 0, .int 1]])) _
    walk_at "ev"
  · walk_at "np"
  apply q_for
  · apply src_zipT (as := [dR ((1 - t) * (1 - t)), dR (2 * (t * (1 - t))), dR (t * t)]) (bs := [ptD v.a, ptD v.c, ptD v.b])
    walk_at "ev"
  · exact .go b1 t1 (.go b2 t2 (.go b3 t3 .nil))
  exact q_ret (ev_var rfl) rfl
theorem len_curve_point : ∀ args r args', C_curve_point args r args' → args.length = 2 := lenP fun ds d ⟨_, _, _, _, _, h, _⟩ => by rw [h]; rfl
theorem ok_curve_point {P : Program} {w : World} {K : PySem.W.Frag} {mg : Str → Option Value} {base : Heap} (g_ONE : ConAt K mg "ONE" (.tuple [.int 1, .int 1])) (g_TWO : ConAt K mg "TWO" (.tuple [.int 2, .int 1])) (B : Blt mg) (Df : DefAt K mg "curve_point" s_curve_point ["curve", "t"]) (c_minus : C8.Cal P w K mg base 2 "minus" (spD K C_minus) []) (c_times : C8.Cal P w K mg base 2 "times" (spD K C_times) []) (c_plus : C8.Cal P w K mg base 2 "plus" (spD K C_plus) []) : C8.Cal P w K mg base 3 "curve_point" (spD K C_curve_point) [] :=
  cal_of Df sc_curve_point len_curve_point rfl fun f cdv A outer s H E hr => ⟨t_curve_point K, tm_curve_point g_ONE g_TWO B c_minus c_times c_plus hr, run_curve_point⟩

def flatD (v : Cv) (n : Nat) : D := .tuple ((List.range (n + 1)).map fun k : Nat => ptD (v.at (((k : Int) : Rat) / ((n : Int) : Rat))))
def F_flattened (ds : List D) (d : D) : Prop := ∃ (v : Cv) (n : Nat), CvOk v ∧ 0 < n ∧ n ≤ 12 ∧ ds = [cvD v, .int (n : Int)] ∧ d = flatD v n
abbrev C_flattened : Con := CP F_flattened
/-! flattened: slots 0 curve, 1 n, 2 k -/
abbrev s_flattened : Stmt := topS 24
theorem sc_flattened : FnScope ["curve", "n", "k"] ["curve", "n"] (defScope s_flattened) := ⟨rfl, rfl, rfl, by decide +kernel, rfl, by decide +kernel, by decide +kernel⟩
def t_flattened (K : PySem.W.Frag) : TS :=
  (tRet (tCB (rTupU K) (tCons (tLc (iRng1 (tCons (tOp (rAddU K) (tVar 1) (tC (.int 1))) tNil)) (gName 2) tYes (tCall (spD K C_curve_point) [] E0 (tCons (tVar 0) (tCons (tCall (spD K C_fraction) [] E0 (tCons (tVar 2) (tCons (tVar 1) tNil))) tNil))) [2]) tNil)))
theorem tm_flattened {P : Program} {w : World} {K : PySem.W.Frag} {mg : Str → Option Value} {base : Heap} (B : Blt mg) (c_curve_point : C8.Cal P w K mg base 3 "curve_point" (spD K C_curve_point) []) (c_fraction : C8.Cal P w K mg base 1 "fraction" (spD K C_fraction) []) {f : Addr} {cdv : Value} {A : Around} {outer : List Env} {s : Shared} {H : Hp} {E : XK} (hr : Room 3 (A.deeper (envOfC "flattened" (defScope s_flattened) s.heap.objs.size f cdv))) :
    PSs (cxOf CX0 P w K mg base ["curve", "n", "k"] "flattened" (defScope s_flattened) f cdv A outer s H E).nox (defBody s_flattened) (t_flattened K) := by
  have nd := sc_flattened.nd
  exact (pss_one (ps_ret (pe_callTy call_tupU (by rfl) B.tuple_ boot_tuple (pa_cons (pe_lc (own := [("k", 2)]) (g := (gName 2)) (tt := tYes) rfl nd (pi_range1 (by rfl) B.range_ (pa_cons (pe_op op_addU (pv 1) pe_int) pa_nil)) (blkOk_by (N := ["curve", "n", "k"]) (sc := defScope s_flattened) (by decide +kernel)) (fun _ _ _ _ _ => (pg_name (i := 2) nd rfl (Or.inl rfl))) (fun _ _ _ _ _ => pts_nil) (fun _ _ _ _ _ => (C8.pe_c c_curve_point hr (by omega) (by rfl) (pa_cons (pv 0) (pa_cons (C8.pe_c c_fraction hr (by omega) (by rfl) (pa_cons (pv 2) (pa_cons (pv 1) pa_nil))) pa_nil))))) pa_nil))))

theorem np2 {x0 x1 : Sl} : NoParV [x0, x1, .no] [2] := fun i hi o z => by
  rw [List.mem_singleton.mp hi] at z
  cases z
theorem np2' {x0 x1 : Sl} {d : D} : NoParV [x0, x1, .fr d] [2] := fun i hi o z => by
  rw [List.mem_singleton.mp hi] at z
  cases z
theorem rngI (n : Nat) : rngD 0 n = (List.range n).map fun i : Nat => PyData.int (i : Int) := by
  unfold rngD
  refine List.map_congr_left fun i _ => ?_
  rw [Int.zero_add]
theorem run_flattened {K : PySem.W.Frag} : BodyOk K (t_flattened K) 1 C_flattened := by
  refine body_pure ?_
  rintro ds d ⟨v, n, hv, h0, h1, rfl, rfl⟩
  refine ⟨[.fr (cvD v), .fr (.int (n : Int)), .no], ?_, Nat.le_of_ble_eq_true rfl⟩
  show StJ K (t_flattened K) [.fr (cvD v), .fr (.int (n : Int)), .no] _
  apply q_ret
  · apply ev_cb
    · apply ea_cons
      · refine ev_lc (ys := (List.range (n + 1)).map fun k : Nat => ptD (v.at (((k : Int) : Rat) / ((n : Int) : Rat)))) (δ1 := [.fr (cvD v), .fr (.int (n : Int)), .no]) (δw := [.fr (cvD v), .fr (.int (n : Int)), .no]) (src_rng1 (n := (n : Int) + 1) (ea_cons (ev_op (ev_var rfl) ev_int od_addI) ea_nil) (by omega) (by omega)) ?_ rfl rfl np2 ?_
        · rw [show ((n : Int) + 1).toNat = n + 1 by omega, rngI]
          refine LcRel.maps (fun i : Nat => PyData.int (i : Int)) _ fun i hi => ⟨[.fr (cvD v), .fr (.int (n : Int)), .fr (.int (i : Int))], bw_name, ?_, np2', rfl⟩
          have hin := List.mem_range.mp hi
          apply ev_callP
          · apply ea_cons
            · exact ev_var rfl
            · apply ea_cons (r := .fr (dR (((i : Int) : Rat) / ((n : Int) : Rat))))
              · rw [← Rat.divInt_eq_div]
                walk_at "ev"
                · omega
                · exact lt_log (n := 7) (by omega) (by omega) (by decide)
              · exact ea_nil
          · rfl
          · exact ⟨v, i, n, hv, ⟨by omega, by omega, by omega, by omega⟩, rfl, rfl⟩
        · rw [rngD_len]
          exact Nat.le_trans (show ((n : Int) + 1).toNat ≤ 13 by omega) (by decide)
      · exact ea_nil
    · exact cd_tup rfl
  · rfl
theorem len_flattened : ∀ args r args', C_flattened args r args' → args.length = 2 := lenP fun ds d ⟨_, _, _, _, _, h, _⟩ => by rw [h]; rfl
theorem ok_flattened {P : Program} {w : World} {K : PySem.W.Frag} {mg : Str → Option Value} {base : Heap} (B : Blt mg) (Df : DefAt K mg "flattened" s_flattened ["curve", "n"]) (c_curve_point : C8.Cal P w K mg base 3 "curve_point" (spD K C_curve_point) []) (c_fraction : C8.Cal P w K mg base 1 "fraction" (spD K C_fraction) []) : C8.Cal P w K mg base 4 "flattened" (spD K C_flattened) [] :=
  cal_of Df sc_flattened len_flattened rfl fun f cdv A outer s H E hr => ⟨t_flattened K, tm_flattened B c_curve_point c_fraction hr, run_flattened⟩

def F_minus_points (ds : List D) (d : D) : Prop := ∃ v w n m, FitP n v ∧ FitP m w ∧ n + m ≤ 4000 ∧ ds = [ptD v, ptD w] ∧ d = ptD ⟨v.x - w.x, v.y - w.y⟩
abbrev C_minus_points : Con := CP F_minus_points
/-! minus_points: slots 0 v, 1 w -/
abbrev s_minus_points : Stmt := topS 26
theorem sc_minus_points : FnScope ["v", "w"] ["v", "w"] (defScope s_minus_points) := ⟨rfl, rfl, rfl, by decide +kernel, rfl, by decide +kernel, by decide +kernel⟩
def t_minus_points (K : PySem.W.Frag) : TS :=
  (tRet (tTup (tCons (tCall (spD K C_minus) [] E0 (tCons (tOp (rIx K) (tVar 0) (tC (.int 0))) (tCons (tOp (rIx K) (tVar 1) (tC (.int 0))) tNil))) (tCons (tCall (spD K C_minus) [] E0 (tCons (tOp (rIx K) (tVar 0) (tC (.int 1))) (tCons (tOp (rIx K) (tVar 1) (tC (.int 1))) tNil))) tNil))))
theorem tm_minus_points {P : Program} {w : World} {K : PySem.W.Frag} {mg : Str → Option Value} {base : Heap} (B : Blt mg) (c_minus : C8.Cal P w K mg base 2 "minus" (spD K C_minus) []) {f : Addr} {cdv : Value} {A : Around} {outer : List Env} {s : Shared} {H : Hp} {E : XK} (hr : Room 2 (A.deeper (envOfC "minus_points" (defScope s_minus_points) s.heap.objs.size f cdv))) :
    PSs (cxOf CX0 P w K mg base ["v", "w"] "minus_points" (defScope s_minus_points) f cdv A outer s H E).nox (defBody s_minus_points) (t_minus_points K) := by
  have nd := sc_minus_points.nd
  exact (pss_one (ps_ret (pe_tup (pa_cons (C8.pe_c c_minus hr (by omega) (by rfl) (pa_cons (pe_ix ix_seq (pv 0) pe_int (fun _ _ => rfl)) (pa_cons (pe_ix ix_seq (pv 1) pe_int (fun _ _ => rfl)) pa_nil))) (pa_cons (C8.pe_c c_minus hr (by omega) (by rfl) (pa_cons (pe_ix ix_seq (pv 0) pe_int (fun _ _ => rfl)) (pa_cons (pe_ix ix_seq (pv 1) pe_int (fun _ _ => rfl)) pa_nil))) pa_nil)))))

theorem run_minus_points {K : PySem.W.Frag} : BodyOk K (t_minus_points K) 0 C_minus_points := by
  refine body_pure ?_
  rintro ds d ⟨v, w, n, m, hv, hw, h, rfl, rfl⟩
  refine ⟨[.fr (ptD v), .fr (ptD w)], ?_, Nat.le_of_ble_eq_true rfl⟩
  show StJ K (t_minus_points K) [.fr (ptD v), .fr (ptD w)] (.rt (.fr (.tuple [dR (v.x - w.x), dR (v.y - w.y)])) _)
  apply q_ret
  · walk_at "ev"
    · exact ⟨n, m, hv.1, hw.1, by omega⟩
    · exact ⟨n, m, hv.2, hw.2, by omega⟩
  · rfl
theorem len_minus_points : ∀ args r args', C_minus_points args r args' → args.length = 2 := lenP fun ds d ⟨_, _, _, _, _, _, _, h, _⟩ => by rw [h]; rfl
theorem ok_minus_points {P : Program} {w : World} {K : PySem.W.Frag} {mg : Str → Option Value} {base : Heap} (B : Blt mg) (Df : DefAt K mg "minus_points" s_minus_points ["v", "w"]) (c_minus : C8.Cal P w K mg base 2 "minus" (spD K C_minus) []) : C8.Cal P w K mg base 3 "minus_points" (spD K C_minus_points) [] :=
  cal_of Df sc_minus_points len_minus_points rfl fun f cdv A outer s H E hr => ⟨t_minus_points K, tm_minus_points B c_minus hr, run_minus_points⟩

def leanQ (v : Cv) (n : Nat) : Rat := dotQ v.bend v.bend * Rat.divInt 1 (16 * (n : Int) * (n : Int) * (n : Int) * (n : Int))
def F_lean (ds : List D) (d : D) : Prop := ∃ (v : Cv) (n : Nat), CvOk v ∧ 0 < n ∧ n ≤ 24 ∧ ds = [cvD v, .int (n : Int)] ∧ d = dR (leanQ v n)
abbrev C_lean : Con := CP F_lean
/-! lean: slots 0 curve, 1 n, 2 a, 3 c, 4 b, 5 bend -/
abbrev s_lean : Stmt := topS 25
theorem sc_lean : FnScope ["curve", "n", "a", "c", "b", "bend"] ["curve", "n"] (defScope s_lean) := ⟨rfl, rfl, rfl, by decide +kernel, rfl, by decide +kernel, by decide +kernel⟩
def t_lean (K : PySem.W.Frag) : TS :=
  (tSeq (tAsg (tVar 0) (gTup K 3 (gCons (gName 2) (gCons (gName 3) (gCons (gName 4) gNil)))))
    (tSeq (tAsg (tCall (spD K C_minus_points) [] E0 (tCons (tCall (spD K C_gap) [] E0 (tCons (tVar 3) (tCons (tVar 2) tNil))) (tCons (tCall (spD K C_gap) [] E0 (tCons (tVar 4) (tCons (tVar 3) tNil))) tNil))) (gName 5))
    (tRet (tCall (spD K C_times) [] E0 (tCons (tCall (spD K C_dot) [] E0 (tCons (tVar 5) (tCons (tVar 5) tNil))) (tCons (tCall (spD K C_fraction) [] E0 (tCons (tC (.int 1)) (tCons (tOp (rMulU K) (tOp (rMulU K) (tOp (rMulU K) (tOp (rMulU K) (tC (.int 16)) (tVar 1)) (tVar 1)) (tVar 1)) (tVar 1)) tNil))) tNil))))))
theorem tm_lean {P : Program} {w : World} {K : PySem.W.Frag} {mg : Str → Option Value} {base : Heap} (B : Blt mg) (c_minus_points : C8.Cal P w K mg base 3 "minus_points" (spD K C_minus_points) []) (c_times : C8.Cal P w K mg base 2 "times" (spD K C_times) []) (c_gap : C8.Cal P w K mg base 3 "gap" (spD K C_gap) []) (c_dot : C8.Cal P w K mg base 3 "dot" (spD K C_dot) []) (c_fraction : C8.Cal P w K mg base 1 "fraction" (spD K C_fraction) []) {f : Addr} {cdv : Value} {A : Around} {outer : List Env} {s : Shared} {H : Hp} {E : XK} (hr : Room 3 (A.deeper (envOfC "lean" (defScope s_lean) s.heap.objs.size f cdv))) :
    PSs (cxOf CX0 P w K mg base ["curve", "n", "a", "c", "b", "bend"] "lean" (defScope s_lean) f cdv A outer s H E).nox (defBody s_lean) (t_lean K) := by
  have nd := sc_lean.nd
  exact (pss_cons (ps_asg (pv 0) (pg_tup rfl (pgs_cons (pg_name (i := 2) nd rfl (Or.inl rfl)) (pgs_cons (pg_name (i := 3) nd rfl (Or.inl rfl)) (pgs_cons (pg_name (i := 4) nd rfl (Or.inl rfl)) pgs_nil)))))
    (pss_cons (ps_set (i := 5) nd rfl (Or.inl rfl) (C8.pe_c c_minus_points hr (by omega) (by rfl) (pa_cons (C8.pe_c c_gap hr (by omega) (by rfl) (pa_cons (pv 3) (pa_cons (pv 2) pa_nil))) (pa_cons (C8.pe_c c_gap hr (by omega) (by rfl) (pa_cons (pv 4) (pa_cons (pv 3) pa_nil))) pa_nil))))
    (pss_one (ps_ret (C8.pe_c c_times hr (by omega) (by rfl) (pa_cons (C8.pe_c c_dot hr (by omega) (by rfl) (pa_cons (pv 5) (pa_cons (pv 5) pa_nil))) (pa_cons (C8.pe_c c_fraction hr (by omega) (by rfl) (pa_cons pe_int (pa_cons (pe_op op_mulU (pe_op op_mulU (pe_op op_mulU (pe_op op_mulU pe_int (pv 1)) (pv 1)) (pv 1)) (pv 1)) pa_nil))) pa_nil)))))))

theorem bend_fit {v : Cv} (hv : CvOk v) : FitP 71 v.bend := by
  have ga := hv.1.fit two_ok
  have gc := hv.2.1.fit two_ok
  have gb := hv.2.2.fit two_ok
  have h1 := gc.gap ga
  have h2 := gb.gap gc
  exact ⟨h1.1.sub h2.1, h1.2.sub h2.2⟩
theorem four_pow {n : Nat} (h0 : 0 < n) (h : n ≤ 24) : ∃ q1 q2 q3 q4 : Int, q1 = 16 * (n : Int) ∧ q2 = q1 * n ∧ q3 = q2 * n ∧ q4 = q3 * n ∧ 0 < q4 ∧ q1 ≤ 2 ^ 9 ∧ q2 ≤ 2 ^ 14 ∧ q3 ≤ 2 ^ 19 ∧ q4 ≤ 2 ^ 24 ∧ 0 ≤ q1 ∧ 0 ≤ q2 ∧ 0 ≤ q3 := by
  have m : ∀ (a b : Int), 0 < a → a ≤ b → 0 < a * (n : Int) ∧ a * (n : Int) ≤ b * 24 := fun a b h1 h2 =>
    ⟨Int.mul_pos h1 (by omega), Int.mul_le_mul h2 (by omega) (by omega) (by omega)⟩
  obtain ⟨a1, a2⟩ := m 16 16 (by decide) (by decide)
  obtain ⟨b1, b2⟩ := m _ _ a1 a2
  obtain ⟨c1, c2⟩ := m _ _ b1 b2
  obtain ⟨d1, d2⟩ := m _ _ c1 c2
  exact ⟨_, _, _, _, rfl, rfl, rfl, rfl, d1, by omega, by omega, by omega, by omega, by omega, by omega, by omega⟩
theorem lean_fit {v : Cv} {n : Nat} (hv : CvOk v) (h0 : 0 < n) (h : n ≤ 24) : Fit 310 (leanQ v n) ∧ Fit 25 (Rat.divInt 1 (16 * (n : Int) * (n : Int) * (n : Int) * (n : Int))) := by
  obtain ⟨q1, q2, q3, q4, e1, e2, e3, e4, p, b1, b2, b3, b4, _⟩ := four_pow h0 h
  have f : Fit 25 (Rat.divInt 1 (16 * (n : Int) * (n : Int) * (n : Int) * (n : Int))) := by
    rw [← e1, ← e2, ← e3, ← e4, Rat.divInt_eq_div]
    exact fit_div (by omega) (by omega) (by omega)
  have g := ((bend_fit hv).dot (bend_fit hv)).mul f
  exact ⟨Fit.mono g (by decide), f⟩
theorem run_lean {K : PySem.W.Frag} : BodyOk K (t_lean K) 4 C_lean := by
  refine body_pure ?_
  rintro ds d ⟨v, n, hv, h0, h1, rfl, rfl⟩
  have ga := hv.1.fit two_ok
  have gc := hv.2.1.fit two_ok
  have gb := hv.2.2.fit two_ok
  have fb := bend_fit hv
  obtain ⟨q1, q2, q3, q4, e1, e2, e3, e4, p, b1, b2, b3, b4, z1, z2, z3⟩ := four_pow h0 h1
  refine ⟨[.fr (cvD v), .fr (.int (n : Int)), .fr (ptD v.a), .fr (ptD v.c), .fr (ptD v.b), .fr (ptD v.bend)], ?_, Nat.le_of_ble_eq_true rfl⟩
  show StJ K (t_lean K) [.fr (cvD v), .fr (.int (n : Int)), .no, .no, .no, .no] _
  apply st_seq
  · apply st_unT (ds := [ptD v.a, ptD v.c, ptD v.b])
    · exact ev_var rfl
    · exact bsj_cons (bj_name (by intro o z; cases z)) (bsj_cons (bj_name (by intro o z; cases z)) (bsj_cons (bj_name (by intro o z; cases z)) bsj_nil))
  show StJ K _ [.fr (cvD v), .fr (.int (n : Int)), .fr (ptD v.a), .fr (ptD v.c), .fr (ptD v.b), .no] _
  apply q_set (d := ptD v.bend)
  · apply ev_callP
    · walk_at "ev"
      · exact ⟨17, 17, gc, ga, by decide⟩
      · exact ⟨17, 17, gb, gc, by decide⟩
    · rfl
    · exact ⟨gapQ v.c v.a, gapQ v.b v.c, 35, 35, gc.gap ga, gb.gap gc, by decide, rfl, rfl⟩
  · walk_at "np"
  apply q_ret (r := .fr (dR (leanQ v n)))
  · unfold leanQ
    rw [← e1, ← e2, ← e3, ← e4]
    apply ev_times
    · apply ea_cons
      · walk_at "ev"
        exact ⟨71, 71, fb, fb, by decide⟩
      · apply ea_cons
        · apply ev_fraction
          · apply ea_cons
            · exact ev_int
            · apply ea_cons (r := .fr (.int q4))
              · rw [e4, e3, e2, e1]
                walk_at "ev"
                · exact mulB_of (n := 5) (m := 5) (by decide) (by omega) (by decide)
                · exact mulB_of (n := 10) (m := 5) (by omega) (by omega) (by decide)
                · rw [← e1]
                  exact mulB_of (n := 15) (m := 5) (by rw [← e2]; omega) (by omega) (by decide)
                · rw [← e1, ← e2]
                  exact mulB_of (n := 20) (m := 5) (by rw [← e3]; omega) (by omega) (by decide)
              · exact ea_nil
          · omega
          · exact lt_log (n := 25) (by omega) (by omega) (by decide)
        · exact ea_nil
    · refine ⟨285, 25, fb.dot fb, ?_, by decide⟩
      rw [e4, e3, e2, e1]
      exact (lean_fit hv h0 h1).2
  · rfl
theorem len_lean : ∀ args r args', C_lean args r args' → args.length = 2 := lenP fun ds d ⟨_, _, _, _, _, h, _⟩ => by rw [h]; rfl
theorem ok_lean {P : Program} {w : World} {K : PySem.W.Frag} {mg : Str → Option Value} {base : Heap} (B : Blt mg) (Df : DefAt K mg "lean" s_lean ["curve", "n"]) (c_minus_points : C8.Cal P w K mg base 3 "minus_points" (spD K C_minus_points) []) (c_times : C8.Cal P w K mg base 2 "times" (spD K C_times) []) (c_gap : C8.Cal P w K mg base 3 "gap" (spD K C_gap) []) (c_dot : C8.Cal P w K mg base 3 "dot" (spD K C_dot) []) (c_fraction : C8.Cal P w K mg base 1 "fraction" (spD K C_fraction) []) : C8.Cal P w K mg base 4 "lean" (spD K C_lean) [] :=
  cal_of Df sc_lean len_lean rfl fun f cdv A outer s H E hr => ⟨t_lean K, tm_lean B c_minus_points c_times c_gap c_dot c_fraction hr, run_lean⟩

def sweepQ (v : Cv) : Rat := crossQ (gapQ v.a v.c) (gapQ v.a v.b) * Rat.divInt 1 3
def F_sweep (ds : List D) (d : D) : Prop := ∃ v : Cv, CvOk v ∧ ds = [cvD v] ∧ d = dR (sweepQ v)
abbrev C_sweep : Con := CP F_sweep
/-! sweep: slots 0 curve, 1 a, 2 c, 3 b -/
abbrev s_sweep : Stmt := topS 27
theorem sc_sweep : FnScope ["curve", "a", "c", "b"] ["curve"] (defScope s_sweep) := ⟨rfl, rfl, rfl, by decide +kernel, rfl, by decide +kernel, by decide +kernel⟩
def t_sweep (K : PySem.W.Frag) : TS :=
  (tSeq (tAsg (tVar 0) (gTup K 3 (gCons (gName 1) (gCons (gName 2) (gCons (gName 3) gNil)))))
    (tRet (tCall (spD K C_times) [] E0 (tCons (tCall (spD K C_cross) [] E0 (tCons (tCall (spD K C_gap) [] E0 (tCons (tVar 1) (tCons (tVar 2) tNil))) (tCons (tCall (spD K C_gap) [] E0 (tCons (tVar 1) (tCons (tVar 3) tNil))) tNil))) (tCons (tCall (spD K C_fraction) [] E0 (tCons (tC (.int 1)) (tCons (tC (.int 3)) tNil))) tNil)))))
theorem tm_sweep {P : Program} {w : World} {K : PySem.W.Frag} {mg : Str → Option Value} {base : Heap} (B : Blt mg) (c_times : C8.Cal P w K mg base 2 "times" (spD K C_times) []) (c_cross : C8.Cal P w K mg base 3 "cross" (spD K C_cross) []) (c_fraction : C8.Cal P w K mg base 1 "fraction" (spD K C_fraction) []) (c_gap : C8.Cal P w K mg base 3 "gap" (spD K C_gap) []) {f : Addr} {cdv : Value} {A : Around} {outer : List Env} {s : Shared} {H : Hp} {E : XK} (hr : Room 3 (A.deeper (envOfC "sweep" (defScope s_sweep) s.heap.objs.size f cdv))) :
    PSs (cxOf CX0 P w K mg base ["curve", "a", "c", "b"] "sweep" (defScope s_sweep) f cdv A outer s H E).nox (defBody s_sweep) (t_sweep K) := by
  have nd := sc_sweep.nd
  exact (pss_cons (ps_asg (pv 0) (pg_tup rfl (pgs_cons (pg_name (i := 1) nd rfl (Or.inl rfl)) (pgs_cons (pg_name (i := 2) nd rfl (Or.inl rfl)) (pgs_cons (pg_name (i := 3) nd rfl (Or.inl rfl)) pgs_nil)))))
    (pss_one (ps_ret (C8.pe_c c_times hr (by omega) (by rfl) (pa_cons (C8.pe_c c_cross hr (by omega) (by rfl) (pa_cons (C8.pe_c c_gap hr (by omega) (by rfl) (pa_cons (pv 1) (pa_cons (pv 2) pa_nil))) (pa_cons (C8.pe_c c_gap hr (by omega) (by rfl) (pa_cons (pv 1) (pa_cons (pv 3) pa_nil))) pa_nil))) (pa_cons (C8.pe_c c_fraction hr (by omega) (by rfl) (pa_cons pe_int (pa_cons pe_int pa_nil))) pa_nil))))))

theorem run_sweep {K : PySem.W.Frag} : BodyOk K (t_sweep K) 3 C_sweep := by
  refine body_pure ?_
  rintro ds d ⟨v, hv, rfl, rfl⟩
  have ga := hv.1.fit two_ok
  have gc := hv.2.1.fit two_ok
  have gb := hv.2.2.fit two_ok
  refine ⟨[.fr (cvD v), .fr (ptD v.a), .fr (ptD v.c), .fr (ptD v.b)], ?_, Nat.le_of_ble_eq_true rfl⟩
  show StJ K (t_sweep K) [.fr (cvD v), .no, .no, .no] _
  apply st_seq
  · apply st_unT (ds := [ptD v.a, ptD v.c, ptD v.b])
    · exact ev_var rfl
    · exact bsj_cons (bj_name (by intro o z; cases z)) (bsj_cons (bj_name (by intro o z; cases z)) (bsj_cons (bj_name (by intro o z; cases z)) bsj_nil))
  show StJ K _ [.fr (cvD v), .fr (ptD v.a), .fr (ptD v.c), .fr (ptD v.b)] _
  apply q_ret (r := .fr (dR (sweepQ v)))
  · unfold sweepQ
    walk_at "ev"
    · exact ⟨17, 17, ga, gc, by decide⟩
    · exact ⟨17, 17, ga, gb, by decide⟩
    · exact ⟨35, 35, ga.gap gc, ga.gap gb, by decide⟩
    · decide
    · exact ⟨141, 3, (ga.gap gc).cross (ga.gap gb), ⟨by decide, by decide⟩, by decide⟩
  · rfl
theorem len_sweep : ∀ args r args', C_sweep args r args' → args.length = 1 := lenP fun ds d ⟨_, _, h, _⟩ => by rw [h]; rfl
theorem ok_sweep {P : Program} {w : World} {K : PySem.W.Frag} {mg : Str → Option Value} {base : Heap} (B : Blt mg) (Df : DefAt K mg "sweep" s_sweep ["curve"]) (c_times : C8.Cal P w K mg base 2 "times" (spD K C_times) []) (c_cross : C8.Cal P w K mg base 3 "cross" (spD K C_cross) []) (c_fraction : C8.Cal P w K mg base 1 "fraction" (spD K C_fraction) []) (c_gap : C8.Cal P w K mg base 3 "gap" (spD K C_gap) []) : C8.Cal P w K mg base 4 "sweep" (spD K C_sweep) [] :=
  cal_of Df sc_sweep len_sweep rfl fun f cdv A outer s H E hr => ⟨t_sweep K, tm_sweep B c_times c_cross c_fraction c_gap hr, run_sweep⟩


end DL
namespace DL
open PySem PySem.Spec PyProof.Rows L2
local macro_rules | `(tactic| walk_at "len") => `(tactic| exact Nat.le_of_ble_eq_true rfl)
local macro_rules | `(tactic| walk_at "np") => `(tactic| (intro o z; cases z))
local macro_rules | `(tactic| walk_at "od") => `(tactic| first
  | exact od_addI | exact od_subI | exact od_subB | exact od_I0b | exact od_I0
  | exact od_ix rfl rfl | exact od_eq rfl rfl rfl rfl | exact od_ne rfl rfl rfl rfl | exact od_isN | exact od_notN
  | with_reducible apply od_mulI | with_reducible apply od_I | exact ud_I)
local macro_rules | `(tactic| walk_at "cd") => `(tactic| first
  | exact cd_len rfl | exact cd_abs | exact cd_int | exact cd_intB | exact cd_gcd | exact cd_tup rfl | exact cd_lst rfl)
local macro_rules | `(tactic| walk_at "ev1") => `(tactic| first
  | exact ev_int | exact ev_bl | exact ev_str | exact ev_non | exact ev_var rfl | exact ev_varO rfl
  | with_reducible apply ev_op | with_reducible apply ev_un
  | exact ea_nil | with_reducible apply ea_cons
  | with_reducible apply ev_isi | with_reducible apply ev_dget
  | with_reducible apply ev_cb
  | with_reducible apply ev_tup' | with_reducible apply ev_lstF
  | with_reducible apply tt_test | with_reducible apply tt_B | with_reducible apply tt_not
  | walk_at "od" | walk_at "cd" | walk_at "len" | rfl)
local macro_rules | `(tactic| walk_at "ev") => `(tactic| repeat' walk_at "ev1")
local macro_rules | `(tactic| walk_at "set") => `(tactic| (with_reducible apply q_set; rotate_left; walk_at "np"; rotate_left; walk_at "ev"))

local macro_rules | `(tactic| walk_at "ev1") => `(tactic| first
  | with_reducible apply ev_plus | with_reducible apply ev_minus | with_reducible apply ev_times | with_reducible apply ev_over | with_reducible apply ev_compare | with_reducible apply ev_fraction)

local macro_rules | `(tactic| walk_at "ev1") => `(tactic| first
  | with_reducible apply ev_gap | with_reducible apply ev_cross | with_reducible apply ev_dot | with_reducible apply ev_compare_points)

/-! ### the law's own greatest common divisor -/
def eucl : Nat → Nat → Nat → Nat
  | 0, a, _ => a
  | k + 1, a, b => if b = 0 then a else eucl k b (a % b)
/-- the bounds: pairs of neighbours -/
def gp : Nat → Nat × Nat
  | 0 => (1, 2)
  | k + 1 => ((gp k).2, (gp k).1 + (gp k).2)
theorem eucl_gcd : ∀ (k a b : Nat), (b < (gp k).1 → eucl k a b = Nat.gcd a b) ∧ (b < (gp k).2 → eucl (k + 1) a b = Nat.gcd a b)
  | 0, a, b => by
    refine ⟨fun h => ?_, fun h => ?_⟩
    · have h0 : b = 0 := by
        have : b < 1 := h
        omega
      subst h0
      show a = Nat.gcd a 0
      rw [Nat.gcd_zero_right]
    · have hb : b = 0 ∨ b = 1 := by
        have : b < 2 := h
        omega
      rcases hb with rfl | rfl
      · show (if (0 : Nat) = 0 then a else _) = _
        rw [if_pos rfl, Nat.gcd_zero_right]
      · show (if (1 : Nat) = 0 then a else 1) = _
        rw [if_neg (by decide), Nat.gcd_one_right]
  | k + 1, a, b => by
    have ih := eucl_gcd k
    refine ⟨fun h => (ih a b).2 h, fun h => ?_⟩
    have h' : b < (gp k).1 + (gp k).2 := h
    show (if b = 0 then a else eucl (k + 1) b (a % b)) = _
    by_cases hb : b = 0
    · subst hb
      rw [if_pos rfl, Nat.gcd_zero_right]
    · rw [if_neg hb]
      have hr : a % b < b := Nat.mod_lt _ (by omega)
      have e : Nat.gcd a b = Nat.gcd b (a % b) := by
        rw [Nat.gcd_comm a b, Nat.gcd_rec b a, Nat.gcd_comm]
      rw [e]
      by_cases hs : a % b < (gp k).2
      · exact (ih b (a % b)).2 hs
      · -- the rest is great: the next rest is small
        show (if a % b = 0 then b else eucl k (a % b) (b % (a % b))) = _
        by_cases h0 : a % b = 0
        · rw [if_pos h0, h0, Nat.gcd_zero_right]
        · rw [if_neg h0]
          have hlt : b % (a % b) < (gp k).1 := by
            have h1 : b % (a % b) = (b - a % b) % (a % b) := Nat.mod_eq_sub_mod (Nat.le_of_lt hr)
            rw [h1]
            exact Nat.lt_of_le_of_lt (Nat.mod_le _ _) (by omega)
          rw [(ih (a % b) (b % (a % b))).1 hlt, Nat.gcd_comm b (a % b), Nat.gcd_rec (a % b) b, Nat.gcd_comm]
theorem eucl_300 {a b : Nat} (h : b < 2 ^ 200) : eucl 300 a b = Nat.gcd a b := (eucl_gcd 300 a b).1 (Nat.lt_of_lt_of_le h (by decide +kernel))

/-! ### the law's own reckoning -/
theorem eucl_900 {a b : Nat} (h : b < 2 ^ 600) : eucl 900 a b = Nat.gcd a b := (eucl_gcd 900 a b).1 (Nat.lt_of_lt_of_le h (by decide +kernel))
def F__law_cut (ds : List D) (d : D) : Prop := ∃ n m : Int, 0 < m ∧ m.natAbs < 2 ^ 600 ∧ ds = [.tuple [.int n, .int m]] ∧ d = dR (Rat.divInt n m)
abbrev C__law_cut : Con := CP F__law_cut
/-! _law_cut: slots 0 _law_f, 1 _law_a, 2 _law_b, 3 _law_k, 4 _law_rest -/
abbrev s__law_cut : Stmt := topS 36
theorem sc__law_cut : FnScope ["_law_f", "_law_a", "_law_b", "_law_k", "_law_rest"] ["_law_f"] (defScope s__law_cut) := ⟨rfl, rfl, rfl, by decide +kernel, rfl, by decide +kernel, by decide +kernel⟩
def t__law_cut (K : PySem.W.Frag) : TS :=
  (tSeq (tAsg (tCB rAbs (tCons (tOp (rIx K) (tVar 0) (tC (.int 0))) tNil)) (gName 1))
    (tSeq (tAsg (tOp (rIx K) (tVar 0) (tC (.int 1))) (gName 2))
    (tSeq (tFor (iRng1 (tCons (tC (.int 900)) tNil)) (gName 3) (tSeq (tIfS (tTest (tOp (rEqD K) (tVar 2) (tC (.int 0)))) tBreak tNext)
    (tSeq (tAsg (tOp (rI (fun _ j => 0 < j) fun i j => .int (i % j)) (tCB rInt1 (tCons (tVar 1) tNil)) (tVar 2)) (gName 4))
    (tSeq (tAsg (tVar 2) (gName 1))
    (tAsg (tVar 4) (gName 2))))))
    (tRet (tTup (tCons (tOp (rI CDivR fun i j => .int (i.fdiv j)) (tOp (rIx K) (tVar 0) (tC (.int 0))) (tVar 1)) (tCons (tOp (rI CDivR fun i j => .int (i.fdiv j)) (tOp (rIx K) (tVar 0) (tC (.int 1))) (tVar 1)) tNil)))))))
theorem tm__law_cut {P : Program} {w : World} {K : PySem.W.Frag} {mg : Str → Option Value} {base : Heap} (B : Blt mg) {f : Addr} {cdv : Value} {A : Around} {outer : List Env} {s : Shared} {H : Hp} {E : XK} (hr : Room 0 (A.deeper (envOfC "_law_cut" (defScope s__law_cut) s.heap.objs.size f cdv))) :
    PSs (cxOf CX0 P w K mg base ["_law_f", "_law_a", "_law_b", "_law_k", "_law_rest"] "_law_cut" (defScope s__law_cut) f cdv A outer s H E).nox (defBody s__law_cut) (t__law_cut K) := by
  have nd := sc__law_cut.nd
  exact (pss_cons (ps_set (i := 1) nd rfl (Or.inl rfl) (pe_callB call_absU (by rfl) B.abs_ boot_abs (pa_cons (pe_ix ix_seq (pv 0) pe_int (fun _ _ => rfl)) pa_nil)))
    (pss_cons (ps_set (i := 2) nd rfl (Or.inl rfl) (pe_ix ix_seq (pv 0) pe_int (fun _ _ => rfl)))
    (pss_cons (ps_for PassesOwn.never rfl (pi_range1 (by rfl) B.range_ (pa_cons pe_int pa_nil)) (pg_name (i := 3) nd rfl (Or.inl rfl)) (pss_cons (ps_if (pt_cmpR (op_eqD hr.units) (pv 2) pe_int (nomark _)) (pss_one ps_break) pss_nil)
    (pss_cons (ps_set (i := 4) nd rfl (Or.inl rfl) (pe_op op_mod (pe_callTy call_int1U (by rfl) B.int_ boot_int (pa_cons (pv 1) pa_nil)) (pv 2)))
    (pss_cons (ps_set (i := 1) nd rfl (Or.inl rfl) (pv 2))
    (pss_one (ps_set (i := 2) nd rfl (Or.inl rfl) (pv 4)))))))
    (pss_one (ps_ret (pe_tup (pa_cons (pe_op op_fdivR (pe_ix ix_seq (pv 0) pe_int (fun _ _ => rfl)) (pv 1)) (pa_cons (pe_op op_fdivR (pe_ix ix_seq (pv 0) pe_int (fun _ _ => rfl)) (pv 1)) pa_nil))))))))

theorem loop_cut {K : PySem.W.Frag} {x0 : Sl} : ∀ (ds : List D) (a b : Nat) (x y : Sl), Dat x → Dat y → ∃ z x' y', ForRel K (gName 3) (tSeq (tIfS (tTest (tOp (rEqD K) (tVar 2) (tC (.int 0)))) tBreak tNext)
    (tSeq (tAsg (tOp (rI (fun _ j => 0 < j) fun i j => .int (i % j)) (tCB rInt1 (tCons (tVar 1) tNil)) (tVar 2)) (gName 4))
    (tSeq (tAsg (tVar 2) (gName 1))
    (tAsg (tVar 4) (gName 2))))) ds [x0, .fr (.int (a : Int)), .fr (.int (b : Int)), x, y] (.nx [x0, .fr (.int (eucl ds.length a b : Nat)), z, x', y'])
  | [], a, b, x, y, _, _ => ⟨_, x, y, .nil⟩
  | d :: ds, a, b, x, y, hx, hy => by
    have hb : BindJ K (gName 3) d [x0, .fr (.int (a : Int)), .fr (.int (b : Int)), x, y] [x0, .fr (.int (a : Int)), .fr (.int (b : Int)), .fr d, y] := bj_name (np_at rfl hx)
    by_cases h0 : b = 0
    · subst h0
      refine ⟨.fr (.int 0), .fr d, y, ?_⟩
      have e : eucl (d :: ds).length a 0 = a := by
        show (if (0 : Nat) = 0 then a else _) = a
        rw [if_pos rfl]
      rw [e]
      refine .brk hb ?_
      apply st_ifq
      · exact tt_test (ev_op (ev_var rfl) ev_int (od_eq rfl rfl rfl rfl))
      · intro _
        exact st_stop_bk st_break
      · intro h
        exact absurd h (fun z : true = false => nomatch z)
    · obtain ⟨z, x', y', ih⟩ := loop_cut (K := K) (x0 := x0) ds b (a % b) (.fr d) (.fr (.int ((a % b : Nat) : Int))) trivial trivial
      refine ⟨z, x', y', ?_⟩
      have e : eucl (d :: ds).length a b = eucl ds.length b (a % b) := by
        show (if b = 0 then a else _) = _
        rw [if_neg h0]
      rw [e]
      refine .go hb ?_ ih
      apply st_ifq (b := false)
      · have e2 : PyData.eqv (.int (b : Int)) (.int 0) = false := by
          show ((b : Int) == 0) = false
          rw [beq_eq_false_iff_ne]
          omega
        rw [← e2]
        walk_at "ev"
      · intro h
        cases h
      · intro _
        apply st_nextq
        apply q_set
        · walk_at "ev"
          show (0 : Int) < (b : Int)
          omega
        · exact np_at rfl hy
        apply q_set
        · walk_at "ev"
        · walk_at "np"
        have e3 : ((a : Int) % (b : Int)) = ((a % b : Nat) : Int) := rfl
        rw [e3]
        exact q_set1 (ev_var rfl) (by intro o z; cases z)
theorem run__law_cut {K : PySem.W.Frag} : BodyOk K (t__law_cut K) 4 C__law_cut := by
  refine body_pure ?_
  rintro ds d ⟨n, m, h0, hm, rfl, rfl⟩
  obtain ⟨z, x', y', hl⟩ := loop_cut (K := K) (x0 := .fr (.tuple [.int n, .int m])) (rngD 0 (900 : Int).toNat) n.natAbs m.natAbs .no .no trivial trivial
  rw [rngD_len, show (900 : Int).toNat = 900 from rfl, eucl_900 hm] at hl
  obtain ⟨g1, g2⟩ := gcd_log (n := n) (m := m) (by omega) (lt_log (by omega) hm (by decide))
  obtain ⟨f1, f2⟩ := frac_pos (n := n) h0
  have e : dR (Rat.divInt n m) = .tuple [.int (n.fdiv (((Nat.gcd n.natAbs m.natAbs : Nat) : Int))), .int (m.fdiv (((Nat.gcd n.natAbs m.natAbs : Nat) : Int)))] := by
    unfold dR
    rw [f1, f2]
  refine ⟨[.fr (.tuple [.int n, .int m]), .fr (.int ((Nat.gcd n.natAbs m.natAbs : Nat) : Int)), z, x', y'], ?_, Nat.le_of_ble_eq_true rfl⟩
  show StJ K (t__law_cut K) [.fr (.tuple [.int n, .int m]), .no, .no, .no, .no] _
  apply q_set
  · walk_at "ev"
  · walk_at "np"
  apply q_set (d := .int (m.natAbs : Int))
  · apply EvJ.conv (d := .int m)
    · walk_at "ev"
    · congr 1
      omega
  · walk_at "np"
  apply q_for
  · apply src_rng1
    · walk_at "ev"
    · decide
    · decide
  · exact hl
  rw [e]
  apply q_ret
  · walk_at "ev"
    all_goals exact ⟨by omega, g2⟩
  · rfl
theorem len__law_cut : ∀ args r args', C__law_cut args r args' → args.length = 1 := lenP fun ds d ⟨_, _, _, _, h, _⟩ => by rw [h]; rfl
theorem ok__law_cut {P : Program} {w : World} {K : PySem.W.Frag} {mg : Str → Option Value} {base : Heap} (B : Blt mg) (Df : DefAt K mg "_law_cut" s__law_cut ["_law_f"]) : C8.Cal P w K mg base 1 "_law_cut" (spD K C__law_cut) [] :=
  cal_of Df sc__law_cut len__law_cut rfl fun f cdv A outer s H E hr => ⟨t__law_cut K, tm__law_cut B hr, run__law_cut⟩

/-- two fractions whose denominators' product is not too large -/
def TwoL (a b : Rat) : Prop := ∃ n m, Fit n a ∧ Fit m b ∧ n + m ≤ 600
theorem TwoL.two {a b : Rat} : TwoL a b → Two a b := fun ⟨n, m, h1, h2, h3⟩ => ⟨n, m, h1, h2, by omega⟩
theorem den_pos2 (a b : Rat) : 0 < (a.den : Int) * (b.den : Int) := Int.mul_pos (by have := a.den_pos; omega) (by have := b.den_pos; omega)
theorem TwoL.den {a b : Rat} : TwoL a b → ((a.den : Int) * (b.den : Int)).natAbs < 2 ^ 600 := fun ⟨n, m, h1, h2, h3⟩ => Nat.lt_of_lt_of_le (den_lt h1 h2) (Nat.pow_le_pow_right (by decide) h3)
def F__law_sum (ds : List D) (d : D) : Prop := ∃ a b, TwoL a b ∧ ds = [dR a, dR b] ∧ d = dR (a + b)
def F__law_gap (ds : List D) (d : D) : Prop := ∃ a b, TwoL a b ∧ ds = [dR a, dR b] ∧ d = dR (a - b)
def F__law_product (ds : List D) (d : D) : Prop := ∃ a b, TwoL a b ∧ ds = [dR a, dR b] ∧ d = dR (a * b)
def F__law_part (ds : List D) (d : D) : Prop := ∃ a b, TwoL a b ∧ b ≠ 0 ∧ ds = [dR a, dR b] ∧ d = dR (a / b)
def F__law_less (ds : List D) (d : D) : Prop := ∃ a b, Two a b ∧ ds = [dR a, dR b] ∧ d = .bool (decide (a < b))
abbrev C__law_sum : Con := CP F__law_sum
abbrev C__law_gap : Con := CP F__law_gap
abbrev C__law_product : Con := CP F__law_product
abbrev C__law_part : Con := CP F__law_part
abbrev C__law_less : Con := CP F__law_less
/-! _law_sum: slots 0 _law_a, 1 _law_b -/
abbrev s__law_sum : Stmt := topS 32
theorem sc__law_sum : FnScope ["_law_a", "_law_b"] ["_law_a", "_law_b"] (defScope s__law_sum) := ⟨rfl, rfl, rfl, by decide +kernel, rfl, by decide +kernel, by decide +kernel⟩
def t__law_sum (K : PySem.W.Frag) : TS :=
  (tRet (tCall (spD K C__law_cut) [] E0 (tCons (tTup (tCons (tOp (rAddU K) (tOp (rMulU K) (tOp (rIx K) (tVar 0) (tC (.int 0))) (tOp (rIx K) (tVar 1) (tC (.int 1)))) (tOp (rMulU K) (tOp (rIx K) (tVar 1) (tC (.int 0))) (tOp (rIx K) (tVar 0) (tC (.int 1))))) (tCons (tOp (rMulU K) (tOp (rIx K) (tVar 0) (tC (.int 1))) (tOp (rIx K) (tVar 1) (tC (.int 1)))) tNil))) tNil)))
theorem tm__law_sum {P : Program} {w : World} {K : PySem.W.Frag} {mg : Str → Option Value} {base : Heap} (B : Blt mg) (c__law_cut : C8.Cal P w K mg base 1 "_law_cut" (spD K C__law_cut) []) {f : Addr} {cdv : Value} {A : Around} {outer : List Env} {s : Shared} {H : Hp} {E : XK} (hr : Room 1 (A.deeper (envOfC "_law_sum" (defScope s__law_sum) s.heap.objs.size f cdv))) :
    PSs (cxOf CX0 P w K mg base ["_law_a", "_law_b"] "_law_sum" (defScope s__law_sum) f cdv A outer s H E).nox (defBody s__law_sum) (t__law_sum K) := by
  have nd := sc__law_sum.nd
  exact (pss_one (ps_ret (C8.pe_c c__law_cut hr (by omega) (by rfl) (pa_cons (pe_tup (pa_cons (pe_op op_addU (pe_op op_mulU (pe_ix ix_seq (pv 0) pe_int (fun _ _ => rfl)) (pe_ix ix_seq (pv 1) pe_int (fun _ _ => rfl))) (pe_op op_mulU (pe_ix ix_seq (pv 1) pe_int (fun _ _ => rfl)) (pe_ix ix_seq (pv 0) pe_int (fun _ _ => rfl)))) (pa_cons (pe_op op_mulU (pe_ix ix_seq (pv 0) pe_int (fun _ _ => rfl)) (pe_ix ix_seq (pv 1) pe_int (fun _ _ => rfl))) pa_nil))) pa_nil))))

theorem run__law_sum {K : PySem.W.Frag} : BodyOk K (t__law_sum K) 0 C__law_sum := by
  refine body_pure ?_
  rintro ds d ⟨a, b, h, rfl, rfl⟩
  refine ⟨[.fr (dR a), .fr (dR b)], ?_, Nat.le_of_ble_eq_true rfl⟩
  show StJ K (t__law_sum K) [.fr (dR a), .fr (dR b)] _
  rw [add_divInt]
  apply q_ret
  · apply ev_callP
    · walk_at "ev"
      · exact h.two.mul1
      · exact h.two.symm.mul1
      · exact h.two.mulD
    · rfl
    · exact ⟨_, _, den_pos2 a b, h.den, rfl, rfl⟩
  · rfl
theorem len__law_sum : ∀ args r args', C__law_sum args r args' → args.length = 2 := lenP fun ds d ⟨_, _, _, h, _⟩ => by rw [h]; rfl
theorem ok__law_sum {P : Program} {w : World} {K : PySem.W.Frag} {mg : Str → Option Value} {base : Heap} (B : Blt mg) (Df : DefAt K mg "_law_sum" s__law_sum ["_law_a", "_law_b"]) (c__law_cut : C8.Cal P w K mg base 1 "_law_cut" (spD K C__law_cut) []) : C8.Cal P w K mg base 2 "_law_sum" (spD K C__law_sum) [] :=
  cal_of Df sc__law_sum len__law_sum rfl fun f cdv A outer s H E hr => ⟨t__law_sum K, tm__law_sum B c__law_cut hr, run__law_sum⟩

/-! _law_gap: slots 0 _law_a, 1 _law_b -/
abbrev s__law_gap : Stmt := topS 33
theorem sc__law_gap : FnScope ["_law_a", "_law_b"] ["_law_a", "_law_b"] (defScope s__law_gap) := ⟨rfl, rfl, rfl, by decide +kernel, rfl, by decide +kernel, by decide +kernel⟩
def t__law_gap (K : PySem.W.Frag) : TS :=
  (tRet (tCall (spD K C__law_cut) [] E0 (tCons (tTup (tCons (tOp rSubU (tOp (rMulU K) (tOp (rIx K) (tVar 0) (tC (.int 0))) (tOp (rIx K) (tVar 1) (tC (.int 1)))) (tOp (rMulU K) (tOp (rIx K) (tVar 1) (tC (.int 0))) (tOp (rIx K) (tVar 0) (tC (.int 1))))) (tCons (tOp (rMulU K) (tOp (rIx K) (tVar 0) (tC (.int 1))) (tOp (rIx K) (tVar 1) (tC (.int 1)))) tNil))) tNil)))
theorem tm__law_gap {P : Program} {w : World} {K : PySem.W.Frag} {mg : Str → Option Value} {base : Heap} (B : Blt mg) (c__law_cut : C8.Cal P w K mg base 1 "_law_cut" (spD K C__law_cut) []) {f : Addr} {cdv : Value} {A : Around} {outer : List Env} {s : Shared} {H : Hp} {E : XK} (hr : Room 1 (A.deeper (envOfC "_law_gap" (defScope s__law_gap) s.heap.objs.size f cdv))) :
    PSs (cxOf CX0 P w K mg base ["_law_a", "_law_b"] "_law_gap" (defScope s__law_gap) f cdv A outer s H E).nox (defBody s__law_gap) (t__law_gap K) := by
  have nd := sc__law_gap.nd
  exact (pss_one (ps_ret (C8.pe_c c__law_cut hr (by omega) (by rfl) (pa_cons (pe_tup (pa_cons (pe_op op_subU (pe_op op_mulU (pe_ix ix_seq (pv 0) pe_int (fun _ _ => rfl)) (pe_ix ix_seq (pv 1) pe_int (fun _ _ => rfl))) (pe_op op_mulU (pe_ix ix_seq (pv 1) pe_int (fun _ _ => rfl)) (pe_ix ix_seq (pv 0) pe_int (fun _ _ => rfl)))) (pa_cons (pe_op op_mulU (pe_ix ix_seq (pv 0) pe_int (fun _ _ => rfl)) (pe_ix ix_seq (pv 1) pe_int (fun _ _ => rfl))) pa_nil))) pa_nil))))

theorem run__law_gap {K : PySem.W.Frag} : BodyOk K (t__law_gap K) 0 C__law_gap := by
  refine body_pure ?_
  rintro ds d ⟨a, b, h, rfl, rfl⟩
  refine ⟨[.fr (dR a), .fr (dR b)], ?_, Nat.le_of_ble_eq_true rfl⟩
  show StJ K (t__law_gap K) [.fr (dR a), .fr (dR b)] _
  rw [sub_divInt]
  apply q_ret
  · apply ev_callP
    · walk_at "ev"
      · exact h.two.mul1
      · exact h.two.symm.mul1
      · exact h.two.mulD
    · rfl
    · exact ⟨_, _, den_pos2 a b, h.den, rfl, rfl⟩
  · rfl
theorem len__law_gap : ∀ args r args', C__law_gap args r args' → args.length = 2 := lenP fun ds d ⟨_, _, _, h, _⟩ => by rw [h]; rfl
theorem ok__law_gap {P : Program} {w : World} {K : PySem.W.Frag} {mg : Str → Option Value} {base : Heap} (B : Blt mg) (Df : DefAt K mg "_law_gap" s__law_gap ["_law_a", "_law_b"]) (c__law_cut : C8.Cal P w K mg base 1 "_law_cut" (spD K C__law_cut) []) : C8.Cal P w K mg base 2 "_law_gap" (spD K C__law_gap) [] :=
  cal_of Df sc__law_gap len__law_gap rfl fun f cdv A outer s H E hr => ⟨t__law_gap K, tm__law_gap B c__law_cut hr, run__law_gap⟩

/-! _law_product: slots 0 _law_a, 1 _law_b -/
abbrev s__law_product : Stmt := topS 34
theorem sc__law_product : FnScope ["_law_a", "_law_b"] ["_law_a", "_law_b"] (defScope s__law_product) := ⟨rfl, rfl, rfl, by decide +kernel, rfl, by decide +kernel, by decide +kernel⟩
def t__law_product (K : PySem.W.Frag) : TS :=
  (tRet (tCall (spD K C__law_cut) [] E0 (tCons (tTup (tCons (tOp (rMulU K) (tOp (rIx K) (tVar 0) (tC (.int 0))) (tOp (rIx K) (tVar 1) (tC (.int 0)))) (tCons (tOp (rMulU K) (tOp (rIx K) (tVar 0) (tC (.int 1))) (tOp (rIx K) (tVar 1) (tC (.int 1)))) tNil))) tNil)))
theorem tm__law_product {P : Program} {w : World} {K : PySem.W.Frag} {mg : Str → Option Value} {base : Heap} (B : Blt mg) (c__law_cut : C8.Cal P w K mg base 1 "_law_cut" (spD K C__law_cut) []) {f : Addr} {cdv : Value} {A : Around} {outer : List Env} {s : Shared} {H : Hp} {E : XK} (hr : Room 1 (A.deeper (envOfC "_law_product" (defScope s__law_product) s.heap.objs.size f cdv))) :
    PSs (cxOf CX0 P w K mg base ["_law_a", "_law_b"] "_law_product" (defScope s__law_product) f cdv A outer s H E).nox (defBody s__law_product) (t__law_product K) := by
  have nd := sc__law_product.nd
  exact (pss_one (ps_ret (C8.pe_c c__law_cut hr (by omega) (by rfl) (pa_cons (pe_tup (pa_cons (pe_op op_mulU (pe_ix ix_seq (pv 0) pe_int (fun _ _ => rfl)) (pe_ix ix_seq (pv 1) pe_int (fun _ _ => rfl))) (pa_cons (pe_op op_mulU (pe_ix ix_seq (pv 0) pe_int (fun _ _ => rfl)) (pe_ix ix_seq (pv 1) pe_int (fun _ _ => rfl))) pa_nil))) pa_nil))))

theorem run__law_product {K : PySem.W.Frag} : BodyOk K (t__law_product K) 0 C__law_product := by
  refine body_pure ?_
  rintro ds d ⟨a, b, h, rfl, rfl⟩
  refine ⟨[.fr (dR a), .fr (dR b)], ?_, Nat.le_of_ble_eq_true rfl⟩
  show StJ K (t__law_product K) [.fr (dR a), .fr (dR b)] _
  rw [mul_divInt]
  apply q_ret
  · apply ev_callP
    · walk_at "ev"
      · exact h.two.mulN
      · exact h.two.mulD
    · rfl
    · exact ⟨_, _, den_pos2 a b, h.den, rfl, rfl⟩
  · rfl
theorem len__law_product : ∀ args r args', C__law_product args r args' → args.length = 2 := lenP fun ds d ⟨_, _, _, h, _⟩ => by rw [h]; rfl
theorem ok__law_product {P : Program} {w : World} {K : PySem.W.Frag} {mg : Str → Option Value} {base : Heap} (B : Blt mg) (Df : DefAt K mg "_law_product" s__law_product ["_law_a", "_law_b"]) (c__law_cut : C8.Cal P w K mg base 1 "_law_cut" (spD K C__law_cut) []) : C8.Cal P w K mg base 2 "_law_product" (spD K C__law_product) [] :=
  cal_of Df sc__law_product len__law_product rfl fun f cdv A outer s H E hr => ⟨t__law_product K, tm__law_product B c__law_cut hr, run__law_product⟩

/-! _law_part: slots 0 _law_a, 1 _law_b, 2 _law_n, 3 _law_d -/
abbrev s__law_part : Stmt := topS 35
theorem sc__law_part : FnScope ["_law_a", "_law_b", "_law_n", "_law_d"] ["_law_a", "_law_b"] (defScope s__law_part) := ⟨rfl, rfl, rfl, by decide +kernel, rfl, by decide +kernel, by decide +kernel⟩
def t__law_part (K : PySem.W.Frag) : TS :=
  (tSeq (tAsg (tOp (rMulU K) (tOp (rIx K) (tVar 0) (tC (.int 0))) (tOp (rIx K) (tVar 1) (tC (.int 1)))) (gName 2))
    (tSeq (tAsg (tOp (rMulU K) (tOp (rIx K) (tVar 0) (tC (.int 1))) (tOp (rIx K) (tVar 1) (tC (.int 0)))) (gName 3))
    (tRet (tCall (spD K C__law_cut) [] E0 (tCons (tIf (tTest (tOp (rI0 fun i j => .bl (decide (j < i))) (tVar 3) (tC (.int 0)))) (tTup (tCons (tVar 2) (tCons (tVar 3) tNil))) (tTup (tCons (tUn (rU fun i => .int (-i)) (tVar 2)) (tCons (tUn (rU fun i => .int (-i)) (tVar 3)) tNil)))) tNil)))))
theorem tm__law_part {P : Program} {w : World} {K : PySem.W.Frag} {mg : Str → Option Value} {base : Heap} (B : Blt mg) (c__law_cut : C8.Cal P w K mg base 1 "_law_cut" (spD K C__law_cut) []) {f : Addr} {cdv : Value} {A : Around} {outer : List Env} {s : Shared} {H : Hp} {E : XK} (hr : Room 1 (A.deeper (envOfC "_law_part" (defScope s__law_part) s.heap.objs.size f cdv))) :
    PSs (cxOf CX0 P w K mg base ["_law_a", "_law_b", "_law_n", "_law_d"] "_law_part" (defScope s__law_part) f cdv A outer s H E).nox (defBody s__law_part) (t__law_part K) := by
  have nd := sc__law_part.nd
  exact (pss_cons (ps_set (i := 2) nd rfl (Or.inl rfl) (pe_op op_mulU (pe_ix ix_seq (pv 0) pe_int (fun _ _ => rfl)) (pe_ix ix_seq (pv 1) pe_int (fun _ _ => rfl))))
    (pss_cons (ps_set (i := 3) nd rfl (Or.inl rfl) (pe_op op_mulU (pe_ix ix_seq (pv 0) pe_int (fun _ _ => rfl)) (pe_ix ix_seq (pv 1) pe_int (fun _ _ => rfl))))
    (pss_one (ps_ret (C8.pe_c c__law_cut hr (by omega) (by rfl) (pa_cons (pe_ifExp (pt_cmpR op_gt (pv 3) pe_int (nomark _)) (pe_tup (pa_cons (pv 2) (pa_cons (pv 3) pa_nil))) (pe_tup (pa_cons (pe_un un_neg (pv 2)) (pa_cons (pe_un un_neg (pv 3)) pa_nil)))) pa_nil))))))

theorem run__law_part {K : PySem.W.Frag} : BodyOk K (t__law_part K) 2 C__law_part := by
  refine body_pure ?_
  rintro ds d ⟨a, b, h, h0, rfl, rfl⟩
  refine ⟨[.fr (dR a), .fr (dR b), .fr (.int (a.num * b.den)), .fr (.int (a.den * b.num))], ?_, Nat.le_of_ble_eq_true rfl⟩
  show StJ K (t__law_part K) [.fr (dR a), .fr (dR b), .no, .no] _
  obtain ⟨d1, d2⟩ := h.two.den2 h0
  have hs : ((a.den : Int) * b.num).natAbs < 2 ^ 600 := by
    obtain ⟨n, m, ha, hb, hs⟩ := h
    rw [Int.natAbs_mul]
    exact Nat.lt_of_lt_of_le (pow_split ha.2 hb.1) (Nat.pow_le_pow_right (by decide) hs)
  apply q_set
  · walk_at "ev"
    exact h.two.mul1
  · walk_at "np"
  apply q_set
  · walk_at "ev"
    obtain ⟨n, m, ha, hb, hs⟩ := h
    exact mulB_of ha.2 hb.1 (by omega)
  · walk_at "np"
  apply q_ret (r := .fr (dR (a / b)))
  · by_cases hp : 0 < (a.den : Int) * b.num
    · rw [div_divInt]
      apply ev_callP
      · apply ea_cons
        · apply ev_if (b := true) (r := .fr (.tuple [.int (a.num * b.den), .int (a.den * b.num)]))
          · rw [← decide_eq_true hp]
            walk_at "ev"
          · intro _
            walk_at "ev"
          · intro z
            cases z
        · exact ea_nil
      · rfl
      · exact ⟨_, _, hp, hs, rfl, rfl⟩
    · have e : a / b = Rat.divInt (-(a.num * b.den)) (-(a.den * b.num)) := by
        rw [div_divInt, Rat.divInt_eq_div, Rat.divInt_eq_div, Rat.intCast_neg, Rat.intCast_neg]
        have hne : ((a.den * b.num : Int) : Rat) ≠ 0 := fun z => d1 (by exact_mod_cast z)
        generalize ((a.den * b.num : Int) : Rat) = y at *
        generalize ((a.num * b.den : Int) : Rat) = x at *
        grind
      rw [e]
      apply ev_callP
      · apply ea_cons
        · apply ev_if (b := false) (r := .fr (.tuple [.int (-(a.num * b.den)), .int (-(a.den * b.num))]))
          · rw [← decide_eq_false hp]
            walk_at "ev"
          · intro z
            cases z
          · intro _
            walk_at "ev"
        · exact ea_nil
      · rfl
      · exact ⟨_, _, by omega, by rw [Int.natAbs_neg]; exact hs, rfl, rfl⟩
  · rfl
theorem len__law_part : ∀ args r args', C__law_part args r args' → args.length = 2 := lenP fun ds d ⟨_, _, _, _, h, _⟩ => by rw [h]; rfl
theorem ok__law_part {P : Program} {w : World} {K : PySem.W.Frag} {mg : Str → Option Value} {base : Heap} (B : Blt mg) (Df : DefAt K mg "_law_part" s__law_part ["_law_a", "_law_b"]) (c__law_cut : C8.Cal P w K mg base 1 "_law_cut" (spD K C__law_cut) []) : C8.Cal P w K mg base 2 "_law_part" (spD K C__law_part) [] :=
  cal_of Df sc__law_part len__law_part rfl fun f cdv A outer s H E hr => ⟨t__law_part K, tm__law_part B c__law_cut hr, run__law_part⟩

/-! _law_less: slots 0 _law_a, 1 _law_b -/
abbrev s__law_less : Stmt := topS 37
theorem sc__law_less : FnScope ["_law_a", "_law_b"] ["_law_a", "_law_b"] (defScope s__law_less) := ⟨rfl, rfl, rfl, by decide +kernel, rfl, by decide +kernel, by decide +kernel⟩
def t__law_less (K : PySem.W.Frag) : TS :=
  (tRet (tOp (rI0 fun i j => .bl (decide (i < j))) (tOp (rMulU K) (tOp (rIx K) (tVar 0) (tC (.int 0))) (tOp (rIx K) (tVar 1) (tC (.int 1)))) (tOp (rMulU K) (tOp (rIx K) (tVar 1) (tC (.int 0))) (tOp (rIx K) (tVar 0) (tC (.int 1))))))
theorem tm__law_less {P : Program} {w : World} {K : PySem.W.Frag} {mg : Str → Option Value} {base : Heap} (B : Blt mg) {f : Addr} {cdv : Value} {A : Around} {outer : List Env} {s : Shared} {H : Hp} {E : XK} (hr : Room 0 (A.deeper (envOfC "_law_less" (defScope s__law_less) s.heap.objs.size f cdv))) :
    PSs (cxOf CX0 P w K mg base ["_law_a", "_law_b"] "_law_less" (defScope s__law_less) f cdv A outer s H E).nox (defBody s__law_less) (t__law_less K) := by
  have nd := sc__law_less.nd
  exact (pss_one (ps_ret (pe_cmpR op_lt (pe_op op_mulU (pe_ix ix_seq (pv 0) pe_int (fun _ _ => rfl)) (pe_ix ix_seq (pv 1) pe_int (fun _ _ => rfl))) (pe_op op_mulU (pe_ix ix_seq (pv 1) pe_int (fun _ _ => rfl)) (pe_ix ix_seq (pv 0) pe_int (fun _ _ => rfl))) (nomark _))))

theorem run__law_less {K : PySem.W.Frag} : BodyOk K (t__law_less K) 0 C__law_less := by
  refine body_pure ?_
  rintro ds d ⟨a, b, h, rfl, rfl⟩
  refine ⟨[.fr (dR a), .fr (dR b)], ?_, Nat.le_of_ble_eq_true rfl⟩
  show StJ K (t__law_less K) [.fr (dR a), .fr (dR b)] _
  have e : decide (a < b) = decide (a.num * (b.den : Int) < b.num * (a.den : Int)) := by simp only [Rat.lt_iff]
  rw [e]
  apply q_ret
  · walk_at "ev"
    · exact h.mul1
    · exact h.symm.mul1
  · rfl
theorem len__law_less : ∀ args r args', C__law_less args r args' → args.length = 2 := lenP fun ds d ⟨_, _, _, h, _⟩ => by rw [h]; rfl
theorem ok__law_less {P : Program} {w : World} {K : PySem.W.Frag} {mg : Str → Option Value} {base : Heap} (B : Blt mg) (Df : DefAt K mg "_law_less" s__law_less ["_law_a", "_law_b"]) : C8.Cal P w K mg base 1 "_law_less" (spD K C__law_less) [] :=
  cal_of Df sc__law_less len__law_less rfl fun f cdv A outer s H E hr => ⟨t__law_less K, tm__law_less B hr, run__law_less⟩

section
variable {K : PySem.W.Frag} {δ δ1 : List Sl} {ta : TA} {a b : Rat} {n m : Int} {E0' : XK}
theorem ev__law_sum (ha : EvA K ta δ [.fr (dR a), .fr (dR b)] δ1) (h : TwoL a b) : EvJ K (tCall (spD K C__law_sum) [] E0' ta) δ (.fr (dR (a + b))) δ1 := ev_callP ha rfl ⟨a, b, h, rfl, rfl⟩
theorem ev__law_gap (ha : EvA K ta δ [.fr (dR a), .fr (dR b)] δ1) (h : TwoL a b) : EvJ K (tCall (spD K C__law_gap) [] E0' ta) δ (.fr (dR (a - b))) δ1 := ev_callP ha rfl ⟨a, b, h, rfl, rfl⟩
theorem ev__law_product (ha : EvA K ta δ [.fr (dR a), .fr (dR b)] δ1) (h : TwoL a b) : EvJ K (tCall (spD K C__law_product) [] E0' ta) δ (.fr (dR (a * b))) δ1 := ev_callP ha rfl ⟨a, b, h, rfl, rfl⟩
theorem ev__law_part (ha : EvA K ta δ [.fr (dR a), .fr (dR b)] δ1) (h : TwoL a b) (h0 : b ≠ 0) : EvJ K (tCall (spD K C__law_part) [] E0' ta) δ (.fr (dR (a / b))) δ1 := ev_callP ha rfl ⟨a, b, h, h0, rfl, rfl⟩
theorem ev__law_less (ha : EvA K ta δ [.fr (dR a), .fr (dR b)] δ1) (h : Two a b) : EvJ K (tCall (spD K C__law_less) [] E0' ta) δ (.fr (.bool (decide (a < b)))) δ1 := ev_callP ha rfl ⟨a, b, h, rfl, rfl⟩
theorem ev__law_cut (ha : EvA K ta δ [.fr (.tuple [.int n, .int m])] δ1) (h0 : 0 < m) (h : m.natAbs < 2 ^ 600) : EvJ K (tCall (spD K C__law_cut) [] E0' ta) δ (.fr (dR (Rat.divInt n m))) δ1 := ev_callP ha rfl ⟨n, m, h0, h, rfl, rfl⟩
end

end DL
namespace DL
open PySem PySem.Spec PyProof.Rows L2
local macro_rules | `(tactic| walk_at "len") => `(tactic| exact Nat.le_of_ble_eq_true rfl)
local macro_rules | `(tactic| walk_at "np") => `(tactic| (intro o z; cases z))
local macro_rules | `(tactic| walk_at "od") => `(tactic| first
  | exact od_addI | exact od_subI | exact od_subB | exact od_I0b | exact od_I0
  | exact od_ix rfl rfl | exact od_eq rfl rfl rfl rfl | exact od_ne rfl rfl rfl rfl | exact od_isN | exact od_notN
  | with_reducible apply od_mulI | with_reducible apply od_I | exact ud_I)
local macro_rules | `(tactic| walk_at "cd") => `(tactic| first
  | exact cd_len rfl | exact cd_abs | exact cd_int | exact cd_intB | exact cd_gcd | exact cd_tup rfl | exact cd_lst rfl)
local macro_rules | `(tactic| walk_at "ev1") => `(tactic| first
  | exact ev_int | exact ev_bl | exact ev_str | exact ev_non | exact ev_var rfl | exact ev_varO rfl
  | with_reducible apply ev_op | with_reducible apply ev_un
  | exact ea_nil | with_reducible apply ea_cons
  | with_reducible apply ev_isi | with_reducible apply ev_dget
  | with_reducible apply ev_cb
  | with_reducible apply ev_tup' | with_reducible apply ev_lstF
  | with_reducible apply tt_test | with_reducible apply tt_B | with_reducible apply tt_not
  | walk_at "od" | walk_at "cd" | walk_at "len" | rfl)
local macro_rules | `(tactic| walk_at "ev") => `(tactic| repeat' walk_at "ev1")
local macro_rules | `(tactic| walk_at "set") => `(tactic| (with_reducible apply q_set; rotate_left; walk_at "np"; rotate_left; walk_at "ev"))

local macro_rules | `(tactic| walk_at "ev1") => `(tactic| first
  | with_reducible apply ev_plus | with_reducible apply ev_minus | with_reducible apply ev_times | with_reducible apply ev_over | with_reducible apply ev_compare | with_reducible apply ev_fraction)

local macro_rules | `(tactic| walk_at "ev1") => `(tactic| first
  | with_reducible apply ev_gap | with_reducible apply ev_cross | with_reducible apply ev_dot | with_reducible apply ev_compare_points)

local macro_rules | `(tactic| walk_at "ev1") => `(tactic| first
  | with_reducible apply ev__law_sum | with_reducible apply ev__law_gap | with_reducible apply ev__law_product | with_reducible apply ev__law_part | with_reducible apply ev__law_less | with_reducible apply ev__law_cut)

/-! ### the law's own distances -/
theorem eqv_dR (a b : Rat) : PyData.eqv (dR a) (dR b) = decide (a = b) := by
  show ((a.num == b.num) && (((a.den : Int) == (b.den : Int)) && true)) = _
  by_cases h : a = b
  · subst h
    simp
  · rw [decide_eq_false h]
    by_cases h1 : a.num = b.num
    · have h2 : ¬ ((a.den : Int) = (b.den : Int)) := fun z => h (Rat.ext h1 (by omega))
      rw [beq_eq_false_iff_ne.mpr h2]
      simp
    · rw [beq_eq_false_iff_ne.mpr h1]
      rfl
theorem eqv_pt (a b : Pt) : PyData.eqv (ptD a) (ptD b) = decide (a = b) := by
  show (PyData.eqv (dR a.x) (dR b.x) && (PyData.eqv (dR a.y) (dR b.y) && true)) = _
  rw [eqv_dR, eqv_dR]
  cases a
  cases b
  simp [Bool.decide_and]
theorem lay_dR (a : Rat) : Lay 1 (dR a) := .tup (.cons .int (.cons .int .nil))
theorem lay_pt (a : Pt) : Lay 2 (ptD a) := .tup (.cons (lay_dR _) (.cons (lay_dR _) .nil))
theorem q_ifset {K : PySem.W.Frag} {δ : List Sl} {tt : TT} {te : TE} {u : TS} {out : Out} {b : Bool} {d0 d1 : D} {i : Nat} (hc : TtJ K tt δ b δ) (he : EvJ K te δ (.fr d1) δ) (hp : NoPar δ i) (h0 : δ[i]? = some (.fr d0)) (k : StJ K u (δ.set i (.fr (if b then d1 else d0))) out) :
    StJ K (tSeq (tIfS tt (tAsg te (gName i)) tNext) u) δ out := by
  refine st_seq (st_if hc (fun h => ?_) fun h => ?_) k
  · rw [if_pos h]
    exact st_set he hp
  · rw [if_neg (by rw [h]; exact Bool.false_ne_true)]
    have e : δ.set i (.fr d0) = δ := by
      refine List.ext_getElem? fun j => ?_
      by_cases ej : j = i
      · subst ej
        rw [List.getElem?_set_self (List.getElem?_eq_some_iff.mp h0).1, h0]
      · rw [List.getElem?_set_ne (Ne.symm ej)]
    rw [e]
    exact st_next
def F__law_cross (ds : List D) (d : D) : Prop := ∃ a b p, FitP 17 a ∧ FitP 17 b ∧ FitP 17 p ∧ ds = [ptD a, ptD b, ptD p] ∧ d = dR (crossQ (gapQ a b) (gapQ a p))
abbrev C__law_cross : Con := CP F__law_cross
/-! _law_cross: slots 0 _law_a, 1 _law_b, 2 _law_p, 3 _law_one -/
abbrev s__law_cross : Stmt := topS 39
theorem sc__law_cross : FnScope ["_law_a", "_law_b", "_law_p", "_law_one"] ["_law_a", "_law_b", "_law_p"] (defScope s__law_cross) := ⟨rfl, rfl, rfl, by decide +kernel, rfl, by decide +kernel, by decide +kernel⟩
def t__law_cross (K : PySem.W.Frag) : TS :=
  (tSeq (tAsg (tCall (spD K C__law_product) [] E0 (tCons (tCall (spD K C__law_gap) [] E0 (tCons (tOp (rIx K) (tVar 1) (tC (.int 0))) (tCons (tOp (rIx K) (tVar 0) (tC (.int 0))) tNil))) (tCons (tCall (spD K C__law_gap) [] E0 (tCons (tOp (rIx K) (tVar 2) (tC (.int 1))) (tCons (tOp (rIx K) (tVar 0) (tC (.int 1))) tNil))) tNil))) (gName 3))
    (tRet (tCall (spD K C__law_gap) [] E0 (tCons (tVar 3) (tCons (tCall (spD K C__law_product) [] E0 (tCons (tCall (spD K C__law_gap) [] E0 (tCons (tOp (rIx K) (tVar 1) (tC (.int 1))) (tCons (tOp (rIx K) (tVar 0) (tC (.int 1))) tNil))) (tCons (tCall (spD K C__law_gap) [] E0 (tCons (tOp (rIx K) (tVar 2) (tC (.int 0))) (tCons (tOp (rIx K) (tVar 0) (tC (.int 0))) tNil))) tNil))) tNil)))))
theorem tm__law_cross {P : Program} {w : World} {K : PySem.W.Frag} {mg : Str → Option Value} {base : Heap} (B : Blt mg) (c__law_product : C8.Cal P w K mg base 2 "_law_product" (spD K C__law_product) []) (c__law_gap : C8.Cal P w K mg base 2 "_law_gap" (spD K C__law_gap) []) {f : Addr} {cdv : Value} {A : Around} {outer : List Env} {s : Shared} {H : Hp} {E : XK} (hr : Room 2 (A.deeper (envOfC "_law_cross" (defScope s__law_cross) s.heap.objs.size f cdv))) :
    PSs (cxOf CX0 P w K mg base ["_law_a", "_law_b", "_law_p", "_law_one"] "_law_cross" (defScope s__law_cross) f cdv A outer s H E).nox (defBody s__law_cross) (t__law_cross K) := by
  have nd := sc__law_cross.nd
  exact (pss_cons (ps_set (i := 3) nd rfl (Or.inl rfl) (C8.pe_c c__law_product hr (by omega) (by rfl) (pa_cons (C8.pe_c c__law_gap hr (by omega) (by rfl) (pa_cons (pe_ix ix_seq (pv 1) pe_int (fun _ _ => rfl)) (pa_cons (pe_ix ix_seq (pv 0) pe_int (fun _ _ => rfl)) pa_nil))) (pa_cons (C8.pe_c c__law_gap hr (by omega) (by rfl) (pa_cons (pe_ix ix_seq (pv 2) pe_int (fun _ _ => rfl)) (pa_cons (pe_ix ix_seq (pv 0) pe_int (fun _ _ => rfl)) pa_nil))) pa_nil))))
    (pss_one (ps_ret (C8.pe_c c__law_gap hr (by omega) (by rfl) (pa_cons (pv 3) (pa_cons (C8.pe_c c__law_product hr (by omega) (by rfl) (pa_cons (C8.pe_c c__law_gap hr (by omega) (by rfl) (pa_cons (pe_ix ix_seq (pv 1) pe_int (fun _ _ => rfl)) (pa_cons (pe_ix ix_seq (pv 0) pe_int (fun _ _ => rfl)) pa_nil))) (pa_cons (C8.pe_c c__law_gap hr (by omega) (by rfl) (pa_cons (pe_ix ix_seq (pv 2) pe_int (fun _ _ => rfl)) (pa_cons (pe_ix ix_seq (pv 0) pe_int (fun _ _ => rfl)) pa_nil))) pa_nil))) pa_nil))))))

theorem run__law_cross {K : PySem.W.Frag} : BodyOk K (t__law_cross K) 1 C__law_cross := by
  refine body_pure ?_
  rintro ds d ⟨a, b, p, ha, hb, hp, rfl, rfl⟩
  refine ⟨[.fr (ptD a), .fr (ptD b), .fr (ptD p), .fr (dR ((b.x - a.x) * (p.y - a.y)))], ?_, Nat.le_of_ble_eq_true rfl⟩
  show StJ K _ [.fr (ptD a), .fr (ptD b), .fr (ptD p), .no] (.rt (.fr (dR ((b.x - a.x) * (p.y - a.y) - (b.y - a.y) * (p.x - a.x)))) _)
  have g1 := hb.1.sub ha.1
  have g2 := hp.2.sub ha.2
  have g3 := hb.2.sub ha.2
  have g4 := hp.1.sub ha.1
  apply q_set
  · walk_at "ev"
    · exact ⟨17, 17, hb.1, ha.1, by decide⟩
    · exact ⟨17, 17, hp.2, ha.2, by decide⟩
    · exact ⟨35, 35, g1, g2, by decide⟩
  · walk_at "np"
  apply q_ret
  · walk_at "ev"
    · exact ⟨17, 17, hb.2, ha.2, by decide⟩
    · exact ⟨17, 17, hp.1, ha.1, by decide⟩
    · exact ⟨35, 35, g3, g4, by decide⟩
    · exact ⟨70, 70, g1.mul g2, g3.mul g4, by decide⟩
  · rfl
theorem len__law_cross : ∀ args r args', C__law_cross args r args' → args.length = 3 := lenP fun ds d ⟨_, _, _, _, _, _, h, _⟩ => by rw [h]; rfl
theorem ok__law_cross {P : Program} {w : World} {K : PySem.W.Frag} {mg : Str → Option Value} {base : Heap} (B : Blt mg) (Df : DefAt K mg "_law_cross" s__law_cross ["_law_a", "_law_b", "_law_p"]) (c__law_product : C8.Cal P w K mg base 2 "_law_product" (spD K C__law_product) []) (c__law_gap : C8.Cal P w K mg base 2 "_law_gap" (spD K C__law_gap) []) : C8.Cal P w K mg base 3 "_law_cross" (spD K C__law_cross) [] :=
  cal_of Df sc__law_cross len__law_cross rfl fun f cdv A outer s H E hr => ⟨t__law_cross K, tm__law_cross B c__law_product c__law_gap hr, run__law_cross⟩

def F__law_square (ds : List D) (d : D) : Prop := ∃ n m a b, FitP n a ∧ FitP m b ∧ n + m ≤ 140 ∧ ds = [ptD a, ptD b] ∧ d = dR (sqQ a b)
abbrev C__law_square : Con := CP F__law_square
/-! _law_square: slots 0 _law_p, 1 _law_q, 2 _law_x, 3 _law_y -/
abbrev s__law_square : Stmt := topS 40
theorem sc__law_square : FnScope ["_law_p", "_law_q", "_law_x", "_law_y"] ["_law_p", "_law_q"] (defScope s__law_square) := ⟨rfl, rfl, rfl, by decide +kernel, rfl, by decide +kernel, by decide +kernel⟩
def t__law_square (K : PySem.W.Frag) : TS :=
  (tSeq (tAsg (tCall (spD K C__law_gap) [] E0 (tCons (tOp (rIx K) (tVar 1) (tC (.int 0))) (tCons (tOp (rIx K) (tVar 0) (tC (.int 0))) tNil))) (gName 2))
    (tSeq (tAsg (tCall (spD K C__law_gap) [] E0 (tCons (tOp (rIx K) (tVar 1) (tC (.int 1))) (tCons (tOp (rIx K) (tVar 0) (tC (.int 1))) tNil))) (gName 3))
    (tRet (tCall (spD K C__law_sum) [] E0 (tCons (tCall (spD K C__law_product) [] E0 (tCons (tVar 2) (tCons (tVar 2) tNil))) (tCons (tCall (spD K C__law_product) [] E0 (tCons (tVar 3) (tCons (tVar 3) tNil))) tNil))))))
theorem tm__law_square {P : Program} {w : World} {K : PySem.W.Frag} {mg : Str → Option Value} {base : Heap} (B : Blt mg) (c__law_gap : C8.Cal P w K mg base 2 "_law_gap" (spD K C__law_gap) []) (c__law_sum : C8.Cal P w K mg base 2 "_law_sum" (spD K C__law_sum) []) (c__law_product : C8.Cal P w K mg base 2 "_law_product" (spD K C__law_product) []) {f : Addr} {cdv : Value} {A : Around} {outer : List Env} {s : Shared} {H : Hp} {E : XK} (hr : Room 2 (A.deeper (envOfC "_law_square" (defScope s__law_square) s.heap.objs.size f cdv))) :
    PSs (cxOf CX0 P w K mg base ["_law_p", "_law_q", "_law_x", "_law_y"] "_law_square" (defScope s__law_square) f cdv A outer s H E).nox (defBody s__law_square) (t__law_square K) := by
  have nd := sc__law_square.nd
  exact (pss_cons (ps_set (i := 2) nd rfl (Or.inl rfl) (C8.pe_c c__law_gap hr (by omega) (by rfl) (pa_cons (pe_ix ix_seq (pv 1) pe_int (fun _ _ => rfl)) (pa_cons (pe_ix ix_seq (pv 0) pe_int (fun _ _ => rfl)) pa_nil))))
    (pss_cons (ps_set (i := 3) nd rfl (Or.inl rfl) (C8.pe_c c__law_gap hr (by omega) (by rfl) (pa_cons (pe_ix ix_seq (pv 1) pe_int (fun _ _ => rfl)) (pa_cons (pe_ix ix_seq (pv 0) pe_int (fun _ _ => rfl)) pa_nil))))
    (pss_one (ps_ret (C8.pe_c c__law_sum hr (by omega) (by rfl) (pa_cons (C8.pe_c c__law_product hr (by omega) (by rfl) (pa_cons (pv 2) (pa_cons (pv 2) pa_nil))) (pa_cons (C8.pe_c c__law_product hr (by omega) (by rfl) (pa_cons (pv 3) (pa_cons (pv 3) pa_nil))) pa_nil)))))))

theorem run__law_square {K : PySem.W.Frag} : BodyOk K (t__law_square K) 2 C__law_square := by
  refine body_pure ?_
  rintro ds d ⟨n, m, a, b, ha, hb, h, rfl, rfl⟩
  refine ⟨[.fr (ptD a), .fr (ptD b), .fr (dR (b.x - a.x)), .fr (dR (b.y - a.y))], ?_, Nat.le_of_ble_eq_true rfl⟩
  show StJ K _ [.fr (ptD a), .fr (ptD b), .no, .no] (.rt (.fr (dR ((b.x - a.x) * (b.x - a.x) + (b.y - a.y) * (b.y - a.y)))) _)
  have g1 := hb.1.sub ha.1
  have g2 := hb.2.sub ha.2
  apply q_set
  · walk_at "ev"
    exact ⟨m, n, hb.1, ha.1, by omega⟩
  · walk_at "np"
  apply q_set
  · walk_at "ev"
    exact ⟨m, n, hb.2, ha.2, by omega⟩
  · walk_at "np"
  apply q_ret
  · walk_at "ev"
    · exact ⟨_, _, g1, g1, by omega⟩
    · exact ⟨_, _, g2, g2, by omega⟩
    · exact ⟨_, _, g1.mul g1, g2.mul g2, by omega⟩
  · rfl
theorem len__law_square : ∀ args r args', C__law_square args r args' → args.length = 2 := lenP fun ds d ⟨_, _, _, _, _, _, _, h, _⟩ => by rw [h]; rfl
theorem ok__law_square {P : Program} {w : World} {K : PySem.W.Frag} {mg : Str → Option Value} {base : Heap} (B : Blt mg) (Df : DefAt K mg "_law_square" s__law_square ["_law_p", "_law_q"]) (c__law_gap : C8.Cal P w K mg base 2 "_law_gap" (spD K C__law_gap) []) (c__law_sum : C8.Cal P w K mg base 2 "_law_sum" (spD K C__law_sum) []) (c__law_product : C8.Cal P w K mg base 2 "_law_product" (spD K C__law_product) []) : C8.Cal P w K mg base 3 "_law_square" (spD K C__law_square) [] :=
  cal_of Df sc__law_square len__law_square rfl fun f cdv A outer s H E hr => ⟨t__law_square K, tm__law_square B c__law_gap c__law_sum c__law_product hr, run__law_square⟩

def F__law_far (ds : List D) (d : D) : Prop := ∃ (M : Int) (a b p : Pt), DOk M ∧ GridP M a ∧ GridP M b ∧ GridP M p ∧ ds = [ptD a, ptD b, ptD p] ∧ d = dR (farQ a b p)
abbrev C__law_far : Con := CP F__law_far
/-! _law_far: slots 0 _law_a, 1 _law_b, 2 _law_p, 3 _law_wx, 4 _law_wy, 5 _law_along, 6 _law_part_here -/
abbrev s__law_far : Stmt := topS 41
theorem sc__law_far : FnScope ["_law_a", "_law_b", "_law_p", "_law_wx", "_law_wy", "_law_along", "_law_part_here"] ["_law_a", "_law_b", "_law_p"] (defScope s__law_far) := ⟨rfl, rfl, rfl, by decide +kernel, rfl, by decide +kernel, by decide +kernel⟩
def t__law_far (K : PySem.W.Frag) : TS :=
  (tSeq (tIfS (tTest (tOp (rEqD K) (tVar 0) (tVar 1))) (tRet (tCall (spD K C__law_square) [] E0 (tCons (tVar 0) (tCons (tVar 2) tNil)))) tNext)
    (tSeq (tAsg (tCall (spD K C__law_gap) [] E0 (tCons (tOp (rIx K) (tVar 1) (tC (.int 0))) (tCons (tOp (rIx K) (tVar 0) (tC (.int 0))) tNil))) (gName 3))
    (tSeq (tAsg (tCall (spD K C__law_gap) [] E0 (tCons (tOp (rIx K) (tVar 1) (tC (.int 1))) (tCons (tOp (rIx K) (tVar 0) (tC (.int 1))) tNil))) (gName 4))
    (tSeq (tAsg (tCall (spD K C__law_sum) [] E0 (tCons (tCall (spD K C__law_product) [] E0 (tCons (tVar 3) (tCons (tCall (spD K C__law_gap) [] E0 (tCons (tOp (rIx K) (tVar 2) (tC (.int 0))) (tCons (tOp (rIx K) (tVar 0) (tC (.int 0))) tNil))) tNil))) (tCons (tCall (spD K C__law_product) [] E0 (tCons (tVar 4) (tCons (tCall (spD K C__law_gap) [] E0 (tCons (tOp (rIx K) (tVar 2) (tC (.int 1))) (tCons (tOp (rIx K) (tVar 0) (tC (.int 1))) tNil))) tNil))) tNil))) (gName 5))
    (tSeq (tAsg (tCall (spD K C__law_part) [] E0 (tCons (tVar 5) (tCons (tCall (spD K C__law_square) [] E0 (tCons (tVar 0) (tCons (tVar 1) tNil))) tNil))) (gName 6))
    (tSeq (tIfS (tTest (tOp (rI0 fun i j => .bl (decide (i < j))) (tOp (rIx K) (tVar 6) (tC (.int 0))) (tC (.int 0)))) (tAsg (tTup (tCons (tC (.int 0)) (tCons (tC (.int 1)) tNil))) (gName 6)) tNext)
    (tSeq (tIfS (tTest (tOp (rI0 fun i j => .bl (decide (j < i))) (tOp (rIx K) (tVar 6) (tC (.int 0))) (tOp (rIx K) (tVar 6) (tC (.int 1))))) (tAsg (tTup (tCons (tC (.int 1)) (tCons (tC (.int 1)) tNil))) (gName 6)) tNext)
    (tRet (tCall (spD K C__law_square) [] E0 (tCons (tVar 2) (tCons (tTup (tCons (tCall (spD K C__law_sum) [] E0 (tCons (tOp (rIx K) (tVar 0) (tC (.int 0))) (tCons (tCall (spD K C__law_product) [] E0 (tCons (tVar 6) (tCons (tVar 3) tNil))) tNil))) (tCons (tCall (spD K C__law_sum) [] E0 (tCons (tOp (rIx K) (tVar 0) (tC (.int 1))) (tCons (tCall (spD K C__law_product) [] E0 (tCons (tVar 6) (tCons (tVar 4) tNil))) tNil))) tNil))) tNil)))))))))))
theorem tm__law_far {P : Program} {w : World} {K : PySem.W.Frag} {mg : Str → Option Value} {base : Heap} (B : Blt mg) (c__law_gap : C8.Cal P w K mg base 2 "_law_gap" (spD K C__law_gap) []) (c__law_sum : C8.Cal P w K mg base 2 "_law_sum" (spD K C__law_sum) []) (c__law_part : C8.Cal P w K mg base 2 "_law_part" (spD K C__law_part) []) (c__law_square : C8.Cal P w K mg base 3 "_law_square" (spD K C__law_square) []) (c__law_product : C8.Cal P w K mg base 2 "_law_product" (spD K C__law_product) []) {f : Addr} {cdv : Value} {A : Around} {outer : List Env} {s : Shared} {H : Hp} {E : XK} (hr : Room 3 (A.deeper (envOfC "_law_far" (defScope s__law_far) s.heap.objs.size f cdv))) :
    PSs (cxOf CX0 P w K mg base ["_law_a", "_law_b", "_law_p", "_law_wx", "_law_wy", "_law_along", "_law_part_here"] "_law_far" (defScope s__law_far) f cdv A outer s H E).nox (defBody s__law_far) (t__law_far K) := by
  have nd := sc__law_far.nd
  exact (pss_cons (ps_if (pt_cmpR (op_eqD hr.units) (pv 0) (pv 1) (nomark _)) (pss_one (ps_ret (C8.pe_c c__law_square hr (by omega) (by rfl) (pa_cons (pv 0) (pa_cons (pv 2) pa_nil))))) pss_nil)
    (pss_cons (ps_set (i := 3) nd rfl (Or.inl rfl) (C8.pe_c c__law_gap hr (by omega) (by rfl) (pa_cons (pe_ix ix_seq (pv 1) pe_int (fun _ _ => rfl)) (pa_cons (pe_ix ix_seq (pv 0) pe_int (fun _ _ => rfl)) pa_nil))))
    (pss_cons (ps_set (i := 4) nd rfl (Or.inl rfl) (C8.pe_c c__law_gap hr (by omega) (by rfl) (pa_cons (pe_ix ix_seq (pv 1) pe_int (fun _ _ => rfl)) (pa_cons (pe_ix ix_seq (pv 0) pe_int (fun _ _ => rfl)) pa_nil))))
    (pss_cons (ps_set (i := 5) nd rfl (Or.inl rfl) (C8.pe_c c__law_sum hr (by omega) (by rfl) (pa_cons (C8.pe_c c__law_product hr (by omega) (by rfl) (pa_cons (pv 3) (pa_cons (C8.pe_c c__law_gap hr (by omega) (by rfl) (pa_cons (pe_ix ix_seq (pv 2) pe_int (fun _ _ => rfl)) (pa_cons (pe_ix ix_seq (pv 0) pe_int (fun _ _ => rfl)) pa_nil))) pa_nil))) (pa_cons (C8.pe_c c__law_product hr (by omega) (by rfl) (pa_cons (pv 4) (pa_cons (C8.pe_c c__law_gap hr (by omega) (by rfl) (pa_cons (pe_ix ix_seq (pv 2) pe_int (fun _ _ => rfl)) (pa_cons (pe_ix ix_seq (pv 0) pe_int (fun _ _ => rfl)) pa_nil))) pa_nil))) pa_nil))))
    (pss_cons (ps_set (i := 6) nd rfl (Or.inl rfl) (C8.pe_c c__law_part hr (by omega) (by rfl) (pa_cons (pv 5) (pa_cons (C8.pe_c c__law_square hr (by omega) (by rfl) (pa_cons (pv 0) (pa_cons (pv 1) pa_nil))) pa_nil))))
    (pss_cons (ps_if (pt_cmpR op_lt (pe_ix ix_seq (pv 6) pe_int (fun _ _ => rfl)) pe_int (nomark _)) (pss_one (ps_set (i := 6) nd rfl (Or.inl rfl) (pe_tup (pa_cons pe_int (pa_cons pe_int pa_nil))))) pss_nil)
    (pss_cons (ps_if (pt_cmpR op_gt (pe_ix ix_seq (pv 6) pe_int (fun _ _ => rfl)) (pe_ix ix_seq (pv 6) pe_int (fun _ _ => rfl)) (nomark _)) (pss_one (ps_set (i := 6) nd rfl (Or.inl rfl) (pe_tup (pa_cons pe_int (pa_cons pe_int pa_nil))))) pss_nil)
    (pss_one (ps_ret (C8.pe_c c__law_square hr (by omega) (by rfl) (pa_cons (pv 2) (pa_cons (pe_tup (pa_cons (C8.pe_c c__law_sum hr (by omega) (by rfl) (pa_cons (pe_ix ix_seq (pv 0) pe_int (fun _ _ => rfl)) (pa_cons (C8.pe_c c__law_product hr (by omega) (by rfl) (pa_cons (pv 6) (pa_cons (pv 3) pa_nil))) pa_nil))) (pa_cons (C8.pe_c c__law_sum hr (by omega) (by rfl) (pa_cons (pe_ix ix_seq (pv 0) pe_int (fun _ _ => rfl)) (pa_cons (C8.pe_c c__law_product hr (by omega) (by rfl) (pa_cons (pv 6) (pa_cons (pv 4) pa_nil))) pa_nil))) pa_nil))) pa_nil))))))))))))

def clampQ (t : Rat) : Rat := if 1 < (if t < 0 then 0 else t) then 1 else (if t < 0 then 0 else t)
theorem clamp_near (a b p : Pt) : alongQ a b (clampQ (partQ a b p)) = nearQ a b p := by
  unfold nearQ clampQ
  generalize partQ a b p = t
  by_cases h1 : t < 0
  · rw [if_pos h1, if_neg (by grind), if_pos (by grind), along0]
  · rw [if_neg h1]
    by_cases h2 : 1 < t
    · rw [if_pos h2, if_neg (by grind), if_pos (by grind), along1]
    · rw [if_neg h2]
      by_cases h3 : t ≤ 0
      · have e : t = 0 := by grind
        rw [if_pos h3, e, along0]
      · rw [if_neg h3]
        by_cases h4 : 1 ≤ t
        · have e : t = 1 := by grind
          rw [if_pos h4, e, along1]
        · rw [if_neg h4]
theorem run__law_far {K : PySem.W.Frag} : BodyOk K (t__law_far K) 4 C__law_far := by
  refine body_pure ?_
  rintro ds d ⟨M, a, b, p, hM, ha, hb, hp, rfl, rfl⟩
  have fa := ha.fit hM
  have fb := hb.fit hM
  have fp := hp.fit hM
  by_cases hab : a = b
  · refine ⟨[.fr (ptD a), .fr (ptD b), .fr (ptD p), .no, .no, .no, .no], ?_, Nat.le_of_ble_eq_true rfl⟩
    show StJ K _ [.fr (ptD a), .fr (ptD b), .fr (ptD p), .no, .no, .no, .no] _
    unfold farQ
    rw [if_pos hab]
    apply st_ifq (b := true)
    · rw [← decide_eq_true hab, ← eqv_pt]
      exact tt_test (ev_op (ev_var rfl) (ev_var rfl) (od_eq rfl rfl (lay_pt a).shaped (lay_pt b).shaped))
    · intro _
      apply q_retq
      · apply ev_callP
        · walk_at "ev"
        · rfl
        · exact ⟨17, 17, a, p, fa, fp, by decide, rfl, rfl⟩
      · rfl
    · intro z
      cases z
  · have W := way_pos hab
    have ft := part_fit hM ha hb hp hab
    have hw := fa.gap fb
    have hv := fa.gap fp
    let t1 : Rat := if partQ a b p < 0 then 0 else partQ a b p
    have ft1 : Fit 36 t1 := by
      show Fit 36 (if partQ a b p < 0 then 0 else partQ a b p)
      split
      · exact fit0.mono (by decide)
      · exact ft
    have ft2 : Fit 36 (clampQ (partQ a b p)) := by
      show Fit 36 (if 1 < t1 then 1 else t1)
      split
      · exact fit1.mono (by decide)
      · exact ft1
    refine ⟨[.fr (ptD a), .fr (ptD b), .fr (ptD p), .fr (dR (gapQ a b).x), .fr (dR (gapQ a b).y), .fr (dR (dotQ (gapQ a b) (gapQ a p))), .fr (dR (clampQ (partQ a b p)))], ?_, Nat.le_of_ble_eq_true rfl⟩
    show StJ K _ [.fr (ptD a), .fr (ptD b), .fr (ptD p), .no, .no, .no, .no] _
    unfold farQ
    rw [if_neg hab, ← clamp_near]
    apply st_ifq (b := false)
    · rw [← decide_eq_false hab, ← eqv_pt]
      exact tt_test (ev_op (ev_var rfl) (ev_var rfl) (od_eq rfl rfl (lay_pt a).shaped (lay_pt b).shaped))
    · intro z
      cases z
    · intro _
      apply st_nextq
      apply q_set (d := dR (gapQ a b).x)
      · unfold gapQ
        walk_at "ev"
        exact ⟨17, 17, fb.1, fa.1, by decide⟩
      · walk_at "np"
      apply q_set (d := dR (gapQ a b).y)
      · unfold gapQ
        walk_at "ev"
        exact ⟨17, 17, fb.2, fa.2, by decide⟩
      · walk_at "np"
      apply q_set (d := dR (dotQ (gapQ a b) (gapQ a p)))
      · show EvJ K _ _ (.fr (dR ((gapQ a b).x * (p.x - a.x) + (gapQ a b).y * (p.y - a.y)))) _
        walk_at "ev"
        · exact ⟨17, 17, fp.1, fa.1, by decide⟩
        · exact ⟨35, 35, hw.1, fp.1.sub fa.1, by decide⟩
        · exact ⟨17, 17, fp.2, fa.2, by decide⟩
        · exact ⟨35, 35, hw.2, fp.2.sub fa.2, by decide⟩
        · exact ⟨70, 70, hw.1.mul (fp.1.sub fa.1), hw.2.mul (fp.2.sub fa.2), by decide⟩
      · walk_at "np"
      apply q_set (d := dR (partQ a b p))
      · apply ev__law_part (a := dotQ (gapQ a b) (gapQ a p)) (b := sqQ a b)
        · apply ea_cons
          · exact ev_var rfl
          · apply ea_cons
            · apply ev_callP
              · walk_at "ev"
              · rfl
              · exact ⟨17, 17, a, b, fa, fb, by decide, rfl, rfl⟩
            · exact ea_nil
        · exact ⟨141, 141, hw.dot hv, hw.dot hw, by decide⟩
        · show dotQ (gapQ a b) (gapQ a b) ≠ 0
          grind
      · walk_at "np"
      apply q_ifset (b := decide (partQ a b p < 0)) (d0 := dR (partQ a b p)) (d1 := dR 0)
      · have e : decide (partQ a b p < 0) = decide ((partQ a b p).num < 0) := by
          have : (partQ a b p).num < 0 ↔ partQ a b p < 0 := by
            rw [Rat.lt_iff]
            simp
          simp only [this]
        rw [e]
        walk_at "ev"
      · show EvJ K _ _ (.fr (.tuple [.int 0, .int 1])) _
        walk_at "ev"
      · walk_at "np"
      · rfl
      have e1 : (if decide (partQ a b p < 0) = true then dR 0 else dR (partQ a b p)) = dR t1 := by
        show _ = dR (if partQ a b p < 0 then 0 else partQ a b p)
        simp only [decide_eq_true_eq]
        split <;> rfl
      rw [e1]
      apply q_ifset (b := decide (1 < t1)) (d0 := dR t1) (d1 := dR 1)
      · have e : decide (1 < t1) = decide ((t1.den : Int) < t1.num) := by
          have : (t1.den : Int) < t1.num ↔ 1 < t1 := by
            rw [Rat.lt_iff]
            simp
          simp only [this]
        rw [e]
        walk_at "ev"
      · show EvJ K _ _ (.fr (.tuple [.int 1, .int 1])) _
        walk_at "ev"
      · walk_at "np"
      · rfl
      have e2 : (if decide (1 < t1) = true then dR 1 else dR t1) = dR (clampQ (partQ a b p)) := by
        show _ = dR (if 1 < t1 then 1 else t1)
        simp only [decide_eq_true_eq]
        split <;> rfl
      rw [e2]
      generalize clampQ (partQ a b p) = t at *
      have fal : FitP 89 (alongQ a b t) := FitP.mono (along_fit fa fb ft2) (by omega)
      apply q_ret (r := .fr (dR (sqQ p (alongQ a b t))))
      · apply ev_callP (ds := [ptD p, ptD (alongQ a b t)])
        · apply ea_cons
          · exact ev_var rfl
          · apply ea_cons (r := .fr (.tuple [dR (a.x + t * (gapQ a b).x), dR (a.y + t * (gapQ a b).y)]))
            · walk_at "ev"
              · exact ⟨36, 35, ft2, hw.1, by decide⟩
              · exact ⟨17, 71, fa.1, ft2.mul hw.1, by decide⟩
              · exact ⟨36, 35, ft2, hw.2, by decide⟩
              · exact ⟨17, 71, fa.2, ft2.mul hw.2, by decide⟩
            · exact ea_nil
        · rfl
        · exact ⟨17, 89, p, alongQ a b t, fp, fal, by decide, rfl, rfl⟩
      · rfl
theorem len__law_far : ∀ args r args', C__law_far args r args' → args.length = 3 := lenP fun ds d ⟨_, _, _, _, _, _, _, _, h, _⟩ => by rw [h]; rfl
theorem ok__law_far {P : Program} {w : World} {K : PySem.W.Frag} {mg : Str → Option Value} {base : Heap} (B : Blt mg) (Df : DefAt K mg "_law_far" s__law_far ["_law_a", "_law_b", "_law_p"]) (c__law_gap : C8.Cal P w K mg base 2 "_law_gap" (spD K C__law_gap) []) (c__law_sum : C8.Cal P w K mg base 2 "_law_sum" (spD K C__law_sum) []) (c__law_part : C8.Cal P w K mg base 2 "_law_part" (spD K C__law_part) []) (c__law_square : C8.Cal P w K mg base 3 "_law_square" (spD K C__law_square) []) (c__law_product : C8.Cal P w K mg base 2 "_law_product" (spD K C__law_product) []) : C8.Cal P w K mg base 4 "_law_far" (spD K C__law_far) [] :=
  cal_of Df sc__law_far len__law_far rfl fun f cdv A outer s H E hr => ⟨t__law_far K, tm__law_far B c__law_gap c__law_sum c__law_part c__law_square c__law_product hr, run__law_far⟩


end DL
namespace DL
open PySem PySem.Spec PyProof.Rows L2
local macro_rules | `(tactic| walk_at "len") => `(tactic| exact Nat.le_of_ble_eq_true rfl)
local macro_rules | `(tactic| walk_at "np") => `(tactic| (intro o z; cases z))
local macro_rules | `(tactic| walk_at "od") => `(tactic| first
  | exact od_addI | exact od_subI | exact od_subB | exact od_I0b | exact od_I0
  | exact od_ix rfl rfl | exact od_eq rfl rfl rfl rfl | exact od_ne rfl rfl rfl rfl | exact od_isN | exact od_notN
  | with_reducible apply od_mulI | with_reducible apply od_I | exact ud_I)
local macro_rules | `(tactic| walk_at "cd") => `(tactic| first
  | exact cd_len rfl | exact cd_abs | exact cd_int | exact cd_intB | exact cd_gcd | exact cd_tup rfl | exact cd_lst rfl)
local macro_rules | `(tactic| walk_at "ev1") => `(tactic| first
  | exact ev_int | exact ev_bl | exact ev_str | exact ev_non | exact ev_var rfl | exact ev_varO rfl
  | with_reducible apply ev_op | with_reducible apply ev_un
  | exact ea_nil | with_reducible apply ea_cons
  | with_reducible apply ev_isi | with_reducible apply ev_dget
  | with_reducible apply ev_cb
  | with_reducible apply ev_tup' | with_reducible apply ev_lstF
  | with_reducible apply tt_test | with_reducible apply tt_B | with_reducible apply tt_not
  | walk_at "od" | walk_at "cd" | walk_at "len" | rfl)
local macro_rules | `(tactic| walk_at "ev") => `(tactic| repeat' walk_at "ev1")
local macro_rules | `(tactic| walk_at "set") => `(tactic| (with_reducible apply q_set; rotate_left; walk_at "np"; rotate_left; walk_at "ev"))

local macro_rules | `(tactic| walk_at "ev1") => `(tactic| first
  | with_reducible apply ev_plus | with_reducible apply ev_minus | with_reducible apply ev_times | with_reducible apply ev_over | with_reducible apply ev_compare | with_reducible apply ev_fraction)

local macro_rules | `(tactic| walk_at "ev1") => `(tactic| first
  | with_reducible apply ev_gap | with_reducible apply ev_cross | with_reducible apply ev_dot | with_reducible apply ev_compare_points)

local macro_rules | `(tactic| walk_at "ev1") => `(tactic| first
  | with_reducible apply ev__law_sum | with_reducible apply ev__law_gap | with_reducible apply ev__law_product | with_reducible apply ev__law_part | with_reducible apply ev__law_less | with_reducible apply ev__law_cut)

/-! ### _law_kept -/
def lineL (n : Nat) (P : Ln) : D := .list ((List.range n).map fun i => ptD (P i))
def C__law_kept (c : Nat) : Con := fun args r args' => ∃ (n lo hi : Nat) (P : Ln) (e : Rat), LnOk P ∧ n ≤ 100 ∧ lo < hi ∧ hi < n ∧ hi - lo < c ∧ Fit 20 e ∧ c ≤ 50 ∧ args = [.fr (lineL n P), .fr (.int (lo : Int)), .fr (.int (hi : Int)), .fr (dR e)] ∧ r = .new (.L ((keptQ P e lo hi).map fun i : Nat => .int (i : Int))) ∧ args' = args
/-! _law_kept: slots 0 _law_line, 1 _law_low, 2 _law_high, 3 _law_e, 4 _law_best, 5 _law_at, 6 _law_far_here -/
abbrev s__law_kept : Stmt := topS 42
theorem sc__law_kept : FnScope ["_law_line", "_law_low", "_law_high", "_law_e", "_law_best", "_law_at", "_law_far_here"] ["_law_line", "_law_low", "_law_high", "_law_e"] (defScope s__law_kept) := ⟨rfl, rfl, rfl, by decide +kernel, rfl, by decide +kernel, by decide +kernel⟩
def t__law_kept (K : PySem.W.Frag) (C__law_kept : Con) : TS :=
  (tSeq (tAsg (tC .non) (gName 4))
    (tSeq (tFor (iRng2 (tCons (tOp (rAddU K) (tVar 1) (tC (.int 1))) (tCons (tVar 2) tNil))) (gName 5) (tSeq (tAsg (tCall (spD K C__law_far) [] E0 (tCons (tOp (rIx K) (tVar 0) (tVar 1)) (tCons (tOp (rIx K) (tVar 0) (tVar 2)) (tCons (tOp (rIx K) (tVar 0) (tVar 5)) tNil)))) (gName 6))
    (tIfS (tOr (tTest (tOp (fun x y H Q => y = .non ∧ Q (.bl (decide (x = .non))) H) (tVar 4) (tC .non))) (tB (tCall (spD K C__law_less) [] E0 (tCons (tOp (rIx K) (tVar 4) (tC (.int 0))) (tCons (tVar 6) tNil))))) (tAsg (tTup (tCons (tVar 6) (tCons (tVar 5) tNil))) (gName 4)) tNext)))
    (tSeq (tIfS (tOr (tTest (tOp (fun x y H Q => y = .non ∧ Q (.bl (decide (x = .non))) H) (tVar 4) (tC .non))) (tNot (tB (tCall (spD K C__law_less) [] E0 (tCons (tVar 3) (tCons (tOp (rIx K) (tVar 4) (tC (.int 0))) tNil)))))) (tRet (tLst tNil)) tNext)
    (tRet (tOp (rAddU K) (tOp (rAddU K) (tCall (spD K C__law_kept) [] E0 (tCons (tVar 0) (tCons (tVar 1) (tCons (tOp (rIx K) (tVar 4) (tC (.int 1))) (tCons (tVar 3) tNil))))) (tLst (tCons (tOp (rIx K) (tVar 4) (tC (.int 1))) tNil))) (tCall (spD K C__law_kept) [] E0 (tCons (tVar 0) (tCons (tOp (rIx K) (tVar 4) (tC (.int 1))) (tCons (tVar 2) (tCons (tVar 3) tNil))))))))))
theorem tm__law_kept {P : Program} {w : World} {K : PySem.W.Frag} {mg : Str → Option Value} {base : Heap} (B : Blt mg) {C__law_kept : Con} {L : Nat} (hL : 4 ≤ L) (c__law_far : C8.Cal P w K mg base 4 "_law_far" (spD K C__law_far) []) (c__law_less : C8.Cal P w K mg base 1 "_law_less" (spD K C__law_less) []) (c__law_kept : C8.Cal P w K mg base L "_law_kept" (spD K C__law_kept) []) {f : Addr} {cdv : Value} {A : Around} {outer : List Env} {s : Shared} {H : Hp} {E : XK} (hr : Room L (A.deeper (envOfC "_law_kept" (defScope s__law_kept) s.heap.objs.size f cdv))) :
    PSs (cxOf CX0 P w K mg base ["_law_line", "_law_low", "_law_high", "_law_e", "_law_best", "_law_at", "_law_far_here"] "_law_kept" (defScope s__law_kept) f cdv A outer s H E).nox (defBody s__law_kept) (t__law_kept K C__law_kept) := by
  have nd := sc__law_kept.nd
  exact (pss_cons (ps_set (i := 4) nd rfl (Or.inl rfl) pe_non)
    (pss_cons (ps_for PassesOwn.never rfl (pi_range2 (by rfl) B.range_ (pa_cons (pe_op op_addU (pv 1) pe_int) (pa_cons (pv 2) pa_nil))) (pg_name (i := 5) nd rfl (Or.inl rfl)) (pss_cons (ps_set (i := 6) nd rfl (Or.inl rfl) (C8.pe_c c__law_far hr (by omega) (by rfl) (pa_cons (pe_ix ix_seq (pv 0) (pv 1) (fun _ _ => rfl)) (pa_cons (pe_ix ix_seq (pv 0) (pv 2) (fun _ _ => rfl)) (pa_cons (pe_ix ix_seq (pv 0) (pv 5) (fun _ _ => rfl)) pa_nil)))))
    (pss_one (ps_if ((pw_or (pt_cmpR op_isN (pv 4) pe_non (nomark _)) (pw_or1 (pt_val (C8.pe_c c__law_less hr (by omega) (by rfl) (pa_cons (pe_ix ix_seq (pv 4) pe_int (fun _ _ => rfl)) (pa_cons (pv 6) pa_nil))))))).pt (pss_one (ps_set (i := 4) nd rfl (Or.inl rfl) (pe_tup (pa_cons (pv 6) (pa_cons (pv 5) pa_nil))))) pss_nil))))
    (pss_cons (ps_if ((pw_or (pt_cmpR op_isN (pv 4) pe_non (nomark _)) (pw_or1 (pt_not (pt_val (C8.pe_c c__law_less hr (by omega) (by rfl) (pa_cons (pv 3) (pa_cons (pe_ix ix_seq (pv 4) pe_int (fun _ _ => rfl)) pa_nil)))))))).pt (pss_one (ps_ret (pe_lst pa_nil))) pss_nil)
    (pss_one (ps_ret (pe_op op_addU (pe_op op_addU (C8.pe_c c__law_kept hr (by omega) (by rfl) (pa_cons (pv 0) (pa_cons (pv 1) (pa_cons (pe_ix ix_seq (pv 4) pe_int (fun _ _ => rfl)) (pa_cons (pv 3) pa_nil))))) (pe_lst (pa_cons (pe_ix ix_seq (pv 4) pe_int (fun _ _ => rfl)) pa_nil))) (C8.pe_c c__law_kept hr (by omega) (by rfl) (pa_cons (pv 0) (pa_cons (pe_ix ix_seq (pv 4) pe_int (fun _ _ => rfl)) (pa_cons (pv 2) (pa_cons (pv 3) pa_nil)))))))))))

theorem void__law_kept : ∀ args r args', ¬ C__law_kept 0 args r args' := fun _ _ _ ⟨_, _, _, _, _, _, _, _, _, h, _⟩ => by omega
theorem len__law_kept (c : Nat) : ∀ args r args', C__law_kept c args r args' → args.length = 4 := fun _ _ _ ⟨_, _, _, _, _, _, _, _, _, _, _, _, h, _⟩ => by rw [h]; rfl
theorem kept_len (P : Ln) (e : Rat) {lo hi : Nat} : (keptQ P e lo hi).length ≤ hi := by
  obtain ⟨h1, h2⟩ := kept_in P e (hi - lo) lo hi (Nat.le_refl _)
  have h := List.Nodup.length_le_of_subset (l₁ := keptQ P e lo hi) (l₂ := List.range hi) (by rw [List.Nodup]; exact h2.imp fun h => by omega) fun i hi => List.mem_range.mpr (h1 i hi).2
  rw [List.length_range] at h
  exact h
theorem run__law_kept {K : PySem.W.Frag} (c : Nat) : BodyOk K (t__law_kept K (C__law_kept c)) 3 (C__law_kept (c + 1)) := by
  rintro args r args' ⟨n, lo, hi, P, e, hP, hn, hl, hh, hc, he, hc5, rfl, rfl, rfl⟩
  have f429 : ∀ i, Fit 429 (farI P lo hi i) := fun i => far_fit two_ok (hP _) (hP _) (hP _)
  have loop : ∀ (l : List Nat) (b : Option (Rat × Nat)) (x5 x6 : Sl), (∀ i ∈ l, i < n) → Dat x5 → Dat x6 → (∀ g j, b = some (g, j) → g = farI P lo hi j) → ∃ y5 y6, Dat y5 ∧ Dat y6 ∧
      ForRel K (gName 5) (tSeq (tAsg (tCall (spD K C__law_far) [] E0 (tCons (tOp (rIx K) (tVar 0) (tVar 1)) (tCons (tOp (rIx K) (tVar 0) (tVar 2)) (tCons (tOp (rIx K) (tVar 0) (tVar 5)) tNil)))) (gName 6))
        (tIfS (tOr (tTest (tOp (fun x y H Q => y = .non ∧ Q (.bl (decide (x = .non))) H) (tVar 4) (tC .non))) (tB (tCall (spD K C__law_less) [] E0 (tCons (tOp (rIx K) (tVar 4) (tC (.int 0))) (tCons (tVar 6) tNil))))) (tAsg (tTup (tCons (tVar 6) (tCons (tVar 5) tNil))) (gName 4)) tNext))
        (l.map fun i : Nat => PyData.int (i : Int)) [.fr (lineL n P), .fr (.int (lo : Int)), .fr (.int (hi : Int)), .fr (dR e), .fr (bestD b), x5, x6] (.nx [.fr (lineL n P), .fr (.int (lo : Int)), .fr (.int (hi : Int)), .fr (dR e), .fr (bestD (l.foldl (bestStep (farI P lo hi)) b)), y5, y6]) := by
    intro l
    induction l with
    | nil => exact fun b x5 x6 _ d5 d6 _ => ⟨x5, x6, d5, d6, .nil⟩
    | cons i l ih =>
      intro b x5 x6 hil d5 d6 hb
      have hin : i < n := hil i List.mem_cons_self
      have hb' : ∀ g j, bestStep (farI P lo hi) b i = some (g, j) → g = farI P lo hi j := by
        intro g j h
        unfold bestStep at h
        split at h
        · cases h
          rfl
        · split at h
          · cases h
            rfl
          · cases h
            exact hb _ _ rfl
      obtain ⟨y5, y6, z5, z6, q⟩ := ih (bestStep (farI P lo hi) b i) (.fr (.int (i : Int))) (.fr (dR (farI P lo hi i))) (fun i hi => hil i (List.mem_cons_of_mem _ hi)) trivial trivial hb'
      refine ⟨y5, y6, z5, z6, .go (δb := [.fr (lineL n P), .fr (.int (lo : Int)), .fr (.int (hi : Int)), .fr (dR e), .fr (bestD b), .fr (.int (i : Int)), x6]) (bj_name (np_at rfl d5)) ?_ q⟩
      apply q_set (d := dR (farI P lo hi i))
      · apply ev_callP
        · apply ea_cons
          · exact ev_op (ev_var rfl) (ev_var rfl) (od_ix rfl (line_at (by omega)))
          · apply ea_cons
            · exact ev_op (ev_var rfl) (ev_var rfl) (od_ix rfl (line_at hh))
            · apply ea_cons
              · exact ev_op (ev_var rfl) (ev_var rfl) (od_ix rfl (line_at hin))
              · exact ea_nil
        · rfl
        · exact ⟨2, P lo, P hi, P i, two_ok, hP _, hP _, hP _, rfl, rfl⟩
      · exact np_at rfl d6
      show StJ K _ [.fr (lineL n P), .fr (.int (lo : Int)), .fr (.int (hi : Int)), .fr (dR e), .fr (bestD b), .fr (.int (i : Int)), .fr (dR (farI P lo hi i))] _
      have fin : StJ K (tAsg (tTup (tCons (tVar 6) (tCons (tVar 5) tNil))) (gName 4)) [.fr (lineL n P), .fr (.int (lo : Int)), .fr (.int (hi : Int)), .fr (dR e), .fr (bestD b), .fr (.int (i : Int)), .fr (dR (farI P lo hi i))] (.nx [.fr (lineL n P), .fr (.int (lo : Int)), .fr (.int (hi : Int)), .fr (dR e), .fr (bestD (some (farI P lo hi i, i))), .fr (.int (i : Int)), .fr (dR (farI P lo hi i))]) := by
        apply q_set1' (d := .tuple [dR (farI P lo hi i), .int (i : Int)])
        · walk_at "ev"
        · exact np_at rfl trivial
        · rfl
      cases hbb : b with
      | none =>
        rw [hbb] at fin
        apply st_if (b := true)
        · refine tt_orC (a := true) (b := false) (tt_test (ev_op (ev_var rfl) ev_non (od_isN (d := .none)))) (fun z => nomatch z)
        · exact fun _ => fin
        · exact fun z => nomatch z
      | some gj =>
        obtain ⟨g, j⟩ := gj
        have hg := hb g j hbb
        rw [hbb] at fin
        apply st_if (b := false || decide (g < farI P lo hi i))
        · refine tt_orP (tt_test (ev_op (ev_var rfl) ev_non (od_isN (d := .tuple [dR g, .int (j : Int)])))) ?_
          apply tt_B
          apply ev__law_less
          · apply ea_cons
            · exact ev_op (ev_var (d := .tuple [dR g, .int (j : Int)]) rfl) ev_int (od_ix rfl rfl)
            · exact ea_cons (ev_var rfl) ea_nil
          · rw [hg]
            exact ⟨429, 429, f429 _, f429 _, by decide⟩
        · intro z
          have c : g < farI P lo hi i := of_decide_eq_true z
          have s : bestStep (farI P lo hi) (some (g, j)) i = some (farI P lo hi i, i) := if_pos c
          rw [s]
          exact fin
        · intro z
          have c : ¬ g < farI P lo hi i := of_decide_eq_false z
          have s : bestStep (farI P lo hi) (some (g, j)) i = some (g, j) := if_neg c
          rw [s]
          exact st_next
  obtain ⟨y5, y6, z5, z6, q⟩ := loop ((List.range (hi - (lo + 1))).map fun i => lo + 1 + i) none .no .no (fun i hi' => by
    obtain ⟨k, hk, rfl⟩ := List.mem_map.mp hi'
    have := List.mem_range.mp hk
    omega) trivial trivial (fun _ _ z => nomatch z)
  let B := bestQ (farI P lo hi) lo hi
  let δ' : List Sl := [.fr (lineL n P), .fr (.int (lo : Int)), .fr (.int (hi : Int)), .fr (dR e), .fr (bestD B), y5, y6]
  refine ⟨fun i o h => fr_noob (ds := [lineL n P, .int (lo : Int), .int (hi : Int), dR e]) i true o h, δ', .inl ?_, Nat.le_of_ble_eq_true rfl, rfl⟩
  show StJ K _ [.fr (lineL n P), .fr (.int (lo : Int)), .fr (.int (hi : Int)), .fr (dR e), .no, .no, .no] _
  apply q_set
  · exact ev_non
  · walk_at "np"
  apply q_for
  · apply src_rng2
    · walk_at "ev"
    · omega
    · omega
    · omega
    · omega
  · rw [rngD_map, show ((hi : Int) - ((lo : Int) + 1)).toNat = hi - (lo + 1) by omega]
    exact q
  show StJ K _ δ' _
  have hk := kept_eq P e lo hi
  cases hB : bestQ (farI P lo hi) lo hi with
  | none =>
    rw [hB] at hk
    have eB : B = none := hB
    have hk' : keptQ P e lo hi = [] := hk
    rw [hk']
    apply st_ifq (b := true)
    · refine tt_orC (a := true) (b := false) (tt_test (ev_op (ev_var (d := bestD B) rfl) ev_non ?_)) (fun z => nomatch z)
      rw [eB]
      exact od_isN (d := .none)
    · intro _
      exact q_retq (ev_lst' ea_nil rfl (Nat.zero_le _)) rfl
    · intro z
      cases z
  | some gm =>
    obtain ⟨g, m⟩ := gm
    obtain ⟨e1, b1, b2, _⟩ := best_some hB
    have eB : bestD B = .tuple [dR g, .int (m : Int)] := congrArg bestD hB
    have fg : Fit 429 g := by
      rw [e1]
      exact f429 m
    have v4 : EvJ K (tVar 4) δ' (.fr (.tuple [dR g, .int (m : Int)])) δ' := by
      rw [← eB]
      exact ev_var rfl
    rw [hB] at hk
    apply st_ifq (b := false || !decide (e < g))
    · refine tt_orP (tt_test (ev_op v4 ev_non (od_isN (d := .tuple [dR g, .int (m : Int)])))) (tt_not (tt_B ?_))
      apply ev__law_less
      · apply ea_cons
        · exact ev_var rfl
        · exact ea_cons (ev_op v4 ev_int (od_ix rfl rfl)) ea_nil
      · exact ⟨20, 429, he, fg, by decide⟩
    · intro z
      have c0 : ¬ e < g := by
        have z' : (!decide (e < g)) = true := z
        simpa using z'
      have hk' : keptQ P e lo hi = [] := hk.trans (if_neg c0)
      rw [hk']
      exact q_retq (ev_lst' ea_nil rfl (Nat.zero_le _)) rfl
    · intro z
      have c0 : e < g := by
        have z' : (!decide (e < g)) = false := z
        simpa using z'
      have hk' : keptQ P e lo hi = keptQ P e lo m ++ [m] ++ keptQ P e m hi := hk.trans (if_pos c0)
      rw [hk', List.map_append, List.map_append]
      apply st_nextq
      have m1 : EvJ K (tOp (rIx K) (tVar 4) (tC (.int 1))) δ' (.fr (.int (m : Int))) δ' := ev_op v4 ev_int (od_ix rfl rfl)
      have l1 := kept_len P e (lo := lo) (hi := m)
      have l2 := kept_len P e (lo := m) (hi := hi)
      apply q_ret
      · apply ev_op
        · apply ev_op
          · apply ev_callF (δ1 := δ') (ds := [lineL n P, .int (lo : Int), .int (m : Int), dR e])
            · exact ea_cons (ev_var rfl) (ea_cons (ev_var rfl) (ea_cons m1 (ea_cons (ev_var rfl) ea_nil)))
            · rfl
            · exact ⟨n, lo, m, P, e, hP, hn, b1, by omega, by omega, he, by omega, rfl, rfl, rfl⟩
            · rfl
          · exact ev_lst' (ea_cons m1 ea_nil) rfl (Nat.le_of_ble_eq_true rfl)
          · refine od_catL rfl rfl ?_
            rw [List.length_map]
            exact Nat.le_trans (show _ ≤ 101 by show (keptQ P e lo m).length + 1 ≤ 101; omega) (by decide)
        · apply ev_callF (δ1 := δ') (ds := [lineL n P, .int (m : Int), .int (hi : Int), dR e])
          · exact ea_cons (ev_var rfl) (ea_cons m1 (ea_cons (ev_var rfl) (ea_cons (ev_var rfl) ea_nil)))
          · rfl
          · exact ⟨n, m, hi, P, e, hP, hn, b2, hh, by omega, he, by omega, rfl, rfl, rfl⟩
          · rfl
        · refine od_catL rfl rfl ?_
          rw [List.length_append, List.length_map, List.length_map]
          exact Nat.le_trans (show _ ≤ 202 by show (keptQ P e lo m).length + 1 + (keptQ P e m hi).length ≤ 202; omega) (by decide)
      · rfl
theorem ok__law_kept {P : Program} {w : World} {K : PySem.W.Frag} {mg : Str → Option Value} {base : Heap} (B : Blt mg) (Df : DefAt K mg "_law_kept" s__law_kept ["_law_line", "_law_low", "_law_high", "_law_e"]) (c__law_far : C8.Cal P w K mg base 4 "_law_far" (spD K C__law_far) []) (c__law_less : C8.Cal P w K mg base 1 "_law_less" (spD K C__law_less) []) : ∀ n : Nat, C8.Cal P w K mg base (4 + n + 1) "_law_kept" (spD K (C__law_kept n)) []
  | 0 => cal_void Df sc__law_kept void__law_kept
  | n + 1 => cal_of Df sc__law_kept (len__law_kept (n + 1)) rfl fun f cdv A outer s H E hr => ⟨t__law_kept K (C__law_kept n), tm__law_kept B (L := 4 + n + 1) (by omega) c__law_far c__law_less (ok__law_kept B Df c__law_far c__law_less n) hr, run__law_kept n⟩

/-! ### _law_curve -/
def F__law_curve (ds : List D) (d : D) : Prop := ∃ (v : Cv) (M N : Int), CvOk v ∧ TOk M N ∧ ds = [cvD v, dR ((M : Rat) / (N : Rat))] ∧ d = ptD (v.at ((M : Rat) / (N : Rat)))
abbrev C__law_curve : Con := CP F__law_curve
/-! _law_curve: slots 0 _law_curve_here, 1 _law_t, 2 _law_rest, 3 _law_shares, 4 _law_x, 5 _law_y, 6 _law_k -/
abbrev s__law_curve : Stmt := topS 43
theorem sc__law_curve : FnScope ["_law_curve_here", "_law_t", "_law_rest", "_law_shares", "_law_x", "_law_y", "_law_k"] ["_law_curve_here", "_law_t"] (defScope s__law_curve) := ⟨rfl, rfl, rfl, by decide +kernel, rfl, by decide +kernel, by decide +kernel⟩
def t__law_curve (K : PySem.W.Frag) : TS :=
  (tSeq (tAsg (tCall (spD K C__law_gap) [] E0 (tCons (tTup (tCons (tC (.int 1)) (tCons (tC (.int 1)) tNil))) (tCons (tVar 1) tNil))) (gName 2))
    (tSeq (tAsg (tLst (tCons (tCall (spD K C__law_product) [] E0 (tCons (tVar 2) (tCons (tVar 2) tNil))) (tCons (tCall (spD K C__law_product) [] E0 (tCons (tTup (tCons (tC (.int 2)) (tCons (tC (.int 1)) tNil))) (tCons (tCall (spD K C__law_product) [] E0 (tCons (tVar 1) (tCons (tVar 2) tNil))) tNil))) (tCons (tCall (spD K C__law_product) [] E0 (tCons (tVar 1) (tCons (tVar 1) tNil))) tNil)))) (gName 3))
    (tSeq (tAsg (tTup (tCons (tC (.int 0)) (tCons (tC (.int 1)) tNil))) (gName 4))
    (tSeq (tAsg (tTup (tCons (tC (.int 0)) (tCons (tC (.int 1)) tNil))) (gName 5))
    (tSeq (tFor (iRng1 (tCons (tC (.int 3)) tNil)) (gName 6) (tSeq (tAsg (tCall (spD K C__law_sum) [] E0 (tCons (tVar 4) (tCons (tCall (spD K C__law_product) [] E0 (tCons (tOp (rIx K) (tVar 3) (tVar 6)) (tCons (tOp (rIx K) (tOp (rIx K) (tVar 0) (tVar 6)) (tC (.int 0))) tNil))) tNil))) (gName 4))
    (tAsg (tCall (spD K C__law_sum) [] E0 (tCons (tVar 5) (tCons (tCall (spD K C__law_product) [] E0 (tCons (tOp (rIx K) (tVar 3) (tVar 6)) (tCons (tOp (rIx K) (tOp (rIx K) (tVar 0) (tVar 6)) (tC (.int 1))) tNil))) tNil))) (gName 5))))
    (tRet (tTup (tCons (tVar 4) (tCons (tVar 5) tNil)))))))))
theorem tm__law_curve {P : Program} {w : World} {K : PySem.W.Frag} {mg : Str → Option Value} {base : Heap} (B : Blt mg) (c__law_gap : C8.Cal P w K mg base 2 "_law_gap" (spD K C__law_gap) []) (c__law_product : C8.Cal P w K mg base 2 "_law_product" (spD K C__law_product) []) (c__law_sum : C8.Cal P w K mg base 2 "_law_sum" (spD K C__law_sum) []) {f : Addr} {cdv : Value} {A : Around} {outer : List Env} {s : Shared} {H : Hp} {E : XK} (hr : Room 2 (A.deeper (envOfC "_law_curve" (defScope s__law_curve) s.heap.objs.size f cdv))) :
    PSs (cxOf CX0 P w K mg base ["_law_curve_here", "_law_t", "_law_rest", "_law_shares", "_law_x", "_law_y", "_law_k"] "_law_curve" (defScope s__law_curve) f cdv A outer s H E).nox (defBody s__law_curve) (t__law_curve K) := by
  have nd := sc__law_curve.nd
  exact (pss_cons (ps_set (i := 2) nd rfl (Or.inl rfl) (C8.pe_c c__law_gap hr (by omega) (by rfl) (pa_cons (pe_tup (pa_cons pe_int (pa_cons pe_int pa_nil))) (pa_cons (pv 1) pa_nil))))
    (pss_cons (ps_set (i := 3) nd rfl (Or.inl rfl) (pe_lst (pa_cons (C8.pe_c c__law_product hr (by omega) (by rfl) (pa_cons (pv 2) (pa_cons (pv 2) pa_nil))) (pa_cons (C8.pe_c c__law_product hr (by omega) (by rfl) (pa_cons (pe_tup (pa_cons pe_int (pa_cons pe_int pa_nil))) (pa_cons (C8.pe_c c__law_product hr (by omega) (by rfl) (pa_cons (pv 1) (pa_cons (pv 2) pa_nil))) pa_nil))) (pa_cons (C8.pe_c c__law_product hr (by omega) (by rfl) (pa_cons (pv 1) (pa_cons (pv 1) pa_nil))) pa_nil)))))
    (pss_cons (ps_set (i := 4) nd rfl (Or.inl rfl) (pe_tup (pa_cons pe_int (pa_cons pe_int pa_nil))))
    (pss_cons (ps_set (i := 5) nd rfl (Or.inl rfl) (pe_tup (pa_cons pe_int (pa_cons pe_int pa_nil))))
    (pss_cons (ps_for PassesOwn.never rfl (pi_range1 (by rfl) B.range_ (pa_cons pe_int pa_nil)) (pg_name (i := 6) nd rfl (Or.inl rfl)) (pss_cons (ps_set (i := 4) nd rfl (Or.inl rfl) (C8.pe_c c__law_sum hr (by omega) (by rfl) (pa_cons (pv 4) (pa_cons (C8.pe_c c__law_product hr (by omega) (by rfl) (pa_cons (pe_ix ix_seq (pv 3) (pv 6) (fun _ _ => rfl)) (pa_cons (pe_ix ix_seq (pe_ix ix_seq (pv 0) (pv 6) (fun _ _ => rfl)) pe_int (fun _ _ => rfl)) pa_nil))) pa_nil))))
    (pss_one (ps_set (i := 5) nd rfl (Or.inl rfl) (C8.pe_c c__law_sum hr (by omega) (by rfl) (pa_cons (pv 5) (pa_cons (C8.pe_c c__law_product hr (by omega) (by rfl) (pa_cons (pe_ix ix_seq (pv 3) (pv 6) (fun _ _ => rfl)) (pa_cons (pe_ix ix_seq (pe_ix ix_seq (pv 0) (pv 6) (fun _ _ => rfl)) pe_int (fun _ _ => rfl)) pa_nil))) pa_nil)))))))
    (pss_one (ps_ret (pe_tup (pa_cons (pv 4) (pa_cons (pv 5) pa_nil))))))))))

theorem run__law_curve {K : PySem.W.Frag} : BodyOk K (t__law_curve K) 5 C__law_curve := by
  refine body_pure ?_
  rintro ds d ⟨v, M, N, hv, hT, rfl, rfl⟩
  have ft := t_fit hT
  generalize (M : Rat) / (N : Rat) = t at *
  have fr : Fit 9 (1 - t) := fit1.sub ft
  have f0 : Fit 18 ((1 - t) * (1 - t)) := fr.mul fr
  have f1 : Fit 18 (2 * (t * (1 - t))) := fit2.mul (ft.mul fr)
  have f2 : Fit 18 (t * t) := (ft.mul ft).mono (by decide)
  let sh : List D := [dR ((1 - t) * (1 - t)), dR (2 * (t * (1 - t))), dR (t * t)]
  have ga := hv.1.fit two_ok
  have gc := hv.2.1.fit two_ok
  have gb := hv.2.2.fit two_ok
  have turn : ∀ (k : Nat) (s : Rat) (p q : Pt) (x6 : Sl), Fit 18 s → FitP 17 p → FitP (37 * k + 1) q → k ≤ 3 → atI sh (k : Int) = some (dR s) → atI [ptD v.a, ptD v.c, ptD v.b] (k : Int) = some (ptD p) → Dat x6 → ∃ δb, BindJ K (gName 6) (.int (k : Int)) [.fr (cvD v), .fr (dR t), .fr (dR (1 - t)), .ob true (.L sh), .fr (dR q.x), .fr (dR q.y), x6] δb ∧
      StJ K (tSeq (tAsg (tCall (spD K C__law_sum) [] E0 (tCons (tVar 4) (tCons (tCall (spD K C__law_product) [] E0 (tCons (tOp (rIx K) (tVar 3) (tVar 6)) (tCons (tOp (rIx K) (tOp (rIx K) (tVar 0) (tVar 6)) (tC (.int 0))) tNil))) tNil))) (gName 4))
        (tAsg (tCall (spD K C__law_sum) [] E0 (tCons (tVar 5) (tCons (tCall (spD K C__law_product) [] E0 (tCons (tOp (rIx K) (tVar 3) (tVar 6)) (tCons (tOp (rIx K) (tOp (rIx K) (tVar 0) (tVar 6)) (tC (.int 1))) tNil))) tNil))) (gName 5))) δb
        (.nx [.fr (cvD v), .fr (dR t), .fr (dR (1 - t)), .ob true (.L sh), .fr (dR (q.x + s * p.x)), .fr (dR (q.y + s * p.y)), .fr (.int (k : Int))]) := by
    intro k s p q x6 hs hp hq hk i1 i2 d6
    refine ⟨[.fr (cvD v), .fr (dR t), .fr (dR (1 - t)), .ob true (.L sh), .fr (dR q.x), .fr (dR q.y), .fr (.int (k : Int))], bj_name (np_at rfl d6), ?_⟩
    apply q_set (d := dR (q.x + s * p.x))
    · apply ev__law_sum
      · apply ea_cons
        · exact ev_var rfl
        · apply ea_cons
          · apply ev__law_product (a := s) (b := p.x)
            · exact ea_cons (ev_op (ev_varO rfl) (ev_var rfl) (od_ix rfl i1)) (ea_cons (ev_op (ev_op (ev_var rfl) (ev_var rfl) (od_ix rfl i2)) ev_int (od_ix rfl rfl)) ea_nil)
            · exact ⟨18, 17, hs, hp.1, by decide⟩
          · exact ea_nil
      · exact ⟨37 * k + 1, 35, hq.1, hs.mul hp.1, by omega⟩
    · walk_at "np"
    apply q_set1' (d := dR (q.y + s * p.y))
    · apply ev__law_sum
      · apply ea_cons
        · exact ev_var rfl
        · apply ea_cons
          · apply ev__law_product (a := s) (b := p.y)
            · exact ea_cons (ev_op (ev_varO rfl) (ev_var rfl) (od_ix rfl i1)) (ea_cons (ev_op (ev_op (ev_var rfl) (ev_var rfl) (od_ix rfl i2)) ev_int (od_ix rfl rfl)) ea_nil)
            · exact ⟨18, 17, hs, hp.2, by decide⟩
          · exact ea_nil
      · exact ⟨37 * k + 1, 35, hq.2, hs.mul hp.2, by omega⟩
    · walk_at "np"
    · rfl
  obtain ⟨δ1, b1, t1⟩ := turn 0 ((1 - t) * (1 - t)) v.a ⟨0, 0⟩ .no f0 ga ⟨fit0, fit0⟩ (by decide) rfl rfl trivial
  obtain ⟨δ2, b2, t2⟩ := turn 1 (2 * (t * (1 - t))) v.c ⟨0 + (1 - t) * (1 - t) * v.a.x, 0 + (1 - t) * (1 - t) * v.a.y⟩ (.fr (.int 0)) f1 gc ⟨(fit0.add (f0.mul ga.1)).mono (by decide), (fit0.add (f0.mul ga.2)).mono (by decide)⟩ (by decide) rfl rfl trivial
  obtain ⟨δ3, b3, t3⟩ := turn 2 (t * t) v.b ⟨0 + (1 - t) * (1 - t) * v.a.x + 2 * (t * (1 - t)) * v.c.x, 0 + (1 - t) * (1 - t) * v.a.y + 2 * (t * (1 - t)) * v.c.y⟩ (.fr (.int 1)) f2 gb ⟨((fit0.add (f0.mul ga.1)).add (f1.mul gc.1)).mono (by decide), ((fit0.add (f0.mul ga.2)).add (f1.mul gc.2)).mono (by decide)⟩ (by decide) rfl rfl trivial
  refine ⟨[.fr (cvD v), .fr (dR t), .fr (dR (1 - t)), .ob true (.L sh), .fr (dR (v.at t).x), .fr (dR (v.at t).y), .fr (.int 2)], ?_, Nat.le_of_ble_eq_true rfl⟩
  show StJ K (t__law_curve K) [.fr (cvD v), .fr (dR t), .no, .no, .no, .no, .no] _
  have e1 : ∀ δ : List Sl, EvJ K (tTup (tCons (tC (.int 1)) (tCons (tC (.int 1)) tNil))) δ (.fr (dR 1)) δ := fun δ => by
    show EvJ K _ _ (.fr (.tuple [.int 1, .int 1])) _
    walk_at "ev"
  have e2 : ∀ δ : List Sl, EvJ K (tTup (tCons (tC (.int 2)) (tCons (tC (.int 1)) tNil))) δ (.fr (dR 2)) δ := fun δ => by
    show EvJ K _ _ (.fr (.tuple [.int 2, .int 1])) _
    walk_at "ev"
  have e0 : ∀ δ : List Sl, EvJ K (tTup (tCons (tC (.int 0)) (tCons (tC (.int 1)) tNil))) δ (.fr (dR 0)) δ := fun δ => by
    show EvJ K _ _ (.fr (.tuple [.int 0, .int 1])) _
    walk_at "ev"
  apply q_set (d := dR (1 - t))
  · apply ev__law_gap
    · exact ea_cons (e1 _) (ea_cons (ev_var rfl) ea_nil)
    · exact ⟨1, 7, fit1, ft, by decide⟩
  · walk_at "np"
  apply q_setN (o := .L sh)
  · apply ev_lst'
    · apply ea_cons
      · walk_at "ev"
        exact ⟨9, 9, fr, fr, by decide⟩
      · apply ea_cons
        · apply ev__law_product
          · apply ea_cons
            · exact e2 _
            · walk_at "ev"
              exact ⟨7, 9, ft, fr, by decide⟩
          · exact ⟨2, 16, fit2, ft.mul fr, by decide⟩
        · walk_at "ev"
          exact ⟨7, 7, ft, ft, by decide⟩
    · rfl
    · exact Nat.le_of_ble_eq_true rfl
  · exact Nat.le_of_ble_eq_true rfl
  · walk_at "np"
  apply q_set (d := dR 0)
  · exact e0 _
  · walk_at "np"
  apply q_set (d := dR 0)
  · exact e0 _
  · walk_at "np"
  apply q_for
  · apply src_rng1
    · walk_at "ev"
    · decide
    · decide
  · exact .go b1 t1 (.go b2 t2 (.go b3 t3 .nil))
  apply q_ret (r := .fr (.tuple [dR (v.at t).x, dR (v.at t).y]))
  · walk_at "ev"
  · rfl
theorem len__law_curve : ∀ args r args', C__law_curve args r args' → args.length = 2 := lenP fun ds d ⟨_, _, _, _, _, h, _⟩ => by rw [h]; rfl
theorem ok__law_curve {P : Program} {w : World} {K : PySem.W.Frag} {mg : Str → Option Value} {base : Heap} (B : Blt mg) (Df : DefAt K mg "_law_curve" s__law_curve ["_law_curve_here", "_law_t"]) (c__law_gap : C8.Cal P w K mg base 2 "_law_gap" (spD K C__law_gap) []) (c__law_product : C8.Cal P w K mg base 2 "_law_product" (spD K C__law_product) []) (c__law_sum : C8.Cal P w K mg base 2 "_law_sum" (spD K C__law_sum) []) : C8.Cal P w K mg base 3 "_law_curve" (spD K C__law_curve) [] :=
  cal_of Df sc__law_curve len__law_curve rfl fun f cdv A outer s H E hr => ⟨t__law_curve K, tm__law_curve B c__law_gap c__law_product c__law_sum hr, run__law_curve⟩


end DL
namespace DL
open PySem PySem.Spec PyProof.Rows L2
local macro_rules | `(tactic| walk_at "len") => `(tactic| exact Nat.le_of_ble_eq_true rfl)
local macro_rules | `(tactic| walk_at "np") => `(tactic| (intro o z; cases z))
local macro_rules | `(tactic| walk_at "od") => `(tactic| first
  | exact od_addI | exact od_subI | exact od_subB | exact od_I0b | exact od_I0
  | exact od_ix rfl rfl | exact od_eq rfl rfl rfl rfl | exact od_ne rfl rfl rfl rfl | exact od_isN | exact od_notN
  | with_reducible apply od_mulI | with_reducible apply od_I | exact ud_I)
local macro_rules | `(tactic| walk_at "cd") => `(tactic| first
  | exact cd_len rfl | exact cd_abs | exact cd_int | exact cd_intB | exact cd_gcd | exact cd_tup rfl | exact cd_lst rfl)
local macro_rules | `(tactic| walk_at "ev1") => `(tactic| first
  | exact ev_int | exact ev_bl | exact ev_str | exact ev_non | exact ev_var rfl | exact ev_varO rfl
  | with_reducible apply ev_op | with_reducible apply ev_un
  | exact ea_nil | with_reducible apply ea_cons
  | with_reducible apply ev_isi | with_reducible apply ev_dget
  | with_reducible apply ev_cb
  | with_reducible apply ev_tup' | with_reducible apply ev_lstF
  | with_reducible apply tt_test | with_reducible apply tt_B | with_reducible apply tt_not
  | walk_at "od" | walk_at "cd" | walk_at "len" | rfl)
local macro_rules | `(tactic| walk_at "ev") => `(tactic| repeat' walk_at "ev1")
local macro_rules | `(tactic| walk_at "set") => `(tactic| (with_reducible apply q_set; rotate_left; walk_at "np"; rotate_left; walk_at "ev"))

local macro_rules | `(tactic| walk_at "ev1") => `(tactic| first
  | with_reducible apply ev_plus | with_reducible apply ev_minus | with_reducible apply ev_times | with_reducible apply ev_over | with_reducible apply ev_compare | with_reducible apply ev_fraction)

local macro_rules | `(tactic| walk_at "ev1") => `(tactic| first
  | with_reducible apply ev_gap | with_reducible apply ev_cross | with_reducible apply ev_dot | with_reducible apply ev_compare_points)

local macro_rules | `(tactic| walk_at "ev1") => `(tactic| first
  | with_reducible apply ev__law_sum | with_reducible apply ev__law_gap | with_reducible apply ev__law_product | with_reducible apply ev__law_part | with_reducible apply ev__law_less | with_reducible apply ev__law_cut)

/-! ### the area under the line -/
def totQ (v : Cv) (n j : Rat) : Rat := crossQ (gapQ v.a v.c) (gapQ v.a v.b) * (2 * (j - 1) * j * (j + 1) / (3 * (n * n * n)))
theorem tot_step (v : Cv) {n j : Rat} (hn : n ≠ 0) : totQ v n j + crossQ (gapQ (v.at (0 / n)) (v.at (j / n))) (gapQ (v.at (0 / n)) (v.at ((j + 1) / n))) = totQ v n (j + 1) := by
  unfold totQ crossQ gapQ Cv.at curveQ
  grind
theorem tot_end (v : Cv) {n : Int} (hn : 0 < n) : totQ v n n * (1 / 2) = sweepQ v * Rat.divInt (n * n - 1) (n * n) := by
  unfold totQ sweepQ
  rw [Rat.divInt_eq_div, Rat.divInt_eq_div]
  have h : (n : Rat) ≠ 0 := fun z => by
    have : n = 0 := by exact_mod_cast z
    omega
  simp only [Rat.intCast_mul, Rat.intCast_sub, Rat.intCast_ofNat, Rat.intCast_one]
  grind
theorem tot_one (v : Cv) (n : Rat) : totQ v n 1 = 0 := by
  unfold totQ
  grind
theorem cross_half (a1 a2 b1 b2 c1 c2 : Int) : ((c1 : Rat) / ((2 : Int) : Rat) - (a1 : Rat) / ((2 : Int) : Rat)) * ((b2 : Rat) / ((2 : Int) : Rat) - (a2 : Rat) / ((2 : Int) : Rat)) - ((c2 : Rat) / ((2 : Int) : Rat) - (a2 : Rat) / ((2 : Int) : Rat)) * ((b1 : Rat) / ((2 : Int) : Rat) - (a1 : Rat) / ((2 : Int) : Rat)) = (((c1 - a1) * (b2 - a2) - (c2 - a2) * (b1 - a1) : Int) : Rat) / 4 := by
  simp only [Rat.intCast_mul, Rat.intCast_sub, Rat.intCast_ofNat]
  grind
theorem tot_shape (I J N x y : Rat) (hN : N ≠ 0) (hx : x = 2 * J) (hy : y = 3 * N) : I / 4 * (x / y) = I * J / (6 * N) := by
  subst hx hy
  grind
theorem cross_small {v : Cv} (hv : CvOk v) : ∃ I : Int, I.natAbs < 2 ^ 11 ∧ crossQ (gapQ v.a v.c) (gapQ v.a v.b) = (I : Rat) / 4 := by
  obtain ⟨⟨⟨a1, e1, l1, u1⟩, ⟨a2, e2, l2, u2⟩⟩, ⟨⟨c1, g1, m1, w1⟩, ⟨c2, g2, m2, w2⟩⟩, ⟨⟨b1, f1, k1, v1⟩, ⟨b2, f2, k2, v2⟩⟩⟩ := hv
  have small : ∀ u v : Int, u.natAbs < 2 ^ 5 → v.natAbs < 2 ^ 5 → (u * v).natAbs < 2 ^ 10 := fun u v hu hv => by
    rw [Int.natAbs_mul]
    exact pow_split (n := 5) (m := 5) hu hv
  have s1 := small (c1 - a1) (b2 - a2) (by omega) (by omega)
  have s2 := small (c2 - a2) (b1 - a1) (by omega) (by omega)
  refine ⟨(c1 - a1) * (b2 - a2) - (c2 - a2) * (b1 - a1), by omega, ?_⟩
  unfold crossQ gapQ
  rw [e1, e2, f1, f2, g1, g2]
  exact cross_half a1 a2 b1 b2 c1 c2
theorem tot_fit {v : Cv} (hv : CvOk v) {n j : Nat} (hn : 0 < n) (hn2 : n ≤ 12) (hj : 1 ≤ j) (hj2 : j ≤ 12) : Fit 30 (totQ v ((n : Int) : Rat) ((j : Int) : Rat)) := by
  obtain ⟨I, hI, hX⟩ := cross_small hv
  have hJ : (((j : Int) - 1) * j * (j + 1)).natAbs < 2 ^ 12 := by
    rw [Int.natAbs_mul]
    refine pow_split (n := 8) (m := 4) ?_ (by omega)
    rw [Int.natAbs_mul]
    exact pow_split (n := 4) (m := 4) (by omega) (by omega)
  have hN : 0 < (n : Int) * n * n := Int.mul_pos (Int.mul_pos (by omega) (by omega)) (by omega)
  have hN2 : ((n : Int) * n * n).natAbs < 2 ^ 12 := by
    rw [Int.natAbs_mul]
    refine pow_split (n := 8) (m := 4) ?_ (by omega)
    rw [Int.natAbs_mul]
    exact pow_split (n := 4) (m := 4) (by omega) (by omega)
  have hIJ := pow_split (n := 11) (m := 12) hI hJ
  rw [← Int.natAbs_mul] at hIJ
  have e : totQ v ((n : Int) : Rat) ((j : Int) : Rat) = ((I * (((j : Int) - 1) * j * (j + 1)) : Int) : Rat) / ((6 * ((n : Int) * n * n) : Int) : Rat) := by
    have h : (((n : Int) * n * n : Int) : Rat) ≠ 0 := fun z => by
      have : (n : Int) * n * n = 0 := by exact_mod_cast z
      omega
    have c1 : ((I * (((j : Int) - 1) * j * (j + 1)) : Int) : Rat) = (I : Rat) * ((((j : Int) - 1) * j * (j + 1) : Int) : Rat) := Rat.intCast_mul _ _
    have c2 : ((6 * ((n : Int) * n * n) : Int) : Rat) = 6 * (((n : Int) * n * n : Int) : Rat) := Rat.intCast_mul _ _
    unfold totQ
    rw [hX, c1, c2]
    refine tot_shape _ _ _ _ _ h ?_ ?_
    · simp only [Rat.intCast_mul, Rat.intCast_sub, Rat.intCast_add, Rat.intCast_one]
      grind
    · simp only [Rat.intCast_mul]
  rw [e]
  exact fit_div (by omega) (by omega) (by omega)
def F__law_under (ds : List D) (d : D) : Prop := ∃ (v : Cv) (n : Nat), CvOk v ∧ 0 < n ∧ n ≤ 12 ∧ ds = [flatD v n] ∧ d = dR (sweepQ v * Rat.divInt ((n : Int) * n - 1) ((n : Int) * n))
abbrev C__law_under : Con := CP F__law_under
/-! _law_under: slots 0 _law_line, 1 _law_total, 2 _law_k -/
abbrev s__law_under : Stmt := topS 44
theorem sc__law_under : FnScope ["_law_line", "_law_total", "_law_k"] ["_law_line"] (defScope s__law_under) := ⟨rfl, rfl, rfl, by decide +kernel, rfl, by decide +kernel, by decide +kernel⟩
def t__law_under (K : PySem.W.Frag) : TS :=
  (tSeq (tAsg (tTup (tCons (tC (.int 0)) (tCons (tC (.int 1)) tNil))) (gName 1))
    (tSeq (tFor (iRng2 (tCons (tC (.int 1)) (tCons (tOp rSubU (tCB (rLenU K) (tCons (tVar 0) tNil)) (tC (.int 1))) tNil))) (gName 2) (tAsg (tCall (spD K C__law_sum) [] E0 (tCons (tVar 1) (tCons (tCall (spD K C__law_cross) [] E0 (tCons (tOp (rIx K) (tVar 0) (tC (.int 0))) (tCons (tOp (rIx K) (tVar 0) (tVar 2)) (tCons (tOp (rIx K) (tVar 0) (tOp (rAddU K) (tVar 2) (tC (.int 1)))) tNil)))) tNil))) (gName 1)))
    (tRet (tCall (spD K C__law_product) [] E0 (tCons (tVar 1) (tCons (tTup (tCons (tC (.int 1)) (tCons (tC (.int 2)) tNil))) tNil))))))
theorem tm__law_under {P : Program} {w : World} {K : PySem.W.Frag} {mg : Str → Option Value} {base : Heap} (B : Blt mg) (c__law_product : C8.Cal P w K mg base 2 "_law_product" (spD K C__law_product) []) (c__law_sum : C8.Cal P w K mg base 2 "_law_sum" (spD K C__law_sum) []) (c__law_cross : C8.Cal P w K mg base 3 "_law_cross" (spD K C__law_cross) []) {f : Addr} {cdv : Value} {A : Around} {outer : List Env} {s : Shared} {H : Hp} {E : XK} (hr : Room 3 (A.deeper (envOfC "_law_under" (defScope s__law_under) s.heap.objs.size f cdv))) :
    PSs (cxOf CX0 P w K mg base ["_law_line", "_law_total", "_law_k"] "_law_under" (defScope s__law_under) f cdv A outer s H E).nox (defBody s__law_under) (t__law_under K) := by
  have nd := sc__law_under.nd
  exact (pss_cons (ps_set (i := 1) nd rfl (Or.inl rfl) (pe_tup (pa_cons pe_int (pa_cons pe_int pa_nil))))
    (pss_cons (ps_for PassesOwn.never rfl (pi_range2 (by rfl) B.range_ (pa_cons pe_int (pa_cons (pe_op op_subU (pe_callB call_lenU (by rfl) B.len_ PySem.boot_len (pa_cons (pv 0) pa_nil)) pe_int) pa_nil))) (pg_name (i := 2) nd rfl (Or.inl rfl)) (pss_one (ps_set (i := 1) nd rfl (Or.inl rfl) (C8.pe_c c__law_sum hr (by omega) (by rfl) (pa_cons (pv 1) (pa_cons (C8.pe_c c__law_cross hr (by omega) (by rfl) (pa_cons (pe_ix ix_seq (pv 0) pe_int (fun _ _ => rfl)) (pa_cons (pe_ix ix_seq (pv 0) (pv 2) (fun _ _ => rfl)) (pa_cons (pe_ix ix_seq (pv 0) (pe_op op_addU (pv 2) pe_int) (fun _ _ => rfl)) pa_nil)))) pa_nil))))))
    (pss_one (ps_ret (C8.pe_c c__law_product hr (by omega) (by rfl) (pa_cons (pv 1) (pa_cons (pe_tup (pa_cons pe_int (pa_cons pe_int pa_nil))) pa_nil)))))))

theorem half_eq : (1 : Rat) / 2 = Rat.divInt 1 2 := (Rat.divInt_eq_div 1 2).symm
theorem dR_half : dR (1 / 2) = .tuple [.int 1, .int 2] := by
  rw [half_eq]
  rfl
theorem fit_half : Fit 2 (1 / 2) := by
  rw [half_eq]
  exact ⟨by decide, by decide⟩
theorem flat_at {v : Cv} {n k : Nat} (h : k ≤ n) : atI ((List.range (n + 1)).map fun k : Nat => ptD (v.at (((k : Int) : Rat) / ((n : Int) : Rat)))) (k : Int) = some (ptD (v.at (((k : Int) : Rat) / ((n : Int) : Rat)))) := by
  refine atI_nat ?_
  rw [List.getElem?_map, List.getElem?_range (by omega)]
  rfl
theorem flat_fit {v : Cv} {n k : Nat} (hv : CvOk v) (h0 : 0 < n) (h1 : n ≤ 12) (h : k ≤ n) : FitP 17 (v.at (((k : Int) : Rat) / ((n : Int) : Rat))) :=
  (at_grid (M := k) (N := n) hv ⟨by omega, by omega, by omega, by omega⟩).fit (grid_ok (by omega) (by omega))
theorem run__law_under {K : PySem.W.Frag} : BodyOk K (t__law_under K) 2 C__law_under := by
  refine body_pure ?_
  rintro ds d ⟨v, n, hv, h0, h1, rfl, rfl⟩
  have hn0 : ((n : Int) : Rat) ≠ 0 := fun z => by
    have : (n : Int) = 0 := by exact_mod_cast z
    omega
  have loop : ∀ (c j : Nat) (x2 : Sl), 1 ≤ j → j + c = n → Dat x2 → ∃ y2, ForRel K (gName 2) (tAsg (tCall (spD K C__law_sum) [] E0 (tCons (tVar 1) (tCons (tCall (spD K C__law_cross) [] E0 (tCons (tOp (rIx K) (tVar 0) (tC (.int 0))) (tCons (tOp (rIx K) (tVar 0) (tVar 2)) (tCons (tOp (rIx K) (tVar 0) (tOp (rAddU K) (tVar 2) (tC (.int 1)))) tNil)))) tNil))) (gName 1))
      (rngD (j : Int) c) [.fr (flatD v n), .fr (dR (totQ v ((n : Int) : Rat) ((j : Int) : Rat))), x2] (.nx [.fr (flatD v n), .fr (dR (totQ v ((n : Int) : Rat) ((n : Int) : Rat))), y2]) := by
    intro c
    induction c with
    | zero =>
      intro j x2 hj hc _
      have e : j = n := by omega
      subst e
      exact ⟨x2, .nil⟩
    | succ c ih =>
      intro j x2 hj hc d2
      obtain ⟨y2, q⟩ := ih (j + 1) (.fr (.int (j : Int))) (by omega) (by omega) trivial
      refine ⟨y2, ?_⟩
      have er : rngD (j : Int) (c + 1) = .int (j : Int) :: rngD ((j + 1 : Nat) : Int) c := by
        unfold rngD
        rw [List.range_succ_eq_map, List.map_cons, List.map_map, show (j : Int) + ((0 : Nat) : Int) = (j : Int) by omega]
        · refine congrArg (PyData.int (j : Int) :: ·) ?_
          refine List.map_congr_left fun i _ => ?_
          show PyData.int ((j : Int) + ((i + 1 : Nat) : Int)) = PyData.int (((j + 1 : Nat) : Int) + (i : Int))
          congr 1
          omega
      rw [er]
      refine .go (δb := [.fr (flatD v n), .fr (dR (totQ v ((n : Int) : Rat) ((j : Int) : Rat))), .fr (.int (j : Int))]) (bj_name (np_at rfl d2)) ?_ q
      have st := tot_step v (n := ((n : Int) : Rat)) (j := ((j : Int) : Rat)) hn0
      have ej : ((j : Int) : Rat) + 1 = (((j + 1 : Nat) : Int) : Rat) := by
        rw [Int.natCast_add, Rat.intCast_add]
        rfl
      have e00 : (0 : Rat) / ((n : Int) : Rat) = (((0 : Nat) : Int) : Rat) / ((n : Int) : Rat) := rfl
      rw [ej, e00] at st
      apply q_set1' (d := dR (totQ v ((n : Int) : Rat) (((j + 1 : Nat) : Int) : Rat)))
      · rw [← st]
        have p0 := flat_fit hv h0 h1 (Nat.zero_le n)
        have pj := flat_fit (k := j) hv h0 h1 (by omega)
        have pj1 := flat_fit (k := j + 1) hv h0 h1 (by omega)
        apply ev__law_sum
        · apply ea_cons
          · exact ev_var rfl
          · apply ea_cons
            · apply ev_callP (d := dR (crossQ (gapQ (v.at ((((0 : Nat) : Int) : Rat) / ((n : Int) : Rat))) (v.at (((j : Int) : Rat) / ((n : Int) : Rat)))) (gapQ (v.at ((((0 : Nat) : Int) : Rat) / ((n : Int) : Rat))) (v.at ((((j + 1 : Nat) : Int) : Rat) / ((n : Int) : Rat))))))
              · exact ea_cons (ev_op (ev_var rfl) ev_int (od_ix rfl (flat_at (k := 0) (Nat.zero_le n)))) (ea_cons (ev_op (ev_var rfl) (ev_var rfl) (od_ix rfl (flat_at (k := j) (by omega)))) (ea_cons (ev_op (ev_var rfl) (ev_op (ev_var rfl) ev_int od_addI) (od_ix rfl (flat_at (k := j + 1) (by omega)))) ea_nil))
              · rfl
              · exact ⟨_, _, _, p0, pj, pj1, rfl, rfl⟩
            · exact ea_nil
        · exact ⟨30, 141, tot_fit hv h0 h1 hj (by omega), (p0.gap pj).cross (p0.gap pj1), by decide⟩
      · walk_at "np"
      · rfl
  obtain ⟨y2, q⟩ := loop (n - 1) 1 .no (Nat.le_refl 1) (by omega) trivial
  refine ⟨[.fr (flatD v n), .fr (dR (totQ v ((n : Int) : Rat) ((n : Int) : Rat))), y2], ?_, Nat.le_of_ble_eq_true rfl⟩
  show StJ K _ [.fr (flatD v n), .no, .no] _
  apply q_set (d := dR (totQ v ((n : Int) : Rat) (((1 : Nat) : Int) : Rat)))
  · have e : totQ v ((n : Int) : Rat) (((1 : Nat) : Int) : Rat) = 0 := tot_one v _
    rw [e]
    show EvJ K _ _ (.fr (.tuple [.int 0, .int 1])) _
    walk_at "ev"
  · walk_at "np"
  apply q_for
  · apply src_rng2 (a := 1) (b := (n : Int))
    · apply ea_cons
      · exact ev_int
      · apply ea_cons (r := .fr (.int (n : Int)))
        · apply EvJ.conv
          · walk_at "ev"
          · rw [List.length_map, List.length_range]
            congr 1
            omega
        · exact ea_nil
  · rw [show ((n : Int) - 1).toNat = n - 1 by omega]
    exact q
  rw [← tot_end v (n := (n : Int)) (by omega)]
  apply q_ret
  · apply ev__law_product (a := totQ v ((n : Int) : Rat) ((n : Int) : Rat)) (b := 1 / 2)
    · refine ea_cons (ev_var rfl) (ea_cons (r := .fr (dR (1 / 2))) ?_ ea_nil)
      rw [dR_half]
      walk_at "ev"
    · exact ⟨30, 2, tot_fit hv h0 h1 h0 h1, fit_half, by decide⟩
  · rfl
theorem len__law_under : ∀ args r args', C__law_under args r args' → args.length = 1 := lenP fun ds d ⟨_, _, _, _, _, h, _⟩ => by rw [h]; rfl
theorem ok__law_under {P : Program} {w : World} {K : PySem.W.Frag} {mg : Str → Option Value} {base : Heap} (B : Blt mg) (Df : DefAt K mg "_law_under" s__law_under ["_law_line"]) (c__law_product : C8.Cal P w K mg base 2 "_law_product" (spD K C__law_product) []) (c__law_sum : C8.Cal P w K mg base 2 "_law_sum" (spD K C__law_sum) []) (c__law_cross : C8.Cal P w K mg base 3 "_law_cross" (spD K C__law_cross) []) : C8.Cal P w K mg base 4 "_law_under" (spD K C__law_under) [] :=
  cal_of Df sc__law_under len__law_under rfl fun f cdv A outer s H E hr => ⟨t__law_under K, tm__law_under B c__law_product c__law_sum c__law_cross hr, run__law_under⟩


end DL
namespace DL
open PySem PySem.Spec PyProof.Rows L2
local macro_rules | `(tactic| walk_at "len") => `(tactic| exact Nat.le_of_ble_eq_true rfl)
local macro_rules | `(tactic| walk_at "np") => `(tactic| (intro o z; cases z))
local macro_rules | `(tactic| walk_at "od") => `(tactic| first
  | exact od_addI | exact od_subI | exact od_subB | exact od_I0b | exact od_I0
  | exact od_ix rfl rfl | exact od_eq rfl rfl rfl rfl | exact od_ne rfl rfl rfl rfl | exact od_isN | exact od_notN
  | with_reducible apply od_mulI | with_reducible apply od_I | exact ud_I)
local macro_rules | `(tactic| walk_at "cd") => `(tactic| first
  | exact cd_len rfl | exact cd_abs | exact cd_int | exact cd_intB | exact cd_gcd | exact cd_tup rfl | exact cd_lst rfl)
local macro_rules | `(tactic| walk_at "ev1") => `(tactic| first
  | exact ev_int | exact ev_bl | exact ev_str | exact ev_non | exact ev_var rfl | exact ev_varO rfl
  | with_reducible apply ev_op | with_reducible apply ev_un
  | exact ea_nil | with_reducible apply ea_cons
  | with_reducible apply ev_isi | with_reducible apply ev_dget
  | with_reducible apply ev_cb
  | with_reducible apply ev_tup' | with_reducible apply ev_lstF
  | with_reducible apply tt_test | with_reducible apply tt_B | with_reducible apply tt_not
  | walk_at "od" | walk_at "cd" | walk_at "len" | rfl)
local macro_rules | `(tactic| walk_at "ev") => `(tactic| repeat' walk_at "ev1")
local macro_rules | `(tactic| walk_at "set") => `(tactic| (with_reducible apply q_set; rotate_left; walk_at "np"; rotate_left; walk_at "ev"))

local macro_rules | `(tactic| walk_at "ev1") => `(tactic| first
  | with_reducible apply ev_plus | with_reducible apply ev_minus | with_reducible apply ev_times | with_reducible apply ev_over | with_reducible apply ev_compare | with_reducible apply ev_fraction)

local macro_rules | `(tactic| walk_at "ev1") => `(tactic| first
  | with_reducible apply ev_gap | with_reducible apply ev_cross | with_reducible apply ev_dot | with_reducible apply ev_compare_points)

local macro_rules | `(tactic| walk_at "ev1") => `(tactic| first
  | with_reducible apply ev__law_sum | with_reducible apply ev__law_gap | with_reducible apply ev__law_product | with_reducible apply ev__law_part | with_reducible apply ev__law_less | with_reducible apply ev__law_cut)

/-! ### the law's draws -/
def stL (c a l m : D) : List (Key × D) := [(kCells, c), (kAt, a), (kLeft, l), (kMix, m)]
theorem kd_cells {c a l m : D} : kdGet (stL c a l m) (.inr "cells") = some c := by simp [stL, kdGet, kCells]
theorem kd_at {c a l m : D} : kdGet (stL c a l m) (.inr "at") = some a := by
  have h : ("cells" : Str) ≠ "at" := by decide
  simp [stL, kdGet, kCells, kAt, h]
theorem kd_left {c a l m : D} : kdGet (stL c a l m) (.inr "left") = some l := by
  have h : ("cells" : Str) ≠ "left" := by decide
  have h2 : ("at" : Str) ≠ "left" := by decide
  simp [stL, kdGet, kCells, kAt, kLeft, h, h2]
theorem kd_mix {c a l m : D} : kdGet (stL c a l m) (.inr "mix") = some m := by
  have h : ("cells" : Str) ≠ "mix" := by decide
  have h2 : ("at" : Str) ≠ "mix" := by decide
  have h3 : ("left" : Str) ≠ "mix" := by decide
  simp [stL, kdGet, kCells, kAt, kLeft, kMix, h, h2, h3]
theorem kp_at {c a l m x : D} : kdPut (stL c a l m) (.inr "at") x = stL c x l m := by
  have h : ("cells" : Str) ≠ "at" := by decide
  simp [stL, kdPut, kCells, kAt, h]
theorem kp_left {c a l m x : D} : kdPut (stL c a l m) (.inr "left") x = stL c a x m := by
  have h : ("cells" : Str) ≠ "left" := by decide
  have h2 : ("at" : Str) ≠ "left" := by decide
  simp [stL, kdPut, kCells, kAt, kLeft, h, h2]
theorem kp_mix {c a l m x : D} : kdPut (stL c a l m) (.inr "mix") x = stL c a l x := by
  have h : ("cells" : Str) ≠ "mix" := by decide
  have h2 : ("at" : Str) ≠ "mix" := by decide
  have h3 : ("left" : Str) ≠ "mix" := by decide
  simp [stL, kdPut, kCells, kAt, kLeft, kMix, h, h2, h3]
section
variable {K : PySem.W.Frag} {δ δ1 δ2 : List Sl} {td tv : TE} {u : TS} {out : Out} {i : Nat} {b : Bool} {s : DS} {x : Int}
theorem ev_cells (hd : EvJ K td δ (.al i) δ1) (hi : δ1[i]? = some (.ob b (stO s))) : EvJ K (tDGet td (tC (.str ("cells" : Str)))) δ (.fr (.list (s.cells.map .int))) δ1 := ev_dget (k := .inr "cells") (kvs' := []) hd ev_str hi kd_cells
theorem ev_at (hd : EvJ K td δ (.al i) δ1) (hi : δ1[i]? = some (.ob b (stO s))) : EvJ K (tDGet td (tC (.str ("at" : Str)))) δ (.fr (.int s.at_)) δ1 := ev_dget (k := .inr "at") (kvs' := []) hd ev_str hi kd_at
theorem ev_left (hd : EvJ K td δ (.al i) δ1) (hi : δ1[i]? = some (.ob b (stO s))) : EvJ K (tDGet td (tC (.str ("left" : Str)))) δ (.fr (.int s.left)) δ1 := ev_dget (k := .inr "left") (kvs' := []) hd ev_str hi kd_left
theorem ev_mix (hd : EvJ K td δ (.al i) δ1) (hi : δ1[i]? = some (.ob b (stO s))) : EvJ K (tDGet td (tC (.str ("mix" : Str)))) δ (.fr (.int s.mix)) δ1 := ev_dget (k := .inr "mix") (kvs' := []) hd ev_str hi kd_mix
theorem st_at (he : EvJ K tv δ (.fr (.int x)) δ1) (hd : EvJ K td δ1 (.al i) δ2) (hi : δ2[i]? = some (.ob b (stO s))) : StJ K (sDPut td (tC (.str ("at" : Str))) tv) δ (.nx (δ2.set i (.ob b (stO { s with at_ := x })))) :=
  (st_dput (k := .inr "at") he hd ev_str hi (Nat.le_of_ble_eq_true rfl)).cast (congrArg (fun z => Out.nx (δ2.set i (.ob b (.K z)))) kp_at)
theorem st_left (he : EvJ K tv δ (.fr (.int x)) δ1) (hd : EvJ K td δ1 (.al i) δ2) (hi : δ2[i]? = some (.ob b (stO s))) : StJ K (sDPut td (tC (.str ("left" : Str))) tv) δ (.nx (δ2.set i (.ob b (stO { s with left := x })))) :=
  (st_dput (k := .inr "left") he hd ev_str hi (Nat.le_of_ble_eq_true rfl)).cast (congrArg (fun z => Out.nx (δ2.set i (.ob b (.K z)))) kp_left)
theorem st_mix (he : EvJ K tv δ (.fr (.int x)) δ1) (hd : EvJ K td δ1 (.al i) δ2) (hi : δ2[i]? = some (.ob b (stO s))) : StJ K (sDPut td (tC (.str ("mix" : Str))) tv) δ (.nx (δ2.set i (.ob b (stO { s with mix := x })))) :=
  (st_dput (k := .inr "mix") he hd ev_str hi (Nat.le_of_ble_eq_true rfl)).cast (congrArg (fun z => Out.nx (δ2.set i (.ob b (.K z)))) kp_mix)
theorem q_at (he : EvJ K tv δ (.fr (.int x)) δ1) (hd : EvJ K td δ1 (.al i) δ2) (hi : δ2[i]? = some (.ob b (stO s))) (k : StJ K u (δ2.set i (.ob b (stO { s with at_ := x }))) out) : StJ K (tSeq (sDPut td (tC (.str ("at" : Str))) tv) u) δ out := st_seq (st_at he hd hi) k
theorem q_left (he : EvJ K tv δ (.fr (.int x)) δ1) (hd : EvJ K td δ1 (.al i) δ2) (hi : δ2[i]? = some (.ob b (stO s))) (k : StJ K u (δ2.set i (.ob b (stO { s with left := x }))) out) : StJ K (tSeq (sDPut td (tC (.str ("left" : Str))) tv) u) δ out := st_seq (st_left he hd hi) k
theorem q_mix (he : EvJ K tv δ (.fr (.int x)) δ1) (hd : EvJ K td δ1 (.al i) δ2) (hi : δ2[i]? = some (.ob b (stO s))) (k : StJ K u (δ2.set i (.ob b (stO { s with mix := x }))) out) : StJ K (tSeq (sDPut td (tC (.str ("mix" : Str))) tv) u) δ out := st_seq (st_mix he hd hi) k
end
local macro_rules | `(tactic| walk_at "ev1") => `(tactic| first
  | with_reducible apply ev_cells | with_reducible apply ev_at | with_reducible apply ev_left | with_reducible apply ev_mix)
/-! _law_start -/
def DS.init (ns : List Int) : DS := ⟨ns.map fun i => (i.natAbs : Int), 0, 0, 7 + ns.length⟩
theorem DS.init_ok {ns : List Int} (h : ns.length ≤ 63) : (DS.init ns).ok := by
  refine ⟨fun c hc => ?_, ?_, Int.le_refl 0, Int.le_refl 0, ?_, ?_⟩
  · obtain ⟨i, _, rfl⟩ := List.mem_map.mp hc
    exact Int.natCast_nonneg _
  · show (ns.map _).length ≤ 1000
    rw [List.length_map]
    omega
  · show (0 : Int) ≤ 7 + ns.length
    omega
  · show (7 : Int) + ns.length < 2147483647
    omega
def C__law_start : Con := fun args r args' => ∃ ns : List Int, ns.length ≤ 63 ∧ args = [.fr (.list (ns.map .int))] ∧ r = .new (stO (DS.init ns)) ∧ args' = args
def absD : D → D
  | .int i => .int (i.natAbs : Int)
  | d => d
/-! _law_start: slots 0 _law_script, 1 _law_cell -/
abbrev s__law_start : Stmt := topS 29
theorem sc__law_start : FnScope ["_law_script", "_law_cell"] ["_law_script"] (defScope s__law_start) := ⟨rfl, rfl, rfl, by decide +kernel, rfl, by decide +kernel, by decide +kernel⟩
def t__law_start (K : PySem.W.Frag) : TS :=
  (tRet (tDisp [((tC (.str ("cells" : Str))), (tLc (iList K (tVar 0)) (gName 1) tYes (tCB rAbs (tCons (tCB rInt1 (tCons (tVar 1) tNil)) tNil)) [1])), ((tC (.str ("at" : Str))), (tC (.int 0))), ((tC (.str ("left" : Str))), (tC (.int 0))), ((tC (.str ("mix" : Str))), (tOp (rAddU K) (tC (.int 7)) (tCB (rLenU K) (tCons (tVar 0) tNil))))]))
theorem tm__law_start {P : Program} {w : World} {K : PySem.W.Frag} {mg : Str → Option Value} {base : Heap} (B : Blt mg) {f : Addr} {cdv : Value} {A : Around} {outer : List Env} {s : Shared} {H : Hp} {E : XK} (hr : Room 0 (A.deeper (envOfC "_law_start" (defScope s__law_start) s.heap.objs.size f cdv))) :
    PSs (cxOf CX0 P w K mg base ["_law_script", "_law_cell"] "_law_start" (defScope s__law_start) f cdv A outer s H E).nox (defBody s__law_start) (t__law_start K) := by
  have nd := sc__law_start.nd
  exact (pss_one (ps_ret (pe_disp (pps_cons pe_str (pe_lc (own := [("_law_cell", 1)]) (g := (gName 1)) (tt := tYes) rfl nd (pi_list (pv 0)) (blkOk_by (N := ["_law_script", "_law_cell"]) (sc := defScope s__law_start) (by decide +kernel)) (fun _ _ _ _ _ => (pg_name (i := 1) nd rfl (Or.inl rfl))) (fun _ _ _ _ _ => pts_nil) (fun _ _ _ _ _ => (pe_callB call_absU (by rfl) B.abs_ boot_abs (pa_cons (pe_callTy call_int1U (by rfl) B.int_ boot_int (pa_cons (pv 1) pa_nil)) pa_nil)))) (pps_cons pe_str pe_int (pps_cons pe_str pe_int (pps_cons pe_str (pe_op op_addU pe_int (pe_callB call_lenU (by rfl) B.len_ PySem.boot_len (pa_cons (pv 0) pa_nil))) pps_nil)))) rfl rfl (by simp) (by decide))))

theorem run__law_start {K : PySem.W.Frag} : BodyOk K (t__law_start K) 1 C__law_start := by
  rintro args r args' ⟨ns, hn, rfl, rfl, rfl⟩
  refine ⟨fun i o h => fr_noob (ds := [.list (ns.map .int)]) i true o h, [.fr (.list (ns.map .int)), .no], .inl ?_, Nat.le_of_ble_eq_true rfl, rfl⟩
  show StJ K (t__law_start K) [.fr (.list (ns.map .int)), .no] _
  have e : stO (DS.init ns) = .K [(.inr "cells", .list ((ns.map PyData.int).map absD)), (.inr "at", .int 0), (.inr "left", .int 0), (.inr "mix", .int (7 + ((ns.map PyData.int).length : Int)))] := by
    unfold stO DS.init
    rw [List.map_map, List.map_map, List.length_map]
    rfl
  rw [e]
  apply q_ret
  · apply ev_disp
    · have h1 : EvJ K (tLc (iList K (tVar 0)) (gName 1) tYes (tCB rAbs (tCons (tCB rInt1 (tCons (tVar 1) tNil)) tNil)) [1]) [.fr (.list (ns.map .int)), .no] (.fr (.list ((ns.map PyData.int).map absD))) [.fr (.list (ns.map .int)), .no] := by
        apply ev_frz
        refine ev_lc (src_list (ev_var rfl)) (LcRel.map absD fun d hd => ?_) rfl rfl (fun i hi => ?_) ?_
        · obtain ⟨i, _, rfl⟩ := List.mem_map.mp hd
          refine ⟨[.fr (.list (ns.map .int)), .fr (.int i)], bw_name, ?_, fun j hj o => ?_, rfl⟩
          · show EvJ K _ _ (.fr (.int (i.natAbs : Int))) _
            walk_at "ev"
          · rw [List.mem_singleton.mp hj]
            intro z
            cases z
        · rw [List.mem_singleton.mp hi]
          intro o z
          cases z
        · rw [List.length_map]
          exact Nat.le_trans hn (by decide)
      have h2 : EvJ K (tOp (rAddU K) (tC (.int 7)) (tCB (rLenU K) (tCons (tVar 0) tNil))) [.fr (.list (ns.map .int)), .no] (.fr (.int (7 + ((ns.map PyData.int).length : Int)))) [.fr (.list (ns.map .int)), .no] := by
        walk_at "ev"
      exact .cons (k := .inr "cells") ev_str h1 (.cons (k := .inr "at") ev_str ev_int (.cons (k := .inr "left") ev_str ev_int (.cons (k := .inr "mix") ev_str h2 .nil)))
    · show [(Sum.inr "cells" : Key), .inr "at", .inr "left", .inr "mix"].Nodup
      decide
    · exact Nat.le_of_ble_eq_true rfl
  · rfl
/-! _law_draw -/
def F__law_draw (s : DS) (ds : List D) (d : D) (s' : DS) : Prop := ∃ b : Int, s.ok ∧ 0 < b ∧ b.natAbs.log2 < 9000 ∧ ds = [.int b] ∧ d = .int (draw s b).1 ∧ s' = (draw s b).2
abbrev C__law_draw : Con := CS F__law_draw
/-! _law_draw: slots 0 _law_state, 1 _law_bound, 2 _law_cell, 3 _law_number -/
abbrev s__law_draw : Stmt := topS 30
theorem sc__law_draw : FnScope ["_law_state", "_law_bound", "_law_cell", "_law_number"] ["_law_state", "_law_bound"] (defScope s__law_draw) := ⟨rfl, rfl, rfl, by decide +kernel, rfl, by decide +kernel, by decide +kernel⟩
def t__law_draw (K : PySem.W.Frag) : TS :=
  (tSeq (tIfS (tAnd (tTest (tOp (rEqD K) (tDGet (tVar 0) (tC (.str ("left" : Str)))) (tC (.int 0)))) (tTest (tOp (rI0 fun i j => .bl (decide (i < j))) (tDGet (tVar 0) (tC (.str ("at" : Str)))) (tCB (rLenU K) (tCons (tDGet (tVar 0) (tC (.str ("cells" : Str)))) tNil))))) (tSeq (tAsg (tOp (rIx K) (tDGet (tVar 0) (tC (.str ("cells" : Str)))) (tDGet (tVar 0) (tC (.str ("at" : Str))))) (gName 2))
    (tSeq (sDPut (tVar 0) (tC (.str ("at" : Str))) (tOp (rAddU K) (tDGet (tVar 0) (tC (.str ("at" : Str)))) (tC (.int 1))))
    (tSeq (sDPut (tVar 0) (tC (.str ("mix" : Str))) (tOp (rI (fun _ j => 0 < j) fun i j => .int (i % j)) (tCB rInt1 (tCons (tOp (rAddU K) (tOp (rAddU K) (tOp (rMulU K) (tDGet (tVar 0) (tC (.str ("mix" : Str)))) (tC (.int 48271))) (tVar 2)) (tC (.int 11))) tNil)) (tC (.int 2147483647))))
    (tSeq (tIfS (tTest (tOp (rI0 fun i j => .bl (decide (i < j))) (tVar 2) (tOp (rI CPow fun i j => .int (i ^ j.toNat)) (tC (.int 10)) (tC (.int 18))))) (tRet (tOp (rI (fun _ j => 0 < j) fun i j => .int (i % j)) (tCB rInt1 (tCons (tVar 2) tNil)) (tVar 1))) tNext)
    (sDPut (tVar 0) (tC (.str ("left" : Str))) (tVar 2)))))) tNext)
    (tSeq (tIfS (tTest (tOp (rI0 fun i j => .bl (decide (j < i))) (tDGet (tVar 0) (tC (.str ("left" : Str)))) (tC (.int 0)))) (tSeq (tAsg (tOp (rI (fun _ j => 0 < j) fun i j => .int (i % j)) (tCB rInt1 (tCons (tDGet (tVar 0) (tC (.str ("left" : Str)))) tNil)) (tVar 1)) (gName 3))
    (tSeq (sDPut (tVar 0) (tC (.str ("left" : Str))) (tOp (rI CDivR fun i j => .int (i.fdiv j)) (tDGet (tVar 0) (tC (.str ("left" : Str)))) (tVar 1)))
    (tRet (tVar 3)))) tNext)
    (tSeq (sDPut (tVar 0) (tC (.str ("mix" : Str))) (tOp (rI (fun _ j => 0 < j) fun i j => .int (i % j)) (tCB rInt1 (tCons (tOp (rAddU K) (tOp (rMulU K) (tDGet (tVar 0) (tC (.str ("mix" : Str)))) (tC (.int 48271))) (tC (.int 11))) tNil)) (tC (.int 2147483647))))
    (tRet (tOp (rI (fun _ j => 0 < j) fun i j => .int (i % j)) (tCB rInt1 (tCons (tOp (rI (fun _ j => 0 < j) fun i j => .int (i % j)) (tCB rInt1 (tCons (tOp (rAddU K) (tOp (rMulU K) (tDGet (tVar 0) (tC (.str ("mix" : Str)))) (tC (.int 69621))) (tC (.int 5))) tNil)) (tC (.int 2147483629))) tNil)) (tVar 1))))))
theorem tm__law_draw {P : Program} {w : World} {K : PySem.W.Frag} {mg : Str → Option Value} {base : Heap} (B : Blt mg) {f : Addr} {cdv : Value} {A : Around} {outer : List Env} {s : Shared} {H : Hp} {E : XK} (hr : Room 0 (A.deeper (envOfC "_law_draw" (defScope s__law_draw) s.heap.objs.size f cdv))) :
    PSs (cxOf CX0 P w K mg base ["_law_state", "_law_bound", "_law_cell", "_law_number"] "_law_draw" (defScope s__law_draw) f cdv A outer s H E).nox (defBody s__law_draw) (t__law_draw K) := by
  have nd := sc__law_draw.nd
  exact (pss_cons (ps_if ((pw_and (pt_cmpR (op_eqD hr.units) (pe_dget (hu_of hr) (pv 0) pe_str (fun _ _ => rfl)) pe_int (nomark _)) (pw_and1 (pt_cmpR op_lt (pe_dget (hu_of hr) (pv 0) pe_str (fun _ _ => rfl)) (pe_callB call_lenU (by rfl) B.len_ PySem.boot_len (pa_cons (pe_dget (hu_of hr) (pv 0) pe_str (fun _ _ => rfl)) pa_nil)) (nomark _))))).pt (pss_cons (ps_set (i := 2) nd rfl (Or.inl rfl) (pe_ix ix_seq (pe_dget (hu_of hr) (pv 0) pe_str (fun _ _ => rfl)) (pe_dget (hu_of hr) (pv 0) pe_str (fun _ _ => rfl)) (fun _ _ => rfl)))
    (pss_cons (ps_dput (hu_of hr) (pv 0) pe_str (pe_op op_addU (pe_dget (hu_of hr) (pv 0) pe_str (fun _ _ => rfl)) pe_int) rfl)
    (pss_cons (ps_dput (hu_of hr) (pv 0) pe_str (pe_op op_mod (pe_callTy call_int1U (by rfl) B.int_ boot_int (pa_cons (pe_op op_addU (pe_op op_addU (pe_op op_mulU (pe_dget (hu_of hr) (pv 0) pe_str (fun _ _ => rfl)) pe_int) (pv 2)) pe_int) pa_nil)) pe_int) rfl)
    (pss_cons (ps_if (pt_cmpR op_lt (pv 2) (pe_op op_pow pe_int pe_int) (nomark _)) (pss_one (ps_ret (pe_op op_mod (pe_callTy call_int1U (by rfl) B.int_ boot_int (pa_cons (pv 2) pa_nil)) (pv 1)))) pss_nil)
    (pss_one (ps_dput (hu_of hr) (pv 0) pe_str (pv 2) rfl)))))) pss_nil)
    (pss_cons (ps_if (pt_cmpR op_gt (pe_dget (hu_of hr) (pv 0) pe_str (fun _ _ => rfl)) pe_int (nomark _)) (pss_cons (ps_set (i := 3) nd rfl (Or.inl rfl) (pe_op op_mod (pe_callTy call_int1U (by rfl) B.int_ boot_int (pa_cons (pe_dget (hu_of hr) (pv 0) pe_str (fun _ _ => rfl)) pa_nil)) (pv 1)))
    (pss_cons (ps_dput (hu_of hr) (pv 0) pe_str (pe_op op_fdivR (pe_dget (hu_of hr) (pv 0) pe_str (fun _ _ => rfl)) (pv 1)) rfl)
    (pss_one (ps_ret (pv 3))))) pss_nil)
    (pss_cons (ps_dput (hu_of hr) (pv 0) pe_str (pe_op op_mod (pe_callTy call_int1U (by rfl) B.int_ boot_int (pa_cons (pe_op op_addU (pe_op op_mulU (pe_dget (hu_of hr) (pv 0) pe_str (fun _ _ => rfl)) pe_int) pe_int) pa_nil)) pe_int) rfl)
    (pss_one (ps_ret (pe_op op_mod (pe_callTy call_int1U (by rfl) B.int_ boot_int (pa_cons (pe_op op_mod (pe_callTy call_int1U (by rfl) B.int_ boot_int (pa_cons (pe_op op_addU (pe_op op_mulU (pe_dget (hu_of hr) (pv 0) pe_str (fun _ _ => rfl)) pe_int) pe_int) pa_nil)) pe_int) pa_nil)) (pv 1)))))))

theorem atI_getD {xs : List Int} {i : Int} (h0 : 0 ≤ i) (h : i < xs.length) : atI (xs.map PyData.int) i = some (.int (xs.getD i.toNat 0)) := by
  have e : ((i.toNat : Nat) : Int) = i := by omega
  have q : atI (xs.map PyData.int) ((i.toNat : Nat) : Int) = some (.int (xs.getD i.toNat 0)) := by
    refine atI_nat ?_
    rw [List.getElem?_map, List.getElem?_eq_getElem (by omega), List.getD_eq_getElem?_getD, List.getElem?_eq_getElem (by omega)]
    rfl
  rw [e] at q
  exact q
theorem mix_mul {m c : Int} (h0 : 0 ≤ m) (h1 : m < 2147483647) (hc : c.natAbs < 2 ^ 64) : CMulB m c := mulB_of (n := 31) (m := 64) (by omega) hc (by omega)
theorem run__law_drawTail {K : PySem.W.Frag} {s : DS} {b : Int} (hs : s.ok) (hb : 0 < b) (hl : b.natAbs.log2 < 9000) : ∃ y', StJ K
    (tSeq (tIfS (tTest (tOp (rI0 fun i j => .bl (decide (j < i))) (tDGet (tVar 0) (tC (.str ("left" : Str)))) (tC (.int 0)))) (tSeq (tAsg (tOp (rI (fun _ j => 0 < j) fun i j => .int (i % j)) (tCB rInt1 (tCons (tDGet (tVar 0) (tC (.str ("left" : Str)))) tNil)) (tVar 1)) (gName 3))
    (tSeq (sDPut (tVar 0) (tC (.str ("left" : Str))) (tOp (rI CDivR fun i j => .int (i.fdiv j)) (tDGet (tVar 0) (tC (.str ("left" : Str)))) (tVar 1)))
    (tRet (tVar 3)))) tNext)
    (tSeq (sDPut (tVar 0) (tC (.str ("mix" : Str))) (tOp (rI (fun _ j => 0 < j) fun i j => .int (i % j)) (tCB rInt1 (tCons (tOp (rAddU K) (tOp (rMulU K) (tDGet (tVar 0) (tC (.str ("mix" : Str)))) (tC (.int 48271))) (tC (.int 11))) tNil)) (tC (.int 2147483647))))
    (tRet (tOp (rI (fun _ j => 0 < j) fun i j => .int (i % j)) (tCB rInt1 (tCons (tOp (rI (fun _ j => 0 < j) fun i j => .int (i % j)) (tCB rInt1 (tCons (tOp (rAddU K) (tOp (rMulU K) (tDGet (tVar 0) (tC (.str ("mix" : Str)))) (tC (.int 69621))) (tC (.int 5))) tNil)) (tC (.int 2147483629))) tNil)) (tVar 1)))))
    [.ob false (stO s), .fr (.int b), .no, .no] (.rt (.fr (.int (drawTail s b).1)) [.ob false (stO (drawTail s b).2), .fr (.int b), .no, y']) := by
  obtain ⟨h1, h2, h3, h4, h5, h6⟩ := hs
  by_cases hc : 0 < s.left
  · refine ⟨.fr (.int (s.left % b)), ?_⟩
    have e : drawTail s b = (s.left % b, { s with left := s.left.fdiv b }) := by
      unfold drawTail
      rw [if_pos hc]
    rw [e]
    apply st_ifq (b := decide (0 < s.left))
    · walk_at "ev"
    · intro _
      apply st_stop_rt
      apply q_set
      · walk_at "ev"
        exact hb
      · walk_at "np"
      apply q_left
      · walk_at "ev"
        exact ⟨by omega, hl⟩
      · exact ev_varO rfl
      · rfl
      apply q_ret
      · walk_at "ev"
      · rfl
    · intro h
      rw [decide_eq_true hc] at h
      cases h
  · refine ⟨.no, ?_⟩
    have e : drawTail s b = ((((s.mix * 48271 + 11) % 2147483647 * 69621 + 5) % 2147483629) % b, { s with mix := (s.mix * 48271 + 11) % 2147483647 }) := by
      unfold drawTail
      rw [if_neg hc]
    rw [e]
    apply st_ifq (b := decide (0 < s.left))
    · walk_at "ev"
    · intro h
      rw [decide_eq_false hc] at h
      cases h
    · intro _
      apply st_nextq
      apply q_mix
      · walk_at "ev"
        · exact mix_mul h5 h6 (by decide)
        · decide
      · exact ev_varO rfl
      · rfl
      apply q_ret
      · walk_at "ev"
        · exact mix_mul (Int.emod_nonneg _ (by decide)) (Int.emod_lt_of_pos _ (by decide)) (by decide)
        · decide
        · exact hb
      · rfl
theorem run__law_draw {K : PySem.W.Frag} : BodyOk K (t__law_draw K) 2 C__law_draw := by
  refine body_state ?_
  rintro s ds d s' ⟨b, hs, hb, hl, rfl, rfl, rfl⟩
  have hs' := hs
  obtain ⟨h1, h2, h3, h4, h5, h6⟩ := hs'
  suffices h : ∃ x y, StJ K (t__law_draw K) [.ob false (stO s), .fr (.int b), .no, .no] (.rt (.fr (.int (draw s b).1)) [.ob false (stO (draw s b).2), .fr (.int b), x, y]) by
    obtain ⟨x, y, h⟩ := h
    exact ⟨_, h, Nat.le_of_ble_eq_true rfl⟩
  by_cases hc : s.left = 0 ∧ s.at_ < s.cells.length
  · have hcell : 0 ≤ s.cells.getD s.at_.toNat 0 := getD_nonneg h1 _
    have hat : s.at_ < ((s.cells.map PyData.int).length : Nat) := by
      rw [List.length_map]
      exact hc.2
    have tst : TtJ K (tAnd (tTest (tOp (rEqD K) (tDGet (tVar 0) (tC (.str ("left" : Str)))) (tC (.int 0)))) (tTest (tOp (rI0 fun i j => .bl (decide (i < j))) (tDGet (tVar 0) (tC (.str ("at" : Str)))) (tCB (rLenU K) (tCons (tDGet (tVar 0) (tC (.str ("cells" : Str)))) tNil))))) [.ob false (stO s), .fr (.int b), .no, .no] true [.ob false (stO s), .fr (.int b), .no, .no] := by
      have e : true = (PyData.eqv (.int s.left) (.int 0) && decide (s.at_ < ((s.cells.map PyData.int).length : Nat))) := by
        rw [decide_eq_true hat, hc.1]
        rfl
      rw [e]
      apply tt_andP
      · walk_at "ev"
      · walk_at "ev"
    by_cases hsm : s.cells.getD s.at_.toNat 0 < 10 ^ 18
    · refine ⟨.fr (.int (s.cells.getD s.at_.toNat 0)), .no, ?_⟩
      have e : draw s b = (s.cells.getD s.at_.toNat 0 % b, { s with at_ := s.at_ + 1, mix := (s.mix * 48271 + s.cells.getD s.at_.toNat 0 + 11) % 2147483647 }) := by
        unfold draw
        rw [if_pos hc, if_pos hsm]
      rw [e]
      apply st_ifq (b := true)
      · exact tst
      · intro _
        apply st_stop_rt
        apply q_set
        · walk_at "ev"
          exact od_ix rfl (atI_getD h3 hc.2)
        · walk_at "np"
        apply q_at
        · walk_at "ev"
        · exact ev_varO rfl
        · rfl
        apply q_mix
        · walk_at "ev"
          · exact mix_mul h5 h6 (by decide)
          · decide
        · exact ev_varO rfl
        · rfl
        apply st_ifq (b := decide (s.cells.getD s.at_.toNat 0 < 10 ^ 18))
        · walk_at "ev"
          exact ⟨by decide, by decide, by decide⟩
        · intro _
          apply q_retq
          · walk_at "ev"
            exact hb
          · rfl
        · intro h
          rw [decide_eq_true hsm] at h
          cases h
      · intro h
        cases h
    · have hs1 : DS.ok { s with at_ := s.at_ + 1, mix := (s.mix * 48271 + s.cells.getD s.at_.toNat 0 + 11) % 2147483647, left := s.cells.getD s.at_.toNat 0 } :=
        ⟨h1, h2, by show 0 ≤ s.at_ + 1; omega, hcell, Int.emod_nonneg _ (by decide), Int.emod_lt_of_pos _ (by decide)⟩
      obtain ⟨y', tl⟩ := run__law_drawTail (K := K) hs1 hb hl
      refine ⟨.no, y', ?_⟩
      have e : draw s b = drawTail { s with at_ := s.at_ + 1, mix := (s.mix * 48271 + s.cells.getD s.at_.toNat 0 + 11) % 2147483647, left := s.cells.getD s.at_.toNat 0 } b := by
        unfold draw
        rw [if_pos hc, if_neg hsm]
      rw [e]
      apply st_ifq (b := true)
      · exact tst
      · intro _
        apply st_seq
        · apply q_set
          · walk_at "ev"
            exact od_ix rfl (atI_getD h3 hc.2)
          · walk_at "np"
          apply q_at
          · walk_at "ev"
          · exact ev_varO rfl
          · rfl
          apply q_mix
          · walk_at "ev"
            · exact mix_mul h5 h6 (by decide)
            · decide
          · exact ev_varO rfl
          · rfl
          apply st_ifq (b := decide (s.cells.getD s.at_.toNat 0 < 10 ^ 18))
          · walk_at "ev"
            exact ⟨by decide, by decide, by decide⟩
          · intro h
            rw [decide_eq_false hsm] at h
            cases h
          · intro _
            apply st_nextq
            apply st_left
            · walk_at "ev"
            · exact ev_varO rfl
            · rfl
        · refine st_forget 2 ?_ tl
          walk_at "np"
      · intro h
        cases h
  · obtain ⟨y', tl⟩ := run__law_drawTail (K := K) hs hb hl
    refine ⟨.no, y', ?_⟩
    have e : draw s b = drawTail s b := by
      unfold draw
      rw [if_neg hc]
    rw [e]
    apply st_ifq (b := false)
    · have e2 : false = (PyData.eqv (.int s.left) (.int 0) && decide (s.at_ < ((s.cells.map PyData.int).length : Nat))) := by
        symm
        rw [Bool.and_eq_false_iff]
        by_cases h0 : s.left = 0
        · refine .inr (decide_eq_false fun z => hc ⟨h0, ?_⟩)
          rw [List.length_map] at z
          exact z
        · exact .inl (beq_eq_false_iff_ne.mpr h0)
      have tst : TtJ K (tAnd (tTest (tOp (rEqD K) (tDGet (tVar 0) (tC (.str ("left" : Str)))) (tC (.int 0)))) (tTest (tOp (rI0 fun i j => .bl (decide (i < j))) (tDGet (tVar 0) (tC (.str ("at" : Str)))) (tCB (rLenU K) (tCons (tDGet (tVar 0) (tC (.str ("cells" : Str)))) tNil))))) [.ob false (stO s), .fr (.int b), .no, .no] (PyData.eqv (.int s.left) (.int 0) && decide (s.at_ < ((s.cells.map PyData.int).length : Nat))) [.ob false (stO s), .fr (.int b), .no, .no] := by
        apply tt_andP
        · walk_at "ev"
        · walk_at "ev"
      rw [← e2] at tst
      exact tst
    · intro h
      cases h
    · intro _
      apply st_nextq
      exact tl
/-! _law_pick -/
def F__law_pick (s : DS) (ds : List D) (d : D) (s' : DS) : Prop := ∃ xs : List D, s.ok ∧ xs ≠ [] ∧ xs.length ≤ 1000 ∧ (ds = [.list xs] ∨ ds = [.tuple xs]) ∧ d = xs.getD (draw s xs.length).1.toNat .none ∧ s' = (draw s xs.length).2
abbrev C__law_pick : Con := CS F__law_pick
/-! _law_pick: slots 0 _law_state, 1 _law_things -/
abbrev s__law_pick : Stmt := topS 31
theorem sc__law_pick : FnScope ["_law_state", "_law_things"] ["_law_state", "_law_things"] (defScope s__law_pick) := ⟨rfl, rfl, rfl, by decide +kernel, rfl, by decide +kernel, by decide +kernel⟩
def t__law_pick (K : PySem.W.Frag) : TS :=
  (tRet (tOp (rIx K) (tVar 1) (tCall (spD K C__law_draw) [] E0 (tCons (tVar 0) (tCons (tCB (rLenU K) (tCons (tVar 1) tNil)) tNil)))))
theorem tm__law_pick {P : Program} {w : World} {K : PySem.W.Frag} {mg : Str → Option Value} {base : Heap} (B : Blt mg) (c__law_draw : C8.Cal P w K mg base 1 "_law_draw" (spD K C__law_draw) []) {f : Addr} {cdv : Value} {A : Around} {outer : List Env} {s : Shared} {H : Hp} {E : XK} (hr : Room 1 (A.deeper (envOfC "_law_pick" (defScope s__law_pick) s.heap.objs.size f cdv))) :
    PSs (cxOf CX0 P w K mg base ["_law_state", "_law_things"] "_law_pick" (defScope s__law_pick) f cdv A outer s H E).nox (defBody s__law_pick) (t__law_pick K) := by
  have nd := sc__law_pick.nd
  exact (pss_one (ps_ret (pe_ix ix_seq (pv 1) (C8.pe_c c__law_draw hr (by omega) (by rfl) (pa_cons (pv 0) (pa_cons (pe_callB call_lenU (by rfl) B.len_ PySem.boot_len (pa_cons (pv 1) pa_nil)) pa_nil))) (fun _ _ => rfl))))

theorem atI_getD' {xs : List D} {i : Int} (h0 : 0 ≤ i) (h : i < xs.length) : atI xs i = some (xs.getD i.toNat .none) := by
  have e : ((i.toNat : Nat) : Int) = i := by omega
  have q : atI xs ((i.toNat : Nat) : Int) = some (xs.getD i.toNat .none) := by
    unfold atI ixN
    rw [if_pos (by omega), if_pos (by omega)]
    show xs[_]? = _
    rw [List.getD_eq_getElem?_getD, show ((i.toNat : Nat) : Int).toNat = i.toNat by omega, List.getElem?_eq_getElem (by omega)]
    rfl
  rw [e] at q
  exact q
theorem small_log {n : Nat} (h0 : n ≠ 0) (h : n ≤ 1000) : ((n : Int).natAbs).log2 < 9000 := lt_log (n := 10) (by omega) (by omega) (by omega)
theorem run__law_pick {K : PySem.W.Frag} : BodyOk K (t__law_pick K) 0 C__law_pick := by
  refine body_state ?_
  rintro s ds d s' ⟨xs, hs, hne, hlen, hds, rfl, rfl⟩
  have hpos : 0 < xs.length := List.length_pos_iff.mpr hne
  obtain ⟨_, q1, q2⟩ := draw_ok hs (b := xs.length) (by omega)
  rcases hds with rfl | rfl
  · refine ⟨[.fr (.list xs)], ?_, Nat.le_of_ble_eq_true rfl⟩
    show StJ K (t__law_pick K) [.ob false (stO s), .fr (.list xs)] _
    apply q_ret
    · apply ev_op
      · walk_at "ev"
      · apply ev_callS
        · walk_at "ev"
        · rfl
        · rfl
        · exact ⟨xs.length, hs, by omega, small_log (by omega) hlen, rfl, rfl, rfl⟩
        · rfl
      · exact od_ix rfl (atI_getD' q1 q2)
    · rfl
  · refine ⟨[.fr (.tuple xs)], ?_, Nat.le_of_ble_eq_true rfl⟩
    show StJ K (t__law_pick K) [.ob false (stO s), .fr (.tuple xs)] _
    apply q_ret
    · apply ev_op
      · walk_at "ev"
      · apply ev_callS
        · walk_at "ev"
        · rfl
        · rfl
        · exact ⟨xs.length, hs, by omega, small_log (by omega) hlen, rfl, rfl, rfl⟩
        · rfl
      · exact od_ix rfl (atI_getD' q1 q2)
    · rfl
section
variable {P : Program} {w : World} {K : PySem.W.Frag} {mg : Str → Option Value} {base : Heap}
theorem ok__law_start (B : Blt mg) (Df : DefAt K mg "_law_start" s__law_start ["_law_script"]) : C8.Cal P w K mg base 1 "_law_start" (spD K C__law_start) [] :=
  cal_of Df sc__law_start (fun args r args' ⟨ns, _, e, _⟩ => by rw [e]; rfl) rfl fun f cdv A outer s H E hr => ⟨t__law_start K, tm__law_start B hr, run__law_start⟩
theorem ok__law_draw (B : Blt mg) (Df : DefAt K mg "_law_draw" s__law_draw ["_law_state", "_law_bound"]) : C8.Cal P w K mg base 1 "_law_draw" (spD K C__law_draw) [] :=
  cal_of Df sc__law_draw (fun args r args' ⟨s, ds, d, s', ⟨b, _, _, _, e1, _⟩, e, _⟩ => by rw [e, e1]; rfl) rfl fun f cdv A outer s H E hr => ⟨t__law_draw K, tm__law_draw B hr, run__law_draw⟩
theorem ok__law_pick (B : Blt mg) (Df : DefAt K mg "_law_pick" s__law_pick ["_law_state", "_law_things"]) (c : C8.Cal P w K mg base 1 "_law_draw" (spD K C__law_draw) []) : C8.Cal P w K mg base 2 "_law_pick" (spD K C__law_pick) [] :=
  cal_of Df sc__law_pick (fun args r args' ⟨s, ds, d, s', ⟨b, _, _, _, e1, _⟩, e, _⟩ => by rcases e1 with e1 | e1 <;> (rw [e, e1]; rfl)) rfl fun f cdv A outer s H E hr => ⟨t__law_pick K, tm__law_pick B c hr, run__law_pick⟩
end

/-! ### neighbours -/
def Ch (R : Nat → Nat → Prop) : List Nat → Prop
  | [] => True
  | [_] => True
  | a :: b :: r => R a b ∧ Ch R (b :: r)
theorem Ch.join {R : Nat → Nat → Prop} : ∀ {A : List Nat} {m : Nat} {B : List Nat}, Ch R (A ++ [m]) → Ch R (m :: B) → Ch R (A ++ m :: B)
  | [], _, _, _, h => h
  | [_], _, _, h1, h2 => ⟨h1.1, h2⟩
  | _ :: b :: r, _, _, h1, h2 => ⟨h1.1, Ch.join (A := b :: r) h1.2 h2⟩
theorem Ch.get {R : Nat → Nat → Prop} : ∀ {l : List Nat} {k u v : Nat}, Ch R l → l[k]? = some u → l[k + 1]? = some v → R u v
  | a :: b :: r, 0, u, v, h, h1, h2 => by
    cases h1
    cases h2
    exact h.1
  | a :: b :: r, k + 1, u, v, h, h1, h2 => Ch.get (l := b :: r) (k := k) h.2 h1 h2
  | [_], 0, _, _, _, _, h2 => by simp at h2
  | [_], k + 1, _, _, _, h1, _ => by simp at h1
  | [], _, _, _, _, h1, _ => by simp at h1
def Seg (P : Ln) (e : Rat) (u v : Nat) : Prop := ∀ i, u ≤ i → i ≤ v → farQ (P u) (P v) (P i) ≤ e
theorem seg_of {P : Ln} {e : Rat} {u v : Nat} (he : 0 ≤ e) (h : ∀ i, u < i → i < v → farQ (P u) (P v) (P i) ≤ e) : Seg P e u v := fun i h1 h2 => by
  by_cases a : i = u
  · rw [a]
    exact far_left he
  · by_cases b : i = v
    · rw [b]
      exact far_right he
    · exact h i (by omega) (by omega)
theorem kept_seg {P : Ln} {e : Rat} (he : 0 ≤ e) : ∀ (n lo hi : Nat), lo < hi → hi - lo ≤ n → Ch (Seg P e) (lo :: (keptQ P e lo hi ++ [hi]))
  | n, lo, hi, hl, hn => by
    rw [kept_eq]
    cases q : bestQ (farI P lo hi) lo hi with
    | none =>
      have := best_none q
      exact ⟨seg_of he fun i h1 h2 => by omega, trivial⟩
    | some gm =>
      obtain ⟨g, m⟩ := gm
      obtain ⟨e1, b1, b2, b3⟩ := best_some q
      cases n with
      | zero => omega
      | succ n =>
        have p1 := kept_seg (P := P) he n lo m b1 (by omega)
        have p2 := kept_seg (P := P) he n m hi b2 (by omega)
        show Ch (Seg P e) (lo :: ((if e < g then keptQ P e lo m ++ [m] ++ keptQ P e m hi else []) ++ [hi]))
        split
        · have j := Ch.join (A := lo :: keptQ P e lo m) p1 p2
          have r : lo :: keptQ P e lo m ++ m :: (keptQ P e m hi ++ [hi]) = lo :: (keptQ P e lo m ++ [m] ++ keptQ P e m hi ++ [hi]) := by simp
          rw [r] at j
          exact j
        · rename_i c
          refine ⟨seg_of he fun i h1 h2 => ?_, trivial⟩
          have := b3 i h1 h2
          unfold farI at this
          grind
theorem row_seg {P : Ln} {e : Rat} (he : 0 ≤ e) {L : Nat} (hL : 0 < L) : Ch (Seg P e) (rowQ P e L) := by
  have := kept_seg (P := P) he L 0 L hL (by omega)
  unfold rowQ
  exact this
theorem row_lt {P : Ln} {e : Rat} {L : Nat} : ∀ i ∈ rowQ P e L, i < L + 1 := by
  intro i hi
  unfold rowQ at hi
  rcases List.mem_append.mp hi with hi | hi
  · rcases List.mem_append.mp hi with hi | hi
    · rw [List.mem_singleton.mp hi]
      omega
    · have := ((kept_in P e L 0 L (by omega)).1 i hi).2
      omega
  · rw [List.mem_singleton.mp hi]
    omega
theorem row_len {P : Ln} {e : Rat} {L : Nat} (h : 0 < L) : (rowQ P e L).length ≤ L + 1 := by
  have h := List.Nodup.length_le_of_subset (l₁ := rowQ P e L) (l₂ := List.range (L + 1)) (by rw [List.Nodup]; exact (row_up P e h).imp fun h => by omega) fun i hi => List.mem_range.mpr (row_lt i hi)
  rw [List.length_range] at h
  exact h
/-! ### equal rows of points -/
theorem eqvAll_refl : ∀ {ds : List D}, (∀ d ∈ ds, PyData.eqv d d = true) → PyData.eqvAll ds ds = true
  | [], _ => rfl
  | d :: ds, h => by
    show (PyData.eqv d d && PyData.eqvAll ds ds) = true
    rw [h d List.mem_cons_self, eqvAll_refl fun d hd => h d (List.mem_cons_of_mem _ hd)]
    rfl
theorem pts_refl {α : Type} (f : α → Pt) (l : List α) : PyData.eqv (.tuple (l.map fun i => ptD (f i))) (.tuple (l.map fun i => ptD (f i))) = true := by
  refine eqvAll_refl (ds := l.map fun i => ptD (f i)) fun d hd => ?_
  obtain ⟨i, _, rfl⟩ := List.mem_map.mp hd
  rw [eqv_pt, decide_eq_true rfl]
theorem pts_lay {α : Type} (f : α → Pt) (l : List α) : SeqAt.shaped (.tuple (l.map fun i => ptD (f i))) = true := by
  have h : Lay 3 (.tuple (l.map fun i => ptD (f i))) := .tup (.of fun d hd => by
    obtain ⟨i, _, rfl⟩ := List.mem_map.mp hd
    exact lay_pt _)
  exact h.shaped
/-! ### drawn points -/
theorem dR_int (i : Int) : dR ((i : Int) : Rat) = .tuple [.int i, .int 1] := by
  unfold dR
  rw [Rat.num_intCast, Rat.den_intCast]
  rfl
theorem drawn_grid {a b : Int} (h0 : 0 ≤ a) (h1 : a < 17) (h2 : 0 ≤ b) (h3 : b < 9) : GridP 2 ⟨Rat.divInt a 2, (b : Rat)⟩ := by
  refine ⟨⟨a, Rat.divInt_eq_div a 2, h0, by omega⟩, ⟨2 * b, ?_, by omega, by omega⟩⟩
  show (b : Rat) = ((2 * b : Int) : Rat) / ((2 : Int) : Rat)
  rw [Rat.intCast_mul]
  grind
theorem draw_pts {K : PySem.W.Frag} {x0 x3 x4 x5 x6 x7 x8 x9 x10 : Sl} : ∀ (ds : List D) (s : DS), s.ok → ∃ (s' : DS) (ps : List Pt), s'.ok ∧ ps.length = ds.length ∧ (∀ p ∈ ps, GridP 2 p) ∧
    LcRel K (gName 2) tYes (tTup (tCons (tCall (spD K C__law_cut) [] E0 (tCons (tTup (tCons (tCall (spD K C__law_draw) [] E0 (tCons (tVar 1) (tCons (tC (.int 17)) tNil))) (tCons (tC (.int 2)) tNil))) tNil)) (tCons (tTup (tCons (tCall (spD K C__law_draw) [] E0 (tCons (tVar 1) (tCons (tC (.int 9)) tNil))) (tCons (tC (.int 1)) tNil))) tNil))) [2] ds
      [x0, .ob true (stO s), .no, x3, x4, x5, x6, x7, x8, x9, x10] (ps.map ptD) [x0, .ob true (stO s'), .no, x3, x4, x5, x6, x7, x8, x9, x10]
  | [], s, hs => ⟨s, [], hs, rfl, (fun p h => nomatch h), .nil⟩
  | d :: ds, s, hs => by
    obtain ⟨s1, a0, a1⟩ := draw_ok hs (b := 17) (by decide)
    obtain ⟨s2, b0, b1⟩ := draw_ok s1 (b := 9) (by decide)
    obtain ⟨s', ps, q1, q2, q3, q4⟩ := draw_pts (K := K) (x0 := x0) (x3 := x3) (x4 := x4) (x5 := x5) (x6 := x6) (x7 := x7) (x8 := x8) (x9 := x9) (x10 := x10) ds (draw (draw s 17).2 9).2 s2
    refine ⟨s', ⟨Rat.divInt (draw s 17).1 2, ((draw (draw s 17).2 9).1 : Rat)⟩ :: ps, q1, congrArg (· + 1) q2, fun p hp => ?_, ?_⟩
    · rcases List.mem_cons.mp hp with rfl | hp
      · exact drawn_grid a0 a1 b0 b1
      · exact q3 p hp
    · refine .go (δb := [x0, .ob true (stO s), .fr d, x3, x4, x5, x6, x7, x8, x9, x10]) bw_name ⟨SameK.refl _, fun E F H σ Q e q => q F H e Grow.refl⟩ (δd := [x0, .ob true (stO (draw (draw s 17).2 9).2), .fr d, x3, x4, x5, x6, x7, x8, x9, x10]) ?_ (fun i hi o z => ?_) q4
      · show EvJ K _ _ (.fr (.tuple [dR (Rat.divInt (draw s 17).1 2), dR ((draw (draw s 17).2 9).1 : Rat)])) _
        rw [dR_int]
        apply ev_tup'
        · apply ea_cons
          · apply ev__law_cut
            · apply ea_cons
              · apply ev_tup'
                · apply ea_cons
                  · apply ev_callS
                    · walk_at "ev"
                    · rfl
                    · rfl
                    · exact ⟨17, hs, by decide, lt_log (n := 5) (by decide) (by decide) (by decide), rfl, rfl, rfl⟩
                    · rfl
                  · walk_at "ev"
                · rfl
                · exact Nat.le_of_ble_eq_true rfl
              · exact ea_nil
            · decide
            · exact Nat.lt_of_lt_of_le (show (2 : Int).natAbs < 2 ^ 2 by decide) (Nat.pow_le_pow_right (by decide) (by decide))
          · apply ea_cons
            · apply ev_tup'
              · apply ea_cons
                · apply ev_callS
                  · walk_at "ev"
                  · rfl
                  · rfl
                  · exact ⟨9, s1, by decide, lt_log (n := 4) (by decide) (by decide) (by decide), rfl, rfl, rfl⟩
                  · rfl
                · walk_at "ev"
              · rfl
              · exact Nat.le_of_ble_eq_true rfl
            · exact ea_nil
        · rfl
        · exact Nat.le_of_ble_eq_true rfl
      · rw [List.mem_singleton.mp hi] at z
        cases z
def lnOf (ps : List Pt) : Ln := fun i => ps.getD i ⟨0, 0⟩
theorem lnOf_ok {ps : List Pt} (h : ∀ p ∈ ps, GridP 2 p) : LnOk (lnOf ps) := fun i => by
  unfold lnOf
  rw [List.getD_eq_getElem?_getD]
  cases q : ps[i]? with
  | none => exact ⟨⟨0, by show (0 : Rat) = _; grind, by decide, by decide⟩, ⟨0, by show (0 : Rat) = _; grind, by decide, by decide⟩⟩
  | some p => exact h p (List.mem_of_getElem? q)
theorem ln_map (ps : List Pt) : ps.map ptD = (List.range ps.length).map fun i => ptD (lnOf ps i) := by
  refine List.ext_getElem? fun i => ?_
  by_cases h : i < ps.length
  · rw [List.getElem?_map, List.getElem?_map, List.getElem?_range h, List.getElem?_eq_getElem h]
    show some (ptD ps[i]) = some (ptD (lnOf ps i))
    unfold lnOf
    rw [List.getD_eq_getElem?_getD, List.getElem?_eq_getElem h]
    rfl
  · rw [List.getElem?_eq_none (by rw [List.length_map]; omega), List.getElem?_eq_none (by rw [List.length_map, List.length_range]; omega)]

end DL
namespace DL
open PySem PySem.Spec PyProof.Rows L2
local macro_rules | `(tactic| walk_at "len") => `(tactic| exact Nat.le_of_ble_eq_true rfl)
local macro_rules | `(tactic| walk_at "np") => `(tactic| (intro o z; cases z))
local macro_rules | `(tactic| walk_at "od") => `(tactic| first
  | exact od_addI | exact od_subI | exact od_subB | exact od_I0b | exact od_I0
  | exact od_ix rfl rfl | exact od_eq rfl rfl rfl rfl | exact od_ne rfl rfl rfl rfl | exact od_isN | exact od_notN
  | with_reducible apply od_mulI | with_reducible apply od_I | exact ud_I)
local macro_rules | `(tactic| walk_at "cd") => `(tactic| first
  | exact cd_len rfl | exact cd_abs | exact cd_int | exact cd_intB | exact cd_gcd | exact cd_tup rfl | exact cd_lst rfl)
local macro_rules | `(tactic| walk_at "ev1") => `(tactic| first
  | exact ev_int | exact ev_bl | exact ev_str | exact ev_non | exact ev_var rfl | exact ev_varO rfl
  | with_reducible apply ev_op | with_reducible apply ev_un
  | exact ea_nil | with_reducible apply ea_cons
  | with_reducible apply ev_isi | with_reducible apply ev_dget
  | with_reducible apply ev_cb
  | with_reducible apply ev_tup' | with_reducible apply ev_lstF
  | with_reducible apply tt_test | with_reducible apply tt_B | with_reducible apply tt_not
  | walk_at "od" | walk_at "cd" | walk_at "len" | rfl)
local macro_rules | `(tactic| walk_at "ev") => `(tactic| repeat' walk_at "ev1")
local macro_rules | `(tactic| walk_at "set") => `(tactic| (with_reducible apply q_set; rotate_left; walk_at "np"; rotate_left; walk_at "ev"))

local macro_rules | `(tactic| walk_at "ev1") => `(tactic| first
  | with_reducible apply ev_plus | with_reducible apply ev_minus | with_reducible apply ev_times | with_reducible apply ev_over | with_reducible apply ev_compare | with_reducible apply ev_fraction)

local macro_rules | `(tactic| walk_at "ev1") => `(tactic| first
  | with_reducible apply ev_gap | with_reducible apply ev_cross | with_reducible apply ev_dot | with_reducible apply ev_compare_points)

local macro_rules | `(tactic| walk_at "ev1") => `(tactic| first
  | with_reducible apply ev__law_sum | with_reducible apply ev__law_gap | with_reducible apply ev__law_product | with_reducible apply ev__law_part | with_reducible apply ev__law_less | with_reducible apply ev__law_cut)

/-! law: slots 0 _law_script, 1 _law_state, 2 _law_k, 3 _law_line, 4 _law_e, 5 _law_kept_here, 6 _law_at, 7 _law_curve_here, 8 _law_n, 9 _law_told, 10 _law_p -/
abbrev s_law : Stmt := topS 45
theorem sc_law : FnScope ["_law_script", "_law_state", "_law_k", "_law_line", "_law_e", "_law_kept_here", "_law_at", "_law_curve_here", "_law_n", "_law_told", "_law_p"] ["_law_script"] (defScope s_law) := ⟨rfl, rfl, rfl, by decide +kernel, rfl, by decide +kernel, by decide +kernel⟩
def t_law (K : PySem.W.Frag) : TS :=
  (tSeq (tAsg (tCall (spD K C__law_start) [] E0 (tCons (tVar 0) tNil)) (gName 1))
    (tSeq (tAsg (tLc (iRng1 (tCons (tOp (rAddU K) (tC (.int 2)) (tCall (spD K C__law_draw) [] E0 (tCons (tVar 1) (tCons (tC (.int 8)) tNil)))) tNil)) (gName 2) tYes (tTup (tCons (tCall (spD K C__law_cut) [] E0 (tCons (tTup (tCons (tCall (spD K C__law_draw) [] E0 (tCons (tVar 1) (tCons (tC (.int 17)) tNil))) (tCons (tC (.int 2)) tNil))) tNil)) (tCons (tTup (tCons (tCall (spD K C__law_draw) [] E0 (tCons (tVar 1) (tCons (tC (.int 9)) tNil))) (tCons (tC (.int 1)) tNil))) tNil))) [2]) (gName 3))
    (tSeq (tIfS (tTest (tOp (rEqD K) (tCall (spD K C__law_draw) [] E0 (tCons (tVar 1) (tCons (tC (.int 4)) tNil))) (tC (.int 0)))) (tDrop (tBM K "list" rAppend (tVar 3) (tCons (tOp (rIx K) (tVar 3) (tC (.int 0))) tNil))) tNext)
    (tSeq (tAsg (tCall (spD K C__law_cut) [] E0 (tCons (tTup (tCons (tCall (spD K C__law_draw) [] E0 (tCons (tVar 1) (tCons (tCall (spD K C__law_pick) [] E0 (tCons (tVar 1) (tCons (tLst (tCons (tC (.int 1)) (tCons (tC (.int 20)) (tCons (tC (.int 200)) tNil)))) tNil))) tNil))) (tCons (tC (.int 4)) tNil))) tNil)) (gName 4))
    (tSeq (tAsg (tOp (rAddU K) (tOp (rAddU K) (tLst (tCons (tC (.int 0)) tNil)) (tCall (spD K (C__law_kept 12)) [] E0 (tCons (tVar 3) (tCons (tC (.int 0)) (tCons (tOp rSubU (tCB (rLenU K) (tCons (tVar 3) tNil)) (tC (.int 1))) (tCons (tVar 4) tNil)))))) (tLst (tCons (tOp rSubU (tCB (rLenU K) (tCons (tVar 3) tNil)) (tC (.int 1))) tNil))) (gName 5))
    (tSeq (tIfS (tTest (tOp (rNeD K) (tCall (spD K C_simpler) [] E0 (tCons (tCB (rTupU K) (tCons (tVar 3) tNil)) (tCons (tVar 4) tNil))) (tCB (rTupU K) (tCons (tLc (iList K (tVar 5)) (gName 6) tYes (tOp (rIx K) (tVar 3) (tVar 6)) [6]) tNil)))) (tRet (tC (.bl false))) tNext)
    (tSeq (tFor (iRng1 (tCons (tOp rSubU (tCB (rLenU K) (tCons (tVar 5) tNil)) (tC (.int 1))) tNil)) (gName 2) (tFor (iRng2 (tCons (tOp (rIx K) (tVar 5) (tVar 2)) (tCons (tOp (rAddU K) (tOp (rIx K) (tVar 5) (tOp (rAddU K) (tVar 2) (tC (.int 1)))) (tC (.int 1))) tNil))) (gName 6) (tIfS (tB (tCall (spD K C__law_less) [] E0 (tCons (tVar 4) (tCons (tCall (spD K C__law_far) [] E0 (tCons (tOp (rIx K) (tVar 3) (tOp (rIx K) (tVar 5) (tVar 2))) (tCons (tOp (rIx K) (tVar 3) (tOp (rIx K) (tVar 5) (tOp (rAddU K) (tVar 2) (tC (.int 1))))) (tCons (tOp (rIx K) (tVar 3) (tVar 6)) tNil)))) tNil)))) (tRet (tC (.bl false))) tNext)))
    (tSeq (tAsg (tCB (rTupU K) (tCons (tLc (iRng1 (tCons (tC (.int 3)) tNil)) (gName 2) tYes (tTup (tCons (tCall (spD K C__law_cut) [] E0 (tCons (tTup (tCons (tCall (spD K C__law_draw) [] E0 (tCons (tVar 1) (tCons (tC (.int 17)) tNil))) (tCons (tC (.int 2)) tNil))) tNil)) (tCons (tTup (tCons (tCall (spD K C__law_draw) [] E0 (tCons (tVar 1) (tCons (tC (.int 9)) tNil))) (tCons (tC (.int 1)) tNil))) tNil))) [2]) tNil)) (gName 7))
    (tSeq (tAsg (tOp (rAddU K) (tC (.int 1)) (tCall (spD K C__law_draw) [] E0 (tCons (tVar 1) (tCons (tC (.int 12)) tNil)))) (gName 8))
    (tSeq (tAsg (tCall (spD K C_flattened) [] E0 (tCons (tVar 7) (tCons (tVar 8) tNil))) (gName 9))
    (tSeq (tIfS (tTest (tOp (rNeD K) (tVar 9) (tCB (rTupU K) (tCons (tLc (iRng1 (tCons (tOp (rAddU K) (tVar 8) (tC (.int 1))) tNil)) (gName 2) tYes (tCall (spD K C__law_curve) [] E0 (tCons (tVar 7) (tCons (tCall (spD K C__law_cut) [] E0 (tCons (tTup (tCons (tVar 2) (tCons (tVar 8) tNil))) tNil)) tNil))) [2]) tNil)))) (tRet (tC (.bl false))) tNext)
    (tSeq (tFor (iRng1 (tCons (tVar 8) tNil)) (gName 2) (tSeq (tAsg (tCall (spD K C__law_curve) [] E0 (tCons (tVar 7) (tCons (tCall (spD K C__law_cut) [] E0 (tCons (tTup (tCons (tOp (rAddU K) (tOp (rMulU K) (tC (.int 7)) (tVar 2)) (tCall (spD K C__law_draw) [] E0 (tCons (tVar 1) (tCons (tC (.int 8)) tNil)))) (tCons (tOp (rMulU K) (tC (.int 7)) (tVar 8)) tNil))) tNil)) tNil))) (gName 10))
    (tIfS (tB (tCall (spD K C__law_less) [] E0 (tCons (tCall (spD K C_lean) [] E0 (tCons (tVar 7) (tCons (tVar 8) tNil))) (tCons (tCall (spD K C__law_far) [] E0 (tCons (tOp (rIx K) (tVar 9) (tVar 2)) (tCons (tOp (rIx K) (tVar 9) (tOp (rAddU K) (tVar 2) (tC (.int 1)))) (tCons (tVar 10) tNil)))) tNil)))) (tRet (tC (.bl false))) tNext)))
    (tSeq (tIfS (tTest (tOp (rNeD K) (tCall (spD K C_lean) [] E0 (tCons (tVar 7) (tCons (tVar 8) tNil))) (tCall (spD K C__law_product) [] E0 (tCons (tTup (tCons (tC (.int 16)) (tCons (tC (.int 1)) tNil))) (tCons (tCall (spD K C_lean) [] E0 (tCons (tVar 7) (tCons (tOp (rMulU K) (tC (.int 2)) (tVar 8)) tNil))) tNil))))) (tRet (tC (.bl false))) tNext)
    (tRet (tOp (rEqD K) (tCall (spD K C__law_under) [] E0 (tCons (tVar 9) tNil)) (tCall (spD K C__law_product) [] E0 (tCons (tCall (spD K C_sweep) [] E0 (tCons (tVar 7) tNil)) (tCons (tCall (spD K C__law_cut) [] E0 (tCons (tTup (tCons (tOp rSubU (tOp (rMulU K) (tVar 8) (tVar 8)) (tC (.int 1))) (tCons (tOp (rMulU K) (tVar 8) (tVar 8)) tNil))) tNil)) tNil))))))))))))))))))
theorem tm_law {P : Program} {w : World} {K : PySem.W.Frag} {mg : Str → Option Value} {base : Heap} (B : Blt mg) (c__law_start : C8.Cal P w K mg base 1 "_law_start" (spD K C__law_start) []) (c__law_cut : C8.Cal P w K mg base 1 "_law_cut" (spD K C__law_cut) []) (c_flattened : C8.Cal P w K mg base 4 "flattened" (spD K C_flattened) []) (c__law_draw : C8.Cal P w K mg base 1 "_law_draw" (spD K C__law_draw) []) (c_simpler : C8.Cal P w K mg base 8 "simpler" (spD K C_simpler) []) (c__law_curve : C8.Cal P w K mg base 3 "_law_curve" (spD K C__law_curve) []) (c__law_less : C8.Cal P w K mg base 1 "_law_less" (spD K C__law_less) []) (c_lean : C8.Cal P w K mg base 4 "lean" (spD K C_lean) []) (c__law_product : C8.Cal P w K mg base 2 "_law_product" (spD K C__law_product) []) (c__law_under : C8.Cal P w K mg base 4 "_law_under" (spD K C__law_under) []) (c__law_kept : C8.Cal P w K mg base 17 "_law_kept" (spD K (C__law_kept 12)) []) (c__law_far : C8.Cal P w K mg base 4 "_law_far" (spD K C__law_far) []) (c_sweep : C8.Cal P w K mg base 4 "sweep" (spD K C_sweep) []) (c__law_pick : C8.Cal P w K mg base 2 "_law_pick" (spD K C__law_pick) []) {f : Addr} {cdv : Value} {A : Around} {outer : List Env} {s : Shared} {H : Hp} {E : XK} (hr : Room 17 (A.deeper (envOfC "law" (defScope s_law) s.heap.objs.size f cdv))) :
    PSs (cxOf CX0 P w K mg base ["_law_script", "_law_state", "_law_k", "_law_line", "_law_e", "_law_kept_here", "_law_at", "_law_curve_here", "_law_n", "_law_told", "_law_p"] "law" (defScope s_law) f cdv A outer s H E).nox (defBody s_law) (t_law K) := by
  have nd := sc_law.nd
  exact (pss_cons (ps_set (i := 1) nd rfl (Or.inr rfl) (C8.pe_c c__law_start hr (by omega) (by rfl) (pa_cons (pv 0) pa_nil)))
    (pss_cons (ps_set (i := 3) nd rfl (Or.inr rfl) (pe_lc (own := [("_law_k", 2)]) (g := (gName 2)) (tt := tYes) rfl nd (pi_range1 (by rfl) B.range_ (pa_cons (pe_op op_addU pe_int (C8.pe_c c__law_draw hr (by omega) (by rfl) (pa_cons (pv 1) (pa_cons pe_int pa_nil)))) pa_nil)) (blkOk_by (N := ["_law_script", "_law_state", "_law_k", "_law_line", "_law_e", "_law_kept_here", "_law_at", "_law_curve_here", "_law_n", "_law_told", "_law_p"]) (sc := defScope s_law) (by decide +kernel)) (fun _ _ _ _ _ => (pg_name (i := 2) nd rfl (Or.inl rfl))) (fun _ _ _ _ _ => pts_nil) (fun _ _ _ _ _ => (pe_tup (pa_cons (C8.pe_c c__law_cut hr (by omega) (by rfl) (pa_cons (pe_tup (pa_cons (C8.pe_c c__law_draw hr (by omega) (by rfl) (pa_cons (pv 1) (pa_cons pe_int pa_nil))) (pa_cons pe_int pa_nil))) pa_nil)) (pa_cons (pe_tup (pa_cons (C8.pe_c c__law_draw hr (by omega) (by rfl) (pa_cons (pv 1) (pa_cons pe_int pa_nil))) (pa_cons pe_int pa_nil))) pa_nil))))))
    (pss_cons (ps_if (pt_cmpR (op_eqD hr.units) (C8.pe_c c__law_draw hr (by omega) (by rfl) (pa_cons (pv 1) (pa_cons pe_int pa_nil))) pe_int (nomark _)) (pss_one (ps_expr (pe_bm PySem.F.plainAttrs_list PySem.F.slot_list_append PySem.F.type_list_append mt_append (pv 3) (pa_cons (pe_ix ix_seq (pv 3) pe_int (fun _ _ => rfl)) pa_nil)))) pss_nil)
    (pss_cons (ps_set (i := 4) nd rfl (Or.inl rfl) (C8.pe_c c__law_cut hr (by omega) (by rfl) (pa_cons (pe_tup (pa_cons (C8.pe_c c__law_draw hr (by omega) (by rfl) (pa_cons (pv 1) (pa_cons (C8.pe_c c__law_pick hr (by omega) (by rfl) (pa_cons (pv 1) (pa_cons (pe_lst (pa_cons pe_int (pa_cons pe_int (pa_cons pe_int pa_nil)))) pa_nil))) pa_nil))) (pa_cons pe_int pa_nil))) pa_nil)))
    (pss_cons (ps_set (i := 5) nd rfl (Or.inl rfl) (pe_op op_addU (pe_op op_addU (pe_lst (pa_cons pe_int pa_nil)) (C8.pe_c c__law_kept hr (by omega) (by rfl) (pa_cons (pv 3) (pa_cons pe_int (pa_cons (pe_op op_subU (pe_callB call_lenU (by rfl) B.len_ PySem.boot_len (pa_cons (pv 3) pa_nil)) pe_int) (pa_cons (pv 4) pa_nil)))))) (pe_lst (pa_cons (pe_op op_subU (pe_callB call_lenU (by rfl) B.len_ PySem.boot_len (pa_cons (pv 3) pa_nil)) pe_int) pa_nil))))
    (pss_cons (ps_if (pt_cmpR (op_neD hr.units) (C8.pe_c c_simpler hr (by omega) (by rfl) (pa_cons (pe_callTy call_tupU (by rfl) B.tuple_ boot_tuple (pa_cons (pv 3) pa_nil)) (pa_cons (pv 4) pa_nil))) (pe_callTy call_tupU (by rfl) B.tuple_ boot_tuple (pa_cons (pe_lc (own := [("_law_at", 6)]) (g := (gName 6)) (tt := tYes) rfl nd (pi_list (pv 5)) (blkOk_by (N := ["_law_script", "_law_state", "_law_k", "_law_line", "_law_e", "_law_kept_here", "_law_at", "_law_curve_here", "_law_n", "_law_told", "_law_p"]) (sc := defScope s_law) (by decide +kernel)) (fun _ _ _ _ _ => (pg_name (i := 6) nd rfl (Or.inl rfl))) (fun _ _ _ _ _ => pts_nil) (fun _ _ _ _ _ => (pe_ix ix_seq (pv 3) (pv 6) (fun _ _ => rfl)))) pa_nil)) (nomark _)) (pss_one (ps_ret pe_bl)) pss_nil)
    (pss_cons (ps_for PassesOwn.never rfl (pi_range1 (by rfl) B.range_ (pa_cons (pe_op op_subU (pe_callB call_lenU (by rfl) B.len_ PySem.boot_len (pa_cons (pv 5) pa_nil)) pe_int) pa_nil)) (pg_name (i := 2) nd rfl (Or.inl rfl)) (pss_one (ps_for PassesOwn.never rfl (pi_range2 (by rfl) B.range_ (pa_cons (pe_ix ix_seq (pv 5) (pv 2) (fun _ _ => rfl)) (pa_cons (pe_op op_addU (pe_ix ix_seq (pv 5) (pe_op op_addU (pv 2) pe_int) (fun _ _ => rfl)) pe_int) pa_nil))) (pg_name (i := 6) nd rfl (Or.inl rfl)) (pss_one (ps_if (pt_val (C8.pe_c c__law_less hr (by omega) (by rfl) (pa_cons (pv 4) (pa_cons (C8.pe_c c__law_far hr (by omega) (by rfl) (pa_cons (pe_ix ix_seq (pv 3) (pe_ix ix_seq (pv 5) (pv 2) (fun _ _ => rfl)) (fun _ _ => rfl)) (pa_cons (pe_ix ix_seq (pv 3) (pe_ix ix_seq (pv 5) (pe_op op_addU (pv 2) pe_int) (fun _ _ => rfl)) (fun _ _ => rfl)) (pa_cons (pe_ix ix_seq (pv 3) (pv 6) (fun _ _ => rfl)) pa_nil)))) pa_nil)))) (pss_one (ps_ret pe_bl)) pss_nil)))))
    (pss_cons (ps_set (i := 7) nd rfl (Or.inr rfl) (pe_callTy call_tupU (by rfl) B.tuple_ boot_tuple (pa_cons (pe_lc (own := [("_law_k", 2)]) (g := (gName 2)) (tt := tYes) rfl nd (pi_range1 (by rfl) B.range_ (pa_cons pe_int pa_nil)) (blkOk_by (N := ["_law_script", "_law_state", "_law_k", "_law_line", "_law_e", "_law_kept_here", "_law_at", "_law_curve_here", "_law_n", "_law_told", "_law_p"]) (sc := defScope s_law) (by decide +kernel)) (fun _ _ _ _ _ => (pg_name (i := 2) nd rfl (Or.inl rfl))) (fun _ _ _ _ _ => pts_nil) (fun _ _ _ _ _ => (pe_tup (pa_cons (C8.pe_c c__law_cut hr (by omega) (by rfl) (pa_cons (pe_tup (pa_cons (C8.pe_c c__law_draw hr (by omega) (by rfl) (pa_cons (pv 1) (pa_cons pe_int pa_nil))) (pa_cons pe_int pa_nil))) pa_nil)) (pa_cons (pe_tup (pa_cons (C8.pe_c c__law_draw hr (by omega) (by rfl) (pa_cons (pv 1) (pa_cons pe_int pa_nil))) (pa_cons pe_int pa_nil))) pa_nil))))) pa_nil)))
    (pss_cons (ps_set (i := 8) nd rfl (Or.inr rfl) (pe_op op_addU pe_int (C8.pe_c c__law_draw hr (by omega) (by rfl) (pa_cons (pv 1) (pa_cons pe_int pa_nil)))))
    (pss_cons (ps_set (i := 9) nd rfl (Or.inl rfl) (C8.pe_c c_flattened hr (by omega) (by rfl) (pa_cons (pv 7) (pa_cons (pv 8) pa_nil))))
    (pss_cons (ps_if (pt_cmpR (op_neD hr.units) (pv 9) (pe_callTy call_tupU (by rfl) B.tuple_ boot_tuple (pa_cons (pe_lc (own := [("_law_k", 2)]) (g := (gName 2)) (tt := tYes) rfl nd (pi_range1 (by rfl) B.range_ (pa_cons (pe_op op_addU (pv 8) pe_int) pa_nil)) (blkOk_by (N := ["_law_script", "_law_state", "_law_k", "_law_line", "_law_e", "_law_kept_here", "_law_at", "_law_curve_here", "_law_n", "_law_told", "_law_p"]) (sc := defScope s_law) (by decide +kernel)) (fun _ _ _ _ _ => (pg_name (i := 2) nd rfl (Or.inl rfl))) (fun _ _ _ _ _ => pts_nil) (fun _ _ _ _ _ => (C8.pe_c c__law_curve hr (by omega) (by rfl) (pa_cons (pv 7) (pa_cons (C8.pe_c c__law_cut hr (by omega) (by rfl) (pa_cons (pe_tup (pa_cons (pv 2) (pa_cons (pv 8) pa_nil))) pa_nil)) pa_nil))))) pa_nil)) (nomark _)) (pss_one (ps_ret pe_bl)) pss_nil)
    (pss_cons (ps_for PassesOwn.never rfl (pi_range1 (by rfl) B.range_ (pa_cons (pv 8) pa_nil)) (pg_name (i := 2) nd rfl (Or.inl rfl)) (pss_cons (ps_set (i := 10) nd rfl (Or.inl rfl) (C8.pe_c c__law_curve hr (by omega) (by rfl) (pa_cons (pv 7) (pa_cons (C8.pe_c c__law_cut hr (by omega) (by rfl) (pa_cons (pe_tup (pa_cons (pe_op op_addU (pe_op op_mulU pe_int (pv 2)) (C8.pe_c c__law_draw hr (by omega) (by rfl) (pa_cons (pv 1) (pa_cons pe_int pa_nil)))) (pa_cons (pe_op op_mulU pe_int (pv 8)) pa_nil))) pa_nil)) pa_nil))))
    (pss_one (ps_if (pt_val (C8.pe_c c__law_less hr (by omega) (by rfl) (pa_cons (C8.pe_c c_lean hr (by omega) (by rfl) (pa_cons (pv 7) (pa_cons (pv 8) pa_nil))) (pa_cons (C8.pe_c c__law_far hr (by omega) (by rfl) (pa_cons (pe_ix ix_seq (pv 9) (pv 2) (fun _ _ => rfl)) (pa_cons (pe_ix ix_seq (pv 9) (pe_op op_addU (pv 2) pe_int) (fun _ _ => rfl)) (pa_cons (pv 10) pa_nil)))) pa_nil)))) (pss_one (ps_ret pe_bl)) pss_nil))))
    (pss_cons (ps_if (pt_cmpR (op_neD hr.units) (C8.pe_c c_lean hr (by omega) (by rfl) (pa_cons (pv 7) (pa_cons (pv 8) pa_nil))) (C8.pe_c c__law_product hr (by omega) (by rfl) (pa_cons (pe_tup (pa_cons pe_int (pa_cons pe_int pa_nil))) (pa_cons (C8.pe_c c_lean hr (by omega) (by rfl) (pa_cons (pv 7) (pa_cons (pe_op op_mulU pe_int (pv 8)) pa_nil))) pa_nil))) (nomark _)) (pss_one (ps_ret pe_bl)) pss_nil)
    (pss_one (ps_ret (pe_cmpR (op_eqD hr.units) (C8.pe_c c__law_under hr (by omega) (by rfl) (pa_cons (pv 9) pa_nil)) (C8.pe_c c__law_product hr (by omega) (by rfl) (pa_cons (C8.pe_c c_sweep hr (by omega) (by rfl) (pa_cons (pv 7) pa_nil)) (pa_cons (C8.pe_c c__law_cut hr (by omega) (by rfl) (pa_cons (pe_tup (pa_cons (pe_op op_subU (pe_op op_mulU (pv 8) (pv 8)) pe_int) (pa_cons (pe_op op_mulU (pv 8) (pv 8)) pa_nil))) pa_nil)) pa_nil))) (nomark _)))))))))))))))))

def t_lawA (K : PySem.W.Frag) : TS :=
  (tSeq (tAsg (tCall (spD K C__law_cut) [] E0 (tCons (tTup (tCons (tCall (spD K C__law_draw) [] E0 (tCons (tVar 1) (tCons (tCall (spD K C__law_pick) [] E0 (tCons (tVar 1) (tCons (tLst (tCons (tC (.int 1)) (tCons (tC (.int 20)) (tCons (tC (.int 200)) tNil)))) tNil))) tNil))) (tCons (tC (.int 4)) tNil))) tNil)) (gName 4))
    (tSeq (tAsg (tOp (rAddU K) (tOp (rAddU K) (tLst (tCons (tC (.int 0)) tNil)) (tCall (spD K (C__law_kept 12)) [] E0 (tCons (tVar 3) (tCons (tC (.int 0)) (tCons (tOp rSubU (tCB (rLenU K) (tCons (tVar 3) tNil)) (tC (.int 1))) (tCons (tVar 4) tNil)))))) (tLst (tCons (tOp rSubU (tCB (rLenU K) (tCons (tVar 3) tNil)) (tC (.int 1))) tNil))) (gName 5))
    (tSeq (tIfS (tTest (tOp (rNeD K) (tCall (spD K C_simpler) [] E0 (tCons (tCB (rTupU K) (tCons (tVar 3) tNil)) (tCons (tVar 4) tNil))) (tCB (rTupU K) (tCons (tLc (iList K (tVar 5)) (gName 6) tYes (tOp (rIx K) (tVar 3) (tVar 6)) [6]) tNil)))) (tRet (tC (.bl false))) tNext)
    (tSeq (tFor (iRng1 (tCons (tOp rSubU (tCB (rLenU K) (tCons (tVar 5) tNil)) (tC (.int 1))) tNil)) (gName 2) (tFor (iRng2 (tCons (tOp (rIx K) (tVar 5) (tVar 2)) (tCons (tOp (rAddU K) (tOp (rIx K) (tVar 5) (tOp (rAddU K) (tVar 2) (tC (.int 1)))) (tC (.int 1))) tNil))) (gName 6) (tIfS (tB (tCall (spD K C__law_less) [] E0 (tCons (tVar 4) (tCons (tCall (spD K C__law_far) [] E0 (tCons (tOp (rIx K) (tVar 3) (tOp (rIx K) (tVar 5) (tVar 2))) (tCons (tOp (rIx K) (tVar 3) (tOp (rIx K) (tVar 5) (tOp (rAddU K) (tVar 2) (tC (.int 1))))) (tCons (tOp (rIx K) (tVar 3) (tVar 6)) tNil)))) tNil)))) (tRet (tC (.bl false))) tNext)))
    (tSeq (tAsg (tCB (rTupU K) (tCons (tLc (iRng1 (tCons (tC (.int 3)) tNil)) (gName 2) tYes (tTup (tCons (tCall (spD K C__law_cut) [] E0 (tCons (tTup (tCons (tCall (spD K C__law_draw) [] E0 (tCons (tVar 1) (tCons (tC (.int 17)) tNil))) (tCons (tC (.int 2)) tNil))) tNil)) (tCons (tTup (tCons (tCall (spD K C__law_draw) [] E0 (tCons (tVar 1) (tCons (tC (.int 9)) tNil))) (tCons (tC (.int 1)) tNil))) tNil))) [2]) tNil)) (gName 7))
    (tSeq (tAsg (tOp (rAddU K) (tC (.int 1)) (tCall (spD K C__law_draw) [] E0 (tCons (tVar 1) (tCons (tC (.int 12)) tNil)))) (gName 8))
    (tSeq (tAsg (tCall (spD K C_flattened) [] E0 (tCons (tVar 7) (tCons (tVar 8) tNil))) (gName 9))
    (tSeq (tIfS (tTest (tOp (rNeD K) (tVar 9) (tCB (rTupU K) (tCons (tLc (iRng1 (tCons (tOp (rAddU K) (tVar 8) (tC (.int 1))) tNil)) (gName 2) tYes (tCall (spD K C__law_curve) [] E0 (tCons (tVar 7) (tCons (tCall (spD K C__law_cut) [] E0 (tCons (tTup (tCons (tVar 2) (tCons (tVar 8) tNil))) tNil)) tNil))) [2]) tNil)))) (tRet (tC (.bl false))) tNext)
    (tSeq (tFor (iRng1 (tCons (tVar 8) tNil)) (gName 2) (tSeq (tAsg (tCall (spD K C__law_curve) [] E0 (tCons (tVar 7) (tCons (tCall (spD K C__law_cut) [] E0 (tCons (tTup (tCons (tOp (rAddU K) (tOp (rMulU K) (tC (.int 7)) (tVar 2)) (tCall (spD K C__law_draw) [] E0 (tCons (tVar 1) (tCons (tC (.int 8)) tNil)))) (tCons (tOp (rMulU K) (tC (.int 7)) (tVar 8)) tNil))) tNil)) tNil))) (gName 10))
    (tIfS (tB (tCall (spD K C__law_less) [] E0 (tCons (tCall (spD K C_lean) [] E0 (tCons (tVar 7) (tCons (tVar 8) tNil))) (tCons (tCall (spD K C__law_far) [] E0 (tCons (tOp (rIx K) (tVar 9) (tVar 2)) (tCons (tOp (rIx K) (tVar 9) (tOp (rAddU K) (tVar 2) (tC (.int 1)))) (tCons (tVar 10) tNil)))) tNil)))) (tRet (tC (.bl false))) tNext)))
    (tSeq (tIfS (tTest (tOp (rNeD K) (tCall (spD K C_lean) [] E0 (tCons (tVar 7) (tCons (tVar 8) tNil))) (tCall (spD K C__law_product) [] E0 (tCons (tTup (tCons (tC (.int 16)) (tCons (tC (.int 1)) tNil))) (tCons (tCall (spD K C_lean) [] E0 (tCons (tVar 7) (tCons (tOp (rMulU K) (tC (.int 2)) (tVar 8)) tNil))) tNil))))) (tRet (tC (.bl false))) tNext)
    (tRet (tOp (rEqD K) (tCall (spD K C__law_under) [] E0 (tCons (tVar 9) tNil)) (tCall (spD K C__law_product) [] E0 (tCons (tCall (spD K C_sweep) [] E0 (tCons (tVar 7) tNil)) (tCons (tCall (spD K C__law_cut) [] E0 (tCons (tTup (tCons (tOp rSubU (tOp (rMulU K) (tVar 8) (tVar 8)) (tC (.int 1))) (tCons (tOp (rMulU K) (tVar 8) (tVar 8)) tNil))) tNil)) tNil)))))))))))))))

def t_lawB (K : PySem.W.Frag) : TS :=
  (tSeq (tAsg (tCB (rTupU K) (tCons (tLc (iRng1 (tCons (tC (.int 3)) tNil)) (gName 2) tYes (tTup (tCons (tCall (spD K C__law_cut) [] E0 (tCons (tTup (tCons (tCall (spD K C__law_draw) [] E0 (tCons (tVar 1) (tCons (tC (.int 17)) tNil))) (tCons (tC (.int 2)) tNil))) tNil)) (tCons (tTup (tCons (tCall (spD K C__law_draw) [] E0 (tCons (tVar 1) (tCons (tC (.int 9)) tNil))) (tCons (tC (.int 1)) tNil))) tNil))) [2]) tNil)) (gName 7))
    (tSeq (tAsg (tOp (rAddU K) (tC (.int 1)) (tCall (spD K C__law_draw) [] E0 (tCons (tVar 1) (tCons (tC (.int 12)) tNil)))) (gName 8))
    (tSeq (tAsg (tCall (spD K C_flattened) [] E0 (tCons (tVar 7) (tCons (tVar 8) tNil))) (gName 9))
    (tSeq (tIfS (tTest (tOp (rNeD K) (tVar 9) (tCB (rTupU K) (tCons (tLc (iRng1 (tCons (tOp (rAddU K) (tVar 8) (tC (.int 1))) tNil)) (gName 2) tYes (tCall (spD K C__law_curve) [] E0 (tCons (tVar 7) (tCons (tCall (spD K C__law_cut) [] E0 (tCons (tTup (tCons (tVar 2) (tCons (tVar 8) tNil))) tNil)) tNil))) [2]) tNil)))) (tRet (tC (.bl false))) tNext)
    (tSeq (tFor (iRng1 (tCons (tVar 8) tNil)) (gName 2) (tSeq (tAsg (tCall (spD K C__law_curve) [] E0 (tCons (tVar 7) (tCons (tCall (spD K C__law_cut) [] E0 (tCons (tTup (tCons (tOp (rAddU K) (tOp (rMulU K) (tC (.int 7)) (tVar 2)) (tCall (spD K C__law_draw) [] E0 (tCons (tVar 1) (tCons (tC (.int 8)) tNil)))) (tCons (tOp (rMulU K) (tC (.int 7)) (tVar 8)) tNil))) tNil)) tNil))) (gName 10))
    (tIfS (tB (tCall (spD K C__law_less) [] E0 (tCons (tCall (spD K C_lean) [] E0 (tCons (tVar 7) (tCons (tVar 8) tNil))) (tCons (tCall (spD K C__law_far) [] E0 (tCons (tOp (rIx K) (tVar 9) (tVar 2)) (tCons (tOp (rIx K) (tVar 9) (tOp (rAddU K) (tVar 2) (tC (.int 1)))) (tCons (tVar 10) tNil)))) tNil)))) (tRet (tC (.bl false))) tNext)))
    (tSeq (tIfS (tTest (tOp (rNeD K) (tCall (spD K C_lean) [] E0 (tCons (tVar 7) (tCons (tVar 8) tNil))) (tCall (spD K C__law_product) [] E0 (tCons (tTup (tCons (tC (.int 16)) (tCons (tC (.int 1)) tNil))) (tCons (tCall (spD K C_lean) [] E0 (tCons (tVar 7) (tCons (tOp (rMulU K) (tC (.int 2)) (tVar 8)) tNil))) tNil))))) (tRet (tC (.bl false))) tNext)
    (tRet (tOp (rEqD K) (tCall (spD K C__law_under) [] E0 (tCons (tVar 9) tNil)) (tCall (spD K C__law_product) [] E0 (tCons (tCall (spD K C_sweep) [] E0 (tCons (tVar 7) tNil)) (tCons (tCall (spD K C__law_cut) [] E0 (tCons (tTup (tCons (tOp rSubU (tOp (rMulU K) (tVar 8) (tVar 8)) (tC (.int 1))) (tCons (tOp (rMulU K) (tVar 8) (tVar 8)) tNil))) tNil)) tNil)))))))))))

theorem scale7 {k n : Int} (hn : n ≠ 0) : ((7 * k : Int) : Rat) / ((7 * n : Int) : Rat) = (k : Rat) / (n : Rat) := by
  have h : (n : Rat) ≠ 0 := fun z => hn (by exact_mod_cast z)
  rw [Rat.intCast_mul, Rat.intCast_mul]
  grind
theorem near_eq {v : Cv} {k n d : Int} (hn : 0 < n) (h0 : 0 ≤ d) (h1 : d ≤ 7) : farQ (v.at ((k : Rat) / (n : Rat))) (v.at (((k + 1 : Int) : Rat) / (n : Rat))) (v.at (((7 * k + d : Int) : Rat) / ((7 * n : Int) : Rat))) ≤ dotQ v.bend v.bend * (1 / (16 * (n : Rat) * (n : Rat) * (n : Rat) * (n : Rat))) := by
  have h : (n : Rat) ≠ 0 := fun z => by
    have : n = 0 := by exact_mod_cast z
    omega
  have d0 : (0 : Rat) ≤ (d : Rat) / 7 := by
    have : (0 : Rat) ≤ (d : Rat) := by exact_mod_cast h0
    grind
  have d1 : (d : Rat) / 7 ≤ 1 := by
    have : (d : Rat) ≤ ((7 : Int) : Rat) := by exact_mod_cast h1
    have e : ((7 : Int) : Rat) = 7 := rfl
    grind
  have H := near_curve v (t0 := (k : Rat) / (n : Rat)) (h := 1 / (n : Rat)) d0 d1
  have e1 : (k : Rat) / (n : Rat) + 1 / (n : Rat) = ((k + 1 : Int) : Rat) / (n : Rat) := by
    rw [Rat.intCast_add]
    have : ((1 : Int) : Rat) = 1 := rfl
    grind
  have e2 : (k : Rat) / (n : Rat) + (d : Rat) / 7 * (1 / (n : Rat)) = ((7 * k + d : Int) : Rat) / ((7 * n : Int) : Rat) := by
    rw [Rat.intCast_add, Rat.intCast_mul, Rat.intCast_mul]
    have : ((7 : Int) : Rat) = 7 := rfl
    grind
  have e3 : 1 / (n : Rat) * (1 / (n : Rat)) * (1 / (n : Rat) * (1 / (n : Rat))) / 16 = 1 / (16 * (n : Rat) * (n : Rat) * (n : Rat) * (n : Rat)) := by grind
  rw [e1, e2, e3] at H
  exact H
theorem lean_eq (v : Cv) (n : Nat) : leanQ v n = dotQ v.bend v.bend * (1 / (16 * ((n : Int) : Rat) * ((n : Int) : Rat) * ((n : Int) : Rat) * ((n : Int) : Rat))) := by
  unfold leanQ
  rw [Rat.divInt_eq_div]
  simp only [Rat.intCast_mul]
  rfl
theorem lean_16 (v : Cv) {n : Nat} (hn : 0 < n) : leanQ v n = 16 * leanQ v (2 * n) := by
  rw [lean_eq, lean_eq]
  have h : ((n : Int) : Rat) ≠ 0 := fun z => by
    have : (n : Int) = 0 := by exact_mod_cast z
    omega
  have e : (((2 * n : Nat) : Int) : Rat) = 2 * ((n : Int) : Rat) := by
    rw [Int.natCast_mul, Rat.intCast_mul]
    rfl
  rw [e]
  generalize ((n : Int) : Rat) = x at *
  generalize dotQ v.bend v.bend = y at *
  grind
def EnB (x0 : Sl) (s : DS) (x2 x3 x4 x5 x6 : Sl) (v : Cv) (n : Nat) (x10 : Sl) : List Sl := [x0, .ob true (stO s), x2, x3, x4, x5, x6, .fr (cvD v), .fr (.int (n : Int)), .fr (flatD v n), x10]
theorem grid7 {v : Cv} (hv : CvOk v) {n k : Nat} (h0 : 0 < n) (h1 : n ≤ 12) (hk : k ≤ n) : GridP (2 * (((7 * n : Int)) * (7 * n : Int))) (v.at (((k : Int) : Rat) / ((n : Int) : Rat))) := by
  have h := at_grid (M := 7 * (k : Int)) (N := 7 * (n : Int)) hv ⟨by omega, by omega, by omega, by omega⟩
  rw [scale7 (by omega)] at h
  exact h
theorem loopB {K : PySem.W.Frag} {x0 x3 x4 x5 x6 : Sl} {v : Cv} {n : Nat} (hv : CvOk v) (h0 : 0 < n) (h1 : n ≤ 12) : ∀ (l : List Nat) (s : DS) (x2 x10 : Sl), s.ok → (∀ k ∈ l, k < n) → Dat x2 → Dat x10 → ∃ s' y2 y10, s'.ok ∧ Dat y2 ∧ Dat y10 ∧
    ForRel K (gName 2) (tSeq (tAsg (tCall (spD K C__law_curve) [] E0 (tCons (tVar 7) (tCons (tCall (spD K C__law_cut) [] E0 (tCons (tTup (tCons (tOp (rAddU K) (tOp (rMulU K) (tC (.int 7)) (tVar 2)) (tCall (spD K C__law_draw) [] E0 (tCons (tVar 1) (tCons (tC (.int 8)) tNil)))) (tCons (tOp (rMulU K) (tC (.int 7)) (tVar 8)) tNil))) tNil)) tNil))) (gName 10))
    (tIfS (tB (tCall (spD K C__law_less) [] E0 (tCons (tCall (spD K C_lean) [] E0 (tCons (tVar 7) (tCons (tVar 8) tNil))) (tCons (tCall (spD K C__law_far) [] E0 (tCons (tOp (rIx K) (tVar 9) (tVar 2)) (tCons (tOp (rIx K) (tVar 9) (tOp (rAddU K) (tVar 2) (tC (.int 1)))) (tCons (tVar 10) tNil)))) tNil)))) (tRet (tC (.bl false))) tNext))
      (l.map fun i : Nat => PyData.int (i : Int)) (EnB x0 s x2 x3 x4 x5 x6 v n x10) (.nx (EnB x0 s' y2 x3 x4 x5 x6 v n y10))
  | [], s, x2, x10, hs, _, d2, d10 => ⟨s, x2, x10, hs, d2, d10, .nil⟩
  | k :: l, s, x2, x10, hs, hl, d2, d10 => by
    have hk := hl k List.mem_cons_self
    obtain ⟨s1, a0, a1⟩ := draw_ok hs (b := 8) (by decide)
    let d := (draw s 8).1
    let p : Pt := v.at (((7 * (k : Int) + d : Int) : Rat) / ((7 * (n : Int) : Int) : Rat))
    have hT : TOk (7 * (k : Int) + d) (7 * (n : Int)) := ⟨by omega, by omega, by omega, by omega⟩
    have gp : GridP (2 * ((7 * (n : Int)) * (7 * (n : Int)))) p := at_grid hv hT
    have gok : DOk (2 * ((7 * (n : Int)) * (7 * (n : Int)))) := grid_ok (by omega) (by omega)
    have g0 := grid7 (k := k) hv h0 h1 (by omega)
    have g1 := grid7 (k := k + 1) hv h0 h1 (by omega)
    obtain ⟨s', y2, y10, q1, q2, q3, q4⟩ := loopB (K := K) (x0 := x0) (x3 := x3) (x4 := x4) (x5 := x5) (x6 := x6) hv h0 h1 l (draw s 8).2 (.fr (.int (k : Int))) (.fr (ptD p)) s1 (fun k h => hl k (List.mem_cons_of_mem _ h)) trivial trivial
    refine ⟨s', y2, y10, q1, q2, q3, .go (δb := EnB x0 s (.fr (.int (k : Int))) x3 x4 x5 x6 v n x10) (bj_name (np_at rfl d2)) ?_ q4⟩
    apply q_set (δ1 := EnB x0 (draw s 8).2 (.fr (.int (k : Int))) x3 x4 x5 x6 v n x10) (d := ptD p)
    · apply ev_callP (ds := [cvD v, dR (((7 * (k : Int) + d : Int) : Rat) / ((7 * (n : Int) : Int) : Rat))])
      · apply ea_cons
        · exact ev_var rfl
        · refine ea_cons (r := .fr (dR (((7 * (k : Int) + d : Int) : Rat) / ((7 * (n : Int) : Int) : Rat)))) ?_ ea_nil
          rw [← Rat.divInt_eq_div]
          apply ev__law_cut
          · apply ea_cons
            · apply ev_tup'
              · apply ea_cons
                · apply ev_op
                  · exact ev_op ev_int (ev_var rfl) (od_mulI (mulB_of (n := 3) (m := 4) (by decide) (by omega) (by decide)))
                  · apply ev_callS
                    · walk_at "ev"
                    · rfl
                    · rfl
                    · exact ⟨8, hs, by decide, lt_log (n := 4) (by decide) (by decide) (by decide), rfl, rfl, rfl⟩
                    · rfl
                  · exact od_addI
                · apply ea_cons
                  · exact ev_op ev_int (ev_var rfl) (od_mulI (mulB_of (n := 3) (m := 4) (by decide) (by omega) (by decide)))
                  · exact ea_nil
              · rfl
              · exact Nat.le_of_ble_eq_true rfl
            · exact ea_nil
          · omega
          · exact Nat.lt_of_lt_of_le (show (7 * (n : Int)).natAbs < 2 ^ 7 by omega) (Nat.pow_le_pow_right (by decide) (by decide))
      · rfl
      · exact ⟨v, _, _, hv, hT, rfl, rfl⟩
    · exact np_at rfl d10
    show StJ K _ (EnB x0 (draw s 8).2 (.fr (.int (k : Int))) x3 x4 x5 x6 v n (.fr (ptD p))) _
    have fl := (lean_fit hv h0 (by omega : n ≤ 24)).1
    have ff := far_fit gok g0 g1 gp
    have le : farQ (v.at (((k : Int) : Rat) / ((n : Int) : Rat))) (v.at ((((k + 1 : Nat) : Int) : Rat) / ((n : Int) : Rat))) p ≤ leanQ v n := by
      rw [lean_eq]
      exact near_eq (v := v) (k := (k : Int)) (n := (n : Int)) (d := d) (by omega) a0 (by omega)
    apply st_if (b := decide (leanQ v n < farQ (v.at (((k : Int) : Rat) / ((n : Int) : Rat))) (v.at ((((k + 1 : Nat) : Int) : Rat) / ((n : Int) : Rat))) p)) (δ1 := EnB x0 (draw s 8).2 (.fr (.int (k : Int))) x3 x4 x5 x6 v n (.fr (ptD p)))
    · apply tt_B
      apply ev__law_less
      · apply ea_cons
        · apply ev_callP
          · walk_at "ev"
          · rfl
          · exact ⟨v, n, hv, h0, by omega, rfl, rfl⟩
        · apply ea_cons
          · apply ev_callP
            · exact ea_cons (ev_op (ev_var rfl) (ev_var rfl) (od_ix rfl (flat_at (k := k) (by omega)))) (ea_cons (ev_op (ev_var rfl) (ev_op (ev_var rfl) ev_int od_addI) (od_ix rfl (flat_at (k := k + 1) (by omega)))) (ea_cons (ev_var rfl) ea_nil))
            · rfl
            · exact ⟨_, _, _, p, gok, g0, g1, gp, rfl, rfl⟩
          · exact ea_nil
      · exact ⟨310, 429, fl, ff, by decide⟩
    · intro z
      have := of_decide_eq_true z
      grind
    · intro _
      exact st_next
theorem law_b {K : PySem.W.Frag} {x0 x2 x3 x4 x5 x6 : Sl} {s : DS} (hs : s.ok) (d2 : Dat x2) : WJ K (t_lawB K) [x0, .ob true (stO s), x2, x3, x4, x5, x6, .no, .no, .no, .no] := by
  obtain ⟨s1, ps, a1, a2, a3, a4⟩ := draw_pts (K := K) (x0 := x0) (x3 := x3) (x4 := x4) (x5 := x5) (x6 := x6) (x7 := .no) (x8 := .no) (x9 := .no) (x10 := .no) (rngD 0 (3 : Int).toNat) s hs
  rw [rngD_len] at a2
  obtain ⟨pa, pc, pb, rfl⟩ : ∃ pa pc pb, ps = [pa, pc, pb] := match ps, a2 with
    | [a, b, c], _ => ⟨a, b, c, rfl⟩
  let v : Cv := ⟨pa, pc, pb⟩
  have hv : CvOk v := ⟨a3 pa (by simp), a3 pc (by simp), a3 pb (by simp)⟩
  apply w_set (δ1 := [x0, .ob true (stO s1), x2, x3, x4, x5, x6, .no, .no, .no, .no]) (d := cvD v)
  · apply ev_cb
    · apply ea_cons
      · refine ev_lc (δ1 := [x0, .ob true (stO s), x2, x3, x4, x5, x6, .no, .no, .no, .no]) (src_rng1 (n := 3) (ea_cons ev_int ea_nil) (by decide) (by decide)) a4 rfl rfl (fun i hi => ?_) (by rw [rngD_len]; decide)
        rw [List.mem_singleton.mp hi]
        exact np_at rfl d2
      · exact ea_nil
    · exact cd_tup rfl
  · walk_at "np"
  obtain ⟨s2, b0, b1⟩ := draw_ok a1 (b := 12) (by decide)
  obtain ⟨n, hn⟩ : ∃ n : Nat, 1 + (draw s1 12).1 = (n : Int) := ⟨(1 + (draw s1 12).1).toNat, by omega⟩
  have h0 : 0 < n := by omega
  have h1 : n ≤ 12 := by omega
  apply w_set (δ1 := [x0, .ob true (stO (draw s1 12).2), x2, x3, x4, x5, x6, .fr (cvD v), .no, .no, .no]) (d := .int (n : Int))
  · rw [← hn]
    apply ev_op
    · exact ev_int
    · apply ev_callS
      · walk_at "ev"
      · rfl
      · rfl
      · exact ⟨12, a1, by decide, lt_log (n := 4) (by decide) (by decide) (by decide), rfl, rfl, rfl⟩
      · rfl
    · exact od_addI
  · walk_at "np"
  generalize hS : (draw s1 12).2 = s3 at *
  apply w_set (δ1 := [x0, .ob true (stO s3), x2, x3, x4, x5, x6, .fr (cvD v), .fr (.int (n : Int)), .no, .no]) (d := flatD v n)
  · apply ev_callP
    · walk_at "ev"
    · rfl
    · exact ⟨v, n, hv, h0, h1, rfl, rfl⟩
  · walk_at "np"
  show WJ K _ (EnB x0 s3 x2 x3 x4 x5 x6 v n .no)
  apply w_if (b := !PyData.eqv (flatD v n) (flatD v n)) (δ1 := EnB x0 s3 x2 x3 x4 x5 x6 v n .no)
  · apply tt_test
    apply ev_op
    · exact ev_var rfl
    · apply ev_cb
      · apply ea_cons
        · refine ev_lc (ys := (List.range (n + 1)).map fun k : Nat => ptD (v.at (((k : Int) : Rat) / ((n : Int) : Rat)))) (δ1 := EnB x0 s3 x2 x3 x4 x5 x6 v n .no) (δw := EnB x0 s3 .no x3 x4 x5 x6 v n .no) (src_rng1 (n := (n : Int) + 1) (ea_cons (ev_op (ev_var rfl) ev_int od_addI) ea_nil) (by omega) (by omega)) ?_ rfl rfl (fun i hi => ?_) ?_
          · rw [show ((n : Int) + 1).toNat = n + 1 by omega, rngI]
            refine LcRel.maps (fun i : Nat => PyData.int (i : Int)) _ fun k hk => ⟨EnB x0 s3 (.fr (.int (k : Int))) x3 x4 x5 x6 v n .no, bw_name, ?_, fun i hi o z => ?_, rfl⟩
            · have hkn := List.mem_range.mp hk
              apply ev_callP (ds := [cvD v, dR (((k : Int) : Rat) / ((n : Int) : Rat))])
              · refine ea_cons (ev_var rfl) (ea_cons (r := .fr (dR (((k : Int) : Rat) / ((n : Int) : Rat)))) ?_ ea_nil)
                rw [← Rat.divInt_eq_div]
                apply ev__law_cut
                · walk_at "ev"
                · omega
                · exact Nat.lt_of_lt_of_le (show ((n : Int)).natAbs < 2 ^ 7 by omega) (Nat.pow_le_pow_right (by decide) (by decide))
              · rfl
              · exact ⟨v, k, n, hv, ⟨by omega, by omega, by omega, by omega⟩, rfl, rfl⟩
            · rw [List.mem_singleton.mp hi] at z
              cases z
          · rw [List.mem_singleton.mp hi]
            exact np_at rfl d2
          · rw [rngD_len]
            exact Nat.le_trans (show ((n : Int) + 1).toNat ≤ 13 by omega) (by decide)
        · exact ea_nil
      · exact cd_tup rfl
    · exact od_ne rfl rfl (pts_lay _ _) (pts_lay _ _)
  · intro z
    rw [show PyData.eqv (flatD v n) (flatD v n) = true from pts_refl _ _] at z
    cases z
  · intro _
    apply w_next
    obtain ⟨s4, y2, y10, q1, q2, q3, q4⟩ := loopB (K := K) (x0 := x0) (x3 := x3) (x4 := x4) (x5 := x5) (x6 := x6) hv h0 h1 (List.range n) s3 x2 .no s2 (fun k hk => List.mem_range.mp hk) d2 trivial
    apply w_st
    · apply st_for
      · exact src_rng1 (n := (n : Int)) (δ1 := EnB x0 s3 x2 x3 x4 x5 x6 v n .no) (ea_cons (ev_var rfl) ea_nil) (by omega) (by omega)
      · rw [Int.toNat_natCast, rngI]
        exact q4
    have l16 := lean_16 v h0
    have fl2 := (lean_fit hv (show 0 < 2 * n by omega) (by omega : 2 * n ≤ 24)).1
    apply w_if (b := !PyData.eqv (dR (leanQ v n)) (dR (16 * leanQ v (2 * n)))) (δ1 := EnB x0 s4 y2 x3 x4 x5 x6 v n y10)
    · apply tt_test
      apply ev_op (r1 := .fr (dR (leanQ v n))) (r2 := .fr (dR (16 * leanQ v (2 * n)))) (δ1 := EnB x0 s4 y2 x3 x4 x5 x6 v n y10)
      · apply ev_callP
        · walk_at "ev"
        · rfl
        · exact ⟨v, n, hv, h0, by omega, rfl, rfl⟩
      · apply ev__law_product
        · apply ea_cons (r := .fr (dR 16)) (δ1 := EnB x0 s4 y2 x3 x4 x5 x6 v n y10)
          · show EvJ K _ _ (.fr (.tuple [.int 16, .int 1])) _
            walk_at "ev"
          · apply ea_cons
            · apply ev_callP (ds := [cvD v, .int ((2 * n : Nat) : Int)])
              · refine ea_cons (ev_var rfl) (ea_cons (δ1 := EnB x0 s4 y2 x3 x4 x5 x6 v n y10) (r := .fr (.int ((2 * n : Nat) : Int))) ?_ ea_nil)
                apply EvJ.conv
                · exact ev_op ev_int (ev_var rfl) (od_mulI (mulB_of (n := 2) (m := 4) (by decide) (by omega) (by decide)))
                · rfl
              · rfl
              · exact ⟨v, 2 * n, hv, by omega, by omega, rfl, rfl⟩
            · exact ea_nil
        · exact ⟨5, 310, ⟨by decide, by decide⟩, fl2, by decide⟩
      · exact od_ne rfl rfl (lay_dR _).shaped (lay_dR _).shaped
    · intro z
      rw [eqv_dR, decide_eq_true l16] at z
      cases z
    · intro _
      apply w_next
      apply w_ret (r := .fr .none)
      refine EvJ.conv (d := .bool (PyData.eqv (dR (sweepQ v * Rat.divInt ((n : Int) * n - 1) ((n : Int) * n))) (dR (sweepQ v * Rat.divInt ((n : Int) * n - 1) ((n : Int) * n))))) (δ1 := EnB x0 s4 y2 x3 x4 x5 x6 v n y10) ?_ (by rw [eqv_dR, decide_eq_true rfl])
      have nn : 0 < (n : Int) * n := Int.mul_pos (by omega) (by omega)
      have nn2 : (n : Int) * n ≤ 12 * 12 := Int.mul_le_mul (by omega) (by omega) (by omega) (by omega)
      have mb : CMulB (n : Int) (n : Int) := mulB_of (n := 4) (m := 4) (by omega) (by omega) (by decide)
      have f3 : Fit 3 (Rat.divInt 1 3) := ⟨by decide, by decide⟩
      have fs : Fit 144 (sweepQ v) := (((hv.1.fit two_ok).gap (hv.2.1.fit two_ok)).cross ((hv.1.fit two_ok).gap (hv.2.2.fit two_ok))).mul f3
      apply ev_op (r1 := .fr (dR (sweepQ v * Rat.divInt ((n : Int) * n - 1) ((n : Int) * n)))) (δ1 := EnB x0 s4 y2 x3 x4 x5 x6 v n y10)
      · apply ev_callP
        · walk_at "ev"
        · rfl
        · exact ⟨v, n, hv, h0, h1, rfl, rfl⟩
      · apply ev__law_product
        · apply ea_cons
          · apply ev_callP
            · walk_at "ev"
            · rfl
            · exact ⟨v, hv, rfl, rfl⟩
          · apply ea_cons
            · apply ev__law_cut
              · walk_at "ev"
                · exact mb
                · exact mb
              · exact nn
              · exact Nat.lt_of_lt_of_le (show ((n : Int) * n).natAbs < 2 ^ 8 by omega) (Nat.pow_le_pow_right (by decide) (by decide))
            · exact ea_nil
        · refine ⟨144, 8, fs, ?_, by decide⟩
          rw [Rat.divInt_eq_div]
          exact fit_div (by omega) (by omega) (by omega)
      · exact od_eq rfl rfl (lay_dR _).shaped (lay_dR _).shaped
theorem loopA {K : PySem.W.Frag} {x0 x1 x7 x8 x9 x10 : Sl} {P : Ln} {e : Rat} {L : Nat} {row : List Nat} (hP : LnOk P) (he : Fit 20 e) (hL : L ≤ 50) {u v : Nat} (hv : v < L + 1) (hu : u < L + 1) {k : Nat} (hku : row[k]? = some u) (hkv : row[k + 1]? = some v) (hs : Seg P e u v) : ∀ (c a : Nat) (x6 : Sl), u ≤ a → a + c = v + 1 → Dat x6 → ∃ y6, Dat y6 ∧
    ForRel K (gName 6) (tIfS (tB (tCall (spD K C__law_less) [] E0 (tCons (tVar 4) (tCons (tCall (spD K C__law_far) [] E0 (tCons (tOp (rIx K) (tVar 3) (tOp (rIx K) (tVar 5) (tVar 2))) (tCons (tOp (rIx K) (tVar 3) (tOp (rIx K) (tVar 5) (tOp (rAddU K) (tVar 2) (tC (.int 1))))) (tCons (tOp (rIx K) (tVar 3) (tVar 6)) tNil)))) tNil)))) (tRet (tC (.bl false))) tNext)
      (rngD (a : Int) c) [x0, x1, .fr (.int (k : Int)), .fr (lineL (L + 1) P), .fr (dR e), .fr (.list (row.map fun i : Nat => .int (i : Int))), x6, x7, x8, x9, x10]
      (.nx [x0, x1, .fr (.int (k : Int)), .fr (lineL (L + 1) P), .fr (dR e), .fr (.list (row.map fun i : Nat => .int (i : Int))), y6, x7, x8, x9, x10])
  | 0, a, x6, _, _, d6 => ⟨x6, d6, .nil⟩
  | c + 1, a, x6, ha, hc, d6 => by
    obtain ⟨y6, e6, q⟩ := loopA (K := K) (x0 := x0) (x1 := x1) (x7 := x7) (x8 := x8) (x9 := x9) (x10 := x10) hP he hL hv hu hku hkv hs c (a + 1) (.fr (.int (a : Int))) (by omega) (by omega) trivial
    refine ⟨y6, e6, ?_⟩
    have er : rngD (a : Int) (c + 1) = .int (a : Int) :: rngD ((a + 1 : Nat) : Int) c := by
      unfold rngD
      rw [List.range_succ_eq_map, List.map_cons, List.map_map, show (a : Int) + ((0 : Nat) : Int) = (a : Int) by omega]
      refine congrArg (PyData.int (a : Int) :: ·) ?_
      refine List.map_congr_left fun i _ => ?_
      show PyData.int ((a : Int) + ((i + 1 : Nat) : Int)) = PyData.int (((a + 1 : Nat) : Int) + (i : Int))
      congr 1
      omega
    rw [er]
    have le := hs a ha (by omega)
    have ff : Fit 429 (farQ (P u) (P v) (P a)) := far_fit two_ok (hP _) (hP _) (hP _)
    have rowat : ∀ (i w : Nat), row[i]? = some w → atI (row.map fun i : Nat => PyData.int (i : Int)) (i : Int) = some (.int (w : Int)) := fun i w h => atI_nat (by rw [List.getElem?_map, h]; rfl)
    refine .go (δb := [x0, x1, .fr (.int (k : Int)), .fr (lineL (L + 1) P), .fr (dR e), .fr (.list (row.map fun i : Nat => .int (i : Int))), .fr (.int (a : Int)), x7, x8, x9, x10]) (bj_name (np_at rfl d6)) ?_ q
    apply st_if (b := decide (e < farQ (P u) (P v) (P a))) (δ1 := [x0, x1, .fr (.int (k : Int)), .fr (lineL (L + 1) P), .fr (dR e), .fr (.list (row.map fun i : Nat => .int (i : Int))), .fr (.int (a : Int)), x7, x8, x9, x10])
    · apply tt_B
      apply ev__law_less
      · apply ea_cons
        · exact ev_var rfl
        · apply ea_cons
          · apply ev_callP (ds := [ptD (P u), ptD (P v), ptD (P a)])
            · exact ea_cons (ev_op (ev_var rfl) (ev_op (ev_var rfl) (ev_var rfl) (od_ix rfl (rowat k u hku))) (od_ix rfl (line_at hu))) (ea_cons (ev_op (ev_var rfl) (ev_op (ev_var rfl) (ev_op (ev_var rfl) ev_int od_addI) (od_ix rfl (rowat (k + 1) v hkv))) (od_ix rfl (line_at hv))) (ea_cons (ev_op (ev_var rfl) (ev_var rfl) (od_ix rfl (line_at (by omega)))) ea_nil))
            · rfl
            · exact ⟨2, P u, P v, P a, two_ok, hP _, hP _, hP _, rfl, rfl⟩
          · exact ea_nil
      · exact ⟨20, 429, he, ff, by decide⟩
    · intro z
      have := of_decide_eq_true z
      grind
    · intro _
      exact st_next
theorem loopA2 {K : PySem.W.Frag} {x0 x1 x7 x8 x9 x10 : Sl} {P : Ln} {e : Rat} {L : Nat} {row : List Nat} (hP : LnOk P) (he : Fit 20 e) (hL : L ≤ 50) (hlt : ∀ i ∈ row, i < L + 1) (hch : Ch (Seg P e) row) (hup : row.Pairwise (· < ·)) : ∀ (l : List Nat) (x2 x6 : Sl), (∀ k ∈ l, k + 1 < row.length) → Dat x2 → Dat x6 → ∃ y2 y6, Dat y2 ∧ Dat y6 ∧
    ForRel K (gName 2) (tFor (iRng2 (tCons (tOp (rIx K) (tVar 5) (tVar 2)) (tCons (tOp (rAddU K) (tOp (rIx K) (tVar 5) (tOp (rAddU K) (tVar 2) (tC (.int 1)))) (tC (.int 1))) tNil))) (gName 6) (tIfS (tB (tCall (spD K C__law_less) [] E0 (tCons (tVar 4) (tCons (tCall (spD K C__law_far) [] E0 (tCons (tOp (rIx K) (tVar 3) (tOp (rIx K) (tVar 5) (tVar 2))) (tCons (tOp (rIx K) (tVar 3) (tOp (rIx K) (tVar 5) (tOp (rAddU K) (tVar 2) (tC (.int 1))))) (tCons (tOp (rIx K) (tVar 3) (tVar 6)) tNil)))) tNil)))) (tRet (tC (.bl false))) tNext))
      (l.map fun i : Nat => PyData.int (i : Int)) [x0, x1, x2, .fr (lineL (L + 1) P), .fr (dR e), .fr (.list (row.map fun i : Nat => .int (i : Int))), x6, x7, x8, x9, x10]
      (.nx [x0, x1, y2, .fr (lineL (L + 1) P), .fr (dR e), .fr (.list (row.map fun i : Nat => .int (i : Int))), y6, x7, x8, x9, x10])
  | [], x2, x6, _, d2, d6 => ⟨x2, x6, d2, d6, .nil⟩
  | k :: l, x2, x6, hl, d2, d6 => by
    have hk := hl k List.mem_cons_self
    have hu : row[k]? = some row[k] := List.getElem?_eq_getElem (by omega)
    have hv : row[k + 1]? = some row[k + 1] := List.getElem?_eq_getElem hk
    generalize row[k] = u at hu
    generalize row[k + 1] = v at hv
    have seg := hch.get hu hv
    have luv : u < v := by
      rw [List.pairwise_iff_getElem] at hup
      have := hup k (k + 1) (by omega) hk (by omega)
      rw [(List.getElem?_eq_some_iff.mp hu).2, (List.getElem?_eq_some_iff.mp hv).2] at this
      exact this
    have hu' := hlt u (List.mem_of_getElem? hu)
    have hv' := hlt v (List.mem_of_getElem? hv)
    have rowat : ∀ (i w : Nat), row[i]? = some w → atI (row.map fun i : Nat => PyData.int (i : Int)) (i : Int) = some (.int (w : Int)) := fun i w h => atI_nat (by rw [List.getElem?_map, h]; rfl)
    obtain ⟨y6, e6, q⟩ := loopA (K := K) (x0 := x0) (x1 := x1) (x7 := x7) (x8 := x8) (x9 := x9) (x10 := x10) hP he hL hv' hu' hu hv seg (v + 1 - u) u x6 (Nat.le_refl u) (by omega) d6
    obtain ⟨y2, y6', e2, e6', q'⟩ := loopA2 (K := K) (x0 := x0) (x1 := x1) (x7 := x7) (x8 := x8) (x9 := x9) (x10 := x10) hP he hL hlt hch hup l (.fr (.int (k : Int))) y6 (fun k h => hl k (List.mem_cons_of_mem _ h)) trivial e6
    refine ⟨y2, y6', e2, e6', .go (δb := [x0, x1, .fr (.int (k : Int)), .fr (lineL (L + 1) P), .fr (dR e), .fr (.list (row.map fun i : Nat => .int (i : Int))), x6, x7, x8, x9, x10]) (bj_name (np_at rfl d2)) ?_ q'⟩
    apply st_for
    · exact src_rng2 (a := (u : Int)) (b := (v : Int) + 1) (δ1 := [x0, x1, .fr (.int (k : Int)), .fr (lineL (L + 1) P), .fr (dR e), .fr (.list (row.map fun i : Nat => .int (i : Int))), x6, x7, x8, x9, x10]) (ea_cons (ev_op (ev_var rfl) (ev_var rfl) (od_ix rfl (rowat k u hu))) (ea_cons (ev_op (ev_op (ev_var rfl) (ev_op (ev_var rfl) ev_int od_addI) (od_ix rfl (rowat (k + 1) v hv))) ev_int od_addI) ea_nil)) (by omega) (by omega) (by omega) (by omega)
    · rw [show ((v : Int) + 1 - (u : Int)).toNat = v + 1 - u by omega]
      exact q
theorem pick3 {i : Int} (h0 : 0 ≤ i) (h : i < 3) : ∃ b : Int, 0 < b ∧ b ≤ 200 ∧ [PyData.int 1, .int 20, .int 200].getD i.toNat .none = .int b := by
  have : i = 0 ∨ i = 1 ∨ i = 2 := by omega
  rcases this with rfl | rfl | rfl
  · exact ⟨1, by decide, by decide, rfl⟩
  · exact ⟨20, by decide, by decide, rfl⟩
  · exact ⟨200, by decide, by decide, rfl⟩
theorem law_a {K : PySem.W.Frag} {x0 : Sl} {s : DS} {ps : List Pt} {L : Nat} (hs : s.ok) (hps : ∀ p ∈ ps, GridP 2 p) (hlen : ps.length = L + 1) (h0 : 0 < L) (h1 : L ≤ 9) : WJ K (t_lawA K) [x0, .ob true (stO s), .no, .ob true (.L (ps.map ptD)), .no, .no, .no, .no, .no, .no, .no] := by
  refine w_frz (ds := ps.map ptD) 3 rfl ?_
  have hP := lnOf_ok hps
  have eL : (.list (ps.map ptD) : D) = lineL (L + 1) (lnOf ps) := by rw [ln_map, hlen]; rfl
  show WJ K _ [x0, .ob true (stO s), .no, .fr (.list (ps.map ptD)), .no, .no, .no, .no, .no, .no, .no]
  rw [eL]
  generalize lnOf ps = P at *
  obtain ⟨s1, a0, a1⟩ := draw_ok hs (b := 3) (by decide)
  obtain ⟨b, hb0, hb1, hb⟩ := pick3 a0 a1
  generalize hS1 : (draw s 3).2 = S1 at *
  obtain ⟨s2, c0, c1⟩ := draw_ok s1 (b := b) hb0
  generalize hS2 : (draw S1 b).2 = S2 at *
  generalize hn : (draw S1 b).1 = num at *
  have he0 : 0 ≤ Rat.divInt num 4 := by
    rw [Rat.divInt_eq_div]
    have : (0 : Rat) ≤ (num : Rat) := by exact_mod_cast c0
    have e : ((4 : Int) : Rat) = 4 := rfl
    rw [e]
    grind
  have hef : Fit 20 (Rat.divInt num 4) := by
    rw [Rat.divInt_eq_div]
    exact fit_div (by decide) (by omega) (by decide)
  apply w_set (δ1 := [x0, .ob true (stO S2), .no, .fr (lineL (L + 1) P), .no, .no, .no, .no, .no, .no, .no]) (d := dR (Rat.divInt num 4))
  · apply ev__law_cut
    · apply ea_cons
      · apply ev_tup' (rs := [.fr (.int num), .fr (.int 4)])
        · apply ea_cons (δ1 := [x0, .ob true (stO S2), .no, .fr (lineL (L + 1) P), .no, .no, .no, .no, .no, .no, .no])
          · rw [← hn]
            apply ev_callS (s := S1) (i := 1) (rs := [.fr (.int b)]) (ds := [.int b]) (δ1 := [x0, .ob true (stO S1), .no, .fr (lineL (L + 1) P), .no, .no, .no, .no, .no, .no, .no])
            · apply ea_cons
              · exact ev_varO rfl
              · apply ea_cons
                · rw [← hb]
                  apply ev_callS
                  · walk_at "ev"
                  · rfl
                  · rfl
                  · exact ⟨[.int 1, .int 20, .int 200], hs, (fun z => nomatch z), Nat.le_of_ble_eq_true rfl, .inl rfl, rfl, rfl⟩
                  · rw [show ([PyData.int 1, .int 20, .int 200].length : Int) = 3 from rfl, hS1]
                · exact ea_nil
            · rfl
            · rfl
            · exact ⟨b, s1, hb0, lt_log (n := 8) (by omega) (by omega) (by decide), rfl, rfl, rfl⟩
            · rw [hS2]
              rfl
          · walk_at "ev"
        · rfl
        · exact Nat.le_of_ble_eq_true rfl
      · exact ea_nil
    · decide
    · exact Nat.lt_of_lt_of_le (show (4 : Int).natAbs < 2 ^ 3 by decide) (Nat.pow_le_pow_right (by decide) (by decide))
  · walk_at "np"
  generalize Rat.divInt num 4 = e at *
  have last : ∀ δ : List Sl, δ[3]? = some (.fr (lineL (L + 1) P)) → EvJ K (tOp rSubU (tCB (rLenU K) (tCons (tVar 3) tNil)) (tC (.int 1))) δ (.fr (.int (L : Int))) δ := by
    intro δ h
    apply EvJ.conv
    · exact ev_op (ev_cb (ea_cons (ev_var h) ea_nil) (cd_len rfl)) ev_int od_subI
    · rw [List.length_map, List.length_range]
      congr 1
      omega
  have kl := kept_len P e (lo := 0) (hi := L)
  apply w_setN (δ1 := [x0, .ob true (stO S2), .no, .fr (lineL (L + 1) P), .fr (dR e), .no, .no, .no, .no, .no, .no]) (o := .L ((rowQ P e L).map fun i : Nat => .int (i : Int)))
  · unfold rowQ
    rw [List.map_append, List.map_append]
    apply ev_op
    · apply ev_op
      · exact ev_lst' (ea_cons ev_int ea_nil) rfl (Nat.le_of_ble_eq_true rfl)
      · apply ev_callF (δ1 := [x0, .ob true (stO S2), .no, .fr (lineL (L + 1) P), .fr (dR e), .no, .no, .no, .no, .no, .no]) (ds := [lineL (L + 1) P, .int ((0 : Nat) : Int), .int (L : Int), dR e])
        · exact ea_cons (ev_var rfl) (ea_cons ev_int (ea_cons (last _ rfl) (ea_cons (ev_var rfl) ea_nil)))
        · rfl
        · exact ⟨L + 1, 0, L, P, e, hP, by omega, h0, by omega, by omega, hef, by decide, rfl, rfl, rfl⟩
        · rfl
      · refine od_catL rfl rfl ?_
        exact Nat.le_trans (m := 102) (by simp only [List.length_map, List.length_cons, List.length_nil]; omega) (by decide)
    · exact ev_lst' (ea_cons (last _ rfl) ea_nil) rfl (Nat.le_of_ble_eq_true rfl)
    · refine od_catL rfl rfl ?_
      exact Nat.le_trans (m := 102) (by simp only [List.length_append, List.length_map, List.length_cons, List.length_nil]; omega) (by decide)
  · exact Nat.le_of_ble_eq_true rfl
  · walk_at "np"
  refine w_frz (ds := (rowQ P e L).map fun i : Nat => .int (i : Int)) 5 rfl ?_
  show WJ K _ [x0, .ob true (stO S2), .no, .fr (lineL (L + 1) P), .fr (dR e), .fr (.list ((rowQ P e L).map fun i : Nat => .int (i : Int))), .no, .no, .no, .no, .no]
  have rl := row_len (P := P) (e := e) h0
  have eq0 : PyData.eqv (.tuple ((rowQ P e L).map fun i => ptD (P i))) (.tuple ((rowQ P e L).map fun i => ptD (P i))) = true := pts_refl _ _
  apply w_if (b := !PyData.eqv (.tuple ((rowQ P e L).map fun i => ptD (P i))) (.tuple ((rowQ P e L).map fun i => ptD (P i)))) (δ1 := [x0, .ob true (stO S2), .no, .fr (lineL (L + 1) P), .fr (dR e), .fr (.list ((rowQ P e L).map fun i : Nat => .int (i : Int))), .no, .no, .no, .no, .no])
  · apply tt_test
    apply ev_op
    · apply ev_callP (ds := [lineD (L + 1) P, dR e])
      · apply ea_cons
        · exact ev_cb (ea_cons (ev_var rfl) ea_nil) (cd_tup rfl)
        · exact ea_cons (ev_var rfl) ea_nil
      · rfl
      · exact ⟨L, P, e, hP, h0, by omega, hef, rfl, rfl⟩
    · apply ev_cb
      · apply ea_cons
        · refine ev_lc (ys := (rowQ P e L).map fun i => ptD (P i)) (δ1 := [x0, .ob true (stO S2), .no, .fr (lineL (L + 1) P), .fr (dR e), .fr (.list ((rowQ P e L).map fun i : Nat => .int (i : Int))), .no, .no, .no, .no, .no]) (δw := [x0, .ob true (stO S2), .no, .fr (lineL (L + 1) P), .fr (dR e), .fr (.list ((rowQ P e L).map fun i : Nat => .int (i : Int))), .no, .no, .no, .no, .no]) (src_list (ev_var rfl)) ?_ rfl rfl (fun i hi => ?_) ?_
          · refine LcRel.maps (fun i : Nat => PyData.int (i : Int)) (fun i => ptD (P i)) fun i hi => ⟨[x0, .ob true (stO S2), .no, .fr (lineL (L + 1) P), .fr (dR e), .fr (.list ((rowQ P e L).map fun i : Nat => .int (i : Int))), .fr (.int (i : Int)), .no, .no, .no, .no], bw_name, ?_, fun j hj o z => ?_, rfl⟩
            · exact ev_op (ev_var rfl) (ev_var rfl) (od_ix rfl (line_at (row_lt i hi)))
            · rw [List.mem_singleton.mp hj] at z
              cases z
          · rw [List.mem_singleton.mp hi]
            intro o z
            cases z
          · rw [List.length_map]
            exact Nat.le_trans (show (rowQ P e L).length ≤ 21 by omega) (by decide)
        · exact ea_nil
      · exact cd_tup rfl
    · exact od_ne rfl rfl (pts_lay _ _) (pts_lay _ _)
  · intro z
    rw [eq0] at z
    cases z
  · intro _
    apply w_next
    have hlen2 : 2 ≤ (rowQ P e L).length := by
      unfold rowQ
      rw [List.length_append, List.length_append]
      show 2 ≤ 1 + (keptQ P e 0 L).length + 1
      omega
    obtain ⟨y2, y6, e2, e6, q⟩ := loopA2 (K := K) (x0 := x0) (x1 := .ob true (stO S2)) (x7 := .no) (x8 := .no) (x9 := .no) (x10 := .no) hP hef (by omega) (fun i hi => row_lt i hi) (row_seg he0 h0) (row_up P e h0) (List.range ((rowQ P e L).length - 1)) .no .no (fun k hk => by have := List.mem_range.mp hk; omega) trivial trivial
    apply w_st
    · apply st_for
      · apply src_rng1 (n := (((rowQ P e L).length - 1 : Nat) : Int)) (δ1 := [x0, .ob true (stO S2), .no, .fr (lineL (L + 1) P), .fr (dR e), .fr (.list ((rowQ P e L).map fun i : Nat => .int (i : Int))), .no, .no, .no, .no, .no])
        · refine ea_cons (r := .fr (.int (((rowQ P e L).length - 1 : Nat) : Int))) ?_ ea_nil
          apply EvJ.conv
          · exact ev_op (ev_cb (ea_cons (ev_var rfl) ea_nil) (cd_len rfl)) ev_int od_subI
          · rw [List.length_map]
            congr 1
            omega
      · rw [Int.toNat_natCast, rngI]
        exact q
    exact law_b s2 e2
theorem law_w {K : PySem.W.Frag} {ns : List Int} (hns : ns.length ≤ 63) : WJ K (t_law K) [.fr (.list (ns.map .int)), .no, .no, .no, .no, .no, .no, .no, .no, .no, .no] := by
  have s0 := DS.init_ok hns
  apply w_setN
  · apply ev_callF
    · walk_at "ev"
    · rfl
    · exact ⟨ns, hns, rfl, rfl, rfl⟩
    · rfl
  · exact Nat.le_of_ble_eq_true rfl
  · walk_at "np"
  obtain ⟨s1, a0, a1⟩ := draw_ok s0 (b := 8) (by decide)
  generalize hS1 : (draw (DS.init ns) 8).2 = S1 at *
  generalize hn : (draw (DS.init ns) 8).1 = num at *
  obtain ⟨S2, ps, s2, l2, g2, q2⟩ := draw_pts (K := K) (x0 := .fr (.list (ns.map .int))) (x3 := .no) (x4 := .no) (x5 := .no) (x6 := .no) (x7 := .no) (x8 := .no) (x9 := .no) (x10 := .no) (rngD 0 (2 + num).toNat) S1 s1
  rw [rngD_len] at l2
  apply w_setN (δ1 := [.fr (.list (ns.map .int)), .ob true (stO S2), .no, .no, .no, .no, .no, .no, .no, .no, .no]) (o := .L (ps.map ptD))
  · refine ev_lc (δ1 := [.fr (.list (ns.map .int)), .ob true (stO S1), .no, .no, .no, .no, .no, .no, .no, .no, .no]) (src_rng1 (n := 2 + num) (ea_cons (ev_op ev_int ?_ od_addI) ea_nil) (by omega) (by omega)) q2 rfl rfl (fun i hi => ?_) ?_
    · rw [← hn]
      apply ev_callS
      · walk_at "ev"
      · rfl
      · rfl
      · exact ⟨8, s0, by decide, lt_log (n := 4) (by decide) (by decide) (by decide), rfl, rfl, rfl⟩
      · rw [hS1]
        rfl
    · rw [List.mem_singleton.mp hi]
      intro o z
      cases z
    · rw [rngD_len]
      exact Nat.le_trans (m := 10) (by omega) (by decide)
  · exact Nat.le_of_ble_eq_true rfl
  · walk_at "np"
  obtain ⟨s3, b0, b1⟩ := draw_ok s2 (b := 4) (by decide)
  have pos : 0 < ps.length := by omega
  have g0 := g2 ps[0] (List.getElem_mem pos)
  have at0 : atI (ps.map ptD) 0 = some (ptD ps[0]) := atI_nat (j := 0) (by rw [List.getElem?_map, List.getElem?_eq_getElem pos]; rfl)
  apply w_if (b := PyData.eqv (.int (draw S2 4).1) (.int 0)) (δ1 := [.fr (.list (ns.map .int)), .ob true (stO (draw S2 4).2), .no, .ob true (.L (ps.map ptD)), .no, .no, .no, .no, .no, .no, .no])
  · apply tt_test
    apply ev_op
    · apply ev_callS
      · walk_at "ev"
      · rfl
      · rfl
      · exact ⟨4, s2, by decide, lt_log (n := 3) (by decide) (by decide) (by decide), rfl, rfl, rfl⟩
      · rfl
    · exact ev_int
    · exact od_eq rfl rfl rfl rfl
  · intro _
    apply w_st (δ1 := [.fr (.list (ns.map .int)), .ob true (stO (draw S2 4).2), .no, .ob true (.L ((ps ++ [ps[0]]).map ptD)), .no, .no, .no, .no, .no, .no, .no])
    · apply q_drop1
      apply ev_append' (i := 3) (b := true) (ds := ps.map ptD) (d := ptD ps[0])
      · exact ev_varO rfl
      · rfl
      · exact ev_op (ev_varO rfl) ev_int (od_ix rfl at0)
      · rfl
      · rw [List.length_map]
        exact Nat.lt_of_le_of_lt (m := 10) (by omega) (by decide)
      · rw [List.map_append]
        rfl
    · refine law_a (L := ps.length) s3 (fun p hp => ?_) (by rw [List.length_append, List.length_singleton]) pos (by omega)
      rcases List.mem_append.mp hp with hp | hp
      · exact g2 p hp
      · rw [List.mem_singleton.mp hp]
        exact g0
  · intro _
    apply w_next
    exact law_a (L := ps.length - 1) s3 g2 (by omega) (by omega) (by omega)

end DL
namespace DL
open PySem PySem.Spec PyProof.Rows L2
set_option maxHeartbeats 0 in
theorem all_mk {l : PySem.W.OpenLaw} {w : World} {K : PySem.W.Frag} {h : Heap} {mg : Str → Option Value} {fa : Addr} (X : K.In h) (G : h.Ns mainGlobals mg) (hfa : mg "law" = some (.ref fa))
    {od__law_start an__law_start : Option Addr} {sl__law_start : Array (Option Value)} {oc__law_start kV__law_start dc__law_start pm__law_start cd__law_start ct__law_start : Value} {f__law_start : Addr}
    (a__law_start : PySem.W.nsIn K mainGlobals "_law_start" = some (some (.ref f__law_start))) (l__law_start : K.lookup f__law_start = some ⟨oc__law_start, od__law_start, .func (PySem.W.fnOf "_law_start" "_law_start" (defArgs s__law_start) (defBody s__law_start) (defScope s__law_start) .none kV__law_start dc__law_start pm__law_start an__law_start cd__law_start ct__law_start), sl__law_start⟩) (c__law_start : PySem.W.codeIn K cd__law_start "_law_start" = true) (k__law_start : PySem.W.keepIn K (.ref f__law_start) = true)
    {od__law_cut an__law_cut : Option Addr} {sl__law_cut : Array (Option Value)} {oc__law_cut kV__law_cut dc__law_cut pm__law_cut cd__law_cut ct__law_cut : Value} {f__law_cut : Addr}
    (a__law_cut : PySem.W.nsIn K mainGlobals "_law_cut" = some (some (.ref f__law_cut))) (l__law_cut : K.lookup f__law_cut = some ⟨oc__law_cut, od__law_cut, .func (PySem.W.fnOf "_law_cut" "_law_cut" (defArgs s__law_cut) (defBody s__law_cut) (defScope s__law_cut) .none kV__law_cut dc__law_cut pm__law_cut an__law_cut cd__law_cut ct__law_cut), sl__law_cut⟩) (c__law_cut : PySem.W.codeIn K cd__law_cut "_law_cut" = true) (k__law_cut : PySem.W.keepIn K (.ref f__law_cut) = true)
    {od_fraction an_fraction : Option Addr} {sl_fraction : Array (Option Value)} {oc_fraction kV_fraction dc_fraction pm_fraction cd_fraction ct_fraction : Value} {f_fraction : Addr}
    (a_fraction : PySem.W.nsIn K mainGlobals "fraction" = some (some (.ref f_fraction))) (l_fraction : K.lookup f_fraction = some ⟨oc_fraction, od_fraction, .func (PySem.W.fnOf "fraction" "fraction" (defArgs s_fraction) (defBody s_fraction) (defScope s_fraction) .none kV_fraction dc_fraction pm_fraction an_fraction cd_fraction ct_fraction), sl_fraction⟩) (c_fraction : PySem.W.codeIn K cd_fraction "fraction" = true) (k_fraction : PySem.W.keepIn K (.ref f_fraction) = true)
    {od_minus an_minus : Option Addr} {sl_minus : Array (Option Value)} {oc_minus kV_minus dc_minus pm_minus cd_minus ct_minus : Value} {f_minus : Addr}
    (a_minus : PySem.W.nsIn K mainGlobals "minus" = some (some (.ref f_minus))) (l_minus : K.lookup f_minus = some ⟨oc_minus, od_minus, .func (PySem.W.fnOf "minus" "minus" (defArgs s_minus) (defBody s_minus) (defScope s_minus) .none kV_minus dc_minus pm_minus an_minus cd_minus ct_minus), sl_minus⟩) (c_minus : PySem.W.codeIn K cd_minus "minus" = true) (k_minus : PySem.W.keepIn K (.ref f_minus) = true)
    {od_times an_times : Option Addr} {sl_times : Array (Option Value)} {oc_times kV_times dc_times pm_times cd_times ct_times : Value} {f_times : Addr}
    (a_times : PySem.W.nsIn K mainGlobals "times" = some (some (.ref f_times))) (l_times : K.lookup f_times = some ⟨oc_times, od_times, .func (PySem.W.fnOf "times" "times" (defArgs s_times) (defBody s_times) (defScope s_times) .none kV_times dc_times pm_times an_times cd_times ct_times), sl_times⟩) (c_times : PySem.W.codeIn K cd_times "times" = true) (k_times : PySem.W.keepIn K (.ref f_times) = true)
    {od_plus an_plus : Option Addr} {sl_plus : Array (Option Value)} {oc_plus kV_plus dc_plus pm_plus cd_plus ct_plus : Value} {f_plus : Addr}
    (a_plus : PySem.W.nsIn K mainGlobals "plus" = some (some (.ref f_plus))) (l_plus : K.lookup f_plus = some ⟨oc_plus, od_plus, .func (PySem.W.fnOf "plus" "plus" (defArgs s_plus) (defBody s_plus) (defScope s_plus) .none kV_plus dc_plus pm_plus an_plus cd_plus ct_plus), sl_plus⟩) (c_plus : PySem.W.codeIn K cd_plus "plus" = true) (k_plus : PySem.W.keepIn K (.ref f_plus) = true)
    {od_curve_point an_curve_point : Option Addr} {sl_curve_point : Array (Option Value)} {oc_curve_point kV_curve_point dc_curve_point pm_curve_point cd_curve_point ct_curve_point : Value} {f_curve_point : Addr}
    (a_curve_point : PySem.W.nsIn K mainGlobals "curve_point" = some (some (.ref f_curve_point))) (l_curve_point : K.lookup f_curve_point = some ⟨oc_curve_point, od_curve_point, .func (PySem.W.fnOf "curve_point" "curve_point" (defArgs s_curve_point) (defBody s_curve_point) (defScope s_curve_point) .none kV_curve_point dc_curve_point pm_curve_point an_curve_point cd_curve_point ct_curve_point), sl_curve_point⟩) (c_curve_point : PySem.W.codeIn K cd_curve_point "curve_point" = true) (k_curve_point : PySem.W.keepIn K (.ref f_curve_point) = true)
    {od_flattened an_flattened : Option Addr} {sl_flattened : Array (Option Value)} {oc_flattened kV_flattened dc_flattened pm_flattened cd_flattened ct_flattened : Value} {f_flattened : Addr}
    (a_flattened : PySem.W.nsIn K mainGlobals "flattened" = some (some (.ref f_flattened))) (l_flattened : K.lookup f_flattened = some ⟨oc_flattened, od_flattened, .func (PySem.W.fnOf "flattened" "flattened" (defArgs s_flattened) (defBody s_flattened) (defScope s_flattened) .none kV_flattened dc_flattened pm_flattened an_flattened cd_flattened ct_flattened), sl_flattened⟩) (c_flattened : PySem.W.codeIn K cd_flattened "flattened" = true) (k_flattened : PySem.W.keepIn K (.ref f_flattened) = true)
    {od__law_draw an__law_draw : Option Addr} {sl__law_draw : Array (Option Value)} {oc__law_draw kV__law_draw dc__law_draw pm__law_draw cd__law_draw ct__law_draw : Value} {f__law_draw : Addr}
    (a__law_draw : PySem.W.nsIn K mainGlobals "_law_draw" = some (some (.ref f__law_draw))) (l__law_draw : K.lookup f__law_draw = some ⟨oc__law_draw, od__law_draw, .func (PySem.W.fnOf "_law_draw" "_law_draw" (defArgs s__law_draw) (defBody s__law_draw) (defScope s__law_draw) .none kV__law_draw dc__law_draw pm__law_draw an__law_draw cd__law_draw ct__law_draw), sl__law_draw⟩) (c__law_draw : PySem.W.codeIn K cd__law_draw "_law_draw" = true) (k__law_draw : PySem.W.keepIn K (.ref f__law_draw) = true)
    {od_gap an_gap : Option Addr} {sl_gap : Array (Option Value)} {oc_gap kV_gap dc_gap pm_gap cd_gap ct_gap : Value} {f_gap : Addr}
    (a_gap : PySem.W.nsIn K mainGlobals "gap" = some (some (.ref f_gap))) (l_gap : K.lookup f_gap = some ⟨oc_gap, od_gap, .func (PySem.W.fnOf "gap" "gap" (defArgs s_gap) (defBody s_gap) (defScope s_gap) .none kV_gap dc_gap pm_gap an_gap cd_gap ct_gap), sl_gap⟩) (c_gap : PySem.W.codeIn K cd_gap "gap" = true) (k_gap : PySem.W.keepIn K (.ref f_gap) = true)
    {od_dot an_dot : Option Addr} {sl_dot : Array (Option Value)} {oc_dot kV_dot dc_dot pm_dot cd_dot ct_dot : Value} {f_dot : Addr}
    (a_dot : PySem.W.nsIn K mainGlobals "dot" = some (some (.ref f_dot))) (l_dot : K.lookup f_dot = some ⟨oc_dot, od_dot, .func (PySem.W.fnOf "dot" "dot" (defArgs s_dot) (defBody s_dot) (defScope s_dot) .none kV_dot dc_dot pm_dot an_dot cd_dot ct_dot), sl_dot⟩) (c_dot : PySem.W.codeIn K cd_dot "dot" = true) (k_dot : PySem.W.keepIn K (.ref f_dot) = true)
    {od_square an_square : Option Addr} {sl_square : Array (Option Value)} {oc_square kV_square dc_square pm_square cd_square ct_square : Value} {f_square : Addr}
    (a_square : PySem.W.nsIn K mainGlobals "square" = some (some (.ref f_square))) (l_square : K.lookup f_square = some ⟨oc_square, od_square, .func (PySem.W.fnOf "square" "square" (defArgs s_square) (defBody s_square) (defScope s_square) .none kV_square dc_square pm_square an_square cd_square ct_square), sl_square⟩) (c_square : PySem.W.codeIn K cd_square "square" = true) (k_square : PySem.W.keepIn K (.ref f_square) = true)
    {od_compare an_compare : Option Addr} {sl_compare : Array (Option Value)} {oc_compare kV_compare dc_compare pm_compare cd_compare ct_compare : Value} {f_compare : Addr}
    (a_compare : PySem.W.nsIn K mainGlobals "compare" = some (some (.ref f_compare))) (l_compare : K.lookup f_compare = some ⟨oc_compare, od_compare, .func (PySem.W.fnOf "compare" "compare" (defArgs s_compare) (defBody s_compare) (defScope s_compare) .none kV_compare dc_compare pm_compare an_compare cd_compare ct_compare), sl_compare⟩) (c_compare : PySem.W.codeIn K cd_compare "compare" = true) (k_compare : PySem.W.keepIn K (.ref f_compare) = true)
    {od_compare_points an_compare_points : Option Addr} {sl_compare_points : Array (Option Value)} {oc_compare_points kV_compare_points dc_compare_points pm_compare_points cd_compare_points ct_compare_points : Value} {f_compare_points : Addr}
    (a_compare_points : PySem.W.nsIn K mainGlobals "compare_points" = some (some (.ref f_compare_points))) (l_compare_points : K.lookup f_compare_points = some ⟨oc_compare_points, od_compare_points, .func (PySem.W.fnOf "compare_points" "compare_points" (defArgs s_compare_points) (defBody s_compare_points) (defScope s_compare_points) .none kV_compare_points dc_compare_points pm_compare_points an_compare_points cd_compare_points ct_compare_points), sl_compare_points⟩) (c_compare_points : PySem.W.codeIn K cd_compare_points "compare_points" = true) (k_compare_points : PySem.W.keepIn K (.ref f_compare_points) = true)
    {od_over an_over : Option Addr} {sl_over : Array (Option Value)} {oc_over kV_over dc_over pm_over cd_over ct_over : Value} {f_over : Addr}
    (a_over : PySem.W.nsIn K mainGlobals "over" = some (some (.ref f_over))) (l_over : K.lookup f_over = some ⟨oc_over, od_over, .func (PySem.W.fnOf "over" "over" (defArgs s_over) (defBody s_over) (defScope s_over) .none kV_over dc_over pm_over an_over cd_over ct_over), sl_over⟩) (c_over : PySem.W.codeIn K cd_over "over" = true) (k_over : PySem.W.keepIn K (.ref f_over) = true)
    {od_along an_along : Option Addr} {sl_along : Array (Option Value)} {oc_along kV_along dc_along pm_along cd_along ct_along : Value} {f_along : Addr}
    (a_along : PySem.W.nsIn K mainGlobals "along" = some (some (.ref f_along))) (l_along : K.lookup f_along = some ⟨oc_along, od_along, .func (PySem.W.fnOf "along" "along" (defArgs s_along) (defBody s_along) (defScope s_along) .none kV_along dc_along pm_along an_along cd_along ct_along), sl_along⟩) (c_along : PySem.W.codeIn K cd_along "along" = true) (k_along : PySem.W.keepIn K (.ref f_along) = true)
    {od_nearest_on an_nearest_on : Option Addr} {sl_nearest_on : Array (Option Value)} {oc_nearest_on kV_nearest_on dc_nearest_on pm_nearest_on cd_nearest_on ct_nearest_on : Value} {f_nearest_on : Addr}
    (a_nearest_on : PySem.W.nsIn K mainGlobals "nearest_on" = some (some (.ref f_nearest_on))) (l_nearest_on : K.lookup f_nearest_on = some ⟨oc_nearest_on, od_nearest_on, .func (PySem.W.fnOf "nearest_on" "nearest_on" (defArgs s_nearest_on) (defBody s_nearest_on) (defScope s_nearest_on) .none kV_nearest_on dc_nearest_on pm_nearest_on an_nearest_on cd_nearest_on ct_nearest_on), sl_nearest_on⟩) (c_nearest_on : PySem.W.codeIn K cd_nearest_on "nearest_on" = true) (k_nearest_on : PySem.W.keepIn K (.ref f_nearest_on) = true)
    {od_far_from an_far_from : Option Addr} {sl_far_from : Array (Option Value)} {oc_far_from kV_far_from dc_far_from pm_far_from cd_far_from ct_far_from : Value} {f_far_from : Addr}
    (a_far_from : PySem.W.nsIn K mainGlobals "far_from" = some (some (.ref f_far_from))) (l_far_from : K.lookup f_far_from = some ⟨oc_far_from, od_far_from, .func (PySem.W.fnOf "far_from" "far_from" (defArgs s_far_from) (defBody s_far_from) (defScope s_far_from) .none kV_far_from dc_far_from pm_far_from an_far_from cd_far_from ct_far_from), sl_far_from⟩) (c_far_from : PySem.W.codeIn K cd_far_from "far_from" = true) (k_far_from : PySem.W.keepIn K (.ref f_far_from) = true)
    {od_farthest an_farthest : Option Addr} {sl_farthest : Array (Option Value)} {oc_farthest kV_farthest dc_farthest pm_farthest cd_farthest ct_farthest : Value} {f_farthest : Addr}
    (a_farthest : PySem.W.nsIn K mainGlobals "farthest" = some (some (.ref f_farthest))) (l_farthest : K.lookup f_farthest = some ⟨oc_farthest, od_farthest, .func (PySem.W.fnOf "farthest" "farthest" (defArgs s_farthest) (defBody s_farthest) (defScope s_farthest) .none kV_farthest dc_farthest pm_farthest an_farthest cd_farthest ct_farthest), sl_farthest⟩) (c_farthest : PySem.W.codeIn K cd_farthest "farthest" = true) (k_farthest : PySem.W.keepIn K (.ref f_farthest) = true)
    {od_simpler an_simpler : Option Addr} {sl_simpler : Array (Option Value)} {oc_simpler kV_simpler dc_simpler pm_simpler cd_simpler ct_simpler : Value} {f_simpler : Addr}
    (a_simpler : PySem.W.nsIn K mainGlobals "simpler" = some (some (.ref f_simpler))) (l_simpler : K.lookup f_simpler = some ⟨oc_simpler, od_simpler, .func (PySem.W.fnOf "simpler" "simpler" (defArgs s_simpler) (defBody s_simpler) (defScope s_simpler) .none kV_simpler dc_simpler pm_simpler an_simpler cd_simpler ct_simpler), sl_simpler⟩) (c_simpler : PySem.W.codeIn K cd_simpler "simpler" = true) (k_simpler : PySem.W.keepIn K (.ref f_simpler) = true)
    {od__law_gap an__law_gap : Option Addr} {sl__law_gap : Array (Option Value)} {oc__law_gap kV__law_gap dc__law_gap pm__law_gap cd__law_gap ct__law_gap : Value} {f__law_gap : Addr}
    (a__law_gap : PySem.W.nsIn K mainGlobals "_law_gap" = some (some (.ref f__law_gap))) (l__law_gap : K.lookup f__law_gap = some ⟨oc__law_gap, od__law_gap, .func (PySem.W.fnOf "_law_gap" "_law_gap" (defArgs s__law_gap) (defBody s__law_gap) (defScope s__law_gap) .none kV__law_gap dc__law_gap pm__law_gap an__law_gap cd__law_gap ct__law_gap), sl__law_gap⟩) (c__law_gap : PySem.W.codeIn K cd__law_gap "_law_gap" = true) (k__law_gap : PySem.W.keepIn K (.ref f__law_gap) = true)
    {od__law_product an__law_product : Option Addr} {sl__law_product : Array (Option Value)} {oc__law_product kV__law_product dc__law_product pm__law_product cd__law_product ct__law_product : Value} {f__law_product : Addr}
    (a__law_product : PySem.W.nsIn K mainGlobals "_law_product" = some (some (.ref f__law_product))) (l__law_product : K.lookup f__law_product = some ⟨oc__law_product, od__law_product, .func (PySem.W.fnOf "_law_product" "_law_product" (defArgs s__law_product) (defBody s__law_product) (defScope s__law_product) .none kV__law_product dc__law_product pm__law_product an__law_product cd__law_product ct__law_product), sl__law_product⟩) (c__law_product : PySem.W.codeIn K cd__law_product "_law_product" = true) (k__law_product : PySem.W.keepIn K (.ref f__law_product) = true)
    {od__law_sum an__law_sum : Option Addr} {sl__law_sum : Array (Option Value)} {oc__law_sum kV__law_sum dc__law_sum pm__law_sum cd__law_sum ct__law_sum : Value} {f__law_sum : Addr}
    (a__law_sum : PySem.W.nsIn K mainGlobals "_law_sum" = some (some (.ref f__law_sum))) (l__law_sum : K.lookup f__law_sum = some ⟨oc__law_sum, od__law_sum, .func (PySem.W.fnOf "_law_sum" "_law_sum" (defArgs s__law_sum) (defBody s__law_sum) (defScope s__law_sum) .none kV__law_sum dc__law_sum pm__law_sum an__law_sum cd__law_sum ct__law_sum), sl__law_sum⟩) (c__law_sum : PySem.W.codeIn K cd__law_sum "_law_sum" = true) (k__law_sum : PySem.W.keepIn K (.ref f__law_sum) = true)
    {od__law_curve an__law_curve : Option Addr} {sl__law_curve : Array (Option Value)} {oc__law_curve kV__law_curve dc__law_curve pm__law_curve cd__law_curve ct__law_curve : Value} {f__law_curve : Addr}
    (a__law_curve : PySem.W.nsIn K mainGlobals "_law_curve" = some (some (.ref f__law_curve))) (l__law_curve : K.lookup f__law_curve = some ⟨oc__law_curve, od__law_curve, .func (PySem.W.fnOf "_law_curve" "_law_curve" (defArgs s__law_curve) (defBody s__law_curve) (defScope s__law_curve) .none kV__law_curve dc__law_curve pm__law_curve an__law_curve cd__law_curve ct__law_curve), sl__law_curve⟩) (c__law_curve : PySem.W.codeIn K cd__law_curve "_law_curve" = true) (k__law_curve : PySem.W.keepIn K (.ref f__law_curve) = true)
    {od__law_less an__law_less : Option Addr} {sl__law_less : Array (Option Value)} {oc__law_less kV__law_less dc__law_less pm__law_less cd__law_less ct__law_less : Value} {f__law_less : Addr}
    (a__law_less : PySem.W.nsIn K mainGlobals "_law_less" = some (some (.ref f__law_less))) (l__law_less : K.lookup f__law_less = some ⟨oc__law_less, od__law_less, .func (PySem.W.fnOf "_law_less" "_law_less" (defArgs s__law_less) (defBody s__law_less) (defScope s__law_less) .none kV__law_less dc__law_less pm__law_less an__law_less cd__law_less ct__law_less), sl__law_less⟩) (c__law_less : PySem.W.codeIn K cd__law_less "_law_less" = true) (k__law_less : PySem.W.keepIn K (.ref f__law_less) = true)
    {od_minus_points an_minus_points : Option Addr} {sl_minus_points : Array (Option Value)} {oc_minus_points kV_minus_points dc_minus_points pm_minus_points cd_minus_points ct_minus_points : Value} {f_minus_points : Addr}
    (a_minus_points : PySem.W.nsIn K mainGlobals "minus_points" = some (some (.ref f_minus_points))) (l_minus_points : K.lookup f_minus_points = some ⟨oc_minus_points, od_minus_points, .func (PySem.W.fnOf "minus_points" "minus_points" (defArgs s_minus_points) (defBody s_minus_points) (defScope s_minus_points) .none kV_minus_points dc_minus_points pm_minus_points an_minus_points cd_minus_points ct_minus_points), sl_minus_points⟩) (c_minus_points : PySem.W.codeIn K cd_minus_points "minus_points" = true) (k_minus_points : PySem.W.keepIn K (.ref f_minus_points) = true)
    {od_lean an_lean : Option Addr} {sl_lean : Array (Option Value)} {oc_lean kV_lean dc_lean pm_lean cd_lean ct_lean : Value} {f_lean : Addr}
    (a_lean : PySem.W.nsIn K mainGlobals "lean" = some (some (.ref f_lean))) (l_lean : K.lookup f_lean = some ⟨oc_lean, od_lean, .func (PySem.W.fnOf "lean" "lean" (defArgs s_lean) (defBody s_lean) (defScope s_lean) .none kV_lean dc_lean pm_lean an_lean cd_lean ct_lean), sl_lean⟩) (c_lean : PySem.W.codeIn K cd_lean "lean" = true) (k_lean : PySem.W.keepIn K (.ref f_lean) = true)
    {od__law_cross an__law_cross : Option Addr} {sl__law_cross : Array (Option Value)} {oc__law_cross kV__law_cross dc__law_cross pm__law_cross cd__law_cross ct__law_cross : Value} {f__law_cross : Addr}
    (a__law_cross : PySem.W.nsIn K mainGlobals "_law_cross" = some (some (.ref f__law_cross))) (l__law_cross : K.lookup f__law_cross = some ⟨oc__law_cross, od__law_cross, .func (PySem.W.fnOf "_law_cross" "_law_cross" (defArgs s__law_cross) (defBody s__law_cross) (defScope s__law_cross) .none kV__law_cross dc__law_cross pm__law_cross an__law_cross cd__law_cross ct__law_cross), sl__law_cross⟩) (c__law_cross : PySem.W.codeIn K cd__law_cross "_law_cross" = true) (k__law_cross : PySem.W.keepIn K (.ref f__law_cross) = true)
    {od__law_under an__law_under : Option Addr} {sl__law_under : Array (Option Value)} {oc__law_under kV__law_under dc__law_under pm__law_under cd__law_under ct__law_under : Value} {f__law_under : Addr}
    (a__law_under : PySem.W.nsIn K mainGlobals "_law_under" = some (some (.ref f__law_under))) (l__law_under : K.lookup f__law_under = some ⟨oc__law_under, od__law_under, .func (PySem.W.fnOf "_law_under" "_law_under" (defArgs s__law_under) (defBody s__law_under) (defScope s__law_under) .none kV__law_under dc__law_under pm__law_under an__law_under cd__law_under ct__law_under), sl__law_under⟩) (c__law_under : PySem.W.codeIn K cd__law_under "_law_under" = true) (k__law_under : PySem.W.keepIn K (.ref f__law_under) = true)
    {od__law_part an__law_part : Option Addr} {sl__law_part : Array (Option Value)} {oc__law_part kV__law_part dc__law_part pm__law_part cd__law_part ct__law_part : Value} {f__law_part : Addr}
    (a__law_part : PySem.W.nsIn K mainGlobals "_law_part" = some (some (.ref f__law_part))) (l__law_part : K.lookup f__law_part = some ⟨oc__law_part, od__law_part, .func (PySem.W.fnOf "_law_part" "_law_part" (defArgs s__law_part) (defBody s__law_part) (defScope s__law_part) .none kV__law_part dc__law_part pm__law_part an__law_part cd__law_part ct__law_part), sl__law_part⟩) (c__law_part : PySem.W.codeIn K cd__law_part "_law_part" = true) (k__law_part : PySem.W.keepIn K (.ref f__law_part) = true)
    {od__law_square an__law_square : Option Addr} {sl__law_square : Array (Option Value)} {oc__law_square kV__law_square dc__law_square pm__law_square cd__law_square ct__law_square : Value} {f__law_square : Addr}
    (a__law_square : PySem.W.nsIn K mainGlobals "_law_square" = some (some (.ref f__law_square))) (l__law_square : K.lookup f__law_square = some ⟨oc__law_square, od__law_square, .func (PySem.W.fnOf "_law_square" "_law_square" (defArgs s__law_square) (defBody s__law_square) (defScope s__law_square) .none kV__law_square dc__law_square pm__law_square an__law_square cd__law_square ct__law_square), sl__law_square⟩) (c__law_square : PySem.W.codeIn K cd__law_square "_law_square" = true) (k__law_square : PySem.W.keepIn K (.ref f__law_square) = true)
    {od__law_far an__law_far : Option Addr} {sl__law_far : Array (Option Value)} {oc__law_far kV__law_far dc__law_far pm__law_far cd__law_far ct__law_far : Value} {f__law_far : Addr}
    (a__law_far : PySem.W.nsIn K mainGlobals "_law_far" = some (some (.ref f__law_far))) (l__law_far : K.lookup f__law_far = some ⟨oc__law_far, od__law_far, .func (PySem.W.fnOf "_law_far" "_law_far" (defArgs s__law_far) (defBody s__law_far) (defScope s__law_far) .none kV__law_far dc__law_far pm__law_far an__law_far cd__law_far ct__law_far), sl__law_far⟩) (c__law_far : PySem.W.codeIn K cd__law_far "_law_far" = true) (k__law_far : PySem.W.keepIn K (.ref f__law_far) = true)
    {od__law_kept an__law_kept : Option Addr} {sl__law_kept : Array (Option Value)} {oc__law_kept kV__law_kept dc__law_kept pm__law_kept cd__law_kept ct__law_kept : Value} {f__law_kept : Addr}
    (a__law_kept : PySem.W.nsIn K mainGlobals "_law_kept" = some (some (.ref f__law_kept))) (l__law_kept : K.lookup f__law_kept = some ⟨oc__law_kept, od__law_kept, .func (PySem.W.fnOf "_law_kept" "_law_kept" (defArgs s__law_kept) (defBody s__law_kept) (defScope s__law_kept) .none kV__law_kept dc__law_kept pm__law_kept an__law_kept cd__law_kept ct__law_kept), sl__law_kept⟩) (c__law_kept : PySem.W.codeIn K cd__law_kept "_law_kept" = true) (k__law_kept : PySem.W.keepIn K (.ref f__law_kept) = true)
    {od_cross an_cross : Option Addr} {sl_cross : Array (Option Value)} {oc_cross kV_cross dc_cross pm_cross cd_cross ct_cross : Value} {f_cross : Addr}
    (a_cross : PySem.W.nsIn K mainGlobals "cross" = some (some (.ref f_cross))) (l_cross : K.lookup f_cross = some ⟨oc_cross, od_cross, .func (PySem.W.fnOf "cross" "cross" (defArgs s_cross) (defBody s_cross) (defScope s_cross) .none kV_cross dc_cross pm_cross an_cross cd_cross ct_cross), sl_cross⟩) (c_cross : PySem.W.codeIn K cd_cross "cross" = true) (k_cross : PySem.W.keepIn K (.ref f_cross) = true)
    {od_sweep an_sweep : Option Addr} {sl_sweep : Array (Option Value)} {oc_sweep kV_sweep dc_sweep pm_sweep cd_sweep ct_sweep : Value} {f_sweep : Addr}
    (a_sweep : PySem.W.nsIn K mainGlobals "sweep" = some (some (.ref f_sweep))) (l_sweep : K.lookup f_sweep = some ⟨oc_sweep, od_sweep, .func (PySem.W.fnOf "sweep" "sweep" (defArgs s_sweep) (defBody s_sweep) (defScope s_sweep) .none kV_sweep dc_sweep pm_sweep an_sweep cd_sweep ct_sweep), sl_sweep⟩) (c_sweep : PySem.W.codeIn K cd_sweep "sweep" = true) (k_sweep : PySem.W.keepIn K (.ref f_sweep) = true)
    {od__law_pick an__law_pick : Option Addr} {sl__law_pick : Array (Option Value)} {oc__law_pick kV__law_pick dc__law_pick pm__law_pick cd__law_pick ct__law_pick : Value} {f__law_pick : Addr}
    (a__law_pick : PySem.W.nsIn K mainGlobals "_law_pick" = some (some (.ref f__law_pick))) (l__law_pick : K.lookup f__law_pick = some ⟨oc__law_pick, od__law_pick, .func (PySem.W.fnOf "_law_pick" "_law_pick" (defArgs s__law_pick) (defBody s__law_pick) (defScope s__law_pick) .none kV__law_pick dc__law_pick pm__law_pick an__law_pick cd__law_pick ct__law_pick), sl__law_pick⟩) (c__law_pick : PySem.W.codeIn K cd__law_pick "_law_pick" = true) (k__law_pick : PySem.W.keepIn K (.ref f__law_pick) = true)
    {od_law an_law : Option Addr} {sl_law : Array (Option Value)} {oc_law kV_law dc_law pm_law cd_law ct_law : Value} {f_law : Addr}
    (a_law : PySem.W.nsIn K mainGlobals "law" = some (some (.ref f_law))) (l_law : K.lookup f_law = some ⟨oc_law, od_law, .func (PySem.W.fnOf "law" "law" (defArgs s_law) (defBody s_law) (defScope s_law) .none kV_law dc_law pm_law an_law cd_law ct_law), sl_law⟩) (c_law : PySem.W.codeIn K cd_law "law" = true) (k_law : PySem.W.keepIn K (.ref f_law) = true)
    {qONE : Addr} {oONE : Option Addr} {nONE : Nat} {iONE : Array (Option Value)} {tONE uONE : Tok} (zONE : PySem.W.nsIn K mainGlobals "ONE" = some (some (.ref qONE))) (wONE : K.lookup qONE = some ⟨.type "tuple", oONE, .seq #[.int 1 tONE, .int 1 uONE] nONE, iONE⟩)
    {qTWO : Addr} {oTWO : Option Addr} {nTWO : Nat} {iTWO : Array (Option Value)} {tTWO uTWO : Tok} (zTWO : PySem.W.nsIn K mainGlobals "TWO" = some (some (.ref qTWO))) (wTWO : K.lookup qTWO = some ⟨.type "tuple", oTWO, .seq #[.int 2 tTWO, .int 1 uTWO] nTWO, iTWO⟩)
    (zgcd : PySem.W.nsIn K mainGlobals "gcd" = some (some (.builtin "math.gcd")))
    (zabs : PySem.W.nsIn K mainGlobals "abs" = some none)
    (zint : PySem.W.nsIn K mainGlobals "int" = some none)
    (zlen : PySem.W.nsIn K mainGlobals "len" = some none)
    (zrange : PySem.W.nsIn K mainGlobals "range" = some none)
    (zsorted : PySem.W.nsIn K mainGlobals "sorted" = some none)
    (ztuple : PySem.W.nsIn K mainGlobals "tuple" = some none)
    (zzip : PySem.W.nsIn K mainGlobals "zip" = some none)
    : ∃ fd : FuncData, (∀ (s : Shared) (v : Value), BindsTo s fd ⟨[v], []⟩ [("_law_script", v)]) ∧ ∀ base : Heap, K.In base → base.Ns mainGlobals mg → FnOk l.prog w K mg base CX0 18 fa fd ["_law_script"] (spL K) := by
  have e := hfa.symm.trans (PySem.W.mg_of X G a_law)
  cases e
  have B : Blt mg := ⟨PySem.W.mg_of X G zgcd, PySem.W.mg_none_of X G zabs, PySem.W.mg_none_of X G zint, PySem.W.mg_none_of X G zlen, PySem.W.mg_none_of X G zrange, PySem.W.mg_none_of X G zsorted, PySem.W.mg_none_of X G ztuple, PySem.W.mg_none_of X G zzip⟩
  have g_ONE := con_pair X G zONE wONE
  have g_TWO := con_pair X G zTWO wTWO
  have D__law_start : DefAt K mg "_law_start" s__law_start ["_law_script"] := def_mk X G a__law_start l__law_start c__law_start k__law_start fun _ _ _ _ _ _ us hl => match us, hl with | [_], _ => rfl
  have D__law_cut : DefAt K mg "_law_cut" s__law_cut ["_law_f"] := def_mk X G a__law_cut l__law_cut c__law_cut k__law_cut fun _ _ _ _ _ _ us hl => match us, hl with | [_], _ => rfl
  have D_fraction : DefAt K mg "fraction" s_fraction ["n", "d"] := def_mk X G a_fraction l_fraction c_fraction k_fraction fun _ _ _ _ _ _ us hl => match us, hl with | [_, _], _ => rfl
  have D_minus : DefAt K mg "minus" s_minus ["a", "b"] := def_mk X G a_minus l_minus c_minus k_minus fun _ _ _ _ _ _ us hl => match us, hl with | [_, _], _ => rfl
  have D_times : DefAt K mg "times" s_times ["a", "b"] := def_mk X G a_times l_times c_times k_times fun _ _ _ _ _ _ us hl => match us, hl with | [_, _], _ => rfl
  have D_plus : DefAt K mg "plus" s_plus ["a", "b"] := def_mk X G a_plus l_plus c_plus k_plus fun _ _ _ _ _ _ us hl => match us, hl with | [_, _], _ => rfl
  have D_curve_point : DefAt K mg "curve_point" s_curve_point ["curve", "t"] := def_mk X G a_curve_point l_curve_point c_curve_point k_curve_point fun _ _ _ _ _ _ us hl => match us, hl with | [_, _], _ => rfl
  have D_flattened : DefAt K mg "flattened" s_flattened ["curve", "n"] := def_mk X G a_flattened l_flattened c_flattened k_flattened fun _ _ _ _ _ _ us hl => match us, hl with | [_, _], _ => rfl
  have D__law_draw : DefAt K mg "_law_draw" s__law_draw ["_law_state", "_law_bound"] := def_mk X G a__law_draw l__law_draw c__law_draw k__law_draw fun _ _ _ _ _ _ us hl => match us, hl with | [_, _], _ => rfl
  have D_gap : DefAt K mg "gap" s_gap ["a", "b"] := def_mk X G a_gap l_gap c_gap k_gap fun _ _ _ _ _ _ us hl => match us, hl with | [_, _], _ => rfl
  have D_dot : DefAt K mg "dot" s_dot ["v", "w"] := def_mk X G a_dot l_dot c_dot k_dot fun _ _ _ _ _ _ us hl => match us, hl with | [_, _], _ => rfl
  have D_square : DefAt K mg "square" s_square ["a", "b"] := def_mk X G a_square l_square c_square k_square fun _ _ _ _ _ _ us hl => match us, hl with | [_, _], _ => rfl
  have D_compare : DefAt K mg "compare" s_compare ["a", "b"] := def_mk X G a_compare l_compare c_compare k_compare fun _ _ _ _ _ _ us hl => match us, hl with | [_, _], _ => rfl
  have D_compare_points : DefAt K mg "compare_points" s_compare_points ["p", "q"] := def_mk X G a_compare_points l_compare_points c_compare_points k_compare_points fun _ _ _ _ _ _ us hl => match us, hl with | [_, _], _ => rfl
  have D_over : DefAt K mg "over" s_over ["a", "b"] := def_mk X G a_over l_over c_over k_over fun _ _ _ _ _ _ us hl => match us, hl with | [_, _], _ => rfl
  have D_along : DefAt K mg "along" s_along ["a", "b", "part"] := def_mk X G a_along l_along c_along k_along fun _ _ _ _ _ _ us hl => match us, hl with | [_, _, _], _ => rfl
  have D_nearest_on : DefAt K mg "nearest_on" s_nearest_on ["a", "b", "point"] := def_mk X G a_nearest_on l_nearest_on c_nearest_on k_nearest_on fun _ _ _ _ _ _ us hl => match us, hl with | [_, _, _], _ => rfl
  have D_far_from : DefAt K mg "far_from" s_far_from ["a", "b", "point"] := def_mk X G a_far_from l_far_from c_far_from k_far_from fun _ _ _ _ _ _ us hl => match us, hl with | [_, _, _], _ => rfl
  have D_farthest : DefAt K mg "farthest" s_farthest ["line", "low", "high"] := def_mk X G a_farthest l_farthest c_farthest k_farthest fun _ _ _ _ _ _ us hl => match us, hl with | [_, _, _], _ => rfl
  have D_simpler : DefAt K mg "simpler" s_simpler ["line", "e"] := def_mk X G a_simpler l_simpler c_simpler k_simpler fun _ _ _ _ _ _ us hl => match us, hl with | [_, _], _ => rfl
  have D__law_gap : DefAt K mg "_law_gap" s__law_gap ["_law_a", "_law_b"] := def_mk X G a__law_gap l__law_gap c__law_gap k__law_gap fun _ _ _ _ _ _ us hl => match us, hl with | [_, _], _ => rfl
  have D__law_product : DefAt K mg "_law_product" s__law_product ["_law_a", "_law_b"] := def_mk X G a__law_product l__law_product c__law_product k__law_product fun _ _ _ _ _ _ us hl => match us, hl with | [_, _], _ => rfl
  have D__law_sum : DefAt K mg "_law_sum" s__law_sum ["_law_a", "_law_b"] := def_mk X G a__law_sum l__law_sum c__law_sum k__law_sum fun _ _ _ _ _ _ us hl => match us, hl with | [_, _], _ => rfl
  have D__law_curve : DefAt K mg "_law_curve" s__law_curve ["_law_curve_here", "_law_t"] := def_mk X G a__law_curve l__law_curve c__law_curve k__law_curve fun _ _ _ _ _ _ us hl => match us, hl with | [_, _], _ => rfl
  have D__law_less : DefAt K mg "_law_less" s__law_less ["_law_a", "_law_b"] := def_mk X G a__law_less l__law_less c__law_less k__law_less fun _ _ _ _ _ _ us hl => match us, hl with | [_, _], _ => rfl
  have D_minus_points : DefAt K mg "minus_points" s_minus_points ["v", "w"] := def_mk X G a_minus_points l_minus_points c_minus_points k_minus_points fun _ _ _ _ _ _ us hl => match us, hl with | [_, _], _ => rfl
  have D_lean : DefAt K mg "lean" s_lean ["curve", "n"] := def_mk X G a_lean l_lean c_lean k_lean fun _ _ _ _ _ _ us hl => match us, hl with | [_, _], _ => rfl
  have D__law_cross : DefAt K mg "_law_cross" s__law_cross ["_law_a", "_law_b", "_law_p"] := def_mk X G a__law_cross l__law_cross c__law_cross k__law_cross fun _ _ _ _ _ _ us hl => match us, hl with | [_, _, _], _ => rfl
  have D__law_under : DefAt K mg "_law_under" s__law_under ["_law_line"] := def_mk X G a__law_under l__law_under c__law_under k__law_under fun _ _ _ _ _ _ us hl => match us, hl with | [_], _ => rfl
  have D__law_part : DefAt K mg "_law_part" s__law_part ["_law_a", "_law_b"] := def_mk X G a__law_part l__law_part c__law_part k__law_part fun _ _ _ _ _ _ us hl => match us, hl with | [_, _], _ => rfl
  have D__law_square : DefAt K mg "_law_square" s__law_square ["_law_p", "_law_q"] := def_mk X G a__law_square l__law_square c__law_square k__law_square fun _ _ _ _ _ _ us hl => match us, hl with | [_, _], _ => rfl
  have D__law_far : DefAt K mg "_law_far" s__law_far ["_law_a", "_law_b", "_law_p"] := def_mk X G a__law_far l__law_far c__law_far k__law_far fun _ _ _ _ _ _ us hl => match us, hl with | [_, _, _], _ => rfl
  have D__law_kept : DefAt K mg "_law_kept" s__law_kept ["_law_line", "_law_low", "_law_high", "_law_e"] := def_mk X G a__law_kept l__law_kept c__law_kept k__law_kept fun _ _ _ _ _ _ us hl => match us, hl with | [_, _, _, _], _ => rfl
  have D_cross : DefAt K mg "cross" s_cross ["v", "w"] := def_mk X G a_cross l_cross c_cross k_cross fun _ _ _ _ _ _ us hl => match us, hl with | [_, _], _ => rfl
  have D_sweep : DefAt K mg "sweep" s_sweep ["curve"] := def_mk X G a_sweep l_sweep c_sweep k_sweep fun _ _ _ _ _ _ us hl => match us, hl with | [_], _ => rfl
  have D__law_pick : DefAt K mg "_law_pick" s__law_pick ["_law_state", "_law_things"] := def_mk X G a__law_pick l__law_pick c__law_pick k__law_pick fun _ _ _ _ _ _ us hl => match us, hl with | [_, _], _ => rfl
  refine ⟨PySem.W.fnOf "law" "law" (defArgs s_law) (defBody s_law) (defScope s_law) .none kV_law dc_law pm_law an_law cd_law ct_law, fun s v => .of_eq rfl, fun base _ _ => ?_⟩
  have K__law_start := ok__law_start (P := l.prog) (w := w) (base := base) B D__law_start 
  have K__law_cut := ok__law_cut (P := l.prog) (w := w) (base := base) B D__law_cut 
  have K_fraction := ok_fraction (P := l.prog) (w := w) (base := base) B D_fraction 
  have K_minus := ok_minus (P := l.prog) (w := w) (base := base) B D_minus K_fraction
  have K_times := ok_times (P := l.prog) (w := w) (base := base) B D_times K_fraction
  have K_plus := ok_plus (P := l.prog) (w := w) (base := base) B D_plus K_fraction
  have K_curve_point := ok_curve_point (P := l.prog) (w := w) (base := base) g_ONE g_TWO B D_curve_point K_minus K_times K_plus
  have K_flattened := ok_flattened (P := l.prog) (w := w) (base := base) B D_flattened K_curve_point K_fraction
  have K__law_draw := ok__law_draw (P := l.prog) (w := w) (base := base) B D__law_draw 
  have K_gap := ok_gap (P := l.prog) (w := w) (base := base) B D_gap K_minus
  have K_dot := ok_dot (P := l.prog) (w := w) (base := base) B D_dot K_plus K_times
  have K_square := ok_square (P := l.prog) (w := w) (base := base) B D_square K_gap K_dot
  have K_compare := ok_compare (P := l.prog) (w := w) (base := base) B D_compare 
  have K_compare_points := ok_compare_points (P := l.prog) (w := w) (base := base) B D_compare_points K_compare
  have K_over := ok_over (P := l.prog) (w := w) (base := base) B D_over K_fraction
  have K_along := ok_along (P := l.prog) (w := w) (base := base) B D_along K_gap K_plus K_times
  have K_nearest_on := ok_nearest_on (P := l.prog) (w := w) (base := base) B D_nearest_on K_gap K_over K_along K_dot
  have K_far_from := ok_far_from (P := l.prog) (w := w) (base := base) B D_far_from K_square K_compare_points K_nearest_on
  have K_farthest := ok_farthest (P := l.prog) (w := w) (base := base) B D_farthest K_far_from K_compare
  have K_simpler := ok_simpler (P := l.prog) (w := w) (base := base) B D_simpler K_farthest K_compare
  have K__law_gap := ok__law_gap (P := l.prog) (w := w) (base := base) B D__law_gap K__law_cut
  have K__law_product := ok__law_product (P := l.prog) (w := w) (base := base) B D__law_product K__law_cut
  have K__law_sum := ok__law_sum (P := l.prog) (w := w) (base := base) B D__law_sum K__law_cut
  have K__law_curve := ok__law_curve (P := l.prog) (w := w) (base := base) B D__law_curve K__law_gap K__law_product K__law_sum
  have K__law_less := ok__law_less (P := l.prog) (w := w) (base := base) B D__law_less 
  have K_minus_points := ok_minus_points (P := l.prog) (w := w) (base := base) B D_minus_points K_minus
  have K_lean := ok_lean (P := l.prog) (w := w) (base := base) B D_lean K_minus_points K_times K_gap K_dot K_fraction
  have K__law_cross := ok__law_cross (P := l.prog) (w := w) (base := base) B D__law_cross K__law_product K__law_gap
  have K__law_under := ok__law_under (P := l.prog) (w := w) (base := base) B D__law_under K__law_product K__law_sum K__law_cross
  have K__law_part := ok__law_part (P := l.prog) (w := w) (base := base) B D__law_part K__law_cut
  have K__law_square := ok__law_square (P := l.prog) (w := w) (base := base) B D__law_square K__law_gap K__law_sum K__law_product
  have K__law_far := ok__law_far (P := l.prog) (w := w) (base := base) B D__law_far K__law_gap K__law_sum K__law_part K__law_square K__law_product
  have K__law_kept := ok__law_kept (P := l.prog) (w := w) (base := base) B D__law_kept K__law_far K__law_less 12
  have K_cross := ok_cross (P := l.prog) (w := w) (base := base) B D_cross K_minus K_times
  have K_sweep := ok_sweep (P := l.prog) (w := w) (base := base) B D_sweep K_times K_cross K_fraction K_gap
  have K__law_pick := ok__law_pick (P := l.prog) (w := w) (base := base) B D__law_pick K__law_draw
  exact fnW (fun_mk (st := s_law) l_law c_law k_law) sc_law rfl fun cdv A outer s H E hr => ⟨t_law K, tm_law B K__law_start K__law_cut K_flattened K__law_draw K_simpler K__law_curve K__law_less K_lean K__law_product K__law_under K__law_kept K__law_far K_sweep K__law_pick hr, fun ns hns => law_w hns⟩
end DL
open PySem PySem.W PyProof.Rows
set_option maxHeartbeats 0 in
theorem PySem.Challenge.cw_inkplane_k26_lines_and_curves_holds : PySem.Challenge.rw_inkplane_k26_lines_and_curves.Holds := by
  w_on; o_law; k_head; (case hw => w_witness2)
  k_fill
  refine L2.walk_of (l := PySem.Challenge.rw_inkplane_k26_lines_and_curves) (n := 63) (k := 18) (x := "_law_script") (CX := fun _ => L2.CX0) (sp := fun w => DL.spL _) rfl (by decide) rfl ⟨rfl, by decide, by decide⟩ (fun w h Y => PySem.W.kIn_of Y) ?F (fun _ _ a ns hl _ hS => ⟨a, ns, rfl, hS, hl, fun _ => rfl⟩) (fun _ _ _ _ _ h => h)
  case F =>
    intro w mg fa h KX G hmg
    refine' DL.all_mk KX G hmg ?a__law_start ?l__law_start ?c__law_start ?k__law_start ?a__law_cut ?l__law_cut ?c__law_cut ?k__law_cut ?a_fraction ?l_fraction ?c_fraction ?k_fraction ?a_minus ?l_minus ?c_minus ?k_minus ?a_times ?l_times ?c_times ?k_times ?a_plus ?l_plus ?c_plus ?k_plus ?a_curve_point ?l_curve_point ?c_curve_point ?k_curve_point ?a_flattened ?l_flattened ?c_flattened ?k_flattened ?a__law_draw ?l__law_draw ?c__law_draw ?k__law_draw ?a_gap ?l_gap ?c_gap ?k_gap ?a_dot ?l_dot ?c_dot ?k_dot ?a_square ?l_square ?c_square ?k_square ?a_compare ?l_compare ?c_compare ?k_compare ?a_compare_points ?l_compare_points ?c_compare_points ?k_compare_points ?a_over ?l_over ?c_over ?k_over ?a_along ?l_along ?c_along ?k_along ?a_nearest_on ?l_nearest_on ?c_nearest_on ?k_nearest_on ?a_far_from ?l_far_from ?c_far_from ?k_far_from ?a_farthest ?l_farthest ?c_farthest ?k_farthest ?a_simpler ?l_simpler ?c_simpler ?k_simpler ?a__law_gap ?l__law_gap ?c__law_gap ?k__law_gap ?a__law_product ?l__law_product ?c__law_product ?k__law_product ?a__law_sum ?l__law_sum ?c__law_sum ?k__law_sum ?a__law_curve ?l__law_curve ?c__law_curve ?k__law_curve ?a__law_less ?l__law_less ?c__law_less ?k__law_less ?a_minus_points ?l_minus_points ?c_minus_points ?k_minus_points ?a_lean ?l_lean ?c_lean ?k_lean ?a__law_cross ?l__law_cross ?c__law_cross ?k__law_cross ?a__law_under ?l__law_under ?c__law_under ?k__law_under ?a__law_part ?l__law_part ?c__law_part ?k__law_part ?a__law_square ?l__law_square ?c__law_square ?k__law_square ?a__law_far ?l__law_far ?c__law_far ?k__law_far ?a__law_kept ?l__law_kept ?c__law_kept ?k__law_kept ?a_cross ?l_cross ?c_cross ?k_cross ?a_sweep ?l_sweep ?c_sweep ?k_sweep ?a__law_pick ?l__law_pick ?c__law_pick ?k__law_pick ?a_law ?l_law ?c_law ?k_law ?zONE ?wONE ?zTWO ?wTWO ?zgcd ?zabs ?zint ?zlen ?zrange ?zsorted ?ztuple ?zzip
    (case a__law_start => k_is); (case l__law_start => k_is); (case c__law_start => k_is); (case k__law_start => k_is); (case a__law_cut => k_is); (case l__law_cut => k_is); (case c__law_cut => k_is); (case k__law_cut => k_is); (case a_fraction => k_is); (case l_fraction => k_is); (case c_fraction => k_is); (case k_fraction => k_is); (case a_minus => k_is); (case l_minus => k_is); (case c_minus => k_is); (case k_minus => k_is); (case a_times => k_is); (case l_times => k_is); (case c_times => k_is); (case k_times => k_is); (case a_plus => k_is); (case l_plus => k_is); (case c_plus => k_is); (case k_plus => k_is); (case a_curve_point => k_is); (case l_curve_point => k_is); (case c_curve_point => k_is); (case k_curve_point => k_is); (case a_flattened => k_is); (case l_flattened => k_is); (case c_flattened => k_is); (case k_flattened => k_is); (case a__law_draw => k_is); (case l__law_draw => k_is); (case c__law_draw => k_is); (case k__law_draw => k_is); (case a_gap => k_is); (case l_gap => k_is); (case c_gap => k_is); (case k_gap => k_is); (case a_dot => k_is); (case l_dot => k_is); (case c_dot => k_is); (case k_dot => k_is); (case a_square => k_is); (case l_square => k_is); (case c_square => k_is); (case k_square => k_is); (case a_compare => k_is); (case l_compare => k_is); (case c_compare => k_is); (case k_compare => k_is); (case a_compare_points => k_is); (case l_compare_points => k_is); (case c_compare_points => k_is); (case k_compare_points => k_is); (case a_over => k_is); (case l_over => k_is); (case c_over => k_is); (case k_over => k_is); (case a_along => k_is); (case l_along => k_is); (case c_along => k_is); (case k_along => k_is); (case a_nearest_on => k_is); (case l_nearest_on => k_is); (case c_nearest_on => k_is); (case k_nearest_on => k_is); (case a_far_from => k_is); (case l_far_from => k_is); (case c_far_from => k_is); (case k_far_from => k_is); (case a_farthest => k_is); (case l_farthest => k_is); (case c_farthest => k_is); (case k_farthest => k_is); (case a_simpler => k_is); (case l_simpler => k_is); (case c_simpler => k_is); (case k_simpler => k_is); (case a__law_gap => k_is); (case l__law_gap => k_is); (case c__law_gap => k_is); (case k__law_gap => k_is); (case a__law_product => k_is); (case l__law_product => k_is); (case c__law_product => k_is); (case k__law_product => k_is); (case a__law_sum => k_is); (case l__law_sum => k_is); (case c__law_sum => k_is); (case k__law_sum => k_is); (case a__law_curve => k_is); (case l__law_curve => k_is); (case c__law_curve => k_is); (case k__law_curve => k_is); (case a__law_less => k_is); (case l__law_less => k_is); (case c__law_less => k_is); (case k__law_less => k_is); (case a_minus_points => k_is); (case l_minus_points => k_is); (case c_minus_points => k_is); (case k_minus_points => k_is); (case a_lean => k_is); (case l_lean => k_is); (case c_lean => k_is); (case k_lean => k_is); (case a__law_cross => k_is); (case l__law_cross => k_is); (case c__law_cross => k_is); (case k__law_cross => k_is); (case a__law_under => k_is); (case l__law_under => k_is); (case c__law_under => k_is); (case k__law_under => k_is); (case a__law_part => k_is); (case l__law_part => k_is); (case c__law_part => k_is); (case k__law_part => k_is); (case a__law_square => k_is); (case l__law_square => k_is); (case c__law_square => k_is); (case k__law_square => k_is); (case a__law_far => k_is); (case l__law_far => k_is); (case c__law_far => k_is); (case k__law_far => k_is); (case a__law_kept => k_is); (case l__law_kept => k_is); (case c__law_kept => k_is); (case k__law_kept => k_is); (case a_cross => k_is); (case l_cross => k_is); (case c_cross => k_is); (case k_cross => k_is); (case a_sweep => k_is); (case l_sweep => k_is); (case c_sweep => k_is); (case k_sweep => k_is); (case a__law_pick => k_is); (case l__law_pick => k_is); (case c__law_pick => k_is); (case k__law_pick => k_is); (case a_law => k_is); (case l_law => k_is); (case c_law => k_is); (case k_law => k_is); (case zONE => k_is); (case wONE => k_is); (case zTWO => k_is); (case wTWO => k_is); (case zgcd => k_is); (case zabs => k_is); (case zint => k_is); (case zlen => k_is); (case zrange => k_is); (case zsorted => k_is); (case ztuple => k_is); (case zzip => k_is)
