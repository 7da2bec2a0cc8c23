import PyProof.Rows.All
import Wide.All
import OpenK.AllK
import Wide.FinOn
import HandS.ForMost
import HandS.ForExc
import HandS.TupAny
import HandS.TupMul
import HandS.Wide
import HandS.Deep
import HandS.IsInst
import HandS.More
import HandS.Conv
import HandS.Star
import HandS.Defaults
import HandS.CallSlots
import KE.KUnpackStar
import PyProof.MakeMany
import PyProof.ReprRoads
import PyProof.ReprText
import HandS.Style
import HandS.Strs
import KE.KRevSl
import PyProof.SeqIndex
import PySem.Challenge.RW_coincounters_k04_kinds_renamed
set_option Elab.async false
set_option linter.all false
set_option maxRecDepth 100000
set_option maxHeartbeats 1000000
namespace Dn
open PySem L2

/-! data: what is never changed is a value; what changes is told by the store -/
inductive D where
  | non | bl (b : Bool) | int (i : Int) | str (x : Str) | ref (a : Addr) | ty (n : String) | emp
  | tup (ds : List D) | lst (ds : List D) | scr (ds : List D) | ntp (ds : List D)

inductive MO where
  | lst (ds : List D)
  | frz (ds : List D)
  | ins (C : Addr) (fs : List (Str × D))
  | dk (kvs : List (Key × D))
  | dt (kvs : List (List Key × D))
abbrev Mem := Addr → Option MO
def updM (M : Mem) (a : Addr) (o : MO) : Mem := fun b => if b = a then some o else M b
theorem updM_same {M : Mem} {a : Addr} {o : MO} : updM M a o a = some o := if_pos rfl
theorem updM_ne {M : Mem} {a b : Addr} {o : MO} (h : b ≠ a) : updM M a o b = M b := if_neg h

abbrev Frg := PySem.W.Frag
mutual
def Is (K : Frg) (F : Hp) : D → V → Prop
  | .non, v => v = .non
  | .bl b, v => v = .bl b
  | .int i, v => v = .int i
  | .str x, v => v = .str x
  | .ref a, v => v = .ref a
  | .ty n, v => v = .ty n
  | .emp, v => ∃ a, v = .ref a ∧ F a = some (.dK [])
  | .tup ds, v => ∃ a vs, v = .ref a ∧ SqT K F a vs ∧ IsL K F ds vs
  | .lst ds, v => ∃ a vs, v = .ref a ∧ F a = some (.lst vs) ∧ IsL K F ds vs
  | .scr ds, v => ∃ a vs, v = .ref a ∧ SqL K F a vs ∧ IsL K F ds vs
  | .ntp ds, v => ∃ a vs, v = .ref a ∧ (∃ o, F a = some (.frz o (.tup vs)) ∧ o.dict = none) ∧ IsL K F ds vs
def IsL (K : Frg) (F : Hp) : List D → List V → Prop
  | [], vs => vs = []
  | d :: ds, vs => ∃ v r, vs = v :: r ∧ Is K F d v ∧ IsL K F ds r
end

def Ext (F F' : Hp) : Prop := ∀ a o, F a = some o → F' a = some o
theorem Ext.refl (F : Hp) : Ext F F := fun _ _ h => h
theorem Ext.trans {F F1 F2 : Hp} (a : Ext F F1) (b : Ext F1 F2) : Ext F F2 := fun x o h => b x o (a x o h)
theorem Ext.rd {F F' : Hp} (e : Ext F F') {a : Addr} {u : HO} (h : Rd F a u) : Rd F' a u := by
  rcases h with h | ⟨o, h⟩
  · exact .inl (e a _ h)
  · exact .inr ⟨o, e a _ h⟩
theorem Ext.sqL {K : Frg} {F F' : Hp} (e : Ext F F') {a : Addr} {vs : List V} (h : SqL K F a vs) : SqL K F' a vs := h.elim (fun h => .inl (e.rd h)) .inr
theorem Ext.sqT {K : Frg} {F F' : Hp} (e : Ext F F') {a : Addr} {vs : List V} (h : SqT K F a vs) : SqT K F' a vs := h.elim (fun h => .inl (e.rd h)) .inr
theorem Ext.new {F : Hp} {p : Addr} {o : HO} (h : F p = none) : Ext F (upd F p o) := fun a u e => by
  rw [upd_ne (ne_of_none e h)]
  exact e
mutual
theorem Is.mono {K : Frg} {F F' : Hp} (e : Ext F F') : ∀ (d : D) (v : V), Is K F d v → Is K F' d v
  | .non, _, h => h
  | .bl _, _, h => h
  | .int _, _, h => h
  | .str _, _, h => h
  | .ref _, _, h => h
  | .ty _, _, h => h
  | .emp, _, ⟨a, h1, h2⟩ => ⟨a, h1, e a _ h2⟩
  | .tup ds, _, ⟨a, vs, h1, h2, h3⟩ => ⟨a, vs, h1, e.sqT h2, IsL.mono e ds vs h3⟩
  | .lst ds, _, ⟨a, vs, h1, h2, h3⟩ => ⟨a, vs, h1, e a _ h2, IsL.mono e ds vs h3⟩
  | .scr ds, _, ⟨a, vs, h1, h2, h3⟩ => ⟨a, vs, h1, e.sqL h2, IsL.mono e ds vs h3⟩
  | .ntp ds, _, ⟨a, vs, h1, ⟨o, h2, h4⟩, h3⟩ => ⟨a, vs, h1, ⟨o, e a _ h2, h4⟩, IsL.mono e ds vs h3⟩
theorem IsL.mono {K : Frg} {F F' : Hp} (e : Ext F F') : ∀ (ds : List D) (vs : List V), IsL K F ds vs → IsL K F' ds vs
  | [], _, h => h
  | d :: ds, _, ⟨v, r, h1, h2, h3⟩ => ⟨v, r, h1, Is.mono e d v h2, IsL.mono e ds r h3⟩
end

section
variable {K : Frg} {F : Hp}
theorem IsL.length : ∀ {ds : List D} {vs : List V}, IsL K F ds vs → ds.length = vs.length
  | [], _, h => by
    cases h
    rfl
  | d :: ds, _, ⟨v, r, h1, _, h3⟩ => by
    cases h1
    exact congrArg Nat.succ (IsL.length h3)
theorem IsL.at : ∀ {ds : List D} {vs : List V} {i : Nat} {d : D}, IsL K F ds vs → ds[i]? = some d → ∃ v, vs[i]? = some v ∧ Is K F d v
  | d :: ds, _, 0, e, ⟨v, r, h1, h2, _⟩, q => by
    cases h1
    cases q
    exact ⟨v, rfl, h2⟩
  | d :: ds, _, i + 1, e, ⟨v, r, h1, _, h3⟩, q => by
    cases h1
    exact IsL.at (i := i) h3 q
theorem IsL.at2 : ∀ {ds : List D} {vs : List V} {i : Nat} {v : V}, IsL K F ds vs → vs[i]? = some v → ∃ d, ds[i]? = some d ∧ Is K F d v
  | [], _, i, v, h, q => by
    cases h
    cases q
  | d :: ds, _, 0, v, ⟨_, r, h1, h2, _⟩, q => by
    cases h1
    cases q
    exact ⟨d, rfl, h2⟩
  | d :: ds, _, i + 1, v, ⟨_, r, h1, _, h3⟩, q => by
    cases h1
    exact IsL.at2 (i := i) h3 q
theorem IsL.append : ∀ {ds es : List D} {vs us : List V}, IsL K F ds vs → IsL K F es us → IsL K F (ds ++ es) (vs ++ us)
  | [], _, _, _, h, k => by
    cases h
    exact k
  | d :: ds, _, _, _, ⟨v, r, h1, h2, h3⟩, k => by
    cases h1
    exact ⟨v, _, rfl, h2, IsL.append h3 k⟩
theorem IsL.take : ∀ {ds : List D} {vs : List V} (n : Nat), IsL K F ds vs → IsL K F (ds.take n) (vs.take n)
  | _, _, 0, _ => rfl
  | [], _, _ + 1, h => by
    cases h
    rfl
  | d :: ds, _, n + 1, ⟨v, r, h1, h2, h3⟩ => by
    cases h1
    exact ⟨v, _, rfl, h2, IsL.take n h3⟩
theorem IsL.drop : ∀ {ds : List D} {vs : List V} (n : Nat), IsL K F ds vs → IsL K F (ds.drop n) (vs.drop n)
  | _, _, 0, h => h
  | [], _, _ + 1, h => by
    cases h
    rfl
  | d :: ds, _, n + 1, ⟨v, r, h1, _, h3⟩ => by
    cases h1
    exact IsL.drop n h3
theorem IsL.set : ∀ {ds : List D} {vs : List V} (n : Nat) {d : D} {v : V}, Is K F d v → IsL K F ds vs → IsL K F (ds.set n d) (vs.set n v)
  | [], _, _, _, _, _, h => by
    cases h
    rfl
  | e :: ds, _, 0, _, _, q, ⟨v, r, h1, _, h3⟩ => by
    cases h1
    exact ⟨_, _, rfl, q, h3⟩
  | e :: ds, _, n + 1, _, _, q, ⟨v, r, h1, h2, h3⟩ => by
    cases h1
    exact ⟨_, _, rfl, h2, IsL.set n q h3⟩
theorem IsL.reverse {ds : List D} {vs : List V} (h : IsL K F ds vs) : IsL K F ds.reverse vs.reverse := by
  induction ds generalizing vs with
  | nil =>
    cases h
    rfl
  | cons d ds ih =>
    obtain ⟨v, r, h1, h2, h3⟩ := h
    cases h1
    rw [List.reverse_cons, List.reverse_cons]
    exact (ih h3).append ⟨v, [], rfl, h2, rfl⟩
theorem IsL.one {d : D} {v : V} (h : Is K F d v) : IsL K F [d] [v] := ⟨v, [], rfl, h, rfl⟩
theorem IsL.cons {d : D} {v : V} {ds : List D} {vs : List V} (h : Is K F d v) (k : IsL K F ds vs) : IsL K F (d :: ds) (v :: vs) := ⟨v, vs, rfl, h, k⟩
end

/-! the store and the heap -/
def FsOk (K : Frg) (F : Hp) : List (Str × D) → List (Str × V) → Prop
  | [], gs => gs = []
  | (k, d) :: fs, gs => ∃ v r, gs = (k, v) :: r ∧ Is K F d v ∧ FsOk K F fs r
def KsOk {κ : Type} (K : Frg) (F : Hp) : List (κ × D) → List (κ × V) → Prop
  | [], gs => gs = []
  | (k, d) :: fs, gs => ∃ v r, gs = (k, v) :: r ∧ Is K F d v ∧ KsOk K F fs r
def MOk (K : Frg) (F H : Hp) (a : Addr) : MO → Prop
  | .lst ds => F a = none ∧ ∃ vs, H a = some (.lst vs) ∧ IsL K F ds vs
  | .frz ds => ∃ vs, SqL K F a vs ∧ IsL K F ds vs ∧ H a ≠ none
  | .ins C fs => F a = none ∧ ∃ dx gs, H a = some (.ins C dx gs) ∧ FsOk K F fs gs ∧ F dx = none ∧ H dx = some (.own a)
  | .dk kvs => F a = none ∧ ∃ gs, H a = some (.dK gs) ∧ KsOk K F kvs gs
  | .dt kvs => F a = none ∧ ∃ gs, H a = some (.dT gs) ∧ KsOk K F kvs gs
theorem FsOk.mono {K : Frg} {F F' : Hp} (e : Ext F F') : ∀ {fs : List (Str × D)} {gs : List (Str × V)}, FsOk K F fs gs → FsOk K F' fs gs
  | [], _, h => h
  | (k, d) :: fs, _, ⟨v, r, h1, h2, h3⟩ => ⟨v, r, h1, Is.mono e d v h2, FsOk.mono e h3⟩
theorem KsOk.mono {κ : Type} {K : Frg} {F F' : Hp} (e : Ext F F') : ∀ {fs : List (κ × D)} {gs : List (κ × V)}, KsOk K F fs gs → KsOk K F' fs gs
  | [], _, h => h
  | (k, d) :: fs, _, ⟨v, r, h1, h2, h3⟩ => ⟨v, r, h1, Is.mono e d v h2, KsOk.mono e h3⟩

def EnvOk (K : Frg) (F : Hp) : List (Option D) → List (Option V) → Prop
  | [], σ => σ = []
  | none :: ρ, σ => ∃ o r, σ = o :: r ∧ EnvOk K F ρ r
  | some d :: ρ, σ => ∃ v r, σ = some v :: r ∧ Is K F d v ∧ EnvOk K F ρ r
theorem EnvOk.mono {K : Frg} {F F' : Hp} (e : Ext F F') : ∀ {ρ : List (Option D)} {σ : List (Option V)}, EnvOk K F ρ σ → EnvOk K F' ρ σ
  | [], _, h => h
  | none :: _, _, ⟨o, r, h1, h2⟩ => ⟨o, r, h1, EnvOk.mono e h2⟩
  | some d :: _, _, ⟨v, r, h1, h2, h3⟩ => ⟨v, r, h1, Is.mono e d v h2, EnvOk.mono e h3⟩
theorem EnvOk.at {K : Frg} {F : Hp} : ∀ {ρ : List (Option D)} {σ : List (Option V)} {i : Nat} {d : D}, EnvOk K F ρ σ → ρ[i]? = some (some d) → ∃ v, σ[i]? = some (some v) ∧ Is K F d v
  | some e :: ρ, _, 0, d, ⟨v, r, h1, h2, _⟩, q => by
    cases h1
    cases q
    exact ⟨v, rfl, h2⟩
  | none :: ρ, _, 0, d, _, q => by cases q
  | none :: ρ, _, i + 1, d, ⟨_, r, h1, h3⟩, q => by
    cases h1
    exact EnvOk.at (i := i) h3 q
  | some e :: ρ, _, i + 1, d, ⟨_, r, h1, _, h3⟩, q => by
    cases h1
    exact EnvOk.at (i := i) h3 q
theorem EnvOk.set {K : Frg} {F : Hp} : ∀ {ρ : List (Option D)} {σ : List (Option V)} (i : Nat) {d : D} {v : V}, EnvOk K F ρ σ → Is K F d v → EnvOk K F (ρ.set i (some d)) (σ.set i (some v))
  | [], _, _, _, _, h, _ => by
    cases h
    rfl
  | none :: ρ, _, 0, _, _, ⟨_, r, h1, h3⟩, q => by
    cases h1
    exact ⟨_, _, rfl, q, h3⟩
  | some e :: ρ, _, 0, _, _, ⟨_, r, h1, _, h3⟩, q => by
    cases h1
    exact ⟨_, _, rfl, q, h3⟩
  | none :: ρ, _, i + 1, _, _, ⟨o, r, h1, h3⟩, q => by
    cases h1
    exact ⟨o, _, rfl, EnvOk.set i h3 q⟩
  | some e :: ρ, _, i + 1, _, _, ⟨v, r, h1, h2, h3⟩, q => by
    cases h1
    exact ⟨v, _, rfl, h2, EnvOk.set i h3 q⟩

/-- what holds between the heap as it is told and the data -/
structure R (K : Frg) (F : Hp) (M : Mem) (H : Hp) (σ : List (Option V)) (ρ : List (Option D)) : Prop where
  le : Ext F H
  mem : ∀ a o, M a = some o → MOk K F H a o
  env : EnvOk K F ρ σ

theorem MOk.there {K : Frg} {F H : Hp} {a : Addr} {o : MO} (h : MOk K F H a o) : H a ≠ none := by
  cases o with
  | lst ds =>
    obtain ⟨_, vs, h, _⟩ := h
    rw [h]
    exact fun z => nomatch z
  | frz ds =>
    obtain ⟨vs, _, _, h⟩ := h
    exact h
  | ins C fs =>
    obtain ⟨_, dx, gs, h, _⟩ := h
    rw [h]
    exact fun z => nomatch z
  | dk kvs =>
    obtain ⟨_, gs, h, _⟩ := h
    rw [h]
    exact fun z => nomatch z
  | dt kvs =>
    obtain ⟨_, gs, h, _⟩ := h
    rw [h]
    exact fun z => nomatch z
/-- the heap may grow, the frozen part with it, by what the heap did not hold -/
theorem MOk.grow {K : Frg} {F H F' H' : Hp} {a : Addr} {o : MO} (h : MOk K F H a o) (e : Ext F F') (k : Ext H H') (nf : ∀ b, H b ≠ none → F b = none → F' b = none) : MOk K F' H' a o := by
  cases o with
  | lst ds =>
    obtain ⟨h0, vs, h1, h2⟩ := h
    exact ⟨nf a (by rw [h1]; exact fun z => nomatch z) h0, vs, k _ _ h1, h2.mono e⟩
  | frz ds =>
    obtain ⟨vs, h1, h2, h3⟩ := h
    refine ⟨vs, e.sqL h1, h2.mono e, fun z => ?_⟩
    cases q : H a with
    | none => exact h3 q
    | some u =>
      rw [k a u q] at z
      cases z
  | ins C fs =>
    obtain ⟨h0, dx, gs, h1, h2, h3, h4⟩ := h
    exact ⟨nf a (by rw [h1]; exact fun z => nomatch z) h0, dx, gs, k _ _ h1, h2.mono e, nf dx (by rw [h4]; exact fun z => nomatch z) h3, k _ _ h4⟩
  | dk kvs =>
    obtain ⟨h0, gs, h1, h2⟩ := h
    exact ⟨nf a (by rw [h1]; exact fun z => nomatch z) h0, gs, k _ _ h1, h2.mono e⟩
  | dt kvs =>
    obtain ⟨h0, gs, h1, h2⟩ := h
    exact ⟨nf a (by rw [h1]; exact fun z => nomatch z) h0, gs, k _ _ h1, h2.mono e⟩

section
variable {K : Frg} {F F' H H' : Hp} {M : Mem} {σ : List (Option V)} {ρ : List (Option D)}
theorem R.grow (r : R K F M H σ ρ) (e : Ext F F') (k : Ext H H') (l : Ext F' H') (nf : ∀ b, H b ≠ none → F b = none → F' b = none) : R K F' M H' σ ρ :=
  ⟨l, fun a o h => (r.mem a o h).grow e k nf, r.env.mono e⟩
theorem R.free (r : R K F M H σ ρ) {p : Addr} (h : H p = none) : F p = none ∧ M p = none := by
  constructor
  · cases q : F p with
    | none => rfl
    | some o =>
      rw [r.le p o q] at h
      cases h
  · cases q : M p with
    | none => rfl
    | some o => exact absurd h (r.mem p o q).there
/-- a new frozen object -/
theorem R.laid (r : R K F M H σ ρ) {p : Addr} {o : HO} (h : H p = none) : R K (upd F p o) M (upd H p o) σ ρ := by
  refine r.grow (Ext.new (r.free h).1) (Ext.new h) (fun a u q => ?_) (fun b hb hf => ?_)
  · by_cases e : a = p
    · subst e
      rw [upd_same] at q ⊢
      exact q
    · rw [upd_ne e] at q ⊢
      exact r.le a u q
  · by_cases e : b = p
    · subst e
      exact absurd h hb
    · rw [upd_ne e]
      exact hf
/-- a new object of the store -/
theorem R.stored (r : R K F M H σ ρ) {p : Addr} {o : HO} {m : MO} (h : H p = none) (ok : MOk K F (upd H p o) p m) : R K F (updM M p m) (upd H p o) σ ρ := by
  have g : R K F M (upd H p o) σ ρ := r.grow (Ext.refl F) (Ext.new h) (fun a u q => Ext.new h a u (r.le a u q)) fun _ _ z => z
  refine ⟨g.le, fun a u q => ?_, g.env⟩
  by_cases e : a = p
  · subst e
    rw [updM_same] at q
    cases q
    exact ok
  · rw [updM_ne e] at q
    exact g.mem a u q
/-- an object of the store changed -/
theorem R.changed (r : R K F M H σ ρ) {p : Addr} {o u : HO} {m : MO} (h : H p = some u) (hf : F p = none) (no : ∀ x, u ≠ .own x) (ni : (∀ C dx gs, u ≠ .ins C dx gs) ∨ ∃ C dx gs gs', u = .ins C dx gs ∧ o = .ins C dx gs') (ok : MOk K F (upd H p o) p m) : R K F (updM M p m) (upd H p o) σ ρ := by
  refine ⟨fun a v q => ?_, fun a v q => ?_, r.env⟩
  · rw [upd_ne (ne_of_none q hf)]
    exact r.le a v q
  · by_cases e : a = p
    · subst e
      rw [updM_same] at q
      cases q
      exact ok
    · rw [updM_ne e] at q
      have k := r.mem a v q
      cases v with
      | lst ds =>
        obtain ⟨h0, vs, h1, h2⟩ := k
        exact ⟨h0, vs, by rw [upd_ne e]; exact h1, h2⟩
      | frz ds =>
        obtain ⟨vs, h1, h2, h3⟩ := k
        exact ⟨vs, h1, h2, by rw [upd_ne e]; exact h3⟩
      | ins C fs =>
        obtain ⟨h0, dx, gs, h1, h2, h3, h4⟩ := k
        refine ⟨h0, dx, gs, by rw [upd_ne e]; exact h1, h2, h3, ?_⟩
        have ne : dx ≠ p := fun z => by
          subst z
          rw [h] at h4
          exact no a (Option.some.inj h4)
        rw [upd_ne ne]
        exact h4
      | dk kvs =>
        obtain ⟨h0, gs, h1, h2⟩ := k
        exact ⟨h0, gs, by rw [upd_ne e]; exact h1, h2⟩
      | dt kvs =>
        obtain ⟨h0, gs, h1, h2⟩ := k
        exact ⟨h0, gs, by rw [upd_ne e]; exact h1, h2⟩
/-- a list of the store is changed no more -/
theorem R.frozen (r : R K F M H σ ρ) {p : Addr} {ds : List D} (h : M p = some (.lst ds)) : ∃ F', Ext F F' ∧ R K F' (updM M p (.frz ds)) H σ ρ ∧ Is K F' (.lst ds) (.ref p) := by
  obtain ⟨h0, vs, h1, h2⟩ := r.mem p _ h
  have e : Ext F (upd F p (.lst vs)) := Ext.new h0
  have g : R K (upd F p (.lst vs)) (updM M p (.frz ds)) H σ ρ := by
    refine ⟨fun a u q => ?_, fun a v q => ?_, r.env.mono e⟩
    · by_cases z : a = p
      · subst z
        rw [upd_same] at q
        cases q
        exact h1
      · rw [upd_ne z] at q
        exact r.le a u q
    · by_cases z : a = p
      · subst z
        rw [updM_same] at q
        cases q
        exact ⟨vs, .inl (.inl upd_same), h2.mono e, by rw [h1]; exact fun z => nomatch z⟩
      · rw [updM_ne z] at q
        have k := r.mem a v q
        cases v with
        | lst ds =>
          obtain ⟨h0, vs, h1, h2⟩ := k
          exact ⟨by rw [upd_ne z]; exact h0, vs, h1, h2.mono e⟩
        | frz ds =>
          obtain ⟨vs, h1, h2, h3⟩ := k
          exact ⟨vs, e.sqL h1, h2.mono e, h3⟩
        | ins C fs =>
          obtain ⟨h0, dx, gs, k1, h2, h3, h4⟩ := k
          have ne : dx ≠ p := fun y => by
            subst y
            rw [h1] at h4
            cases h4
          exact ⟨by rw [upd_ne z]; exact h0, dx, gs, k1, h2.mono e, by rw [upd_ne ne]; exact h3, h4⟩
        | dk kvs =>
          obtain ⟨h0, gs, h1, h2⟩ := k
          exact ⟨by rw [upd_ne z]; exact h0, gs, h1, h2.mono e⟩
        | dt kvs =>
          obtain ⟨h0, gs, h1, h2⟩ := k
          exact ⟨by rw [upd_ne z]; exact h0, gs, h1, h2.mono e⟩
  exact ⟨_, e, g, p, vs, rfl, upd_same, h2.mono e⟩
theorem R.set (r : R K F M H σ ρ) (i : Nat) {d : D} {v : V} (q : Is K F d v) : R K F M H (σ.set i (some v)) (ρ.set i (some d)) := ⟨r.le, r.mem, r.env.set i q⟩
theorem R.menv (r : R K F M H σ ρ) {σ' : List (Option V)} {ρ' : List (Option D)} (e : EnvOk K F ρ' σ') : R K F M H σ' ρ' := ⟨r.le, r.mem, e⟩
end

/-! exceptions that leave: the class, the fields -/
structure XD where
  cls : Value
  fs : List (Str × D)
def XdOk (K : Frg) (F H : Hp) : Option Addr → List (Str × D) → Prop
  | none, fs => fs = []
  | some a, fs => F a = none ∧ ∃ gs, H a = some (.xd gs) ∧ FsOk K F fs gs
abbrev Env := List (Option D)
abbrev QD := D → Mem → Prop
/-- what is wanted of an exception at the slots as they stand -/
abbrev WD := XD → Env → Mem → Prop
def LkX (K : Frg) (F : Hp) (W : WX) (w : WD) : Prop := ∀ cls d σ H fs ρ F' M, Ext F F' → R K F' M H σ ρ → XdOk K F' H d fs → w ⟨cls, fs⟩ ρ M → W cls d σ H
theorem LkX.mono {K : Frg} {F F' : Hp} {W : WX} {w : WD} (e : Ext F F') (h : LkX K F W w) : LkX K F' W w := fun cls d σ H fs ρ F2 M e2 => h cls d σ H fs ρ F2 M (e.trans e2)

abbrev TED := Env → Mem → QD → Prop
abbrev TTD := Env → Mem → (Bool → Mem → Prop) → Prop
abbrev TAD := Env → Mem → (List D → Mem → Prop) → Prop
structure EndsD where
  nx : Env → Mem → Prop
  rt : QD
  bk : Env → Mem → Prop := fun _ _ => False
  ct : Env → Mem → Prop := fun _ _ => False
abbrev TSD := EndsD → Env → Mem → Prop

section
variable (K : Frg) (W : WX) (w : WD)
def TrE (te : TE) (td : TED) : Prop := ∀ (F : Hp) (M : Mem) (H : Hp) (σ : L2.St) (ρ : Env) (Q : VK) (q : QD), R K F M H σ ρ → LkX K F W w → td ρ M q →
  (∀ d v F' M' H', Ext F F' → R K F' M' H' σ ρ → Is K F' d v → q d M' → Q v H') → te σ H Q
def TrT (tt : TT) (td : TTD) : Prop := ∀ (F : Hp) (M : Mem) (H : Hp) (σ : L2.St) (ρ : Env) (Q : Bool → Hp → Prop) (q : Bool → Mem → Prop), R K F M H σ ρ → LkX K F W w → td ρ M q →
  (∀ b F' M' H', Ext F F' → R K F' M' H' σ ρ → q b M' → Q b H') → tt σ H Q
def TrA (ta : TA) (td : TAD) : Prop := ∀ (F : Hp) (M : Mem) (H : Hp) (σ : L2.St) (ρ : Env) (Q : List V → Hp → Prop) (q : List D → Mem → Prop), R K F M H σ ρ → LkX K F W w → td ρ M q →
  (∀ ds vs F' M' H', Ext F F' → R K F' M' H' σ ρ → IsL K F' ds vs → q ds M' → Q vs H') → ta σ H Q
end
structure LkS (K : Frg) (F : Hp) (E : Ends) (e : EndsD) : Prop where
  nx : ∀ F' M H σ ρ, Ext F F' → R K F' M H σ ρ → e.nx ρ M → E.nx σ H
  bk : ∀ F' M H σ ρ, Ext F F' → R K F' M H σ ρ → e.bk ρ M → E.bk σ H
  ct : ∀ F' M H σ ρ, Ext F F' → R K F' M H σ ρ → e.ct ρ M → E.ct σ H
  rt : ∀ F' M H σ ρ d v, Ext F F' → R K F' M H σ ρ → Is K F' d v → e.rt d M → E.rt v H
theorem LkS.mono {K : Frg} {F F' : Hp} {E : Ends} {e : EndsD} (x : Ext F F') (h : LkS K F E e) : LkS K F' E e :=
  ⟨fun F2 M H σ ρ y => h.nx F2 M H σ ρ (x.trans y), fun F2 M H σ ρ y => h.bk F2 M H σ ρ (x.trans y), fun F2 M H σ ρ y => h.ct F2 M H σ ρ (x.trans y), fun F2 M H σ ρ d v y => h.rt F2 M H σ ρ d v (x.trans y)⟩
def TrS (K : Frg) (W : WX) (w : WD) (ts : TS) (td : TSD) : Prop := ∀ (F : Hp) (M : Mem) (H : Hp) (σ : L2.St) (ρ : Env) (E : Ends) (e : EndsD), R K F M H σ ρ → LkX K F W w → LkS K F E e → td e ρ M → ts E σ H

/-- an expression told by data: W, w: what is wanted of an exception -/
structure DE (X : Cx) (W : WX) (w : WD) (e : Expr) (td : TED) : Prop where
  ex : ∃ te, PE X e te ∧ TrE X.K W w te td
structure DT (X : Cx) (W : WX) (w : WD) (e : Expr) (td : TTD) : Prop where
  ex : ∃ tt, PT X e tt ∧ TrT X.K W w tt td
structure DPW (X : Cx) (W : WX) (w : WD) (e : Expr) (td : TTD) : Prop where
  ex : ∃ tt, PW X e tt ∧ TrT X.K W w tt td
structure DA (X : Cx) (W : WX) (w : WD) (es : List Expr) (td : TAD) : Prop where
  ex : ∃ ta, PA X es ta ∧ TrA X.K W w ta td
structure DS (X : Cx) (W : WX) (w : WD) (st : Stmt) (td : TSD) : Prop where
  ex : ∃ ts, PS X st ts ∧ TrS X.K W w ts td
structure DSs (X : Cx) (W : WX) (w : WD) (st : List Stmt) (td : TSD) : Prop where
  ex : ∃ ts, PSs X st ts ∧ TrS X.K W w ts td

section
variable {K : Frg} {W : WX} {w : WD} {X : Cx}
/-! expressions: names, constants -/
def dVar (i : Nat) : TED := fun ρ M q => match ρ[i]? with
  | some (some d) => q d M
  | _ => False
def dC (d : D) : TED := fun _ M q => q d M
theorem tr_var (i : Nat) : TrE K W w (tVar i) (dVar i) := by
  intro F M H σ ρ Q q r _ h k
  unfold dVar at h
  split at h
  · rename_i d e
    obtain ⟨v, hv, hd⟩ := r.env.at e
    exact ⟨v, hv, k d v F M H (Ext.refl F) r hd h⟩
  · exact h.elim
theorem tr_c {d : D} {v : V} (hd : ∀ F, Is K F d v) : TrE K W w (tC v) (dC d) := fun F M H σ ρ Q q r _ h k => k d v F M H (Ext.refl F) r (hd F) h
theorem dv (i : Nat) {x : Str} {pos : Pos} (hN : X.N[i]? = some x := by rfl) (hv : Vis X.env.scope x := by first | exact Or.inl rfl | exact Or.inr (Or.inl rfl) | exact Or.inr (Or.inr rfl)) (hd : (x == ("__debug__" : Str)) = false := by decide)
    (hcd : (x == ("__classdict__" : Str)) = false := by decide) : DE X W w (.Name x pos) (dVar i) := ⟨_, pv i hN hv hd hcd, tr_var i⟩
theorem d_int {i j pos} : DE X W w (.Constant (.int i) j pos) (dC (.int i)) := ⟨_, pe_int, tr_c fun _ => rfl⟩
theorem d_bl {b j pos} : DE X W w (.Constant (.bool b) j pos) (dC (.bl b)) := ⟨_, pe_bl, tr_c fun _ => rfl⟩
theorem d_non {j pos} : DE X W w (.Constant .none j pos) (dC .non) := ⟨_, pe_non, tr_c fun _ => rfl⟩
theorem d_str {x j pos} : DE X W w (.Constant (.str x) j pos) (dC (.str x)) := ⟨_, pe_str, tr_c fun _ => rfl⟩
theorem d_glob {x : Str} {d : D} {v : V} {u : Value} {pos : Pos} (hg : Gl X x) (hm : X.mg x = some u) (r : RelV v u) (hd : ∀ F, Is X.K F d v) (hdb : (x == ("__debug__" : Str)) = false := by decide) : DE X W w (.Name x pos) (dC d) := ⟨_, pe_glob hg hm r hdb, tr_c hd⟩

/-! argument lists -/
def dNil : TAD := fun _ M q => q [] M
def dCons (a : TED) (r : TAD) : TAD := fun ρ M q => a ρ M fun d M1 => r ρ M1 fun ds M2 => q (d :: ds) M2
theorem tr_nil : TrA K W w tNil dNil := fun F M H σ ρ Q q r _ h k => k [] [] F M H (Ext.refl F) r rfl h
theorem tr_cons {te : TE} {td : TED} {ta : TA} {tr : TAD} (a : TrE K W w te td) (b : TrA K W w ta tr) : TrA K W w (tCons te ta) (dCons td tr) := fun F M H σ ρ Q q r x h k =>
  a F M H σ ρ _ _ r x h fun d v F1 M1 H1 e1 r1 hd h1 => b F1 M1 H1 σ ρ _ _ r1 (x.mono e1) h1 fun ds vs F2 M2 H2 e2 r2 hds h2 => k (d :: ds) (v :: vs) F2 M2 H2 (e1.trans e2) r2 ⟨v, vs, rfl, Is.mono e2 d v hd, hds⟩ h2
theorem da_nil : DA X W w [] dNil := ⟨_, pa_nil, tr_nil⟩
theorem da_cons {e : Expr} {es : List Expr} {td : TED} {tr : TAD} (a : DE X W w e td) (b : DA X W w es tr) (hs : starEach (e :: es) X.env = (false, eval e X.env) :: starEach es X.env := by rfl) : DA X W w (e :: es) (dCons td tr) :=
  let ⟨_, p, t⟩ := a.ex
  let ⟨_, p2, t2⟩ := b.ex
  ⟨_, pa_cons p p2 hs, tr_cons t t2⟩

/-! a tuple, a list of written items -/
def dTup (t : TAD) : TED := fun ρ M q => t ρ M fun ds M1 => ds.length ≤ sizeLine ∧ q (.tup ds) M1
def dLst (t : TAD) : TED := fun ρ M q => t ρ M fun ds M1 => ds.length ≤ sizeLine ∧ q (.lst ds) M1
/-- a list that will change -/
def dNew (t : TAD) : TED := fun ρ M q => t ρ M fun ds M1 => ds.length ≤ sizeLine ∧ ∀ p, M1 p = none → q (.ref p) (updM M1 p (.lst ds))
theorem tr_tup {ta : TA} {td : TAD} (a : TrA K W w ta td) : TrE K W w (tTup ta) (dTup td) := fun F M H σ ρ Q q r x h k =>
  a F M H σ ρ _ _ r x h fun ds vs F1 M1 H1 e1 r1 hds h1 => ⟨by rw [← hds.length]; exact h1.1, fun p hp => by
    have e2 : Ext F1 (upd F1 p (.tup vs)) := Ext.new (r1.free hp).1
    exact k (.tup ds) _ _ M1 _ (e1.trans e2) (r1.laid hp) ⟨p, vs, rfl, .inl (.inl upd_same), hds.mono e2⟩ h1.2⟩
theorem tr_lst {ta : TA} {td : TAD} (a : TrA K W w ta td) : TrE K W w (tLst ta) (dLst td) := fun F M H σ ρ Q q r x h k =>
  a F M H σ ρ _ _ r x h fun ds vs F1 M1 H1 e1 r1 hds h1 => ⟨by rw [← hds.length]; exact h1.1, fun p hp => by
    have e2 : Ext F1 (upd F1 p (.lst vs)) := Ext.new (r1.free hp).1
    exact k (.lst ds) _ _ M1 _ (e1.trans e2) (r1.laid hp) ⟨p, vs, rfl, upd_same, hds.mono e2⟩ h1.2⟩
theorem tr_new {ta : TA} {td : TAD} (a : TrA K W w ta td) : TrE K W w (tLst ta) (dNew td) := fun F M H σ ρ Q q r x h k =>
  a F M H σ ρ _ _ r x h fun ds vs F1 M1 H1 e1 r1 hds h1 => ⟨by rw [← hds.length]; exact h1.1, fun p hp =>
    k (.ref p) (.ref p) F1 _ _ e1 (r1.stored (m := .lst ds) hp ⟨(r1.free hp).1, vs, upd_same, hds⟩) rfl (h1.2 p (r1.free hp).2)⟩
theorem d_tup {es : List Expr} {n : Nat} {pos : Pos} {td : TAD} (a : DA X W w es td) : DE X W w (.Tuple es n pos) (dTup td) :=
  let ⟨_, p, t⟩ := a.ex
  ⟨_, pe_tup p, tr_tup t⟩
theorem d_lst {es : List Expr} {pos : Pos} {td : TAD} (a : DA X W w es td) : DE X W w (.List es pos) (dLst td) :=
  let ⟨_, p, t⟩ := a.ex
  ⟨_, pe_lst p, tr_lst t⟩
theorem d_new {es : List Expr} {pos : Pos} {td : TAD} (a : DA X W w es td) : DE X W w (.List es pos) (dNew td) :=
  let ⟨_, p, t⟩ := a.ex
  ⟨_, pe_lst p, tr_new t⟩

/-! statements -/
def dNext : TSD := fun e ρ M => e.nx ρ M
def dSeq (t u : TSD) : TSD := fun e ρ M => t { e with nx := u e } ρ M
def dRet (t : TED) : TSD := fun e ρ M => t ρ M e.rt
def dRetN : TSD := fun e _ M => e.rt .non M
def dBreak : TSD := fun e ρ M => e.bk ρ M
def dCont : TSD := fun e ρ M => e.ct ρ M
def dDrop (t : TED) : TSD := fun e ρ M => t ρ M fun _ M1 => e.nx ρ M1
/-- two roads -/
def sel {α : Sort _} (b : Bool) (x y : α) : α := match b with
  | true => x
  | false => y
def dIfS (c : TTD) (t u : TSD) : TSD := fun e ρ M => c ρ M fun b M1 => sel b (t e ρ M1) (u e ρ M1)
def dNever : TSD := fun _ _ _ => False
theorem tr_next : TrS K W w tNext dNext := fun F M H σ ρ E e r _ l h => l.nx F M H σ ρ (Ext.refl F) r h
theorem tr_seq {a b : TS} {t u : TSD} (h1 : TrS K W w a t) (h2 : TrS K W w b u) : TrS K W w (tSeq a b) (dSeq t u) := fun F M H σ ρ E e r x l h =>
  h1 F M H σ ρ { E with nx := b E } { e with nx := u e } r x ⟨fun F' M' H' σ' ρ' y r' h' => h2 F' M' H' σ' ρ' E e r' (x.mono y) (l.mono y) h', l.bk, l.ct, l.rt⟩ h
theorem tr_ret {te : TE} {td : TED} (a : TrE K W w te td) : TrS K W w (tRet te) (dRet td) := fun F M H σ ρ E e r x l h =>
  a F M H σ ρ _ _ r x h fun d v F1 M1 H1 y r1 hd h1 => l.rt F1 M1 H1 σ ρ d v y r1 hd h1
theorem tr_retN : TrS K W w tRetN dRetN := fun F M H σ ρ E e r _ l h => l.rt F M H σ ρ .non .non (Ext.refl F) r rfl h
theorem tr_break : TrS K W w tBreak dBreak := fun F M H σ ρ E e r _ l h => l.bk F M H σ ρ (Ext.refl F) r h
theorem tr_cont : TrS K W w tCont dCont := fun F M H σ ρ E e r _ l h => l.ct F M H σ ρ (Ext.refl F) r h
theorem tr_drop {te : TE} {td : TED} (a : TrE K W w te td) : TrS K W w (tDrop te) (dDrop td) := fun F M H σ ρ E e r x l h =>
  a F M H σ ρ _ _ r x h fun d v F1 M1 H1 y r1 _ h1 => l.nx F1 M1 H1 σ ρ y r1 h1
theorem tr_if {c : TT} {cd : TTD} {a b : TS} {t u : TSD} (hc : TrT K W w c cd) (h1 : TrS K W w a t) (h2 : TrS K W w b u) : TrS K W w (tIfS c a b) (dIfS cd t u) := fun F M H σ ρ E e r x l h =>
  hc F M H σ ρ _ _ r x h fun k F1 M1 H1 y r1 q1 => by
    cases k with
    | true => exact h1 F1 M1 H1 σ ρ E e r1 (x.mono y) (l.mono y) q1
    | false => exact h2 F1 M1 H1 σ ρ E e r1 (x.mono y) (l.mono y) q1
theorem dss_nil : DSs X W w [] dNext := ⟨_, pss_nil, tr_next⟩
theorem dss_cons {st : Stmt} {rest : List Stmt} {t u : TSD} (a : DS X W w st t) (b : DSs X W w rest u) : DSs X W w (st :: rest) (dSeq t u) :=
  let ⟨_, p, h⟩ := a.ex
  let ⟨_, p2, h2⟩ := b.ex
  ⟨_, pss_cons p p2, tr_seq h h2⟩
theorem dss_one {st : Stmt} {t : TSD} (a : DS X W w st t) : DSs X W w [st] t :=
  let ⟨_, p, h⟩ := a.ex
  ⟨_, pss_one p, h⟩
theorem ds_ret {e : Expr} {pos : Pos} {t : TED} (a : DE X W w e t) : DS X W w (.Return (some e) pos) (dRet t) :=
  let ⟨_, p, h⟩ := a.ex
  ⟨_, ps_ret p, tr_ret h⟩
theorem ds_retN {pos : Pos} : DS X W w (.Return none pos) dRetN := ⟨_, ps_retN, tr_retN⟩
theorem ds_pass {pos : Pos} : DS X W w (.Pass pos) dNext := ⟨_, ps_pass, tr_next⟩
theorem ds_break {pos : Pos} : DS X W w (.Break pos) dBreak := ⟨_, ps_break, tr_break⟩
theorem ds_cont {pos : Pos} : DS X W w (.Continue pos) dCont := ⟨_, ps_continue, tr_cont⟩
theorem ds_never {st : Stmt} : DS X W w st dNever := ⟨_, ps_never, fun _ _ _ _ _ _ _ _ _ _ h => h.elim⟩
theorem dss_never {st : List Stmt} : DSs X W w st dNever := ⟨_, pss_never, fun _ _ _ _ _ _ _ _ _ _ h => h.elim⟩
theorem ds_expr {e : Expr} {pos : Pos} {t : TED} (a : DE X W w e t) (hs : swapsWith e none pos.line X.env = pure false := by rfl) : DS X W w (.Expr e pos) (dDrop t) :=
  let ⟨_, p, h⟩ := a.ex
  ⟨_, ps_expr p hs, tr_drop h⟩
theorem ds_if {c : Expr} {a b : List Stmt} {pos : Pos} {tc : TTD} {t u : TSD} (hc : DT X W w c tc) (ha : DSs X W w a t) (hb : DSs X W w b u) : DS X W w (.If c a b pos) (dIfS tc t u) :=
  let ⟨_, p, h⟩ := hc.ex
  let ⟨_, p1, h1⟩ := ha.ex
  let ⟨_, p2, h2⟩ := hb.ex
  ⟨_, ps_if p p1 p2, tr_if h h1 h2⟩

/-! targets -/
abbrev TGD := D → Env → Mem → (Env → Mem → Prop) → Prop
abbrev TGsD := List D → Env → Mem → (Env → Mem → Prop) → Prop
def TrG (K : Frg) (W : WX) (w : WD) (tg : TG) (td : TGD) : Prop := ∀ (F : Hp) (M : Mem) (H : Hp) (σ : L2.St) (ρ : Env) (d : D) (v : V) (Q : L2.St → Hp → Prop) (q : Env → Mem → Prop), R K F M H σ ρ → LkX K F W w → Is K F d v → td d ρ M q →
  (∀ F' M' H' σ' ρ', Ext F F' → R K F' M' H' σ' ρ' → q ρ' M' → Q σ' H') → tg v σ H Q
def TrGs (K : Frg) (W : WX) (w : WD) (tg : TGs) (td : TGsD) : Prop := ∀ (F : Hp) (M : Mem) (H : Hp) (σ : L2.St) (ρ : Env) (ds : List D) (vs : List V) (Q : L2.St → Hp → Prop) (q : Env → Mem → Prop), R K F M H σ ρ → LkX K F W w → IsL K F ds vs → td ds ρ M q →
  (∀ F' M' H' σ' ρ', Ext F F' → R K F' M' H' σ' ρ' → q ρ' M' → Q σ' H') → tg vs σ H Q
structure DG (X : Cx) (W : WX) (w : WD) (tg : Expr) (td : TGD) : Prop where
  ex : ∃ t, PG X tg t ∧ TrG X.K W w t td
structure DGs (X : Cx) (W : WX) (w : WD) (tg : List Expr) (td : TGsD) : Prop where
  ex : ∃ t, PGs X tg t ∧ TrGs X.K W w t td
def gdName (i : Nat) : TGD := fun d ρ M q => q (ρ.set i (some d)) M
def gdNil : TGsD := fun ds ρ M q => match ds with
  | [] => q ρ M
  | _ => False
def gdCons (t : TGD) (u : TGsD) : TGsD := fun ds ρ M q => match ds with
  | d :: r => t d ρ M fun ρ1 M1 => u r ρ1 M1 q
  | [] => False
/-- (a, b, ..) = a tuple -/
def gdTup (n : Nat) (t : TGsD) : TGD := fun d ρ M q => match d with
  | .tup ds => ds.length = n ∧ t ds ρ M q
  | _ => False
theorem tr_gname (i : Nat) : TrG K W w (gName i) (gdName i) := fun F M H σ ρ d v Q q r _ hd h k => k F M H _ _ (Ext.refl F) (r.set i hd) h
theorem tr_gnil : TrGs K W w gNil gdNil := by
  intro F M H σ ρ ds vs Q q r _ hd h k
  cases ds with
  | nil =>
    cases hd
    exact ⟨rfl, k F M H σ ρ (Ext.refl F) r h⟩
  | cons d ds => exact h.elim
theorem tr_gcons {g : TG} {gs : TGs} {t : TGD} {u : TGsD} (a : TrG K W w g t) (b : TrGs K W w gs u) : TrGs K W w (gCons g gs) (gdCons t u) := by
  intro F M H σ ρ ds vs Q q r x hd h k
  cases ds with
  | nil => exact h.elim
  | cons d ds =>
    obtain ⟨v, vr, rfl, h1, h2⟩ := hd
    exact ⟨v, vr, rfl, a F M H σ ρ d v _ _ r x h1 h fun F1 M1 H1 σ1 ρ1 e1 r1 q1 => b F1 M1 H1 σ1 ρ1 ds vr _ _ r1 (x.mono e1) (h2.mono e1) q1 fun F2 M2 H2 σ2 ρ2 e2 r2 q2 => k F2 M2 H2 σ2 ρ2 (e1.trans e2) r2 q2⟩
theorem tr_gtup {n : Nat} {gs : TGs} {u : TGsD} (b : TrGs K W w gs u) : TrG K W w (gTup K n gs) (gdTup n u) := by
  intro F M H σ ρ d v Q q r x hd h k
  cases d with
  | tup ds =>
    obtain ⟨a, vs, rfl, h1, h2⟩ := hd
    exact ⟨a, vs, rfl, Ext.sqT r.le h1, h2.length.symm.trans h.1, b F M H σ ρ ds vs _ _ r x h2 h.2 k⟩
  | _ => exact h.elim
theorem dg_name {i : Nat} {x : Str} {pos : Pos} (hN : X.N.Nodup) (hi : X.N[i]? = some x) (hx : Loc X.env.scope x) (hf : X.fn x = true ∨ X.env.scope.names.lookup x = some .local := by first | exact .inl rfl | exact .inr rfl | assumption) : DG X W w (.Name x pos) (gdName i) := ⟨_, pg_name hN hi hx hf, tr_gname i⟩
theorem dgs_nil : DGs X W w [] gdNil := ⟨_, pgs_nil, tr_gnil⟩
theorem dgs_cons {e : Expr} {es : List Expr} {t : TGD} {u : TGsD} (h1 : DG X W w e t) (h2 : DGs X W w es u) (hs : (assignEach (e :: es) X.env).map (·.2) = assign e X.env :: (assignEach es X.env).map (·.2) := by rfl) : DGs X W w (e :: es) (gdCons t u) :=
  let ⟨_, p, a⟩ := h1.ex
  let ⟨_, p2, b⟩ := h2.ex
  ⟨_, pgs_cons p p2 hs, tr_gcons a b⟩
theorem dg_tup {es : List Expr} {k : Nat} {t : TGsD} {n : Nat} {pos : Pos} (hc : X.calm = true) (h : DGs X W w es t) (hn : (assignEach es X.env).length = n := by rfl) (hst : (assignEach es X.env).findIdx? (·.1) = none := by rfl) : DG X W w (.Tuple es k pos) (gdTup n t) :=
  let ⟨_, p, a⟩ := h.ex
  ⟨_, pg_tup hc p hn hst, tr_gtup a⟩
def dAsg (t : TED) (g : TGD) : TSD := fun e ρ M => t ρ M fun d M1 => g d ρ M1 e.nx
theorem tr_asg {te : TE} {td : TED} {g : TG} {gd : TGD} (a : TrE K W w te td) (b : TrG K W w g gd) : TrS K W w (tAsg te g) (dAsg td gd) := fun F M H σ ρ E e r x l h =>
  a F M H σ ρ _ _ r x h fun d v F1 M1 H1 y r1 hd h1 => b F1 M1 H1 σ ρ d v _ _ r1 (x.mono y) hd h1 fun F2 M2 H2 σ2 ρ2 y2 r2 q2 => l.nx F2 M2 H2 σ2 ρ2 (y.trans y2) r2 q2
theorem ds_asg {tg e : Expr} {pos : Pos} {td : TED} {gd : TGD} (he : DE X W w e td) (hg : DG X W w tg gd) (hs : swapsWithSole [tg] e pos.line X.env = pure false := by rfl) (hw : swappedStores [tg] e X.env = pure none := by rfl)
    (h1 : (assignEach [tg] X.env).map (·.2) = [assign tg X.env] := by rfl) : DS X W w (.Assign [tg] e pos) (dAsg td gd) :=
  let ⟨_, p, a⟩ := he.ex
  let ⟨_, p2, b⟩ := hg.ex
  ⟨_, ps_asg p p2 hs hw h1, tr_asg a b⟩
theorem ds_set (i : Nat) {x : Str} {e : Expr} {pos pos' : Pos} {td : TED} (hN : X.N.Nodup) (hi : X.N[i]? = some x) (hx : Loc X.env.scope x) (he : DE X W w e td) (hs : swapsWith e (some (.Name x pos')) pos.line X.env = pure false := by rfl)
    (hf : X.fn x = true ∨ X.env.scope.names.lookup x = some .local := by first | exact .inl rfl | exact .inr rfl | assumption) : DS X W w (.Assign [.Name x pos'] e pos) (dAsg td (gdName i)) :=
  let ⟨_, p, a⟩ := he.ex
  ⟨_, ps_set hN hi hx p hs hf, tr_asg a (tr_gname i)⟩
end
end Dn

namespace Dn
open PySem L2

/-! ### reading lists and tuples -/
/-- a list, by value or by the store -/
def seqL (M : Mem) : D → Option (List D)
  | .lst ds => some ds
  | .scr ds => some ds
  | .ref a => match M a with
    | some (.lst ds) => some ds
    | some (.frz ds) => some ds
    | _ => none
  | _ => none
def seqT : D → Option (List D)
  | .tup ds => some ds
  | _ => none
section
variable {K : Frg} {F H : Hp} {M : Mem} {σ : L2.St} {ρ : Env}
theorem R.seqL (r : R K F M H σ ρ) {d : D} {v : V} {ds : List D} (h : Is K F d v) (q : seqL M d = some ds) : ∃ a vs, v = .ref a ∧ SqL K H a vs ∧ IsL K F ds vs := by
  cases d with
  | lst es =>
    obtain ⟨a, vs, h1, h2, h3⟩ := h
    cases q
    exact ⟨a, vs, h1, .inl (.inl (r.le a _ h2)), h3⟩
  | scr es =>
    obtain ⟨a, vs, h1, h2, h3⟩ := h
    cases q
    exact ⟨a, vs, h1, r.le.sqL h2, h3⟩
  | ref a =>
    cases h
    unfold Dn.seqL at q
    dsimp only at q
    cases z : M a with
    | none =>
      rw [z] at q
      cases q
    | some o =>
      rw [z] at q
      cases o with
      | lst es =>
        cases q
        obtain ⟨_, vs, h1, h2⟩ := r.mem a _ z
        exact ⟨a, vs, rfl, .inl (.inl h1), h2⟩
      | frz es =>
        cases q
        obtain ⟨vs, h1, h2, _⟩ := r.mem a _ z
        exact ⟨a, vs, rfl, r.le.sqL h1, h2⟩
      | _ => cases q
  | _ => cases q
theorem R.seqT (r : R K F M H σ ρ) {d : D} {v : V} {ds : List D} (h : Is K F d v) (q : seqT d = some ds) : ∃ a vs, v = .ref a ∧ SqT K H a vs ∧ IsL K F ds vs := by
  cases d with
  | tup es =>
    obtain ⟨a, vs, h1, h2, h3⟩ := h
    cases q
    exact ⟨a, vs, h1, r.le.sqT h2, h3⟩
  | _ => cases q
def anySeq (M : Mem) (d : D) : Option (List D) := match d with
  | .tup ds => some ds
  | .ntp ds => some ds
  | d => Dn.seqL M d
theorem anySeq_inv {d : D} {v : V} {ds : List D} (r : R K F M H σ ρ) (h : Is K F d v) (q : anySeq M d = some ds) : ∃ a vs, v = .ref a ∧ (SqT K H a vs ∨ SqL K H a vs) ∧ IsL K F ds vs := by
  cases d with
  | tup es =>
    cases q
    obtain ⟨a, vs, rfl, h1, h2⟩ := h
    exact ⟨a, vs, rfl, .inl (r.le.sqT h1), h2⟩
  | ntp es =>
    cases q
    obtain ⟨a, vs, rfl, ⟨o, h1, _⟩, h2⟩ := h
    exact ⟨a, vs, rfl, .inl (.inl (.inr ⟨o, r.le a _ h1⟩)), h2⟩
  | _ =>
    obtain ⟨a, vs, rfl, h1, h2⟩ := r.seqL h q
    exact ⟨a, vs, rfl, .inr h1, h2⟩
theorem Is.int_of {K : Frg} {F : Hp} {i : Int} {v : V} (h : Is K F (.int i) v) : v = .int i := h
end

/-! ### two-place operations -/
abbrev RD2 := D → D → Mem → QD → Prop
def TrR (K : Frg) (r : R2) (rd : RD2) : Prop := ∀ (F : Hp) (M : Mem) (H : Hp) (σ : L2.St) (ρ : Env) (d e : D) (x y : V) (Q : VK) (q : QD), R K F M H σ ρ → Is K F d x → Is K F e y → rd d e M q →
  (∀ c v F' M' H', Ext F F' → R K F' M' H' σ ρ → Is K F' c v → q c M' → Q v H') → r x y H Q
structure DOp (X : Cx) (f : Value → Value → Sem Value) (rd : RD2) : Prop where
  ex : ∃ r, OpR X f r ∧ TrR X.K r rd
section
variable {K : Frg} {W : WX} {w : WD} {X : Cx} {f : Value → Value → Sem Value}
theorem DOp.imp {rd rd' : RD2} (h : DOp X f rd) (k : ∀ d e M q, rd' d e M q → rd d e M q) : DOp X f rd' :=
  let ⟨r, p, t⟩ := h.ex
  ⟨r, p, fun F M H σ ρ d e x y Q q a b c z => t F M H σ ρ d e x y Q q a b c (k _ _ _ _ z)⟩
theorem DOp.or {rd rd' : RD2} (h : DOp X f rd) (h' : DOp X f rd') : DOp X f (fun d e M q => rd d e M q ∨ rd' d e M q) :=
  let ⟨r, p, t⟩ := h.ex
  let ⟨r', p', t'⟩ := h'.ex
  ⟨fun x y H Q => r x y H Q ∨ r' x y H Q, fun pins s σ H x y v u Q I rx ry z => z.elim (p pins s σ H x y v u Q I rx ry) (p' pins s σ H x y v u Q I rx ry),
    fun F M H σ ρ d e x y Q q a b c z k => z.elim (fun z => .inl (t F M H σ ρ d e x y Q q a b c z k)) fun z => .inr (t' F M H σ ρ d e x y Q q a b c z k)⟩
def dBin (rd : RD2) (a b : TED) : TED := fun ρ M q => a ρ M fun d M1 => b ρ M1 fun e M2 => rd d e M2 q
theorem tr_bin {r : R2} {rd : RD2} {ta tb : TE} {a b : TED} (h : TrR K r rd) (ha : TrE K W w ta a) (hb : TrE K W w tb b) : TrE K W w (tOp r ta tb) (dBin rd a b) := fun F M H σ ρ Q q r0 x z k =>
  ha F M H σ ρ _ _ r0 x z fun d v F1 M1 H1 e1 r1 hd z1 => hb F1 M1 H1 σ ρ _ _ r1 (x.mono e1) z1 fun e u F2 M2 H2 e2 r2 he z2 =>
    h F2 M2 H2 σ ρ d e v u Q q r2 (Is.mono e2 d v hd) he z2 fun c t F3 M3 H3 e3 r3 hc z3 => k c t F3 M3 H3 ((e1.trans e2).trans e3) r3 hc z3
variable {a b c : Expr} {pos : Pos} {ta tb tc : TED}
theorem d_bin {op : Operator} {rd : RD2} (ho : DOp X (binaryOp op) rd) (ha : DE X W w a ta) (hb : DE X W w b tb) : DE X W w (.BinOp a op b pos) (dBin rd ta tb) :=
  let ⟨_, p, t⟩ := ho.ex
  let ⟨_, p1, t1⟩ := ha.ex
  let ⟨_, p2, t2⟩ := hb.ex
  ⟨_, pe_op p p1 p2, tr_bin t t1 t2⟩
theorem d_cmp {op : CmpOp} {rd : RD2} (ho : DOp X (compareOp op) rd) (ha : DE X W w a ta) (hb : DE X W w b tb) (hm : behindInMarks op b = false) : DE X W w (.Compare a [op] [b] pos) (dBin rd ta tb) :=
  let ⟨_, p, t⟩ := ho.ex
  let ⟨_, p1, t1⟩ := ha.ex
  let ⟨_, p2, t2⟩ := hb.ex
  ⟨_, pe_cmpR p p1 p2 hm, tr_bin t t1 t2⟩
/-- a value that is a bool, as a test -/
def dTst (t : TED) : TTD := fun ρ M q => t ρ M fun d M1 => match d with
  | .bl k => q k M1
  | _ => False
theorem tr_tst {te : TE} {td : TED} (h : TrE K W w te td) : TrT K W w (tTest te) (dTst td) := fun F M H σ ρ Q q r x z k =>
  h F M H σ ρ _ _ r x z fun d v F1 M1 H1 e1 r1 hd z1 => by
    cases d with
    | bl i => exact ⟨i, hd, k i F1 M1 H1 e1 r1 z1⟩
    | _ => exact z1.elim
theorem dt_cmp {op : CmpOp} {rd : RD2} (ho : DOp X (compareOp op) rd) (ha : DE X W w a ta) (hb : DE X W w b tb) (hm : behindInMarks op b = false) : DT X W w (.Compare a [op] [b] pos) (dTst (dBin rd ta tb)) :=
  let ⟨_, p, t⟩ := ho.ex
  let ⟨_, p1, t1⟩ := ha.ex
  let ⟨_, p2, t2⟩ := hb.ex
  ⟨_, pt_cmpR p p1 p2 hm, tr_tst (tr_bin t t1 t2)⟩
theorem dt_val {e : Expr} {td : TED} (h : DE X W w e td) (he : ∀ whole, isTrue e X.env whole = (do let v ← whole; standAt e.pos; holding [v] (truthy v)) := by intro _; rfl) : DT X W w e (dTst td) :=
  let ⟨_, p, t⟩ := h.ex
  ⟨_, pt_val p he, tr_tst t⟩
/-- a op b op' c -/
def dChain (rd rd' : RD2) (a b c : TED) : TED := fun ρ M q => a ρ M fun d M1 => b ρ M1 fun e M2 => rd d e M2 fun z M3 => match z with
  | .bl true => c ρ M3 fun g M4 => rd' e g M4 q
  | .bl false => q (.bl false) M3
  | _ => False
theorem tr_chain {r r' : R2} {rd rd' : RD2} {xa xb xc : TE} (h : TrR K r rd) (h' : TrR K r' rd') (ha : TrE K W w xa ta) (hb : TrE K W w xb tb) (hc : TrE K W w xc tc) : TrE K W w (tChain r r' xa xb xc) (dChain rd rd' ta tb tc) := fun F M H σ ρ Q q r0 x z k =>
  ha F M H σ ρ _ _ r0 x z fun d v F1 M1 H1 e1 r1 hd z1 => hb F1 M1 H1 σ ρ _ _ r1 (x.mono e1) z1 fun e u F2 M2 H2 e2 r2 he z2 =>
    h F2 M2 H2 σ ρ d e v u _ _ r2 (Is.mono e2 d v hd) he z2 fun c t F3 M3 H3 e3 r3 hc' z3 => by
      cases c with
      | bl i =>
        cases i with
        | true => exact ⟨true, hc', hc F3 M3 H3 σ ρ _ _ r3 (x.mono ((e1.trans e2).trans e3)) z3 fun g y F4 M4 H4 e4 r4 hg z4 =>
            h' F4 M4 H4 σ ρ e g u y Q q r4 (Is.mono (e3.trans e4) e u he) hg z4 fun c t F5 M5 H5 e5 r5 hc5 z5 => k c t F5 M5 H5 ((((e1.trans e2).trans e3).trans e4).trans e5) r5 hc5 z5⟩
        | false => exact ⟨false, hc', k (.bl false) (.bl false) F3 M3 H3 ((e1.trans e2).trans e3) r3 rfl z3⟩
      | _ => exact z3.elim
theorem d_chain {op op' : CmpOp} {rd rd' : RD2} (ho : DOp X (compareOp op) rd) (ho' : DOp X (compareOp op') rd') (ha : DE X W w a ta) (hb : DE X W w b tb) (hc : DE X W w c tc) (hm : lastMarks [op, op'] [b, c] = false := by with_unfolding_all rfl) :
    DE X W w (.Compare a [op, op'] [b, c] pos) (dChain rd rd' ta tb tc) :=
  let ⟨_, p, t⟩ := ho.ex
  let ⟨_, p', t'⟩ := ho'.ex
  let ⟨_, p1, t1⟩ := ha.ex
  let ⟨_, p2, t2⟩ := hb.ex
  let ⟨_, p3, t3⟩ := hc.ex
  ⟨_, pe_chain p p' p1 p2 p3 hm, tr_chain t t' t1 t2 t3⟩
theorem dt_chain {op op' : CmpOp} {rd rd' : RD2} (ho : DOp X (compareOp op) rd) (ho' : DOp X (compareOp op') rd') (ha : DE X W w a ta) (hb : DE X W w b tb) (hc : DE X W w c tc) (hm : lastMarks [op, op'] [b, c] = false := by with_unfolding_all rfl) :
    DT X W w (.Compare a [op, op'] [b, c] pos) (dTst (dChain rd rd' ta tb tc)) :=
  let ⟨_, p, t⟩ := ho.ex
  let ⟨_, p', t'⟩ := ho'.ex
  let ⟨_, p1, t1⟩ := ha.ex
  let ⟨_, p2, t2⟩ := hb.ex
  let ⟨_, p3, t3⟩ := hc.ex
  ⟨_, pt_chain p p' p1 p2 p3 hm, tr_tst (tr_chain t t' t1 t2 t3)⟩

/-! ### and, or, not; if-expressions -/
def dAnd (t u : TTD) : TTD := fun ρ M q => t ρ M fun k M1 => sel k (u ρ M1 q) (q false M1)
def dOr (t u : TTD) : TTD := fun ρ M q => t ρ M fun k M1 => sel k (q true M1) (u ρ M1 q)
def dNot (t : TTD) : TTD := fun ρ M q => t ρ M fun k M1 => q (!k) M1
def dIf (c : TTD) (a b : TED) : TED := fun ρ M q => c ρ M fun k M1 => sel k (a ρ M1 q) (b ρ M1 q)
theorem tr_and {x y : TT} {t u : TTD} (h1 : TrT K W w x t) (h2 : TrT K W w y u) : TrT K W w (tAnd x y) (dAnd t u) := fun F M H σ ρ Q q r l z k =>
  h1 F M H σ ρ _ _ r l z fun b F1 M1 H1 e1 r1 z1 => by
    cases b with
    | true => exact h2 F1 M1 H1 σ ρ _ _ r1 (l.mono e1) z1 fun b F2 M2 H2 e2 r2 z2 => k b F2 M2 H2 (e1.trans e2) r2 z2
    | false => exact k false F1 M1 H1 e1 r1 z1
theorem tr_or {x y : TT} {t u : TTD} (h1 : TrT K W w x t) (h2 : TrT K W w y u) : TrT K W w (tOr x y) (dOr t u) := fun F M H σ ρ Q q r l z k =>
  h1 F M H σ ρ _ _ r l z fun b F1 M1 H1 e1 r1 z1 => by
    cases b with
    | false => exact h2 F1 M1 H1 σ ρ _ _ r1 (l.mono e1) z1 fun b F2 M2 H2 e2 r2 z2 => k b F2 M2 H2 (e1.trans e2) r2 z2
    | true => exact k true F1 M1 H1 e1 r1 z1
theorem tr_not {x : TT} {t : TTD} (h1 : TrT K W w x t) : TrT K W w (tNot x) (dNot t) := fun F M H σ ρ Q q r l z k => h1 F M H σ ρ _ _ r l z fun b F1 M1 H1 e1 r1 z1 => k (!b) F1 M1 H1 e1 r1 z1
theorem tr_ifE {x : TT} {t : TTD} {xa xb : TE} (h : TrT K W w x t) (h1 : TrE K W w xa ta) (h2 : TrE K W w xb tb) : TrE K W w (tIf x xa xb) (dIf t ta tb) := fun F M H σ ρ Q q r l z k =>
  h F M H σ ρ _ _ r l z fun b F1 M1 H1 e1 r1 z1 => by
    cases b with
    | true => exact h1 F1 M1 H1 σ ρ _ _ r1 (l.mono e1) z1 fun c v F2 M2 H2 e2 r2 hc z2 => k c v F2 M2 H2 (e1.trans e2) r2 hc z2
    | false => exact h2 F1 M1 H1 σ ρ _ _ r1 (l.mono e1) z1 fun c v F2 M2 H2 e2 r2 hc z2 => k c v F2 M2 H2 (e1.trans e2) r2 hc z2
variable {rest : List Expr} {t u : TTD}
theorem DPW.dt {e : Expr} (h : DPW X W w e t) : DT X W w e t :=
  let ⟨_, p, z⟩ := h.ex
  ⟨_, p.pt, z⟩
theorem dw_and1 (h : DT X W w a t) : DPW X W w (.BoolOp .And [a] pos) t :=
  let ⟨_, p, z⟩ := h.ex
  ⟨_, pw_and1 p, z⟩
theorem dw_or1 (h : DT X W w a t) : DPW X W w (.BoolOp .Or [a] pos) t :=
  let ⟨_, p, z⟩ := h.ex
  ⟨_, pw_or1 p, z⟩
theorem dw_and (h : DT X W w a t) (h2 : DPW X W w (.BoolOp .And (b :: rest) pos) u) : DPW X W w (.BoolOp .And (a :: b :: rest) pos) (dAnd t u) :=
  let ⟨_, p, z⟩ := h.ex
  let ⟨_, p2, z2⟩ := h2.ex
  ⟨_, pw_and p p2, tr_and z z2⟩
theorem dw_or (h : DT X W w a t) (h2 : DPW X W w (.BoolOp .Or (b :: rest) pos) u) : DPW X W w (.BoolOp .Or (a :: b :: rest) pos) (dOr t u) :=
  let ⟨_, p, z⟩ := h.ex
  let ⟨_, p2, z2⟩ := h2.ex
  ⟨_, pw_or p p2, tr_or z z2⟩
theorem dt_not (h : DT X W w a t) : DT X W w (.UnaryOp .Not a pos) (dNot t) :=
  let ⟨_, p, z⟩ := h.ex
  ⟨_, pt_not p, tr_not z⟩
theorem d_ifE {c : Expr} (hc : DT X W w c t) (ha : DE X W w a ta) (hb : DE X W w b tb) : DE X W w (.IfExp c a b pos) (dIf t ta tb) :=
  let ⟨_, p, z⟩ := hc.ex
  let ⟨_, p1, z1⟩ := ha.ex
  let ⟨_, p2, z2⟩ := hb.ex
  ⟨_, pe_ifExp p p1 p2, tr_ifE z z1 z2⟩
/-- and, or of bools as values -/
def dAndV (a b : TED) : TED := fun ρ M q => a ρ M fun d M1 => match d with
  | .bl true => b ρ M1 q
  | .bl false => q (.bl false) M1
  | _ => False
def dOrV (a b : TED) : TED := fun ρ M q => a ρ M fun d M1 => match d with
  | .bl true => q (.bl true) M1
  | .bl false => b ρ M1 q
  | _ => False
def dNotV (a : TED) : TED := fun ρ M q => a ρ M fun d M1 => match d with
  | .bl k => q (.bl (!k)) M1
  | _ => False
theorem tr_andV {x y : TE} (h1 : TrE K W w x ta) (h2 : TrE K W w y tb) : TrE K W w (tAndV x y) (dAndV ta tb) := fun F M H σ ρ Q q r l z k =>
  h1 F M H σ ρ _ _ r l z fun d v F1 M1 H1 e1 r1 hd z1 => by
    cases d with
    | bl i =>
      cases i with
      | true => exact ⟨true, hd, h2 F1 M1 H1 σ ρ _ _ r1 (l.mono e1) z1 fun c v F2 M2 H2 e2 r2 hc z2 => k c v F2 M2 H2 (e1.trans e2) r2 hc z2⟩
      | false => exact ⟨false, hd, k (.bl false) (.bl false) F1 M1 H1 e1 r1 rfl z1⟩
    | _ => exact z1.elim
theorem tr_orV {x y : TE} (h1 : TrE K W w x ta) (h2 : TrE K W w y tb) : TrE K W w (tOrV x y) (dOrV ta tb) := fun F M H σ ρ Q q r l z k =>
  h1 F M H σ ρ _ _ r l z fun d v F1 M1 H1 e1 r1 hd z1 => by
    cases d with
    | bl i =>
      cases i with
      | false => exact ⟨false, hd, h2 F1 M1 H1 σ ρ _ _ r1 (l.mono e1) z1 fun c v F2 M2 H2 e2 r2 hc z2 => k c v F2 M2 H2 (e1.trans e2) r2 hc z2⟩
      | true => exact ⟨true, hd, k (.bl true) (.bl true) F1 M1 H1 e1 r1 rfl z1⟩
    | _ => exact z1.elim
theorem tr_notV {x : TE} (h1 : TrE K W w x ta) : TrE K W w (tNotV x) (dNotV ta) := fun F M H σ ρ Q q r l z k =>
  h1 F M H σ ρ _ _ r l z fun d v F1 M1 H1 e1 r1 hd z1 => by
    cases d with
    | bl i => exact ⟨i, hd, k (.bl (!i)) (.bl (!i)) F1 M1 H1 e1 r1 rfl z1⟩
    | _ => exact z1.elim
theorem d_one {op : BoolOp} (h : DE X W w a ta) : DE X W w (.BoolOp op [a] pos) ta :=
  let ⟨_, p, z⟩ := h.ex
  ⟨_, pe_one p, z⟩
theorem d_and (h : DE X W w a ta) (h2 : DE X W w (.BoolOp .And (b :: rest) pos) tb) : DE X W w (.BoolOp .And (a :: b :: rest) pos) (dAndV ta tb) :=
  let ⟨_, p, z⟩ := h.ex
  let ⟨_, p2, z2⟩ := h2.ex
  ⟨_, pe_and p p2, tr_andV z z2⟩
theorem d_or (h : DE X W w a ta) (h2 : DE X W w (.BoolOp .Or (b :: rest) pos) tb) : DE X W w (.BoolOp .Or (a :: b :: rest) pos) (dOrV ta tb) :=
  let ⟨_, p, z⟩ := h.ex
  let ⟨_, p2, z2⟩ := h2.ex
  ⟨_, pe_or p p2, tr_orV z z2⟩
theorem d_not (h : DE X W w a ta) : DE X W w (.UnaryOp .Not a pos) (dNotV ta) :=
  let ⟨_, p, z⟩ := h.ex
  ⟨_, pe_not p, tr_notV z⟩
/-- the truth of any value -/
def trD (M : Mem) : D → Option Bool
  | .non => some false
  | .bl b => some b
  | .int i => some (i != 0)
  | .tup ds => some (!ds.isEmpty)
  | .ntp ds => some (!ds.isEmpty)
  | .lst ds => some (!ds.isEmpty)
  | .scr ds => some (!ds.isEmpty)
  | .ref a => match M a with
    | some (.lst ds) => some (!ds.isEmpty)
    | some (.frz ds) => some (!ds.isEmpty)
    | _ => none
  | _ => none
def dTru (t : TED) : TTD := fun ρ M q => t ρ M fun d M1 => match trD M1 d with
  | some k => q k M1
  | none => (match d with
    | .str x => x.length ≤ sizeLine ∧ q (x.length != 0) M1
    | _ => False)
theorem isE {K : Frg} {F : Hp} {ds : List D} {vs : List V} (h : IsL K F ds vs) : (!ds.isEmpty) = (!vs.isEmpty) := by
  have := h.length
  cases ds <;> cases vs <;> first | rfl | (simp at this)
end
end Dn

namespace Dn
open PySem L2
/-! ### the operations on data -/
def rdI (C : Int → Int → Prop) (g : Int → Int → D) : RD2 := fun d e M q => match d, e with
  | .int i, .int j => C i j ∧ q (g i j) M
  | _, _ => False
def rdI0 (g : Int → Int → D) : RD2 := fun d e M q => match d, e with
  | .int i, .int j => q (g i j) M
  | _, _ => False
section
variable {X : Cx} {K : Frg}
theorem tr_rI {C : Int → Int → Prop} {g : Int → Int → V} {gd : Int → Int → D} (hg : ∀ i j F, Is K F (gd i j) (g i j)) : TrR K (rI C g) (rdI C gd) := fun F M H σ ρ d e x y Q q r hd he h k => by
  cases d with
  | int i =>
    cases e with
    | int j => exact ⟨i, j, hd, he, h.1, k (gd i j) _ F M H (Ext.refl F) r (hg i j F) h.2⟩
    | _ => exact h.elim
  | _ => exact h.elim
theorem tr_rI0 {g : Int → Int → V} {gd : Int → Int → D} (hg : ∀ i j F, Is K F (gd i j) (g i j)) : TrR K (rI0 g) (rdI0 gd) := fun F M H σ ρ d e x y Q q r hd he h k => by
  cases d with
  | int i =>
    cases e with
    | int j => exact ⟨i, j, hd, he, k (gd i j) _ F M H (Ext.refl F) r (hg i j F) h⟩
    | _ => exact h.elim
  | _ => exact h.elim
def CDivD (i j : Int) : Prop := 0 < j ∧ j.natAbs.log2 < 9000
def CMulD (i j : Int) : Prop := CMul i j ∨ CMulW i j
abbrev rdSub : RD2 := rdI0 fun i j => .int (i - j)
abbrev rdMod : RD2 := rdI (fun _ j => 0 < j) fun i j => .int (i % j)
abbrev rdPow : RD2 := rdI CPow fun i j => .int (i ^ j.toNat)
abbrev rdDiv : RD2 := rdI CDivD fun i j => .int (i / j)
abbrev rdLt : RD2 := rdI0 fun i j => .bl (decide (i < j))
abbrev rdLe : RD2 := rdI0 fun i j => .bl (decide (i ≤ j))
abbrev rdGt : RD2 := rdI0 fun i j => .bl (decide (j < i))
abbrev rdGe : RD2 := rdI0 fun i j => .bl (decide (j ≤ i))
theorem do_addI : DOp X (binaryOp .Add) (rdI0 fun i j => .int (i + j)) := ⟨_, op_add, tr_rI0 fun _ _ _ => rfl⟩
theorem do_sub : DOp X (binaryOp .Sub) rdSub := ⟨_, op_sub, tr_rI0 fun _ _ _ => rfl⟩
theorem do_mulI : DOp X (binaryOp .Mult) (rdI CMul fun i j => .int (i * j)) := ⟨_, op_mul, tr_rI fun _ _ _ => rfl⟩
theorem do_mulW : DOp X (binaryOp .Mult) (rdI CMulW fun i j => .int (i * j)) := ⟨_, op_mulW, tr_rI fun _ _ _ => rfl⟩
theorem do_mod : DOp X (binaryOp .Mod) rdMod := ⟨_, op_mod, tr_rI fun _ _ _ => rfl⟩
theorem do_pow : DOp X (binaryOp .Pow) rdPow := ⟨_, op_pow, tr_rI fun _ _ _ => rfl⟩
theorem do_div : DOp X (binaryOp .FloorDiv) rdDiv := ⟨_, op_fdivW, tr_rI fun _ _ _ => rfl⟩
theorem do_lt : DOp X (compareOp .Lt) rdLt := ⟨_, op_lt, tr_rI0 fun _ _ _ => rfl⟩
theorem do_le : DOp X (compareOp .LtE) rdLe := ⟨_, op_le, tr_rI0 fun _ _ _ => rfl⟩
theorem do_gt : DOp X (compareOp .Gt) rdGt := ⟨_, op_gt, tr_rI0 fun _ _ _ => rfl⟩
theorem do_ge : DOp X (compareOp .GtE) rdGe := ⟨_, op_ge, tr_rI0 fun _ _ _ => rfl⟩

/-! + of texts, tuples, lists -/
def rdCatS : RD2 := fun d e M q => match d, e with
  | .str x, .str y => x.length + y.length ≤ sizeLine ∧ q (.str (x ++ y)) M
  | _, _ => False
def rdCatT : RD2 := fun d e M q => match d, e with
  | .tup x, .tup y => x.length + y.length ≤ sizeLine ∧ q (.tup (x ++ y)) M
  | _, _ => False
/-- a list that stands by itself (not the script, no written one) -/
def seqW (M : Mem) : D → Option (List D)
  | .lst ds => some ds
  | .ref a => match M a with
    | some (.lst ds) => some ds
    | _ => none
  | _ => none
theorem R.seqW {F H : Hp} {M : Mem} {σ : L2.St} {ρ : Env} (r : R K F M H σ ρ) {d : D} {v : V} {ds : List D} (h : Is K F d v) (q : seqW M d = some ds) : ∃ a vs, v = .ref a ∧ H a = some (.lst vs) ∧ IsL K F ds vs := by
  cases d with
  | lst es =>
    obtain ⟨a, vs, h1, h2, h3⟩ := h
    cases q
    exact ⟨a, vs, h1, r.le a _ h2, h3⟩
  | ref a =>
    cases h
    unfold Dn.seqW at q
    dsimp only at q
    cases z : M a with
    | none =>
      rw [z] at q
      cases q
    | some o =>
      rw [z] at q
      cases o with
      | lst es =>
        cases q
        obtain ⟨_, vs, h1, h2⟩ := r.mem a _ z
        exact ⟨a, vs, rfl, h1, h2⟩
      | _ => cases q
  | _ => cases q
def rdCatL (new : Bool) : RD2 := fun d e M q => match seqW M d, seqW M e with
  | some xs, some ys => xs.length + ys.length ≤ sizeLine ∧ if new = true then ∀ p, M p = none → q (.ref p) (updM M p (.lst (xs ++ ys))) else q (.lst (xs ++ ys)) M
  | _, _ => False
/-- a new list at p: by value, or as an object of the store -/
theorem fresh_list {F H : Hp} {M : Mem} {σ : L2.St} {ρ : Env} {Q : VK} {q : QD} {ds : List D} {vs : List V} (new : Bool) (r : R K F M H σ ρ) (h : IsL K F ds vs) (z : if new = true then ∀ p, M p = none → q (.ref p) (updM M p (.lst ds)) else q (.lst ds) M)
    (k : ∀ c v F' M' H', Ext F F' → R K F' M' H' σ ρ → Is K F' c v → q c M' → Q v H') {p : Addr} (hp : H p = none) : Q (.ref p) (upd H p (.lst vs)) := by
  cases new with
  | true => exact k (.ref p) (.ref p) F _ _ (Ext.refl F) (r.stored (m := .lst ds) hp ⟨(r.free hp).1, vs, upd_same, h⟩) rfl (z p (r.free hp).2)
  | false =>
    have e : Ext F (upd F p (.lst vs)) := Ext.new (r.free hp).1
    exact k (.lst ds) (.ref p) _ M _ e (r.laid hp) ⟨p, vs, rfl, upd_same, h.mono e⟩ z
theorem do_catS : DOp X (binaryOp .Add) rdCatS := ⟨_, op_add_str, fun F M H σ ρ d e x y Q q r hd he h k => by
  cases d with
  | str i =>
    cases e with
    | str j => exact ⟨i, j, hd, he, h.1, k (.str (i ++ j)) _ F M H (Ext.refl F) r rfl h.2⟩
    | _ => exact h.elim
  | _ => exact h.elim⟩
theorem do_catT : DOp X (binaryOp .Add) rdCatT := ⟨_, op_catA, fun F M H σ ρ d e x y Q q r hd he h k => by
  cases d with
  | tup i =>
    cases e with
    | tup j =>
      obtain ⟨a, vs, rfl, h1, h2⟩ := hd
      obtain ⟨b, us, rfl, k1, k2⟩ := he
      refine ⟨a, b, vs, us, rfl, rfl, r.le.sqT h1, r.le.sqT k1, by rw [← h2.length, ← k2.length]; exact h.1, fun e0 => ?_, fun _ e0 => ?_, fun _ _ p hp => ?_⟩
      · subst e0
        cases i with
        | nil => exact k (.tup j) _ F M H (Ext.refl F) r ⟨b, us, rfl, k1, k2⟩ h.2
        | cons c i => have := h2.length; cases this
      · subst e0
        cases j with
        | nil => exact k (.tup i) _ F M H (Ext.refl F) r ⟨a, vs, rfl, h1, h2⟩ (by have z := h.2; rw [List.append_nil] at z; exact z)
        | cons c i => have := k2.length; cases this
      · have e : Ext F (upd F p (.tup (vs ++ us))) := Ext.new (r.free hp).1
        exact k (.tup (i ++ j)) _ _ M _ e (r.laid hp) ⟨p, _, rfl, .inl (.inl upd_same), (h2.mono e).append (k2.mono e)⟩ h.2
    | _ => exact h.elim
  | _ => exact h.elim⟩
theorem do_catL (new : Bool) : DOp X (binaryOp .Add) (rdCatL new) := ⟨_, op_cat, fun F M H σ ρ d e x y Q q r hd he h k => by
  unfold rdCatL at h
  split at h
  · rename_i xs ys h1 h2
    obtain ⟨a, vs, rfl, a1, a2⟩ := r.seqW hd h1
    obtain ⟨b, us, rfl, b1, b2⟩ := r.seqW he h2
    exact ⟨a, b, vs, us, rfl, rfl, a1, b1, by rw [← a2.length, ← b2.length]; exact h.1, fun p hp => fresh_list new r (a2.append b2) h.2 k hp⟩
  · exact h.elim⟩
/-- + of any two -/
def rdAdd : RD2 := fun d e M q => match d, e with
  | .int i, .int j => q (.int (i + j)) M
  | .str x, .str y => x.length + y.length ≤ sizeLine ∧ q (.str (x ++ y)) M
  | .tup x, .tup y => x.length + y.length ≤ sizeLine ∧ q (.tup (x ++ y)) M
  | d, e => rdCatL false d e M q
theorem do_add : DOp X (binaryOp .Add) rdAdd := (do_addI.or (do_catS.or (do_catT.or (do_catL false)))).imp fun d e M q h => by
  unfold rdAdd at h
  split at h
  · exact .inl h
  · exact .inr (.inl h)
  · exact .inr (.inr (.inl h))
  · exact .inr (.inr (.inr h))
/-- + where a new list comes that will change -/
def rdAddN : RD2 := rdCatL true
theorem do_addN : DOp X (binaryOp .Add) rdAddN := do_catL true

/-! * -/
def rdRepL (new : Bool) : RD2 := fun d e M q => match seqW M d, e with
  | some xs, .int k => (-(2 ^ 63) ≤ k ∧ k < 2 ^ 63 ∧ xs.length * k.toNat ≤ sizeLine) ∧ if new = true then ∀ p, M p = none → q (.ref p) (updM M p (.lst (List.replicate k.toNat xs).flatten)) else q (.lst (List.replicate k.toNat xs).flatten) M
  | _, _ => False
def rdRepT : RD2 := fun d e M q => match d, e with
  | .tup xs, .int k => (xs ≠ [] ∧ 2 ≤ k ∧ k ≤ 1000 ∧ xs.length ≤ 1000) ∧ q (.tup (List.replicate k.toNat xs).flatten) M
  | _, _ => False
theorem IsL.rep {F : Hp} {ds : List D} {vs : List V} (h : IsL K F ds vs) : ∀ n : Nat, IsL K F (List.replicate n ds).flatten (List.replicate n vs).flatten
  | 0 => rfl
  | n + 1 => by
    rw [List.replicate_succ, List.replicate_succ, List.flatten_cons, List.flatten_cons]
    exact h.append (IsL.rep h n)
theorem do_repL (new : Bool) : DOp X (binaryOp .Mult) (rdRepL new) := ⟨_, op_rep, fun F M H σ ρ d e x y Q q r hd he h k => by
  unfold rdRepL at h
  split at h
  · rename_i xs i h1
    obtain ⟨a, vs, rfl, a1, a2⟩ := r.seqW hd h1
    exact ⟨a, i, vs, rfl, he, a1, h.1.1, h.1.2.1, by rw [← a2.length]; exact h.1.2.2, fun p hp => fresh_list new r (a2.rep _) h.2 k hp⟩
  · exact h.elim⟩
theorem do_repT : DOp X (binaryOp .Mult) rdRepT := ⟨_, op_repT, fun F M H σ ρ d e x y Q q r hd he h k => by
  cases d with
  | tup i =>
    cases e with
    | int j =>
      obtain ⟨a, vs, rfl, h1, h2⟩ := hd
      refine ⟨a, j, vs, rfl, he, r.le.sqT h1, fun e0 => ?_, h.1.2.1, h.1.2.2.1, by rw [← h2.length]; exact h.1.2.2.2, fun p hp => ?_⟩
      · subst e0
        refine h.1.1 (List.eq_nil_of_length_eq_zero ?_)
        rw [h2.length]
        rfl
      · have e : Ext F (upd F p (.tup (List.replicate j.toNat vs).flatten)) := Ext.new (r.free hp).1
        exact k (.tup _) _ _ M _ e (r.laid hp) ⟨p, _, rfl, .inl (.inl upd_same), (h2.mono e).rep _⟩ h.2
    | _ => exact h.elim
  | _ => exact h.elim⟩
def rdMul : RD2 := fun d e M q => match d, e with
  | .int i, .int j => CMulD i j ∧ q (.int (i * j)) M
  | .tup xs, .int k => (xs ≠ [] ∧ 2 ≤ k ∧ k ≤ 1000 ∧ xs.length ≤ 1000) ∧ q (.tup (List.replicate k.toNat xs).flatten) M
  | d, e => rdRepL false d e M q
theorem do_mul : DOp X (binaryOp .Mult) rdMul := (do_mulI.or (do_mulW.or (do_repT.or (do_repL false)))).imp fun d e M q h => by
  unfold rdMul at h
  split at h
  · rcases h with ⟨h | h, z⟩
    · exact .inl ⟨h, z⟩
    · exact .inr (.inl ⟨h, z⟩)
  · exact .inr (.inr (.inl h))
  · exact .inr (.inr (.inr h))

/-! == of data -/
mutual
def toP : D → PyData
  | .non => .none
  | .bl b => .bool b
  | .int i => .int i
  | .str x => .str x
  | .ref _ => .none
  | .ty _ => .none
  | .emp => .none
  | .tup ds => .tuple (toPs ds)
  | .lst ds => .list (toPs ds)
  | .scr _ => .none
  | .ntp ds => .tuple (toPs ds)
def toPs : List D → List PyData
  | [] => []
  | d :: ds => toP d :: toPs ds
end
mutual
/-- plain data of nesting at most n -/
def okD : D → Nat → Bool
  | .non, _ => true
  | .bl _, _ => true
  | .int _, _ => true
  | .str x, _ => PyData.strOk x
  | .ref _, _ => false
  | .ty _, _ => false
  | .emp, _ => false
  | .tup ds, n => n != 0 && okDs ds (n - 1)
  | .lst ds, n => n != 0 && okDs ds (n - 1)
  | .scr _, _ => false
  | .ntp ds, n => n != 0 && okDs ds (n - 1)
def okDs : List D → Nat → Bool
  | [], _ => true
  | d :: ds, n => okD d n && okDs ds n
end
mutual
def eqb : D → D → Bool
  | .non, .non => true
  | .bl a, .bl b => a == b
  | .bl a, .int j => (if a then 1 else 0) == j
  | .int i, .bl b => i == (if b then 1 else 0)
  | .int i, .int j => i == j
  | .str x, .str y => x == y
  | .tup xs, .tup ys => eqbs xs ys
  | .lst xs, .lst ys => eqbs xs ys
  | .ntp xs, .ntp ys => eqbs xs ys
  | .ntp xs, .tup ys => eqbs xs ys
  | .tup xs, .ntp ys => eqbs xs ys
  | _, _ => false
def eqbs : List D → List D → Bool
  | [], [] => true
  | x :: xs, y :: ys => eqb x y && eqbs xs ys
  | _, _ => false
end
mutual
theorem eqv_toP : ∀ (d e : D) (n : Nat), okD d n = true → okD e n = true → PyData.eqv (toP d) (toP e) = eqb d e := by
  intro d e n h1 h2
  cases d <;> cases e <;> first
    | (simp only [okD] at h1; exact absurd h1 Bool.false_ne_true)
    | (simp only [okD] at h2; exact absurd h2 Bool.false_ne_true)
    | (simp only [toP, PyData.eqv, eqb]; done)
    | skip
  all_goals
    simp only [okD, Bool.and_eq_true] at h1 h2
    simp only [toP, PyData.eqv, eqb]
    exact eqv_toPs _ _ _ h1.2 h2.2
theorem eqv_toPs : ∀ (ds es : List D) (n : Nat), okDs ds n = true → okDs es n = true → PyData.eqvAll (toPs ds) (toPs es) = eqbs ds es
  | [], [], _, _, _ => by simp only [toPs, PyData.eqvAll, eqbs]
  | [], _ :: _, _, _, _ => by simp only [toPs, PyData.eqvAll, eqbs]
  | _ :: _, [], _, _, _ => by simp only [toPs, PyData.eqvAll, eqbs]
  | d :: ds, e :: es, n, h1, h2 => by
    simp only [okDs, Bool.and_eq_true] at h1 h2
    simp only [toPs, PyData.eqvAll, eqbs]
    rw [eqv_toP d e n h1.1 h2.1, eqv_toPs ds es n h1.2 h2.2]
end
mutual
theorem canLay_toP : ∀ (d : D) (n : Nat), okD d n = true → (toP d).canLay0 = true ∧ (toP d).depth ≤ n
  | .non, _, _ => by simp only [toP, PyData.canLay0, PyData.depth] <;> simp
  | .bl _, _, _ => by simp only [toP, PyData.canLay0, PyData.depth] <;> simp
  | .int _, _, _ => by simp only [toP, PyData.canLay0, PyData.depth] <;> simp
  | .str x, _, h => by
    simp only [okD] at h
    simp only [toP, PyData.canLay0, PyData.depth]
    exact ⟨h, Nat.zero_le _⟩
  | .ref _, _, h => by simp [okD] at h
  | .ty _, _, h => by simp [okD] at h
  | .emp, _, h => by simp [okD] at h
  | .scr _, _, h => by simp [okD] at h
  | .tup ds, n, h => by
    simp only [okD, Bool.and_eq_true, bne_iff_ne] at h
    obtain ⟨h1, h2⟩ := canLay_toPs ds _ h.2
    simp only [toP, PyData.canLay0, PyData.depth]
    exact ⟨h1, by have := h.1; omega⟩
  | .lst ds, n, h => by
    simp only [okD, Bool.and_eq_true, bne_iff_ne] at h
    obtain ⟨h1, h2⟩ := canLay_toPs ds _ h.2
    simp only [toP, PyData.canLay0, PyData.depth]
    exact ⟨h1, by have := h.1; omega⟩
  | .ntp ds, n, h => by
    simp only [okD, Bool.and_eq_true, bne_iff_ne] at h
    obtain ⟨h1, h2⟩ := canLay_toPs ds _ h.2
    simp only [toP, PyData.canLay0, PyData.depth]
    exact ⟨h1, by have := h.1; omega⟩
theorem canLay_toPs : ∀ (ds : List D) (n : Nat), okDs ds n = true → PyData.canLayAll0 (toPs ds) = true ∧ PyData.depthAll (toPs ds) ≤ n
  | [], _, _ => by simp only [toPs, PyData.canLayAll0, PyData.depthAll] <;> simp
  | d :: ds, n, h => by
    simp only [okDs, Bool.and_eq_true] at h
    obtain ⟨h1, h2⟩ := canLay_toP d n h.1
    obtain ⟨k1, k2⟩ := canLay_toPs ds n h.2
    simp only [toPs, PyData.canLayAll0, PyData.depthAll, h1, k1]
    exact ⟨rfl, Nat.max_le.mpr ⟨h2, k2⟩⟩
end
theorem shaped_toP {d : D} (h : okD d 60 = true) : SeqAt.shaped (toP d) = true := by
  obtain ⟨h1, h2⟩ := canLay_toP d 60 h
  show ((toP d).canLay0 && decide ((toP d).depth ≤ 64)) = true
  rw [h1, decide_eq_true (Nat.le_trans h2 (by decide))]
  rfl
mutual
theorem Is.dp {F H : Hp} (l : Ext F H) : ∀ (d : D) (n : Nat) (v : V), okD d n = true → Is K F d v → Dp K H v (toP d)
  | .non, _, _, _, h => by
    cases h
    exact .non
  | .bl _, _, _, _, h => by
    cases h
    exact .bl _
  | .int _, _, _, _, h => by
    cases h
    exact .int _
  | .str x, _, _, _, h => by
    cases h
    exact .str _
  | .ref _, _, _, h, _ => by simp [okD] at h
  | .ty _, _, _, h, _ => by simp [okD] at h
  | .emp, _, _, h, _ => by simp [okD] at h
  | .scr _, _, _, h, _ => by simp [okD] at h
  | .tup ds, n, _, h, ⟨a, vs, h1, h2, h3⟩ => by
    subst h1
    simp only [okD, Bool.and_eq_true] at h
    simp only [toP]
    exact .tup (l.sqT h2) (IsL.dp l ds _ vs h.2 h3)
  | .lst ds, n, _, h, ⟨a, vs, h1, h2, h3⟩ => by
    subst h1
    simp only [okD, Bool.and_eq_true] at h
    simp only [toP]
    exact .lst (.inl (.inl (l a _ h2))) (IsL.dp l ds _ vs h.2 h3)
  | .ntp ds, n, _, h, ⟨a, vs, h1, ⟨o, h2, _⟩, h3⟩ => by
    subst h1
    simp only [okD, Bool.and_eq_true] at h
    simp only [toP]
    exact .tup (.inl (.inr ⟨o, l a _ h2⟩)) (IsL.dp l ds _ vs h.2 h3)
theorem IsL.dp {F H : Hp} (l : Ext F H) : ∀ (ds : List D) (n : Nat) (vs : List V), okDs ds n = true → IsL K F ds vs → DpAll K H vs (toPs ds)
  | [], _, _, _, h => by
    cases h
    simp only [toPs]
    exact .nil
  | d :: ds, n, _, h, ⟨v, r, h1, h2, h3⟩ => by
    subst h1
    simp only [okDs, Bool.and_eq_true] at h
    simp only [toPs]
    exact .cons (Is.dp l d n v h.1 h2) (IsL.dp l ds n r h.2 h3)
end
/-- a list of the store, by value -/
def snap (M : Mem) : D → D
  | .ref a => match M a with
    | some (.lst ds) => .lst ds
    | some (.frz ds) => .lst ds
    | _ => .ref a
  | d => d
theorem R.dp {F H : Hp} {M : Mem} {σ : L2.St} {ρ : Env} (r : R K F M H σ ρ) {d : D} {v : V} {n : Nat} (h : Is K F d v) (ok : okD (snap M d) n = true) : Dp K H v (toP (snap M d)) := by
  cases d with
  | ref a =>
    cases z : M a with
    | none =>
      have e : snap M (.ref a) = .ref a := by simp only [snap, z]
      rw [e] at ok
      simp [okD] at ok
    | some o =>
      cases o with
      | lst ds =>
        have e : snap M (.ref a) = .lst ds := by simp only [snap, z]
        rw [e] at ok ⊢
        cases h
        obtain ⟨_, vs, h1, h2⟩ := r.mem a _ z
        simp only [okD, Bool.and_eq_true] at ok
        simp only [toP]
        exact .lst (.inl (.inl h1)) (IsL.dp r.le ds _ vs ok.2 h2)
      | frz ds =>
        have e : snap M (.ref a) = .lst ds := by simp only [snap, z]
        rw [e] at ok ⊢
        cases h
        obtain ⟨vs, h1, h2, _⟩ := r.mem a _ z
        simp only [okD, Bool.and_eq_true] at ok
        simp only [toP]
        exact .lst (r.le.sqL h1) (IsL.dp r.le ds _ vs ok.2 h2)
      | _ =>
        have e : snap M (.ref a) = .ref a := by simp only [snap, z]
        rw [e] at ok
        simp [okD] at ok
  | _ => exact Is.dp r.le _ n v ok h
def rdEqD (neg : Bool) : RD2 := fun d e M q => (okD (snap M d) 60 = true ∧ okD (snap M e) 60 = true) ∧ q (.bl (if neg = true then !eqb (snap M d) (snap M e) else eqb (snap M d) (snap M e))) M
abbrev rdEq : RD2 := rdEqD false
abbrev rdNe : RD2 := rdEqD true
theorem do_eq (hu : X.A.units + 64 < cLine) : DOp X (compareOp .Eq) rdEq := ⟨_, op_eqD hu, fun F M H σ ρ d e x y Q q r hd he h k => by
  obtain ⟨⟨h1, h2⟩, h3⟩ := h
  refine ⟨_, _, r.dp hd h1, r.dp he h2, shaped_toP h1, shaped_toP h2, ?_⟩
  rw [eqv_toP _ _ 60 h1 h2]
  exact k (.bl _) _ F M H (Ext.refl F) r rfl h3⟩
theorem do_ne (hu : X.A.units + 64 < cLine) : DOp X (compareOp .NotEq) rdNe := ⟨_, op_neD hu, fun F M H σ ρ d e x y Q q r hd he h k => by
  obtain ⟨⟨h1, h2⟩, h3⟩ := h
  refine ⟨_, _, r.dp hd h1, r.dp he h2, shaped_toP h1, shaped_toP h2, ?_⟩
  rw [eqv_toP _ _ 60 h1 h2]
  exact k (.bl _) _ F M H (Ext.refl F) r rfl h3⟩
/-- is None -/
def isNon : D → Bool
  | .non => true
  | _ => false
def rdIs (neg : Bool) : RD2 := fun d e M q => match e with
  | .non => q (.bl (if neg = true then !isNon d else isNon d)) M
  | _ => False
theorem isNon_V {F : Hp} {d : D} {v : V} (h : Is K F d v) : decide (v = .non) = isNon d := by
  cases d with
  | non =>
    cases h
    rfl
  | tup ds =>
    obtain ⟨a, vs, rfl, _⟩ := h
    rfl
  | lst ds =>
    obtain ⟨a, vs, rfl, _⟩ := h
    rfl
  | emp =>
    obtain ⟨a, rfl, _⟩ := h
    rfl
  | scr ds =>
    obtain ⟨a, vs, rfl, _⟩ := h
    rfl
  | ntp ds =>
    obtain ⟨a, vs, rfl, _⟩ := h
    rfl
  | _ =>
    cases h
    rfl
theorem do_is : DOp X (compareOp .Is) (rdIs false) := ⟨_, op_isN, fun F M H σ ρ d e x y Q q r hd he h k => by
  cases e with
  | non =>
    refine ⟨he, ?_⟩
    rw [isNon_V hd]
    exact k (.bl _) _ F M H (Ext.refl F) r rfl h
  | _ => exact h.elim⟩
theorem do_isn : DOp X (compareOp .IsNot) (rdIs true) := ⟨_, op_notN, fun F M H σ ρ d e x y Q q r hd he h k => by
  cases e with
  | non =>
    refine ⟨he, ?_⟩
    rw [isNon_V hd]
    exact k (.bl _) _ F M H (Ext.refl F) r rfl h
  | _ => exact h.elim⟩
end
end Dn

namespace Dn
open PySem L2
section
variable {X : Cx} {K : Frg} {W : WX} {w : WD}
/-! ### items -/
theorem IsL.atI {F : Hp} {ds : List D} {vs : List V} {i : Int} {d : D} (h : IsL K F ds vs) (q : atI ds i = some d) : ∃ v, atI vs i = some v ∧ Is K F d v := by
  unfold L2.atI at q ⊢
  rw [← h.length]
  cases z : ixN ds.length i with
  | none =>
    rw [z] at q
    cases q
  | some j =>
    rw [z] at q
    exact h.at q
def rdIx : RD2 := fun d e M q => match d, e with
  | .str z, .int i => z.length ≤ sizeLine ∧ (match atI z.cps.toList i with
    | some c => q (.str ⟨#[c]⟩) M
    | none => False)
  | d, .int i => (match anySeq M d with
    | some ds => (match atI ds i with
      | some c => q c M
      | none => False)
    | none => False)
  | _, _ => False
theorem tr_ix : TrR K (fun x y H Q => rIxL K x y H Q ∨ rIxT K x y H Q ∨ rIxS x y H Q) rdIx := fun F M H σ ρ d e x y Q q r hd he h k => by
  unfold rdIx at h
  split at h
  · rename_i z i
    obtain ⟨h1, h2⟩ := h
    split at h2
    · rename_i c hc
      exact .inr (.inr ⟨z, i, c, hd, he, h1, hc, k (.str ⟨#[c]⟩) _ F M H (Ext.refl F) r rfl h2⟩)
    · exact h2.elim
  · rename_i i _
    split at h
    · rename_i ds hs
      split at h
      · rename_i c hc
        obtain ⟨a, vs, rfl, b1, b2⟩ := anySeq_inv r hd hs
        obtain ⟨v, a1, a2⟩ := b2.atI hc
        rcases b1 with b1 | b1
        · exact .inr (.inl ⟨a, vs, i, v, rfl, he, b1, a1, k c v F M H (Ext.refl F) r a2 h⟩)
        · exact .inl ⟨a, vs, i, v, rfl, he, b1, a1, k c v F M H (Ext.refl F) r a2 h⟩
      · exact h.elim
    · exact h.elim
  · exact h.elim
theorem d_ix {a b : Expr} {pos : Pos} {ta tb : TED} (ha : DE X W w a ta) (hb : DE X W w b tb) (hs : PlainIx b) : DE X W w (.Subscript a b pos) (dBin rdIx ta tb) :=
  let ⟨_, p1, t1⟩ := ha.ex
  let ⟨_, p2, t2⟩ := hb.ex
  ⟨_, pe_ix (ix_list.or (ix_tup.or ix_str)) p1 p2 hs, tr_bin tr_ix t1 t2⟩
/-! ### slices -/
abbrev TOD := Env → Mem → (Option Int → Mem → Prop) → Prop
def TrO (K : Frg) (W : WX) (w : WD) (to : TO) (td : TOD) : Prop := ∀ (F : Hp) (M : Mem) (H : Hp) (σ : L2.St) (ρ : Env) (Q : Option Int → Hp → Prop) (q : Option Int → Mem → Prop), R K F M H σ ρ → LkX K F W w → td ρ M q →
  (∀ o F' M' H', Ext F F' → R K F' M' H' σ ρ → q o M' → Q o H') → to σ H Q
structure DO_ (X : Cx) (W : WX) (w : WD) (e : Option Expr) (td : TOD) : Prop where
  ex : ∃ t, PO X e t ∧ TrO X.K W w t td
def dNoPart : TOD := fun _ M q => q none M
def dPart (t : TED) : TOD := fun ρ M q => t ρ M fun d M1 => match d with
  | .int i => q (some i) M1
  | _ => False
theorem do_none : DO_ X W w none dNoPart := ⟨_, po_none, fun F M H σ ρ Q q r _ h k => k none F M H (Ext.refl F) r h⟩
theorem do_some {e : Expr} {t : TED} (h : DE X W w e t) : DO_ X W w (some e) (dPart t) :=
  let ⟨_, p, z⟩ := h.ex
  ⟨_, po_some p, fun F M H σ ρ Q q r x h k => z F M H σ ρ _ _ r x h fun d v F1 M1 H1 e1 r1 hd h1 => by
    cases d with
    | int i => exact ⟨i, hd, k (some i) F1 M1 H1 e1 r1 h1⟩
    | _ => exact h1.elim⟩
def cutD (xs : List D) (lo hi : Option Int) : List D := (xs.drop (HT.sIx xs.length 0 lo)).take (HT.sIx xs.length xs.length hi - HT.sIx xs.length 0 lo)
theorem IsL.cut {F : Hp} {ds : List D} {vs : List V} (h : IsL K F ds vs) (lo hi : Option Int) : IsL K F (cutD ds lo hi) (cutV vs lo hi) := by
  unfold cutD cutV
  rw [h.length]
  exact (h.drop _).take _
def rdSl (new : Bool) (d : D) (lo hi : Option Int) (M : Mem) (q : QD) : Prop := match d with
  | .tup xs => q (.tup (cutD xs lo hi)) M
  | d => match seqL M d with
    | some xs => if new = true then ∀ p, M p = none → q (.ref p) (updM M p (.lst (cutD xs lo hi))) else q (.lst (cutD xs lo hi)) M
    | none => False
def dSl (new : Bool) (t : TED) (a b : TOD) : TED := fun ρ M q => t ρ M fun d M1 => a ρ M1 fun l M2 => b ρ M2 fun u M3 => rdSl new d l u M3 q
theorem cutD_whole {xs : List D} {lo hi : Option Int} (h : HT.sIx xs.length 0 lo = 0 ∧ HT.sIx xs.length xs.length hi = xs.length) : cutD xs lo hi = xs := by
  unfold cutD
  rw [h.1, h.2, List.drop_zero, Nat.sub_zero, List.take_length]
theorem tr_sl (new : Bool) {te : TE} {tl th : TO} {t : TED} {a b : TOD} (h : TrE K W w te t) (h1 : TrO K W w tl a) (h2 : TrO K W w th b) : TrE K W w (tSl (fun x lo hi H Q => rSlL K x lo hi H Q ∨ rSlA K x lo hi H Q) te tl th) (dSl new t a b) := fun F M H σ ρ Q q r x z k =>
  h F M H σ ρ _ _ r x z fun d v F1 M1 H1 e1 r1 hd z1 => h1 F1 M1 H1 σ ρ _ _ r1 (x.mono e1) z1 fun lo F2 M2 H2 e2 r2 z2 => h2 F2 M2 H2 σ ρ _ _ r2 (x.mono (e1.trans e2)) z2 fun hi F3 M3 H3 e3 r3 z3 => by
    have hd3 := Is.mono (e2.trans e3) d v hd
    have k3 : ∀ c v F' M' H', Ext F3 F' → R K F' M' H' σ ρ → Is K F' c v → q c M' → Q v H' := fun c v F' M' H' e => k c v F' M' H' (((e1.trans e2).trans e3).trans e)
    cases d with
    | tup xs =>
      obtain ⟨p, vs, rfl, p1, p2⟩ := hd3
      refine .inr ⟨p, vs, rfl, r3.le.sqT p1, fun hw => ?_, fun hw y hy => ?_⟩
      · rw [← p2.length] at hw
        have z3 : q (.tup (cutD xs lo hi)) M3 := z3
        rw [cutD_whole hw] at z3
        exact k3 (.tup xs) _ F3 M3 H3 (Ext.refl _) r3 ⟨p, vs, rfl, p1, p2⟩ z3
      · have e : Ext F3 (upd F3 y (.tup (cutV vs lo hi))) := Ext.new (r3.free hy).1
        exact k3 (.tup (cutD xs lo hi)) _ _ M3 _ e (r3.laid hy) ⟨y, _, rfl, .inl (.inl upd_same), (p2.mono e).cut lo hi⟩ z3
    | _ =>
      unfold rdSl at z3
      dsimp only at z3
      split at z3
      · rename_i xs hx
        obtain ⟨p, vs, rfl, p1, p2⟩ := r3.seqL hd3 hx
        exact .inl ⟨p, vs, rfl, p1, fun y hy => fresh_list new r3 (p2.cut lo hi) z3 k3 hy⟩
      · exact z3.elim
theorem d_sl (new : Bool) {e : Expr} {lo hi : Option Expr} {pos p2 : Pos} {t : TED} {a b : TOD} (h : DE X W w e t) (h1 : DO_ X W w lo a) (h2 : DO_ X W w hi b) : DE X W w (.Subscript e (.Slice lo hi none p2) pos) (dSl new t a b) :=
  let ⟨_, p, z⟩ := h.ex
  let ⟨_, p1, z1⟩ := h1.ex
  let ⟨_, p3, z2⟩ := h2.ex
  ⟨_, pe_slice (sl_list.or sl_tupA) p p1 p3, tr_sl new z z1 z2⟩

/-! ### in -/
theorem op_inAny (neg : Bool) (hu : X.A.units + 65 < cLine) : OpR X (if neg = true then compareOp .NotIn else compareOp .In) (fun x y H Q => ∃ d ds, Dp X.K H x d ∧ (Dp X.K H y (.list ds) ∨ Dp X.K H y (.tuple ds)) ∧ d.canLay0 = true ∧ d.depth ≤ 60 ∧ PyData.canLayAll0 ds = true ∧
    Q (.bl (if neg = true then !(ds.any fun z => PyData.eqv z d) else ds.any fun z => PyData.eqv z d)) H) := by
  rintro pins s σ H x y v u Q I rx ry ⟨d, ds, hd, hy, c1, c2, c3, q⟩
  obtain ⟨bs, rb⟩ := Dp.reads I d x v hd rx
  have room : X.A.units + 1 + min (PyData.depthAll ds) d.depth < cLine := by omega
  cases neg with
  | true =>
    rw [if_pos rfl] at q ⊢
    rcases hy with hy | hy
    · obtain ⟨as, ra⟩ := Dp.reads I _ y u hy ry
      exact SeqAt.notIn_list_reads ra rb c3 c1 room ⟨.bl _, H, I, rfl, q⟩
    · obtain ⟨as, ra⟩ := Dp.reads I _ y u hy ry
      exact SeqAt.notIn_tuple_reads ra rb c3 c1 room ⟨.bl _, H, I, rfl, q⟩
  | false =>
    rw [if_neg Bool.false_ne_true] at q ⊢
    rcases hy with hy | hy
    · obtain ⟨as, ra⟩ := Dp.reads I _ y u hy ry
      exact SeqAt.in_list_reads ra rb c3 c1 room ⟨.bl _, H, I, rfl, q⟩
    · obtain ⟨as, ra⟩ := Dp.reads I _ y u hy ry
      exact SeqAt.in_tuple_reads ra rb c3 c1 room ⟨.bl _, H, I, rfl, q⟩
theorem any_toPs {d : D} (hd : okD d 60 = true) : ∀ (ds : List D), okDs ds 60 = true → ((toPs ds).any fun z => PyData.eqv z (toP d)) = ds.any fun z => eqb z d
  | [], _ => by simp only [toPs, List.any_nil]
  | e :: ds, h => by
    simp only [okDs, Bool.and_eq_true] at h
    simp only [toPs, List.any_cons]
    rw [eqv_toP e d 60 h.1 hd, any_toPs hd ds h.2]
def rdIn (neg : Bool) : RD2 := fun d e M q => match anySeq M e with
  | some ds => (okD (snap M d) 60 = true ∧ okDs ds 60 = true) ∧ q (.bl (if neg = true then !(ds.any fun z => eqb z (snap M d)) else ds.any fun z => eqb z (snap M d))) M
  | none => False
theorem do_inG (neg : Bool) (hu : X.A.units + 65 < cLine) : DOp X (if neg = true then compareOp .NotIn else compareOp .In) (rdIn neg) := ⟨_, op_inAny neg hu, fun F M H σ ρ d e x y Q q r hd he h k => by
  unfold rdIn at h
  split at h
  · rename_i ds hs
    obtain ⟨⟨h1, h2⟩, h3⟩ := h
    obtain ⟨c1, c2⟩ := canLay_toP _ 60 h1
    obtain ⟨c3, _⟩ := canLay_toPs _ 60 h2
    refine ⟨_, toPs ds, r.dp hd h1, ?_, c1, c2, c3, ?_⟩
    · obtain ⟨a, vs, rfl, b1, b2⟩ := anySeq_inv r he hs
      rcases b1 with b1 | b1
      · exact .inr (.tup b1 (IsL.dp r.le ds 60 vs h2 b2))
      · exact .inl (.lst b1 (IsL.dp r.le ds 60 vs h2 b2))
    · rw [any_toPs h1 ds h2]
      exact k (.bl _) _ F M H (Ext.refl F) r rfl h3
  · exact h.elim⟩
theorem do_in (hu : X.A.units + 65 < cLine) : DOp X (compareOp .In) (rdIn false) := do_inG false hu
theorem do_nin (hu : X.A.units + 65 < cLine) : DOp X (compareOp .NotIn) (rdIn true) := do_inG true hu
/-- a sign in a text -/
def rdInS (neg : Bool) : RD2 := fun d e M q => match d, e with
  | .str x, .str z => (match x.cps.toList with
    | [c] => q (.bl (if neg = true then !decide (c ∈ z.cps.toList) else decide (c ∈ z.cps.toList))) M
    | _ => False)
  | _, _ => False
theorem str_one {x : Str} {c : Nat} (h : x.cps.toList = [c]) : x = ⟨#[c]⟩ := by
  obtain ⟨a⟩ := x
  obtain ⟨l⟩ := a
  cases h
  rfl
theorem do_inS : DOp X (compareOp .In) (rdInS false) := ⟨_, op_in_sign, fun F M H σ ρ d e x y Q q r hd he h k => by
  unfold rdInS at h
  split at h
  · rename_i a z
    split at h
    · rename_i c hc
      rw [str_one hc] at hd
      exact ⟨c, z, hd, he, k (.bl _) _ F M H (Ext.refl F) r rfl h⟩
    · exact h.elim
  · exact h.elim⟩

/-! ### calls of built-in functions and types -/
abbrev RCD := List D → Mem → QD → Prop
def TrC (K : Frg) (r : List V → Hp → VK → Prop) (rd : RCD) : Prop := ∀ (F : Hp) (M : Mem) (H : Hp) (σ : L2.St) (ρ : Env) (ds : List D) (vs : List V) (Q : VK) (q : QD), R K F M H σ ρ → IsL K F ds vs → rd ds M q →
  (∀ c v F' M' H', Ext F F' → R K F' M' H' σ ρ → Is K F' c v → q c M' → Q v H') → r vs H Q
structure DCall (X : Cx) (f : Value) (rd : RCD) : Prop where
  ex : ∃ r, CallR X f r ∧ TrC X.K r rd
theorem DCall.or {f : Value} {rd rd' : RCD} (h : DCall X f rd) (h' : DCall X f rd') : DCall X f (fun ds M q => rd ds M q ∨ rd' ds M q) :=
  let ⟨r, p, t⟩ := h.ex
  let ⟨r', p', t'⟩ := h'.ex
  ⟨fun vs H Q => r vs H Q ∨ r' vs H Q, p.or p', fun F M H σ ρ ds vs Q q a b z k => z.elim (fun z => .inl (t F M H σ ρ ds vs Q q a b z k)) fun z => .inr (t' F M H σ ρ ds vs Q q a b z k)⟩
theorem DCall.imp {f : Value} {rd rd' : RCD} (h : DCall X f rd) (k : ∀ ds M q, rd' ds M q → rd ds M q) : DCall X f rd' :=
  let ⟨r, p, t⟩ := h.ex
  ⟨r, p, fun F M H σ ρ ds vs Q q a b z => t F M H σ ρ ds vs Q q a b (k _ _ _ z)⟩
def dCB (rd : RCD) (t : TAD) : TED := fun ρ M q => t ρ M fun ds M1 => rd ds M1 q
theorem tr_cB {r : List V → Hp → VK → Prop} {rd : RCD} {ta : TA} {td : TAD} (h : TrC K r rd) (h2 : TrA K W w ta td) : TrE K W w (tCB r ta) (dCB rd td) := fun F M H σ ρ Q q r0 x z k =>
  h2 F M H σ ρ _ _ r0 x z fun ds vs F1 M1 H1 e1 r1 hd z1 => h F1 M1 H1 σ ρ ds vs Q q r1 hd z1 fun c v F2 M2 H2 e2 r2 hc z2 => k c v F2 M2 H2 (e1.trans e2) r2 hc z2
theorem d_callB {id : String} {rd : RCD} {x : Str} {p pos : Pos} {e : Expr} {es : List Expr} {td : TAD} (hc : DCall X (.builtin id) rd) (hg : Gl X x) (hm : X.mg x = none) (hv : bootBuiltins x = some (.builtin id)) (ha : DA X W w (e :: es) td) (hn : x ≠ "__name__" := by decide) (hdb : (x == ("__debug__" : Str)) = false := by decide)
    (he : starEach (e :: es) X.env = (false, eval e X.env) :: starEach es X.env := by rfl) (hpl : (backTo pos (starEach es X.env)).any (·.1) = false := by rfl) : DE X W w (.Call (.Name x p) (e :: es) [] pos) (dCB rd td) :=
  let ⟨_, q, t⟩ := hc.ex
  let ⟨_, q2, t2⟩ := ha.ex
  ⟨_, pe_callB q hg hm hv q2 hn hdb he hpl, tr_cB t t2⟩
theorem d_callT {T : String} {rd : RCD} {x : Str} {p pos : Pos} {e : Expr} {es : List Expr} {td : TAD} (hc : DCall X (.type T) rd) (hg : Gl X x) (hm : X.mg x = none) (hv : bootBuiltins x = some (.type T)) (ha : DA X W w (e :: es) td) (hn : x ≠ "__name__" := by decide) (hdb : (x == ("__debug__" : Str)) = false := by decide)
    (he : starEach (e :: es) X.env = (false, eval e X.env) :: starEach es X.env := by rfl) (hpl : (backTo pos (starEach es X.env)).any (·.1) = false := by rfl) : DE X W w (.Call (.Name x p) (e :: es) [] pos) (dCB rd td) :=
  let ⟨_, q, t⟩ := hc.ex
  let ⟨_, q2, t2⟩ := ha.ex
  ⟨_, pe_callTy q hg hm hv q2 hn hdb he hpl, tr_cB t t2⟩
def rcLen : RCD := fun ds M q => match ds with
  | [.str x] => x.length ≤ sizeLine ∧ q (.int x.length) M
  | [d] => (match anySeq M d with
    | some xs => q (.int xs.length) M
    | none => False)
  | _ => False
theorem dc_len : DCall X (.builtin "len") rcLen := by
  refine ⟨_, call_len_seq.or call_len_str, fun F M H σ ρ ds vs Q q r hd z k => ?_⟩
  unfold rcLen at z
  split at z
  · rename_i x
    obtain ⟨v, vs, rfl, h1, h2⟩ := hd
    cases h2
    exact .inr ⟨x, by rw [show v = .str x from h1], z.1, k (.int x.length) _ F M H (Ext.refl F) r rfl z.2⟩
  · rename_i d _
    obtain ⟨v, vs, rfl, h1, h2⟩ := hd
    cases h2
    split at z
    · rename_i xs hx
      obtain ⟨a, us, rfl, b1, b2⟩ := anySeq_inv r h1 hx
      refine .inl ⟨a, us, rfl, b1.symm, ?_⟩
      rw [← b2.length]
      exact k (.int xs.length) _ F M H (Ext.refl F) r rfl z
    · exact z.elim
  · exact z.elim
def rcAbs : RCD := fun ds M q => match ds with
  | [.int i] => q (.int (if i < 0 then -i else i)) M
  | _ => False
theorem IsL.one_inv {F : Hp} {d : D} {vs : List V} (h : IsL K F [d] vs) : ∃ v, vs = [v] ∧ Is K F d v := by
  obtain ⟨v, r, rfl, h1, h2⟩ := h
  cases h2
  exact ⟨v, rfl, h1⟩
theorem IsL.two_inv {F : Hp} {d e : D} {vs : List V} (h : IsL K F [d, e] vs) : ∃ v u, vs = [v, u] ∧ Is K F d v ∧ Is K F e u := by
  obtain ⟨v, r, rfl, h1, h2⟩ := h
  obtain ⟨u, rfl, h3⟩ := h2.one_inv
  exact ⟨v, u, rfl, h1, h3⟩
theorem dc_abs : DCall X (.builtin "abs") rcAbs := ⟨_, call_abs, fun F M H σ ρ ds vs Q q r hd z k => by
  unfold rcAbs at z
  split at z
  · rename_i i
    obtain ⟨v, rfl, h1⟩ := hd.one_inv
    exact ⟨i, by rw [show v = .int i from h1], k (.int _) _ F M H (Ext.refl F) r rfl z⟩
  · exact z.elim⟩
def rcMax2 : RCD := fun ds M q => match ds with
  | [.int i, .int j] => q (.int (if j > i then j else i)) M
  | _ => False
def rcMin2 : RCD := fun ds M q => match ds with
  | [.int i, .int j] => q (.int (if j < i then j else i)) M
  | _ => False
theorem dc_max2 (hc : X.calm = true) : DCall X (.builtin "max") rcMax2 := ⟨_, call_max2 hc, fun F M H σ ρ ds vs Q q r hd z k => by
  unfold rcMax2 at z
  split at z
  · rename_i i j
    obtain ⟨v, u, rfl, h1, h2⟩ := hd.two_inv
    exact ⟨i, j, by rw [show v = .int i from h1, show u = .int j from h2], k (.int _) _ F M H (Ext.refl F) r rfl z⟩
  · exact z.elim⟩
theorem dc_min2 (hc : X.calm = true) : DCall X (.builtin "min") rcMin2 := ⟨_, call_min2 hc, fun F M H σ ρ ds vs Q q r hd z k => by
  unfold rcMin2 at z
  split at z
  · rename_i i j
    obtain ⟨v, u, rfl, h1, h2⟩ := hd.two_inv
    exact ⟨i, j, by rw [show v = .int i from h1, show u = .int j from h2], k (.int _) _ F M H (Ext.refl F) r rfl z⟩
  · exact z.elim⟩
def rcInt : RCD := fun ds M q => match ds with
  | [.int i] => q (.int i) M
  | [.bl b] => q (.int (if b = true then 1 else 0)) M
  | _ => False
theorem dc_int : DCall X (.type "int") rcInt := ⟨_, call_int1, fun F M H σ ρ ds vs Q q r hd z k => by
  unfold rcInt at z
  split at z
  · rename_i i
    obtain ⟨v, rfl, h1⟩ := hd.one_inv
    exact .inl ⟨i, by rw [show v = .int i from h1], k (.int i) _ F M H (Ext.refl F) r rfl z⟩
  · rename_i i
    obtain ⟨v, rfl, h1⟩ := hd.one_inv
    exact .inr ⟨i, by rw [show v = .bl i from h1], k (.int _) _ F M H (Ext.refl F) r rfl z⟩
  · exact z.elim⟩
/-- list(x), a new list -/
def rcList (new : Bool) : RCD := fun ds M q => match ds with
  | [d] => (match anySeq M d with
    | some xs => if new = true then ∀ p, M p = none → q (.ref p) (updM M p (.lst xs)) else q (.lst xs) M
    | none => False)
  | _ => False
theorem dc_list (new : Bool) : DCall X (.type "list") (rcList new) := ⟨_, call_list_of, fun F M H σ ρ ds vs Q q r hd z k => by
  unfold rcList at z
  split at z
  · rename_i d
    obtain ⟨v, rfl, h1⟩ := hd.one_inv
    split at z
    · rename_i xs hx
      obtain ⟨a, us, rfl, b1, b2⟩ := anySeq_inv r h1 hx
      exact ⟨a, us, rfl, b1.symm, fun l hl => fresh_list new r b2 z k hl⟩
    · exact z.elim
  · exact z.elim⟩
def rcTuple : RCD := fun ds M q => match ds with
  | [d] => (match anySeq M d with
    | some xs => q (.tup xs) M
    | none => False)
  | _ => False
theorem dc_tuple : DCall X (.type "tuple") rcTuple := ⟨_, call_tuple_of, fun F M H σ ρ ds vs Q q r hd z k => by
  unfold rcTuple at z
  split at z
  · rename_i d
    obtain ⟨v, rfl, h1⟩ := hd.one_inv
    split at z
    · rename_i xs hx
      obtain ⟨a, us, rfl, b1, b2⟩ := anySeq_inv r h1 hx
      cases d with
      | tup es =>
        cases hx
        obtain ⟨a', us', e1, c1, c2⟩ := h1
        cases e1
        exact ⟨a, us', rfl, .inr ⟨r.le.sqT c1, k (.tup xs) _ F M H (Ext.refl F) r ⟨a, us', rfl, c1, c2⟩ z⟩⟩
      | ntp es =>
        cases hx
        obtain ⟨a', us', e1, ⟨o, c1, _⟩, c2⟩ := h1
        cases e1
        exact ⟨a, us', rfl, .inr ⟨.inl (.inr ⟨o, r.le a _ c1⟩), k (.tup xs) _ F M H (Ext.refl F) r ⟨a, us', rfl, .inl (.inr ⟨o, c1⟩), c2⟩ z⟩⟩
      | _ =>
        obtain ⟨a', us', e1, c1, c2⟩ := r.seqL h1 hx
        cases e1
        refine ⟨a, us', rfl, .inl ⟨c1, fun l hl => ?_⟩⟩
        have e : Ext F (upd F l (.tup us')) := Ext.new (r.free hl).1
        exact k (.tup xs) _ _ M _ e (r.laid hl) ⟨l, us', rfl, .inl (.inl upd_same), c2.mono e⟩ z
    · exact z.elim
  · exact z.elim⟩
end
end Dn

namespace Dn
open PySem L2
/-! ### what is walked, by the list of its items -/
structure Walks (K : Frg) (F : Hp) (J : It) (ds : List D) : Prop where
  go : ∀ i F' M H σ ρ, Ext F F' → R K F' M H σ ρ → i < ds.length → J.go i H
  yld : ∀ i F' M H σ ρ x H' d, Ext F F' → R K F' M H σ ρ → ds[i]? = some d → J.yld i H x H' → ∃ F2, Ext F' F2 ∧ R K F2 M H' σ ρ ∧ Is K F2 d x
  stop : ∀ F' M H σ ρ, Ext F F' → R K F' M H σ ρ → J.stop ds.length H
abbrev TID := Env → Mem → (List D → Mem → Prop) → Prop
def TrI (K : Frg) (W : WX) (w : WD) (wi : TI) (td : TID) : Prop := ∀ (F : Hp) (M : Mem) (H : Hp) (σ : L2.St) (ρ : Env) (Q : It → Hp → Prop) (q : List D → Mem → Prop), R K F M H σ ρ → LkX K F W w → td ρ M q →
  (∀ J ds F' M' H', Ext F F' → R K F' M' H' σ ρ → Walks K F' J ds → q ds M' → Q J H') → wi σ H Q
structure DI (X : Cx) (W : WX) (w : WD) (tg iter : Expr) (td : TID) : Prop where
  ex : ∃ wi, PI X tg iter wi ∧ TrI X.K W w wi td
section
variable {X : Cx} {K : Frg} {W : WX} {w : WD}
theorem Walks.mono {F F' : Hp} {J : It} {ds : List D} (e : Ext F F') (h : Walks K F J ds) : Walks K F' J ds :=
  ⟨fun i F2 M H σ ρ e2 => h.go i F2 M H σ ρ (e.trans e2), fun i F2 M H σ ρ x H' d e2 => h.yld i F2 M H σ ρ x H' d (e.trans e2), fun F2 M H σ ρ e2 => h.stop F2 M H σ ρ (e.trans e2)⟩
theorem walks_list {F : Hp} {a : Addr} {vs : List V} {ds : List D} (h : SqL K F a vs) (hd : IsL K F ds vs) : Walks K F (Itl K a) ds where
  go := fun i F' M H σ ρ e r hi => by
    obtain ⟨v, hv, _⟩ := (hd.mono e).at (List.getElem?_eq_getElem hi)
    exact ⟨vs, v, r.le.sqL (e.sqL h), hv⟩
  yld := fun i F' M H σ ρ x H' d e r hi y => by
    obtain ⟨rfl, y⟩ := y
    obtain ⟨v, hv, hd'⟩ := (hd.mono e).at hi
    have := y vs (r.le.sqL (e.sqL h))
    rw [hv] at this
    cases this
    exact ⟨F', Ext.refl F', r, hd'⟩
  stop := fun F' M H σ ρ e r => ⟨vs, r.le.sqL (e.sqL h), by rw [hd.length]; exact Nat.le_refl _⟩
theorem walks_tup {F : Hp} {a : Addr} {vs : List V} {ds : List D} (h : SqT K F a vs) (hd : IsL K F ds vs) : Walks K F (Itt K a) ds where
  go := fun i F' M H σ ρ e r hi => by
    obtain ⟨v, hv, _⟩ := (hd.mono e).at (List.getElem?_eq_getElem hi)
    exact ⟨vs, v, r.le.sqT (e.sqT h), hv⟩
  yld := fun i F' M H σ ρ x H' d e r hi y => by
    obtain ⟨rfl, y⟩ := y
    obtain ⟨v, hv, hd'⟩ := (hd.mono e).at hi
    have := y vs (r.le.sqT (e.sqT h))
    rw [hv] at this
    cases this
    exact ⟨F', Ext.refl F', r, hd'⟩
  stop := fun F' M H σ ρ e r => ⟨vs, r.le.sqT (e.sqT h), by rw [hd.length]; exact Nat.le_refl _⟩
def rangeD (lo : Int) (n : Nat) : List D := (List.range n).map fun (i : Nat) => D.int (lo + (i : Int))
theorem rangeD_len (lo : Int) (n : Nat) : (rangeD lo n).length = n := by
  unfold rangeD
  rw [List.length_map, List.length_range]
theorem rangeD_at {lo : Int} {n i : Nat} {d : D} (h : (rangeD lo n)[i]? = some d) : d = .int (lo + (i : Int)) ∧ i < n := by
  unfold rangeD at h
  rw [List.getElem?_map] at h
  by_cases z : i < n
  · rw [List.getElem?_range z] at h
    cases h
    exact ⟨rfl, z⟩
  · rw [List.getElem?_eq_none (by rw [List.length_range]; omega)] at h
    cases h
theorem walks_range {F : Hp} {lo : Int} {n : Nat} : Walks K F (Itr lo n) (rangeD lo n) where
  go := fun i F' M H σ ρ e r hi => by
    rw [rangeD_len] at hi
    exact hi
  yld := fun i F' M H σ ρ x H' d e r hi y => by
    obtain ⟨rfl, rfl⟩ := y
    obtain ⟨rfl, _⟩ := rangeD_at hi
    exact ⟨F', Ext.refl F', r, rfl⟩
  stop := fun F' M H σ ρ e r => by
    rw [rangeD_len]
    exact Nat.le_refl _
/-- a list, tuple: by value; a list of the store: it is changed no more -/
def thawed (M : Mem) (d : D) (q : List D → Mem → Prop) : Prop := match d with
  | .tup ds => q ds M
  | .lst ds => q ds M
  | .scr ds => q ds M
  | .ntp ds => q ds M
  | .ref a => (match M a with
    | some (.lst ds) => q ds (updM M a (.frz ds))
    | some (.frz ds) => q ds M
    | _ => False)
  | _ => False
def iSeq (t : TED) : TID := fun ρ M q => t ρ M fun d M1 => thawed M1 d q
theorem PIor {tg e : Expr} {te : TE} (h : PE X e te) : PI X tg e (fun σ H Q => te σ H fun x H1 => (∃ a, x = .ref a ∧ (∃ xs, SqL X.K H1 a xs) ∧ Q (Itl X.K a) H1) ∨ ∃ a, x = .ref a ∧ (∃ xs, SqT X.K H1 a xs) ∧ Q (Itt X.K a) H1) := by
  refine ⟨fun pins s σ H Q I h0 => ?_⟩
  refine thn (h.run pins s σ H _ I h0) fun v s1 ⟨x, H1, I1, r1, q1⟩ => ?_
  rcases q1 with q1 | q1
  · have pe : PE X e (tC x) → True := fun _ => trivial
    obtain ⟨a, rfl, ⟨xs, hq⟩, q⟩ := q1
    cases r1
    obtain ⟨its, rv, p, hz⟩ := I1.list hq
    refine wpAny_pyIter_list p.isList ?_
    refine ⟨s1.heap.objs.size, [s1.heap.objs.size], _, _, H1, rfl, I1.kept (t' := s1.toks) fun b o z => Heap.get?_push_of_some _ z, turn_list a _, ⟨_, Heap.get?_push_size _ rfl, rfl, rfl⟩, fun b hb => ?_, q⟩
    rw [List.mem_singleton.mp hb]
    exact I1.fpOk (Nat.le_refl _) (I1.hok.fresh (Nat.le_refl _))
  · obtain ⟨a, rfl, ⟨xs, hq⟩, q⟩ := q1
    cases r1
    obtain ⟨its, rv, p, hz⟩ := I1.tuple hq
    refine wpAny_pyIter_tuple (show s1.heap.IsTuple a its.toArray from p) ?_
    refine ⟨s1.heap.objs.size, [s1.heap.objs.size], _, _, H1, rfl, I1.kept (t' := s1.toks) fun b o z => Heap.get?_push_of_some _ z, turn_tuple a _, ⟨_, Heap.get?_push_size _ rfl, rfl, rfl⟩, fun b hb => ?_, q⟩
    rw [List.mem_singleton.mp hb]
    exact I1.fpOk (Nat.le_refl _) (I1.hok.fresh (Nat.le_refl _))
theorem di_seq {tg e : Expr} {t : TED} (h : DE X W w e t) : DI X W w tg e (iSeq t) :=
  let ⟨_, p, z⟩ := h.ex
  ⟨_, PIor p, fun F M H σ ρ Q q r x h k => z F M H σ ρ _ _ r x h fun d v F1 M1 H1 e1 r1 hd h1 => by
    cases d with
    | tup ds =>
      obtain ⟨a, vs, rfl, a1, a2⟩ := hd
      exact .inr ⟨a, rfl, ⟨vs, r1.le.sqT a1⟩, k _ ds F1 M1 H1 e1 r1 (walks_tup a1 a2) h1⟩
    | ntp ds =>
      obtain ⟨a, vs, rfl, ⟨o, a1, _⟩, a2⟩ := hd
      exact .inr ⟨a, rfl, ⟨vs, .inl (.inr ⟨o, r1.le a _ a1⟩)⟩, k _ ds F1 M1 H1 e1 r1 (walks_tup (.inl (.inr ⟨o, a1⟩)) a2) h1⟩
    | lst ds =>
      obtain ⟨a, vs, rfl, a1, a2⟩ := hd
      exact .inl ⟨a, rfl, ⟨vs, .inl (.inl (r1.le a _ a1))⟩, k _ ds F1 M1 H1 e1 r1 (walks_list (.inl (.inl a1)) a2) h1⟩
    | scr ds =>
      obtain ⟨a, vs, rfl, a1, a2⟩ := hd
      exact .inl ⟨a, rfl, ⟨vs, r1.le.sqL a1⟩, k _ ds F1 M1 H1 e1 r1 (walks_list a1 a2) h1⟩
    | ref a =>
      cases hd
      have h1 : (match M1 a with
        | some (.lst ds) => q ds (updM M1 a (.frz ds))
        | some (.frz ds) => q ds M1
        | _ => False) := h1
      cases y : M1 a with
      | none =>
        rw [y] at h1
        exact h1.elim
      | some o =>
        rw [y] at h1
        cases o with
        | lst ds =>
          obtain ⟨F2, e2, r2, b, vs, hb, b1, b2⟩ := r1.frozen y
          cases hb
          exact .inl ⟨a, rfl, ⟨vs, .inl (.inl (r2.le a _ b1))⟩, k _ ds F2 _ H1 (e1.trans e2) r2 (walks_list (.inl (.inl b1)) b2) h1⟩
        | frz ds =>
          obtain ⟨vs, b1, b2, _⟩ := r1.mem a _ y
          exact .inl ⟨a, rfl, ⟨vs, r1.le.sqL b1⟩, k _ ds F1 _ H1 e1 r1 (walks_list b1 b2) h1⟩
        | _ => exact h1.elim
    | _ => exact h1.elim⟩
def iR1 (t : TAD) : TID := fun ρ M q => t ρ M fun ds M1 => match ds with
  | [.int j] => (-(2 ^ 62) ≤ j ∧ j < 2 ^ 62) ∧ q (rangeD 0 j.toNat) M1
  | _ => False
def iR2 (t : TAD) : TID := fun ρ M q => t ρ M fun ds M1 => match ds with
  | [.int i, .int j] => (-(2 ^ 62) ≤ i ∧ i < 2 ^ 62 ∧ -(2 ^ 62) ≤ j ∧ j < 2 ^ 62) ∧ q (rangeD i (j - i).toNat) M1
  | _ => False
theorem di_range1 {tg a : Expr} {t : TAD} {p pos : Pos} (hg : Gl X "range") (hm : X.mg "range" = none) (ha : DA X W w [a] t) (hs : starEach [a] X.env = [(false, eval a X.env)] := by rfl) : DI X W w tg (.Call (.Name "range" p) [a] [] pos) (iR1 t) :=
  let ⟨_, p, z⟩ := ha.ex
  ⟨_, pi_range1 hg hm p hs, fun F M H σ ρ Q q r x h k => z F M H σ ρ _ _ r x h fun ds vs F1 M1 H1 e1 r1 hd h1 => by
    split at h1
    · rename_i j
      obtain ⟨v, rfl, h2⟩ := hd.one_inv
      exact ⟨j, by rw [show v = .int j from h2], h1.1.1, h1.1.2, k _ _ F1 M1 H1 e1 r1 walks_range h1.2⟩
    · exact h1.elim⟩
theorem di_range2 {tg a b : Expr} {t : TAD} {p pos : Pos} (hg : Gl X "range") (hm : X.mg "range" = none) (ha : DA X W w [a, b] t) (hs : starEach [a, b] X.env = [(false, eval a X.env), (false, eval b X.env)] := by rfl) (hs2 : starEach [b] X.env = [(false, eval b X.env)] := by rfl) :
    DI X W w tg (.Call (.Name "range" p) [a, b] [] pos) (iR2 t) :=
  let ⟨_, p, z⟩ := ha.ex
  ⟨_, pi_range2 hg hm p hs hs2, fun F M H σ ρ Q q r x h k => z F M H σ ρ _ _ r x h fun ds vs F1 M1 H1 e1 r1 hd h1 => by
    split at h1
    · rename_i i j
      obtain ⟨v, u, rfl, h2, h3⟩ := hd.two_inv
      exact ⟨i, j, by rw [show v = .int i from h2, show u = .int j from h3], h1.1, k _ _ F1 M1 H1 e1 r1 walks_range h1.2⟩
    · exact h1.elim⟩

/-! ### for, over the items -/
def forD (g : TGD) (b : TSD) : List D → TSD
  | [] => fun e ρ M => e.nx ρ M
  | d :: ds => fun e ρ M => g d ρ M fun ρ1 M1 => b { e with nx := forD g b ds e, ct := forD g b ds e, bk := e.nx } ρ1 M1
def dFor (t : TID) (g : TGD) (b : TSD) : TSD := fun e ρ M => t ρ M fun ds M1 => forD g b ds e ρ M1
theorem tr_for {wi : TI} {tg : TG} {tb : TS} {t : TID} {g : TGD} {b : TSD} (hi : TrI K W w wi t) (hg : TrG K W w tg g) (hb : TrS K W w tb b) : TrS K W w (tFor wi tg tb) (dFor t g b) := fun F M H σ ρ E e r x l h =>
  hi F M H σ ρ _ _ r x h fun J ds F1 M1 H1 e1 r1 wk h1 => by
    refine ⟨fun i m σ' H' => m + i = ds.length ∧ ∃ F' M' ρ', Ext F1 F' ∧ R K F' M' H' σ' ρ' ∧ forD g b (ds.drop i) e ρ' M', ⟨ds.length, rfl, F1, M1, ρ, Ext.refl F1, r1, by rw [List.drop_zero]; exact h1⟩, fun i m σ' H' ⟨hm, F', M', ρ', e', r', h'⟩ => ?_⟩
    by_cases hlt : i < ds.length
    · refine .inr ⟨wk.go i F' M' H' σ' ρ' e' r' hlt, fun σ2 H2 => ∃ F2 M2 ρ2, Ext F1 F2 ∧ R K F2 M2 H2 σ2 ρ2 ∧ forD g b (ds.drop (i + 1)) e ρ2 M2, fun σ2 H2 z => ⟨m - 1, by omega, by omega, z⟩, fun y H2 hy => ?_⟩
      obtain ⟨F2, e2, r2, hd⟩ := wk.yld i F' M' H' σ' ρ' y H2 ds[i] e' r' (List.getElem?_eq_getElem hlt) hy
      rw [List.drop_eq_getElem_cons hlt] at h'
      have ex : Ext F F2 := (e1.trans e').trans e2
      refine hg F2 M' H2 σ' ρ' _ y _ _ r2 (x.mono ex) hd h' fun F3 M3 H3 σ3 ρ3 e3 r3 h3 => ?_
      have e13 : Ext F1 F3 := (e'.trans e2).trans e3
      exact hb F3 M3 H3 σ3 ρ3 _ { e with nx := forD g b (ds.drop (i + 1)) e, ct := forD g b (ds.drop (i + 1)) e, bk := e.nx } r3 (x.mono (ex.trans e3)) ⟨fun F4 M4 H4 σ4 ρ4 e4 r4 h4 => ⟨F4, M4, ρ4, e13.trans e4, r4, h4⟩, fun F4 M4 H4 σ4 ρ4 e4 r4 h4 => l.nx F4 M4 H4 σ4 ρ4 ((e1.trans e13).trans e4) r4 h4,
        fun F4 M4 H4 σ4 ρ4 e4 r4 h4 => ⟨F4, M4, ρ4, e13.trans e4, r4, h4⟩, fun F4 M4 H4 σ4 ρ4 d v e4 r4 hd4 h4 => l.rt F4 M4 H4 σ4 ρ4 d v ((e1.trans e13).trans e4) r4 hd4 h4⟩ h3
    · have hi' : i = ds.length := by omega
      subst hi'
      rw [List.drop_length] at h'
      exact .inl ⟨wk.stop F' M' H' σ' ρ' e' r', l.nx F' M' H' σ' ρ' (e1.trans e') r' h'⟩
theorem ds_for {tg iter : Expr} {body : List Stmt} {pos : Pos} {t : TID} {g : TGD} {b : TSD} (hp : PassesOwn (model X.prog X.w) X.A X.env X.xe) (hc : X.calm = true) (hi : DI X W w tg iter t) (hg : DG X W w tg g) (hb : DSs X W w body b)
    (hs : ∀ x, foldedSetIterable iter X.env x = pure x := by intro _; rfl) : DS X W w (.For tg iter body [] pos) (dFor t g b) :=
  let ⟨_, p1, z1⟩ := hi.ex
  let ⟨_, p2, z2⟩ := hg.ex
  let ⟨_, p3, z3⟩ := hb.ex
  ⟨_, ps_for hp hc p1 p2 p3 hs, tr_for z1 z2 z3⟩
/-- a loop by what holds between its turns -/
theorem forD_inv {g : TGD} {b : TSD} {e : EndsD} (P : Nat → Env → Mem → Prop) {ds : List D} (hs : ∀ i d ρ M, ds[i]? = some d → P i ρ M → g d ρ M fun ρ1 M1 => b { e with nx := P (i + 1), ct := P (i + 1), bk := e.nx } ρ1 M1) (he : ∀ ρ M, P ds.length ρ M → e.nx ρ M)
    (mono : ∀ d ρ M q q', (∀ ρ M, q ρ M → q' ρ M) → g d ρ M q → g d ρ M q') (mob : ∀ n n' ρ M, (∀ ρ M, n ρ M → n' ρ M) → b { e with nx := n, ct := n, bk := e.nx } ρ M → b { e with nx := n', ct := n', bk := e.nx } ρ M) {ρ : Env} {M : Mem} (h0 : P 0 ρ M) : forD g b ds e ρ M := by
  have key : ∀ (rest : List D) (i : Nat) (ρ : Env) (M : Mem), ds.drop i = rest → i + rest.length = ds.length → P i ρ M → forD g b rest e ρ M := by
    intro rest
    induction rest with
    | nil =>
      intro i ρ M hd hl p
      have : i = ds.length := by simpa using hl
      subst this
      exact he ρ M p
    | cons d rest ih =>
      intro i ρ M hd hl p
      have hi : i < ds.length := by simp at hl; omega
      have hget : ds[i]? = some d := by
        have := congrArg List.head? hd
        rw [List.head?_drop] at this
        exact this
      refine mono _ _ _ _ _ (fun ρ1 M1 h => ?_) (hs i d ρ M hget p)
      refine mob _ _ ρ1 M1 (fun ρ2 M2 p2 => ih (i + 1) ρ2 M2 ?_ (by simp at hl; omega) p2) h
      rw [← List.drop_drop, hd]
      rfl
  exact key ds 0 ρ M (by rw [List.drop_zero]) (by omega) h0

/-! ### while -/
def dWhile (c : TTD) (b : TSD) : TSD := fun e ρ M => ∃ P : Nat → Env → Mem → Prop, (∃ m, P m ρ M) ∧ ∀ m ρ M, P m ρ M →
  c ρ M fun k M1 => sel k (b { e with nx := fun ρ' M' => ∃ m', m' < m ∧ P m' ρ' M', ct := fun ρ' M' => ∃ m', m' < m ∧ P m' ρ' M', bk := e.nx } ρ M1) (e.nx ρ M1)
theorem tr_while {tc : TT} {tb : TS} {c : TTD} {b : TSD} (hc : TrT K W w tc c) (hb : TrS K W w tb b) : TrS K W w (tWhile tc tb) (dWhile c b) := fun F M H σ ρ E e r x l h => by
  obtain ⟨P, ⟨m0, p0⟩, step⟩ := h
  refine ⟨fun m σ' H' => ∃ F' M' ρ', Ext F F' ∧ R K F' M' H' σ' ρ' ∧ P m ρ' M', ⟨m0, F, M, ρ, Ext.refl F, r, p0⟩, fun m σ' H' ⟨F', M', ρ', e', r', p'⟩ => ?_⟩
  refine hc F' M' H' σ' ρ' _ _ r' (x.mono e') (step m ρ' M' p') fun k F1 M1 H1 e1 r1 h1 => ?_
  cases k with
  | true =>
    refine ⟨fun σ2 H2 => ∃ m', m' < m ∧ ∃ F2 M2 ρ2, Ext F F2 ∧ R K F2 M2 H2 σ2 ρ2 ∧ P m' ρ2 M2, fun σ2 H2 z => z, ?_⟩
    have ex := e'.trans e1
    exact hb F1 M1 H1 σ' ρ' _ { e with nx := fun ρ' M' => ∃ m', m' < m ∧ P m' ρ' M', ct := fun ρ' M' => ∃ m', m' < m ∧ P m' ρ' M', bk := e.nx } r1 (x.mono ex) ⟨fun F4 M4 H4 σ4 ρ4 e4 r4 ⟨m', hm, h4⟩ => ⟨m', hm, F4, M4, ρ4, ex.trans e4, r4, h4⟩, fun F4 M4 H4 σ4 ρ4 e4 r4 h4 => l.nx F4 M4 H4 σ4 ρ4 (ex.trans e4) r4 h4,
      fun F4 M4 H4 σ4 ρ4 e4 r4 ⟨m', hm, h4⟩ => ⟨m', hm, F4, M4, ρ4, ex.trans e4, r4, h4⟩, fun F4 M4 H4 σ4 ρ4 d v e4 r4 hd4 h4 => l.rt F4 M4 H4 σ4 ρ4 d v (ex.trans e4) r4 hd4 h4⟩ h1
  | false => exact l.nx F1 M1 H1 σ' ρ' (e'.trans e1) r1 h1
theorem ds_while {c : Expr} {body : List Stmt} {pos : Pos} {t : TTD} {b : TSD} (hp : PassesOwn (model X.prog X.w) X.A X.env X.xe) (hc : DT X W w c t) (hb : DSs X W w body b) : DS X W w (.While c body [] pos) (dWhile t b) :=
  let ⟨_, p1, z1⟩ := hc.ex
  let ⟨_, p2, z2⟩ := hb.ex
  ⟨_, ps_while hp p1 p2, tr_while z1 z2⟩

/-! ### comprehensions -/
def wipeD (ρ : Env) : List Nat → Env
  | [] => ρ
  | v :: vs => (wipeD ρ vs).set v none
theorem EnvOk.unset {F : Hp} : ∀ {ρ : Env} {σ : L2.St} (i : Nat), EnvOk K F ρ σ → EnvOk K F (ρ.set i none) (σ.set i none)
  | [], _, _, h => by
    cases h
    rfl
  | none :: ρ, _, 0, ⟨_, r, h1, h3⟩ => by
    cases h1
    exact ⟨_, _, rfl, h3⟩
  | some e :: ρ, _, 0, ⟨_, r, h1, _, h3⟩ => by
    cases h1
    exact ⟨_, _, rfl, h3⟩
  | none :: ρ, _, i + 1, ⟨o, r, h1, h3⟩ => by
    cases h1
    exact ⟨o, _, rfl, EnvOk.unset i h3⟩
  | some e :: ρ, _, i + 1, ⟨v, r, h1, h2, h3⟩ => by
    cases h1
    exact ⟨v, _, rfl, h2, EnvOk.unset i h3⟩
theorem EnvOk.wiped {F : Hp} {ρ : Env} {σ : L2.St} (h : EnvOk K F ρ σ) : ∀ vs : List Nat, EnvOk K F (wipeD ρ vs) (wipe σ vs)
  | [] => h
  | v :: vs => (EnvOk.wiped h vs).unset v
theorem wipe_set {σ : L2.St} {o : Option V} : ∀ {vs : List Nat} {i : Nat}, i ∈ vs → wipe (σ.set i o) vs = wipe σ vs
  | v :: vs, i, h => by
    show (wipe (σ.set i o) vs).set v none = (wipe σ vs).set v none
    by_cases hm : i ∈ vs
    · rw [wipe_set hm]
    · have hv : i = v := (List.mem_cons.mp h).resolve_right hm
      subst hv
      have key : ∀ (us : List Nat), i ∉ us → wipe (σ.set i o) us = (wipe σ us).set i o := by
        intro us
        induction us with
        | nil => intro _; rfl
        | cons u us ih =>
          intro hu
          have h1 : i ≠ u := fun z => hu (by rw [z]; exact List.mem_cons_self)
          have h2 : i ∉ us := fun z => hu (List.mem_cons_of_mem _ z)
          show (wipe (σ.set i o) us).set u none = ((wipe σ us).set u none).set i o
          rw [ih h2, List.set_comm _ _ h1]
      rw [key vs hm, List.set_set]
theorem wipe_wipe (σ : L2.St) (vs : List Nat) : wipe (wipe σ vs) vs = wipe σ vs := by
  have key : ∀ (us : List Nat), (∀ u ∈ us, u ∈ vs) → wipe (wipe σ us) vs = wipe σ vs := by
    intro us
    induction us with
    | nil => intro _; rfl
    | cons u us ih =>
      intro h
      show wipe ((wipe σ us).set u none) vs = _
      rw [wipe_set (h u List.mem_cons_self), ih fun z hz => h z (List.mem_cons_of_mem _ hz)]
  exact key vs fun _ h => h
/-! the readings that the data's readings give, the same in every context -/
def toE (K : Frg) (W : WX) (w : WD) (td : TED) : TE := fun σ H Q => ∃ F M ρ q, R K F M H σ ρ ∧ LkX K F W w ∧ td ρ M q ∧ ∀ d v F' M' H', Ext F F' → R K F' M' H' σ ρ → Is K F' d v → q d M' → Q v H'
def toT (K : Frg) (W : WX) (w : WD) (td : TTD) : TT := fun σ H Q => ∃ F M ρ q, R K F M H σ ρ ∧ LkX K F W w ∧ td ρ M q ∧ ∀ b F' M' H', Ext F F' → R K F' M' H' σ ρ → q b M' → Q b H'
def toG (K : Frg) (W : WX) (w : WD) (vs : List Nat) (td : TGD) : TG := fun v σ H Q => ∃ F M ρ d q, R K F M H σ ρ ∧ LkX K F W w ∧ Is K F d v ∧ td d ρ M q ∧ ∀ F' M' H' σ' ρ', Ext F F' → R K F' M' H' σ' ρ' → wipe σ' vs = wipe σ vs → q ρ' M' → Q σ' H'
def toGs (K : Frg) (W : WX) (w : WD) (vs : List Nat) (td : TGsD) : TGs := fun us σ H Q => ∃ F M ρ ds q, R K F M H σ ρ ∧ LkX K F W w ∧ IsL K F ds us ∧ td ds ρ M q ∧ ∀ F' M' H' σ' ρ', Ext F F' → R K F' M' H' σ' ρ' → wipe σ' vs = wipe σ vs → q ρ' M' → Q σ' H'
theorem PE.weak {e : Expr} {t t' : TE} (h : PE X e t) (k : ∀ σ H Q, t' σ H Q → t σ H Q) : PE X e t' := ⟨fun pins s σ H Q I z => h.run pins s σ H Q I (k σ H Q z)⟩
theorem PT.weak {e : Expr} {t t' : TT} (h : PT X e t) (k : ∀ σ H Q, t' σ H Q → t σ H Q) : PT X e t' := ⟨fun pins s σ H Q I z => h.run pins s σ H Q I (k σ H Q z)⟩
theorem PG.weak {e : Expr} {t t' : TG} (h : PG X e t) (k : ∀ v σ H Q, t' v σ H Q → t v σ H Q) : PG X e t' := ⟨fun pins s σ H v u Q I r z => h.run pins s σ H v u Q I r (k v σ H Q z)⟩
theorem PGs.weak {e : List Expr} {t t' : TGs} (h : PGs X e t) (k : ∀ v σ H Q, t' v σ H Q → t v σ H Q) : PGs X e t' := ⟨fun pins s σ H v u Q I r z => h.run pins s σ H v u Q I r (k v σ H Q z)⟩
theorem DE.pe {e : Expr} {td : TED} (h : DE X W w e td) : PE X e (toE X.K W w td) :=
  let ⟨_, p, t⟩ := h.ex
  PE.weak p fun σ H Q ⟨F, M, ρ, q, r, x, z, k⟩ => t F M H σ ρ Q q r x z k
theorem DT.pt {e : Expr} {td : TTD} (h : DT X W w e td) : PT X e (toT X.K W w td) :=
  let ⟨_, p, t⟩ := h.ex
  PT.weak p fun σ H Q ⟨F, M, ρ, q, r, x, z, k⟩ => t F M H σ ρ Q q r x z k
theorem tr_toE {td : TED} : TrE K W w (toE K W w td) td := fun F M H σ ρ Q q r x h k => ⟨F, M, ρ, q, r, x, h, k⟩
theorem tr_toT {td : TTD} : TrT K W w (toT K W w td) td := fun F M H σ ρ Q q r x h k => ⟨F, M, ρ, q, r, x, h, k⟩
/-- a comprehension's target, storing its own names alone -/
structure DGo (X : Cx) (W : WX) (w : WD) (vs : List Nat) (tg : Expr) (td : TGD) : Prop where
  pg : PG X tg (toG X.K W w vs td)
structure DGso (X : Cx) (W : WX) (w : WD) (vs : List Nat) (tg : List Expr) (td : TGsD) : Prop where
  pg : PGs X tg (toGs X.K W w vs td)
theorem dgo_name {i : Nat} {x : Str} {pos : Pos} {vs : List Nat} (hN : X.N.Nodup) (hi : X.N[i]? = some x) (hx : Loc X.env.scope x) (hm : i ∈ vs := by decide) (hf : X.fn x = true ∨ X.env.scope.names.lookup x = some .local := by first | exact .inl rfl | exact .inr rfl | assumption) : DGo X W w vs (.Name x pos) (gdName i) :=
  ⟨PG.weak (pg_name hN hi hx hf) fun v σ H Q ⟨F, M, ρ, d, q, r, x, hd, h, k⟩ => k F M H _ _ (Ext.refl F) (r.set i hd) (wipe_set hm) h⟩
theorem dgso_nil {vs : List Nat} : DGso X W w vs [] gdNil := ⟨PGs.weak pgs_nil fun us σ H Q ⟨F, M, ρ, ds, q, r, x, hd, h, k⟩ => by
  cases ds with
  | nil =>
    cases hd
    exact ⟨rfl, k F M H σ ρ (Ext.refl F) r rfl h⟩
  | cons d ds => exact h.elim⟩
theorem dgso_cons {e : Expr} {es : List Expr} {t : TGD} {u : TGsD} {vs : List Nat} (h1 : DGo X W w vs e t) (h2 : DGso X W w vs es u) (hs : (assignEach (e :: es) X.env).map (·.2) = assign e X.env :: (assignEach es X.env).map (·.2) := by rfl) : DGso X W w vs (e :: es) (gdCons t u) :=
  ⟨PGs.weak (pgs_cons h1.pg h2.pg hs) fun us σ H Q ⟨F, M, ρ, ds, q, r, x, hd, h, k⟩ => by
    cases ds with
    | nil => exact h.elim
    | cons d ds =>
      obtain ⟨v, vr, rfl, a1, a2⟩ := hd
      exact ⟨v, vr, rfl, F, M, ρ, d, _, r, x, a1, h, fun F1 M1 H1 σ1 ρ1 e1 r1 w1 q1 => ⟨F1, M1, ρ1, ds, _, r1, x.mono e1, a2.mono e1, q1, fun F2 M2 H2 σ2 ρ2 e2 r2 w2 q2 => k F2 M2 H2 σ2 ρ2 (e1.trans e2) r2 (w2.trans w1) q2⟩⟩⟩
theorem dgo_tup {es : List Expr} {k : Nat} {t : TGsD} {n : Nat} {pos : Pos} {vs : List Nat} (hc : X.calm = true) (h : DGso X W w vs es t) (hn : (assignEach es X.env).length = n := by rfl) (hst : (assignEach es X.env).findIdx? (·.1) = none := by rfl) : DGo X W w vs (.Tuple es k pos) (gdTup n t) :=
  ⟨PG.weak (pg_tup hc h.pg hn hst) fun v σ H Q ⟨F, M, ρ, d, q, r, x, hd, h, k⟩ => by
    cases d with
    | tup ds =>
      obtain ⟨a, us, rfl, h1, h2⟩ := hd
      exact ⟨a, us, rfl, r.le.sqT h1, h2.length.symm.trans h.1, F, M, ρ, ds, q, r, x, h2, h.2, k⟩
    | _ => exact h.elim⟩
/-- the tests of a comprehension -/
structure DTs (X : Cx) (W : WX) (w : WD) (ifs : List Expr) (td : TTD) : Prop where
  pt : PTs X ifs (toT X.K W w td)
def dYes : TTD := fun _ M q => q true M
theorem PTs.weak {e : List Expr} {t t' : TT} (h : PTs X e t) (k : ∀ σ H Q, t' σ H Q → t σ H Q) : PTs X e t' := ⟨fun pins s σ H Q I z => h.run pins s σ H Q I (k σ H Q z)⟩
theorem dts_nil : DTs X W w [] dYes := ⟨PTs.weak pts_nil fun σ H Q ⟨F, M, ρ, q, r, x, h, k⟩ => k true F M H (Ext.refl F) r h⟩
theorem dts_one {c : Expr} {t : TTD} (h : DT X W w c t) : DTs X W w [c] t := ⟨pts_one h.pt⟩

def delM (M : Mem) (a : Addr) : Mem := fun b => if b = a then none else M b
theorem R.drop {F H : Hp} {M : Mem} {σ : L2.St} {ρ : Env} (r : R K F M H σ ρ) (p : Addr) : R K F (delM M p) H σ ρ := ⟨r.le, fun a o h => by
  unfold delM at h
  split at h
  · cases h
  · exact r.mem a o h, r.env⟩
def compD (p : Addr) (g : TGD) (tt : TTD) (te : TED) (ρ : Env) : List D → List D → Mem → (List D → Mem → Prop) → Prop
  | [], acc, M, q => M p = some (.lst acc) ∧ q acc M
  | d :: ds, acc, M, q => g d ρ M fun ρ1 M1 => tt ρ1 M1 fun k M2 => sel k (te ρ1 M2 fun y M3 => (M3 p = some (.lst acc) ∧ acc.length < sizeLine) ∧ compD p g tt te ρ ds (acc ++ [y]) (updM M3 p (.lst (acc ++ [y]))) q) (compD p g tt te ρ ds acc M2 q)
def dLc (new : Bool) (t : TID) (g : TGD) (tt : TTD) (te : TED) (vs : List Nat) : TED := fun ρ M q => t ρ M fun ds M1 => ∀ p, M1 p = none → compD p g tt te (wipeD ρ vs) ds [] (updM M1 p (.lst [])) fun acc M2 => if new = true then q (.ref p) M2 else q (.lst acc) (delM M2 p)
abbrev W0 : WX := fun _ _ _ _ => False
abbrev w0 : WD := fun _ _ _ => False
theorem lkx0 {F : Hp} : LkX K F W0 w0 := fun _ _ _ _ _ _ _ _ _ _ _ z => z
theorem tr_lc (new : Bool) {wi : TI} {t : TID} {g : TGD} {tt : TTD} {te : TED} {vs : List Nat} (hi : TrI K W w wi t) : TrE K W w (tLc wi (toG K W0 w0 vs g) (toT K W0 w0 tt) (toE K W0 w0 te) vs) (dLc new t g tt te vs) := fun F M H σ ρ Q q r x h k =>
  hi F M H σ ρ _ _ r x h fun J ds F1 M1 H1 e1 r1 wk h1 p hp => by
    have fr := r1.free hp
    have r2 : R K F1 (updM M1 p (.lst [])) (upd H1 p (.lst [])) σ ρ := r1.stored (m := .lst []) hp ⟨fr.1, [], upd_same, rfl⟩
    refine ⟨fun i m H' => m + i = ds.length ∧ ∃ F' M' acc, Ext F1 F' ∧ R K F' M' H' σ ρ ∧ compD p g tt te (wipeD ρ vs) (ds.drop i) acc M' fun acc M2 => if new = true then q (.ref p) M2 else q (.lst acc) (delM M2 p),
      ⟨ds.length, rfl, F1, _, [], Ext.refl F1, r2, by rw [List.drop_zero]; exact h1 p fr.2⟩, fun i m H' ⟨hm, F', M', acc, e', r', h'⟩ => ?_⟩
    by_cases hlt : i < ds.length
    · refine .inr ⟨wk.go i F' M' H' σ ρ e' r' hlt, fun H2 => ∃ F2 M2 acc, Ext F1 F2 ∧ R K F2 M2 H2 σ ρ ∧ compD p g tt te (wipeD ρ vs) (ds.drop (i + 1)) acc M2 fun acc M2 => if new = true then q (.ref p) M2 else q (.lst acc) (delM M2 p), fun H2 z => ⟨m - 1, by omega, by omega, z⟩, fun y H2 hy => ?_⟩
      obtain ⟨F2, e2, r2, hd⟩ := wk.yld i F' M' H' σ ρ y H2 ds[i] e' r' (List.getElem?_eq_getElem hlt) hy
      rw [List.drop_eq_getElem_cons hlt] at h'
      refine ⟨F2, M', wipeD ρ vs, _, _, r2.menv (r2.env.wiped vs), lkx0, hd, h', fun F3 M3 H3 σ3 ρ3 e3 r3 hw h3 => ⟨by rw [hw, wipe_wipe], ?_⟩⟩
      refine ⟨F3, M3, ρ3, _, r3, lkx0, h3, fun b F4 M4 H4 e4 r4 h4 => ?_⟩
      have e14 : Ext F1 F4 := ((e'.trans e2).trans e3).trans e4
      have back : ∀ {F5 : Hp} {M5 : Mem} {H5 : Hp}, R K F5 M5 H5 σ3 ρ3 → Ext F1 F5 → R K F5 M5 H5 σ ρ := fun r5 e5 => r5.menv (r1.env.mono e5)
      cases b with
      | true =>
        refine ⟨F4, M4, ρ3, _, r4, lkx0, h4, fun z v F5 M5 H5 e5 r5 hz h5 => ?_⟩
        obtain ⟨⟨hp5, hl⟩, h5⟩ := h5
        obtain ⟨f5, us, hu, hus⟩ := r5.mem p _ hp5
        have ok : MOk K F5 (upd H5 p (.lst (us ++ [v]))) p (.lst (acc ++ [z])) := ⟨f5, us ++ [v], upd_same, hus.append (IsL.one hz)⟩
        have r6 := r5.changed (p := p) (o := .lst (us ++ [v])) (m := .lst (acc ++ [z])) hu f5 (fun _ y => nomatch y) (.inl fun _ _ _ y => nomatch y) ok
        exact ⟨us, hu, by rw [← hus.length]; exact hl, F5, _, acc ++ [z], e14.trans e5, back r6 (e14.trans e5), h5⟩
      | false => exact ⟨F4, M4, acc, e14, back r4 e14, h4⟩
    · have hi' : i = ds.length := by omega
      subst hi'
      rw [List.drop_length] at h'
      refine .inl ⟨wk.stop F' M' H' σ ρ e' r', ?_⟩
      obtain ⟨hp', h'⟩ := h'
      cases new with
      | true => exact k (.ref p) (.ref p) F' M' H' (e1.trans e') r' rfl h'
      | false =>
        obtain ⟨F2, e2, r2, h2⟩ := r'.frozen hp'
        have r3 := r2.drop p
        have ed : delM (updM M' p (.frz acc)) p = delM M' p := by
          funext b
          unfold delM updM
          split <;> rfl
        rw [ed] at r3
        exact k (.lst acc) (.ref p) F2 _ H' ((e1.trans e').trans e2) r3 h2 h'
theorem d_lc (new : Bool) {elt tg iter : Expr} {ifs : List Expr} {scope : Scope} {own : List (Str × Nat)} {pos : Pos} {t : TID} {g : TGD} {tt : TTD} {te : TED} (hc : X.calm = true) (hN : X.N.Nodup) (hi : DI X W w tg iter t) (ok : BlkOk X.N X.env.scope scope own)
    (hg : ∀ (s : Shared) (H : Hp) (C : Addr) (cl : List (Str × Addr)) (fp : List Addr), DGo (X.blk s H scope (compEnvC scope cl C X.env) fp) W0 w0 (own.map (·.2)) tg g) (ht : ∀ (s : Shared) (H : Hp) (C : Addr) (cl : List (Str × Addr)) (fp : List Addr), DTs (X.blk s H scope (compEnvC scope cl C X.env) fp) W0 w0 ifs tt)
    (he : ∀ (s : Shared) (H : Hp) (C : Addr) (cl : List (Str × Addr)) (fp : List Addr), DE (X.blk s H scope (compEnvC scope cl C X.env) fp) W0 w0 elt te) (hs : ∀ x, foldedSetIterable iter X.env x = pure x := by intro _; rfl) :
    DE X W w (.ListComp elt [⟨tg, iter, ifs, 0⟩] scope pos) (dLc new t g tt te (own.map (·.2))) :=
  let ⟨_, p1, z1⟩ := hi.ex
  ⟨_, pe_lc hc hN p1 ok (fun s H C cl fp => (hg s H C cl fp).pg) (fun s H C cl fp => (ht s H C cl fp).pt) (fun s H C cl fp => (he s H C cl fp).pe) hs, tr_lc new z1⟩
theorem ds_setLc (new : Bool) (i : Nat) {y : Str} {py : Pos} {elt tg iter : Expr} {ifs : List Expr} {scope : Scope} {own : List (Str × Nat)} {pos spos : Pos} {t : TID} {g : TGD} {tt : TTD} {te : TED} (hc : X.calm = true) (hN : X.N.Nodup) (hy : X.N[i]? = some y) (hyl : X.env.scope.names.lookup y = some .local)
    (hsw : swapsWith (.ListComp elt [⟨tg, iter, ifs, 0⟩] scope pos) (some (.Name y py)) spos.line X.env = pure true) (hi : DI X W w tg iter t) (ok : BlkOk X.N X.env.scope scope own)
    (hg : ∀ (s : Shared) (H : Hp) (C : Addr) (cl : List (Str × Addr)) (fp : List Addr), DGo (X.blk s H scope (compEnvC scope cl C X.env) fp) W0 w0 (own.map (·.2)) tg g) (ht : ∀ (s : Shared) (H : Hp) (C : Addr) (cl : List (Str × Addr)) (fp : List Addr), DTs (X.blk s H scope (compEnvC scope cl C X.env) fp) W0 w0 ifs tt)
    (he : ∀ (s : Shared) (H : Hp) (C : Addr) (cl : List (Str × Addr)) (fp : List Addr), DE (X.blk s H scope (compEnvC scope cl C X.env) fp) W0 w0 elt te) (hs : ∀ x, foldedSetIterable iter X.env x = pure x := by intro _; rfl) :
    DS X W w (.Assign [.Name y py] (.ListComp elt [⟨tg, iter, ifs, 0⟩] scope pos) spos) (dAsg (dLc new t g tt te (own.map (·.2))) (gdName i)) :=
  let ⟨_, p1, z1⟩ := hi.ex
  ⟨_, ps_setLc hc hN hy hyl hsw p1 ok (fun s H C cl fp => (hg s H C cl fp).pg) (fun s H C cl fp => (ht s H C cl fp).pt) (fun s H C cl fp => (he s H C cl fp).pe) hs, tr_asg (tr_lc new z1) (tr_gname i)⟩
end
end Dn

namespace Dn
open PySem PySem.Spec PyProof.Rows L2
/-! ### what a def promises, over data -/
abbrev SpD := List D → Mem → QD → (XD → Mem → Prop) → Prop
def spD (K : Frg) (S : SpD) : Sp := fun vs H Q E => ∃ F M ds q x, R K F M H [] [] ∧ IsL K F ds vs ∧ S ds M q x ∧ (∀ d v F' M' H', Ext F F' → R K F' M' H' [] [] → Is K F' d v → q d M' → Q v H') ∧
  ∀ c fs a F' M' H', Ext F F' → R K F' M' H' [] [] → XdOk K F' H' a fs → x ⟨c, fs⟩ M' → E c a H'
/-- a def called where nothing is shown (no repr is under way) -/
structure FnG (P : Program) (w : World) (K : Frg) (mg : Str → Option Value) (base : Heap) (k : Nat) (f : Addr) (fd : FuncData) (ps : List Str) (S : SpD) : Prop where
  len : ∀ ds M q x, S ds M q x → ds.length = ps.length
  run : ∀ (A : Around) (outer : List PySem.Env) (s : Shared) (H : Hp) (args : Args) (us : List Value) (vs : List V) (Q : VK) (E : XK), Room k A → A.guards = some [] → Env0 P w K mg base A outer s H → BindsTo s fd args (ps.zip us) → L2.Vals vs us → spD K S vs H Q E →
    codeAny (model P w) A (.call (.ref f) args) (CR (L2.CX P w) outer P w H s Q E) s
theorem FnG.mono {P : Program} {w : World} {K : Frg} {mg : Str → Option Value} {base : Heap} {j k : Nat} {f : Addr} {fd : FuncData} {ps : List Str} {S : SpD} (F : FnG P w K mg base j f fd ps S) (h : j ≤ k) : FnG P w K mg base k f fd ps S :=
  ⟨F.len, fun A outer s H args us vs Q E hr => F.run A outer s H args us vs Q E (hr.mono h)⟩
theorem FnG.imp {P : Program} {w : World} {K : Frg} {mg : Str → Option Value} {base : Heap} {k : Nat} {f : Addr} {fd : FuncData} {ps : List Str} {S S' : SpD} (F : FnG P w K mg base k f fd ps S) (h : ∀ ds M q x, S' ds M q x → S ds M q x) : FnG P w K mg base k f fd ps S' :=
  ⟨fun ds M q x z => F.len ds M q x (h _ _ _ _ z), fun A outer s H args us vs Q E hr hg he hb hv hs => F.run A outer s H args us vs Q E hr hg he hb hv (let ⟨F0, M, ds, q, x, a, b, c, d⟩ := hs
    ⟨F0, M, ds, q, x, a, b, h _ _ _ _ c, d⟩)⟩
def startD (N : List Str) (ds : List D) : Dn.Env := ds.map some ++ List.replicate (N.length - ds.length) none
theorem env_start {K : Frg} {F : Hp} {N : List Str} {ds : List D} {vs : List V} (h : IsL K F ds vs) : EnvOk K F (startD N ds) (L2.start N vs) := by
  unfold startD L2.start
  rw [h.length]
  generalize N.length - vs.length = n
  induction ds generalizing vs with
  | nil =>
    cases h
    induction n with
    | zero => rfl
    | succ n ih => exact ⟨none, _, rfl, ih⟩
  | cons d ds ih =>
    obtain ⟨v, r, rfl, h1, h2⟩ := h
    exact ⟨v, _, rfl, h1, ih h2⟩
/-- the wishes of a def's own body -/
abbrev WB (E : XK) : WX := fun c d _ H => E c d H
abbrev wB (x : XD → Mem → Prop) : WD := fun e _ M => x e M
section
variable {P : Program} {w : World} {K : Frg} {mg : Str → Option Value} {base : Heap}
/-- THE RULE for a def: its body's reading -/
theorem fnG {x qual : Str} {params : Arguments} {body : List Stmt} {scope : Scope} {dvs : List V} {kws : List (Str × V)} {f : Addr} {fd : FuncData} {N ps : List Str} {k : Nat} (FD : FunD K x qual params body scope dvs kws f fd) (S : FnScope N ps scope) (td : (XD → Mem → Prop) → TSD)
    (hbody : ∀ (cdv : Value) (A : Around) (outer : List PySem.Env) (s : Shared) (H : Hp) (E : XK) (y : XD → Mem → Prop), Room k (A.deeper (envOfC qual scope s.heap.objs.size f cdv)) → A.guards = some [] →
      DSs (cxOf (L2.CX P w) P w K mg base N qual scope f cdv A outer s H E) (WB E) (wB y) body (td y)) :
    FnG P w K mg base (k + 1) f fd ps (fun ds M q y => ds.length = ps.length ∧ td y { nx := fun _ M' => q .non M', rt := q } (startD N ds) M) := by
  obtain ⟨oc, od, dV, kV, doc, pm, an, cdv, ct, osl, rfl, lk, hcd, _, _⟩ := FD.ex
  refine ⟨fun ds M q y h => h.1, fun A outer s H args us vs Q E hr hg e0 hb hv hs => ?_⟩
  obtain ⟨F, M, ds, q, y, r, hd, hS, hq, hx⟩ := hs
  have hl : vs.length = ps.length := hd.length.symm.trans hS.1
  refine StX.run_bnd lk hcd S hr e0 (G := fun vs2 H2 => vs2 = vs ∧ H2 = H) (fun A' Ex Q' kk => hb _ _ _ _ (kk s H vs us e0 Un.refl rfl (fun _ _ z => z) hv hl ⟨rfl, rfl⟩)) fun s2 H2 vs2 ⟨e1, e2⟩ hr2 => ?_
  subst e1 e2
  obtain ⟨t, p, z⟩ := (hbody cdv A outer s2 H2 E y hr2 hg).ex
  refine ⟨t, p, z F M H2 _ _ _ { nx := fun _ M' => q .non M', rt := q } (r.menv (env_start hd)) (fun c a σ H' fs ρ F' M' e r' xo h => hx c fs a F' M' H' e (r'.menv rfl) xo h) ?_ hS.2⟩
  exact ⟨fun F' M' H' σ ρ e r' h => hq .non .non F' M' H' e (r'.menv rfl) rfl h, fun _ _ _ _ _ _ _ h => h.elim, fun _ _ _ _ _ _ _ h => h.elim, fun F' M' H' σ ρ d v e r' hd' h => hq d v F' M' H' e (r'.menv rfl) hd' h⟩
end

/-! ### calls -/
section
variable {X : Cx} {W : WX} {wd : WD} {k : Nat} {f : Addr} {fd : FuncData} {ps : List Str} {S : SpD} {dvs : List V} {dds : List D} {us0 : List Value} {x : Str} {p pos : Pos} {e : Expr} {es : List Expr} {td : TAD}
/-- f(..): the arguments, then the defaults -/
def dCall (S : SpD) (dds : List D) (wd : WD) (t : TAD) : TED := fun ρ M q => t ρ M fun ds M1 => S (ds ++ dds) M1 q fun x M2 => wd x ρ M2
/-- the call of a value's reading -/
def tCallG (K : Frg) (S : SpD) (dvs : List V) (W : WX) (t : TA) : TE := fun σ H Q => t σ H fun vs H1 => spD K S (vs ++ dvs) H1 Q fun c a H' => W c a σ H'
theorem run_fnG {pins : List (Addr × Obj)} {σ : L2.St} {H : Hp} {s : Shared} {Q : VK} {us : List Value} {vs : List V} (F : FnG X.prog X.w X.K X.mg X.base k f fd ps S) (hr : Room k X.A) (hgu : X.A.guards = some []) (hb : Binds X.K fd ps us0) (hd : L2.Vals dvs us0) (tk : Takes X W)
    (I : Inv X pins σ H s) (r : L2.Vals vs us) (h : spD X.K S (vs ++ dvs) H Q fun c a H' => W c a σ H') : wpAny (model X.prog X.w) X.A (call (.ref f) us) (EP X pins σ Q) X.xe s := by
  have r2 : L2.Vals (vs ++ dvs) (us ++ us0) := r.append hd
  have hl : (us ++ us0).length = ps.length := by
    obtain ⟨F0, M, ds, q, y, _, hds, hS, _⟩ := h
    rw [← r2.length, ← hds.length]
    exact F.len _ _ _ _ hS
  refine wpAny_call (codeAny_mono (F.run X.A X.stack s H ⟨us, []⟩ (us ++ us0) (vs ++ dvs) Q (fun c a H' => W c a σ H') hr hgu I.env0 (hb s us I.kIn hl) r2 h) fun r s' hq => ?_)
  cases r with
  | error e => exact passAt tk σ pins H s e s' I hq
  | ok fl =>
    cases fl with
    | ret u => exact I.after hq
    | _ => exact False.elim hq
theorem tr_callG {K : Frg} {ta : TA} (hdd : ∀ F, IsL K F dds dvs) (h : TrA K W wd ta td) : TrE K W wd (tCallG K S dvs W ta) (dCall S dds wd td) := fun F M H σ ρ Q q r x z k =>
  h F M H σ ρ _ _ r x z fun ds vs F1 M1 H1 e1 r1 hd z1 => ⟨F1, M1, ds ++ dds, q, _, r1.menv rfl, hd.append (hdd F1), z1, fun d v F' M' H' e' r' hd' h' => k d v F' M' H' (e1.trans e') (r'.menv (r1.env.mono e')) hd' h',
    fun c fs a F' M' H' e' r' xo h' => x c a σ H' fs ρ F' M' (e1.trans e') (r'.menv (r1.env.mono e')) xo h'⟩
theorem d_call (F : FnG X.prog X.w X.K X.mg X.base k f fd ps S) (hr : Room k X.A) (hgu : X.A.guards = some []) (hg : Gl X x) (hm : X.mg x = some (.ref f)) (hk : PySem.W.keepIn X.K (.ref f) = true) (hb : Binds X.K fd ps us0) (hd : L2.Vals dvs us0) (hdd : ∀ F, IsL X.K F dds dvs) (tk : Takes X W)
    (ha : DA X W wd (e :: es) td) (hdb : (x == ("__debug__" : Str)) = false := by decide) (he : starEach (e :: es) X.env = (false, eval e X.env) :: starEach es X.env := by rfl) (hpl : (backTo pos (starEach es X.env)).any (·.1) = false := by rfl) :
    DE X W wd (.Call (.Name x p) (e :: es) [] pos) (dCall S dds wd td) :=
  let ⟨ta, q, t⟩ := ha.ex
  ⟨tCallG X.K S dvs W ta, ⟨fun pins s σ H Q I h => wpAny_Call_Name_kw (ld_glob I hg hm (PySem.W.callWith_K (h₀ := X.base) I.ok.mod.kin hk (thn (q.run pos pins s σ H _ I h) fun us s1 ⟨vs, H1, I1, r, z⟩ => ⟨I1.kIn, run_fnG F hr hgu hb hd tk I1 r z⟩) he hpl) hdb)⟩, tr_callG hdd t⟩
theorem d_call0 (F : FnG X.prog X.w X.K X.mg X.base k f fd ps S) (hr : Room k X.A) (hgu : X.A.guards = some []) (hg : Gl X x) (hm : X.mg x = some (.ref f)) (hk : PySem.W.keepIn X.K (.ref f) = true) (hb : Binds X.K fd ps us0) (hd : L2.Vals dvs us0) (hdd : ∀ F, IsL X.K F dds dvs) (tk : Takes X W)
    (hdb : (x == ("__debug__" : Str)) = false := by decide) : DE X W wd (.Call (.Name x p) [] [] pos) (dCall S dds wd dNil) :=
  ⟨tCallG X.K S dvs W tNil, ⟨fun pins s σ H Q I h => wpAny_Call_Name_kw (ld_glob I hg hm (PySem.W.callWith_K0 I.kIn hk (run_fnG (us := []) F hr hgu hb hd tk I .nil h)) hdb)⟩, tr_callG hdd tr_nil⟩
end

/-! ### the law's own call, and the end -/
theorem isl_ints {K : Frg} {F : Hp} : ∀ ns : List Int, IsL K F (ns.map D.int) (ns.map V.int)
  | [] => rfl
  | n :: ns => ⟨.int n, _, rfl, rfl, isl_ints ns⟩
theorem law_callG {P : Program} {w : World} {K : Frg} {mg mb : Str → Option Value} {k : Nat} {fa a : Addr} {fd : FuncData} {x : Str} {S : SpD} {s : Shared} {vs : List Value} {ns : List Int} (KX : K.In s.heap) (n1 : s.heap.Ns mainGlobals mg) (n2 : s.heap.Ns builtinsNs mb)
    (n3 : ∀ x : Str, x ≠ "__name__" → mb x = bootBuiltins x) (lim : s.heap.NoLimit) (g0 : s.gens = #[]) (ha : s.heap.get? a = some { cls := .type "list", data := .seq vs.toArray }) (hi : IntsAre vs ns) (hl : ns.length ≤ sizeLine) (hr : Room k callerA)
    (FF : ∀ base : Heap, K.In base → base.Ns mainGlobals mg → FnG P w K mg base k fa fd [x] S) (hb : ∀ (s : Shared) (u : Value), BindsTo s fd ⟨[u], []⟩ [(x, u)])
    (hS : S [.scr (ns.map D.int)] (fun _ => none) (fun d _ => d = .bl true) fun _ _ => False) :
    codeAny (model P w) callerA (.call (.ref fa) ⟨[.ref a], []⟩) (fun r s' => r = .ok (.ret (.bool true)) ∧ OldK s.heap s'.heap ∧ s'.os = s.os ∧ AllBare s'.gens) s := by
  have rv := vals_ints hi
  have scriptObj : Obj := { cls := .type "list", data := .seq vs.toArray }
  have main : ∀ H : Hp, (∀ b u, H b = some u → b = a ∧ u = .frz { cls := .type "list", data := .seq vs.toArray } (.lst (ns.map V.int))) → SqL K H a (ns.map V.int) → (H a ≠ none → K.lookup a = none) →
      codeAny (model P w) callerA (.call (.ref fa) ⟨[.ref a], []⟩) (fun r s' => r = .ok (.ret (.bool true)) ∧ OldK s.heap s'.heap ∧ s'.os = s.os ∧ AllBare s'.gens) s := by
    intro H only sq notK
    have hok : HOk P w H s.heap := fun b u q => by
      obtain ⟨rfl, rfl⟩ := only b u q
      exact ⟨ha, by rw [List.length_map]; exact hl, vs, _, rv, ha⟩
    have there : ∀ {b : Addr} {o : Obj}, s.heap.get? b = some o → b ≠ a → (hidT s.heap H).get? b = some o := fun {b o} q nb => hidT_get q (by
      cases z : H b with
      | none => rfl
      | some u => exact absurd (only b u z).1 nb)
    have nsT : ∀ {b : Addr} {m : Str → Option Value}, s.heap.Ns b m → (hidT s.heap H).Ns b m := fun {b m} ⟨o, es, ep, q, d, rest⟩ => ⟨o, es, ep, there q (fun z => by
      subst z
      rw [ha] at q
      cases q
      cases d), d, rest⟩
    have kin : K.In (hidT s.heap H) := fun b o q => by
      by_cases z : b = a
      · subst z
        have hn : H b = none := by
          cases y : H b with
          | none => rfl
          | some u =>
            have := notK (by rw [y]; exact fun z => nomatch z)
            rw [q] at this
            cases this
        exact hidT_get (KX b o q) hn
      · exact there (KX b o q) z
    have md : Mod K mg (hidT s.heap H) := ⟨kin, nsT n1, ⟨mb, nsT n2, n3⟩, by
      obtain ⟨mc, a1, a2⟩ := lim
      exact ⟨mc, nsT a1, a2⟩⟩
    have env0 : Env0 P w K mg (hidT s.heap H) callerA [] s H := ⟨rfl, md, fun b o q => of_hidT q, Nat.le_of_eq (hidT_size _ _), trivial, (fun b hm => nomatch hm), hok, AllBare.of_eq g0⟩
    have sp : spD K S [V.ref a] H (fun v _ => v = .bl true) fun _ _ _ => False := by
      refine ⟨H, fun _ => none, [.scr (ns.map D.int)], fun d _ => d = .bl true, fun _ _ => False, ⟨Ext.refl H, (fun _ _ z => nomatch z), rfl⟩, ⟨.ref a, [], rfl, ⟨a, _, rfl, sq, isl_ints ns⟩, rfl⟩, hS, fun d v F' M' H' _ _ hd hq => ?_, fun _ _ _ _ _ _ _ _ _ z => z⟩
      subst hq
      exact hd
    refine codeAny_mono ((FF _ kin (nsT n1)).run callerA [] s H ⟨[.ref a], []⟩ [.ref a] [.ref a] _ _ hr rfl env0 (hb s (.ref a)) (.cons rfl .nil) sp) fun r s' h => ?_
    cases r with
    | error e =>
      obtain ⟨_, _, _, _, _, _, _, _, _, _, _, _, z⟩ := (show L2.CX P w [] H s _ e s' from h)
      exact z.elim
    | ok fl =>
      cases fl with
      | ret u =>
        obtain ⟨v, H', os, bare, un, hok', rel, q⟩ := (show CE [] P w H s _ u s' from h)
        cases (show v = .bl true from q)
        cases (show u = Value.bool true from rel)
        refine ⟨rfl, OldK.of_keep fun b o q => ?_, os, bare⟩
        cases z : H b with
        | none => exact un.keep b o q z (fun y => nomatch y) (fun y => nomatch y)
        | some u =>
          obtain ⟨rfl, rfl⟩ := only b u z
          obtain ⟨c1, _⟩ := hok b _ z
          obtain ⟨c2, _⟩ := hok' b _ (un.frzs b _ _ z)
          rw [q] at c1
          cases c1
          exact c2
      | _ => exact False.elim h
  cases hk : K.lookup a with
  | some o =>
    have q := KX a o hk
    rw [ha] at q
    cases q
    exact main (fun _ => none) (fun _ _ z => nomatch z) (.inr ⟨_, vs.toArray, _, hk, rfl, rfl, rfl, by rw [List.size_toArray, hi.length]; exact hl, by simpa using rv⟩) fun z => absurd rfl z
  | none =>
    refine main (fun b => if b = a then some (.frz { cls := .type "list", data := .seq vs.toArray } (.lst (ns.map V.int))) else none) (fun b u z => ?_) (.inl (.inr ⟨_, if_pos rfl⟩)) fun _ => hk
    by_cases hb' : b = a
    · rw [if_pos hb'] at z
      cases z
      exact ⟨hb', rfl⟩
    · rw [if_neg hb'] at z
      cases z
/-- what k_head leaves, from the law's reading -/
theorem walkG {l : PySem.W.OpenLaw} {n k : Nat} {q : Program} {loose : List Str} {XP : (Str → Option Value) → Heap → Prop} {YP : World → Heap → Prop} {d : DefRec} {x : Str} (hn : l.most = some n) (hn2 : n ≤ sizeLine) (hdf : d.params.defaults = []) (hr : Room k callerA)
    (FF : ∀ (w : World) (mg : Str → Option Value) (fa : Addr) (h : Heap), YP w h → h.Ns mainGlobals mg → mg d.name = some (.ref fa) →
      ∃ (K : Frg) (fd : FuncData) (S : SpD), K.In h ∧ (∀ (s : Shared) (u : Value), BindsTo s fd ⟨[u], []⟩ [(x, u)]) ∧ (∀ ns : List Int, ns.length ≤ n → S [.scr (ns.map D.int)] (fun _ => none) (fun d _ => d = .bl true) fun _ _ => False) ∧
        ∀ base : Heap, K.In base → base.Ns mainGlobals mg → FnG l.prog w K mg base k fa fd [x] S) :
    PySem.W.WalkO q loose XP YP l.row.toRowW d [] (fun f vs => PySem.call f vs) :=
  Att.attach_call hn hdf fun w s₀ s₁ mg mb fa o pm cd doc a vs ns G Y _ _ _ hmg hobj hints hlen hg => by
    obtain ⟨K, fd, S, KX, hb, hS, hF⟩ := FF w mg fa _ Y G.T.g hmg
    exact law_callG KX G.T.g G.T.b G.T.builtins G.T.nolimit hg hobj hints (Nat.le_trans hlen hn2) hr hF hb (hS ns hlen)
end Dn

namespace Dn
open PySem PySem.Spec PyProof.Rows L2
section
variable {X : Cx} {K : Frg} {W : WX} {wd : WD}
/-! ### methods of built-in types -/
abbrev RMD := D → List D → Mem → QD → Prop
/-- what kind of thing it is -/
def tyD (T : String) (M : Mem) : D → Bool
  | .str _ => T == "str"
  | .lst _ => T == "list"
  | .scr _ => T == "list"
  | .ref a => (match M a with
    | some (.lst _) => T == "list"
    | some (.frz _) => T == "list"
    | _ => false)
  | _ => false
theorem tyD_V {F H : Hp} {M : Mem} {σ : L2.St} {ρ : Dn.Env} {T : String} {d : D} {v : V} (r : R K F M H σ ρ) (h : Is K F d v) (t : tyD T M d = true) : tyV K T v H := by
  cases d with
  | str x =>
    cases h
    exact beq_iff_eq.mp t
  | lst ds =>
    obtain ⟨a, vs, rfl, h1, _⟩ := h
    exact .inl ⟨beq_iff_eq.mp t, vs, .inl (.inl (r.le a _ h1))⟩
  | scr ds =>
    obtain ⟨a, vs, rfl, h1, _⟩ := h
    exact .inl ⟨beq_iff_eq.mp t, vs, r.le.sqL h1⟩
  | ref a =>
    cases h
    unfold tyD at t
    dsimp only at t
    cases z : M a with
    | none =>
      rw [z] at t
      cases t
    | some o =>
      rw [z] at t
      cases o with
      | lst ds =>
        obtain ⟨_, vs, h1, _⟩ := r.mem a _ z
        exact .inl ⟨beq_iff_eq.mp t, vs, .inl (.inl h1)⟩
      | frz ds =>
        obtain ⟨vs, h1, _⟩ := r.mem a _ z
        exact .inl ⟨beq_iff_eq.mp t, vs, r.le.sqL h1⟩
      | _ => cases t
  | _ => cases t
structure DMt (X : Cx) (id : String) (rd : RMD) : Prop where
  ex : ∃ r, MtR X id r ∧ ∀ (F : Hp) (M : Mem) (H : Hp) (σ : L2.St) (ρ : Dn.Env) (d : D) (v : V) (ds : List D) (vs : List V) (Q : VK) (q : QD), R X.K F M H σ ρ → Is X.K F d v → IsL X.K F ds vs → rd d ds M q →
    (∀ c v F' M' H', Ext F F' → R X.K F' M' H' σ ρ → Is X.K F' c v → q c M' → Q v H') → r v vs H Q
def dBM (T : String) (rd : RMD) (o : TED) (t : TAD) : TED := fun ρ M q => o ρ M fun d M1 => tyD T M1 d = true ∧ t ρ M1 fun ds M2 => rd d ds M2 q
def dBM0 (T : String) (rd : RMD) (o : TED) : TED := fun ρ M q => o ρ M fun d M1 => tyD T M1 d = true ∧ rd d [] M1 q
section
variable {o e : Expr} {es : List Expr} {od : TED} {td : TAD} {name : Str} {apos cpos : Pos} {T id : String} {rd : RMD}
theorem d_bm (pa : PlainAttrs T) (slot : Slot T name id) (hty : typeOf (.builtin id) = pure (.type "method_descriptor")) (hm : DMt X id rd) (ho : DE X W wd o od) (ha : DA X W wd (e :: es) td) (hbase : attributeBase o name X.env (eval o X.env) = eval o X.env := by rfl)
    (hfew : ((backTo cpos (starEach (e :: es) X.env)).all (fun x => !x.1) && (backToKw cpos (keywordEach [] X.env)).all (fun x => x.1.isSome)
      && decide ((e :: es).length + ([] : List Keyword).length + (if ([] : List Keyword).isEmpty then 0 else 1) < 30)) = true := by rfl)
    (hline : (apos.endLine == cpos.line) = true := by rfl) (hs : starEach (e :: es) X.env = (false, eval e X.env) :: starEach es X.env := by rfl) (hplain : (backTo cpos (starEach es X.env)).any (·.1) = false := by rfl) :
    DE X W wd (.Call (.Attribute o name apos) (e :: es) [] cpos) (dBM T rd od td) :=
  let ⟨_, p, z⟩ := hm.ex
  let ⟨_, p1, z1⟩ := ho.ex
  let ⟨_, p2, z2⟩ := ha.ex
  ⟨_, pe_bm pa slot hty p p1 p2 hbase hfew hline hs hplain, fun F M H σ ρ Q q r x h k => z1 F M H σ ρ _ _ r x h fun d v F1 M1 H1 e1 r1 hd h1 => ⟨tyD_V r1 hd h1.1, z2 F1 M1 H1 σ ρ _ _ r1 (x.mono e1) h1.2 fun ds vs F2 M2 H2 e2 r2 hds h2 =>
    z F2 M2 H2 σ ρ d v ds vs Q q r2 (Is.mono e2 d v hd) hds h2 fun c u F3 M3 H3 e3 r3 hc h3 => k c u F3 M3 H3 ((e1.trans e2).trans e3) r3 hc h3⟩⟩
theorem d_bm0 (pa : PlainAttrs T) (slot : Slot T name id) (hty : typeOf (.builtin id) = pure (.type "method_descriptor")) (hm : DMt X id rd) (ho : DE X W wd o od) (hbase : attributeBase o name X.env (eval o X.env) = eval o X.env := by rfl) (hline : (apos.endLine == cpos.line) = true := by rfl) :
    DE X W wd (.Call (.Attribute o name apos) [] [] cpos) (dBM0 T rd od) :=
  let ⟨_, p, z⟩ := hm.ex
  let ⟨_, p1, z1⟩ := ho.ex
  ⟨_, pe_bm0 pa slot hty p p1 hbase hline, fun F M H σ ρ Q q r x h k => z1 F M H σ ρ _ _ r x h fun d v F1 M1 H1 e1 r1 hd h1 => ⟨tyD_V r1 hd h1.1,
    z F1 M1 H1 σ ρ d v [] [] Q q r1 hd rfl h1.2 fun c u F3 M3 H3 e3 r3 hc h3 => k c u F3 M3 H3 (e1.trans e3) r3 hc h3⟩⟩
end
/-- a list of the store is written -/
theorem R.wrote {F H : Hp} {M : Mem} {σ : L2.St} {ρ : Dn.Env} (r : R K F M H σ ρ) {a : Addr} {ds es : List D} {us : List V} (h : M a = some (.lst ds)) (he : IsL K F es us) : R K F (updM M a (.lst es)) (upd H a (.lst us)) σ ρ := by
  obtain ⟨h0, vs, h1, _⟩ := r.mem a _ h
  exact r.changed h1 h0 (fun _ z => nomatch z) (.inl fun _ _ _ z => nomatch z) ⟨h0, us, upd_same, he⟩
/-- a method that changes a list of the store: f gives the list behind it and the answer -/
def rmL (f : List D → List D → Mem → (D → List D → Prop) → Prop) : RMD := fun d ds M q => match d with
  | .ref a => (match M a with
    | some (.lst xs) => f xs ds M fun c ys => q c (updM M a (.lst ys))
    | _ => False)
  | _ => False
def fApp : List D → List D → Mem → (D → List D → Prop) → Prop := fun xs ds _ q => match ds with
  | [y] => xs.length < sizeLine ∧ q .non (xs ++ [y])
  | _ => False
theorem rmL_inv {f : List D → List D → Mem → (D → List D → Prop) → Prop} {d : D} {ds : List D} {M : Mem} {q : QD} (h : rmL f d ds M q) : ∃ a xs, d = .ref a ∧ M a = some (.lst xs) ∧ f xs ds M fun c ys => q c (updM M a (.lst ys)) := by
  unfold rmL at h
  split at h
  · rename_i a
    split at h
    · rename_i xs hx
      exact ⟨a, xs, rfl, hx, h⟩
    · exact h.elim
  · exact h.elim
theorem dm_append : DMt X "list.append" (rmL fApp) := ⟨_, mt_append, fun F M H σ ρ d v ds vs Q q r hd hds h k => by
  obtain ⟨a, xs, rfl, hx, h⟩ := rmL_inv h
  unfold fApp at h
  split at h
  · rename_i y
    obtain ⟨u, rfl, hu⟩ := hds.one_inv
    obtain ⟨h0, us, h1, h2⟩ := r.mem a _ hx
    exact ⟨a, us, u, hd, rfl, h1, by rw [← h2.length]; exact h.1, k .non .non F _ _ (Ext.refl F) (r.wrote hx (h2.append (IsL.one hu))) rfl h.2⟩
  · exact h.elim⟩
def fPop : List D → List D → Mem → (D → List D → Prop) → Prop := fun xs ds _ q => match ds with
  | [] => (match xs[xs.length - 1]? with
    | some y => q y xs.dropLast
    | none => False)
  | _ => False
theorem IsL.dropLast {F : Hp} {ds : List D} {vs : List V} (h : IsL K F ds vs) : IsL K F ds.dropLast vs.dropLast := by
  rw [List.dropLast_eq_take, List.dropLast_eq_take, h.length]
  exact h.take _
theorem dm_pop : DMt X "list.pop" (rmL fPop) := ⟨_, mt_pop, fun F M H σ ρ d v ds vs Q q r hd hds h k => by
  obtain ⟨a, xs, rfl, hx, h⟩ := rmL_inv h
  unfold fPop at h
  split at h
  · split at h
    · rename_i y hy
      cases hds
      obtain ⟨h0, us, h1, h2⟩ := r.mem a _ hx
      obtain ⟨u, a1, a2⟩ := h2.at hy
      rw [h2.length] at a1
      exact ⟨a, us, u, hd, rfl, h1, a1, k y u F _ _ (Ext.refl F) (r.wrote hx h2.dropLast) a2 h⟩
    · exact h.elim
  · exact h.elim⟩
def fPopAt : List D → List D → Mem → (D → List D → Prop) → Prop := fun xs ds _ q => match ds with
  | [.int i] => (0 ≤ i ∧ i < xs.length ∧ i < 2 ^ 62) ∧ (match xs[i.toNat]? with
    | some y => q y (xs.eraseIdx i.toNat)
    | none => False)
  | _ => False
theorem fPopAt_inv {xs ds : List D} {M : Mem} {q : D → List D → Prop} (h : fPopAt xs ds M q) : ∃ i y, ds = [.int i] ∧ (0 ≤ i ∧ i < xs.length ∧ i < 2 ^ 62) ∧ xs[i.toNat]? = some y ∧ q y (xs.eraseIdx i.toNat) := by
  unfold fPopAt at h
  split at h
  · obtain ⟨c, h⟩ := h
    split at h
    · exact ⟨_, _, rfl, c, by assumption, h⟩
    · exact h.elim
  · exact h.elim
theorem IsL.eraseIdx {F : Hp} {ds : List D} {vs : List V} (h : IsL K F ds vs) (n : Nat) : IsL K F (ds.eraseIdx n) (vs.eraseIdx n) := by
  rw [List.eraseIdx_eq_take_drop_succ, List.eraseIdx_eq_take_drop_succ]
  exact (h.take _).append (h.drop _)
theorem dm_popAt : DMt X "list.pop" (rmL fPopAt) := ⟨_, mt_popAt, fun F M H σ ρ d v ds vs Q q r hd hds h k => by
  obtain ⟨a, xs, rfl, hx, h⟩ := rmL_inv h
  obtain ⟨i, y, rfl, ⟨c1, c2, c3⟩, hy, h⟩ := fPopAt_inv h
  obtain ⟨u, rfl, hu⟩ := hds.one_inv
  obtain ⟨h0, us, h1, h2⟩ := r.mem a _ hx
  obtain ⟨t, a1, a2⟩ := h2.at hy
  refine ⟨a, us, i, i.toNat, t, hd, by rw [show u = .int i from hu], h1, by omega, by omega, ?_, a1, k y t F _ _ (Ext.refl F) (r.wrote hx (h2.eraseIdx _)) a2 h⟩
  have e1 : (if i < 0 then i + (us.length : Int) else i) = i := if_neg (by omega)
  show (if (decide (0 ≤ (if i < 0 then i + (us.length : Int) else i)) && decide ((if i < 0 then i + (us.length : Int) else i) < (us.length : Int))) = true then some (if i < 0 then i + (us.length : Int) else i).toNat else none) = some i.toNat
  rw [e1, decide_eq_true c1, decide_eq_true (by rw [← h2.length]; exact c2)]
  rfl⟩
def fPop1 : List D → List D → Mem → (D → List D → Prop) → Prop := fun xs ds M q => match ds with
  | [] => fPop xs [] M q
  | ds => fPopAt xs ds M q
def fInsert : List D → List D → Mem → (D → List D → Prop) → Prop := fun xs ds _ q => match ds with
  | [.int i, y] => (0 ≤ i ∧ i < 2 ^ 62 ∧ xs.length < sizeLine) ∧ q .non (xs.take i.toNat ++ [y] ++ xs.drop i.toNat)
  | _ => False
theorem dm_insert : DMt X "list.insert" (rmL fInsert) := ⟨_, mt_insert, fun F M H σ ρ d v ds vs Q q r hd hds h k => by
  obtain ⟨a, xs, rfl, hx, h⟩ := rmL_inv h
  unfold fInsert at h
  split at h
  · rename_i i y _
    obtain ⟨u, t, rfl, hu, ht⟩ := hds.two_inv
    obtain ⟨h0, us, h1, h2⟩ := r.mem a _ hx
    exact ⟨a, us, i, t, hd, by rw [show u = .int i from hu], h1, by rw [← h2.length]; exact h.1.2.2, h.1.1, by have := h.1.2.1; omega, k .non .non F _ _ (Ext.refl F) (r.wrote hx (((h2.take _).append (IsL.one ht)).append (h2.drop _))) rfl h.2⟩
  · exact h.elim⟩
def fClear : List D → List D → Mem → (D → List D → Prop) → Prop := fun xs ds _ q => match ds with
  | [] => q .non []
  | _ => False
theorem dm_clear : DMt X "list.clear" (rmL fClear) := ⟨_, mt_clear, fun F M H σ ρ d v ds vs Q q r hd hds h k => by
  obtain ⟨a, xs, rfl, hx, h⟩ := rmL_inv h
  unfold fClear at h
  split at h
  · cases hds
    obtain ⟨h0, us, h1, h2⟩ := r.mem a _ hx
    exact ⟨a, us, hd, rfl, h1, k .non .non F _ _ (Ext.refl F) (r.wrote hx (show IsL X.K F [] [] from rfl)) rfl h⟩
  · exact h.elim⟩
/-- xs.extend(ys), ys a list that stands by itself -/
def fExt : List D → List D → Mem → (D → List D → Prop) → Prop := fun xs ds M q => match ds with
  | [d] => (match seqW M d with
    | some ys => xs.length + ys.length ≤ sizeLine ∧ q .non (xs ++ ys)
    | none => False)
  | _ => False
theorem dm_extend : DMt X "list.extend" (rmL fExt) := ⟨_, mt_extend, fun F M H σ ρ d v ds vs Q q r hd hds h k => by
  obtain ⟨a, xs, rfl, hx, h⟩ := rmL_inv h
  unfold fExt at h
  split at h
  · split at h
    · rename_i ys hy
      obtain ⟨u, rfl, hu⟩ := hds.one_inv
      obtain ⟨h0, us, h1, h2⟩ := r.mem a _ hx
      obtain ⟨b, zs, rfl, b1, b2⟩ := r.seqW hu hy
      exact ⟨a, b, us, zs, hd, rfl, h1, b1, by rw [← h2.length, ← b2.length]; exact h.1, k .non .non F _ _ (Ext.refl F) (r.wrote hx (h2.append b2)) rfl h.2⟩
    · exact h.elim
  · exact h.elim⟩

/-! ### stores: xs[i] = e; x += e -/
abbrev TSetD := D → D → D → Mem → (Mem → Prop) → Prop
structure DSet (X : Cx) (rd : TSetD) : Prop where
  ex : ∃ t, PSet X t ∧ ∀ (F : Hp) (M : Mem) (H : Hp) (σ : L2.St) (ρ : Dn.Env) (o i d : D) (ov iv v : V) (Q : Hp → Prop) (q : Mem → Prop), R X.K F M H σ ρ → Is X.K F o ov → Is X.K F i iv → Is X.K F d v → rd o i d M q →
    (∀ F' M' H', Ext F F' → R X.K F' M' H' σ ρ → q M' → Q H') → t ov iv v H Q
def rsL : TSetD := fun o i d M q => match o, i with
  | .ref a, .int j => (match M a with
    | some (.lst xs) => (match ixN xs.length j with
      | some n => q (updM M a (.lst (xs.set n d)))
      | none => False)
    | _ => False)
  | _, _ => False
theorem rsL_inv {o i d : D} {M : Mem} {q : Mem → Prop} (h : rsL o i d M q) : ∃ a j xs n, o = .ref a ∧ i = .int j ∧ M a = some (.lst xs) ∧ ixN xs.length j = some n ∧ q (updM M a (.lst (xs.set n d))) := by
  unfold rsL at h
  split at h
  · split at h
    · split at h
      · exact ⟨_, _, _, _, rfl, rfl, by assumption, by assumption, h⟩
      · exact h.elim
    · exact h.elim
  · exact h.elim
theorem dset_list : DSet X rsL := ⟨_, set_list, fun F M H σ ρ o i d ov iv v Q q r ho hi hd h k => by
  obtain ⟨a, j, xs, n, rfl, rfl, hx, hn, h⟩ := rsL_inv h
  obtain ⟨h0, us, h1, h2⟩ := r.mem a _ hx
  exact ⟨a, us, j, n, ho, hi, h1, by rw [← h2.length]; exact hn, k F _ _ (Ext.refl F) (r.wrote hx (h2.set n hd)) h⟩⟩
def gdSub (o i : TED) (t : TSetD) : TGD := fun d ρ M q => o ρ M fun a M1 => i ρ M1 fun j M2 => t a j d M2 fun M3 => q ρ M3
theorem dg_sub {o i : Expr} {od id_ : TED} {rd : TSetD} {pos : Pos} (ho : DE X W wd o od) (hi : DE X W wd i id_) (hs : DSet X rd)
    (ha : ∀ v, assign (.Subscript o i pos) X.env v = (do
      let ov ← holding [v] (eval o X.env)
      let iv ← holding [v, ov] (eval i X.env)
      standAt pos
      holding [v, ov, iv] (setItem ov iv v)
      release [v, ov, iv] []) := by intro _; rfl) : DG X W wd (.Subscript o i pos) (gdSub od id_ rd) :=
  let ⟨_, p1, z1⟩ := ho.ex
  let ⟨_, p2, z2⟩ := hi.ex
  let ⟨_, p3, z3⟩ := hs.ex
  ⟨_, pg_sub p1 p2 p3 ha, fun F M H σ ρ d v Q q r x hd h k => z1 F M H σ ρ _ _ r x h fun a ov F1 M1 H1 e1 r1 h1' h1 => z2 F1 M1 H1 σ ρ _ _ r1 (x.mono e1) h1 fun j iv F2 M2 H2 e2 r2 h2' h2 =>
    z3 F2 M2 H2 σ ρ a j d ov iv v _ _ r2 (Is.mono e2 a ov h1') h2' (Is.mono (e1.trans e2) d v hd) h2 fun F3 M3 H3 e3 r3 h3 => k F3 M3 H3 σ ρ ((e1.trans e2).trans e3) r3 h3⟩
structure DIp (X : Cx) (op : Operator) (rd : RD2) : Prop where
  ex : ∃ t, PIp X op t ∧ TrR X.K t rd
def dAug (i : Nat) (t : TED) (rd : RD2) : TSD := fun e ρ M => match ρ[i]? with
  | some (some d) => t ρ M fun c M1 => rd d c M1 fun z M2 => e.nx (ρ.set i (some z)) M2
  | _ => False
theorem ds_aug (i : Nat) {x : Str} {e : Expr} {op : Operator} {pos pos' : Pos} {td : TED} {rd : RD2} (hN : X.N.Nodup) (hi : X.N[i]? = some x) (hx : Loc X.env.scope x) (he : DE X W wd e td) (ho : DIp X op rd)
    (hf : X.fn x = true ∨ X.env.scope.names.lookup x = some .local := by first | exact .inl rfl | exact .inr rfl | assumption) : DS X W wd (.AugAssign (.Name x pos') op e pos) (dAug i td rd) :=
  let ⟨_, p, z⟩ := he.ex
  let ⟨_, p2, z2⟩ := ho.ex
  ⟨_, ps_aug hN hi hx p p2 hf, fun F M H σ ρ E en r x l h => by
    unfold dAug at h
    split at h
    · rename_i d hd
      obtain ⟨v, hv, a1⟩ := r.env.at hd
      exact ⟨v, hv, z F M H σ ρ _ _ r x h fun c u F1 M1 H1 e1 r1 hc h1 => z2 F1 M1 H1 σ ρ d c v u _ _ r1 (Is.mono e1 d v a1) hc h1 fun g t F2 M2 H2 e2 r2 hg h2 => l.nx F2 M2 H2 _ _ (e1.trans e2) (r2.set i hg) h2⟩
    · exact h.elim⟩
theorem ipR {op : Operator} {r : R2} (h : OpR X (inplaceOp op) r) : PIp X op (fun x y H Q => r x y H Q) := fun pins s σ H x y v u Q I rx ry q => h pins s σ H x y v u Q I rx ry q
theorem ip_addD : DIp X .Add (rdI0 fun i j => .int (i + j)) := ⟨_, ipR iop_add, tr_rI0 fun _ _ _ => rfl⟩
theorem ip_subD : DIp X .Sub (rdI0 fun i j => .int (i - j)) := ⟨_, ipR iop_sub, tr_rI0 fun _ _ _ => rfl⟩
theorem ip_mulD : DIp X .Mult (rdI CMul fun i j => .int (i * j)) := ⟨_, ipR iop_mul, tr_rI fun _ _ _ => rfl⟩

/-! ### star in displays and targets -/
def dStar (t : TED) (r : TAD) : TAD := fun ρ M q => t ρ M fun d M1 => match anySeq M1 d with
  | some xs => r ρ M1 fun ys M2 => q (xs ++ ys) M2
  | none => False
theorem da_star {e : Expr} {es : List Expr} {p : Pos} {t : TED} {tr : TAD} (he : DE X W wd e t) (hr : DA X W wd es tr) (hs : starEach (.Starred e p :: es) X.env = (true, eval e X.env) :: starEach es X.env := by rfl) : DA X W wd (.Starred e p :: es) (dStar t tr) :=
  let ⟨_, p1, z1⟩ := he.ex
  let ⟨_, p2, z2⟩ := hr.ex
  ⟨_, StX.pa_star p1 p2 hs, fun F M H σ ρ Q q r x h k => z1 F M H σ ρ _ _ r x h fun d v F1 M1 H1 e1 r1 hd h1 => by
    cases y : anySeq M1 d with
    | none =>
      rw [y] at h1
      exact h1.elim
    | some ds =>
      rw [y] at h1
      obtain ⟨a, vs, rfl, b1, b2⟩ := anySeq_inv r1 hd y
      exact ⟨a, vs, rfl, b1, z2 F1 M1 H1 σ ρ _ _ r1 (x.mono e1) h1 fun ys us F2 M2 H2 e2 r2 hy h2 => k (ds ++ ys) (vs ++ us) F2 M2 H2 (e1.trans e2) r2 ((b2.mono e2).append hy) h2⟩⟩
/-- unpacking with a star: the items ahead, a new list, the items behind -/
theorem star_run {pins : List (Addr × Obj)} {σ : L2.St} {H : Hp} {s : Shared} {a : Addr} {xs : List V} {i n : Nat} {E : Value → Shared → Prop} {Q : List Value → Shared → Prop} (I : Inv X pins σ H s) (hc : X.calm = true) (hx : SqT X.K H a xs ∨ SqL X.K H a xs) (hi : i < n) (hn : n ≤ xs.length + 1)
    (hQ : ∀ us D0 s', H D0 = none → Inv X pins σ (upd H D0 (.lst ((xs.drop i).take (xs.length + 1 - n)))) s' → L2.Vals (xs.take i ++ [.ref D0] ++ (xs.drop i).drop (xs.length + 1 - n)) us → Q us s') : wpAny (model X.prog X.w) X.A (unpackItems (.ref a) n (some i)) Q E s := by
  have hd0 := I.ok.hd hc
  have tail : ∀ (its : List Value) (h2 : Heap) (tk : Nat), L2.Vals xs its → its.length ≤ sizeLine → (∀ b o, s.heap.get? b = some o → h2.get? b = some o) →
      wpAny (model X.prog X.w) X.A (newList ((its.drop i).take (xs.length + 1 - n)) >>= fun d => pure (its.take i ++ [d] ++ (its.drop i).drop (xs.length + 1 - n))) Q E { s with heap := h2, toks := tk } := by
    intro its h2 tk rv hz kp
    have hl := rv.length
    have J : Inv X pins σ H { s with heap := h2, toks := tk } := I.kept kp
    have hm : L2.Vals ((xs.drop i).take (xs.length + 1 - n)) ((its.drop i).take (xs.length + 1 - n)) := (rv.drop i).take _
    have hml : ((xs.drop i).take (xs.length + 1 - n)).length ≤ sizeLine := by
      have : ((xs.drop i).take (xs.length + 1 - n)).length ≤ (xs.drop i).length := List.length_take_le' _ _
      rw [List.length_drop] at this
      omega
    refine wpAny_bind (wpAny_newList (wpAny_pure ?_) ?_)
    · exact hQ _ _ _ J.fresh (J.lnew (t' := tk) hm hml) (((rv.take i).append (.cons (show RelV (.ref h2.objs.size) (.ref h2.objs.size) from rfl) .nil)).append ((rv.drop i).drop _))
    · rw [← hm.length]
      exact hml
  unfold unpackItems notIterableAtAll
  rcases hx with hx | hx
  · obtain ⟨its, rv, pl, hz⟩ := I.tuple hx
    have hl := rv.length
    have ne : a ≠ s.heap.objs.size := by
      obtain ⟨o, ho, _⟩ := pl
      exact Nat.ne_of_lt (Heap.lt_size ho)
    refine wpAny_bind (wpAny_bind (wpAny_specialOf pl.typeIs slot_tuple_iter.lookup (wpAny_pure ?_)))
    rw [if_neg Bool.false_ne_true]
    refine wpAny_bind (wpAny_holding (iter_tuple pl ?_))
    refine wpAny_bind (wpAny_holding (draw_tuple ne i 0 _ _ ⟨_, Heap.get?_push_size _ rfl, rfl, rfl⟩ (pl.push _) (by simp only [List.size_toArray]; omega) fun h1 it1 sb1 => ?_))
    have pl1 := (pl.push { cls := .type "tuple_iterator", data := .fields #[.ref a, .int 0 0] }).extBut sb1.extBut ne
    rw [Nat.zero_add] at it1
    have it1' := it1
    obtain ⟨oi, hoi, _⟩ := it1'
    have pl1' := pl1
    obtain ⟨ol, hol, _⟩ := pl1'
    rw [List.drop_zero, if_neg (by rw [List.length_take, show its.toArray.toList = its from rfl]; omega)]
    refine wpAny_bind (wpAny_holding (PySem.W.kun_collect (s := { s with heap := h1 }) (T := "tuple_iterator") (.inr (.inr (.inr rfl))) (Walks.tuple (A := X.A.in1) hd0 s.heap.objs.size a ne its.toArray) (fun j u st => st.1.typeIs) (k := i) (by simp only [List.size_toArray]; omega) ⟨it1, pl1⟩ (Heap.lt_size hoi) (Heap.lt_size hol) (fun h2 tk hk => ?_) (by simp only [List.size_toArray]; omega)))
    have e1 : (its.drop i).length = its.length - i := List.length_drop ..
    have e2 : (its.drop i).length - (n - 1 - i) = xs.length + 1 - n := by omega
    show wpAny _ _ (if (its.drop i).length < n - 1 - i then _ else _) _ _ _
    rw [if_neg (by omega)]
    show wpAny _ _ (newList ((its.drop i).take ((its.drop i).length - (n - 1 - i))) >>= fun d => pure (its.take i ++ [d] ++ (its.drop i).drop ((its.drop i).length - (n - 1 - i)))) _ _ _
    rw [e2]
    exact tail its h2 tk rv (by omega) fun b o q => hk b o (Nat.ne_of_lt (Heap.lt_size q)) (sb1.extBut b o (Nat.ne_of_lt (Heap.lt_size q)) (Heap.get?_push_of_some _ q))
  · obtain ⟨its, rv, pl0, hz⟩ := I.list hx
    have pl := pl0.isList
    have hl := rv.length
    have ne : a ≠ s.heap.objs.size := by
      obtain ⟨o, ho, _⟩ := pl
      exact Nat.ne_of_lt (Heap.lt_size ho)
    refine wpAny_bind (wpAny_bind (wpAny_specialOf pl.typeIs slot_list_iter.lookup (wpAny_pure ?_)))
    rw [if_neg Bool.false_ne_true]
    refine wpAny_bind (wpAny_holding (wpAny_pyIter_list pl ?_))
    refine wpAny_bind (wpAny_holding (PySem.W.kun_draw ne i 0 _ _ ⟨_, Heap.get?_push_size _ rfl, rfl, rfl⟩ (pl.push _) (by simp only [List.size_toArray]; omega) fun h1 it1 sb1 => ?_))
    have pl1 := (pl.push { cls := .type "list_iterator", data := .fields #[.ref a, .int 0 0] }).extBut sb1.extBut ne
    rw [Nat.zero_add] at it1
    have it1' := it1
    obtain ⟨oi, hoi, _⟩ := it1'
    have pl1' := pl1
    obtain ⟨ol, hol, _⟩ := pl1'
    rw [List.drop_zero, if_neg (by rw [List.length_take, show its.toArray.toList = its from rfl]; omega)]
    refine wpAny_bind (wpAny_holding (PySem.W.kun_collect (s := { s with heap := h1 }) (T := "list_iterator") (.inr (.inr (.inl rfl))) (Walks.list (A := X.A.in1) hd0 s.heap.objs.size a ne its.toArray) (fun j u st => st.1.typeIs) (k := i) (by simp only [List.size_toArray]; omega) ⟨it1, pl1⟩ (Heap.lt_size hoi) (Heap.lt_size hol) (fun h2 tk hk => ?_) (by simp only [List.size_toArray]; omega)))
    have e1 : (its.drop i).length = its.length - i := List.length_drop ..
    have e2 : (its.drop i).length - (n - 1 - i) = xs.length + 1 - n := by omega
    show wpAny _ _ (if (its.drop i).length < n - 1 - i then _ else _) _ _ _
    rw [if_neg (by omega)]
    show wpAny _ _ (newList ((its.drop i).take ((its.drop i).length - (n - 1 - i))) >>= fun d => pure (its.take i ++ [d] ++ (its.drop i).drop ((its.drop i).length - (n - 1 - i)))) _ _ _
    rw [e2]
    exact tail its h2 tk rv (by omega) fun b o q => hk b o (Nat.ne_of_lt (Heap.lt_size q)) (sb1.extBut b o (Nat.ne_of_lt (Heap.lt_size q)) (Heap.get?_push_of_some _ q))
end
end Dn

namespace Dn
open PySem PySem.Spec PyProof.Rows L2
section
variable {X : Cx} {K : Frg} {W : WX} {wd : WD}
/-! ### a starred target -/
def gStarV (K : Frg) (i n : Nat) (t : TGs) : TG := fun v σ H Q => ∃ a xs, v = .ref a ∧ (SqT K H a xs ∨ SqL K H a xs) ∧ n ≤ xs.length + 1 ∧ ∀ D0, H D0 = none → t (xs.take i ++ [.ref D0] ++ (xs.drop i).drop (xs.length + 1 - n)) σ (upd H D0 (.lst ((xs.drop i).take (xs.length + 1 - n)))) Q
theorem pg_starV {es : List Expr} {k : Nat} {t : TGs} {i n : Nat} {pos : Pos} (hc : X.calm = true) (h : PGs X es t) (hn : (assignEach es X.env).length = n) (hst : (assignEach es X.env).findIdx? (·.1) = some i) (hi : i < n) : PG X (.Tuple es k pos) (gStarV X.K i n t) := by
  refine ⟨fun pins s σ H v u Q I r hw => ?_⟩
  obtain ⟨a, xs, rfl, hx, hl, hw⟩ := hw
  cases r
  rw [PyProof.Rows.assign_Tuple]
  refine wpAny_bind (wpAny_standAt ?_)
  unfold unpack
  rw [hn, hst]
  exact wpAny_bind (wpAny_holding (star_run I hc hx hi hl fun us D0 s' hD J rv => h.run pins s' σ _ _ us Q J rv (hw D0 hD)))
theorem pgs_starV {e : Expr} {es : List Expr} {p : Pos} {t : TG} {u : TGs} (h1 : PG X e t) (h2 : PGs X es u) (hs : (assignEach (.Starred e p :: es) X.env).map (·.2) = assign e X.env :: (assignEach es X.env).map (·.2) := by rfl) : PGs X (.Starred e p :: es) (gCons t u) := by
  refine ⟨fun pins s σ H vs us Q I r h => ?_⟩
  obtain ⟨v, vr, rfl, h⟩ := h
  cases r with
  | cons ra rb =>
    rw [hs]
    exact assignInOrder_cons (thn (h1.run pins s σ H _ _ _ I ra h) fun _ s1 ⟨σ1, H1, I1, q1⟩ => h2.run pins s1 σ1 H1 _ _ Q I1 rb q1)
def gdStar (i n : Nat) (t : TGsD) : TGD := fun d ρ M q => match anySeq M d with
  | some xs => n ≤ xs.length + 1 ∧ t (xs.take i ++ [.lst ((xs.drop i).take (xs.length + 1 - n))] ++ (xs.drop i).drop (xs.length + 1 - n)) ρ M q
  | none => False
theorem dg_star {es : List Expr} {k : Nat} {t : TGsD} {i n : Nat} {pos : Pos} (hc : X.calm = true) (h : DGs X W wd es t) (hn : (assignEach es X.env).length = n := by rfl) (hst : (assignEach es X.env).findIdx? (·.1) = some i := by rfl) (hi : i < n := by decide) : DG X W wd (.Tuple es k pos) (gdStar i n t) :=
  let ⟨_, p, z⟩ := h.ex
  ⟨_, pg_starV hc p hn hst hi, fun F M H σ ρ d v Q q r x hd h k => by
    unfold gdStar at h
    cases y : anySeq M d with
    | none =>
      rw [y] at h
      exact h.elim
    | some xs =>
      rw [y] at h
      obtain ⟨a, vs, rfl, b1, b2⟩ := anySeq_inv r hd y
      refine ⟨a, vs, rfl, b1, by rw [← b2.length]; exact h.1, fun D0 hD => ?_⟩
      have e : Ext F (upd F D0 (.lst ((vs.drop i).take (vs.length + 1 - n)))) := Ext.new (r.free hD).1
      rw [← b2.length] at e ⊢
      have b3 := b2.mono e
      refine z _ M _ σ ρ _ _ Q q (r.laid hD) (x.mono e) (((b3.take i).append (IsL.one ?_)).append ((b3.drop i).drop _)) h.2 fun F' M' H' σ' ρ' e' r' h' => k F' M' H' σ' ρ' (e.trans e') r' h'
      exact ⟨D0, _, rfl, upd_same, (b3.drop i).take _⟩⟩
theorem dgs_star {e : Expr} {es : List Expr} {p : Pos} {t : TGD} {u : TGsD} (h1 : DG X W wd e t) (h2 : DGs X W wd es u) (hs : (assignEach (.Starred e p :: es) X.env).map (·.2) = assign e X.env :: (assignEach es X.env).map (·.2) := by rfl) : DGs X W wd (.Starred e p :: es) (gdCons t u) :=
  let ⟨_, q, a⟩ := h1.ex
  let ⟨_, q2, b⟩ := h2.ex
  ⟨_, pgs_starV q q2 hs, tr_gcons a b⟩

/-! ### repr -/
def rcRepr : RCD := fun ds M q => match ds with
  | [d] => (okD (snap M d) 60 = true ∧ (toP (snap M d)).showable = true ∧ (toP (snap M d)).shown.length ≤ sizeLine) ∧ q (.str (toP (snap M d)).shown) M
  | _ => False
theorem call_reprD (hu : X.A.units + 70 < cLine) (hg : X.A.guards = some []) : CallR X (.builtin "repr") (fun xs H Q => ∃ v d, xs = [v] ∧ Dp X.K H v d ∧ d.canLay0 = true ∧ d.depth ≤ 60 ∧ d.showable = true ∧ d.shown.length ≤ sizeLine ∧ Q (.str d.shown) H) := by
  intro pins s σ H xs us Q I r h
  obtain ⟨v, d, rfl, hd, c1, c2, c3, c4, q⟩ := h
  obtain ⟨u, rfl, ru⟩ := vals1 r
  obtain ⟨as, ra⟩ := Dp.reads I d v u hd ru
  have hdict : d.hasDict = false := PyData.hasDict_of_canLay d c1
  have fin : ∀ h' t tk, (∀ b o, s.heap.get? b = some o → h'.get? b = some o) → EP X pins σ Q (.str d.shown t) { s with heap := h', toks := tk } := fun h' t tk hk => ⟨.str d.shown, H, I.kept hk, ⟨t, rfl⟩, q⟩
  cases hd with
  | lst a b => 
    cases ru
    exact repr_of_reads' ra c3 (PyData.noDict_hsm hdict) hg (by omega) (fun _ _ z => z) fin c4
  | tup a b =>
    cases ru
    exact repr_of_reads' ra c3 (PyData.noDict_hsm hdict) hg (by omega) (fun _ _ z => z) fin c4
  | int i =>
    obtain ⟨t, rfl⟩ := (show ∃ t, u = Value.int i t from ru)
    rw [PyData.shown_int] at q
    exact PySem.P.repr_of_int (by simpa [PyData.showable] using c3) ⟨.str _, H, I.tok _, ⟨_, rfl⟩, q⟩
  | non =>
    cases ru
    rw [PyData.shown_none] at q
    exact PySem.P.repr_of_none ⟨.str _, H, I.tok _, ⟨_, rfl⟩, q⟩
  | bl b =>
    cases ru
    rw [PyData.shown_bool] at q
    exact PySem.P.repr_of_bool ⟨.str _, H, I.tok _, ⟨_, rfl⟩, q⟩
  | str x =>
    obtain ⟨t, rfl⟩ := (show ∃ t, u = Value.str x t from ru)
    rw [PyData.shown_str] at q c4
    exact PySem.P.repr_of_str ⟨.str _, H, I.tok _, ⟨_, rfl⟩, q⟩ c4
theorem dc_repr (hu : X.A.units + 70 < cLine) (hg : X.A.guards = some []) : DCall X (.builtin "repr") rcRepr := ⟨_, call_reprD hu hg, fun F M H σ ρ ds vs Q q r hd h k => by
  unfold rcRepr at h
  split at h
  · rename_i d
    obtain ⟨v, rfl, hv⟩ := hd.one_inv
    obtain ⟨c1, c2⟩ := canLay_toP _ 60 h.1.1
    exact ⟨v, _, rfl, r.dp hv h.1.1, c1, c2, h.1.2.1, h.1.2.2, k (.str _) _ F M H (Ext.refl F) r rfl h.2⟩
  · exact h.elim⟩
theorem dc_tupleRange : True := trivial
end
end Dn

namespace Dn
open PySem PySem.Spec PyProof.Rows L2
/-! ### tuples with no dict of their own: where their methods are asked -/
theorem adjust_back (n : Nat) : Builtin.Slice.sliceAdjust none none (-1) (n : Int) = ((n : Int) - 1, -1) := rfl
theorem places_back (n : Nat) : Builtin.Slice.slicePlaces ((n : Int) - 1) (-1) (-1) = n := by
  unfold Builtin.Slice.slicePlaces
  rw [if_neg (by decide)]
  by_cases h : (n : Int) - 1 > -1
  · rw [if_pos h, show -(-1 : Int) = 1 from rfl, Int.ediv_one]
    omega
  · rw [if_neg h]
    omega
theorem pick_back (xs : Array Value) : (List.filterMap (fun m : Nat => xs[((xs.size : Int) - 1 + (m : Int) * -1).toNat]?) (List.range xs.size)).toArray = xs.toList.reverse.toArray := by
  congr 1
  apply List.ext_getElem?
  intro i
  have key : List.filterMap (fun m : Nat => xs[((xs.size : Int) - 1 + (m : Int) * -1).toNat]?) (List.range xs.size) = (List.range xs.size).pmap (fun m (h : m < xs.size) => xs[xs.size - 1 - m]'(by omega)) (fun m hm => List.mem_range.mp hm) := by
    have gen : ∀ (l : List Nat) (hl : ∀ m ∈ l, m < xs.size), List.filterMap (fun m : Nat => xs[((xs.size : Int) - 1 + (m : Int) * -1).toNat]?) l = l.pmap (fun m (h : m < xs.size) => xs[xs.size - 1 - m]'(by omega)) hl := by
      intro l
      induction l with
      | nil => intro _; rfl
      | cons m l ih =>
        intro hl
        have hm := hl m List.mem_cons_self
        have e : ((xs.size : Int) - 1 + (m : Int) * -1).toNat = xs.size - 1 - m := by omega
        rw [List.filterMap_cons_some (b := xs[xs.size - 1 - m]'(by omega)) (by rw [e]; exact Array.getElem?_eq_getElem (by omega)), List.pmap_cons, ih]
    exact gen _ _
  rw [key]
  by_cases hi : i < xs.size
  · rw [List.getElem?_eq_getElem (by rw [List.length_pmap, List.length_range]; exact hi), List.getElem?_eq_getElem (by rw [List.length_reverse, Array.length_toList]; exact hi), List.getElem_pmap, List.getElem_reverse]
    simp only [List.getElem_range, Array.length_toList, Array.getElem_toList]
  · rw [List.getElem?_eq_none (by rw [List.length_pmap, List.length_range]; omega), List.getElem?_eq_none (by rw [List.length_reverse, Array.length_toList]; omega)]
theorem applied_back {P : Program} {w : World} {A : Around} {E : Value → Shared → Prop} {s : Shared} {sl : Addr} {vs : Value} {n : Nat} {Q : Int × Int × Nat → Shared → Prop} (hs : s.heap.IsSliceOf sl .none .none vs) (p : IsPart vs (some (-1))) (q : Q ((n : Int) - 1, -1, n) s) :
    wpAny (model P w) A (Builtin.Slice.sliceApplied (.ref sl) (pure (n : Int))) Q E s := by
  obtain ⟨o, h1, h2, h3⟩ := hs
  refine wpAny_bind (wpAny_bind (wpAny_field h1 h3 rfl (wpAny_bind (wpAny_field h1 h3 rfl (wpAny_bind (wpAny_field h1 h3 rfl (wpAny_pure ?_)))))))
  refine wpAny_bind (HT.slicePart_ p ?_)
  refine wpAny_bind (slicePart_none (wpAny_bind (slicePart_none (wpAny_bind (wpAny_pure ?_)))))
  have e : Builtin.Slice.sliceAdjust none none ((some (-1 : Int)).getD 1) (n : Int) = ((n : Int) - 1, -1) := rfl
  rw [e]
  refine wpAny_pure ?_
  show Q ((n : Int) - 1, -1, Builtin.Slice.slicePlaces ((n : Int) - 1) (-1) (-1)) s
  rw [places_back]
  exact q
theorem getItem_back {P : Program} {w : World} {A : Around} {E : Value → Shared → Prop} {s : Shared} {t sl : Addr} {items : Array Value} {vs : Value} {Q : Value → Shared → Prop} (ht : IsTup s.heap t items) (hs : s.heap.IsSliceOf sl .none .none vs) (p : IsPart vs (some (-1)))
    (q : Q (.ref s.heap.objs.size) { s with heap := s.heap.push { cls := .type "tuple", data := .seq items.toList.reverse.toArray } }) (hz : items.size ≤ sizeLine) : wpAny (model P w) A (getItem (.ref t) (.ref sl)) Q E s := by
  have hst : s.TypeIs (.ref sl) "slice" := by
    obtain ⟨o, h1, h2, _⟩ := hs
    exact ⟨o, h1, h2⟩
  refine wpAny_holding (wpAny_bind (wpAny_sequenceKey ht.typeIs (by decide) ?_))
  refine wpAny_bind (wpAny_callSpecial?_slot ht.typeIs slot_tuple_getitem ?_)
  refine wpAny_call_entry slot_tuple_getitem ht.typeIs entry_tuple_getitem ?_ (args_tuple_getitem _ _)
  refine wpAny_bind (wpAny_pure ?_)
  refine wpAny_bind (tupleItemsOf_ ht ?_)
  refine wpAny_bind (wpAny_typeOf hst ?_)
  rw [if_pos (by decide)]
  refine wpAny_bind (applied_back hs p ?_)
  dsimp only
  rw [if_neg (by
    rw [Bool.and_eq_true, Bool.and_eq_true]
    intro ⟨⟨_, h⟩, _⟩
    exact absurd h (by decide))]
  rw [pick_back]
  refine wpAny_bind (wpAny_newObj_type ?_ ?_)
  · exact wpAny_pure ⟨_, rfl, wpAny_pure q⟩
  · show (items.toList.reverse.toArray).size ≤ sizeLine
    rw [List.size_toArray, List.length_reverse, Array.length_toList]
    exact hz

section
variable {X : Cx} {K : Frg} {W : WX} {wd : WD}
theorem Inv.layT {pins : List (Addr × Obj)} {σ : L2.St} {H : Hp} {s : Shared} {its : List Value} {ys : List V} (I : L2.Inv X pins σ H s) (r : L2.Vals ys its) (hz : ys.length ≤ sizeLine) :
    H s.heap.objs.size = none ∧ L2.Inv X pins σ (upd H s.heap.objs.size (.frz { cls := .type "tuple", data := .seq its.toArray } (.tup ys))) { s with heap := s.heap.push { cls := .type "tuple", data := .seq its.toArray } } := by
  refine ⟨I.hok.fresh (Nat.le_refl _), I.laid (fun b o q => Heap.get?_push_of_some _ q) (Nat.le_refl _) ?_⟩
  exact ⟨Heap.get?_push_size _ rfl, hz, its, r, IsTup.new _ _⟩
/-- a new tuple, with nothing of its own -/
def newT (nt : Bool) (ds : List D) (M : Mem) (q : QD) : Prop := if nt = true then q (.ntp ds) M else q (.tup ds) M
theorem fresh_tup (nt : Bool) {F H : Hp} {M : Mem} {σ : L2.St} {ρ : Dn.Env} {Q : VK} {q : QD} {ds : List D} {vs : List V} {l : Addr} {o : Obj} (r : R K F M H σ ρ) (hl : H l = none) (hd : o.dict = none) (h : IsL K F ds vs) (z : newT nt ds M q)
    (k : ∀ c v F' M' H', Ext F F' → R K F' M' H' σ ρ → Is K F' c v → q c M' → Q v H') : Q (.ref l) (upd H l (.frz o (.tup vs))) := by
  have e : Ext F (upd F l (.frz o (.tup vs))) := Ext.new (r.free hl).1
  unfold newT at z
  split at z
  · exact k (.ntp ds) _ _ M _ e (r.laid hl) ⟨l, vs, rfl, ⟨o, upd_same, hd⟩, h.mono e⟩ z
  · exact k (.tup ds) _ _ M _ e (r.laid hl) ⟨l, vs, rfl, .inl (.inr ⟨o, upd_same⟩), h.mono e⟩ z
/-! tuple(a list) -/
theorem call_tuple_ofN : CallR X (.type "tuple") fun xs H Q => ∃ p ys, xs = [.ref p] ∧ SqL X.K H p ys ∧ ∀ l o, H l = none → o.dict = none → Q (.ref l) (upd H l (.frz o (.tup ys))) := fun pins s σ H xs us Q I r h => by
  obtain ⟨p, ys, rfl, hq, k⟩ := h
  obtain ⟨u, rfl, ru⟩ := vals1 r
  cases ru
  obtain ⟨its, r', pl, hz⟩ := I.list hq
  refine call_tuple_list pl.isList (fun h' kp => ?_) (by rw [List.size_toArray, ← r'.length]; exact hz)
  obtain ⟨hn, J⟩ := Inv.layT (I.kept (t' := s.toks) kp) r' hz
  exact ⟨.ref h'.objs.size, _, J, rfl, k _ _ hn rfl⟩
def rcTupleN (nt : Bool) : RCD := fun ds M q => match ds with
  | [d] => (match seqL M d with
    | some xs => newT nt xs M q
    | none => False)
  | _ => False
theorem dc_tupleN (nt : Bool) : DCall X (.type "tuple") (rcTupleN nt) := ⟨_, call_tuple_ofN, fun F M H σ ρ ds vs Q q r hd z k => by
  unfold rcTupleN at z
  split at z
  · rename_i d
    obtain ⟨v, rfl, h1⟩ := hd.one_inv
    split at z
    · rename_i xs hx
      obtain ⟨a, us, rfl, b1, b2⟩ := r.seqL h1 hx
      exact ⟨a, us, rfl, b1, fun l o hl ho => fresh_tup nt r hl ho b2 z k⟩
    · exact z.elim
  · exact z.elim⟩
/-! tuple(range(..)) -/
def tTupRgN (te : L2.St → Hp → (Int → Int → Hp → Prop) → Prop) : TE := fun σ H Q => te σ H fun a b H1 => RgOk a b ∧ ∀ q o, H1 q = none → o.dict = none → Q (.ref q) (upd H1 q (.frz o (.tup (rgV a b))))
theorem pe_tupRgN {e : Expr} {te : L2.St → Hp → (Int → Int → Hp → Prop) → Prop} {p pos : Pos} (hc : X.calm = true) (hg : Gl X "tuple") (hm : X.mg "tuple" = none) (he : PRg X e te) (hs : starEach [e] X.env = (false, eval e X.env) :: starEach [] X.env := by rfl) :
    PE X (.Call (.Name "tuple" p) [e] [] pos) (tTupRgN te) := ⟨fun pins s σ H Q I h => by
  refine Call_ (ld_blt I hg hm boot_tuple (callWith_type1 (args_cons (thn (he pins s σ H _ I h) fun v s1 hv => ?_) hs) hs))
  obtain ⟨r, a, b, t, u, w, H1, rfl, hr, I1, ⟨h1, h2, h3, h4, h5⟩, k⟩ := hv
  refine args_nil ?_
  refine call_tuple_range (I1.ok.hd hc) hr (small_one h1 h2 h3 h4) (rangeSize_nat a b) h5 fun h' tk acc kp hi => ?_
  obtain ⟨hn, J⟩ := Inv.layT (its := acc.toList) (I1.kept (t' := tk) kp) (vals_rg hi) (by
    rw [rgV_length, sizeLine_eq]
    exact Nat.le_trans h5 (by decide))
  exact ⟨.ref h'.objs.size, _, J, rfl, k _ _ hn rfl⟩⟩
abbrev TRgD := Dn.Env → Mem → (Int → Int → Mem → Prop) → Prop
def TrRg (K : Frg) (W : WX) (w : WD) (te : L2.St → Hp → (Int → Int → Hp → Prop) → Prop) (td : TRgD) : Prop := ∀ (F : Hp) (M : Mem) (H : Hp) (σ : L2.St) (ρ : Dn.Env) (Q : Int → Int → Hp → Prop) (q : Int → Int → Mem → Prop), R K F M H σ ρ → LkX K F W w → td ρ M q →
  (∀ a b F' M' H', Ext F F' → R K F' M' H' σ ρ → q a b M' → Q a b H') → te σ H Q
structure DRg (X : Cx) (W : WX) (w : WD) (e : Expr) (td : TRgD) : Prop where
  ex : ∃ te, PRg X e te ∧ TrRg X.K W w te td
def dRg1 (t : TED) : TRgD := fun ρ M q => t ρ M fun d M1 => match d with
  | .int n => q 0 n M1
  | _ => False
theorem drg_1 {a : Expr} {t : TED} {p pos : Pos} (hg : Gl X "range") (hm : X.mg "range" = none) (ha : DE X W wd a t) (hs : starEach [a] X.env = (false, eval a X.env) :: starEach [] X.env := by rfl) : DRg X W wd (.Call (.Name "range" p) [a] [] pos) (dRg1 t) :=
  let ⟨_, p, z⟩ := ha.ex
  ⟨_, prg_1 hg hm p hs, fun F M H σ ρ Q q r x h k => z F M H σ ρ _ _ r x h fun d v F1 M1 H1 e1 r1 hd h1 => by
    cases d with
    | int n => exact ⟨n, hd, k 0 n F1 M1 H1 e1 r1 h1⟩
    | _ => exact h1.elim⟩
def dRg2 (t u : TED) : TRgD := fun ρ M q => t ρ M fun d M1 => u ρ M1 fun e M2 => match d, e with
  | .int m, .int n => q m n M2
  | _, _ => False
def rgD (a b : Int) : List D := rangeD a (b - a).toNat
theorem rgD_V {F : Hp} (a b : Int) : IsL K F (rgD a b) (rgV a b) := by
  unfold rgD rgV rangeD
  generalize (b - a).toNat = n
  generalize List.range n = l
  induction l with
  | nil => rfl
  | cons i l ih => exact ⟨_, _, rfl, rfl, ih⟩
def rgOk (a b : Int) : Prop := RgOk a b
def dTupRg (nt : Bool) (t : TRgD) : TED := fun ρ M q => t ρ M fun a b M1 => rgOk a b ∧ newT nt (rgD a b) M1 q
theorem d_tupRg (nt : Bool) {e : Expr} {t : TRgD} {p pos : Pos} (hc : X.calm = true) (hg : Gl X "tuple") (hm : X.mg "tuple" = none) (he : DRg X W wd e t) (hs : starEach [e] X.env = (false, eval e X.env) :: starEach [] X.env := by rfl) : DE X W wd (.Call (.Name "tuple" p) [e] [] pos) (dTupRg nt t) :=
  let ⟨_, p, z⟩ := he.ex
  ⟨_, pe_tupRgN hc hg hm p hs, fun F M H σ ρ Q q r x h k => z F M H σ ρ _ _ r x h fun a b F1 M1 H1 e1 r1 h1 => ⟨h1.1, fun l o hl ho => fresh_tup nt r1 hl ho (rgD_V a b) h1.2 fun c v F2 M2 H2 e2 r2 hc2 h2 => k c v F2 M2 H2 (e1.trans e2) r2 hc2 h2⟩⟩
def dLstRg (new : Bool) (t : TRgD) : TED := fun ρ M q => t ρ M fun a b M1 => rgOk a b ∧ if new = true then ∀ p, M1 p = none → q (.ref p) (updM M1 p (.lst (rgD a b))) else q (.lst (rgD a b)) M1
theorem d_lstRg (new : Bool) {e : Expr} {t : TRgD} {p pos : Pos} (hc : X.calm = true) (hg : Gl X "list") (hm : X.mg "list" = none) (he : DRg X W wd e t) (hs : starEach [e] X.env = (false, eval e X.env) :: starEach [] X.env := by rfl) : DE X W wd (.Call (.Name "list" p) [e] [] pos) (dLstRg new t) :=
  let ⟨_, p, z⟩ := he.ex
  ⟨_, pe_listRg hc hg hm p hs, fun F M H σ ρ Q q r x h k => z F M H σ ρ _ _ r x h fun a b F1 M1 H1 e1 r1 h1 => ⟨h1.1, fun l hl => fresh_list new r1 (rgD_V a b) h1.2 (fun c v F2 M2 H2 e2 r2 hc2 h2 => k c v F2 M2 H2 (e1.trans e2) r2 hc2 h2) hl⟩⟩
/-! x[::-1] -/
def dRev (nt new : Bool) (t : TED) : TED := fun ρ M q => t ρ M fun d M1 => match d with
  | .tup ds => newT nt ds.reverse M1 q
  | .ntp ds => newT nt ds.reverse M1 q
  | d => (match seqL M1 d with
    | some ds => if new = true then ∀ p, M1 p = none → q (.ref p) (updM M1 p (.lst ds.reverse)) else q (.lst ds.reverse) M1
    | none => False)
theorem pe_rev {e : Expr} {te : TE} {k : Nat} {p1 p2 p3 pos : Pos} (he : PE X e te) : PE X (.Subscript e (.Slice none none (some (.UnaryOp .USub (.Constant (.int 1) k p1) p2)) p3) pos)
    (fun σ H Q => te σ H fun x H1 => (∃ a xs, x = .ref a ∧ SqT X.K H1 a xs ∧ ∀ p o, H1 p = none → o.dict = none → Q (.ref p) (upd H1 p (.frz o (.tup xs.reverse)))) ∨ ∃ a xs, x = .ref a ∧ SqL X.K H1 a xs ∧ ∀ p, H1 p = none → Q (.ref p) (upd H1 p (.lst xs.reverse))) := ⟨fun pins s σ H Q I h => by
  refine Subscript_ (thn (he.run pins s σ H _ I h) fun v s1 hv => ?_)
  obtain ⟨x, H1, I1, r1, hh⟩ := hv
  have hst : PO X (some (.UnaryOp .USub (.Constant (.int 1) k p1) p2)) _ := po_some (pe_un un_neg pe_int)
  refine wpAny_Slice (thn (po_none.run pins s1 σ H1 (fun o H2 => o = none ∧ H2 = H1) I1 ⟨rfl, rfl⟩) fun vl s2 hl => ?_)
  obtain ⟨l, H2, I2, pl, rfl, e2⟩ := hl
  subst e2
  refine thn (po_none.run pins s2 σ H2 (fun o H3 => o = none ∧ H3 = H2) I2 ⟨rfl, rfl⟩) fun vu s3 hu => ?_
  obtain ⟨u, H3, I3, pu, rfl, e3⟩ := hu
  subst e3
  refine thn (hst.run pins s3 σ H3 (fun o H4 => o = some (-1) ∧ H4 = H3) I3 ⟨1, rfl, -1, rfl, rfl, rfl⟩) fun vs s4 hs => ?_
  obtain ⟨o, H4, I4, ps, rfl, e4⟩ := hs
  subst e4
  have I5 := I4.kept (t' := s4.toks) (h' := s4.heap.push { cls := .type "slice", data := .fields #[vl, vu, vs] }) fun b ob q => Heap.get?_push_of_some _ q
  rcases hh with ⟨a, xs, rfl, hx, q⟩ | ⟨a, xs, rfl, hx, q⟩
  · cases r1
    obtain ⟨its, r, ht, hz⟩ := I5.tuple hx
    cases pl
    cases pu
    refine tail_any ht.typeIs slot_tuple_getitem.lookup (getItem_back ht (Heap.IsSliceOf.new _ _ _ _) ps ?_ (by rw [List.size_toArray, ← r.length]; exact hz)) rfl
    obtain ⟨hn, J⟩ := Inv.layT (its := its.reverse) I5 r.reverse (by rw [List.length_reverse]; exact hz)
    exact ⟨.ref _, _, J, rfl, q _ _ hn rfl⟩
  · cases r1
    obtain ⟨its, r, ht, hz⟩ := I5.list hx
    refine tail_any ht.isList.typeIs slot_list_getitem.lookup (wpAny_getItem_list_slice ht.isList (Heap.IsSliceOf.new _ _ _ _) pl pu ps (by decide) ?_ (by rw [List.size_toArray, ← r.length]; exact hz)) rfl
    rw [PySem.W.krv_pick]
    have hlen : xs.reverse.length ≤ sizeLine := by
      rw [List.length_reverse]
      exact hz
    have J := I5.laid (t' := s4.toks) (a := (s4.heap.push { cls := .type "slice", data := .fields #[vl, vu, vs] }).objs.size) (o := .lst xs.reverse) (h' := (s4.heap.push { cls := .type "slice", data := .fields #[vl, vu, vs] }).push { cls := .type "list", data := .seq its.reverse.toArray }) (fun b ob q => Heap.get?_push_of_some _ q) (Nat.le_refl _) ⟨hlen, its.reverse, _, r.reverse, Heap.get?_push_size _ rfl⟩
    exact ⟨.ref _, _, J, rfl, q _ (I5.hok.fresh (Nat.le_refl _))⟩⟩
theorem d_rev (nt new : Bool) {e : Expr} {t : TED} {k : Nat} {p1 p2 p3 pos : Pos} (he : DE X W wd e t) : DE X W wd (.Subscript e (.Slice none none (some (.UnaryOp .USub (.Constant (.int 1) k p1) p2)) p3) pos) (dRev nt new t) :=
  let ⟨_, p, z⟩ := he.ex
  ⟨_, pe_rev p, fun F M H σ ρ Q q r x h k => z F M H σ ρ _ _ r x h fun d v F1 M1 H1 e1 r1 hd h1 => by
    have kk : ∀ c v F' M' H', Ext F1 F' → R X.K F' M' H' σ ρ → Is X.K F' c v → q c M' → Q v H' := fun c v F2 M2 H2 e2 r2 hc2 h2 => k c v F2 M2 H2 (e1.trans e2) r2 hc2 h2
    have lists : ∀ {ds : List D}, seqL M1 d = some ds → (if new = true then ∀ p, M1 p = none → q (.ref p) (updM M1 p (.lst ds.reverse)) else q (.lst ds.reverse) M1) → ∃ a xs, v = .ref a ∧ SqL X.K H1 a xs ∧ ∀ p, H1 p = none → Q (.ref p) (upd H1 p (.lst xs.reverse)) := fun hs z => by
      obtain ⟨a, us, rfl, b1, b2⟩ := r1.seqL hd hs
      exact ⟨a, us, rfl, b1, fun l hl => fresh_list new r1 b2.reverse z kk hl⟩
    cases d with
    | tup ds =>
      obtain ⟨a, us, rfl, b1, b2⟩ := hd
      exact .inl ⟨a, us, rfl, r1.le.sqT b1, fun l o hl ho => fresh_tup nt r1 hl ho b2.reverse h1 kk⟩
    | ntp ds =>
      obtain ⟨a, us, rfl, ⟨o, b1, _⟩, b2⟩ := hd
      exact .inl ⟨a, us, rfl, .inl (.inr ⟨o, r1.le a _ b1⟩), fun l o hl ho => fresh_tup nt r1 hl ho b2.reverse h1 kk⟩
    | lst ds => exact .inr (lists rfl h1)
    | scr ds => exact .inr (lists rfl h1)
    | ref b =>
      have h1 : (match seqL M1 (.ref b) with
        | some ds => if new = true then ∀ p, M1 p = none → q (.ref p) (updM M1 p (.lst ds.reverse)) else q (.lst ds.reverse) M1
        | none => False) := h1
      cases y : seqL M1 (.ref b) with
      | some ds =>
        rw [y] at h1
        exact .inr (lists y h1)
      | none =>
        rw [y] at h1
        exact h1.elim
    | _ => exact h1.elim⟩
/-! -i; +i -/
def dNeg (t : TED) : TED := fun ρ M q => t ρ M fun d M1 => match d with
  | .int i => q (.int (-i)) M1
  | _ => False
theorem d_neg {e : Expr} {t : TED} {pos : Pos} (he : DE X W wd e t) : DE X W wd (.UnaryOp .USub e pos) (dNeg t) :=
  let ⟨_, p, z⟩ := he.ex
  ⟨_, pe_un un_neg p, fun F M H σ ρ Q q r x h k => z F M H σ ρ _ _ r x h fun d v F1 M1 H1 e1 r1 hd h1 => by
    cases d with
    | int i => exact ⟨i, hd, k (.int (-i)) _ F1 M1 H1 e1 r1 rfl h1⟩
    | _ => exact h1.elim⟩
/-! a, b = e, f at once -/
def dPar (i j : Nat) (t : TAD) : TSD := fun e ρ M => t ρ M fun ds M1 => match ds with
  | [a, b] => e.nx ((ρ.set i (some a)).set j (some b)) M1
  | _ => False
def dPar3 (i j l : Nat) (t : TAD) : TSD := fun e ρ M => t ρ M fun ds M1 => match ds with
  | [a, b, c] => e.nx (((ρ.set i (some a)).set j (some b)).set l (some c)) M1
  | _ => False
theorem ds_par {pos : Pos} {x y : Str} {a b : Expr} {px py pt : Pos} {kt k2 : Nat} {pt2 : Pos} {t : TAD} (i j : Nat) (hc : X.calm = true) (hN : X.N.Nodup) (hi : X.N[i]? = some x) (hj : X.N[j]? = some y) (hij : i ≠ j) (hx : X.env.scope.names.lookup x = some .local) (hy : X.env.scope.names.lookup y = some .local)
    (ha : DA X W wd [a, b] t) (hw : swappedStores [.Tuple [.Name x px, .Name y py] kt pt] (.Tuple [a, b] k2 pt2) X.env = pure (some [x, y])) (hs : swapsWithSole [.Tuple [.Name x px, .Name y py] kt pt] (.Tuple [a, b] k2 pt2) pos.line X.env = pure false := by rfl) :
    DS X W wd (.Assign [.Tuple [.Name x px, .Name y py] kt pt] (.Tuple [a, b] k2 pt2) pos) (dPar i j t) :=
  let ⟨_, p, z⟩ := ha.ex
  ⟨_, ps_par hc hN hi hj hij hx hy p hw hs, fun F M H σ ρ E e r x l h => z F M H σ ρ _ _ r x h fun ds vs F1 M1 H1 y r1 hd h1 => by
    split at h1
    · obtain ⟨v, u, rfl, b1, b2⟩ := hd.two_inv
      exact ⟨v, u, rfl, l.nx F1 M1 H1 _ _ y ((r1.set i b1).set j b2) h1⟩
    · exact h1.elim⟩
theorem ds_par3 {pos : Pos} {x y z : Str} {a b c : Expr} {px py pz pt : Pos} {kt k2 : Nat} {pt2 : Pos} {t : TAD} (i j l : Nat) (hc : X.calm = true) (hN : X.N.Nodup) (hi : X.N[i]? = some x) (hj : X.N[j]? = some y) (hl : X.N[l]? = some z) (hij : i ≠ j) (hil : i ≠ l) (hjl : j ≠ l) (hx : X.env.scope.names.lookup x = some .local) (hy : X.env.scope.names.lookup y = some .local) (hz : X.env.scope.names.lookup z = some .local)
    (ha : DA X W wd [a, b, c] t) (hw : swappedStores [.Tuple [.Name x px, .Name y py, .Name z pz] kt pt] (.Tuple [a, b, c] k2 pt2) X.env = pure (some [x, y, z])) (hs : swapsWithSole [.Tuple [.Name x px, .Name y py, .Name z pz] kt pt] (.Tuple [a, b, c] k2 pt2) pos.line X.env = pure false := by rfl) :
    DS X W wd (.Assign [.Tuple [.Name x px, .Name y py, .Name z pz] kt pt] (.Tuple [a, b, c] k2 pt2) pos) (dPar3 i j l t) :=
  let ⟨_, p, z⟩ := ha.ex
  ⟨_, ps_par3 hc hN hi hj hl hij hil hjl hx hy hz p hw hs, fun F M H σ ρ E e r x lk h => z F M H σ ρ _ _ r x h fun ds vs F1 M1 H1 y r1 hd h1 => by
    split at h1
    · obtain ⟨v, r0, rfl, b1, hr⟩ := hd
      obtain ⟨u, t, rfl, b2, b3⟩ := IsL.two_inv hr
      exact ⟨v, u, t, rfl, lk.nx F1 M1 H1 _ _ y (((r1.set i b1).set j b2).set l b3) h1⟩
    · exact h1.elim⟩
end
end Dn

namespace Dn
open PySem PySem.Spec PyProof.Rows L2
section
variable {X : Cx} {K : Frg} {W : WX} {wd : WD}
/-! a tuple's own methods -/
def noDict (x : V) (H : Hp) : Prop := ∃ a o vs, x = .ref a ∧ H a = some (.frz o (.tup vs)) ∧ o.dict = none
theorem noDict_is {pins : List (Addr × Obj)} {σ : L2.St} {H : Hp} {s : Shared} {x : V} {v : Value} (I : L2.Inv X pins σ H s) (r : RelV x v) (h : noDict x H) : s.TypeIs v "tuple" ∧ ∀ a : Addr, v = .ref a → ∃ ob, s.heap.get? a = some ob ∧ ob.dict = none := by
  obtain ⟨a, o, vs, rfl, h1, h2⟩ := h
  cases r
  obtain ⟨g1, _, its, _, g2⟩ := (I.hok a _ h1 : ObjOk X.prog X.w H s.heap a (.frz o (.tup vs)))
  refine ⟨g2.typeIs, fun b e => ?_⟩
  cases e
  exact ⟨o, g1, h2⟩
def tBMT (r : V → List V → Hp → VK → Prop) (to : TE) (t : TA) : TE := fun σ H Q => to σ H fun x H1 => noDict x H1 ∧ t σ H1 fun xs H2 => r x xs H2 Q
theorem pe_bmT {o e : Expr} {es : List Expr} {to : TE} {t : TA} {name : Str} {apos cpos : Pos} {id : String} {r : V → List V → Hp → VK → Prop} (slot : Slot "tuple" name id) (hty : typeOf (.builtin id) = pure (.type "method_descriptor")) (hm : MtR X id r) (ho : PE X o to) (ha : PA X (e :: es) t)
    (hbase : attributeBase o name X.env (eval o X.env) = eval o X.env := by rfl)
    (hfew : ((backTo cpos (starEach (e :: es) X.env)).all (fun x => !x.1) && (backToKw cpos (keywordEach [] X.env)).all (fun x => x.1.isSome)
      && decide ((e :: es).length + ([] : List Keyword).length + (if ([] : List Keyword).isEmpty then 0 else 1) < 30)) = true := by rfl)
    (hline : (apos.endLine == cpos.line) = true := by rfl) (hs : starEach (e :: es) X.env = (false, eval e X.env) :: starEach es X.env := by rfl) (hplain : (backTo cpos (starEach es X.env)).any (·.1) = false := by rfl) :
    PE X (.Call (.Attribute o name apos) (e :: es) [] cpos) (tBMT r to t) := ⟨fun pins s σ H Q I h => by
  refine wpAny_Call_method_late hbase hfew hline rfl (thn (ho.run pins s σ H _ I h) fun v s1 hv => ?_)
  obtain ⟨x, H1, I1, r1, nd, h1⟩ := hv
  obtain ⟨ty, dn⟩ := noDict_is I1 r1 nd
  refine ⟨"tuple", id, PySem.F.plainAttrs_tuple, slot, hty, ty, dn, ?_⟩
  have hany : (backTo cpos (starEach (e :: es) X.env)).any (·.1) = false := by
    rw [hs]
    exact hplain
  have key := thn (ha.run cpos pins s1 σ H1 _ I1 h1) (Q' := fun us s2 => wpAny (model X.prog X.w) X.A (call (.builtin id) (v :: us)) (EP X pins σ Q) X.xe s2) fun us s2 hu => by
    obtain ⟨xs, H2, I2, rr, q⟩ := hu
    exact hm pins s2 σ H2 x xs v us Q I2 r1 rr q
  rw [hs] at hany key ⊢
  exact PySem.Calls.callWith_builtin hany (PySem.Calls.evalArgs_plain key)⟩
theorem eq_ints {A : Around} {s : Shared} {u : Value} {k : Int} : ∀ {ks : List Int} {vs : List V} {us : List Value}, vs = ks.map V.int → L2.Vals vs us → RelV (.int k) u → SeqAt.ItemsEq A s us ks u k := by
  intro ks vs us e r ru
  subst e
  obtain ⟨t, rfl⟩ := ru
  refine ⟨by rw [← r.length, List.length_map], fun j h1 h2 => ?_⟩
  obtain ⟨v, hv, rv⟩ := r.get (i := j) (x := .int ks[j]) (by rw [List.getElem?_map, List.getElem?_eq_getElem h2]; rfl)
  obtain ⟨t', rfl⟩ := rv
  have e : us[j] = .int ks[j] t' := Option.some.inj ((List.getElem?_eq_getElem h1).symm.trans hv)
  rw [e]
  exact SeqAt.EqAt.int_int _ _ _ _
theorem mt_index_ints : MtR X "tuple.index" fun x xs H Q => ∃ (a : Addr) (ks : List Int) (k : Int), x = .ref a ∧ xs = [.int k] ∧ SqT X.K H a (ks.map V.int) ∧ k ∈ ks ∧ Q (.int (ks.idxOf k : Nat)) H := fun pins s σ H x xs v us Q I r rs h => by
  obtain ⟨a, ks, k, rfl, rfl, hq, hk, q⟩ := h
  cases r
  obtain ⟨u, rfl, ru⟩ := vals1 rs
  obtain ⟨its, r', ht, _⟩ := I.tuple hq
  refine SeqAt.call_tuple_index (ks := ks) (k := k) (vs := its) ht (eq_ints rfl r' ru) hk ?_
  exact ⟨.int (ks.idxOf k : Nat), H, I.kept fun _ _ z => z, ⟨_, rfl⟩, q⟩
def rmIndex : RMD := fun d ds M q => match d, ds with
  | .ntp es, [.int k] => ∃ ks : List Int, es = ks.map D.int ∧ k ∈ ks ∧ q (.int (ks.idxOf k : Nat)) M
  | _, _ => False
def dBMT (rd : RMD) (o : TED) (t : TAD) : TED := fun ρ M q => o ρ M fun d M1 => (match d with
  | .ntp _ => True
  | _ => False) ∧ t ρ M1 fun ds M2 => rd d ds M2 q
theorem isl_ints_inv {F : Hp} : ∀ {ks : List Int} {vs : List V}, IsL K F (ks.map D.int) vs → vs = ks.map V.int
  | [], _, h => h
  | k :: ks, _, ⟨v, r, h1, h2, h3⟩ => by
    rw [h1, show v = .int k from h2, isl_ints_inv h3]
    rfl
theorem dm_index : DMt X "tuple.index" rmIndex := ⟨_, mt_index_ints, fun F M H σ ρ d v ds vs Q q r hd hds h k => by
  unfold rmIndex at h
  split at h
  · rename_i es k'
    obtain ⟨ks, rfl, hk, h⟩ := h
    obtain ⟨a, us, rfl, ⟨o, c1, _⟩, c2⟩ := hd
    obtain ⟨u, rfl, hu⟩ := hds.one_inv
    have e := isl_ints_inv c2
    subst e
    exact ⟨a, ks, k', rfl, by rw [show u = .int k' from hu], .inl (.inr ⟨o, r.le a _ c1⟩), hk, k (.int (ks.idxOf k' : Nat)) _ F M H (Ext.refl F) r rfl h⟩
  · exact h.elim⟩
theorem d_bmT {o e : Expr} {es : List Expr} {od : TED} {td : TAD} {name : Str} {apos cpos : Pos} {id : String} {rd : RMD} (slot : Slot "tuple" name id) (hty : typeOf (.builtin id) = pure (.type "method_descriptor")) (hm : DMt X id rd) (ho : DE X W wd o od) (ha : DA X W wd (e :: es) td) (hbase : attributeBase o name X.env (eval o X.env) = eval o X.env := by rfl)
    (hfew : ((backTo cpos (starEach (e :: es) X.env)).all (fun x => !x.1) && (backToKw cpos (keywordEach [] X.env)).all (fun x => x.1.isSome)
      && decide ((e :: es).length + ([] : List Keyword).length + (if ([] : List Keyword).isEmpty then 0 else 1) < 30)) = true := by rfl)
    (hline : (apos.endLine == cpos.line) = true := by rfl) (hs : starEach (e :: es) X.env = (false, eval e X.env) :: starEach es X.env := by rfl) (hplain : (backTo cpos (starEach es X.env)).any (·.1) = false := by rfl) :
    DE X W wd (.Call (.Attribute o name apos) (e :: es) [] cpos) (dBMT rd od td) :=
  let ⟨_, p, z⟩ := hm.ex
  let ⟨_, p1, z1⟩ := ho.ex
  let ⟨_, p2, z2⟩ := ha.ex
  ⟨_, pe_bmT slot hty p p1 p2 hbase hfew hline hs hplain, fun F M H σ ρ Q q r x h k => z1 F M H σ ρ _ _ r x h fun d v F1 M1 H1 e1 r1 hd h1 => by
    cases d with
    | ntp es =>
      have hd0 := hd
      obtain ⟨a, us, rfl, ⟨o, c1, c3⟩, c2⟩ := hd0
      exact ⟨⟨a, o, us, rfl, r1.le a _ c1, c3⟩, z2 F1 M1 H1 σ ρ _ _ r1 (x.mono e1) h1.2 fun ds vs F2 M2 H2 e2 r2 hds h2 => z F2 M2 H2 σ ρ _ _ ds vs Q q r2 (Is.mono e2 _ _ hd) hds h2 fun c u F3 M3 H3 e3 r3 hc h3 => k c u F3 M3 H3 ((e1.trans e2).trans e3) r3 hc h3⟩
    | _ => exact h1.1.elim⟩
end
/-! room -/
theorem u64 {k : Nat} {A : Around} (hr : Room k A) : A.units + 64 < cLine := by
  have := hr.un
  omega
theorem u65 {k : Nat} {A : Around} (hr : Room k A) : A.units + 65 < cLine := by
  have := hr.un
  omega
theorem u70 {k : Nat} {A : Around} (hr : Room k A) : A.units + 70 < cLine := by
  have := hr.un
  omega
end Dn

namespace Dn
open PySem PySem.Spec PyProof.Rows L2
/-- a def that stands at the top, with its promise -/
structure Has (P : Program) (w : World) (K : Frg) (mg : Str → Option Value) (base : Heap) (k : Nat) (x : Str) (ps : List Str) (S : SpD) : Prop where
  ex : ∃ f fd, FnG P w K mg base k f fd ps S ∧ mg x = some (.ref f) ∧ PySem.W.keepIn K (.ref f) = true ∧ Binds K fd ps []
structure At (K : Frg) (mg : Str → Option Value) (x qual : Str) (st : Stmt) (ps : List Str) : Prop where
  ex : ∃ f fd, FunD K x qual (defArgs st) (defBody st) (defScope st) [] [] f fd ∧ mg x = some (.ref f) ∧ Binds K fd ps []
theorem At.has {P : Program} {w : World} {K : Frg} {mg : Str → Option Value} {base : Heap} {k : Nat} {x qual : Str} {st : Stmt} {ps : List Str} {S : SpD} (h : At K mg x qual st ps) (g : ∀ {f fd}, FunD K x qual (defArgs st) (defBody st) (defScope st) [] [] f fd → FnG P w K mg base k f fd ps S) : Has P w K mg base k x ps S :=
  let ⟨f, fd, a, b, c⟩ := h.ex
  ⟨f, fd, g a, b, a.kp, c⟩
theorem takes0 {X : Cx} : Takes X W0 := fun u s' ⟨_, _, _, _, _, _, _, _, _, _, _, _, _, _, _, _, z⟩ => z.elim
section
variable {X : Cx} {W : WX} {wd : WD} {k j : Nat} {ps : List Str} {S : SpD} {x : Str} {p pos : Pos} {e : Expr} {es : List Expr} {td : TAD}
theorem d_callH (h : Has X.prog X.w X.K X.mg X.base j x ps S) (hr : Room k X.A) (hgu : X.A.guards = some []) (tk : Takes X W) (ha : DA X W wd (e :: es) td) (hj : j ≤ k := by decide) (hg : Gl X x := by rfl)
    (hdb : (x == ("__debug__" : Str)) = false := by decide) (he : starEach (e :: es) X.env = (false, eval e X.env) :: starEach es X.env := by rfl) (hpl : (backTo pos (starEach es X.env)).any (·.1) = false := by rfl) :
    DE X W wd (.Call (.Name x p) (e :: es) [] pos) (dCall S [] wd td) :=
  let ⟨f, fd, a, b, c, d⟩ := h.ex
  d_call (a.mono hj) hr hgu hg b c d .nil (fun _ => rfl) tk ha hdb he hpl
theorem d_callH0 (h : Has X.prog X.w X.K X.mg X.base j x ps S) (hr : Room k X.A) (hgu : X.A.guards = some []) (tk : Takes X W) (hj : j ≤ k := by decide) (hg : Gl X x := by rfl)
    (hdb : (x == ("__debug__" : Str)) = false := by decide) : DE X W wd (.Call (.Name x p) [] [] pos) (dCall S [] wd dNil) :=
  let ⟨f, fd, a, b, c, d⟩ := h.ex
  d_call0 (a.mono hj) hr hgu hg b c d .nil (fun _ => rfl) tk hdb
end
end Dn

namespace Dn
open PySem PySem.Spec PyProof.Rows L2
/-! how long a repr can be -/
mutual
def smD : D → Bool
  | .non => true
  | .bl _ => true
  | .int i => decide (0 ≤ i ∧ i < 10 ^ 20)
  | .tup ds => smDs ds
  | .lst ds => smDs ds
  | .ntp ds => smDs ds
  | _ => false
def smDs : List D → Bool
  | [] => true
  | d :: ds => smD d && smDs ds
end
mutual
def shB : D → Nat
  | .tup ds => 4 + shBs ds
  | .lst ds => 4 + shBs ds
  | .ntp ds => 4 + shBs ds
  | _ => 20
def shBs : List D → Nat
  | [] => 0
  | d :: ds => shB d + 2 + shBs ds
end
theorem sm_int {i : Int} (h0 : 0 ≤ i) (h1 : i < 10 ^ 20) : (Str.ofString (toString i)).length ≤ 20 ∧ i.natAbs.log2 < 1920 := by
  constructor
  · have := digits_le h0 (k := 20) (by decide) (by simpa using h1)
    rw [PySem.ofString_length]
    unfold asciiBytes at this
    rw [List.length_map, String.length_toList] at this
    exact this
  · have h2 : i.natAbs < 2 ^ 1920 := by
      have : i.natAbs < 10 ^ 20 := by omega
      exact Nat.lt_trans this (by decide)
    by_cases hz : i.natAbs = 0
    · rw [hz]
      decide
    · exact (Nat.log2_lt hz).mpr h2
theorem textFrom_len : ∀ (ts : List Str) (n : Nat) (acc : Str), (textFrom n acc ts).length ≤ acc.length + (ts.map fun t => t.length + 2).sum
  | [], n, acc => by
    rw [textFrom.eq_1]
    exact Nat.le_refl _
  | t :: ts, n, acc => by
    rw [textFrom.eq_2]
    refine Nat.le_trans (textFrom_len ts _ _) ?_
    rw [strLen_append, strLen_append, List.map_cons, List.sum_cons]
    have : (Str.ofString (if n > 0 then ", " else "")).length ≤ 2 := by
      split <;> decide
    omega
theorem join_len : ∀ (ts : List Str), ((Str.ofString ", ").join ts).length ≤ (ts.map fun t => t.length + 2).sum
  | [] => by
    rw [Str.join.eq_1]
    exact Nat.zero_le _
  | [t] => by
    rw [Str.join.eq_2]
    simp
  | t :: u :: ts => by
    rw [Str.join.eq_3 _ _ _ (by intro z; cases z), strLen_append, strLen_append, List.map_cons, List.sum_cons]
    have := join_len (u :: ts)
    have h2 : (Str.ofString ", ").length = 2 := by decide
    omega
theorem listText_len (ts : List Str) : (listText ts).length ≤ 4 + (ts.map fun t => t.length + 2).sum := by
  unfold listText
  rw [strLen_append]
  have := textFrom_len ts 0 (Str.ofString "[")
  have h1 : (Str.ofString "[").length = 1 := by decide
  have h2 : (Str.ofString "]").length = 1 := by decide
  omega
theorem tupleText_len (ts : List Str) : (tupleText ts).length ≤ 4 + (ts.map fun t => t.length + 2).sum := by
  unfold tupleText
  rw [strLen_append, strLen_append]
  have := join_len ts
  have h1 : (Str.ofString "(").length = 1 := by decide
  have h2 : (Str.ofString (if (ts.length == 1) = true then ",)" else ")")).length ≤ 2 := by
    split <;> decide
  omega
mutual
theorem sm_ok : ∀ d : D, smD d = true → (toP d).showable = true ∧ (toP d).shown.length ≤ shB d
  | .non, _ => by
    simp only [toP, PyData.showable, PyData.shown, shB]
    exact ⟨trivial, by decide⟩
  | .bl b, _ => by
    simp only [toP, PyData.showable, PyData.shown, shB]
    cases b <;> exact ⟨trivial, by decide⟩
  | .int i, h => by
    simp only [smD, decide_eq_true_eq] at h
    simp only [toP, PyData.showable, PyData.shown, shB]
    obtain ⟨a, b⟩ := sm_int h.1 h.2
    exact ⟨decide_eq_true b, a⟩
  | .tup ds, h => by
    simp only [smD] at h
    obtain ⟨a, b⟩ := sm_oks ds h
    simp only [toP, PyData.showable, PyData.shown, shB]
    refine ⟨a, Nat.le_trans (tupleText_len _) (Nat.add_le_add_left b 4)⟩
  | .lst ds, h => by
    simp only [smD] at h
    obtain ⟨a, b⟩ := sm_oks ds h
    simp only [toP, PyData.showable, PyData.shown, shB]
    refine ⟨a, Nat.le_trans (listText_len _) (Nat.add_le_add_left b 4)⟩
  | .ntp ds, h => by
    simp only [smD] at h
    obtain ⟨a, b⟩ := sm_oks ds h
    simp only [toP, PyData.showable, PyData.shown, shB]
    refine ⟨a, Nat.le_trans (tupleText_len _) (Nat.add_le_add_left b 4)⟩
  | .str _, h => by simp [smD] at h
  | .ref _, h => by simp [smD] at h
  | .ty _, h => by simp [smD] at h
  | .emp, h => by simp [smD] at h
  | .scr _, h => by simp [smD] at h
theorem sm_oks : ∀ ds : List D, smDs ds = true → PyData.showableAll (toPs ds) = true ∧ ((PyData.shownAll (toPs ds)).map fun t => t.length + 2).sum ≤ shBs ds
  | [], _ => by
    simp only [toPs, PyData.showableAll, PyData.shownAll, shBs]
    exact ⟨trivial, Nat.le_refl _⟩
  | d :: ds, h => by
    simp only [smDs, Bool.and_eq_true] at h
    obtain ⟨a, b⟩ := sm_ok d h.1
    obtain ⟨a2, b2⟩ := sm_oks ds h.2
    simp only [toPs, PyData.showableAll, PyData.shownAll, shBs, List.map_cons, List.sum_cons, a, a2]
    exact ⟨rfl, by omega⟩
end
/-! equal data are equal -/
mutual
theorem eqb_refl : ∀ d : D, smD d = true → eqb d d = true
  | .non, _ => by simp [eqb]
  | .bl b, _ => by simp [eqb]
  | .int i, _ => by simp [eqb]
  | .tup ds, h => by
    simp only [smD] at h
    simp only [eqb]
    exact eqbs_refl ds h
  | .lst ds, h => by
    simp only [smD] at h
    simp only [eqb]
    exact eqbs_refl ds h
  | .ntp ds, h => by
    simp only [smD] at h
    simp only [eqb]
    exact eqbs_refl ds h
  | .str _, h => by simp [smD] at h
  | .ref _, h => by simp [smD] at h
  | .ty _, h => by simp [smD] at h
  | .emp, h => by simp [smD] at h
  | .scr _, h => by simp [smD] at h
theorem eqbs_refl : ∀ ds : List D, smDs ds = true → eqbs ds ds = true
  | [], _ => by simp [eqbs]
  | d :: ds, h => by
    simp only [smDs, Bool.and_eq_true] at h
    simp only [eqbs, eqb_refl d h.1, eqbs_refl ds h.2, Bool.and_self]
end
mutual
def dpD : D → Nat
  | .tup ds => dpDs ds + 1
  | .lst ds => dpDs ds + 1
  | .ntp ds => dpDs ds + 1
  | _ => 0
def dpDs : List D → Nat
  | [] => 0
  | d :: ds => max (dpD d) (dpDs ds)
end
mutual
theorem okD_of : ∀ (d : D) (n : Nat), smD d = true → dpD d ≤ n → okD d n = true
  | .non, _, _, _ => rfl
  | .bl b, _, _, _ => rfl
  | .int i, _, _, _ => rfl
  | .tup ds, n, h, k => by
    simp only [smD] at h
    simp only [dpD] at k
    simp only [okD, Bool.and_eq_true]
    exact ⟨by simp; omega, okDs_of ds _ h (by omega)⟩
  | .lst ds, n, h, k => by
    simp only [smD] at h
    simp only [dpD] at k
    simp only [okD, Bool.and_eq_true]
    exact ⟨by simp; omega, okDs_of ds _ h (by omega)⟩
  | .ntp ds, n, h, k => by
    simp only [smD] at h
    simp only [dpD] at k
    simp only [okD, Bool.and_eq_true]
    exact ⟨by simp; omega, okDs_of ds _ h (by omega)⟩
  | .str _, _, h, _ => by simp [smD] at h
  | .ref _, _, h, _ => by simp [smD] at h
  | .ty _, _, h, _ => by simp [smD] at h
  | .emp, _, h, _ => by simp [smD] at h
  | .scr _, _, h, _ => by simp [smD] at h
theorem okDs_of : ∀ (ds : List D) (n : Nat), smDs ds = true → dpDs ds ≤ n → okDs ds n = true
  | [], _, _, _ => rfl
  | d :: ds, n, h, k => by
    simp only [smDs, Bool.and_eq_true] at h
    simp only [dpDs] at k
    simp only [okDs, Bool.and_eq_true]
    exact ⟨okD_of d n h.1 (by omega), okDs_of ds n h.2 (by omega)⟩
end
theorem snap_sm {M : Mem} : ∀ {d : D}, smD d = true → snap M d = d
  | .non, _ => rfl
  | .bl _, _ => rfl
  | .int _, _ => rfl
  | .tup _, _ => rfl
  | .lst _, _ => rfl
  | .ntp _, _ => rfl
  | .str _, h => by simp [smD] at h
  | .ref _, h => by simp [smD] at h
  | .ty _, h => by simp [smD] at h
  | .emp, h => by simp [smD] at h
  | .scr _, h => by simp [smD] at h
theorem repr_sm {d : D} {M : Mem} {q : QD} (h : smD d = true) (hd : dpD d ≤ 60) (hl : shB d ≤ 16000000) (z : q (.str (toP d).shown) M) : rcRepr [d] M q := by
  show (okD (snap M d) 60 = true ∧ (toP (snap M d)).showable = true ∧ (toP (snap M d)).shown.length ≤ sizeLine) ∧ q (.str (toP (snap M d)).shown) M
  rw [snap_sm h]
  obtain ⟨a, b⟩ := sm_ok d h
  exact ⟨⟨okD_of d 60 h hd, a, by rw [sizeLine_eq]; omega⟩, z⟩
theorem eq_sm {d e : D} {M : Mem} {q : QD} (h : smD d = true) (hd : dpD d ≤ 60) (h' : smD e = true) (hd' : dpD e ≤ 60) (z : q (.bl (eqb d e)) M) : rdEq d e M q := by
  show rdEqD false d e M q
  unfold rdEqD
  rw [snap_sm h, snap_sm h']
  exact ⟨⟨okD_of d 60 h hd, okD_of e 60 h' hd'⟩, z⟩
theorem ne_sm {d e : D} {M : Mem} {q : QD} (h : smD d = true) (hd : dpD d ≤ 60) (h' : smD e = true) (hd' : dpD e ≤ 60) (z : q (.bl (!eqb d e)) M) : rdNe d e M q := by
  show rdEqD true d e M q
  unfold rdEqD
  rw [snap_sm h, snap_sm h']
  exact ⟨⟨okD_of d 60 h hd, okD_of e 60 h' hd'⟩, z⟩
/-! the text of a repr has signs alone -/
theorem ok_of (s : String) : PyData.strOk (Str.ofString s) = true := by
  unfold PyData.strOk
  rw [Str.ofString_eq_toList, Array.all_eq_true]
  intro i hi
  rw [decide_eq_true_eq]
  simp only [List.getElem_toArray, List.getElem_map]
  have := (s.toList[i]'(by simpa using hi)).valid
  rcases this with h | h
  · exact Nat.lt_trans h (by decide)
  · exact h.2
theorem ok_app {x y : Str} (h1 : PyData.strOk x = true) (h2 : PyData.strOk y = true) : PyData.strOk (x ++ y) = true := by
  unfold PyData.strOk at *
  show (x.cps ++ y.cps).all _ = true
  rw [Array.all_append, h1, h2]
  rfl
theorem ok_text : ∀ (ts : List Str) (n : Nat) (acc : Str), PyData.strOk acc = true → (∀ t ∈ ts, PyData.strOk t = true) → PyData.strOk (textFrom n acc ts) = true
  | [], n, acc, h, _ => by
    rw [textFrom.eq_1]
    exact h
  | t :: ts, n, acc, h, k => by
    rw [textFrom.eq_2]
    exact ok_text ts _ _ (ok_app (ok_app h (ok_of _)) (k t List.mem_cons_self)) fun u hu => k u (List.mem_cons_of_mem _ hu)
theorem ok_join : ∀ (ts : List Str), (∀ t ∈ ts, PyData.strOk t = true) → PyData.strOk ((Str.ofString ", ").join ts) = true
  | [], _ => by
    rw [Str.join.eq_1]
    decide +kernel
  | [t], k => by
    rw [Str.join.eq_2]
    exact k t List.mem_cons_self
  | t :: u :: ts, k => by
    rw [Str.join.eq_3 _ _ _ (by intro z; cases z)]
    exact ok_app (ok_app (k t List.mem_cons_self) (ok_of _)) (ok_join (u :: ts) fun v hv => k v (List.mem_cons_of_mem _ hv))
mutual
theorem sm_sok : ∀ d : D, smD d = true → PyData.strOk (toP d).shown = true
  | .non, _ => by
    simp only [toP, PyData.shown]
    exact ok_of _
  | .bl b, _ => by
    simp only [toP, PyData.shown]
    cases b <;> exact ok_of _
  | .int i, h => by
    simp only [toP, PyData.shown]
    exact ok_of _
  | .tup ds, h => by
    simp only [smD] at h
    simp only [toP, PyData.shown]
    unfold tupleText
    exact ok_app (ok_app (ok_of _) (ok_join _ (sm_soks ds h))) (ok_of _)
  | .lst ds, h => by
    simp only [smD] at h
    simp only [toP, PyData.shown]
    unfold listText
    exact ok_app (ok_text _ _ _ (ok_of _) (sm_soks ds h)) (ok_of _)
  | .ntp ds, h => by
    simp only [smD] at h
    simp only [toP, PyData.shown]
    unfold tupleText
    exact ok_app (ok_app (ok_of _) (ok_join _ (sm_soks ds h))) (ok_of _)
  | .str _, h => by simp [smD] at h
  | .ref _, h => by simp [smD] at h
  | .ty _, h => by simp [smD] at h
  | .emp, h => by simp [smD] at h
  | .scr _, h => by simp [smD] at h
theorem sm_soks : ∀ ds : List D, smDs ds = true → ∀ t ∈ PyData.shownAll (toPs ds), PyData.strOk t = true
  | [], _, t, ht => by simp [toPs, PyData.shownAll] at ht
  | d :: ds, h, t, ht => by
    simp only [smDs, Bool.and_eq_true] at h
    simp only [toPs, PyData.shownAll] at ht
    rcases List.mem_cons.mp ht with e | e
    · rw [e]
      exact sm_sok d h.1
    · exact sm_soks ds h.2 t e
end
end Dn

namespace Dn
open PySem PySem.Spec PyProof.Rows L2
theorem DSs.eq {X : Cx} {W : WX} {w : WD} {st : List Stmt} {td td' : TSD} (h : td' = td) (a : DSs X W w st td) : DSs X W w st td' := by
  rw [h]
  exact a
/-! loops, by what holds before the turn -/
theorem for_ix {g : TGD} {b : TSD} {e : EndsD} {ds : List D} {ρ : Env} {M : Mem} (P : Nat → Env → Mem → Prop) (h0 : P 0 ρ M) (he : ∀ ρ M, P ds.length ρ M → e.nx ρ M)
    (hs : ∀ (i : Nat) (d : D) (ρ : Dn.Env) (M : Mem) (J : Dn.Env → Mem → Prop), ds[i]? = some d → P i ρ M → (∀ ρ M, P (i + 1) ρ M → J ρ M) → g d ρ M fun ρ1 M1 => b { e with nx := J, ct := J, bk := e.nx } ρ1 M1) : forD g b ds e ρ M := by
  have key : ∀ (rest : List D) (i : Nat) (ρ : Env) (M : Mem), ds.drop i = rest → i + rest.length = ds.length → P i ρ M → forD g b rest e ρ M := by
    intro rest
    induction rest with
    | nil =>
      intro i ρ M hd hl p
      have : i = ds.length := by simpa using hl
      subst this
      exact he ρ M p
    | cons d rest ih =>
      intro i ρ M hd hl p
      have hget : ds[i]? = some d := by
        have := congrArg List.head? hd
        rw [List.head?_drop] at this
        exact this
      exact hs i d ρ M (forD g b rest e) hget p fun ρ2 M2 p2 => ih (i + 1) ρ2 M2 (by rw [← List.drop_drop, hd]; rfl) (by simp at hl; omega) p2
  exact key ds 0 ρ M (by rw [List.drop_zero]) (by omega) h0
theorem comp_ix {p : Addr} {g : TGD} {tt : TTD} {te : TED} {ρ : Env} {ds : List D} {M : Mem} {q : List D → Mem → Prop} (P : Nat → List D → Mem → Prop) (h0 : P 0 [] M) (he : ∀ acc M, P ds.length acc M → M p = some (.lst acc) ∧ q acc M)
    (hs : ∀ (i : Nat) (d : D) (acc : List D) (M : Mem) (J : List D → Mem → Prop), ds[i]? = some d → P i acc M → (∀ acc M, P (i + 1) acc M → J acc M) → g d ρ M fun ρ1 M1 => tt ρ1 M1 fun k M2 => sel k (te ρ1 M2 fun y M3 => (M3 p = some (.lst acc) ∧ acc.length < sizeLine) ∧ J (acc ++ [y]) (updM M3 p (.lst (acc ++ [y])))) (J acc M2)) : compD p g tt te ρ ds [] M q := by
  have key : ∀ (rest : List D) (i : Nat) (acc : List D) (M : Mem), ds.drop i = rest → i + rest.length = ds.length → P i acc M → compD p g tt te ρ rest acc M q := by
    intro rest
    induction rest with
    | nil =>
      intro i acc M hd hl h
      have : i = ds.length := by simpa using hl
      subst this
      exact he acc M h
    | cons d rest ih =>
      intro i acc M hd hl h
      have hget : ds[i]? = some d := by
        have := congrArg List.head? hd
        rw [List.head?_drop] at this
        exact this
      exact hs i d acc M (fun acc M => compD p g tt te ρ rest acc M q) hget h fun acc2 M2 p2 => ih (i + 1) acc2 M2 (by rw [← List.drop_drop, hd]; rfl) (by simp at hl; omega) p2
  exact key ds 0 [] M (by rw [List.drop_zero]) (by omega) h0
/-- a comprehension that changes nothing -/
theorem comp_pure {p : Addr} {g : TGD} {te : TED} {ρ : Env} {ds : List D} {M : Mem} {q : List D → Mem → Prop} (f : D → D) (hp : M p = none) (hl : ds.length < sizeLine) (hq : q (ds.map f) (updM M p (.lst (ds.map f))))
    (hs : ∀ (i : Nat) (d : D) (M' : Mem) (J : D → Mem → Prop), ds[i]? = some d → (∀ c, c ≠ p → M' c = M c) → J (f d) M' → g d ρ M' fun ρ1 M1 => te ρ1 M1 J) : compD p g dYes te ρ ds [] (updM M p (.lst [])) q := by
  refine comp_ix (fun i acc M' => acc = (ds.take i).map f ∧ i ≤ ds.length ∧ M' = updM M p (.lst acc)) ⟨rfl, Nat.zero_le _, rfl⟩ (fun acc M' h => ?_) fun i d acc M' J hd h hJ => ?_
  · obtain ⟨h1, _, h2⟩ := h
    rw [List.take_length] at h1
    subst h1 h2
    exact ⟨updM_same, hq⟩
  · obtain ⟨h1, h3, h2⟩ := h
    have hi : i < ds.length := (List.getElem?_eq_some_iff.mp hd).1
    refine hs i d M' _ hd (fun c hc => by rw [h2, updM_ne hc]) ⟨⟨by rw [h2, updM_same], ?_⟩, hJ _ _ ⟨?_, hi, ?_⟩⟩
    · rw [h1, List.length_map, List.length_take]
      omega
    · rw [h1, List.take_add_one, hd, List.map_append]
      rfl
    · rw [h2]
      funext c
      unfold updM
      split <;> rfl
theorem del_upd {M : Mem} {p : Addr} {o : MO} (h : M p = none) : delM (updM M p o) p = M := by
  funext c
  unfold delM updM
  split
  · rename_i e
    rw [e, h]
  · rfl
theorem while_ix {c : TTD} {b : TSD} {e : EndsD} {ρ : Env} {M : Mem} (P : Nat → Env → Mem → Prop) (m : Nat) (h0 : P m ρ M)
    (hs : ∀ m ρ M, P m ρ M → c ρ M fun k M1 => sel k (b { e with nx := fun ρ' M' => ∃ m', m' < m ∧ P m' ρ' M', ct := fun ρ' M' => ∃ m', m' < m ∧ P m' ρ' M', bk := e.nx } ρ M1) (e.nx ρ M1)) : dWhile c b e ρ M := ⟨P, ⟨m, h0⟩, hs⟩
/-! reading what stands in the store -/
theorem aseq {M : Mem} {a : Addr} {ds : List D} (h : M a = some (.lst ds)) : anySeq M (.ref a) = some ds := by
  show seqL M (.ref a) = some ds
  unfold seqL
  simp only [h]
theorem lseq {M : Mem} {a : Addr} {ds : List D} (h : M a = some (.lst ds)) : seqL M (.ref a) = some ds := by
  unfold seqL
  simp only [h]
theorem thaw {M : Mem} {a : Addr} {ds : List D} {q : List D → Mem → Prop} (h : M a = some (.lst ds)) (z : q ds (updM M a (.frz ds))) : thawed M (.ref a) q := by
  unfold thawed
  simp only [h]
  exact z
end Dn

namespace Dn
open PySem PySem.Spec PyProof.Rows L2
theorem funD_of {K : Frg} {x qual : Str} {st : Stmt} {f : Addr} {od an : Option Addr} {osl : Array (Option Value)} {oc kV dc pm cd ct : Value} (l : K.lookup f = some ⟨oc, od, .func (PySem.W.fnOf x qual (defArgs st) (defBody st) (defScope st) .none kV dc pm an cd ct), osl⟩)
    (c : PySem.W.codeIn K cd qual = true) (k : PySem.W.keepIn K (.ref f) = true) : FunD K x qual (defArgs st) (defBody st) (defScope st) [] [] f (PySem.W.fnOf x qual (defArgs st) (defBody st) (defScope st) .none kV dc pm an cd ct) :=
  ⟨⟨oc, od, .none, kV, dc, pm, an, cd, ct, osl, rfl, l, c, .inl ⟨rfl, rfl⟩, .inl rfl⟩, k⟩
theorem At.of {K : Frg} {h : Heap} {mg : Str → Option Value} {x qual : Str} {st : Stmt} {ps : List Str} {f : Addr} {od an : Option Addr} {osl : Array (Option Value)} {oc kV dc pm cd ct : Value} (X : K.In h) (G : h.Ns mainGlobals mg)
    (a : PySem.W.nsIn K mainGlobals x = some (some (.ref f))) (l : K.lookup f = some ⟨oc, od, .func (PySem.W.fnOf x qual (defArgs st) (defBody st) (defScope st) .none kV dc pm an cd ct), osl⟩) (c : PySem.W.codeIn K cd qual = true) (k : PySem.W.keepIn K (.ref f) = true)
    (hb : ∀ (kV doc pm : Value) (an : Option Addr) (cdv ct : Value) (us : List Value), us.length = ps.length → bindArgs (PySem.W.fnOf x qual (defArgs st) (defBody st) (defScope st) .none kV doc pm an cdv ct) { pos := us } = pure (ps.zip us)) : At K mg x qual st ps :=
  ⟨f, _, funD_of l c k, PySem.W.mg_of X G a, (funD_of l c k).bindsN hb⟩
end Dn

namespace Dn
open PySem PySem.Spec PyProof.Rows L2
section
variable {P : Program} {w : World} {K : Frg} {mg : Str → Option Value} {base : Heap}
def topS (i : Nat) : Stmt := PySem.Challenge.pw_coincounters_k04_kinds_renamed.main.body.getD i (.Pass ⟨0, 0, 0, 0⟩)
abbrev s_moved : Stmt := topS 1
abbrev N_moved : List Str := ["counter", "names", "source", "to", "rates"]
theorem sc_moved : FnScope N_moved ["counter", "names"] (defScope s_moved) := ⟨rfl, rfl, rfl, by decide +kernel, rfl, by decide +kernel, by decide +kernel⟩
def t_moved (y : XD → Mem → Prop) : TSD :=
(dSeq (dAsg (dVar 0) (gdStar 2 3 (gdCons (gdName 2) (gdCons (gdName 3) (gdCons (gdName 4) gdNil)))))
  (dRet (dTup (dCons (dBin rdIx (dVar 1) (dVar 2)) (dCons (dBin rdIx (dVar 1) (dVar 3)) (dStar (dVar 4) dNil))))))
@[irreducible] def w_moved : SpD := fun ds M q y => ds.length = 2 ∧ t_moved y { nx := fun _ M1 => q .non M1, rt := q } (startD N_moved ds) M
theorem v_moved {ds : List D} {M : Mem} {q : QD} {y : XD → Mem → Prop} (h : t_moved y { nx := fun _ M1 => q .non M1, rt := q } (startD N_moved ds) M) (hl : ds.length = 2 := by rfl) : w_moved ds M q y := by
  unfold w_moved
  exact ⟨hl, h⟩
theorem g_moved {f : Addr} {fd : FuncData} (FD : FunD K "moved" "moved" (defArgs s_moved) (defBody s_moved) (defScope s_moved) [] [] f fd) : FnG P w K mg base 1 f fd ["counter", "names"] w_moved :=
  (fnG FD sc_moved t_moved fun cdv A outer s H E y hr hg => by
  have tk := takes_of (X := cxOf (L2.CX P w) P w K mg base N_moved "moved" (defScope s_moved) f cdv A outer s H E) (E := E) rfl rfl rfl rfl
  exact ((dss_cons (ds_asg (dv 0) (dg_star rfl (dgs_cons (dg_name (i := 2) sc_moved.nd rfl (by first | exact .inl rfl | exact .inr rfl)) (dgs_cons (dg_name (i := 3) sc_moved.nd rfl (by first | exact .inl rfl | exact .inr rfl)) (dgs_star (dg_name (i := 4) sc_moved.nd rfl (by first | exact .inl rfl | exact .inr rfl)) dgs_nil)))))
  (dss_one (ds_ret (d_tup (da_cons (d_ix (dv 1) (dv 2) (fun _ _ => rfl)) (da_cons (d_ix (dv 1) (dv 3) (fun _ _ => rfl)) (da_star (dv 4) da_nil))))))))).imp fun ds M q y z => by
  unfold w_moved at z
  exact z
abbrev s_renamed : Stmt := topS 2
abbrev N_renamed : List Str := ["board", "names", "kinds", "counters", "counter"]
theorem sc_renamed : FnScope N_renamed ["board", "names"] (defScope s_renamed) := ⟨rfl, rfl, rfl, by decide +kernel, rfl, by decide +kernel, by decide +kernel⟩
def t_renamed (y : XD → Mem → Prop) : TSD :=
(dSeq (dAsg (dVar 0) (gdTup 2 (gdCons (gdName 2) (gdCons (gdName 3) gdNil))))
  (dRet (dTup (dCons (dVar 2) (dCons (dCB (rcTupleN false) (dCons (dLc false (iSeq (dVar 3)) (gdName 4) dYes (dCall w_moved [] w0 (dCons (dVar 4) (dCons (dVar 1) dNil))) [4]) dNil)) dNil)))))
@[irreducible] def w_renamed : SpD := fun ds M q y => ds.length = 2 ∧ t_renamed y { nx := fun _ M1 => q .non M1, rt := q } (startD N_renamed ds) M
theorem v_renamed {ds : List D} {M : Mem} {q : QD} {y : XD → Mem → Prop} (h : t_renamed y { nx := fun _ M1 => q .non M1, rt := q } (startD N_renamed ds) M) (hl : ds.length = 2 := by rfl) : w_renamed ds M q y := by
  unfold w_renamed
  exact ⟨hl, h⟩
theorem g_renamed (h_moved : Has P w K mg base 1 "moved" ["counter", "names"] w_moved) (m_tuple : mg "tuple" = none) {f : Addr} {fd : FuncData} (FD : FunD K "renamed" "renamed" (defArgs s_renamed) (defBody s_renamed) (defScope s_renamed) [] [] f fd) : FnG P w K mg base 2 f fd ["board", "names"] w_renamed :=
  (fnG FD sc_renamed t_renamed fun cdv A outer s H E y hr hg => by
  have tk := takes_of (X := cxOf (L2.CX P w) P w K mg base N_renamed "renamed" (defScope s_renamed) f cdv A outer s H E) (E := E) rfl rfl rfl rfl
  exact ((dss_cons (ds_asg (dv 0) (dg_tup rfl (dgs_cons (dg_name (i := 2) sc_renamed.nd rfl (by first | exact .inl rfl | exact .inr rfl)) (dgs_cons (dg_name (i := 3) sc_renamed.nd rfl (by first | exact .inl rfl | exact .inr rfl)) dgs_nil))))
  (dss_one (ds_ret (d_tup (da_cons (dv 2) (da_cons (d_callT (dc_tupleN false) (by rfl) m_tuple (by decide +kernel) (da_cons (d_lc (own := [("counter", 4)]) false rfl sc_renamed.nd (di_seq (dv 3)) (show BlkOk N_renamed (defScope s_renamed) _ [("counter", 4)] from ⟨rfl, by decide +kernel, by decide +kernel, by decide +kernel, by decide +kernel⟩)
  (fun _ _ _ _ _ => (dgo_name (i := 4) sc_renamed.nd rfl (by first | exact .inl rfl | exact .inr rfl))) (fun _ _ _ _ _ => dts_nil)
  (fun _ _ _ _ _ => (d_callH h_moved hr hg takes0 (da_cons (dv 4) (da_cons (dv 1) da_nil))))) da_nil)) da_nil)))))))).imp fun ds M q y z => by
  unfold w_renamed at z
  exact z
abbrev s_l_deck : Stmt := topS 4
abbrev N_l_deck : List Str := ["_law_script", "_law_cell"]
theorem sc_l_deck : FnScope N_l_deck ["_law_script"] (defScope s_l_deck) := ⟨rfl, rfl, rfl, by decide +kernel, rfl, by decide +kernel, by decide +kernel⟩
def t_l_deck (y : XD → Mem → Prop) : TSD :=
(dRet (dNew (dCons (dLc true (iSeq (dSl false (dVar 0) dNoPart (dPart (dC (.int 63))))) (gdName 1) dYes (dCB rcAbs (dCons (dVar 1) dNil)) [1]) (dCons (dC (.int 0)) dNil))))
@[irreducible] def w_l_deck : SpD := fun ds M q y => ds.length = 1 ∧ t_l_deck y { nx := fun _ M1 => q .non M1, rt := q } (startD N_l_deck ds) M
theorem v_l_deck {ds : List D} {M : Mem} {q : QD} {y : XD → Mem → Prop} (h : t_l_deck y { nx := fun _ M1 => q .non M1, rt := q } (startD N_l_deck ds) M) (hl : ds.length = 1 := by rfl) : w_l_deck ds M q y := by
  unfold w_l_deck
  exact ⟨hl, h⟩
theorem g_l_deck (m_abs : mg "abs" = none) {f : Addr} {fd : FuncData} (FD : FunD K "_law_deck" "_law_deck" (defArgs s_l_deck) (defBody s_l_deck) (defScope s_l_deck) [] [] f fd) : FnG P w K mg base 1 f fd ["_law_script"] w_l_deck :=
  (fnG FD sc_l_deck t_l_deck fun cdv A outer s H E y hr hg => by
  have tk := takes_of (X := cxOf (L2.CX P w) P w K mg base N_l_deck "_law_deck" (defScope s_l_deck) f cdv A outer s H E) (E := E) rfl rfl rfl rfl
  exact ((dss_one (ds_ret (d_new (da_cons (d_lc (own := [("_law_cell", 1)]) true rfl sc_l_deck.nd (di_seq (d_sl false (dv 0) do_none (do_some d_int))) (show BlkOk N_l_deck (defScope s_l_deck) _ [("_law_cell", 1)] from ⟨rfl, by decide +kernel, by decide +kernel, by decide +kernel, by decide +kernel⟩)
  (fun _ _ _ _ _ => (dgo_name (i := 1) sc_l_deck.nd rfl (by first | exact .inl rfl | exact .inr rfl))) (fun _ _ _ _ _ => dts_nil)
  (fun _ _ _ _ _ => (d_callB dc_abs (by rfl) m_abs (by decide +kernel) (da_cons (dv 1) da_nil)))) (da_cons d_int da_nil))))))).imp fun ds M q y z => by
  unfold w_l_deck at z
  exact z
def T_l_draw_17 (y : XD → Mem → Prop) : TSD :=
(dSeq (dIfS (dTst (dBin rdGe (dVar 2) (dBin rdPow (dC (.int 10)) (dC (.int 18))))) (dSeq (dAsg (dBin rdDiv (dVar 2) (dVar 1)) (gdSub (dBin rdIx (dVar 0) (dC (.int 0))) (dVar 3) rsL))
  (dRet (dBin rdMod (dVar 2) (dVar 1)))) dNext)
  (dRet (dBin rdMod (dBin rdDiv (dBin rdMod (dBin rdPow (dBin rdAdd (dBin rdAdd (dBin rdMod (dVar 2) (dC (.int 2147483587))) (dBin rdMul (dC (.int 7919)) (dBin rdIx (dVar 0) (dC (.int 1))))) (dC (.int 1))) (dC (.int 5))) (dC (.int 2147483647))) (dC (.int 7))) (dVar 1))))
@[irreducible] def t_l_draw_17 (y : XD → Mem → Prop) : TSD := T_l_draw_17 y
theorem e_l_draw_17 (y : XD → Mem → Prop) : t_l_draw_17 y = T_l_draw_17 y := by
  unfold t_l_draw_17
  rfl
theorem u_l_draw_17 {y : XD → Mem → Prop} {e : EndsD} {ρ : Dn.Env} {M : Mem} (h : T_l_draw_17 y e ρ M) : t_l_draw_17 y e ρ M := by
  unfold t_l_draw_17
  exact h
abbrev s_l_draw : Stmt := topS 5
abbrev N_l_draw : List Str := ["_law_deck_here", "_law_limit", "_law_cell", "_law_index"]
theorem sc_l_draw : FnScope N_l_draw ["_law_deck_here", "_law_limit"] (defScope s_l_draw) := ⟨rfl, rfl, rfl, by decide +kernel, rfl, by decide +kernel, by decide +kernel⟩
def t_l_draw (y : XD → Mem → Prop) : TSD :=
(dSeq (dAsg (dBin rdAdd (dBin rdIx (dVar 0) (dC (.int 1))) (dC (.int 1))) (gdSub (dVar 0) (dC (.int 1)) rsL))
  (dSeq (dAsg (dTup (dCons (dC (.int 0)) (dCons (dNeg (dC (.int 1))) dNil))) (gdTup 2 (gdCons (gdName 2) (gdCons (gdName 3) gdNil))))
  (dSeq (dIfS (dTst (dBin rdGt (dCB rcLen (dCons (dBin rdIx (dVar 0) (dC (.int 0))) dNil)) (dC (.int 0)))) (dSeq (dAsg (dBin rdMod (dBin rdIx (dVar 0) (dC (.int 1))) (dCB rcLen (dCons (dBin rdIx (dVar 0) (dC (.int 0))) dNil))) (gdName 3))
  (dAsg (dBin rdIx (dBin rdIx (dVar 0) (dC (.int 0))) (dVar 3)) (gdName 2))) dNext)
  (t_l_draw_17 y))))
@[irreducible] def w_l_draw : SpD := fun ds M q y => ds.length = 2 ∧ t_l_draw y { nx := fun _ M1 => q .non M1, rt := q } (startD N_l_draw ds) M
theorem v_l_draw {ds : List D} {M : Mem} {q : QD} {y : XD → Mem → Prop} (h : t_l_draw y { nx := fun _ M1 => q .non M1, rt := q } (startD N_l_draw ds) M) (hl : ds.length = 2 := by rfl) : w_l_draw ds M q y := by
  unfold w_l_draw
  exact ⟨hl, h⟩
theorem g_l_draw (m_len : mg "len" = none) {f : Addr} {fd : FuncData} (FD : FunD K "_law_draw" "_law_draw" (defArgs s_l_draw) (defBody s_l_draw) (defScope s_l_draw) [] [] f fd) : FnG P w K mg base 1 f fd ["_law_deck_here", "_law_limit"] w_l_draw :=
  (fnG FD sc_l_draw t_l_draw fun cdv A outer s H E y hr hg => by
  have tk := takes_of (X := cxOf (L2.CX P w) P w K mg base N_l_draw "_law_draw" (defScope s_l_draw) f cdv A outer s H E) (E := E) rfl rfl rfl rfl
  exact ((dss_cons (ds_asg (d_bin do_add (d_ix (dv 0) d_int (fun _ _ => rfl)) d_int) (dg_sub (dv 0) d_int dset_list))
  (dss_cons (ds_asg (d_tup (da_cons d_int (da_cons (d_neg d_int) da_nil))) (dg_tup rfl (dgs_cons (dg_name (i := 2) sc_l_draw.nd rfl (by first | exact .inl rfl | exact .inr rfl)) (dgs_cons (dg_name (i := 3) sc_l_draw.nd rfl (by first | exact .inl rfl | exact .inr rfl)) dgs_nil))))
  (dss_cons (ds_if (dt_cmp do_gt (d_callB dc_len (by rfl) m_len (by decide +kernel) (da_cons (d_ix (dv 0) d_int (fun _ _ => rfl)) da_nil)) d_int (by rfl)) (dss_cons (ds_set 3 sc_l_draw.nd rfl (by first | exact .inl rfl | exact .inr rfl) (d_bin do_mod (d_ix (dv 0) d_int (fun _ _ => rfl)) (d_callB dc_len (by rfl) m_len (by decide +kernel) (da_cons (d_ix (dv 0) d_int (fun _ _ => rfl)) da_nil))))
  (dss_one (ds_set 2 sc_l_draw.nd rfl (by first | exact .inl rfl | exact .inr rfl) (d_ix (d_ix (dv 0) d_int (fun _ _ => rfl)) (dv 3) (fun _ _ => rfl))))) dss_nil)
  (DSs.eq (e_l_draw_17 y) (dss_cons (ds_if (dt_cmp do_ge (dv 2) (d_bin do_pow d_int d_int) (by rfl)) (dss_cons (ds_asg (d_bin do_div (dv 2) (dv 1)) (dg_sub (d_ix (dv 0) d_int (fun _ _ => rfl)) (dv 3) dset_list))
  (dss_one (ds_ret (d_bin do_mod (dv 2) (dv 1))))) dss_nil)
  (dss_one (ds_ret (d_bin do_mod (d_bin do_div (d_bin do_mod (d_bin do_pow (d_bin do_add (d_bin do_add (d_bin do_mod (dv 2) d_int) (d_bin do_mul d_int (d_ix (dv 0) d_int (fun _ _ => rfl)))) d_int) d_int) d_int) d_int) (dv 1))))))))))).imp fun ds M q y z => by
  unfold w_l_draw at z
  exact z
abbrev s_l_same : Stmt := topS 6
abbrev N_l_same : List Str := ["_law_value", "_law_due"]
theorem sc_l_same : FnScope N_l_same ["_law_value", "_law_due"] (defScope s_l_same) := ⟨rfl, rfl, rfl, by decide +kernel, rfl, by decide +kernel, by decide +kernel⟩
def t_l_same (y : XD → Mem → Prop) : TSD :=
(dRet (dBin rdEq (dCB rcRepr (dCons (dVar 0) dNil)) (dCB rcRepr (dCons (dVar 1) dNil))))
@[irreducible] def w_l_same : SpD := fun ds M q y => ds.length = 2 ∧ t_l_same y { nx := fun _ M1 => q .non M1, rt := q } (startD N_l_same ds) M
theorem v_l_same {ds : List D} {M : Mem} {q : QD} {y : XD → Mem → Prop} (h : t_l_same y { nx := fun _ M1 => q .non M1, rt := q } (startD N_l_same ds) M) (hl : ds.length = 2 := by rfl) : w_l_same ds M q y := by
  unfold w_l_same
  exact ⟨hl, h⟩
theorem g_l_same (m_repr : mg "repr" = none) {f : Addr} {fd : FuncData} (FD : FunD K "_law_same" "_law_same" (defArgs s_l_same) (defBody s_l_same) (defScope s_l_same) [] [] f fd) : FnG P w K mg base 1 f fd ["_law_value", "_law_due"] w_l_same :=
  (fnG FD sc_l_same t_l_same fun cdv A outer s H E y hr hg => by
  have tk := takes_of (X := cxOf (L2.CX P w) P w K mg base N_l_same "_law_same" (defScope s_l_same) f cdv A outer s H E) (E := E) rfl rfl rfl rfl
  exact ((dss_one (ds_ret (d_cmp (do_eq (u64 hr)) (d_callB (dc_repr (u70 hr) hg) (by rfl) m_repr (by decide +kernel) (da_cons (dv 0) da_nil)) (d_callB (dc_repr (u70 hr) hg) (by rfl) m_repr (by decide +kernel) (da_cons (dv 1) da_nil)) (by rfl)))))).imp fun ds M q y z => by
  unfold w_l_same at z
  exact z
abbrev s_l_counter : Stmt := topS 7
abbrev N_l_counter : List Str := ["_law_deck_here", "_law_kinds", "_law_source", "_law_step", "_law_give"]
theorem sc_l_counter : FnScope N_l_counter ["_law_deck_here", "_law_kinds"] (defScope s_l_counter) := ⟨rfl, rfl, rfl, by decide +kernel, rfl, by decide +kernel, by decide +kernel⟩
def t_l_counter (y : XD → Mem → Prop) : TSD :=
(dSeq (dPar 2 3 (dCons (dCall w_l_draw [] (wB y) (dCons (dVar 0) (dCons (dVar 1) dNil))) (dCons (dBin rdAdd (dC (.int 1)) (dCall w_l_draw [] (wB y) (dCons (dVar 0) (dCons (dBin rdSub (dVar 1) (dC (.int 1))) dNil)))) dNil)))
  (dSeq (dAsg (dBin rdAdd (dC (.int 1)) (dCall w_l_draw [] (wB y) (dCons (dVar 0) (dCons (dC (.int 5)) dNil)))) (gdName 4))
  (dRet (dTup (dCons (dVar 2) (dCons (dBin rdMod (dBin rdAdd (dVar 2) (dVar 3)) (dVar 1)) (dCons (dVar 4) (dCons (dBin rdAdd (dC (.int 1)) (dCall w_l_draw [] (wB y) (dCons (dVar 0) (dCons (dC (.int 5)) dNil)))) dNil))))))))
@[irreducible] def w_l_counter : SpD := fun ds M q y => ds.length = 2 ∧ t_l_counter y { nx := fun _ M1 => q .non M1, rt := q } (startD N_l_counter ds) M
theorem v_l_counter {ds : List D} {M : Mem} {q : QD} {y : XD → Mem → Prop} (h : t_l_counter y { nx := fun _ M1 => q .non M1, rt := q } (startD N_l_counter ds) M) (hl : ds.length = 2 := by rfl) : w_l_counter ds M q y := by
  unfold w_l_counter
  exact ⟨hl, h⟩
theorem g_l_counter (h_l_draw : Has P w K mg base 1 "_law_draw" ["_law_deck_here", "_law_limit"] w_l_draw) {f : Addr} {fd : FuncData} (FD : FunD K "_law_counter" "_law_counter" (defArgs s_l_counter) (defBody s_l_counter) (defScope s_l_counter) [] [] f fd) : FnG P w K mg base 2 f fd ["_law_deck_here", "_law_kinds"] w_l_counter :=
  (fnG FD sc_l_counter t_l_counter fun cdv A outer s H E y hr hg => by
  have tk := takes_of (X := cxOf (L2.CX P w) P w K mg base N_l_counter "_law_counter" (defScope s_l_counter) f cdv A outer s H E) (E := E) rfl rfl rfl rfl
  exact ((dss_cons (ds_par 2 3 rfl sc_l_counter.nd rfl rfl (by decide) rfl rfl (da_cons (d_callH h_l_draw hr hg tk (da_cons (dv 0) (da_cons (dv 1) da_nil))) (da_cons (d_bin do_add d_int (d_callH h_l_draw hr hg tk (da_cons (dv 0) (da_cons (d_bin do_sub (dv 1) d_int) da_nil)))) da_nil)) (by rfl))
  (dss_cons (ds_set 4 sc_l_counter.nd rfl (by first | exact .inl rfl | exact .inr rfl) (d_bin do_add d_int (d_callH h_l_draw hr hg tk (da_cons (dv 0) (da_cons d_int da_nil)))))
  (dss_one (ds_ret (d_tup (da_cons (dv 2) (da_cons (d_bin do_mod (d_bin do_add (dv 2) (dv 3)) (dv 1)) (da_cons (dv 4) (da_cons (d_bin do_add d_int (d_callH h_l_draw hr hg tk (da_cons (dv 0) (da_cons d_int da_nil)))) da_nil))))))))))).imp fun ds M q y z => by
  unfold w_l_counter at z
  exact z
def T_l_board_30 (y : XD → Mem → Prop) : TSD :=
(dSeq (dDrop (dBM "list" (rmL fApp) (dVar 4) (dCons (dCall w_l_counter [] (wB y) (dCons (dVar 0) (dCons (dVar 3) dNil))) dNil)))
  (dIfS (dTst (dBin rdEq (dCall w_l_draw [] (wB y) (dCons (dVar 0) (dCons (dC (.int 6)) dNil))) (dC (.int 0)))) (dDrop (dBM "list" (rmL fApp) (dVar 4) (dCons (dBin rdIx (dVar 4) (dCall w_l_draw [] (wB y) (dCons (dVar 0) (dCons (dCB rcLen (dCons (dVar 4) dNil)) dNil)))) dNil))) dNext))
@[irreducible] def t_l_board_30 (y : XD → Mem → Prop) : TSD := T_l_board_30 y
theorem e_l_board_30 (y : XD → Mem → Prop) : t_l_board_30 y = T_l_board_30 y := by
  unfold t_l_board_30
  rfl
theorem u_l_board_30 {y : XD → Mem → Prop} {e : EndsD} {ρ : Dn.Env} {M : Mem} (h : T_l_board_30 y e ρ M) : t_l_board_30 y e ρ M := by
  unfold t_l_board_30
  exact h
abbrev s_l_board : Stmt := topS 8
abbrev N_l_board : List Str := ["_law_deck_here", "_law_most", "_law_many", "_law_kinds", "_law_found", "_law_k"]
theorem sc_l_board : FnScope N_l_board ["_law_deck_here", "_law_most", "_law_many"] (defScope s_l_board) := ⟨rfl, rfl, rfl, by decide +kernel, rfl, by decide +kernel, by decide +kernel⟩
def t_l_board (y : XD → Mem → Prop) : TSD :=
(dSeq (dPar 3 4 (dCons (dBin rdIx (dLst (dCons (dBin rdAdd (dC (.int 1)) (dCall w_l_draw [] (wB y) (dCons (dVar 0) (dCons (dVar 1) dNil)))) (dCons (dVar 1) dNil))) (dCall w_l_draw [] (wB y) (dCons (dVar 0) (dCons (dC (.int 2)) dNil)))) (dCons (dNew dNil) dNil)))
  (dSeq (dFor (iR1 (dCons (dBin rdMul (dCall w_l_draw [] (wB y) (dCons (dVar 0) (dCons (dBin rdAdd (dVar 2) (dC (.int 1))) dNil))) (dCB rcInt (dCons (dBin rdGt (dVar 3) (dC (.int 1))) dNil))) dNil)) (gdName 5)
  (t_l_board_30 y))
  (dRet (dTup (dCons (dVar 3) (dCons (dCB rcTuple (dCons (dSl false (dVar 4) dNoPart (dPart (dVar 2))) dNil)) dNil))))))
@[irreducible] def w_l_board : SpD := fun ds M q y => ds.length = 3 ∧ t_l_board y { nx := fun _ M1 => q .non M1, rt := q } (startD N_l_board ds) M
theorem v_l_board {ds : List D} {M : Mem} {q : QD} {y : XD → Mem → Prop} (h : t_l_board y { nx := fun _ M1 => q .non M1, rt := q } (startD N_l_board ds) M) (hl : ds.length = 3 := by rfl) : w_l_board ds M q y := by
  unfold w_l_board
  exact ⟨hl, h⟩
theorem g_l_board (h_l_counter : Has P w K mg base 2 "_law_counter" ["_law_deck_here", "_law_kinds"] w_l_counter) (h_l_draw : Has P w K mg base 1 "_law_draw" ["_law_deck_here", "_law_limit"] w_l_draw) (m_int : mg "int" = none) (m_len : mg "len" = none) (m_range : mg "range" = none) (m_tuple : mg "tuple" = none) {f : Addr} {fd : FuncData} (FD : FunD K "_law_board" "_law_board" (defArgs s_l_board) (defBody s_l_board) (defScope s_l_board) [] [] f fd) : FnG P w K mg base 3 f fd ["_law_deck_here", "_law_most", "_law_many"] w_l_board :=
  (fnG FD sc_l_board t_l_board fun cdv A outer s H E y hr hg => by
  have tk := takes_of (X := cxOf (L2.CX P w) P w K mg base N_l_board "_law_board" (defScope s_l_board) f cdv A outer s H E) (E := E) rfl rfl rfl rfl
  exact ((dss_cons (ds_par 3 4 rfl sc_l_board.nd rfl rfl (by decide) rfl rfl (da_cons (d_ix (d_lst (da_cons (d_bin do_add d_int (d_callH h_l_draw hr hg tk (da_cons (dv 0) (da_cons (dv 1) da_nil)))) (da_cons (dv 1) da_nil))) (d_callH h_l_draw hr hg tk (da_cons (dv 0) (da_cons d_int da_nil))) (fun _ _ => rfl)) (da_cons (d_new da_nil) da_nil)) (by rfl))
  (dss_cons (ds_for PassesOwn.leaving rfl (di_range1 (by rfl) m_range (da_cons (d_bin do_mul (d_callH h_l_draw hr hg tk (da_cons (dv 0) (da_cons (d_bin do_add (dv 2) d_int) da_nil))) (d_callT dc_int (by rfl) m_int (by decide +kernel) (da_cons (d_cmp do_gt (dv 3) d_int (by rfl)) da_nil))) da_nil)) (dg_name (i := 5) sc_l_board.nd rfl (by first | exact .inl rfl | exact .inr rfl))
  (DSs.eq (e_l_board_30 y) (dss_cons (ds_expr (d_bm PySem.F.plainAttrs_list PySem.F.slot_list_append PySem.F.type_list_append dm_append (dv 4) (da_cons (d_callH h_l_counter hr hg tk (da_cons (dv 0) (da_cons (dv 3) da_nil))) da_nil)))
  (dss_one (ds_if (dt_cmp (do_eq (u64 hr)) (d_callH h_l_draw hr hg tk (da_cons (dv 0) (da_cons d_int da_nil))) d_int (by rfl)) (dss_one (ds_expr (d_bm PySem.F.plainAttrs_list PySem.F.slot_list_append PySem.F.type_list_append dm_append (dv 4) (da_cons (d_ix (dv 4) (d_callH h_l_draw hr hg tk (da_cons (dv 0) (da_cons (d_callB dc_len (by rfl) m_len (by decide +kernel) (da_cons (dv 4) da_nil)) da_nil))) (fun _ _ => rfl)) da_nil)))) dss_nil)))))
  (dss_one (ds_ret (d_tup (da_cons (dv 3) (da_cons (d_callT dc_tuple (by rfl) m_tuple (by decide +kernel) (da_cons (d_sl false (dv 4) do_none (do_some (dv 2))) da_nil)) da_nil))))))))).imp fun ds M q y z => by
  unfold w_l_board at z
  exact z
abbrev s_l_names : Stmt := topS 9
abbrev N_l_names : List Str := ["_law_deck_here", "_law_count", "_law_left", "_law_k"]
theorem sc_l_names : FnScope N_l_names ["_law_deck_here", "_law_count"] (defScope s_l_names) := ⟨rfl, rfl, rfl, by decide +kernel, rfl, by decide +kernel, by decide +kernel⟩
def t_l_names (y : XD → Mem → Prop) : TSD :=
(dSeq (dAsg (dLstRg true (dRg1 (dVar 1))) (gdName 2))
  (dRet (dCB (rcTupleN true) (dCons (dLc false (iR1 (dCons (dVar 1) dNil)) (gdName 3) dYes (dBM "list" (rmL fPopAt) (dVar 2) (dCons (dCall w_l_draw [] w0 (dCons (dVar 0) (dCons (dCB rcLen (dCons (dVar 2) dNil)) dNil))) dNil)) [3]) dNil))))
@[irreducible] def w_l_names : SpD := fun ds M q y => ds.length = 2 ∧ t_l_names y { nx := fun _ M1 => q .non M1, rt := q } (startD N_l_names ds) M
theorem v_l_names {ds : List D} {M : Mem} {q : QD} {y : XD → Mem → Prop} (h : t_l_names y { nx := fun _ M1 => q .non M1, rt := q } (startD N_l_names ds) M) (hl : ds.length = 2 := by rfl) : w_l_names ds M q y := by
  unfold w_l_names
  exact ⟨hl, h⟩
theorem g_l_names (h_l_draw : Has P w K mg base 1 "_law_draw" ["_law_deck_here", "_law_limit"] w_l_draw) (m_len : mg "len" = none) (m_list : mg "list" = none) (m_range : mg "range" = none) (m_tuple : mg "tuple" = none) {f : Addr} {fd : FuncData} (FD : FunD K "_law_names" "_law_names" (defArgs s_l_names) (defBody s_l_names) (defScope s_l_names) [] [] f fd) : FnG P w K mg base 2 f fd ["_law_deck_here", "_law_count"] w_l_names :=
  (fnG FD sc_l_names t_l_names fun cdv A outer s H E y hr hg => by
  have tk := takes_of (X := cxOf (L2.CX P w) P w K mg base N_l_names "_law_names" (defScope s_l_names) f cdv A outer s H E) (E := E) rfl rfl rfl rfl
  exact ((dss_cons (ds_set 2 sc_l_names.nd rfl (by first | exact .inl rfl | exact .inr rfl) (d_lstRg true rfl (by rfl) m_list (drg_1 (by rfl) m_range (dv 1))))
  (dss_one (ds_ret (d_callT (dc_tupleN true) (by rfl) m_tuple (by decide +kernel) (da_cons (d_lc (own := [("_law_k", 3)]) false rfl sc_l_names.nd (di_range1 (by rfl) m_range (da_cons (dv 1) da_nil)) (show BlkOk N_l_names (defScope s_l_names) _ [("_law_k", 3)] from ⟨rfl, by decide +kernel, by decide +kernel, by decide +kernel, by decide +kernel⟩)
  (fun _ _ _ _ _ => (dgo_name (i := 3) sc_l_names.nd rfl (by first | exact .inl rfl | exact .inr rfl))) (fun _ _ _ _ _ => dts_nil)
  (fun _ _ _ _ _ => (d_bm PySem.F.plainAttrs_list PySem.F.slot_list_pop PySem.F.type_list_pop dm_popAt (dv 2) (da_cons (d_callH h_l_draw hr hg takes0 (da_cons (dv 0) (da_cons (d_callB dc_len (by rfl) m_len (by decide +kernel) (da_cons (dv 2) da_nil)) da_nil))) da_nil)))) da_nil))))))).imp fun ds M q y z => by
  unfold w_l_names at z
  exact z
def T_law_45 (y : XD → Mem → Prop) : TSD :=
(dAsg (dBin rdAdd (dVar 7) (dTup (dCons (dTup (dCons (dBin rdIx (dVar 5) (dVar 8)) (dCons (dBin rdIx (dVar 5) (dVar 9)) (dCons (dVar 10) (dCons (dVar 11) dNil))))) dNil))) (gdName 7))
@[irreducible] def t_law_45 (y : XD → Mem → Prop) : TSD := T_law_45 y
theorem e_law_45 (y : XD → Mem → Prop) : t_law_45 y = T_law_45 y := by
  unfold t_law_45
  rfl
theorem u_law_45 {y : XD → Mem → Prop} {e : EndsD} {ρ : Dn.Env} {M : Mem} (h : T_law_45 y e ρ M) : t_law_45 y e ρ M := by
  unfold t_law_45
  exact h
def T_law_50 (y : XD → Mem → Prop) : TSD :=
(dSeq (dAsg (dCB (rcTupleN false) (dCons (dLc false (iSeq (dVar 4)) (gdName 16) dYes (dBMT rmIndex (dVar 5) (dCons (dVar 16) dNil)) [16]) dNil)) (gdName 14))
  (dIfS (dTst (dBin rdNe (dCall w_renamed [] (wB y) (dCons (dVar 12) (dCons (dVar 14) dNil))) (dVar 3))) (dRet (dC (.bl false))) dNext))
@[irreducible] def t_law_50 (y : XD → Mem → Prop) : TSD := T_law_50 y
theorem e_law_50 (y : XD → Mem → Prop) : t_law_50 y = T_law_50 y := by
  unfold t_law_50
  rfl
theorem u_law_50 {y : XD → Mem → Prop} {e : EndsD} {ρ : Dn.Env} {M : Mem} (h : T_law_50 y e ρ M) : t_law_50 y e ρ M := by
  unfold t_law_50
  exact h
def T_law_46 (y : XD → Mem → Prop) : TSD :=
(dSeq (dAsg (dTup (dCons (dBin rdIx (dVar 3) (dC (.int 0))) (dCons (dVar 7) dNil))) (gdName 12))
  (dSeq (dAsg (dLc false (iR1 (dCons (dC (.int 2)) dNil)) (gdName 15) dYes (dCall w_renamed [] w0 (dCons (dVar 3) (dCons (dVar 5) dNil))) [15]) (gdName 13))
  (dSeq (dIfS (dOr (dNot (dTst (dCall w_l_same [] (wB y) (dCons (dVar 13) (dCons (dLst (dCons (dVar 12) (dCons (dVar 12) dNil))) dNil))))) (dTst (dBin rdNe (dCB rcRepr (dCons (dLst (dCons (dVar 3) (dCons (dVar 5) dNil))) dNil)) (dVar 6)))) (dRet (dC (.bl false))) dNext)
  (t_law_50 y))))
@[irreducible] def t_law_46 (y : XD → Mem → Prop) : TSD := T_law_46 y
theorem e_law_46 (y : XD → Mem → Prop) : t_law_46 y = T_law_46 y := by
  unfold t_law_46
  rfl
theorem u_law_46 {y : XD → Mem → Prop} {e : EndsD} {ρ : Dn.Env} {M : Mem} (h : T_law_46 y e ρ M) : t_law_46 y e ρ M := by
  unfold t_law_46
  exact h
def T_law_43 (y : XD → Mem → Prop) : TSD :=
(dSeq (dPar 6 7 (dCons (dCB rcRepr (dCons (dLst (dCons (dVar 3) (dCons (dVar 5) dNil))) dNil)) (dCons (dTup dNil) dNil)))
  (dSeq (dFor (iSeq (dBin rdIx (dVar 3) (dC (.int 1)))) (gdTup 4 (gdCons (gdName 8) (gdCons (gdName 9) (gdCons (gdName 10) (gdCons (gdName 11) gdNil)))))
  (t_law_45 y))
  (t_law_46 y)))
@[irreducible] def t_law_43 (y : XD → Mem → Prop) : TSD := T_law_43 y
theorem e_law_43 (y : XD → Mem → Prop) : t_law_43 y = T_law_43 y := by
  unfold t_law_43
  rfl
theorem u_law_43 {y : XD → Mem → Prop} {e : EndsD} {ρ : Dn.Env} {M : Mem} (h : T_law_43 y e ρ M) : t_law_43 y e ρ M := by
  unfold t_law_43
  exact h
def T_law_53 (y : XD → Mem → Prop) : TSD :=
(dIfS (dTst (dBin rdNe (dCB rcRepr (dCons (dCall w_renamed [] (wB y) (dCons (dVar 3) (dCons (dVar 4) dNil))) dNil)) (dCB rcRepr (dCons (dVar 3) dNil)))) (dRet (dC (.bl false))) dNext)
@[irreducible] def t_law_53 (y : XD → Mem → Prop) : TSD := T_law_53 y
theorem e_law_53 (y : XD → Mem → Prop) : t_law_53 y = T_law_53 y := by
  unfold t_law_53
  rfl
theorem u_law_53 {y : XD → Mem → Prop} {e : EndsD} {ρ : Dn.Env} {M : Mem} (h : T_law_53 y e ρ M) : t_law_53 y e ρ M := by
  unfold t_law_53
  exact h
def T_law_40 (y : XD → Mem → Prop) : TSD :=
(dSeq (dAsg (dCall w_l_board [] (wB y) (dCons (dVar 1) (dCons (dBin rdIx (dLst (dCons (dC (.int 4)) (dCons (dC (.int 2)) (dCons (dC (.int 3)) dNil)))) (dBin rdMod (dVar 2) (dC (.int 3)))) (dCons (dC (.int 8)) dNil)))) (gdName 3))
  (dSeq (dAsg (dTupRg true (dRg1 (dBin rdIx (dVar 3) (dC (.int 0))))) (gdName 4))
  (dSeq (dFor (iSeq (dLst (dCons (dCall w_l_names [] (wB y) (dCons (dVar 1) (dCons (dBin rdIx (dVar 3) (dC (.int 0))) dNil))) (dCons (dVar 4) (dCons (dRev true false (dVar 4)) dNil))))) (gdName 5)
  (t_law_43 y))
  (t_law_53 y))))
@[irreducible] def t_law_40 (y : XD → Mem → Prop) : TSD := T_law_40 y
theorem e_law_40 (y : XD → Mem → Prop) : t_law_40 y = T_law_40 y := by
  unfold t_law_40
  rfl
theorem u_law_40 {y : XD → Mem → Prop} {e : EndsD} {ρ : Dn.Env} {M : Mem} (h : T_law_40 y e ρ M) : t_law_40 y e ρ M := by
  unfold t_law_40
  exact h
abbrev s_law : Stmt := topS 10
abbrev N_law : List Str := ["_law_script", "_law_deck_here", "_law_turn", "_law_board_here", "_law_plain", "_law_names_here", "_law_before", "_law_rows", "_law_source", "_law_to", "_law_give", "_law_get", "_law_due", "_law_found", "_law_back", "_law_again", "_law_kind"]
theorem sc_law : FnScope N_law ["_law_script"] (defScope s_law) := ⟨rfl, rfl, rfl, by decide +kernel, rfl, by decide +kernel, by decide +kernel⟩
def t_law (y : XD → Mem → Prop) : TSD :=
(dSeq (dAsg (dCall w_l_deck [] (wB y) (dCons (dVar 0) dNil)) (gdName 1))
  (dSeq (dFor (iR1 (dCons (dC (.int 10)) dNil)) (gdName 2)
  (t_law_40 y))
  (dRet (dC (.bl true)))))
@[irreducible] def w_law : SpD := fun ds M q y => ds.length = 1 ∧ t_law y { nx := fun _ M1 => q .non M1, rt := q } (startD N_law ds) M
theorem v_law {ds : List D} {M : Mem} {q : QD} {y : XD → Mem → Prop} (h : t_law y { nx := fun _ M1 => q .non M1, rt := q } (startD N_law ds) M) (hl : ds.length = 1 := by rfl) : w_law ds M q y := by
  unfold w_law
  exact ⟨hl, h⟩
theorem g_law (h_l_board : Has P w K mg base 3 "_law_board" ["_law_deck_here", "_law_most", "_law_many"] w_l_board) (h_l_deck : Has P w K mg base 1 "_law_deck" ["_law_script"] w_l_deck) (h_l_names : Has P w K mg base 2 "_law_names" ["_law_deck_here", "_law_count"] w_l_names) (h_l_same : Has P w K mg base 1 "_law_same" ["_law_value", "_law_due"] w_l_same) (h_renamed : Has P w K mg base 2 "renamed" ["board", "names"] w_renamed) (m_range : mg "range" = none) (m_repr : mg "repr" = none) (m_tuple : mg "tuple" = none) {f : Addr} {fd : FuncData} (FD : FunD K "law" "law" (defArgs s_law) (defBody s_law) (defScope s_law) [] [] f fd) : FnG P w K mg base 4 f fd ["_law_script"] w_law :=
  (fnG FD sc_law t_law fun cdv A outer s H E y hr hg => by
  have tk := takes_of (X := cxOf (L2.CX P w) P w K mg base N_law "law" (defScope s_law) f cdv A outer s H E) (E := E) rfl rfl rfl rfl
  exact ((dss_cons (ds_set 1 sc_law.nd rfl (by first | exact .inl rfl | exact .inr rfl) (d_callH h_l_deck hr hg tk (da_cons (dv 0) da_nil)))
  (dss_cons (ds_for PassesOwn.leaving rfl (di_range1 (by rfl) m_range (da_cons d_int da_nil)) (dg_name (i := 2) sc_law.nd rfl (by first | exact .inl rfl | exact .inr rfl))
  (DSs.eq (e_law_40 y) (dss_cons (ds_set 3 sc_law.nd rfl (by first | exact .inl rfl | exact .inr rfl) (d_callH h_l_board hr hg tk (da_cons (dv 1) (da_cons (d_ix (d_lst (da_cons d_int (da_cons d_int (da_cons d_int da_nil)))) (d_bin do_mod (dv 2) d_int) (fun _ _ => rfl)) (da_cons d_int da_nil)))))
  (dss_cons (ds_set 4 sc_law.nd rfl (by first | exact .inl rfl | exact .inr rfl) (d_tupRg true rfl (by rfl) m_tuple (drg_1 (by rfl) m_range (d_ix (dv 3) d_int (fun _ _ => rfl)))))
  (dss_cons (ds_for PassesOwn.leaving rfl (di_seq (d_lst (da_cons (d_callH h_l_names hr hg tk (da_cons (dv 1) (da_cons (d_ix (dv 3) d_int (fun _ _ => rfl)) da_nil))) (da_cons (dv 4) (da_cons (d_rev true false (dv 4)) da_nil))))) (dg_name (i := 5) sc_law.nd rfl (by first | exact .inl rfl | exact .inr rfl))
  (DSs.eq (e_law_43 y) (dss_cons (ds_par 6 7 rfl sc_law.nd rfl rfl (by decide) rfl rfl (da_cons (d_callB (dc_repr (u70 hr) hg) (by rfl) m_repr (by decide +kernel) (da_cons (d_lst (da_cons (dv 3) (da_cons (dv 5) da_nil))) da_nil)) (da_cons (d_tup da_nil) da_nil)) (by rfl))
  (dss_cons (ds_for PassesOwn.leaving rfl (di_seq (d_ix (dv 3) d_int (fun _ _ => rfl))) (dg_tup rfl (dgs_cons (dg_name (i := 8) sc_law.nd rfl (by first | exact .inl rfl | exact .inr rfl)) (dgs_cons (dg_name (i := 9) sc_law.nd rfl (by first | exact .inl rfl | exact .inr rfl)) (dgs_cons (dg_name (i := 10) sc_law.nd rfl (by first | exact .inl rfl | exact .inr rfl)) (dgs_cons (dg_name (i := 11) sc_law.nd rfl (by first | exact .inl rfl | exact .inr rfl)) dgs_nil)))))
  (DSs.eq (e_law_45 y) (dss_one (ds_set 7 sc_law.nd rfl (by first | exact .inl rfl | exact .inr rfl) (d_bin do_add (dv 7) (d_tup (da_cons (d_tup (da_cons (d_ix (dv 5) (dv 8) (fun _ _ => rfl)) (da_cons (d_ix (dv 5) (dv 9) (fun _ _ => rfl)) (da_cons (dv 10) (da_cons (dv 11) da_nil))))) da_nil)))))))
  (DSs.eq (e_law_46 y) (dss_cons (ds_set 12 sc_law.nd rfl (by first | exact .inl rfl | exact .inr rfl) (d_tup (da_cons (d_ix (dv 3) d_int (fun _ _ => rfl)) (da_cons (dv 7) da_nil))))
  (dss_cons (ds_setLc (own := [("_law_again", 15)]) false 13 rfl sc_law.nd rfl rfl (by rfl) (di_range1 (by rfl) m_range (da_cons d_int da_nil)) (show BlkOk N_law (defScope s_law) _ [("_law_again", 15)] from ⟨rfl, by decide +kernel, by decide +kernel, by decide +kernel, by decide +kernel⟩)
  (fun _ _ _ _ _ => (dgo_name (i := 15) sc_law.nd rfl (by first | exact .inl rfl | exact .inr rfl))) (fun _ _ _ _ _ => dts_nil)
  (fun _ _ _ _ _ => (d_callH h_renamed hr hg takes0 (da_cons (dv 3) (da_cons (dv 5) da_nil)))))
  (dss_cons (ds_if (dw_or (dt_not (dt_val (d_callH h_l_same hr hg tk (da_cons (dv 13) (da_cons (d_lst (da_cons (dv 12) (da_cons (dv 12) da_nil))) da_nil))))) (dw_or1 (dt_cmp (do_ne (u64 hr)) (d_callB (dc_repr (u70 hr) hg) (by rfl) m_repr (by decide +kernel) (da_cons (d_lst (da_cons (dv 3) (da_cons (dv 5) da_nil))) da_nil)) (dv 6) (by rfl)))).dt (dss_one (ds_ret d_bl)) dss_nil)
  (DSs.eq (e_law_50 y) (dss_cons (ds_set 14 sc_law.nd rfl (by first | exact .inl rfl | exact .inr rfl) (d_callT (dc_tupleN false) (by rfl) m_tuple (by decide +kernel) (da_cons (d_lc (own := [("_law_kind", 16)]) false rfl sc_law.nd (di_seq (dv 4)) (show BlkOk N_law (defScope s_law) _ [("_law_kind", 16)] from ⟨rfl, by decide +kernel, by decide +kernel, by decide +kernel, by decide +kernel⟩)
  (fun _ _ _ _ _ => (dgo_name (i := 16) sc_law.nd rfl (by first | exact .inl rfl | exact .inr rfl))) (fun _ _ _ _ _ => dts_nil)
  (fun _ _ _ _ _ => (d_bmT PySem.F.slot_tuple_index PySem.F.type_tuple_index dm_index (dv 5) (da_cons (dv 16) da_nil)))) da_nil)))
  (dss_one (ds_if (dt_cmp (do_ne (u64 hr)) (d_callH h_renamed hr hg tk (da_cons (dv 12) (da_cons (dv 14) da_nil))) (dv 3) (by rfl)) (dss_one (ds_ret d_bl)) dss_nil))))))))))))
  (DSs.eq (e_law_53 y) (dss_one (ds_if (dt_cmp (do_ne (u64 hr)) (d_callB (dc_repr (u70 hr) hg) (by rfl) m_repr (by decide +kernel) (da_cons (d_callH h_renamed hr hg tk (da_cons (dv 3) (da_cons (dv 4) da_nil))) da_nil)) (d_callB (dc_repr (u70 hr) hg) (by rfl) m_repr (by decide +kernel) (da_cons (dv 3) da_nil)) (by rfl)) (dss_one (ds_ret d_bl)) dss_nil))))))))
  (dss_one (ds_ret d_bl)))))).imp fun ds M q y z => by
  unfold w_law at z
  exact z
end
section
variable {P : Program} {w : World} {K : Frg} {mg : Str → Option Value}
theorem all_has {base : Heap} (a_moved : At K mg "moved" "moved" s_moved ["counter", "names"]) (a_renamed : At K mg "renamed" "renamed" s_renamed ["board", "names"]) (a_l_deck : At K mg "_law_deck" "_law_deck" s_l_deck ["_law_script"]) (a_l_draw : At K mg "_law_draw" "_law_draw" s_l_draw ["_law_deck_here", "_law_limit"]) (a_l_same : At K mg "_law_same" "_law_same" s_l_same ["_law_value", "_law_due"]) (a_l_counter : At K mg "_law_counter" "_law_counter" s_l_counter ["_law_deck_here", "_law_kinds"]) (a_l_board : At K mg "_law_board" "_law_board" s_l_board ["_law_deck_here", "_law_most", "_law_many"]) (a_l_names : At K mg "_law_names" "_law_names" s_l_names ["_law_deck_here", "_law_count"]) (m_abs : mg "abs" = none) (m_int : mg "int" = none) (m_len : mg "len" = none) (m_list : mg "list" = none) (m_range : mg "range" = none) (m_repr : mg "repr" = none) (m_tuple : mg "tuple" = none) {f : Addr} {fd : FuncData} (F : FunD K "law" "law" (defArgs s_law) (defBody s_law) (defScope s_law) [] [] f fd) : FnG P w K mg base 4 f fd ["_law_script"] w_law := by
  have h_moved : Has P w K mg base 1 "moved" ["counter", "names"] w_moved := a_moved.has (g_moved )
  have h_renamed : Has P w K mg base 2 "renamed" ["board", "names"] w_renamed := a_renamed.has (g_renamed h_moved m_tuple)
  have h_l_deck : Has P w K mg base 1 "_law_deck" ["_law_script"] w_l_deck := a_l_deck.has (g_l_deck m_abs)
  have h_l_draw : Has P w K mg base 1 "_law_draw" ["_law_deck_here", "_law_limit"] w_l_draw := a_l_draw.has (g_l_draw m_len)
  have h_l_same : Has P w K mg base 1 "_law_same" ["_law_value", "_law_due"] w_l_same := a_l_same.has (g_l_same m_repr)
  have h_l_counter : Has P w K mg base 2 "_law_counter" ["_law_deck_here", "_law_kinds"] w_l_counter := a_l_counter.has (g_l_counter h_l_draw)
  have h_l_board : Has P w K mg base 3 "_law_board" ["_law_deck_here", "_law_most", "_law_many"] w_l_board := a_l_board.has (g_l_board h_l_counter h_l_draw m_int m_len m_range m_tuple)
  have h_l_names : Has P w K mg base 2 "_law_names" ["_law_deck_here", "_law_count"] w_l_names := a_l_names.has (g_l_names h_l_draw m_len m_list m_range m_tuple)
  exact g_law h_l_board h_l_deck h_l_names h_l_same h_renamed m_range m_repr m_tuple F
end
end Dn

namespace Dn
open PySem PySem.Spec PyProof.Rows L2
/-! the deck: one list of numbers, one place; a draw -/
def Deck (M : Mem) (a b : Addr) (n : Int) : Prop := a ≠ b ∧ 0 ≤ n ∧ ∃ xs : List Int, M a = some (.lst [.ref b, .int n]) ∧ M b = some (.lst (xs.map D.int)) ∧ xs.length ≤ 63
theorem atI_get {α : Type} {xs : List α} {j : Nat} (h : j < xs.length) : atI xs (j : Int) = some xs[j] := atI_nat (List.getElem?_eq_getElem h)
theorem ixN_get {n j : Nat} (h : j < n) : ixN n (j : Int) = some j := by
  unfold ixN
  simp [h]
theorem tail_draw {a b : Addr} {n lim cell idx : Int} {M : Mem} {q : QD} {y : XD → Mem → Prop} (hd : Deck M a b n) (hn : n < 10 ^ 7) (hl : 0 < lim ∧ lim < 2 ^ 60) (hc : cell = 0 ∨ ∃ xs : List Int, ∃ j : Nat, M b = some (.lst (xs.map D.int)) ∧ xs[j]? = some cell ∧ idx = j)
    (k : ∀ v M', 0 ≤ v → v < lim → Deck M' a b n → (∀ c, c ≠ b → M' c = M c) → q (.int v) M') : t_l_draw_17 y { nx := fun _ M1 => q .non M1, rt := q } [some (.ref a), some (.int lim), some (.int cell), some (.int idx)] M := by
  obtain ⟨hab, hn0, xs, h1, h2, h3⟩ := hd
  refine u_l_draw_17 ?_
  conv => whnf
  refine ⟨⟨by decide, by decide, by decide⟩, ?_⟩
  conv => whnf
  have hl2 : lim.natAbs.log2 < 9000 := by
    have h4 : lim.natAbs < 2 ^ 60 := by omega
    have h5 : lim.natAbs ≠ 0 := by omega
    exact Nat.lt_of_lt_of_le ((Nat.log2_lt h5).mpr h4) (by decide)
  by_cases hx : (10 : Int) ^ (Int.toNat 18) ≤ cell
  · rw [decide_eq_true hx]
    conv => whnf
    refine ⟨⟨hl.1, hl2⟩, ?_⟩
    obtain ⟨ys, j, hy, hj, rfl⟩ : ∃ ys : List Int, ∃ j : Nat, M b = some (.lst (ys.map D.int)) ∧ ys[j]? = some cell ∧ idx = j := by
      rcases hc with hc | hc
      · subst hc
        exact absurd hx (by decide)
      · exact hc
    have he : xs.map D.int = ys.map D.int := by
      rw [h2] at hy
      exact MO.lst.inj (Option.some.inj hy)
    have hlen : j < (xs.map D.int).length := by
      rw [he, List.length_map]
      exact (List.getElem?_eq_some_iff.mp hj).1
    conv => whnf
    rw [aseq h1]
    conv => whnf
    rw [h2]
    conv => whnf
    rw [ixN_get hlen]
    conv => whnf
    refine ⟨hl.1, ?_⟩
    generalize hM1 : updM M b (MO.lst ((xs.map D.int).set j (D.int (cell / lim)))) = M1
    refine k _ M1 (Int.emod_nonneg _ (by omega)) (Int.emod_lt_of_pos _ hl.1) ⟨hab, hn0, xs.set j (cell / lim), ?_, ?_, ?_⟩ fun c hc => ?_
    · rw [← hM1, updM_ne hab, h1]
    · rw [← hM1, updM_same, List.map_set]
    · rw [List.length_set]
      exact h3
    · rw [← hM1, updM_ne hc]
  · rw [decide_eq_false hx]
    conv => whnf
    refine ⟨(show (0 : Int) < 2147483587 by decide), ?_⟩
    conv => whnf
    rw [aseq h1]
    conv => whnf
    have c1 : (0 : Int) ≤ cell % 2147483587 := Int.emod_nonneg _ (by decide)
    have c2 : cell % 2147483587 < 2147483587 := Int.emod_lt_of_pos _ (by decide)
    refine ⟨.inl (.inl ⟨by decide, by decide⟩), ?_⟩
    conv => whnf
    refine ⟨⟨by decide, by decide, by show (cell % 2147483587 + 7919 * n + 1).natAbs < 2 ^ 64; omega⟩, ?_⟩
    conv => whnf
    refine ⟨(show (0 : Int) < 2147483647 by decide), ?_⟩
    conv => whnf
    refine ⟨⟨by decide, by decide +kernel⟩, ?_⟩
    conv => whnf
    exact ⟨hl.1, k _ M (Int.emod_nonneg _ (by omega)) (Int.emod_lt_of_pos _ hl.1) ⟨hab, hn0, xs, h1, h2, h3⟩ fun _ _ => rfl⟩
theorem run_draw {a b : Addr} {n lim : Int} {M : Mem} {q : QD} {y : XD → Mem → Prop} (hd : Deck M a b n) (hn : n + 1 < 10 ^ 7) (hl : 0 < lim ∧ lim < 2 ^ 60)
    (k : ∀ v M', 0 ≤ v → v < lim → Deck M' a b (n + 1) → (∀ c, c ≠ a → c ≠ b → M' c = M c) → q (.int v) M') : w_l_draw [.ref a, .int lim] M q y := by
  refine v_l_draw ?_
  obtain ⟨hab, hn0, xs, h1, h2, h3⟩ := hd
  conv => whnf
  rw [aseq h1]
  conv => whnf
  rw [h1]
  conv => whnf
  refine ⟨by decide, ?_⟩
  conv => whnf
  refine ⟨rfl, ?_⟩
  conv => whnf
  generalize hM1 : updM M a (MO.lst ([D.ref b, D.int n].set (Int.toNat 1) (D.int (n + 1)))) = M1
  have e1 : M1 a = some (.lst [.ref b, .int (n + 1)]) := by
    rw [← hM1, updM_same]
    rfl
  have e2 : M1 b = some (.lst (xs.map D.int)) := by rw [← hM1, updM_ne hab.symm, h2]
  have fr : ∀ c, c ≠ a → M1 c = M c := fun c hc => by rw [← hM1, updM_ne hc]
  clear hM1
  have dk : Deck M1 a b (n + 1) := ⟨hab, by omega, xs, e1, e2, h3⟩
  rw [aseq e1]
  conv => whnf
  rw [aseq e2]
  conv => whnf
  have kk : ∀ v M', 0 ≤ v → v < lim → Deck M' a b (n + 1) → (∀ c, c ≠ b → M' c = M1 c) → q (.int v) M' := fun v M' h1 h2 h3 h4 => k v M' h1 h2 h3 fun c ca cb => (h4 c cb).trans (fr c ca)
  by_cases hx : (0 : Int) < ((xs.map D.int).length : Int)
  · rw [decide_eq_true hx]
    conv => whnf
    rw [aseq e1]
    conv => whnf
    rw [aseq e1]
    conv => whnf
    rw [aseq e2]
    conv => whnf
    refine ⟨hx, ?_⟩
    conv => whnf
    rw [aseq e1]
    conv => whnf
    rw [aseq e2]
    conv => whnf
    have hb := Int.emod_lt_of_pos (n + 1) hx
    have hb0 := Int.emod_nonneg (n + 1) (show ((xs.map D.int).length : Int) ≠ 0 by omega)
    obtain ⟨j, hj⟩ : ∃ j : Nat, (n + 1) % ((xs.map D.int).length : Int) = j := ⟨((n + 1) % ((xs.map D.int).length : Int)).toNat, by omega⟩
    have hjl : j < (xs.map D.int).length := by omega
    rw [show (fun i j => D.int (i % j)) (n + 1) ((xs.map D.int).length : Int) = D.int (j : Int) by simp only [hj]]
    conv => whnf
    rw [hj, atI_get hjl]
    conv => whnf
    have hjx : j < xs.length := by simpa using hjl
    rw [List.getElem_map]
    exact tail_draw dk hn hl (.inr ⟨xs, j, e2, List.getElem?_eq_getElem hjx, rfl⟩) kk
  · rw [decide_eq_false hx]
    conv => whnf
    exact tail_draw dk hn hl (.inl rfl) kk
theorem cut_mem {xs : List D} {lo hi : Option Int} {i : Nat} {d : D} (h : (cutD xs lo hi)[i]? = some d) : d ∈ xs := List.mem_of_mem_drop (List.mem_of_mem_take (List.mem_of_getElem? h))
theorem cut_len (xs : List D) (lo hi : Option Int) : (cutD xs lo hi).length ≤ xs.length := by
  unfold cutD
  rw [List.length_take, List.length_drop]
  omega
theorem run_deck {ns : List Int} {M : Mem} {q : QD} {y : XD → Mem → Prop} (hn : ns.length ≤ 63) (k : ∀ a b M', Deck M' a b 0 → q (.ref a) M') : w_l_deck [.scr (ns.map D.int)] M q y := by
  refine v_l_deck ?_
  conv => whnf
  intro p hp
  have hc := cut_len (ns.map D.int) none (some 63)
  rw [List.length_map] at hc
  refine comp_ix (fun i acc M' => ∃ zs : List Int, acc = zs.map D.int ∧ zs.length = i ∧ M' p = some (.lst acc)) ⟨[], rfl, rfl, updM_same⟩ (fun acc M' h => ?_) fun i d acc M' J hd h hJ => ?_
  · obtain ⟨zs, rfl, h1, h2⟩ := h
    refine ⟨h2, (show 2 ≤ sizeLine by decide), fun a ha => ?_⟩
    have hap : a ≠ p := fun e => by
      rw [e, h2] at ha
      cases ha
    exact k a p _ ⟨hap, Int.le_refl 0, zs, updM_same, by rw [updM_ne hap.symm, h2], by omega⟩
  · obtain ⟨zs, rfl, h1, h2⟩ := h
    obtain ⟨z, _, rfl⟩ := List.mem_map.mp (cut_mem hd)
    have hi := (List.getElem?_eq_some_iff.mp hd).1
    conv => whnf
    refine ⟨⟨h2, ?_⟩, hJ _ _ ⟨zs ++ [if z < 0 then -z else z], ?_, ?_, updM_same⟩⟩
    · rw [List.length_map, sizeLine_eq]
      omega
    · rw [List.map_append]
      rfl
    · rw [List.length_append, h1]
      rfl
theorem Deck.other {M : Mem} {a b p : Addr} {n : Int} {o : MO} (h : Deck M a b n) (pa : p ≠ a) (pb : p ≠ b) : Deck (updM M p o) a b n := by
  obtain ⟨h0, hn0, xs, h1, h2, h3⟩ := h
  exact ⟨h0, hn0, xs, by rw [updM_ne pa.symm, h1], by rw [updM_ne pb.symm, h2], h3⟩
theorem Deck.ne {M : Mem} {a b p : Addr} {n : Int} (h : Deck M a b n) (hp : M p = none) : p ≠ a ∧ p ≠ b := by
  obtain ⟨_, _, xs, h1, h2, _⟩ := h
  refine ⟨fun e => ?_, fun e => ?_⟩
  · rw [e, h1] at hp
    cases hp
  · rw [e, h2] at hp
    cases hp
theorem tyL {M : Mem} {a : Addr} {ds : List D} (h : M a = some (.lst ds)) : tyD "list" M (.ref a) = true := by
  unfold tyD
  simp only [h]
  rfl
theorem Deck.gone {M : Mem} {a b p : Addr} {n : Int} (h : Deck M a b n) (pa : p ≠ a) (pb : p ≠ b) : Deck (delM M p) a b n := by
  obtain ⟨h0, hn0, xs, h1, h2, h3⟩ := h
  refine ⟨h0, hn0, xs, ?_, ?_, h3⟩
  · unfold delM
    rw [if_neg pa.symm, h1]
  · unfold delM
    rw [if_neg pb.symm, h2]
structure Ctr (kinds s t g r : Int) : Prop where
  s0 : 0 ≤ s
  s1 : s < kinds
  t0 : 0 ≤ t
  t1 : t < kinds
  g0 : 1 ≤ g
  g1 : g ≤ 5
  r0 : 1 ≤ r
  r1 : r ≤ 5
abbrev ctr (s t g r : Int) : D := .tup [.int s, .int t, .int g, .int r]
theorem run_counter {a b : Addr} {n kinds : Int} {M : Mem} {q : QD} {y : XD → Mem → Prop} (hd : Deck M a b n) (hn : n + 4 < 10 ^ 7) (hk : 2 ≤ kinds ∧ kinds ≤ 4)
    (k : ∀ s t g r M', Ctr kinds s t g r → Deck M' a b (n + 4) → (∀ c, c ≠ a → c ≠ b → M' c = M c) → q (ctr s t g r) M') : w_l_counter [.ref a, .int kinds] M q y := by
  refine v_l_counter ?_
  conv => whnf
  refine run_draw hd (by omega) (by omega) fun s M1 s0 s1 d1 f1 => ?_
  conv => whnf
  refine run_draw d1 (by omega) (by omega) fun u M2 u0 u1 d2 f2 => ?_
  conv => whnf
  refine run_draw d2 (by omega) (by omega) fun g M3 g0 g1 d3 f3 => ?_
  conv => whnf
  refine ⟨show 0 < kinds by omega, ?_⟩
  conv => whnf
  refine run_draw d3 (by omega) (by omega) fun r M4 r0 r1 d4 f4 => ?_
  conv => whnf
  refine ⟨show 4 ≤ sizeLine by decide, ?_⟩
  have e : n + 1 + 1 + 1 + 1 = n + 4 := by omega
  rw [e] at d4
  have hm := Int.emod_nonneg (s + (1 + u)) (show kinds ≠ 0 by omega)
  have hm2 := Int.emod_lt_of_pos (s + (1 + u)) (show 0 < kinds by omega)
  exact k s _ _ _ M4 ⟨s0, s1, hm, hm2, by omega, by omega, by omega, by omega⟩ d4 fun c ca cb => (f4 c ca cb).trans ((f3 c ca cb).trans ((f2 c ca cb).trans (f1 c ca cb)))
def IsCtr (kinds : Int) (d : D) : Prop := ∃ s t g r, d = ctr s t g r ∧ Ctr kinds s t g r
theorem cut_8 (xs : List D) : (cutD xs none (some 8)).length ≤ 8 := by
  unfold cutD
  rw [show HT.sIx xs.length xs.length (some 8) = min 8 xs.length from HT.sIx_nat xs.length xs.length 8, List.length_take]
  omega
theorem run_board {a b : Addr} {n most : Int} {M : Mem} {q : QD} {y : XD → Mem → Prop} (hd : Deck M a b n) (hn : n + 60 < 10 ^ 7) (hk : 1 ≤ most ∧ most ≤ 4)
    (k : ∀ kinds cs n' M', 1 ≤ kinds → kinds ≤ 4 → cs.length ≤ 8 → (∀ d ∈ cs, IsCtr kinds d) → Deck M' a b n' → n ≤ n' → n' ≤ n + 60 → q (.tup [.int kinds, .tup cs]) M') : w_l_board [.ref a, .int most, .int 8] M q y := by
  refine v_l_board ?_
  conv => whnf
  refine run_draw hd (by omega) (by omega) fun s M1 s0 s1 d1 f1 => ?_
  conv => whnf
  refine ⟨show 2 ≤ sizeLine by decide, ?_⟩
  conv => whnf
  refine run_draw d1 (by omega) (by omega) fun v M2 v0 v1 d2 f2 => ?_
  conv => whnf
  obtain ⟨kinds, hkv, k1, k2⟩ : ∃ kinds : Int, atI [D.int (1 + s), D.int most] v = some (.int kinds) ∧ 1 ≤ kinds ∧ kinds ≤ 4 := by
    rcases (show v = 0 ∨ v = 1 by omega) with e | e
    · subst e
      exact ⟨1 + s, rfl, by omega, by omega⟩
    · subst e
      exact ⟨most, rfl, by omega, by omega⟩
  rw [hkv]
  conv => whnf
  refine ⟨Nat.zero_le _, fun p hp => ?_⟩
  conv => whnf
  obtain ⟨pa, pb⟩ : p ≠ a ∧ p ≠ b := by
    obtain ⟨_, _, xs, h1, h2, _⟩ := d2
    refine ⟨fun e => ?_, fun e => ?_⟩
    · rw [e, h1] at hp
      cases hp
    · rw [e, h2] at hp
      cases hp
  have d3 : Deck (updM M2 p (.lst [])) a b (n + 1 + 1) := by
    obtain ⟨h0, hn0, xs, h1, h2, h3⟩ := d2
    exact ⟨h0, hn0, xs, by rw [updM_ne pa.symm, h1], by rw [updM_ne pb.symm, h2], h3⟩
  refine run_draw d3 (by omega) (by omega) fun u M3 u0 u1 d4 f4 => ?_
  conv => whnf
  obtain ⟨c, hc, c0⟩ : ∃ c : Int, (if decide (1 < kinds) = true then (1 : Int) else 0) = c ∧ ((c = 0) ∨ (c = 1 ∧ 1 < kinds)) := by
    by_cases h : 1 < kinds
    · exact ⟨1, by rw [decide_eq_true h]; rfl, .inr ⟨rfl, h⟩⟩
    · exact ⟨0, by rw [decide_eq_false h]; rfl, .inl rfl⟩
  rw [hc]
  have uc : u * c = 0 ∨ (u * c = u ∧ 1 < kinds) := by
    rcases c0 with e | ⟨e, h⟩
    · subst e
      exact .inl (Int.mul_zero u)
    · subst e
      exact .inr ⟨Int.mul_one u, h⟩
  refine ⟨.inl (.inl (by omega)), ?_⟩
  conv => whnf
  refine ⟨by rcases uc with e | ⟨e, _⟩ <;> rw [e] <;> omega, ?_⟩
  conv => whnf
  have hp3 : M3 p = some (.lst []) := by rw [f4 p pa pb, updM_same]
  refine for_ix (fun i ρ M' => ∃ cs n' x, ρ = [some (.ref a), some (.int most), some (.int 8), some (.int kinds), some (.ref p), x] ∧ M' p = some (.lst cs) ∧ cs.length ≤ 2 * i ∧ (∀ d ∈ cs, IsCtr kinds d) ∧ Deck M' a b n' ∧ n ≤ n' ∧ n' ≤ n + 3 + 6 * i)
    ⟨[], n + 1 + 1 + 1, none, rfl, hp3, Nat.zero_le _, (fun _ h => nomatch h), d4, by omega, by omega⟩ (fun ρ M' h => ?_) fun i d ρ M' J hget h hJ => ?_
  · obtain ⟨cs, n', x, rfl, h1, h2, h3, h4, h5, h6⟩ := h
    rw [rangeD_len] at h2 h6
    have hlen : (u * c).toNat ≤ 8 := by rcases uc with e | ⟨e, _⟩ <;> rw [e] <;> omega
    conv => whnf
    rw [lseq h1]
    conv => whnf
    refine ⟨show 2 ≤ sizeLine by decide, ?_⟩
    exact k kinds _ n' M' k1 k2 (cut_8 cs) (fun d hd => h3 d (by
      obtain ⟨i, hi⟩ := List.mem_iff_getElem?.mp hd
      exact cut_mem hi)) h4 h5 (by omega)
  · obtain ⟨cs, n', x, rfl, h1, h2, h3, h4, h5, h6⟩ := h
    obtain ⟨rfl, hi⟩ := rangeD_at hget
    have hlen : (u * c).toNat ≤ 8 ∧ 1 < kinds := by
      rcases uc with e | ⟨e, h⟩
      · rw [e] at hi
        exact absurd hi (by omega)
      · rw [e]
        exact ⟨by omega, h⟩
    conv => whnf
    refine u_l_board_30 ?_
    conv => whnf
    refine ⟨tyL h1, ?_⟩
    conv => whnf
    refine run_counter h4 (by omega) (by omega) fun s t g r M4 hc4 d4 f4 => ?_
    conv => whnf
    have h1' : M4 p = some (.lst cs) := by rw [f4 p pa pb, h1]
    rw [h1']
    conv => whnf
    refine ⟨by rw [sizeLine_eq]; omega, ?_⟩
    have d5 : Deck (updM M4 p (.lst (cs ++ [ctr s t g r]))) a b (n' + 4) := d4.other pa pb
    conv => whnf
    refine run_draw d5 (by omega) (by omega) fun w M5 w0 w1 d6 f6 => ?_
    conv => whnf
    refine ⟨⟨rfl, rfl⟩, ?_⟩
    conv => whnf
    have h7 : M5 p = some (.lst (cs ++ [ctr s t g r])) := by rw [f6 p pa pb, updM_same]
    have h8 : ∀ d ∈ cs ++ [ctr s t g r], IsCtr kinds d := fun d hd => by
      rcases List.mem_append.mp hd with hd | hd
      · exact h3 d hd
      · rw [List.mem_singleton.mp hd]
        exact ⟨s, t, g, r, rfl, hc4⟩
    have h9 : (cs ++ [ctr s t g r]).length = cs.length + 1 := by
      rw [List.length_append]
      rfl
    generalize eqb (snap M5 (D.int w)) (snap M5 (D.int 0)) = z
    cases z with
    | false => exact hJ _ _ ⟨_, _, _, rfl, h7, by omega, h8, d6, by omega, by omega⟩
    | true =>
      conv => whnf
      refine ⟨tyL h7, ?_⟩
      conv => whnf
      rw [aseq h7]
      conv => whnf
      refine run_draw d6 (by omega) (by omega) fun z M6 z0 z1 d7 f7 => ?_
      conv => whnf
      have h10 : M6 p = some (.lst (cs ++ [ctr s t g r])) := by rw [f7 p pa pb, h7]
      rw [aseq h10]
      conv => whnf
      obtain ⟨j, rfl⟩ : ∃ j : Nat, z = j := ⟨z.toNat, by omega⟩
      have hj : j < (cs ++ [ctr s t g r]).length := by omega
      rw [atI_get hj]
      conv => whnf
      rw [h10]
      conv => whnf
      refine ⟨by rw [sizeLine_eq]; omega, ?_⟩
      refine hJ _ _ ⟨_, _, _, rfl, updM_same, ?_, ?_, d7.other pa pb, by omega, by omega⟩
      · rw [List.length_append, h9]
        show cs.length + 1 + 1 ≤ _
        omega
      · intro d hd
        rcases List.mem_append.mp hd with hd | hd
        · exact h8 d hd
        · rw [List.mem_singleton.mp hd]
          exact h8 _ (List.getElem_mem hj)
def nums (n : Nat) : List Int := (List.range n).map fun i : Nat => (0 : Int) + (i : Int)
theorem rangeD_ints (n : Nat) : rangeD 0 n = (nums n).map D.int := by
  unfold rangeD nums
  rw [List.map_map]
  rfl
theorem rgD_ints (n : Int) : rgD 0 n = (nums n.toNat).map D.int := by
  unfold rgD
  rw [rangeD_ints, Int.sub_zero]
theorem ints_len (n : Nat) : (nums n).length = n := by
  unfold nums
  rw [List.length_map, List.length_range]
theorem mem_nums {n : Nat} {x : Int} (h : x ∈ nums n) : 0 ≤ x ∧ x < n := by
  unfold nums at h
  obtain ⟨j, hj, rfl⟩ := List.mem_map.mp h
  have := List.mem_range.mp hj
  omega
theorem nums_at {n m : Nat} (h : m < n) : (nums n)[m]? = some (m : Int) := by
  unfold nums
  rw [List.getElem?_map, List.getElem?_range h]
  show some ((0 : Int) + (m : Int)) = _
  rw [Int.zero_add]
theorem nums_nodup (n : Nat) : (nums n).Nodup := by
  unfold nums
  rw [List.nodup_iff_pairwise_ne, List.pairwise_map]
  exact List.pairwise_lt_range.imp fun h => by omega
theorem perm_take {α : Type} : ∀ {xs : List α} {j : Nat} (h : j < xs.length), (xs[j] :: xs.eraseIdx j).Perm xs
  | x :: xs, 0, _ => List.Perm.refl _
  | x :: xs, j + 1, h => by
    have hj : j < xs.length := by simpa using h
    show (xs[j] :: x :: xs.eraseIdx j).Perm (x :: xs)
    exact (List.Perm.swap x xs[j] _).trans (List.Perm.cons x (perm_take hj))
theorem map_erase {α β : Type} (f : α → β) : ∀ (xs : List α) (j : Nat), (xs.map f).eraseIdx j = (xs.eraseIdx j).map f
  | [], _ => rfl
  | x :: xs, 0 => rfl
  | x :: xs, j + 1 => congrArg (f x :: ·) (map_erase f xs j)
theorem perm_pick {α : Type} {xs : List α} {j : Nat} (h : j < xs.length) (ps : List α) : ((ps ++ [xs[j]]) ++ xs.eraseIdx j).Perm (ps ++ xs) := by
  rw [List.append_assoc]
  exact List.Perm.append_left ps (perm_take h)
theorem run_names {a b : Addr} {n count : Int} {M : Mem} {q : QD} {y : XD → Mem → Prop} (hd : Deck M a b n) (hn : n + 8 < 10 ^ 7) (hk : 1 ≤ count ∧ count ≤ 4)
    (k : ∀ (ps : List Int) n' M', ps.Perm (nums count.toNat) → Deck M' a b n' → n ≤ n' → n' ≤ n + 8 → q (.ntp (ps.map D.int)) M') : w_l_names [.ref a, .int count] M q y := by
  refine v_l_names ?_
  conv => whnf
  refine ⟨⟨by omega, by omega, by omega, by omega, by omega⟩, fun p hp => ?_⟩
  conv => whnf
  refine ⟨by omega, ?_⟩
  rw [rgD_ints]
  obtain ⟨pa, pb⟩ := hd.ne hp
  have d1 : Deck (updM M p (.lst ((nums count.toNat).map D.int))) a b n := hd.other pa pb
  conv => whnf
  intro t ht
  obtain ⟨ta, tb⟩ := d1.ne ht
  have tp : t ≠ p := fun e => by
    rw [e, updM_same] at ht
    cases ht
  have d2 := d1.other (o := .lst []) ta tb
  refine comp_ix (fun i acc M' => ∃ ps xs : List Int, acc = ps.map D.int ∧ ps.length = i ∧ M' t = some (.lst acc) ∧ M' p = some (.lst (xs.map D.int)) ∧ (ps ++ xs).Perm (nums count.toNat) ∧ Deck M' a b (n + i))
    ⟨[], nums count.toNat, rfl, rfl, updM_same, by rw [updM_ne tp.symm, updM_same], List.Perm.refl _, by simpa using d2⟩ (fun acc M' h => ?_) fun i d acc M' J hget h hJ => ?_
  · obtain ⟨ps, xs, rfl, h1, h2, h3, h4, h5⟩ := h
    rw [rangeD_len] at h1 h5
    refine ⟨h2, ?_⟩
    conv => whnf
    have hl := h4.length_eq
    rw [List.length_append, ints_len] at hl
    have hx : xs = [] := List.eq_nil_of_length_eq_zero (by omega)
    subst hx
    rw [List.append_nil] at h4
    refine k ps _ _ h4 (h5.gone ta tb) (by omega) (by omega)
  · obtain ⟨ps, xs, rfl, h1, h2, h3, h4, h5⟩ := h
    obtain ⟨rfl, hi⟩ := rangeD_at hget
    have hl := h4.length_eq
    rw [List.length_append, ints_len] at hl
    conv => whnf
    refine ⟨tyL h3, ?_⟩
    conv => whnf
    rw [aseq h3]
    conv => whnf
    rw [List.length_map]
    refine run_draw h5 (by omega) (by omega) fun v M4 v0 v1 d4 f4 => ?_
    conv => whnf
    have h3' : M4 p = some (.lst (xs.map D.int)) := by rw [f4 p pa pb, h3]
    rw [h3']
    conv => whnf
    obtain ⟨j, rfl⟩ : ∃ j : Nat, v = j := ⟨v.toNat, by omega⟩
    have hj : j < xs.length := by omega
    refine ⟨⟨by omega, by rw [List.length_map]; omega, by omega⟩, ?_⟩
    conv => whnf
    rw [show (xs.map D.int)[Int.toNat (j : Int)]? = some (D.int xs[j]) by rw [Int.toNat_natCast, List.getElem?_map, List.getElem?_eq_getElem hj]; rfl]
    conv => whnf
    have h2' : M4 t = some (.lst (ps.map D.int)) := by rw [f4 t ta tb, h2]
    refine ⟨⟨by rw [updM_ne tp, h2'], by rw [List.length_map, sizeLine_eq]; omega⟩, hJ _ _ ⟨ps ++ [xs[j]], xs.eraseIdx j, ?_, ?_, updM_same, ?_, ?_, ?_⟩⟩
    · rw [List.map_append]
      rfl
    · rw [List.length_append, h1]
      rfl
    · rw [updM_ne tp.symm, updM_same, Int.toNat_natCast, map_erase]
    · exact (perm_pick hj ps).trans h4
    · have := (d4.other (p := p) (o := .lst ((xs.map D.int).eraseIdx (Int.toNat (j : Int)))) pa pb).other (p := t) (o := .lst (ps.map D.int ++ [D.int xs[j]])) ta tb
      rw [show n + (i : Int) + 1 = n + ((i + 1 : Nat) : Int) by omega] at this
      exact this
/-- the name of a kind -/
def at_ (ps : List Int) (i : Int) : Int := ps.getD i.toNat 0
def mvd (ps : List Int) : D → D
  | .tup [.int s, .int t, g, r] => .tup [.int (at_ ps s), .int (at_ ps t), g, r]
  | d => d
theorem at_some {ps : List Int} {i : Int} (h0 : 0 ≤ i) (h1 : i < ps.length) : atI (ps.map D.int) i = some (.int (at_ ps i)) := by
  obtain ⟨j, rfl⟩ : ∃ j : Nat, i = j := ⟨i.toNat, by omega⟩
  have hj : j < ps.length := by omega
  rw [atI_get (by rw [List.length_map]; exact hj), List.getElem_map]
  unfold at_
  rw [Int.toNat_natCast, List.getD_eq_getElem?_getD, List.getElem?_eq_getElem hj]
  rfl
/-- a tuple of numbers, by either reading -/
def Nms (nm : D) (ps : List Int) : Prop := nm = .ntp (ps.map D.int) ∨ nm = .tup (ps.map D.int)
theorem run_moved {nm : D} {ps : List Int} {kinds s t g r : Int} {M : Mem} {q : QD} {y : XD → Mem → Prop} (hm : Nms nm ps) (hk : kinds = ps.length) (hc : Ctr kinds s t g r) (k : q (mvd ps (ctr s t g r)) M) : w_moved [ctr s t g r, nm] M q y := by
  refine v_moved ?_
  have e1 := at_some hc.s0 (by rw [← hk]; exact hc.s1)
  have e2 := at_some hc.t0 (by rw [← hk]; exact hc.t1)
  rcases hm with rfl | rfl
  all_goals
    conv => whnf
    refine ⟨show 3 ≤ 4 + 1 by decide, ?_⟩
    conv => whnf
    rw [e1]
    conv => whnf
    rw [e2]
    conv => whnf
    exact ⟨show 4 ≤ sizeLine by decide, k⟩
theorem run_renamed {nm : D} {ps : List Int} {kinds : Int} {cs : List D} {M : Mem} {q : QD} {y : XD → Mem → Prop} (hm : Nms nm ps) (hk : kinds = ps.length) (hl : cs.length ≤ 8) (hc : ∀ d ∈ cs, IsCtr kinds d) (k : q (.tup [.int kinds, .tup (cs.map (mvd ps))]) M) : w_renamed [.tup [.int kinds, .tup cs], nm] M q y := by
  refine v_renamed ?_
  conv => whnf
  refine ⟨rfl, ?_⟩
  conv => whnf
  intro p hp
  refine comp_pure (mvd ps) hp (by rw [sizeLine_eq]; omega) ?_ fun i d M' J hget _ hJ => ?_
  · conv => whnf
    refine ⟨show 2 ≤ sizeLine by decide, ?_⟩
    rw [del_upd hp]
    exact k
  · obtain ⟨s, t, g, r, rfl, h⟩ := hc d (List.mem_of_getElem? hget)
    conv => whnf
    exact run_moved hm hk h hJ
theorem repr_c {d : D} {M : Mem} (h : smD d = true) (hd : dpD d ≤ 60) (hl : shB d ≤ 16000000) : okD (snap M d) 60 = true ∧ (toP (snap M d)).showable = true ∧ (toP (snap M d)).shown.length ≤ sizeLine := by
  rw [snap_sm h]
  obtain ⟨a, b⟩ := sm_ok d h
  exact ⟨okD_of d 60 h hd, a, by rw [sizeLine_eq]; omega⟩
theorem run_same {d : D} {M : Mem} {q : QD} {y : XD → Mem → Prop} (h : smD d = true) (hd : dpD d ≤ 60) (hl : shB d ≤ 16000000) (k : q (.bl true) M) : w_l_same [d, d] M q y := by
  refine v_l_same ?_
  conv => whnf
  refine ⟨repr_c h hd hl, ?_⟩
  rw [snap_sm h]
  conv => whnf
  refine ⟨repr_c h hd hl, ?_⟩
  rw [snap_sm h]
  conv => whnf
  have so := sm_sok d h
  refine ⟨⟨so, so⟩, ?_⟩
  have e : eqb (.str (toP d).shown) (.str (toP d).shown) = true := by simp [eqb]
  show q (.bl (eqb (.str (toP d).shown) (.str (toP d).shown))) M
  rw [e]
  exact k
/-! how large a board is -/
theorem ctr_sm {kinds s t g r : Int} (hk : kinds ≤ 4) (h : Ctr kinds s t g r) : smD (ctr s t g r) = true := by
  have a := h.s0
  have b := h.s1
  have c := h.t0
  have d := h.t1
  have e := h.g0
  have f := h.g1
  have i := h.r0
  have j := h.r1
  simp only [ctr, smD, smDs, Bool.and_true, Bool.and_eq_true, decide_eq_true_eq]
  omega
theorem ctrs_sm {kinds : Int} (hk : kinds ≤ 4) : ∀ {cs : List D}, (∀ d ∈ cs, IsCtr kinds d) → smDs cs = true ∧ shBs cs = 94 * cs.length ∧ dpDs cs ≤ 1
  | [], _ => ⟨rfl, rfl, Nat.zero_le _⟩
  | d :: cs, h => by
    obtain ⟨h1, h2, h3⟩ := ctrs_sm hk fun d hd => h d (List.mem_cons_of_mem _ hd)
    obtain ⟨s, t, g, r, rfl, hc⟩ := h d List.mem_cons_self
    refine ⟨?_, ?_, ?_⟩
    · simp only [smDs, ctr_sm hk hc, h1, Bool.and_self]
    · simp only [shBs, shB, h2, List.length_cons]
      omega
    · simp only [dpDs, dpD]
      omega
theorem board_sm {kinds : Int} {cs : List D} (h0 : 1 ≤ kinds) (hk : kinds ≤ 4) (hl : cs.length ≤ 8) (hc : ∀ d ∈ cs, IsCtr kinds d) : smD (.tup [.int kinds, .tup cs]) = true ∧ dpD (.tup [.int kinds, .tup cs]) ≤ 3 ∧ shB (.tup [.int kinds, .tup cs]) ≤ 1000 := by
  obtain ⟨h1, h2, h3⟩ := ctrs_sm hk hc
  refine ⟨?_, ?_, ?_⟩
  · simp only [smD, smDs, h1, Bool.and_true, decide_eq_true_eq]
    omega
  · simp only [dpD, dpDs]
    omega
  · simp only [shB, shBs, h2]
    omega
theorem mvd_ctr {ps : List Int} {kinds : Int} (hp : ∀ i, 0 ≤ i → i < kinds → 0 ≤ at_ ps i ∧ at_ ps i < kinds) {d : D} (h : IsCtr kinds d) : IsCtr kinds (mvd ps d) := by
  obtain ⟨s, t, g, r, rfl, h⟩ := h
  obtain ⟨a1, a2⟩ := hp s h.s0 h.s1
  obtain ⟨b1, b2⟩ := hp t h.t0 h.t1
  exact ⟨at_ ps s, at_ ps t, g, r, rfl, a1, a2, b1, b2, h.g0, h.g1, h.r0, h.r1⟩
theorem at_perm {ps : List Int} {n : Nat} (h : ps.Perm (nums n)) (i : Int) (h0 : 0 ≤ i) (h1 : i < n) : 0 ≤ at_ ps i ∧ at_ ps i < n := by
  have hl : ps.length = n := by rw [h.length_eq, ints_len]
  obtain ⟨j, rfl⟩ : ∃ j : Nat, i = j := ⟨i.toNat, by omega⟩
  have hj : j < ps.length := by omega
  have e : at_ ps (j : Int) = ps[j] := by
    unfold at_
    rw [Int.toNat_natCast, List.getD_eq_getElem?_getD, List.getElem?_eq_getElem hj]
    rfl
  rw [e]
  exact mem_nums (h.mem_iff.mp (List.getElem_mem hj))
theorem back_at {ps : List Int} {n : Nat} (h : ps.Perm (nums n)) (i : Int) (h0 : 0 ≤ i) (h1 : i < n) : at_ ((nums n).map fun k => ((ps.idxOf k : Nat) : Int)) (at_ ps i) = i := by
  have hl : ps.length = n := by rw [h.length_eq, ints_len]
  obtain ⟨j, rfl⟩ : ∃ j : Nat, i = j := ⟨i.toNat, by omega⟩
  have hj : j < ps.length := by omega
  obtain ⟨c0, c1⟩ := at_perm h j h0 h1
  have e : at_ ps (j : Int) = ps[j] := by
    unfold at_
    rw [Int.toNat_natCast, List.getD_eq_getElem?_getD, List.getElem?_eq_getElem hj]
    rfl
  obtain ⟨m, hm⟩ : ∃ m : Nat, at_ ps (j : Int) = m := ⟨(at_ ps j).toNat, by omega⟩
  rw [hm]
  have hmn : m < n := by omega
  unfold at_
  rw [Int.toNat_natCast, List.getD_eq_getElem?_getD, List.getElem?_map, nums_at hmn]
  have nd : ps.Nodup := h.nodup_iff.mpr (nums_nodup n)
  show ((ps.idxOf (m : Int) : Nat) : Int) = j
  rw [show (m : Int) = ps[j] by omega, nd.idxOf_getElem j hj]
theorem mvd_back {ps : List Int} {n : Nat} (h : ps.Perm (nums n)) {d : D} (hd : IsCtr n d) : mvd ((nums n).map fun k => ((ps.idxOf k : Nat) : Int)) (mvd ps d) = d := by
  obtain ⟨s, t, g, r, rfl, hc⟩ := hd
  show D.tup [.int (at_ _ (at_ ps s)), .int (at_ _ (at_ ps t)), .int g, .int r] = _
  rw [back_at h s hc.s0 hc.s1, back_at h t hc.t0 hc.t1]
theorem mvd_plain {n : Nat} {d : D} (hd : IsCtr n d) : mvd (nums n) d = d := by
  obtain ⟨s, t, g, r, rfl, hc⟩ := hd
  have e : ∀ i : Int, 0 ≤ i → i < n → at_ (nums n) i = i := fun i h0 h1 => by
    obtain ⟨j, rfl⟩ : ∃ j : Nat, i = j := ⟨i.toNat, by omega⟩
    unfold at_
    rw [Int.toNat_natCast, List.getD_eq_getElem?_getD, nums_at (by omega)]
    rfl
  show D.tup [.int (at_ _ s), .int (at_ _ t), .int g, .int r] = _
  rw [e s hc.s0 hc.s1, e t hc.t0 hc.t1]
theorem ne_same {M : Mem} (x : Str) : (if true = true then !eqb (snap M (.str x)) (snap M (.str x)) else eqb (snap M (.str x)) (snap M (.str x))) = false := by
  rw [if_pos rfl]
  show (!eqb (.str x) (.str x)) = false
  have e : eqb (.str x) (.str x) = true := by simp [eqb]
  rw [e]
  rfl
theorem nums_sm : ∀ {ps : List Int}, (∀ x ∈ ps, 0 ≤ x ∧ x < 10 ^ 20) → smDs (ps.map D.int) = true ∧ shBs (ps.map D.int) = 22 * ps.length ∧ dpDs (ps.map D.int) = 0
  | [], _ => ⟨rfl, rfl, rfl⟩
  | x :: ps, h => by
    obtain ⟨a, b, c⟩ := nums_sm (ps := ps) fun z hz => h z (List.mem_cons_of_mem _ hz)
    have hx := h x List.mem_cons_self
    refine ⟨?_, ?_, ?_⟩
    · simp only [List.map_cons, smDs, smD, a, Bool.and_true, decide_eq_true_eq]
      exact hx
    · simp only [List.map_cons, shBs, shB, b, List.length_cons]
      omega
    · simp only [List.map_cons, dpDs, dpD, c]
      rfl
theorem run_45 {x0 x1 x2 x3 x4 x6 x8 x9 x10 x11 x12 x13 x14 x15 x16 : Option D} {nm : D} {ps : List Int} {kinds : Int} {rows : List D} {d : D} {M : Mem} {y : XD → Mem → Prop} {e : EndsD} (hm : Nms nm ps) (hk : kinds = ps.length) (hc : IsCtr kinds d) (hl : rows.length ≤ 100)
    (k : ∀ x8 x9 x10 x11, e.nx [x0, x1, x2, x3, x4, some nm, x6, some (.tup (rows ++ [mvd ps d])), x8, x9, x10, x11, x12, x13, x14, x15, x16] M) :
    gdTup 4 (gdCons (gdName 8) (gdCons (gdName 9) (gdCons (gdName 10) (gdCons (gdName 11) gdNil)))) d [x0, x1, x2, x3, x4, some nm, x6, some (.tup rows), x8, x9, x10, x11, x12, x13, x14, x15, x16] M fun ρ1 M1 => t_law_45 y e ρ1 M1 := by
  obtain ⟨s, t, g, r, rfl, h⟩ := hc
  conv => whnf
  refine ⟨rfl, ?_⟩
  conv => whnf
  refine u_law_45 ?_
  have e1 := at_some h.s0 (by rw [← hk]; exact h.s1)
  have e2 := at_some h.t0 (by rw [← hk]; exact h.t1)
  rcases hm with rfl | rfl
  all_goals
    conv => whnf
    rw [e1]
    conv => whnf
    rw [e2]
    conv => whnf
    refine ⟨show 4 ≤ sizeLine by decide, ?_⟩
    conv => whnf
    refine ⟨show 1 ≤ sizeLine by decide, ?_⟩
    conv => whnf
    refine ⟨show rows.length + 1 ≤ sizeLine by rw [sizeLine_eq]; omega, ?_⟩
    exact k _ _ _ _
theorem run_43 {x0 x1 x2 x6 x7 x8 x9 x10 x11 x12 x13 x14 x15 x16 : Option D} {ps : List Int} {n : Nat} {cs : List D} {M : Mem} {y : XD → Mem → Prop} {e : EndsD} (h1 : 1 ≤ n) (h4 : n ≤ 4) (hp : ps.Perm (nums n)) (hl : cs.length ≤ 8) (hc : ∀ d ∈ cs, IsCtr n d)
    (k : ∀ x6 x7 x8 x9 x10 x11 x12 x13 x14 x15 x16, e.nx [x0, x1, x2, some (.tup [.int n, .tup cs]), some (.ntp ((nums n).map D.int)), some (.ntp (ps.map D.int)), x6, x7, x8, x9, x10, x11, x12, x13, x14, x15, x16] M) :
    t_law_43 y e [x0, x1, x2, some (.tup [.int n, .tup cs]), some (.ntp ((nums n).map D.int)), some (.ntp (ps.map D.int)), x6, x7, x8, x9, x10, x11, x12, x13, x14, x15, x16] M := by
  have hpl : ps.length = n := by rw [hp.length_eq, ints_len]
  obtain ⟨b1, b2, b3⟩ := board_sm (kinds := n) (by omega) (by omega) hl hc
  obtain ⟨p1, p2, p3⟩ := nums_sm (ps := ps) (fun x hx => by
    have := mem_nums (hp.mem_iff.mp hx)
    omega)
  obtain ⟨c1, c2, c3⟩ := board_sm (kinds := n) (cs := cs.map (mvd ps)) (by omega) (by omega) (by rw [List.length_map]; exact hl) (fun d hd => by
    obtain ⟨d', hd', rfl⟩ := List.mem_map.mp hd
    exact mvd_ctr (at_perm hp) (hc d' hd'))
  have B : smD (.lst [.tup [.int n, .tup cs], .ntp (ps.map D.int)]) = true ∧ dpD (.lst [.tup [.int n, .tup cs], .ntp (ps.map D.int)]) ≤ 60 ∧ shB (.lst [.tup [.int n, .tup cs], .ntp (ps.map D.int)]) ≤ 16000000 := by
    refine ⟨?_, ?_, ?_⟩
    · simp only [smD] at b1 ⊢
      simp only [smDs, smD, p1, Bool.and_true] at b1 ⊢
      exact b1
    · simp only [dpD, dpDs] at b2 ⊢
      simp only [dpD, dpDs, p3] at b2 ⊢
      omega
    · simp only [shB, shBs] at b3 ⊢
      simp only [shB, shBs, p2] at b3 ⊢
      omega
  have S : smD (.lst [.tup [.int n, .tup (cs.map (mvd ps))], .tup [.int n, .tup (cs.map (mvd ps))]]) = true ∧ dpD (.lst [.tup [.int n, .tup (cs.map (mvd ps))], .tup [.int n, .tup (cs.map (mvd ps))]]) ≤ 60 ∧ shB (.lst [.tup [.int n, .tup (cs.map (mvd ps))], .tup [.int n, .tup (cs.map (mvd ps))]]) ≤ 16000000 := by
    refine ⟨?_, ?_, ?_⟩
    · rw [smD]
      simp only [smDs, c1, Bool.and_true]
    · rw [dpD]
      simp only [dpDs]
      omega
    · rw [shB]
      simp only [shBs]
      omega
  have hbk : (cs.map (mvd ps)).map (mvd ((nums n).map fun k => ((ps.idxOf k : Nat) : Int))) = cs := by
    rw [List.map_map]
    conv => rhs; rw [← List.map_id cs]
    exact List.map_congr_left fun d hd => mvd_back hp (hc d hd)
  refine u_law_43 ?_
  conv => whnf
  refine ⟨show 2 ≤ sizeLine by decide, ?_⟩
  conv => whnf
  refine ⟨repr_c B.1 B.2.1 B.2.2, ?_⟩
  rw [snap_sm B.1]
  conv => whnf
  refine ⟨Nat.zero_le _, ?_⟩
  conv => whnf
  refine for_ix (fun i ρ M' => M' = M ∧ i ≤ cs.length ∧ ∃ x8 x9 x10 x11, ρ = [x0, x1, x2, some (.tup [.int n, .tup cs]), some (.ntp ((nums n).map D.int)), some (.ntp (ps.map D.int)), some (.str (toP (.lst [.tup [.int n, .tup cs], .ntp (ps.map D.int)])).shown), some (.tup ((cs.take i).map (mvd ps))), x8, x9, x10, x11, x12, x13, x14, x15, x16])
    ⟨rfl, Nat.zero_le _, _, _, _, _, rfl⟩ (fun ρ M' h => ?_) fun i d ρ M' J hget h hJ => ?_
  · obtain ⟨rfl, _, y8, y9, y10, y11, rfl⟩ := h
    rw [List.take_length]
    conv => whnf
    refine u_law_46 ?_
    conv => whnf
    refine ⟨show 2 ≤ sizeLine by decide, ?_⟩
    conv => whnf
    refine ⟨⟨by decide, by decide⟩, ?_⟩
    conv => whnf
    intro p hpn
    refine comp_pure (fun _ => D.tup [.int n, .tup (cs.map (mvd ps))]) hpn (by decide) ?_ fun i d M2 J hget _ hJ => ?_
    · conv => whnf
      rw [del_upd hpn]
      refine ⟨show 2 ≤ sizeLine by decide, ?_⟩
      conv => whnf
      refine run_same (d := .lst [.tup [.int n, .tup (cs.map (mvd ps))], .tup [.int n, .tup (cs.map (mvd ps))]]) S.1 S.2.1 S.2.2 ?_
      conv => whnf
      refine ⟨show 2 ≤ sizeLine by decide, ?_⟩
      conv => whnf
      refine ⟨repr_c B.1 B.2.1 B.2.2, ?_⟩
      rw [snap_sm B.1]
      conv => whnf
      refine ⟨⟨sm_sok _ B.1, sm_sok _ B.1⟩, ?_⟩
      have e1 : eqb (.str (toP (.lst [.tup [.int n, .tup cs], .ntp (ps.map D.int)])).shown) (.str (toP (.lst [.tup [.int n, .tup cs], .ntp (ps.map D.int)])).shown) = true := by simp [eqb]
      conv => whnf
      rw [show (if true = true then !eqb (snap M' (.str (toP (.lst [.tup [.int n, .tup cs], .ntp (ps.map D.int)])).shown)) (snap M' (.str (toP (.lst [.tup [.int n, .tup cs], .ntp (ps.map D.int)])).shown)) else eqb (snap M' (.str (toP (.lst [.tup [.int n, .tup cs], .ntp (ps.map D.int)])).shown)) (snap M' (.str (toP (.lst [.tup [.int n, .tup cs], .ntp (ps.map D.int)])).shown))) = false by
        rw [if_pos rfl]
        show (!eqb (.str (toP (.lst [.tup [.int n, .tup cs], .ntp (ps.map D.int)])).shown) (.str (toP (.lst [.tup [.int n, .tup cs], .ntp (ps.map D.int)])).shown)) = false
        rw [e1]
        rfl]
      conv => whnf
      refine u_law_50 ?_
      conv => whnf
      intro p2 hp2
      refine comp_pure (fun d => match d with
        | .int k => .int (ps.idxOf k : Nat)
        | d => d) hp2 (by rw [List.length_map, ints_len, sizeLine_eq]; omega) ?_ fun i d M2 J hget _ hJ => ?_
      · conv => whnf
        rw [del_upd hp2]
        rw [List.map_map]
        rw [show ((fun d : D => match d with
          | .int k => D.int (ps.idxOf k : Nat)
          | d => d) ∘ D.int) = D.int ∘ fun k : Int => ((ps.idxOf k : Nat) : Int) from rfl, ← List.map_map]
        refine run_renamed (ps := (nums n).map fun k => ((ps.idxOf k : Nat) : Int)) (.inr rfl) (by rw [List.length_map, ints_len]) (by rw [List.length_map]; exact hl) (fun d hd => ?_) ?_
        · obtain ⟨d', hd', rfl⟩ := List.mem_map.mp hd
          exact mvd_ctr (at_perm hp) (hc d' hd')
        · rw [hbk]
          conv => whnf
          refine ⟨⟨okD_of (.tup [.int n, .tup cs]) _ b1 (by omega), okD_of (.tup [.int n, .tup cs]) _ b1 (by omega)⟩, ?_⟩
          conv => whnf
          rw [show (if true = true then !eqb (snap M' (.tup [.int n, .tup cs])) (snap M' (.tup [.int n, .tup cs])) else eqb (snap M' (.tup [.int n, .tup cs])) (snap M' (.tup [.int n, .tup cs]))) = false by
            rw [if_pos rfl]
            show (!eqb (.tup [.int n, .tup cs]) (.tup [.int n, .tup cs])) = false
            rw [eqb_refl _ b1]
            rfl]
          exact k _ _ _ _ _ _ _ _ _ _ _
      · obtain ⟨z, hz, rfl⟩ := List.mem_map.mp (List.mem_of_getElem? hget)
        conv => whnf
        refine ⟨trivial, ?_⟩
        conv => whnf
        exact ⟨ps, rfl, hp.mem_iff.mpr hz, hJ⟩
    · conv => whnf
      exact run_renamed (.inl rfl) (by rw [hpl]) hl hc hJ
  · obtain ⟨rfl, hi, y8, y9, y10, y11, rfl⟩ := h
    have hi := (List.getElem?_eq_some_iff.mp hget).1
    refine run_45 (ps := ps) (kinds := n) (.inl rfl) (by rw [hpl]) (hc d (List.mem_of_getElem? hget)) (by rw [List.length_map, List.length_take]; omega) fun z8 z9 z10 z11 => hJ _ _ ⟨rfl, hi, z8, z9, z10, z11, ?_⟩
    rw [List.take_add_one, hget, List.map_append]
    rfl
theorem run_40 {x0 x3 x4 x5 x6 x7 x8 x9 x10 x11 x12 x13 x14 x15 x16 : Option D} {a b : Addr} {n : Int} {i : Nat} {M : Mem} {y : XD → Mem → Prop} {e : EndsD} (hd : Deck M a b n) (hn : n + 100 < 10 ^ 7)
    (k : ∀ x3 x4 x5 x6 x7 x8 x9 x10 x11 x12 x13 x14 x15 x16 n' M', Deck M' a b n' → n ≤ n' → n' ≤ n + 68 → e.nx [x0, some (.ref a), some (.int i), x3, x4, x5, x6, x7, x8, x9, x10, x11, x12, x13, x14, x15, x16] M') :
    t_law_40 y e [x0, some (.ref a), some (.int i), x3, x4, x5, x6, x7, x8, x9, x10, x11, x12, x13, x14, x15, x16] M := by
  refine u_law_40 ?_
  conv => whnf
  refine ⟨show 3 ≤ sizeLine by decide, ?_⟩
  conv => whnf
  refine ⟨show (0 : Int) < 3 by decide, ?_⟩
  conv => whnf
  obtain ⟨most, hmv, m1, m2⟩ : ∃ most : Int, atI [D.int 4, D.int 2, D.int 3] ((i : Int) % 3) = some (.int most) ∧ 1 ≤ most ∧ most ≤ 4 := by
    have h0 := Int.emod_nonneg (i : Int) (show (3 : Int) ≠ 0 by decide)
    have h1 := Int.emod_lt_of_pos (i : Int) (show (0 : Int) < 3 by decide)
    rcases (show (i : Int) % 3 = 0 ∨ (i : Int) % 3 = 1 ∨ (i : Int) % 3 = 2 by omega) with e | e | e
    · rw [e]
      exact ⟨4, rfl, by decide, by decide⟩
    · rw [e]
      exact ⟨2, rfl, by decide, by decide⟩
    · rw [e]
      exact ⟨3, rfl, by decide, by decide⟩
  rw [hmv]
  conv => whnf
  refine run_board hd (by omega) ⟨m1, m2⟩ fun kinds cs n1 M1 k1 k2 hl hc d1 n10 n11 => ?_
  obtain ⟨m, rfl⟩ : ∃ m : Nat, kinds = m := ⟨kinds.toNat, by omega⟩
  conv => whnf
  refine ⟨⟨by omega, by omega, by omega, by omega, by omega⟩, ?_⟩
  conv => whnf
  rw [rgD_ints, Int.toNat_natCast]
  refine run_names d1 (by omega) (by omega) fun ps n2 M2 hp d2 n20 n21 => ?_
  rw [Int.toNat_natCast] at hp
  conv => whnf
  refine ⟨show 3 ≤ sizeLine by decide, ?_⟩
  conv => whnf
  rw [← List.map_reverse]
  refine run_43 (by omega) (by omega) hp hl hc fun y6 y7 y8 y9 y10 y11 y12 y13 y14 y15 y16 => ?_
  conv => whnf
  refine run_43 (by omega) (by omega) (List.Perm.refl _) hl hc fun y6 y7 y8 y9 y10 y11 y12 y13 y14 y15 y16 => ?_
  conv => whnf
  refine run_43 (by omega) (by omega) (List.reverse_perm _) hl hc fun y6 y7 y8 y9 y10 y11 y12 y13 y14 y15 y16 => ?_
  obtain ⟨b1, b2, b3⟩ := board_sm (kinds := m) (by omega) (by omega) hl hc
  conv => whnf
  refine u_law_53 ?_
  conv => whnf
  refine run_renamed (ps := nums m) (.inl rfl) (by rw [ints_len]) hl hc ?_
  rw [show cs.map (mvd (nums m)) = cs by
    conv => rhs; rw [← List.map_id cs]
    exact List.map_congr_left fun d hd => mvd_plain (hc d hd)]
  conv => whnf
  refine ⟨repr_c b1 (by omega) (by omega), ?_⟩
  rw [snap_sm b1]
  conv => whnf
  refine ⟨repr_c b1 (by omega) (by omega), ?_⟩
  rw [snap_sm b1]
  conv => whnf
  refine ⟨⟨sm_sok _ b1, sm_sok _ b1⟩, ?_⟩
  conv => whnf
  rw [ne_same (toP (.tup [.int m, .tup cs])).shown]
  exact k _ _ _ _ _ _ _ _ _ _ _ _ _ _ n2 M2 d2 (by omega) (by omega)
theorem run_law {ns : List Int} (hn : ns.length ≤ 63) : w_law [.scr (ns.map D.int)] (fun _ => none) (fun d _ => d = .bl true) fun _ _ => False := by
  refine v_law ?_
  conv => whnf
  refine run_deck hn fun a b M1 d1 => ?_
  conv => whnf
  refine ⟨⟨by decide, by decide⟩, ?_⟩
  refine for_ix (fun i ρ M' => ∃ n' x2 x3 x4 x5 x6 x7 x8 x9 x10 x11 x12 x13 x14 x15 x16, Deck M' a b n' ∧ n' ≤ 68 * i ∧ ρ = [some (.scr (ns.map D.int)), some (.ref a), x2, x3, x4, x5, x6, x7, x8, x9, x10, x11, x12, x13, x14, x15, x16])
    ⟨0, _, _, _, _, _, _, _, _, _, _, _, _, _, _, _, d1, by decide, rfl⟩ (fun ρ M' h => ?_) fun i d ρ M' J hget h hJ => ?_
  · rfl
  · obtain ⟨n', y2, y3, y4, y5, y6, y7, y8, y9, y10, y11, y12, y13, y14, y15, y16, d2, h2, rfl⟩ := h
    obtain ⟨rfl, hi⟩ := rangeD_at hget
    rw [Int.zero_add]
    have hi : i < 10 := hi
    conv => whnf
    refine run_40 d2 (by omega) fun z3 z4 z5 z6 z7 z8 z9 z10 z11 z12 z13 z14 z15 z16 n2 M2 d3 h3 h4 => hJ _ _ ⟨n2, _, _, _, _, _, _, _, _, _, _, _, _, _, _, _, d3, by omega, rfl⟩
end Dn

namespace Dn
open PySem PySem.Spec PyProof.Rows L2
theorem all_mk {l : PySem.W.OpenLaw} {w : World} {K : Frg} {h : Heap} {mg : Str → Option Value} {fa : Addr} (X : K.In h) (G : h.Ns mainGlobals mg) (hfa : mg "law" = some (.ref fa))
    {f0 : Addr} {od0 an0 : Option Addr} {sl0 : Array (Option Value)} {oc0 kV0 dc0 pm0 cd0 ct0 : Value} (a0 : PySem.W.nsIn K mainGlobals "moved" = some (some (.ref f0))) (l0 : K.lookup f0 = some ⟨oc0, od0, .func (PySem.W.fnOf "moved" "moved" (defArgs s_moved) (defBody s_moved) (defScope s_moved) .none kV0 dc0 pm0 an0 cd0 ct0), sl0⟩) (c0 : PySem.W.codeIn K cd0 "moved" = true) (k0 : PySem.W.keepIn K (.ref f0) = true)
    {f1 : Addr} {od1 an1 : Option Addr} {sl1 : Array (Option Value)} {oc1 kV1 dc1 pm1 cd1 ct1 : Value} (a1 : PySem.W.nsIn K mainGlobals "renamed" = some (some (.ref f1))) (l1 : K.lookup f1 = some ⟨oc1, od1, .func (PySem.W.fnOf "renamed" "renamed" (defArgs s_renamed) (defBody s_renamed) (defScope s_renamed) .none kV1 dc1 pm1 an1 cd1 ct1), sl1⟩) (c1 : PySem.W.codeIn K cd1 "renamed" = true) (k1 : PySem.W.keepIn K (.ref f1) = true)
    {f2 : Addr} {od2 an2 : Option Addr} {sl2 : Array (Option Value)} {oc2 kV2 dc2 pm2 cd2 ct2 : Value} (a2 : PySem.W.nsIn K mainGlobals "_law_deck" = some (some (.ref f2))) (l2 : K.lookup f2 = some ⟨oc2, od2, .func (PySem.W.fnOf "_law_deck" "_law_deck" (defArgs s_l_deck) (defBody s_l_deck) (defScope s_l_deck) .none kV2 dc2 pm2 an2 cd2 ct2), sl2⟩) (c2 : PySem.W.codeIn K cd2 "_law_deck" = true) (k2 : PySem.W.keepIn K (.ref f2) = true)
    {f3 : Addr} {od3 an3 : Option Addr} {sl3 : Array (Option Value)} {oc3 kV3 dc3 pm3 cd3 ct3 : Value} (a3 : PySem.W.nsIn K mainGlobals "_law_draw" = some (some (.ref f3))) (l3 : K.lookup f3 = some ⟨oc3, od3, .func (PySem.W.fnOf "_law_draw" "_law_draw" (defArgs s_l_draw) (defBody s_l_draw) (defScope s_l_draw) .none kV3 dc3 pm3 an3 cd3 ct3), sl3⟩) (c3 : PySem.W.codeIn K cd3 "_law_draw" = true) (k3 : PySem.W.keepIn K (.ref f3) = true)
    {f4 : Addr} {od4 an4 : Option Addr} {sl4 : Array (Option Value)} {oc4 kV4 dc4 pm4 cd4 ct4 : Value} (a4 : PySem.W.nsIn K mainGlobals "_law_same" = some (some (.ref f4))) (l4 : K.lookup f4 = some ⟨oc4, od4, .func (PySem.W.fnOf "_law_same" "_law_same" (defArgs s_l_same) (defBody s_l_same) (defScope s_l_same) .none kV4 dc4 pm4 an4 cd4 ct4), sl4⟩) (c4 : PySem.W.codeIn K cd4 "_law_same" = true) (k4 : PySem.W.keepIn K (.ref f4) = true)
    {f5 : Addr} {od5 an5 : Option Addr} {sl5 : Array (Option Value)} {oc5 kV5 dc5 pm5 cd5 ct5 : Value} (a5 : PySem.W.nsIn K mainGlobals "_law_counter" = some (some (.ref f5))) (l5 : K.lookup f5 = some ⟨oc5, od5, .func (PySem.W.fnOf "_law_counter" "_law_counter" (defArgs s_l_counter) (defBody s_l_counter) (defScope s_l_counter) .none kV5 dc5 pm5 an5 cd5 ct5), sl5⟩) (c5 : PySem.W.codeIn K cd5 "_law_counter" = true) (k5 : PySem.W.keepIn K (.ref f5) = true)
    {f6 : Addr} {od6 an6 : Option Addr} {sl6 : Array (Option Value)} {oc6 kV6 dc6 pm6 cd6 ct6 : Value} (a6 : PySem.W.nsIn K mainGlobals "_law_board" = some (some (.ref f6))) (l6 : K.lookup f6 = some ⟨oc6, od6, .func (PySem.W.fnOf "_law_board" "_law_board" (defArgs s_l_board) (defBody s_l_board) (defScope s_l_board) .none kV6 dc6 pm6 an6 cd6 ct6), sl6⟩) (c6 : PySem.W.codeIn K cd6 "_law_board" = true) (k6 : PySem.W.keepIn K (.ref f6) = true)
    {f7 : Addr} {od7 an7 : Option Addr} {sl7 : Array (Option Value)} {oc7 kV7 dc7 pm7 cd7 ct7 : Value} (a7 : PySem.W.nsIn K mainGlobals "_law_names" = some (some (.ref f7))) (l7 : K.lookup f7 = some ⟨oc7, od7, .func (PySem.W.fnOf "_law_names" "_law_names" (defArgs s_l_names) (defBody s_l_names) (defScope s_l_names) .none kV7 dc7 pm7 an7 cd7 ct7), sl7⟩) (c7 : PySem.W.codeIn K cd7 "_law_names" = true) (k7 : PySem.W.keepIn K (.ref f7) = true)
    {f8 : Addr} {od8 an8 : Option Addr} {sl8 : Array (Option Value)} {oc8 kV8 dc8 pm8 cd8 ct8 : Value} (a8 : PySem.W.nsIn K mainGlobals "law" = some (some (.ref f8))) (l8 : K.lookup f8 = some ⟨oc8, od8, .func (PySem.W.fnOf "law" "law" (defArgs s_law) (defBody s_law) (defScope s_law) .none kV8 dc8 pm8 an8 cd8 ct8), sl8⟩) (c8 : PySem.W.codeIn K cd8 "law" = true) (k8 : PySem.W.keepIn K (.ref f8) = true)
    (z_abs : PySem.W.nsIn K mainGlobals "abs" = some none) (z_int : PySem.W.nsIn K mainGlobals "int" = some none) (z_len : PySem.W.nsIn K mainGlobals "len" = some none) (z_list : PySem.W.nsIn K mainGlobals "list" = some none) (z_range : PySem.W.nsIn K mainGlobals "range" = some none) (z_repr : PySem.W.nsIn K mainGlobals "repr" = some none) (z_tuple : PySem.W.nsIn K mainGlobals "tuple" = some none) :
    ∃ (K : Frg) (fd : FuncData) (S : SpD), K.In h ∧ (∀ (s : Shared) (u : Value), BindsTo s fd ⟨[u], []⟩ [("_law_script", u)]) ∧ (∀ ns : List Int, ns.length ≤ 63 → S [.scr (ns.map D.int)] (fun _ => none) (fun d _ => d = .bl true) fun _ _ => False) ∧ ∀ base : Heap, K.In base → base.Ns mainGlobals mg → FnG l.prog w K mg base 4 fa fd ["_law_script"] S := by
  have e := hfa.symm.trans (PySem.W.mg_of X G a8)
  cases e
  have at_moved : At K mg "moved" "moved" s_moved ["counter", "names"] := .of X G a0 l0 c0 k0 fun _ _ _ _ _ _ us hl => match us, hl with | [_, _], _ => rfl
  have at_renamed : At K mg "renamed" "renamed" s_renamed ["board", "names"] := .of X G a1 l1 c1 k1 fun _ _ _ _ _ _ us hl => match us, hl with | [_, _], _ => rfl
  have at_l_deck : At K mg "_law_deck" "_law_deck" s_l_deck ["_law_script"] := .of X G a2 l2 c2 k2 fun _ _ _ _ _ _ us hl => match us, hl with | [_], _ => rfl
  have at_l_draw : At K mg "_law_draw" "_law_draw" s_l_draw ["_law_deck_here", "_law_limit"] := .of X G a3 l3 c3 k3 fun _ _ _ _ _ _ us hl => match us, hl with | [_, _], _ => rfl
  have at_l_same : At K mg "_law_same" "_law_same" s_l_same ["_law_value", "_law_due"] := .of X G a4 l4 c4 k4 fun _ _ _ _ _ _ us hl => match us, hl with | [_, _], _ => rfl
  have at_l_counter : At K mg "_law_counter" "_law_counter" s_l_counter ["_law_deck_here", "_law_kinds"] := .of X G a5 l5 c5 k5 fun _ _ _ _ _ _ us hl => match us, hl with | [_, _], _ => rfl
  have at_l_board : At K mg "_law_board" "_law_board" s_l_board ["_law_deck_here", "_law_most", "_law_many"] := .of X G a6 l6 c6 k6 fun _ _ _ _ _ _ us hl => match us, hl with | [_, _, _], _ => rfl
  have at_l_names : At K mg "_law_names" "_law_names" s_l_names ["_law_deck_here", "_law_count"] := .of X G a7 l7 c7 k7 fun _ _ _ _ _ _ us hl => match us, hl with | [_, _], _ => rfl
  have FL := funD_of (st := s_law) l8 c8 k8
  refine ⟨K, _, w_law, X, fun s u => .of_eq rfl, fun ns hn => run_law hn, fun base _ _ => all_has at_moved at_renamed at_l_deck at_l_draw at_l_same at_l_counter at_l_board at_l_names (PySem.W.mg_none_of X G z_abs) (PySem.W.mg_none_of X G z_int) (PySem.W.mg_none_of X G z_len) (PySem.W.mg_none_of X G z_list) (PySem.W.mg_none_of X G z_range) (PySem.W.mg_none_of X G z_repr) (PySem.W.mg_none_of X G z_tuple) FL⟩
end Dn
open PySem PySem.W PyProof.Rows
set_option maxRecDepth 100000 in
set_option maxHeartbeats 0 in
theorem PySem.Challenge.cw_coincounters_k04_kinds_renamed_holds : PySem.Challenge.rw_coincounters_k04_kinds_renamed.Holds := by
  w_on; o_law; k_head; (case hw => w_witness2)
  k_fill
  refine Dn.walkG (l := PySem.Challenge.rw_coincounters_k04_kinds_renamed) (n := 63) (k := 4) (x := "_law_script") rfl (by decide) rfl ⟨rfl, by decide, by decide⟩ ?F
  case F =>
    intro w mg fa h Y G hmg
    refine' Dn.all_mk (PySem.W.kIn_of Y) G hmg ?a0 ?l0 ?c0 ?k0 ?a1 ?l1 ?c1 ?k1 ?a2 ?l2 ?c2 ?k2 ?a3 ?l3 ?c3 ?k3 ?a4 ?l4 ?c4 ?k4 ?a5 ?l5 ?c5 ?k5 ?a6 ?l6 ?c6 ?k6 ?a7 ?l7 ?c7 ?k7 ?a8 ?l8 ?c8 ?k8 ?z_abs ?z_int ?z_len ?z_list ?z_range ?z_repr ?z_tuple
    (case a0 => k_is); (case l0 => k_is); (case c0 => k_is); (case k0 => k_is)
    (case a1 => k_is); (case l1 => k_is); (case c1 => k_is); (case k1 => k_is)
    (case a2 => k_is); (case l2 => k_is); (case c2 => k_is); (case k2 => k_is)
    (case a3 => k_is); (case l3 => k_is); (case c3 => k_is); (case k3 => k_is)
    (case a4 => k_is); (case l4 => k_is); (case c4 => k_is); (case k4 => k_is)
    (case a5 => k_is); (case l5 => k_is); (case c5 => k_is); (case k5 => k_is)
    (case a6 => k_is); (case l6 => k_is); (case c6 => k_is); (case k6 => k_is)
    (case a7 => k_is); (case l7 => k_is); (case c7 => k_is); (case k7 => k_is)
    (case a8 => k_is); (case l8 => k_is); (case c8 => k_is); (case k8 => k_is)
    (case z_abs => k_is)
    (case z_int => k_is)
    (case z_len => k_is)
    (case z_list => k_is)
    (case z_range => k_is)
    (case z_repr => k_is)
    (case z_tuple => k_is)
