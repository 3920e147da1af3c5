import PyProof.Rows.All
import Wide.All
import OpenK.AllK
import Wide.FinOn
import HandS.ForMost
import HandS.ForExc
import HandS.TupAny
import HandS.TupMul
import HandS.Deep
import HandS.Gcd
import HandS.Wide
import HandS.WideBits
import HandS.IsInst
import HandS.Zip
import HandS.Rev
import HandS.RevRange
import HandS.Flow
import HandS.Lambda
import HandS.Defaults
import HandS.ExcInit
import HandS.ExcValue
import HandS.ExcIs
import HandS.ExcField
import HandS.HeadEnd
import HandS.EndBits
import HandS.Style
import HandS.RaiseMore
import HandS.Dict
import HandS.HeadHook2
import Lean
import KE.KStateDown
import HandS.Head0
import HandS.Head1
import HandS.Head2
import HandS.HeadHook1
import PySem.Challenge.RW_ironships_k01_errors_each_of_its_own
set_option Elab.async false
set_option linter.all false
set_option maxRecDepth 100000
set_option maxHeartbeats 2000000
/-! DL1: data on top of the hand layer: what a value is worth (Rep), judgements by functions of data. -/
namespace DL
open PySem PySem.Spec PyProof.Rows L2

/-- data -/
inductive D where
  | non | bl (b : Bool) | int (i : Int) | str (s : PySem.Str)
  | tup (l : List D) | lst (l : List D) | frz (l : List D)
  | dic (ks : List Key) (l : List D)
  | obj (c : PySem.Str) (fs : List PySem.Str) (l : List D)
  | exc (c : PySem.Str) (fs : List PySem.Str) (l : List D) | exb (c : PySem.Str)

section
variable (K : PySem.W.Frag) (mg : PySem.Str → Option Value)
mutual
def Rep (R : Hp) : D → V → Prop
  | .non, v => v = .non
  | .bl b, v => v = .bl b
  | .int i, v => v = .int i
  | .str s, v => v = .str s
  | .tup ds, v => ∃ a vs, v = .ref a ∧ SqT K R a vs ∧ RepL R ds vs
  | .lst ds, v => ∃ a vs, v = .ref a ∧ R a = some (.lst vs) ∧ RepL R ds vs
  | .frz ds, v => ∃ a vs, v = .ref a ∧ SqL K R a vs ∧ RepL R ds vs
  | .dic ks ds, v => ∃ a vs, v = .ref a ∧ R a = some (.dK (ks.zip vs)) ∧ ks.length = ds.length ∧ RepL R ds vs
  | .obj c fs ds, v => ∃ a C dx vs, v = .ref a ∧ mg c = some (.ref C) ∧ R a = some (.ins C dx (fs.zip vs)) ∧ fs.length = ds.length ∧ RepL R ds vs
  | .exc c fs ds, v => ∃ a C dx vs, v = .ref a ∧ mg c = some (.ref C) ∧ R a = some (exo a C (some dx)) ∧ R dx = some (exd dx (fs.zip vs)) ∧ fs.length = ds.length ∧ RepL R ds vs
  | .exb c, v => ∃ a C, v = .ref a ∧ mg c = some (.ref C) ∧ R a = some (ExO (.ref C) a)
def RepL (R : Hp) : List D → List V → Prop
  | [], vs => vs = []
  | d :: ds, vs => ∃ v ws, vs = v :: ws ∧ Rep R d v ∧ RepL R ds ws
end
end

variable {K : PySem.W.Frag} {mg : PySem.Str → Option Value}

theorem Same.seqT {H H' : Hp} {a : Addr} {xs : List V} (e : Same H H') (h : SqT K H a xs) : SqT K H' a xs := by
  rcases h with (h | ⟨o, h⟩) | h
  · exact .inl (.inl (e _ _ h))
  · exact .inl (.inr ⟨o, e _ _ h⟩)
  · exact .inr h

mutual
theorem Rep.mono {R R' : Hp} (s : Same R R') : ∀ (d : D) (v : V), Rep K mg R d v → Rep K mg R' d v
  | .non, v, h => h
  | .bl _, v, h => h
  | .int _, v, h => h
  | .str _, v, h => h
  | .tup ds, v, h => by
    obtain ⟨a, vs, e, h1, h2⟩ := h
    exact ⟨a, vs, e, Same.seqT s h1, RepL.mono s ds vs h2⟩
  | .lst ds, v, h => by
    obtain ⟨a, vs, e, h1, h2⟩ := h
    exact ⟨a, vs, e, s _ _ h1, RepL.mono s ds vs h2⟩
  | .frz ds, v, h => by
    obtain ⟨a, vs, e, h1, h2⟩ := h
    exact ⟨a, vs, e, s.seq h1, RepL.mono s ds vs h2⟩
  | .dic ks ds, v, h => by
    obtain ⟨a, vs, e, h1, h2, h3⟩ := h
    exact ⟨a, vs, e, s _ _ h1, h2, RepL.mono s ds vs h3⟩
  | .obj c fs ds, v, h => by
    obtain ⟨a, C, dx, vs, e, h0, h1, h2, h3⟩ := h
    exact ⟨a, C, dx, vs, e, h0, s _ _ h1, h2, RepL.mono s ds vs h3⟩
  | .exc c fs ds, v, h => by
    obtain ⟨a, C, dx, vs, e, h0, h1, h1', h2, h3⟩ := h
    exact ⟨a, C, dx, vs, e, h0, s _ _ h1, s _ _ h1', h2, RepL.mono s ds vs h3⟩
  | .exb c, v, h => by
    obtain ⟨a, C, e, h0, h1⟩ := h
    exact ⟨a, C, e, h0, s _ _ h1⟩
theorem RepL.mono {R R' : Hp} (s : Same R R') : ∀ (ds : List D) (vs : List V), RepL K mg R ds vs → RepL K mg R' ds vs
  | [], vs, h => h
  | d :: ds, vs, h => by
    obtain ⟨v, ws, e, h1, h2⟩ := h
    exact ⟨v, ws, e, Rep.mono s d v h1, RepL.mono s ds ws h2⟩
end

theorem RepL.length {R : Hp} : ∀ {ds : List D} {vs : List V}, RepL K mg R ds vs → vs.length = ds.length
  | [], vs, h => by
    have h : vs = [] := h
    rw [h]; rfl
  | d :: ds, vs, h => by
    obtain ⟨v, ws, e, h1, h2⟩ := h
    rw [e, List.length_cons, List.length_cons, RepL.length h2]
theorem RepL.get {R : Hp} : ∀ {ds : List D} {vs : List V} {i : Nat} {d : D}, RepL K mg R ds vs → ds[i]? = some d → ∃ v, vs[i]? = some v ∧ Rep K mg R d v
  | [], _, i, d, _, e => by simp at e
  | d' :: ds, vs, 0, d, h, e => by
    obtain ⟨v, ws, e2, h1, h2⟩ := h
    have e : d' = d := by simpa using e
    subst e e2
    exact ⟨v, rfl, h1⟩
  | d' :: ds, vs, i + 1, d, h, e => by
    obtain ⟨v, ws, e2, h1, h2⟩ := h
    subst e2
    have e : ds[i]? = some d := by simpa using e
    obtain ⟨w', q1, q2⟩ := RepL.get (i := i) h2 e
    exact ⟨w', by simpa using q1, q2⟩
theorem RepL.append {R : Hp} : ∀ {ds es : List D} {vs ws : List V}, RepL K mg R ds vs → RepL K mg R es ws → RepL K mg R (ds ++ es) (vs ++ ws)
  | [], es, vs, ws, h, h' => by
    have h : vs = [] := h
    subst h
    exact h'
  | d :: ds, es, vs, ws, h, h' => by
    obtain ⟨v, us, e, h1, h2⟩ := h
    subst e
    exact ⟨v, us ++ ws, rfl, h1, RepL.append h2 h'⟩
theorem RepL.take {R : Hp} : ∀ {ds : List D} {vs : List V} (n : Nat), RepL K mg R ds vs → RepL K mg R (ds.take n) (vs.take n)
  | [], vs, n, h => by
    have h : vs = [] := h
    subst h
    simp [RepL]
  | d :: ds, vs, 0, h => by simp [RepL]
  | d :: ds, vs, n + 1, h => by
    obtain ⟨v, us, e, h1, h2⟩ := h
    subst e
    exact ⟨v, us.take n, rfl, h1, RepL.take n h2⟩
theorem RepL.drop {R : Hp} : ∀ {ds : List D} {vs : List V} (n : Nat), RepL K mg R ds vs → RepL K mg R (ds.drop n) (vs.drop n)
  | [], vs, n, h => by
    have h : vs = [] := h
    subst h
    simp [RepL]
  | d :: ds, vs, 0, h => h
  | d :: ds, vs, n + 1, h => by
    obtain ⟨v, us, e, h1, h2⟩ := h
    subst e
    exact RepL.drop n h2
theorem RepL.set {R : Hp} {d : D} {v : V} (r : Rep K mg R d v) : ∀ {ds : List D} {vs : List V} (n : Nat), RepL K mg R ds vs → RepL K mg R (ds.set n d) (vs.set n v)
  | [], vs, n, h => by
    have h : vs = [] := h
    subst h
    simp [RepL]
  | d' :: ds, vs, 0, h => by
    obtain ⟨v', us, e, h1, h2⟩ := h
    subst e
    exact ⟨v, us, rfl, r, h2⟩
  | d' :: ds, vs, n + 1, h => by
    obtain ⟨v', us, e, h1, h2⟩ := h
    subst e
    exact ⟨v', us.set n v, rfl, h1, RepL.set r n h2⟩
theorem RepL.reverse {R : Hp} : ∀ {ds : List D} {vs : List V}, RepL K mg R ds vs → RepL K mg R ds.reverse vs.reverse
  | [], vs, h => by
    have h : vs = [] := h
    subst h
    simp [RepL]
  | d :: ds, vs, h => by
    obtain ⟨v, us, e, h1, h2⟩ := h
    subst e
    rw [List.reverse_cons, List.reverse_cons]
    exact RepL.append (RepL.reverse h2) ⟨v, [], rfl, h1, rfl⟩

/-! ### regions -/
/-- the region R of the heap H is made greater with H: what is new in it was not in H -/
structure Ext (R H R' H' : Hp) : Prop where
  r : Same R R'
  h : Same H H'
  s : Same R' H'
  f : ∀ b, R' b ≠ none → R b ≠ none ∨ H b = none
theorem Ext.refl {R H : Hp} (s : Same R H) : Ext R H R H := ⟨.refl _, .refl _, s, fun _ h => .inl h⟩
theorem Ext.trans {R H R1 H1 R2 H2 : Hp} (a : Ext R H R1 H1) (b : Ext R1 H1 R2 H2) : Ext R H R2 H2 :=
  ⟨a.r.trans b.r, a.h.trans b.h, b.s, fun c hc => by
    rcases b.f c hc with h | h
    · exact a.f c h
    · exact .inr (a.h.free h)⟩
/-- a new object, in the region -/
theorem Ext.new {R H : Hp} (s : Same R H) {p : Addr} (hp : H p = none) (o : HO) : Ext R H (upd R p o) (upd H p o) :=
  ⟨fun b u e => by rw [upd_ne (ne_of_none (s _ _ e) hp)]; exact e, fun b u e => by rw [upd_ne (ne_of_none e hp)]; exact e,
   fun b u e => by
    by_cases hb : b = p
    · subst hb; rw [upd_same] at e ⊢; exact e
    · rw [upd_ne hb] at e ⊢; exact s _ _ e,
   fun b hb => by
    by_cases e : b = p
    · subst e; exact .inr hp
    · rw [upd_ne e] at hb; exact .inl hb⟩
/-- a new object, not in the region -/
theorem Ext.newOut {R H : Hp} (s : Same R H) {p : Addr} (hp : H p = none) (o : HO) : Ext R H R (upd H p o) :=
  ⟨.refl _, fun b u e => by rw [upd_ne (ne_of_none e hp)]; exact e, fun b u e => by rw [upd_ne (ne_of_none (s _ _ e) hp)]; exact s _ _ e, fun b hb => .inl hb⟩

/-! ### slots -/
/-- a name's slot: nothing known, a value that nobody changes, a list of one's own (true: it was handed in, and stays under this name) -/
inductive S where
  | no | sh (d : D) | own (b : Bool) (l : List D)
abbrev Rho := List S
def peek1 : S → S
  | .own _ l => .sh (.lst l)
  | s => s
def peek (ρ : Rho) : Rho := ρ.map peek1

/-- what may be read -/
structure Env (K : PySem.W.Frag) (mg : PySem.Str → Option Value) (R : Hp) (ρ : Rho) (σ : L2.St) : Prop where
  len : ρ.length = σ.length
  get : ∀ (i : Nat) (d : D), ρ[i]? = some (.sh d) → ∃ v, σ[i]? = some (some v) ∧ Rep K mg R d v
theorem Env.mono {R R' : Hp} {ρ : Rho} {σ : L2.St} (e : Env K mg R ρ σ) (s : Same R R') : Env K mg R' ρ σ := ⟨e.len, fun i d h => by
  obtain ⟨v, h1, h2⟩ := e.get i d h
  exact ⟨v, h1, Rep.mono s d v h2⟩⟩

/-- of a body's promise: where the lists lie that were handed in; the tables of code objects -/
structure Pi where
  ad : Nat → Addr
  tabs : List (Addr × PySem.Str)
/-- a table is kept where only lists are changed -/
theorem tabL {H H' : Hp} {P : Addr} {q : PySem.Str} (t : LamX.TabS H P q) (e : ∀ b o, H b = some o → (∀ l, o ≠ .lst l) → H' b = some o) : LamX.TabS H' P q := by
  obtain ⟨ps, h1, h2, h3⟩ := t
  refine ⟨ps, e _ _ h1 (fun l z => by cases z), h2, fun pos cv hc => ?_⟩
  obtain ⟨c, e1, e2⟩ := h3 pos cv hc
  exact ⟨c, e1, e _ _ e2 fun l z => by unfold LamX.CodeO at z; cases z⟩
theorem tabNe {H : Hp} {P : Addr} {q : PySem.Str} (t : LamX.TabS H P q) : ∃ ps, H P = some (.tbl ps) := by
  obtain ⟨ps, h1, _⟩ := t
  exact ⟨ps, h1⟩
/-- the state of a body. B: what must stay as it is; R₀: the region at the entry -/
structure StR (K : PySem.W.Frag) (mg : PySem.Str → Option Value) (π : Pi) (B R0 R H : Hp) (ρ : Rho) (σ : L2.St) : Prop where
  r0 : Same R0 R
  s : Same R H
  b : Same B H
  f : ∀ b, R b ≠ none → R0 b ≠ none ∨ B b = none
  env : Env K mg R ρ σ
  own : ∀ (i : Nat) (b : Bool) (l : List D), ρ[i]? = some (.own b l) → ∃ p vs, σ[i]? = some (some (.ref p)) ∧ R p = none ∧ B p = none ∧ H p = some (.lst vs) ∧ RepL K mg R l vs ∧ (b = true → p = π.ad i)
  di : ∀ (i j : Nat) (b c : Bool) (l m : List D) (p : Addr), ρ[i]? = some (.own b l) → ρ[j]? = some (.own c m) → σ[i]? = some (some (.ref p)) → σ[j]? = some (some (.ref p)) → i = j
  tab : ∀ p ∈ π.tabs, LamX.TabS H p.1 p.2 ∧ R p.1 = none ∧ B p.1 = none

theorem StR.len {π : Pi} {B R0 R H : Hp} {ρ : Rho} {σ : L2.St} (t : StR K mg π B R0 R H ρ σ) : ρ.length = σ.length := t.env.len
theorem StR.ext {π : Pi} {B R0 R H R' H' : Hp} {ρ : Rho} {σ : L2.St} (t : StR K mg π B R0 R H ρ σ) (e : Ext R H R' H') : StR K mg π B R0 R' H' ρ σ where
  r0 := t.r0.trans e.r
  s := e.s
  b := t.b.trans e.h
  f := fun c hc => by
    rcases e.f c hc with h | h
    · exact t.f c h
    · exact .inr (t.b.free h)
  env := t.env.mono e.r
  own := fun i b l h => by
    obtain ⟨p, vs, h1, h2, h3, h4, h5, h6⟩ := t.own i b l h
    refine ⟨p, vs, h1, ?_, h3, e.h _ _ h4, RepL.mono e.r l vs h5, h6⟩
    cases q : R' p with
    | none => rfl
    | some o =>
      rcases e.f p (by rw [q]; exact fun z => nomatch z) with z | z
      · exact absurd h2 z
      · rw [h4] at z; cases z
  di := t.di
  tab := fun p hp => by
    obtain ⟨h1, h2, h3⟩ := t.tab p hp
    refine ⟨h1.ext e.h, ?_, h3⟩
    cases q : R' p.1 with
    | none => rfl
    | some o =>
      rcases e.f p.1 (by rw [q]; exact fun z => nomatch z) with z | z
      · exact absurd h2 z
      · obtain ⟨ps, h4⟩ := tabNe h1
        rw [h4] at z; cases z

theorem getSet {α : Type} {l : List α} {i j : Nat} {x y : α} (h : (l.set i x)[j]? = some y) : (j = i ∧ y = x ∧ i < l.length) ∨ (j ≠ i ∧ l[j]? = some y) := by
  by_cases e : i = j
  · subst e
    by_cases hl : i < l.length
    · rw [List.getElem?_set_self hl] at h
      exact .inl ⟨rfl, (Option.some.inj h).symm, hl⟩
    · rw [List.getElem?_eq_none (by simp; omega)] at h
      cases h
  · rw [List.getElem?_set_ne e] at h
    exact .inr ⟨fun z => e z.symm, h⟩

/-- a name is stored that holds a value -/
theorem StR.setSh {π : Pi} {B R0 R H : Hp} {ρ : Rho} {σ : L2.St} (t : StR K mg π B R0 R H ρ σ) (i : Nat) {d : D} {v : V} (r : Rep K mg R d v) : StR K mg π B R0 R H (ρ.set i (.sh d)) (σ.set i (some v)) where
  r0 := t.r0
  s := t.s
  b := t.b
  f := t.f
  env := ⟨by rw [List.length_set, List.length_set]; exact t.len, fun j e h => by
    rcases getSet h with ⟨rfl, q, hl⟩ | ⟨hj, h⟩
    · cases q
      exact ⟨v, by rw [List.getElem?_set_self (by rw [← t.len]; exact hl)], r⟩
    · obtain ⟨u, h1, h2⟩ := t.env.get j e h
      exact ⟨u, by rw [List.getElem?_set_ne (Ne.symm hj)]; exact h1, h2⟩⟩
  own := fun j c l h => by
    rcases getSet h with ⟨rfl, q, hl⟩ | ⟨hj, h⟩
    · cases q
    · obtain ⟨p, vs, h1, h2⟩ := t.own j c l h
      exact ⟨p, vs, by rw [List.getElem?_set_ne (Ne.symm hj)]; exact h1, h2⟩
  di := fun j k c c' l m p h1 h2 h3 h4 => by
    rcases getSet h1 with ⟨_, q, _⟩ | ⟨hj, h1⟩
    · cases q
    rcases getSet h2 with ⟨_, q, _⟩ | ⟨hk, h2⟩
    · cases q
    rw [List.getElem?_set_ne (Ne.symm hj)] at h3
    rw [List.getElem?_set_ne (Ne.symm hk)] at h4
    exact t.di j k c c' l m p h1 h2 h3 h4
  tab := t.tab
/-- a name is stored that holds a new list of one's own -/
theorem StR.setOwn {π : Pi} {B R0 R H H0 : Hp} {ρ : Rho} {σ : L2.St} (t : StR K mg π B R0 R H ρ σ) (i : Nat) {l : List D} {p : Addr} {vs : List V} (hR : R p = none) (hB : B p = none) (hH : H p = some (.lst vs)) (r : RepL K mg R l vs)
    (hn : ∀ (j : Nat) (c : Bool) (m : List D), ρ[j]? = some (.own c m) → σ[j]? ≠ some (some (.ref p))) : StR K mg π B R0 R H (ρ.set i (.own false l)) (σ.set i (some (.ref p))) where
  r0 := t.r0
  s := t.s
  b := t.b
  f := t.f
  env := ⟨by rw [List.length_set, List.length_set]; exact t.len, fun j e h => by
    rcases getSet h with ⟨rfl, q, hl⟩ | ⟨hj, h⟩
    · cases q
    · obtain ⟨u, h1, h2⟩ := t.env.get j e h
      exact ⟨u, by rw [List.getElem?_set_ne (Ne.symm hj)]; exact h1, h2⟩⟩
  own := fun j c m h => by
    rcases getSet h with ⟨rfl, q, hl⟩ | ⟨hj, h⟩
    · cases q
      exact ⟨p, vs, by rw [List.getElem?_set_self (by rw [← t.len]; exact hl)], hR, hB, hH, r, fun z => by cases z⟩
    · obtain ⟨q, ws, h1, h2⟩ := t.own j c m h
      exact ⟨q, ws, by rw [List.getElem?_set_ne (Ne.symm hj)]; exact h1, h2⟩
  di := fun j k c c' l' m q h1 h2 h3 h4 => by
    rcases getSet h1 with ⟨ej, q1, hl1⟩ | ⟨hj, h1⟩
    · rcases getSet h2 with ⟨ek, q2, _⟩ | ⟨hk, h2'⟩
      · rw [ej, ek]
      · rw [ej, List.getElem?_set_self (by rw [← t.len]; exact hl1)] at h3
        rw [List.getElem?_set_ne (Ne.symm hk)] at h4
        cases h3
        exact absurd h4 (hn k c' m h2')
    · rcases getSet h2 with ⟨ek, q2, hl2⟩ | ⟨hk, h2⟩
      · rw [ek, List.getElem?_set_self (by rw [← t.len]; exact hl2)] at h4
        rw [List.getElem?_set_ne (Ne.symm hj)] at h3
        cases h4
        exact absurd h3 (hn j c l' h1)
      · rw [List.getElem?_set_ne (Ne.symm hj)] at h3
        rw [List.getElem?_set_ne (Ne.symm hk)] at h4
        exact t.di j k c c' l' m q h1 h2 h3 h4
  tab := t.tab
/-- the list of one's own in slot i is changed -/
theorem StR.write {π : Pi} {B R0 R H : Hp} {ρ : Rho} {σ : L2.St} (t : StR K mg π B R0 R H ρ σ) {i : Nat} {c : Bool} {l l' : List D} {p : Addr} {ws : List V} (h0 : ρ[i]? = some (.own c l)) (h1 : σ[i]? = some (some (.ref p))) (r : RepL K mg R l' ws) : StR K mg π B R0 R (upd H p (.lst ws)) (ρ.set i (.own c l')) σ where
  r0 := t.r0
  s := fun b o e => by
    obtain ⟨q, vs, e1, e2, e3, e4, e5, e6⟩ := t.own i c l h0
    rw [h1] at e1
    cases e1
    rw [upd_ne (fun z => by rw [z, e2] at e; cases e)]
    exact t.s _ _ e
  b := fun b o e => by
    obtain ⟨q, vs, e1, e2, e3, e4, e5, e6⟩ := t.own i c l h0
    rw [h1] at e1
    cases e1
    rw [upd_ne (fun z => by rw [z, e3] at e; cases e)]
    exact t.b _ _ e
  f := t.f
  env := ⟨by rw [List.length_set]; exact t.len, fun j e h => by
    rcases getSet h with ⟨rfl, q, hl⟩ | ⟨hj, h⟩
    · cases q
    · exact t.env.get j e h⟩
  own := fun j c' m h => by
    obtain ⟨q, vs, e1, e2, e3, e4, e5, e6⟩ := t.own i c l h0
    rw [h1] at e1
    cases e1
    rcases getSet h with ⟨rfl, q, hl⟩ | ⟨hj, h⟩
    · cases q
      exact ⟨p, ws, h1, e2, e3, upd_same, r, e6⟩
    · obtain ⟨q, us, g1, g2, g3, g4, g5⟩ := t.own j c' m h
      refine ⟨q, us, g1, g2, g3, ?_, g5⟩
      rw [upd_ne ?_]
      · exact g4
      · rintro rfl
        exact hj (t.di j i c' c m l q h h0 g1 h1)
  di := fun j k c1 c2 a b q h2 h3 h4 h5 => by
    have back : ∀ {j : Nat} {c1 : Bool} {a : List D}, (ρ.set i (.own c l'))[j]? = some (.own c1 a) → ∃ c' a', ρ[j]? = some (.own c' a') := fun {j c1 a} h => by
      rcases getSet h with ⟨rfl, _, _⟩ | ⟨_, h⟩
      · exact ⟨c, l, h0⟩
      · exact ⟨c1, a, h⟩
    obtain ⟨c3, a', h2⟩ := back h2
    obtain ⟨c4, b', h3⟩ := back h3
    exact t.di j k c3 c4 a' b' q h2 h3 h4 h5
  tab := fun a ha => by
    obtain ⟨q, vs, e1, e2, e3, e4, e5, e6⟩ := t.own i c l h0
    rw [h1] at e1
    cases e1
    obtain ⟨g1, g2, g3⟩ := t.tab a ha
    refine ⟨tabL g1 fun b o e n => ?_, g2, g3⟩
    rw [upd_ne (fun z => by rw [z, e4] at e; cases e; exact n _ rfl)]
    exact e

theorem peek_get {ρ : Rho} {i : Nat} {d : D} (h : (peek ρ)[i]? = some (.sh d)) : ρ[i]? = some (.sh d) ∨ ∃ c l, ρ[i]? = some (.own c l) ∧ d = .lst l := by
  unfold peek at h
  rw [List.getElem?_map] at h
  cases e : ρ[i]? with
  | none => rw [e] at h; cases h
  | some s =>
    rw [e] at h
    cases s with
    | no => cases h
    | sh d' =>
      have h : some (S.sh d') = some (S.sh d) := h
      cases h
      exact .inl rfl
    | own c l =>
      have h : some (S.sh (.lst l)) = some (S.sh d) := h
      cases h
      exact .inr ⟨c, l, rfl, rfl⟩
open Classical in
/-- all lists of one's own become part of the region -/
theorem StR.peek {π : Pi} {B R0 R H : Hp} {ρ : Rho} {σ : L2.St} (t : StR K mg π B R0 R H ρ σ) : ∃ R', Same R R' ∧ StR K mg π B R0 R' H (peek ρ) σ ∧
    (∀ b, R' b ≠ none → R b ≠ none ∨ ∃ (i : Nat) (c : Bool) (l : List D), ρ[i]? = some (S.own c l) ∧ σ[i]? = some (some (V.ref b))) := by
  have key : ∀ b, (∃ (i : Nat) (c : Bool) (l : List D), ρ[i]? = some (S.own c l) ∧ σ[i]? = some (some (V.ref b))) → R b = none ∧ B b = none ∧ ∃ vs, H b = some (.lst vs) := fun b ⟨i, c, l, h1, h2⟩ => by
    obtain ⟨q, vs, e1, e2, e3, e4, e5, e6⟩ := t.own i c l h1
    rw [h2] at e1
    cases e1
    exact ⟨e2, e3, vs, e4⟩
  refine ⟨fun b => if (∃ (i : Nat) (c : Bool) (l : List D), ρ[i]? = some (S.own c l) ∧ σ[i]? = some (some (V.ref b))) then H b else R b, ?_, ?_, ?_⟩
  · intro b o e
    show (if _ then H b else R b) = _
    split
    · exact t.s _ _ e
    · exact e
  · have sm : Same R (fun b => if (∃ (i : Nat) (c : Bool) (l : List D), ρ[i]? = some (S.own c l) ∧ σ[i]? = some (some (V.ref b))) then H b else R b) := fun b o e => by
      show (if _ then H b else R b) = _
      split
      · exact t.s _ _ e
      · exact e
    refine ⟨t.r0.trans sm, fun b o e => ?_, t.b, fun b hb => ?_, ⟨by unfold DL.peek; rw [List.length_map]; exact t.len, fun i d h => ?_⟩, fun i c l h => ?_, fun i j c c' l m p h => ?_, fun p hp => ?_⟩
    · have e : (if _ then H b else R b) = some o := e
      split at e
      · exact e
      · exact t.s _ _ e
    · have hb : (if _ then H b else R b) ≠ none := hb
      split at hb
      · rename_i z
        exact .inr (key b z).2.1
      · exact t.f b hb
    · rcases peek_get h with h' | ⟨c, l, h', e'⟩
      · obtain ⟨v, h1, h2⟩ := t.env.get i d h'
        exact ⟨v, h1, Rep.mono sm d v h2⟩
      · subst e'
        obtain ⟨q, vs, e1, e2, e3, e4, e5, e6⟩ := t.own i c l h'
        refine ⟨.ref q, e1, q, vs, rfl, ?_, RepL.mono sm l vs e5⟩
        show (if _ then H q else R q) = _
        rw [if_pos ⟨i, c, l, h', e1⟩]
        exact e4
    · unfold DL.peek at h
      rw [List.getElem?_map] at h
      cases e : ρ[i]? with
      | none => rw [e] at h; cases h
      | some s => rw [e] at h; cases s <;> cases h
    · unfold DL.peek at h
      rw [List.getElem?_map] at h
      cases e : ρ[i]? with
      | none => rw [e] at h; cases h
      | some s => rw [e] at h; cases s <;> cases h
    · obtain ⟨g1, g2, g3⟩ := t.tab p hp
      refine ⟨g1, ?_, g3⟩
      show (if _ then H p.1 else R p.1) = none
      rw [if_neg (fun z => ?_)]
      · exact g2
      · obtain ⟨_, _, vs, e⟩ := key _ z
        obtain ⟨ps, e'⟩ := tabNe g1
        rw [e'] at e; cases e
  · intro b hb
    have hb : (if _ then H b else R b) ≠ none := hb
    split at hb
    · rename_i z
      exact .inr z
    · exact .inl hb
end DL

set_option Elab.async false
set_option linter.all false
set_option maxRecDepth 100000
set_option maxHeartbeats 2000000
/-! DL2: operators on data. -/
namespace DL
open PySem PySem.Spec PyProof.Rows L2

theorem ite_some {α : Type} {c : Prop} [Decidable c] {x d : α} (h : (if c then some x else none) = some d) : c ∧ x = d := by
  by_cases hc : c
  · rw [if_pos hc] at h; exact ⟨hc, Option.some.inj h⟩
  · rw [if_neg hc] at h; cases h
theorem le1000 {n : Nat} (h : n ≤ 1000) : n ≤ sizeLine := Nat.le_of_lt (small1000 h)

/-! ### data as the library's data -/
mutual
def py : D → Option PyData
  | .non => some .none
  | .bl b => some (.bool b)
  | .int i => some (.int i)
  | .str s => some (.str s)
  | .tup l => (pyL l).map .tuple
  | .lst l => (pyL l).map .list
  | .frz l => (pyL l).map .list
  | .dic _ _ => none
  | .obj _ _ _ => none
  | .exc _ _ _ => none
  | .exb _ => none
def pyL : List D → Option (List PyData)
  | [] => some []
  | d :: ds => (py d).bind fun x => (pyL ds).map fun xs => x :: xs
end
section
variable {K : PySem.W.Frag} {mg : PySem.Str → Option Value} {R : Hp}
mutual
theorem Rep.dp : ∀ (d : D) (v : V) (p : PyData), Rep K mg R d v → py d = some p → Dp K R v p
  | .non, v, p, h, e => by
    have h : v = .non := h
    have e : some PyData.none = some p := e
    cases e; rw [h]; exact .non
  | .bl b, v, p, h, e => by
    have h : v = .bl b := h
    have e : some (PyData.bool b) = some p := e
    cases e; rw [h]; exact .bl b
  | .int i, v, p, h, e => by
    have h : v = .int i := h
    have e : some (PyData.int i) = some p := e
    cases e; rw [h]; exact .int i
  | .str s, v, p, h, e => by
    have h : v = .str s := h
    have e : some (PyData.str s) = some p := e
    cases e; rw [h]; exact .str s
  | .tup l, v, p, h, e => by
    obtain ⟨a, vs, e1, h1, h2⟩ := h
    have e : (pyL l).map .tuple = some p := e
    cases q : pyL l with
    | none => rw [q] at e; cases e
    | some ps =>
      rw [q] at e
      have e : some (PyData.tuple ps) = some p := e
      cases e; rw [e1]
      exact .tup h1 (RepL.dp l vs ps h2 q)
  | .lst l, v, p, h, e => by
    obtain ⟨a, vs, e1, h1, h2⟩ := h
    have e : (pyL l).map .list = some p := e
    cases q : pyL l with
    | none => rw [q] at e; cases e
    | some ps =>
      rw [q] at e
      have e : some (PyData.list ps) = some p := e
      cases e; rw [e1]
      exact .lst (.inl (.inl h1)) (RepL.dp l vs ps h2 q)
  | .frz l, v, p, h, e => by
    obtain ⟨a, vs, e1, h1, h2⟩ := h
    have e : (pyL l).map .list = some p := e
    cases q : pyL l with
    | none => rw [q] at e; cases e
    | some ps =>
      rw [q] at e
      have e : some (PyData.list ps) = some p := e
      cases e; rw [e1]
      exact .lst h1 (RepL.dp l vs ps h2 q)
  | .dic _ _, v, p, h, e => by
    have e : (none : Option PyData) = some p := e
    cases e
  | .obj _ _ _, v, p, h, e => by
    have e : (none : Option PyData) = some p := e
    cases e
  | .exc _ _ _, v, p, h, e => by
    have e : (none : Option PyData) = some p := e
    cases e
  | .exb _, v, p, h, e => by
    have e : (none : Option PyData) = some p := e
    cases e
theorem RepL.dp : ∀ (l : List D) (vs : List V) (ps : List PyData), RepL K mg R l vs → pyL l = some ps → DpAll K R vs ps
  | [], vs, ps, h, e => by
    have h : vs = [] := h
    have e : some ([] : List PyData) = some ps := e
    cases e; rw [h]; exact .nil
  | d :: ds, vs, ps, h, e => by
    obtain ⟨v, ws, e1, h1, h2⟩ := h
    have e : ((py d).bind fun x => (pyL ds).map fun xs => x :: xs) = some ps := e
    cases q : py d with
    | none => rw [q] at e; cases e
    | some x =>
      rw [q] at e
      have e : ((pyL ds).map fun xs => x :: xs) = some ps := e
      cases q2 : pyL ds with
      | none => rw [q2] at e; cases e
      | some xs =>
        rw [q2] at e
        have e : some (x :: xs) = some ps := e
        cases e; rw [e1]
        exact .cons (Rep.dp d v x h1 q) (RepL.dp ds ws xs h2 q2)
end
end

/-! ### operators by values -/
abbrev R2d (K : PySem.W.Frag) (mg : PySem.Str → Option Value) (r : R2) (f : D → D → Option D) : Prop :=
  ∀ (R H : Hp) (dx dy : D) (x y : V) (d : D) (Q : VK), Same R H → Rep K mg R dx x → Rep K mg R dy y → f dx dy = some d → (∀ v R' H', Ext R H R' H' → Rep K mg R' d v → Q v H') → r x y H Q
/-- a binary operator of the model's worth f -/
structure O2 (X : Cx) (op : Value → Value → Sem Value) (f : D → D → Option D) : Prop where
  ex : ∃ r, OpR X op r ∧ R2d X.K X.mg r f

def dAdd : D → D → Option D
  | .int i, .int j => some (.int (i + j))
  | .str x, .str y => if x.length + y.length ≤ 1000 then some (.str (x ++ y)) else none
  | .tup x, .tup y => if x.length + y.length ≤ 1000 then some (.tup (x ++ y)) else none
  | .lst x, .lst y => if x.length + y.length ≤ 1000 then some (.lst (x ++ y)) else none
  | _, _ => none
def dSub : D → D → Option D
  | .int i, .int j => some (.int (i - j))
  | _, _ => none
def mulOk (i j : Int) : Bool := decide (i.natAbs.log2 + j.natAbs.log2 < 100000000)
def dMul : D → D → Option D
  | .int i, .int j => if mulOk i j then some (.int (i * j)) else none
  | .tup l, .int k => if l ≠ [] ∧ 2 ≤ k ∧ k ≤ 1000 ∧ l.length ≤ 1000 then some (.tup (List.replicate k.toNat l).flatten) else none
  | .lst l, .int k => if -1000 ≤ k ∧ k ≤ 1000 ∧ l.length ≤ 1000 then some (.lst (List.replicate k.toNat l).flatten) else none
  | _, _ => none
def divOk (j : Int) : Bool := decide (j ≠ 0 ∧ j.natAbs.log2 < 9000)
def dFdiv : D → D → Option D
  | .int i, .int j => if divOk j then some (.int (i.fdiv j)) else none
  | _, _ => none
def dMod : D → D → Option D
  | .int i, .int j => if j = 0 then none else some (.int (i.fmod j))
  | _, _ => none
def dPow : D → D → Option D
  | .int i, .int j => if 0 ≤ j ∧ j ≤ 1000000 ∧ i.natAbs < 2 ^ 64 then some (.int (i ^ j.toNat)) else none
  | _, _ => none
def dCmp (f : Int → Int → Bool) : D → D → Option D
  | .int i, .int j => some (.bl (f i j))
  | _, _ => none
def dEqv (a b : D) : Option Bool :=
  (py a).bind fun x => (py b).bind fun y => if SeqAt.shaped x = true ∧ SeqAt.shaped y = true then some (PyData.eqv x y) else none
def dEq (a b : D) : Option D := (dEqv a b).map .bl
def dNe (a b : D) : Option D := (dEqv a b).map fun c => .bl (!c)
def isNon : D → Bool
  | .non => true
  | _ => false
def dIs : D → D → Option D
  | a, .non => some (.bl (isNon a))
  | .bl a, .bl b => some (.bl (decide (a = b)))
  | _, _ => none
def dIsNot : D → D → Option D
  | a, .non => some (.bl (!isNon a))
  | .bl a, .bl b => some (.bl (!decide (a = b)))
  | _, _ => none

section
variable {X : Cx}
theorem O2.of {op : Value → Value → Sem Value} {f : D → D → Option D} {r : R2} (h : OpR X op r) (h2 : R2d X.K X.mg r f) : O2 X op f := ⟨r, h, h2⟩
theorem O2.or {op : Value → Value → Sem Value} {f g : D → D → Option D} (a : O2 X op f) (b : O2 X op g) : O2 X op (fun x y => (f x y).or (g x y)) := by
  obtain ⟨r, h1, h2⟩ := a.ex
  obtain ⟨r', h1', h2'⟩ := b.ex
  refine ⟨_, h1.or h1', fun R H dx dy x y d Q s rx ry e q => ?_⟩
  cases e1 : f dx dy with
  | some z =>
    have e : (f dx dy).or (g dx dy) = some d := e
    rw [e1] at e
    have e : some z = some d := e
    cases e
    exact .inl (h2 R H dx dy x y d Q s rx ry e1 q)
  | none =>
    have e : (f dx dy).or (g dx dy) = some d := e
    rw [e1] at e
    exact .inr (h2' R H dx dy x y d Q s rx ry (by simpa using e) q)
theorem O2.imp {op : Value → Value → Sem Value} {f g : D → D → Option D} (a : O2 X op f) (h : ∀ x y d, g x y = some d → f x y = some d) : O2 X op g := by
  obtain ⟨r, h1, h2⟩ := a.ex
  exact ⟨r, h1, fun R H dx dy x y d Q s rx ry e q => h2 R H dx dy x y d Q s rx ry (h _ _ _ e) q⟩

theorem o_int {op : Value → Value → Sem Value} {C : Int → Int → Prop} {z : Int → Int → V} {zd : Int → Int → D} {f : D → D → Option D} (h : OpR X op (rI C z)) (hz : ∀ i j R, Rep X.K X.mg R (zd i j) (z i j))
    (hf : ∀ dx dy d, f dx dy = some d → ∃ i j, dx = .int i ∧ dy = .int j ∧ C i j ∧ d = zd i j) : O2 X op f := .of h fun R H dx dy x y d Q s rx ry e q => by
  obtain ⟨i, j, rfl, rfl, hc, rfl⟩ := hf _ _ _ e
  exact ⟨i, j, rx, ry, hc, q _ R H (.refl s) (hz i j R)⟩
theorem o_int0 {op : Value → Value → Sem Value} {z : Int → Int → V} {zd : Int → Int → D} {f : D → D → Option D} (h : OpR X op (rI0 z)) (hz : ∀ i j R, Rep X.K X.mg R (zd i j) (z i j))
    (hf : ∀ dx dy d, f dx dy = some d → ∃ i j, dx = .int i ∧ dy = .int j ∧ d = zd i j) : O2 X op f := .of h fun R H dx dy x y d Q s rx ry e q => by
  obtain ⟨i, j, rfl, rfl, rfl⟩ := hf _ _ _ e
  exact ⟨i, j, rx, ry, q _ R H (.refl s) (hz i j R)⟩

def dAddI : D → D → Option D
  | .int i, .int j => some (.int (i + j))
  | _, _ => none
theorem o_addI : O2 X (binaryOp .Add) dAddI := o_int0 (zd := fun i j => .int (i + j)) op_add (fun _ _ _ => rfl) fun dx dy d e => by
  cases dx <;> cases dy <;> first | (cases e; exact ⟨_, _, rfl, rfl, rfl⟩) | cases e
def dAddS : D → D → Option D
  | .str x, .str y => if x.length + y.length ≤ 1000 then some (.str (x ++ y)) else none
  | _, _ => none
theorem o_addS : O2 X (binaryOp .Add) dAddS := .of op_add_str fun R H dx dy x y d Q s rx ry e q => by
  cases dx <;> cases dy <;> (try (cases e; done))
  rename_i a b
  obtain ⟨hl, rfl⟩ := ite_some (show (if _ then some _ else none) = some d from e)
  exact ⟨a, b, rx, ry, le1000 hl, q _ R H (.refl s) rfl⟩
def dAddT : D → D → Option D
  | .tup x, .tup y => if x.length + y.length ≤ 1000 then some (.tup (x ++ y)) else none
  | _, _ => none
theorem tup_new {K : PySem.W.Frag} {mg : PySem.Str → Option Value} {R : Hp} {p : Addr} {l : List D} {vs : List V} (hR : R p = none) (r : RepL K mg R l vs) : Rep K mg (upd R p (.tup vs)) (.tup l) (.ref p) :=
  ⟨p, vs, rfl, .inl (.inl upd_same), RepL.mono (fun b o e => by rw [upd_ne (ne_of_none e hR)]; exact e) l vs r⟩
theorem lst_new {K : PySem.W.Frag} {mg : PySem.Str → Option Value} {R : Hp} {p : Addr} {l : List D} {vs : List V} (hR : R p = none) (r : RepL K mg R l vs) : Rep K mg (upd R p (.lst vs)) (.lst l) (.ref p) :=
  ⟨p, vs, rfl, upd_same, RepL.mono (fun b o e => by rw [upd_ne (ne_of_none e hR)]; exact e) l vs r⟩
theorem o_addT : O2 X (binaryOp .Add) dAddT := .of op_catA fun R H dx dy x y d Q s rx ry e q => by
  cases dx <;> cases dy <;> (try (cases e; done))
  rename_i l m
  obtain ⟨hl, rfl⟩ := ite_some (show (if _ then some _ else none) = some d from e)
  obtain ⟨a, vs, e1, h1, h2⟩ := rx
  obtain ⟨b, ws, e2, h3, h4⟩ := ry
  have l1 := RepL.length h2
  have l2 := RepL.length h4
  refine ⟨a, b, vs, ws, e1, e2, Same.seqT s h1, Same.seqT s h3, le1000 (by omega), fun z => ?_, fun z z2 => ?_, fun z z2 p hp => ?_⟩
  · subst z
    have : l = [] := List.eq_nil_of_length_eq_zero (by rw [← l1]; rfl)
    subst this
    exact q _ R H (.refl s) ⟨b, ws, rfl, h3, h4⟩
  · subst z2
    have : m = [] := List.eq_nil_of_length_eq_zero (by rw [← l2]; rfl)
    subst this
    rw [List.append_nil] at q
    exact q _ R H (.refl s) ⟨a, vs, rfl, h1, h2⟩
  · exact q _ _ _ (Ext.new s hp _) (tup_new (s.free hp) (RepL.append h2 h4))
def dAddL : D → D → Option D
  | .lst x, .lst y => if x.length + y.length ≤ 1000 then some (.lst (x ++ y)) else none
  | _, _ => none
theorem o_addL : O2 X (binaryOp .Add) dAddL := .of op_cat fun R H dx dy x y d Q s rx ry e q => by
  cases dx <;> cases dy <;> (try (cases e; done))
  rename_i l m
  obtain ⟨hl, rfl⟩ := ite_some (show (if _ then some _ else none) = some d from e)
  obtain ⟨a, vs, e1, h1, h2⟩ := rx
  obtain ⟨b, ws, e2, h3, h4⟩ := ry
  have l1 := RepL.length h2
  have l2 := RepL.length h4
  exact ⟨a, b, vs, ws, e1, e2, s _ _ h1, s _ _ h3, le1000 (by omega), fun p hp => q _ _ _ (Ext.new s hp _) (lst_new (s.free hp) (RepL.append h2 h4))⟩
theorem o_add : O2 X (binaryOp .Add) dAdd := ((o_addI.or o_addS).or (o_addT.or o_addL)).imp fun x y d e => by
  cases x <;> cases y <;> first | exact e | (cases e) | (simp only [dAdd] at e; simp only [dAddI, dAddS, dAddT, dAddL, Option.none_or, Option.or_none]; exact e)
theorem o_sub : O2 X (binaryOp .Sub) dSub := o_int0 (zd := fun i j => .int (i - j)) op_sub (fun _ _ _ => rfl) fun dx dy d e => by
  cases dx <;> cases dy <;> first | (cases e; exact ⟨_, _, rfl, rfl, rfl⟩) | cases e

theorem intBits_le (x : Int) : Builtin.Int.intBits x ≤ x.natAbs.log2 + 1 := by
  unfold Builtin.Int.intBits
  split <;> omega
theorem mulOk.ok {i j : Int} (h : mulOk i j = true) : IntMulOk i j := by
  have h3 : i.natAbs.log2 + j.natAbs.log2 < 100000000 := of_decide_eq_true h
  have h1 := intBits_le i
  have h2 := intBits_le j
  have e : bitsLine = 134217728 := by decide
  unfold IntMulOk
  intro z
  rw [Bool.and_eq_true] at z
  have z2 := z.2
  unfold Builtin.Int.intTooBig at z2
  have z3 := of_decide_eq_true z2
  rw [e] at z3
  omega
theorem op_mulB : OpR X (binaryOp .Mult) (rI (fun i j => mulOk i j = true) fun i j => .int (i * j)) := opI fun _ _ _ _ _ _ _ hc q => mul_int q (mulOk.ok hc)
def dMulI : D → D → Option D
  | .int i, .int j => if mulOk i j then some (.int (i * j)) else none
  | _, _ => none
theorem o_mulI : O2 X (binaryOp .Mult) dMulI := o_int (zd := fun i j => .int (i * j)) op_mulB (fun _ _ _ => rfl) fun dx dy d e => by
  cases dx <;> cases dy <;> (try (cases e; done))
  obtain ⟨hl, rfl⟩ := ite_some (show (if _ then some _ else none) = some d from e)
  exact ⟨_, _, rfl, rfl, hl, rfl⟩
def dMulT : D → D → Option D
  | .tup l, .int k => if l ≠ [] ∧ 2 ≤ k ∧ k ≤ 1000 ∧ l.length ≤ 1000 then some (.tup (List.replicate k.toNat l).flatten) else none
  | _, _ => none
theorem RepL.rep {K : PySem.W.Frag} {mg : PySem.Str → Option Value} {R : Hp} {l : List D} {vs : List V} (r : RepL K mg R l vs) : ∀ n, RepL K mg R (List.replicate n l).flatten (List.replicate n vs).flatten
  | 0 => rfl
  | n + 1 => by
    rw [List.replicate_succ, List.replicate_succ, List.flatten_cons, List.flatten_cons]
    exact RepL.append r (RepL.rep r n)
theorem o_mulT : O2 X (binaryOp .Mult) dMulT := .of op_repT fun R H dx dy x y d Q s rx ry e q => by
  cases dx <;> cases dy <;> (try (cases e; done))
  rename_i l k
  obtain ⟨⟨hn, h2, h3, h4⟩, rfl⟩ := ite_some (show (if _ then some _ else none) = some d from e)
  obtain ⟨a, vs, e1, h1, r2⟩ := rx
  have l1 := RepL.length r2
  refine ⟨a, k, vs, e1, ry, Same.seqT s h1, fun z => hn ?_, h2, h3, by omega, fun p hp => q _ _ _ (Ext.new s hp _) (tup_new (s.free hp) (RepL.rep r2 _))⟩
  subst z
  exact List.eq_nil_of_length_eq_zero (by rw [← l1]; rfl)
def dMulL : D → D → Option D
  | .lst l, .int k => if -1000 ≤ k ∧ k ≤ 1000 ∧ l.length ≤ 1000 then some (.lst (List.replicate k.toNat l).flatten) else none
  | _, _ => none
theorem o_mulL : O2 X (binaryOp .Mult) dMulL := .of op_rep fun R H dx dy x y d Q s rx ry e q => by
  cases dx <;> cases dy <;> (try (cases e; done))
  rename_i l k
  obtain ⟨⟨h2, h3, h4⟩, rfl⟩ := ite_some (show (if _ then some _ else none) = some d from e)
  obtain ⟨a, vs, e1, h1, r2⟩ := rx
  have l1 := RepL.length r2
  refine ⟨a, k, vs, e1, ry, s _ _ h1, by omega, by omega, ?_, fun p hp => q _ _ _ (Ext.new s hp _) (lst_new (s.free hp) (RepL.rep r2 _))⟩
  rw [sizeLine_eq]
  have a1 : vs.length * k.toNat ≤ 1000 * 1000 := Nat.mul_le_mul (by omega) (by omega)
  omega
theorem o_mul : O2 X (binaryOp .Mult) dMul := ((o_mulI.or o_mulT).or o_mulL).imp fun x y d e => by
  cases x <;> cases y <;> first | exact e | (cases e) | (simp only [dMul] at e; simp only [dMulI, dMulT, dMulL, Option.none_or, Option.or_none]; exact e)
theorem op_fdivB : OpR X (binaryOp .FloorDiv) (rI (fun _ j => divOk j = true) fun i j => .int (i.fdiv j)) := opI fun i j _ _ _ _ _ hc q => by
  have hc : j ≠ 0 ∧ j.natAbs.log2 < 9000 := of_decide_eq_true hc
  exact floordiv_int hc.1 q (.inl (PyProof.noPylong_of_log2 hc.2))
theorem o_fdiv : O2 X (binaryOp .FloorDiv) dFdiv := o_int (zd := fun i j => .int (i.fdiv j)) op_fdivB (fun _ _ _ => rfl) fun dx dy d e => by
  cases dx <;> cases dy <;> (try (cases e; done))
  obtain ⟨hl, rfl⟩ := ite_some (show (if _ then some _ else none) = some d from e)
  exact ⟨_, _, rfl, rfl, hl, rfl⟩
theorem o_mod : O2 X (binaryOp .Mod) dMod := o_int (zd := fun i j => .int (i.fmod j)) op_modN (fun _ _ _ => rfl) fun dx dy d e => by
  cases dx <;> cases dy <;> (try (cases e; done))
  rename_i i j
  by_cases hj : j = 0
  · rw [show dMod (.int i) (.int j) = none from if_pos hj] at e; cases e
  · rw [show dMod (.int i) (.int j) = some (.int (i.fmod j)) from if_neg hj] at e; cases e; exact ⟨_, _, rfl, rfl, hj, rfl⟩
theorem o_pow : O2 X (binaryOp .Pow) dPow := o_int (zd := fun i j => .int (i ^ j.toNat)) op_pow (fun _ _ _ => rfl) fun dx dy d e => by
  cases dx <;> cases dy <;> (try (cases e; done))
  obtain ⟨hl, rfl⟩ := ite_some (show (if _ then some _ else none) = some d from e)
  exact ⟨_, _, rfl, rfl, hl, rfl⟩
theorem o_cmp {op : Value → Value → Sem Value} {f : Int → Int → Bool} (h : OpR X op (rI0 fun i j => .bl (f i j))) : O2 X op (dCmp f) := o_int0 (zd := fun i j => .bl (f i j)) h (fun _ _ _ => rfl) fun dx dy d e => by
  cases dx <;> cases dy <;> first | (cases e; exact ⟨_, _, rfl, rfl, rfl⟩) | cases e
def fLt (i j : Int) : Bool := decide (i < j)
def fLe (i j : Int) : Bool := decide (i ≤ j)
def fGt (i j : Int) : Bool := decide (j < i)
def fGe (i j : Int) : Bool := decide (j ≤ i)
theorem o_lt : O2 X (compareOp .Lt) (dCmp fLt) := o_cmp op_lt
theorem o_le : O2 X (compareOp .LtE) (dCmp fLe) := o_cmp op_le
theorem o_gt : O2 X (compareOp .Gt) (dCmp fGt) := o_cmp op_gt
theorem o_ge : O2 X (compareOp .GtE) (dCmp fGe) := o_cmp op_ge
theorem dEqv_some {a b : D} {c : Bool} (h : dEqv a b = some c) : ∃ x y, py a = some x ∧ py b = some y ∧ SeqAt.shaped x = true ∧ SeqAt.shaped y = true ∧ c = PyData.eqv x y := by
  unfold dEqv at h
  cases e1 : py a with
  | none => rw [e1] at h; cases h
  | some x =>
    cases e2 : py b with
    | none => rw [e1, e2] at h; cases h
    | some y =>
      rw [e1, e2] at h
      have h : (if SeqAt.shaped x = true ∧ SeqAt.shaped y = true then some (PyData.eqv x y) else none) = some c := h
      split at h
      · rename_i hs
        cases h
        exact ⟨x, y, rfl, rfl, hs.1, hs.2, rfl⟩
      · cases h
theorem Rep.up {K : PySem.W.Frag} {mg : PySem.Str → Option Value} {R H : Hp} {d : D} {v : V} (s : Same R H) (r : Rep K mg R d v) : Rep K mg H d v := Rep.mono s d v r
theorem o_eq (hu : X.A.units + 64 < cLine) : O2 X (compareOp .Eq) dEq := .of (op_eqD hu) fun R H dx dy x y d Q s rx ry e q => by
  unfold dEq at e
  cases e1 : dEqv dx dy with
  | none => rw [e1] at e; cases e
  | some c =>
    rw [e1] at e
    have e : some (D.bl c) = some d := e
    cases e
    obtain ⟨p1, p2, h1, h2, h3, h4, h5⟩ := dEqv_some e1
    exact ⟨p1, p2, Rep.dp _ _ _ (rx.up s) h1, Rep.dp _ _ _ (ry.up s) h2, h3, h4, q _ R H (.refl s) (by rw [← h5]; rfl)⟩
theorem o_ne (hu : X.A.units + 64 < cLine) : O2 X (compareOp .NotEq) dNe := .of (op_neD hu) fun R H dx dy x y d Q s rx ry e q => by
  unfold dNe at e
  cases e1 : dEqv dx dy with
  | none => rw [e1] at e; cases e
  | some c =>
    rw [e1] at e
    have e : some (D.bl (!c)) = some d := e
    cases e
    obtain ⟨p1, p2, h1, h2, h3, h4, h5⟩ := dEqv_some e1
    exact ⟨p1, p2, Rep.dp _ _ _ (rx.up s) h1, Rep.dp _ _ _ (ry.up s) h2, h3, h4, q _ R H (.refl s) (by rw [← h5]; rfl)⟩
theorem isNon_v {K : PySem.W.Frag} {mg : PySem.Str → Option Value} {R : Hp} {d : D} {v : V} (r : Rep K mg R d v) : decide (v = V.non) = isNon d := by
  cases d with
  | non => rw [show v = V.non from r]; rfl
  | bl b => rw [show v = V.bl b from r]; rfl
  | int b => rw [show v = V.int b from r]; rfl
  | str b => rw [show v = V.str b from r]; rfl
  | tup l => obtain ⟨a, vs, e, _⟩ := r; rw [e]; rfl
  | lst l => obtain ⟨a, vs, e, _⟩ := r; rw [e]; rfl
  | frz l => obtain ⟨a, vs, e, _⟩ := r; rw [e]; rfl
  | dic k l => obtain ⟨a, vs, e, _⟩ := r; rw [e]; rfl
  | obj c f l => obtain ⟨a, C, dx, vs, e, _⟩ := r; rw [e]; rfl
  | exc c f l => obtain ⟨a, C, dx, vs, e, _⟩ := r; rw [e]; rfl
  | exb c => obtain ⟨a, C, e, _⟩ := r; rw [e]; rfl
def dIsN : D → D → Option D
  | a, .non => some (.bl (isNon a))
  | _, _ => none
theorem o_isN : O2 X (compareOp .Is) dIsN := .of op_isN fun R H dx dy x y d Q s rx ry e q => by
  cases dy <;> first | (cases e; done) | skip
  · have e := Option.some.inj (show some (D.bl _) = some d from e)
    subst e
    exact ⟨ry, q _ R H (.refl s) (by rw [isNon_v rx]; rfl)⟩
def dIsNotN : D → D → Option D
  | a, .non => some (.bl (!isNon a))
  | _, _ => none
theorem o_isNotN : O2 X (compareOp .IsNot) dIsNotN := .of op_notN fun R H dx dy x y d Q s rx ry e q => by
  cases dy <;> first | (cases e; done) | skip
  · have e := Option.some.inj (show some (D.bl _) = some d from e)
    subst e
    exact ⟨ry, q _ R H (.refl s) (by rw [isNon_v rx]; rfl)⟩

/-! ### in, for flat things -/
def flatD : D → Bool
  | .non => true
  | .bl _ => true
  | .int _ => true
  | .str _ => true
  | _ => false
def dInA (neg : Bool) (a : D) (l : List D) : Option D :=
  if (flatD a && l.all flatD) = true then
    (py a).bind fun x => (pyL l).map fun ys => .bl (let c := ys.any fun y => PyData.eqv y x; if neg then !c else c)
  else none
def dInF (neg : Bool) : D → D → Option D
  | a, .tup l => dInA neg a l
  | a, .lst l => dInA neg a l
  | a, .frz l => dInA neg a l
  | _, _ => none
theorem flatD_v {K : PySem.W.Frag} {mg : PySem.Str → Option Value} {R : Hp} {d : D} {v : V} (h : flatD d = true) (r : Rep K mg R d v) : flatV v = true := by
  cases d with
  | non => rw [show v = V.non from r]; rfl
  | bl b => rw [show v = V.bl b from r]; rfl
  | int b => rw [show v = V.int b from r]; rfl
  | str b => rw [show v = V.str b from r]; rfl
  | _ => cases h
theorem flatL_v {K : PySem.W.Frag} {mg : PySem.Str → Option Value} {R : Hp} : ∀ {l : List D} {vs : List V}, l.all flatD = true → RepL K mg R l vs → vs.all flatV = true
  | [], vs, _, r => by rw [show vs = [] from r]; rfl
  | d :: ds, vs, h, r => by
    obtain ⟨v, ws, e, h1, h2⟩ := r
    subst e
    rw [List.all_cons, Bool.and_eq_true] at h ⊢
    exact ⟨flatD_v h.1 h1, flatL_v h.2 h2⟩
theorem eqV_flat {K : PySem.W.Frag} {mg : PySem.Str → Option Value} {R : Hp} {d e : D} {v w : V} {x y : PyData} (hd : flatD d = true) (he : flatD e = true) (r : Rep K mg R d v) (r' : Rep K mg R e w) (p : py d = some x) (p' : py e = some y) : eqV w v = PyData.eqv y x := by
  cases d <;> first | (cases hd) | skip
  all_goals (cases e <;> first | (cases he) | skip)
  all_goals (rw [show v = _ from r, show w = _ from r'])
  all_goals (cases p; cases p'; first | rfl | (simp only [eqV, PyData.eqv]))
theorem any_flat {K : PySem.W.Frag} {mg : PySem.Str → Option Value} {R : Hp} {d : D} {v : V} {x : PyData} (hd : flatD d = true) (r : Rep K mg R d v) (p : py d = some x) : ∀ {l : List D} {vs : List V} {ys : List PyData}, l.all flatD = true → RepL K mg R l vs → pyL l = some ys → inV v vs = ys.any fun y => PyData.eqv y x
  | [], vs, ys, _, r', e => by
    cases e
    rw [show vs = [] from r']; rfl
  | d' :: ds, vs, ys, h, r', e => by
    obtain ⟨w, ws, e1, h1, h2⟩ := r'
    subst e1
    rw [List.all_cons, Bool.and_eq_true] at h
    have e : ((py d').bind fun x => (pyL ds).map fun xs => x :: xs) = some ys := e
    cases q : py d' with
    | none => rw [q] at e; cases e
    | some y =>
      cases q2 : pyL ds with
      | none => rw [q, q2] at e; cases e
      | some zs =>
        rw [q, q2] at e
        cases e
        have ih := any_flat hd r p h.2 h2 q2
        unfold inV at ih ⊢
        rw [List.any_cons, List.any_cons, ih, eqV_flat hd h.1 r h1 p q]
theorem o_inA {neg : Bool} {op : Value → Value → Sem Value} (h : OpR X op (rIn X.K neg)) : O2 X op (dInF neg) := .of h fun R H dx dy x y d Q s rx ry e q => by
  have fin : ∀ (l : List D) (a : Addr) (vs : List V), y = .ref a → (SqL X.K R a vs ∨ SqT X.K R a vs) → RepL X.K X.mg R l vs → dInA neg dx l = some d → rIn X.K neg x y H Q := fun l a vs e1 hq hr e => by
    unfold dInA at e
    split at e
    · rename_i hf
      rw [Bool.and_eq_true] at hf
      cases q1 : py dx with
      | none => rw [q1] at e; cases e
      | some px =>
        cases q2 : pyL l with
        | none => rw [q1, q2] at e; cases e
        | some ys =>
          rw [q1, q2] at e
          cases e
          refine ⟨a, vs, e1, hq.elim (fun z => .inl (s.seq z)) (fun z => .inr (Same.seqT s z)), flatD_v hf.1 rx, flatL_v hf.2 hr, ?_⟩
          rw [any_flat hf.1 rx q1 hf.2 hr q2]
          exact q _ R H (.refl s) rfl
    · cases e
  cases dy with
  | tup l => obtain ⟨a, vs, e1, h1, h2⟩ := ry; exact fin l a vs e1 (.inr h1) h2 e
  | lst l => obtain ⟨a, vs, e1, h1, h2⟩ := ry; exact fin l a vs e1 (.inl (.inl (.inl h1))) h2 e
  | frz l => obtain ⟨a, vs, e1, h1, h2⟩ := ry; exact fin l a vs e1 (.inl h1) h2 e
  | _ => cases e
/-- in a list of anything -/
def dInL (neg : Bool) : D → D → Option D
  | a, .lst l => (py a).bind fun x => (pyL l).bind fun ys => if SeqAt.shaped x = true ∧ SeqAt.shaped (.list ys) = true then some (.bl (let c := ys.any fun y => PyData.eqv y x; if neg then !c else c)) else none
  | _, _ => none
theorem o_inL (hu : X.A.units + 65 < cLine) : O2 X (compareOp .In) (dInL false) := .of (op_inD hu) fun R H dx dy x y d Q s rx ry e q => by
  cases dy <;> (try (cases e; done))
  rename_i l
  have e : ((py dx).bind fun x => (pyL l).bind fun ys => if SeqAt.shaped x = true ∧ SeqAt.shaped (.list ys) = true then some (D.bl (let c := ys.any fun y => PyData.eqv y x; if false = true then !c else c)) else none) = some d := e
  cases q1 : py dx with
  | none => rw [q1] at e; cases e
  | some px =>
    cases q2 : pyL l with
    | none => rw [q1, q2] at e; cases e
    | some ys =>
      rw [q1, q2] at e
      simp only [Option.bind_some] at e
      obtain ⟨hs, rfl⟩ := ite_some e
      · exact ⟨px, ys, Rep.dp _ _ _ (rx.up s) q1, Rep.dp (.lst l) _ _ (ry.up s) (by unfold py; rw [q2]; rfl), hs.1, hs.2, q _ R H (.refl s) rfl⟩
theorem o_notInL (hu : X.A.units + 65 < cLine) : O2 X (compareOp .NotIn) (dInL true) := .of (op_notInD hu) fun R H dx dy x y d Q s rx ry e q => by
  cases dy <;> (try (cases e; done))
  rename_i l
  have e : ((py dx).bind fun x => (pyL l).bind fun ys => if SeqAt.shaped x = true ∧ SeqAt.shaped (.list ys) = true then some (D.bl (let c := ys.any fun y => PyData.eqv y x; if true = true then !c else c)) else none) = some d := e
  cases q1 : py dx with
  | none => rw [q1] at e; cases e
  | some px =>
    cases q2 : pyL l with
    | none => rw [q1, q2] at e; cases e
    | some ys =>
      rw [q1, q2] at e
      simp only [Option.bind_some] at e
      obtain ⟨hs, rfl⟩ := ite_some e
      · exact ⟨px, ys, Rep.dp _ _ _ (rx.up s) q1, Rep.dp (.lst l) _ _ (ry.up s) (by unfold py; rw [q2]; rfl), hs.1, hs.2, q _ R H (.refl s) rfl⟩
def dIn (neg : Bool) (a b : D) : Option D := (dInF neg a b).or (dInL neg a b)
theorem o_in (hu : X.A.units + 65 < cLine) : O2 X (compareOp .In) (dIn false) := (o_inA op_in_seq).or (o_inL hu)
theorem o_notIn (hu : X.A.units + 65 < cLine) : O2 X (compareOp .NotIn) (dIn true) := (o_inA op_notIn_seq).or (o_notInL hu)
end
end DL

set_option Elab.async false
set_option linter.all false
set_option maxRecDepth 100000
set_option maxHeartbeats 2000000
/-! DL3: expressions by functions of data. -/
namespace DL
open PySem PySem.Spec PyProof.Rows L2

abbrev G := Rho → Option D
abbrev GL := Rho → Option (List D)
abbrev GB := Rho → Option Bool

/-- an expression's worth, told by what the slots hold -/
structure EV (X : Cx) (e : Expr) (g : G) : Prop where
  ex : ∃ t, PE X e t ∧ ∀ (ρ : Rho) (σ : L2.St) (R H : Hp) (d : D) (Q : VK), Env X.K X.mg R ρ σ → Same R H → g ρ = some d →
    (∀ v R' H', Ext R H R' H' → Rep X.K X.mg R' d v → Q v H') → t σ H Q
/-- a new list -/
structure EVF (X : Cx) (e : Expr) (g : GL) : Prop where
  ex : ∃ t, PE X e t ∧ ∀ (ρ : Rho) (σ : L2.St) (R H : Hp) (l : List D) (Q : VK), Env X.K X.mg R ρ σ → Same R H → g ρ = some l →
    (∀ p vs R' H', Ext R H R' H' → R' p = none → H p = none → H' p = some (.lst vs) → RepL X.K X.mg R' l vs → Q (.ref p) H') → t σ H Q
/-- an argument list -/
structure EVL (X : Cx) (es : List Expr) (g : GL) : Prop where
  ex : ∃ t, PA X es t ∧ ∀ (ρ : Rho) (σ : L2.St) (R H : Hp) (l : List D) (Q : List V → Hp → Prop), Env X.K X.mg R ρ σ → Same R H → g ρ = some l →
    (∀ vs R' H', Ext R H R' H' → RepL X.K X.mg R' l vs → Q vs H') → t σ H Q
  len : ∀ ρ l, g ρ = some l → l.length = es.length
/-- a test -/
structure TV (X : Cx) (e : Expr) (g : GB) : Prop where
  ex : ∃ t, PT X e t ∧ ∀ (ρ : Rho) (σ : L2.St) (R H : Hp) (b : Bool) (Q : Bool → Hp → Prop), Env X.K X.mg R ρ σ → Same R H → g ρ = some b →
    (∀ R' H', Ext R H R' H' → Q b H') → t σ H Q
/-- a chain of and, or, as a test -/
structure WV (X : Cx) (e : Expr) (g : GB) : Prop where
  ex : ∃ t, PW X e t ∧ ∀ (ρ : Rho) (σ : L2.St) (R H : Hp) (b : Bool) (Q : Bool → Hp → Prop), Env X.K X.mg R ρ σ → Same R H → g ρ = some b →
    (∀ R' H', Ext R H R' H' → Q b H') → t σ H Q

/-! ### the functions -/
def gV (i : Nat) : G := fun ρ => match ρ[i]? with
  | some (.sh d) => some d
  | _ => none
def gC (d : D) : G := fun _ => some d
def gB (f : D → D → Option D) (a b : G) : G := fun ρ => (a ρ).bind fun x => (b ρ).bind fun y => f x y
def gU (f : D → Option D) (a : G) : G := fun ρ => (a ρ).bind f
def dNeg : D → Option D
  | .int i => some (.int (-i))
  | _ => none
def toB : D → Option Bool
  | .bl b => some b
  | _ => none
def gCh (f f' : D → D → Option D) (a b c : G) : G := fun ρ => (a ρ).bind fun x => (b ρ).bind fun y => (f x y).bind fun z => (toB z).bind fun k => if k = true then (c ρ).bind fun w => f' y w else some (.bl false)
def gAnd (a b : G) : G := fun ρ => (a ρ).bind fun x => (toB x).bind fun k => if k = true then b ρ else some (.bl false)
def gOr (a b : G) : G := fun ρ => (a ρ).bind fun x => (toB x).bind fun k => if k = true then some (.bl true) else b ρ
def gNot (a : G) : G := fun ρ => (a ρ).bind fun x => (toB x).map fun k => .bl (!k)
def gIf (t : GB) (a b : G) : G := fun ρ => (t ρ).bind fun k => if k = true then a ρ else b ρ
def gN : GL := fun _ => some []
def gK (a : G) (r : GL) : GL := fun ρ => (a ρ).bind fun x => (r ρ).map fun xs => x :: xs
def gTup (a : GL) : G := fun ρ => (a ρ).map .tup
def gLst (a : GL) : G := fun ρ => (a ρ).map .lst
def gF (f : List D → Option D) (a : GL) : G := fun ρ => (a ρ).bind f
def tB' (a : G) : GB := fun ρ => (a ρ).bind toB
def tNot' (a : GB) : GB := fun ρ => (a ρ).map (!·)
def tAnd' (a b : GB) : GB := fun ρ => (a ρ).bind fun k => if k = true then b ρ else some false
def tOr' (a b : GB) : GB := fun ρ => (a ρ).bind fun k => if k = true then some true else b ρ

theorem bind_some {α β : Type} {o : Option α} {f : α → Option β} {d : β} (h : o.bind f = some d) : ∃ x, o = some x ∧ f x = some d := by
  cases o with
  | none => cases h
  | some x => exact ⟨x, rfl, h⟩
theorem map_some {α β : Type} {o : Option α} {f : α → β} {d : β} (h : o.map f = some d) : ∃ x, o = some x ∧ f x = d := by
  cases o with
  | none => cases h
  | some x => exact ⟨x, rfl, Option.some.inj h⟩
theorem toB_some {x : D} {k : Bool} (h : toB x = some k) : x = .bl k := by
  cases x <;> first | (cases h; rfl) | cases h

section
variable {X : Cx} {a b c e : Expr} {es : List Expr} {ga gb gc : G} {gl : GL} {pos : Pos}

theorem ev_var (i : Nat) {x : PySem.Str} (hN : X.N[i]? = some x := by rfl) (hv : Vis X.env.scope x := by first | exact Or.inl rfl | exact Or.inr (Or.inl rfl) | exact Or.inr (Or.inr rfl)) (hd : (x == ("__debug__" : PySem.Str)) = false := by decide)
    (hcd : (x == ("__classdict__" : PySem.Str)) = false := by decide) : EV X (.Name x pos) (gV i) := ⟨_, pe_var hN hv hd hcd, fun ρ σ R H d Q en s e q => by
  unfold gV at e
  split at e
  · rename_i d' h
    cases e
    obtain ⟨v, h1, h2⟩ := en.get i _ h
    exact ⟨v, h1, q v R H (.refl s) h2⟩
  · cases e⟩
theorem ev_c {d : D} {v : V} (h : PE X e (tC v)) (r : ∀ R, Rep X.K X.mg R d v) : EV X e (gC d) := ⟨_, h, fun ρ σ R H d' Q en s e q => by
  cases e
  exact q v R H (.refl s) (r R)⟩
theorem ev_int {i : Int} {j : Nat} : EV X (.Constant (.int i) j pos) (gC (.int i)) := ev_c pe_int fun _ => rfl
theorem ev_bl {i : Bool} {j : Nat} : EV X (.Constant (.bool i) j pos) (gC (.bl i)) := ev_c pe_bl fun _ => rfl
theorem ev_non {j : Nat} : EV X (.Constant .none j pos) (gC .non) := ev_c pe_non fun _ => rfl
theorem ev_str {i : PySem.Str} {j : Nat} : EV X (.Constant (.str i) j pos) (gC (.str i)) := ev_c pe_str fun _ => rfl
/-- a constant of the module -/
structure GlD (K : PySem.W.Frag) (mg : PySem.Str → Option Value) (x : PySem.Str) (d : D) : Prop where
  ex : ∃ u v, mg x = some u ∧ RelV v u ∧ ∀ R, Rep K mg R d v
theorem ev_glob {x : PySem.Str} {d : D} (h : GlD X.K X.mg x d) (hg : Gl X x := by rfl) (hd : (x == ("__debug__" : PySem.Str)) = false := by decide) : EV X (.Name x pos) (gC d) := by
  obtain ⟨u, v, h1, h2, h3⟩ := h.ex
  exact ev_c (pe_glob hg h1 h2 hd) h3

theorem Ext.up {R H R1 H1 R2 H2 : Hp} (a : Ext R H R1 H1) (b : Ext R1 H1 R2 H2) : Ext R H R2 H2 := a.trans b

theorem ev_bin {op : Operator} {f : D → D → Option D} (o : O2 X (binaryOp op) f) (ha : EV X a ga) (hb : EV X b gb) : EV X (.BinOp a op b pos) (gB f ga gb) := by
  obtain ⟨r, ho, hr⟩ := o.ex
  obtain ⟨ta, pa, qa⟩ := ha.ex
  obtain ⟨tb, pb, qb⟩ := hb.ex
  refine ⟨_, pe_op ho pa pb, fun ρ σ R H d Q en s e q => ?_⟩
  obtain ⟨x, e1, e⟩ := bind_some e
  obtain ⟨y, e2, e⟩ := bind_some e
  refine qa ρ σ R H x _ en s e1 fun v R1 H1 x1 r1 => ?_
  refine qb ρ σ R1 H1 y _ (en.mono x1.r) x1.s e2 fun w R2 H2 x2 r2 => ?_
  exact hr R2 H2 x y v w d Q x2.s (Rep.mono x2.r _ _ r1) r2 e fun u R3 H3 x3 r3 => q u R3 H3 ((x1.trans x2).trans x3) r3
theorem ev_neg (ha : EV X a ga) : EV X (.UnaryOp .USub a pos) (gU dNeg ga) := by
  obtain ⟨ta, pa, qa⟩ := ha.ex
  refine ⟨_, pe_un un_neg pa, fun ρ σ R H d Q en s e q => ?_⟩
  obtain ⟨x, e1, e⟩ := bind_some e
  refine qa ρ σ R H x _ en s e1 fun v R1 H1 x1 r1 => ?_
  cases x <;> try (cases e; done)
  rename_i i
  cases e
  exact ⟨i, r1, q _ R1 H1 x1 rfl⟩
theorem ev_cmp {op : CmpOp} {f : D → D → Option D} (o : O2 X (compareOp op) f) (ha : EV X a ga) (hb : EV X b gb) (hm : behindInMarks op b = false := by rfl) : EV X (.Compare a [op] [b] pos) (gB f ga gb) := by
  obtain ⟨r, ho, hr⟩ := o.ex
  obtain ⟨ta, pa, qa⟩ := ha.ex
  obtain ⟨tb, pb, qb⟩ := hb.ex
  refine ⟨_, pe_cmpR ho pa pb hm, fun ρ σ R H d Q en s e q => ?_⟩
  obtain ⟨x, e1, e⟩ := bind_some e
  obtain ⟨y, e2, e⟩ := bind_some e
  refine qa ρ σ R H x _ en s e1 fun v R1 H1 x1 r1 => ?_
  refine qb ρ σ R1 H1 y _ (en.mono x1.r) x1.s e2 fun w R2 H2 x2 r2 => ?_
  exact hr R2 H2 x y v w d Q x2.s (Rep.mono x2.r _ _ r1) r2 e fun u R3 H3 x3 r3 => q u R3 H3 ((x1.trans x2).trans x3) r3
theorem ev_chain {op op' : CmpOp} {f f' : D → D → Option D} (o : O2 X (compareOp op) f) (o' : O2 X (compareOp op') f') (ha : EV X a ga) (hb : EV X b gb) (hc : EV X c gc)
    (hm : lastMarks [op, op'] [b, c] = false := by rfl) : EV X (.Compare a [op, op'] [b, c] pos) (gCh f f' ga gb gc) := by
  obtain ⟨r, ho, hr⟩ := o.ex
  obtain ⟨r', ho', hr'⟩ := o'.ex
  obtain ⟨ta, pa, qa⟩ := ha.ex
  obtain ⟨tb, pb, qb⟩ := hb.ex
  obtain ⟨tc, pc, qc⟩ := hc.ex
  refine ⟨_, pe_chain ho ho' pa pb pc hm, fun ρ σ R H d Q en s e q => ?_⟩
  obtain ⟨x, e1, e⟩ := bind_some e
  obtain ⟨y, e2, e⟩ := bind_some e
  obtain ⟨z, e3, e⟩ := bind_some e
  obtain ⟨k, e4, e⟩ := bind_some e
  refine qa ρ σ R H x _ en s e1 fun v R1 H1 x1 r1 => ?_
  refine qb ρ σ R1 H1 y _ (en.mono x1.r) x1.s e2 fun w R2 H2 x2 r2 => ?_
  refine hr R2 H2 x y v w z _ x2.s (Rep.mono x2.r _ _ r1) r2 e3 fun u R3 H3 x3 r3 => ?_
  have ez := toB_some e4
  subst ez
  refine ⟨k, r3, ?_⟩
  cases k with
  | false =>
    have e : some (D.bl false) = some d := e
    cases e
    exact iteF (q _ R3 H3 ((x1.trans x2).trans x3) rfl)
  | true =>
    have e : (gc ρ).bind (fun w => f' y w) = some d := e
    obtain ⟨w', e5, e⟩ := bind_some e
    refine iteT (qc ρ σ R3 H3 w' _ (en.mono ((x1.trans x2).trans x3).r) x3.s e5 fun v4 R4 H4 x4 r4 => ?_)
    exact hr' R4 H4 y w' w v4 d Q x4.s (Rep.mono (x3.trans x4).r _ _ r2) r4 e fun u R5 H5 x5 r5 => q u R5 H5 ((((x1.trans x2).trans x3).trans x4).trans x5) r5
theorem ev_one {op : BoolOp} (h : EV X a ga) : EV X (.BoolOp op [a] pos) ga := by
  obtain ⟨ta, pa, qa⟩ := h.ex
  exact ⟨_, pe_one pa, qa⟩
theorem ev_and {rest : List Expr} (ha : EV X a ga) (hb : EV X (.BoolOp .And (b :: rest) pos) gb) : EV X (.BoolOp .And (a :: b :: rest) pos) (gAnd ga gb) := by
  obtain ⟨ta, pa, qa⟩ := ha.ex
  obtain ⟨tb, pb, qb⟩ := hb.ex
  refine ⟨_, pe_and pa pb, fun ρ σ R H d Q en s e q => ?_⟩
  obtain ⟨x, e1, e⟩ := bind_some e
  obtain ⟨k, e2, e⟩ := bind_some e
  refine qa ρ σ R H x _ en s e1 fun v R1 H1 x1 r1 => ?_
  have ez := toB_some e2
  subst ez
  refine ⟨k, r1, ?_⟩
  cases k with
  | true => exact iteT (qb ρ σ R1 H1 d _ (en.mono x1.r) x1.s e fun v R2 H2 x2 r2 => q v R2 H2 (x1.trans x2) r2)
  | false =>
    have e : some (D.bl false) = some d := e
    cases e
    exact iteF (q _ R1 H1 x1 rfl)
theorem ev_or {rest : List Expr} (ha : EV X a ga) (hb : EV X (.BoolOp .Or (b :: rest) pos) gb) : EV X (.BoolOp .Or (a :: b :: rest) pos) (gOr ga gb) := by
  obtain ⟨ta, pa, qa⟩ := ha.ex
  obtain ⟨tb, pb, qb⟩ := hb.ex
  refine ⟨_, pe_or pa pb, fun ρ σ R H d Q en s e q => ?_⟩
  obtain ⟨x, e1, e⟩ := bind_some e
  obtain ⟨k, e2, e⟩ := bind_some e
  refine qa ρ σ R H x _ en s e1 fun v R1 H1 x1 r1 => ?_
  have ez := toB_some e2
  subst ez
  refine ⟨k, r1, ?_⟩
  cases k with
  | false => exact iteF (qb ρ σ R1 H1 d _ (en.mono x1.r) x1.s e fun v R2 H2 x2 r2 => q v R2 H2 (x1.trans x2) r2)
  | true =>
    have e : some (D.bl true) = some d := e
    cases e
    exact iteT (q _ R1 H1 x1 rfl)
theorem ev_not (ha : EV X a ga) : EV X (.UnaryOp .Not a pos) (gNot ga) := by
  obtain ⟨ta, pa, qa⟩ := ha.ex
  refine ⟨_, pe_not pa, fun ρ σ R H d Q en s e q => ?_⟩
  obtain ⟨x, e1, e⟩ := bind_some e
  obtain ⟨k, e2, e3⟩ := map_some e
  subst e3
  refine qa ρ σ R H x _ en s e1 fun v R1 H1 x1 r1 => ?_
  have ez := toB_some e2
  subst ez
  exact ⟨k, r1, q _ R1 H1 x1 rfl⟩
theorem ev_if {gt : GB} (ht : TV X c gt) (ha : EV X a ga) (hb : EV X b gb) : EV X (.IfExp c a b pos) (gIf gt ga gb) := by
  obtain ⟨tt, pt, qt⟩ := ht.ex
  obtain ⟨ta, pa, qa⟩ := ha.ex
  obtain ⟨tb, pb, qb⟩ := hb.ex
  refine ⟨_, pe_ifExp pt pa pb, fun ρ σ R H d Q en s e q => ?_⟩
  obtain ⟨k, e1, e⟩ := bind_some e
  refine qt ρ σ R H k _ en s e1 fun R1 H1 x1 => ?_
  cases k with
  | true => exact iteT (qa ρ σ R1 H1 d _ (en.mono x1.r) x1.s e fun v R2 H2 x2 r2 => q v R2 H2 (x1.trans x2) r2)
  | false => exact iteF (qb ρ σ R1 H1 d _ (en.mono x1.r) x1.s e fun v R2 H2 x2 r2 => q v R2 H2 (x1.trans x2) r2)

/-! ### argument lists, displays -/
theorem evl_nil : EVL X [] gN := ⟨⟨_, pa_nil, fun ρ σ R H l Q en s e q => by
  cases e
  exact q [] R H (.refl s) rfl⟩, fun ρ l e => by cases e; rfl⟩
theorem evl_cons (ha : EV X e ga) (hr : EVL X es gl) (hs : starEach (e :: es) X.env = (false, eval e X.env) :: starEach es X.env := by rfl) : EVL X (e :: es) (gK ga gl) := by
  obtain ⟨ta, pa, qa⟩ := ha.ex
  obtain ⟨tb, pb, qb⟩ := hr.ex
  refine ⟨⟨_, pa_cons pa pb hs, fun ρ σ R H l Q en s e q => ?_⟩, fun ρ l e => ?_⟩
  · obtain ⟨x, e1, e⟩ := bind_some e
    obtain ⟨xs, e2, e⟩ := map_some e
    subst e
    refine qa ρ σ R H x _ en s e1 fun v R1 H1 x1 r1 => ?_
    exact qb ρ σ R1 H1 xs _ (en.mono x1.r) x1.s e2 fun vs R2 H2 x2 r2 => q (v :: vs) R2 H2 (x1.trans x2) ⟨v, vs, rfl, Rep.mono x2.r _ _ r1, r2⟩
  · obtain ⟨x, e1, e⟩ := bind_some e
    obtain ⟨xs, e2, e⟩ := map_some e
    subst e
    rw [List.length_cons, List.length_cons, hr.len ρ xs e2]
theorem ev_tup {k : Nat} (h : EVL X es gl) (hl : es.length ≤ 1000 := by decide) : EV X (.Tuple es k pos) (gTup gl) := by
  obtain ⟨t, p, q0⟩ := h.ex
  refine ⟨_, pe_tup p, fun ρ σ R H d Q en s e q => ?_⟩
  obtain ⟨l, e1, e⟩ := map_some e
  subst e
  refine q0 ρ σ R H l _ en s e1 fun vs R1 H1 x1 r1 => ?_
  refine ⟨le1000 (by rw [RepL.length r1, h.len ρ l e1]; exact hl), fun p hp => ?_⟩
  exact q _ _ _ (x1.trans (Ext.new x1.s hp _)) (tup_new (x1.s.free hp) r1)
theorem evf_lst (h : EVL X es gl) (hl : es.length ≤ 1000 := by decide) : EVF X (.List es pos) gl := by
  obtain ⟨t, p, q0⟩ := h.ex
  refine ⟨_, pe_lst p, fun ρ σ R H l Q en s e q => ?_⟩
  refine q0 ρ σ R H l _ en s e fun vs R1 H1 x1 r1 => ?_
  refine ⟨le1000 (by rw [RepL.length r1, h.len ρ l e]; exact hl), fun p hp => ?_⟩
  exact q p vs R1 _ (x1.trans (Ext.newOut x1.s hp _)) (x1.s.free hp) (x1.h.free hp) upd_same r1
/-- a new list, as a value among others -/
theorem EVF.ev {g : GL} (h : EVF X e g) : EV X e (gLst g) := by
  obtain ⟨t, p, q0⟩ := h.ex
  refine ⟨_, p, fun ρ σ R H d Q en s e q => ?_⟩
  obtain ⟨l, e1, e⟩ := map_some e
  subst e
  refine q0 ρ σ R H l _ en s e1 fun p vs R1 H1 x1 hR hH hp r1 => ?_
  refine q (.ref p) (upd R1 p (.lst vs)) H1 ⟨fun b o eb => ?_, x1.h, fun b o eb => ?_, fun b hb => ?_⟩ (lst_new hR r1)
  · rw [upd_ne (ne_of_none (x1.r _ _ eb) hR)]
    exact x1.r _ _ eb
  · by_cases hb : b = p
    · subst hb
      rw [upd_same] at eb
      rw [hp, eb]
    · rw [upd_ne hb] at eb
      exact x1.s _ _ eb
  · by_cases e : b = p
    · subst e
      exact .inr hH
    · rw [upd_ne e] at hb
      exact x1.f b hb
theorem evf_cat (ha : EV X a ga) (hb : EV X b gb) : EVF X (.BinOp a .Add b pos) (fun ρ => (ga ρ).bind fun x => (gb ρ).bind fun y => match dAddL x y with | some (.lst l) => some l | _ => none) := by
  obtain ⟨ta, pa, qa⟩ := ha.ex
  obtain ⟨tb, pb, qb⟩ := hb.ex
  refine ⟨_, pe_op op_cat pa pb, fun ρ σ R H l Q en s e q => ?_⟩
  obtain ⟨x, e1, e'⟩ := bind_some e
  clear e
  obtain ⟨y, e2, e⟩ := bind_some e'
  clear e'
  refine qa ρ σ R H x _ en s e1 fun v R1 H1 x1 r1 => ?_
  refine qb ρ σ R1 H1 y _ (en.mono x1.r) x1.s e2 fun w R2 H2 x2 r2 => ?_
  cases x <;> cases y <;> first | (cases e; done) | skip
  rename_i l1 l2
  by_cases hl : l1.length + l2.length ≤ 1000
  · have e0 : dAddL (.lst l1) (.lst l2) = some (.lst (l1 ++ l2)) := if_pos hl
    rw [e0] at e
    have e : some (l1 ++ l2) = some l := e
    cases e
    obtain ⟨p1, vs, e3, h1, h2⟩ := r1
    obtain ⟨p2, ws, e4, h3, h4⟩ := r2
    have len1 := RepL.length h2
    have len2 := RepL.length h4
    exact ⟨p1, p2, vs, ws, e3, e4, x2.h _ _ (x1.s _ _ h1), x2.s _ _ h3, le1000 (by omega), fun p hp =>
      q p _ R2 _ ((x1.trans x2).trans (Ext.newOut x2.s hp _)) (x2.s.free hp) ((x1.trans x2).h.free hp) upd_same (RepL.append (RepL.mono x2.r _ _ h2) h4)⟩
  · have e0 : dAddL (.lst l1) (.lst l2) = none := if_neg hl
    rw [e0] at e
    cases e

/-! ### subscripts, slices, attributes -/
def dIx : D → D → Option D
  | .tup l, .int i => atI l i
  | .lst l, .int i => atI l i
  | .frz l, .int i => atI l i
  | _, _ => none
theorem RepL.atI {K : PySem.W.Frag} {mg : PySem.Str → Option Value} {R : Hp} {l : List D} {vs : List V} {i : Int} {d : D} (r : RepL K mg R l vs) (h : L2.atI l i = some d) : ∃ v, L2.atI vs i = some v ∧ Rep K mg R d v := by
  unfold L2.atI at h ⊢
  rw [RepL.length r]
  obtain ⟨j, e1, e2⟩ := bind_some h
  obtain ⟨v, h1, h2⟩ := RepL.get r e2
  exact ⟨v, by rw [e1]; exact h1, h2⟩
theorem ev_ix (ha : EV X a ga) (hb : EV X b gb) (hs : PlainIx b := by intro _ _; rfl) : EV X (.Subscript a b pos) (gB dIx ga gb) := by
  obtain ⟨ta, pa, qa⟩ := ha.ex
  obtain ⟨tb, pb, qb⟩ := hb.ex
  refine ⟨_, pe_ix ix_seq pa pb hs, fun ρ σ R H d Q en s e q => ?_⟩
  obtain ⟨x, e1, e⟩ := bind_some e
  obtain ⟨y, e2, e⟩ := bind_some e
  refine qa ρ σ R H x _ en s e1 fun v R1 H1 x1 r1 => ?_
  refine qb ρ σ R1 H1 y _ (en.mono x1.r) x1.s e2 fun w R2 H2 x2 r2 => ?_
  cases y with
  | int i =>
    cases x with
    | tup l =>
      obtain ⟨p, vs, e3, h1, h2⟩ := r1
      obtain ⟨v', h3, h4⟩ := RepL.atI h2 e
      exact .inr (.inl ⟨p, vs, i, v', e3, r2, Same.seqT x2.h (Same.seqT x1.s h1), h3, q v' R2 H2 (x1.trans x2) (Rep.mono x2.r _ _ h4)⟩)
    | lst l =>
      obtain ⟨p, vs, e3, h1, h2⟩ := r1
      obtain ⟨v', h3, h4⟩ := RepL.atI h2 e
      exact .inl ⟨p, vs, i, v', e3, r2, .inl (.inl (x2.h _ _ (x1.s _ _ h1))), h3, q v' R2 H2 (x1.trans x2) (Rep.mono x2.r _ _ h4)⟩
    | frz l =>
      obtain ⟨p, vs, e3, h1, h2⟩ := r1
      obtain ⟨v', h3, h4⟩ := RepL.atI h2 e
      exact .inl ⟨p, vs, i, v', e3, r2, x2.h.seq (x1.s.seq h1), h3, q v' R2 H2 (x1.trans x2) (Rep.mono x2.r _ _ h4)⟩
    | _ => cases e
  | _ => cases x <;> cases e
def cutL {α : Type} (xs : List α) (lo hi : Option Int) : List α := (xs.drop (HT.sIx xs.length 0 lo)).take (HT.sIx xs.length xs.length hi - HT.sIx xs.length 0 lo)
theorem RepL.cut {K : PySem.W.Frag} {mg : PySem.Str → Option Value} {R : Hp} {l : List D} {vs : List V} (r : RepL K mg R l vs) (lo hi : Option Int) : RepL K mg R (cutL l lo hi) (cutV vs lo hi) := by
  unfold cutL cutV
  rw [RepL.length r]
  exact RepL.take _ (RepL.drop _ r)
/-- a slice's end -/
structure PV (X : Cx) (o : Option Expr) (g : Rho → Option (Option Int)) : Prop where
  ex : ∃ t, PO X o t ∧ ∀ (ρ : Rho) (σ : L2.St) (R H : Hp) (b : Option Int) (Q : Option Int → Hp → Prop), Env X.K X.mg R ρ σ → Same R H → g ρ = some b →
    (∀ R' H', Ext R H R' H' → Q b H') → t σ H Q
def toI : D → Option (Option Int)
  | .int i => some (some i)
  | _ => none
def gNoP : Rho → Option (Option Int) := fun _ => some none
def gP (a : G) : Rho → Option (Option Int) := fun ρ => (a ρ).bind toI
theorem pv_no : PV X none gNoP := ⟨_, po_none, fun ρ σ R H b Q en s e q => by
  cases e
  exact q R H (.refl s)⟩
theorem pv_at (h : EV X a ga) : PV X (some a) (gP ga) := by
  obtain ⟨ta, pa, qa⟩ := h.ex
  refine ⟨_, po_some pa, fun ρ σ R H b Q en s e q => ?_⟩
  obtain ⟨x, e1, e⟩ := bind_some e
  refine qa ρ σ R H x _ en s e1 fun v R1 H1 x1 r1 => ?_
  cases x <;> try (cases e; done)
  rename_i i
  cases e
  exact ⟨i, r1, q R1 H1 x1⟩
def gSlT (a : G) (lo hi : Rho → Option (Option Int)) : G := fun ρ => (a ρ).bind fun x => (lo ρ).bind fun l => (hi ρ).bind fun h => match x with
  | .tup ds => some (.tup (cutL ds l h))
  | _ => none
def gSlL (a : G) (lo hi : Rho → Option (Option Int)) : GL := fun ρ => (a ρ).bind fun x => (lo ρ).bind fun l => (hi ρ).bind fun h => match x with
  | .lst ds => some (cutL ds l h)
  | .frz ds => some (cutL ds l h)
  | _ => none
variable {lo hi : Option Expr} {p2 : Pos} {gl' gh' : Rho → Option (Option Int)}
theorem cutL_all {α : Type} {xs : List α} {lo hi : Option Int} (h : HT.sIx xs.length 0 lo = 0 ∧ HT.sIx xs.length xs.length hi = xs.length) : cutL xs lo hi = xs := by
  unfold cutL
  rw [h.1, h.2, List.drop_zero, Nat.sub_zero, List.take_length]
theorem ev_slT (ha : EV X a ga) (hl : PV X lo gl') (hh : PV X hi gh') : EV X (.Subscript a (.Slice lo hi none p2) pos) (gSlT ga gl' gh') := by
  obtain ⟨ta, pa, qa⟩ := ha.ex
  obtain ⟨tl, pl, ql⟩ := hl.ex
  obtain ⟨th, ph, qh⟩ := hh.ex
  refine ⟨_, pe_slice sl_tupA pa pl ph, fun ρ σ R H d Q en s e q => ?_⟩
  obtain ⟨x, e1, e⟩ := bind_some e
  obtain ⟨l, e2, e⟩ := bind_some e
  obtain ⟨h, e3, e⟩ := bind_some e
  refine qa ρ σ R H x _ en s e1 fun v R1 H1 x1 r1 => ?_
  refine ql ρ σ R1 H1 l _ (en.mono x1.r) x1.s e2 fun R2 H2 x2 => ?_
  refine qh ρ σ R2 H2 h _ (en.mono (x1.trans x2).r) x2.s e3 fun R3 H3 x3 => ?_
  cases x <;> try (cases e; done)
  rename_i ds
  cases e
  have r3 := Rep.mono (x2.trans x3).r _ _ r1
  obtain ⟨p, vs, e4, h1, h2⟩ := r3
  have hlen := RepL.length h2
  refine ⟨p, vs, e4, Same.seqT x3.s h1, fun w => ?_, fun w p' hp => ?_⟩
  · rw [hlen] at w
    rw [cutL_all w] at q
    exact q _ R3 H3 ((x1.trans x2).trans x3) ⟨p, vs, rfl, h1, h2⟩
  · exact q _ _ _ (((x1.trans x2).trans x3).trans (Ext.new x3.s hp _)) (tup_new (x3.s.free hp) (RepL.cut h2 _ _))
theorem evf_sl (ha : EV X a ga) (hl : PV X lo gl') (hh : PV X hi gh') : EVF X (.Subscript a (.Slice lo hi none p2) pos) (gSlL ga gl' gh') := by
  obtain ⟨ta, pa, qa⟩ := ha.ex
  obtain ⟨tl, pl, ql⟩ := hl.ex
  obtain ⟨th, ph, qh⟩ := hh.ex
  refine ⟨_, pe_slice sl_list pa pl ph, fun ρ σ R H d Q en s e q => ?_⟩
  obtain ⟨x, e1, e⟩ := bind_some e
  obtain ⟨l, e2, e⟩ := bind_some e
  obtain ⟨h, e3, e⟩ := bind_some e
  refine qa ρ σ R H x _ en s e1 fun v R1 H1 x1 r1 => ?_
  refine ql ρ σ R1 H1 l _ (en.mono x1.r) x1.s e2 fun R2 H2 x2 => ?_
  refine qh ρ σ R2 H2 h _ (en.mono (x1.trans x2).r) x2.s e3 fun R3 H3 x3 => ?_
  have r3 := Rep.mono (x2.trans x3).r _ _ r1
  have fin : ∀ (ds : List D) (p : Addr) (vs : List V), v = .ref p → SqL X.K R3 p vs → RepL X.K X.mg R3 ds vs → cutL ds l h = d → rSlL X.K v l h H3 Q := fun ds p vs e4 h1 h2 e5 => by
    subst e5
    exact ⟨p, vs, e4, x3.s.seq h1, fun p' hp => q p' _ R3 _ (((x1.trans x2).trans x3).trans (Ext.newOut x3.s hp _)) (x3.s.free hp) (((x1.trans x2).trans x3).h.free hp) upd_same (RepL.cut h2 _ _)⟩
  cases x with
  | lst ds => obtain ⟨p, vs, e4, h1, h2⟩ := r3; exact fin ds p vs e4 (.inl (.inl h1)) h2 (Option.some.inj e)
  | frz ds => obtain ⟨p, vs, e4, h1, h2⟩ := r3; exact fin ds p vs e4 h1 h2 (Option.some.inj e)
  | _ => cases e
theorem evf_rep (ha : EV X a ga) (hb : EV X b gb) : EVF X (.BinOp a .Mult b pos) (fun ρ => (ga ρ).bind fun x => (gb ρ).bind fun y => match dMulL x y with | some (.lst l) => some l | _ => none) := by
  obtain ⟨ta, pa, qa⟩ := ha.ex
  obtain ⟨tb, pb, qb⟩ := hb.ex
  refine ⟨_, pe_op op_rep pa pb, fun ρ σ R H l Q en s e q => ?_⟩
  obtain ⟨x, e1, e'⟩ := bind_some e
  clear e
  obtain ⟨y, e2, e⟩ := bind_some e'
  clear e'
  refine qa ρ σ R H x _ en s e1 fun v R1 H1 x1 r1 => ?_
  refine qb ρ σ R1 H1 y _ (en.mono x1.r) x1.s e2 fun w R2 H2 x2 r2 => ?_
  cases x <;> cases y <;> first | (cases e; done) | skip
  rename_i l1 k
  by_cases hl : -1000 ≤ k ∧ k ≤ 1000 ∧ l1.length ≤ 1000
  · have e0 : dMulL (.lst l1) (.int k) = some (.lst (List.replicate k.toNat l1).flatten) := if_pos hl
    rw [e0] at e
    have e : some (List.replicate k.toNat l1).flatten = some l := e
    cases e
    obtain ⟨h2', h3', h4'⟩ := hl
    obtain ⟨p1, vs, e3, h1, h2⟩ := r1
    have len1 := RepL.length h2
    refine ⟨p1, k, vs, e3, r2, x2.h _ _ (x1.s _ _ h1), by omega, by omega, ?_, fun p hp =>
      q p _ R2 _ ((x1.trans x2).trans (Ext.newOut x2.s hp _)) (x2.s.free hp) ((x1.trans x2).h.free hp) upd_same (RepL.rep (RepL.mono x2.r _ _ h2) _)⟩
    rw [sizeLine_eq]
    have a1 : vs.length * k.toNat ≤ 1000 * 1000 := Nat.mul_le_mul (by omega) (by omega)
    omega
  · have e0 : dMulL (.lst l1) (.int k) = none := if_neg hl
    rw [e0] at e
    cases e
/-- a class whose attribute f is a field of its instances -/
structure Fld (K : PySem.W.Frag) (mg : PySem.Str → Option Value) (c f : PySem.Str) : Prop where
  ex : ∀ C, mg c = some (.ref C) → Cls K C ∧ NoAttr K C f
def dFld (c f : PySem.Str) : D → Option D
  | .obj c' fs l => if c' = c then (fs.zip l).lookup f else none
  | _ => none
theorem RepL.lookup {K : PySem.W.Frag} {mg : PySem.Str → Option Value} {R : Hp} {f : PySem.Str} : ∀ {fs : List PySem.Str} {l : List D} {vs : List V} {d : D}, RepL K mg R l vs → (fs.zip l).lookup f = some d → ∃ v, (fs.zip vs).lookup f = some v ∧ Rep K mg R d v
  | [], l, vs, d, _, e => by rw [List.zip_nil_left] at e; cases e
  | g :: fs, [], vs, d, _, e => by rw [List.zip_nil_right] at e; cases e
  | g :: fs, x :: l, vs, d, r, e => by
    obtain ⟨v, ws, e1, h1, h2⟩ := r
    subst e1
    rw [List.zip_cons_cons, List.lookup_cons] at e ⊢
    cases q : (f == g) with
    | true => rw [q] at e; cases e; exact ⟨v, rfl, h1⟩
    | false => rw [q] at e; exact RepL.lookup h2 e
theorem ev_fld {cn f : PySem.Str} (h : Fld X.K X.mg cn f) (ha : EV X a ga) (hb : attributeBase a f X.env (eval a X.env) = eval a X.env := by rfl) : EV X (.Attribute a f pos) (gU (dFld cn f) ga) := by
  obtain ⟨ta, pa, qa⟩ := ha.ex
  refine ⟨_, pe_fld pa hb, fun ρ σ R H d Q en s e q => ?_⟩
  obtain ⟨x, e1, e⟩ := bind_some e
  refine qa ρ σ R H x _ en s e1 fun v R1 H1 x1 r1 => ?_
  cases x <;> try (cases e; done)
  rename_i c' fs l
  have e5 : (if c' = cn then (fs.zip l).lookup f else none) = some d := e
  clear e
  by_cases hc : c' = cn
  · rw [if_pos hc] at e5
    subst hc
    obtain ⟨p, C, dx, vs, e2, e3, h1, h2, h3⟩ := r1
    obtain ⟨v', h4, h5⟩ := RepL.lookup h3 e5
    obtain ⟨c1, c2⟩ := h.ex C e3
    exact ⟨p, C, dx, _, v', e2, x1.s _ _ h1, c1, c2, h4, q v' R1 H1 x1 h5⟩
  · rw [if_neg hc] at e5
    cases e5

/-! ### tests -/
theorem tv_val (h : EV X a ga) (he : ∀ whole, isTrue a X.env whole = (do let v ← whole; standAt a.pos; holding [v] (truthy v)) := by intro _; rfl) : TV X a (tB' ga) := by
  obtain ⟨ta, pa, qa⟩ := h.ex
  refine ⟨_, pt_val pa he, fun ρ σ R H k Q en s e q => ?_⟩
  obtain ⟨x, e1, e⟩ := bind_some e
  have ez := toB_some e
  subst ez
  exact qa ρ σ R H _ _ en s e1 fun v R1 H1 x1 r1 => ⟨k, r1, q R1 H1 x1⟩
theorem tv_cmp {op : CmpOp} {f : D → D → Option D} (o : O2 X (compareOp op) f) (ha : EV X a ga) (hb : EV X b gb) (hm : behindInMarks op b = false := by rfl) : TV X (.Compare a [op] [b] pos) (tB' (gB f ga gb)) := by
  obtain ⟨r, ho, hr⟩ := o.ex
  obtain ⟨ta, pa, qa⟩ := ha.ex
  obtain ⟨tb, pb, qb⟩ := hb.ex
  refine ⟨_, pt_cmpR ho pa pb hm, fun ρ σ R H k Q en s e q => ?_⟩
  obtain ⟨z, e0, e⟩ := bind_some e
  have ez := toB_some e
  subst ez
  obtain ⟨x, e1, e⟩ := bind_some e0
  obtain ⟨y, e2, e⟩ := bind_some e
  refine qa ρ σ R H x _ en s e1 fun v R1 H1 x1 r1 => ?_
  refine qb ρ σ R1 H1 y _ (en.mono x1.r) x1.s e2 fun w R2 H2 x2 r2 => ?_
  exact hr R2 H2 x y v w _ _ x2.s (Rep.mono x2.r _ _ r1) r2 e fun u R3 H3 x3 r3 => ⟨k, r3, q R3 H3 ((x1.trans x2).trans x3)⟩
theorem tv_chain {op op' : CmpOp} {f f' : D → D → Option D} (o : O2 X (compareOp op) f) (o' : O2 X (compareOp op') f') (ha : EV X a ga) (hb : EV X b gb) (hc : EV X c gc)
    (hm : lastMarks [op, op'] [b, c] = false := by rfl) : TV X (.Compare a [op, op'] [b, c] pos) (tB' (gCh f f' ga gb gc)) := by
  obtain ⟨r, ho, hr⟩ := o.ex
  obtain ⟨r', ho', hr'⟩ := o'.ex
  obtain ⟨ta, pa, qa⟩ := ha.ex
  obtain ⟨tb, pb, qb⟩ := hb.ex
  obtain ⟨tc, pc, qc⟩ := hc.ex
  refine ⟨_, pt_chain ho ho' pa pb pc hm, fun ρ σ R H k' Q en s e q => ?_⟩
  obtain ⟨z, e0, e⟩ := bind_some e
  have ez := toB_some e
  subst ez
  obtain ⟨x, e1, e⟩ := bind_some e0
  obtain ⟨y, e2, e⟩ := bind_some e
  obtain ⟨z, e3, e⟩ := bind_some e
  obtain ⟨k, e4, e⟩ := bind_some e
  refine qa ρ σ R H x _ en s e1 fun v R1 H1 x1 r1 => ?_
  refine qb ρ σ R1 H1 y _ (en.mono x1.r) x1.s e2 fun w R2 H2 x2 r2 => ?_
  refine hr R2 H2 x y v w z _ x2.s (Rep.mono x2.r _ _ r1) r2 e3 fun u R3 H3 x3 r3 => ?_
  have ez := toB_some e4
  subst ez
  refine ⟨k, r3, ?_⟩
  cases k with
  | false =>
    have e : some (D.bl false) = some (D.bl k') := e
    cases e
    exact iteF ⟨false, rfl, q R3 H3 ((x1.trans x2).trans x3)⟩
  | true =>
    have e : (gc ρ).bind (fun w => f' y w) = some (D.bl k') := e
    obtain ⟨w', e5, e⟩ := bind_some e
    refine iteT (qc ρ σ R3 H3 w' _ (en.mono ((x1.trans x2).trans x3).r) x3.s e5 fun v4 R4 H4 x4 r4 => ?_)
    exact hr' R4 H4 y w' w v4 _ _ x4.s (Rep.mono (x3.trans x4).r _ _ r2) r4 e fun u R5 H5 x5 r5 => ⟨k', r5, q R5 H5 ((((x1.trans x2).trans x3).trans x4).trans x5)⟩
variable {ta tb : GB}
theorem tv_not (h : TV X a ta) : TV X (.UnaryOp .Not a pos) (tNot' ta) := by
  obtain ⟨t, p, q0⟩ := h.ex
  refine ⟨_, pt_not p, fun ρ σ R H k Q en s e q => ?_⟩
  obtain ⟨x, e1, e⟩ := map_some e
  subst e
  exact q0 ρ σ R H x _ en s e1 fun R1 H1 x1 => q R1 H1 x1
theorem wv_and1 (h : TV X a ta) : WV X (.BoolOp .And [a] pos) ta := by
  obtain ⟨t, p, q0⟩ := h.ex
  exact ⟨_, pw_and1 p, q0⟩
theorem wv_or1 (h : TV X a ta) : WV X (.BoolOp .Or [a] pos) ta := by
  obtain ⟨t, p, q0⟩ := h.ex
  exact ⟨_, pw_or1 p, q0⟩
theorem wv_and {rest : List Expr} (h : TV X a ta) (h' : WV X (.BoolOp .And (b :: rest) pos) tb) : WV X (.BoolOp .And (a :: b :: rest) pos) (tAnd' ta tb) := by
  obtain ⟨t, p, q0⟩ := h.ex
  obtain ⟨t', p', q0'⟩ := h'.ex
  refine ⟨_, pw_and p p', fun ρ σ R H k Q en s e q => ?_⟩
  obtain ⟨x, e1, e⟩ := bind_some e
  refine q0 ρ σ R H x _ en s e1 fun R1 H1 x1 => ?_
  cases x with
  | true => exact iteT (q0' ρ σ R1 H1 k _ (en.mono x1.r) x1.s e fun R2 H2 x2 => q R2 H2 (x1.trans x2))
  | false =>
    have e : some false = some k := e
    cases e
    exact iteF (q R1 H1 x1)
theorem wv_or {rest : List Expr} (h : TV X a ta) (h' : WV X (.BoolOp .Or (b :: rest) pos) tb) : WV X (.BoolOp .Or (a :: b :: rest) pos) (tOr' ta tb) := by
  obtain ⟨t, p, q0⟩ := h.ex
  obtain ⟨t', p', q0'⟩ := h'.ex
  refine ⟨_, pw_or p p', fun ρ σ R H k Q en s e q => ?_⟩
  obtain ⟨x, e1, e⟩ := bind_some e
  refine q0 ρ σ R H x _ en s e1 fun R1 H1 x1 => ?_
  cases x with
  | false => exact iteF (q0' ρ σ R1 H1 k _ (en.mono x1.r) x1.s e fun R2 H2 x2 => q R2 H2 (x1.trans x2))
  | true =>
    have e : some true = some k := e
    cases e
    exact iteT (q R1 H1 x1)
theorem WV.tv {t : GB} (h : WV X a t) : TV X a t := by
  obtain ⟨t, p, q0⟩ := h.ex
  exact ⟨_, p.pt, q0⟩
end
end DL

set_option Elab.async false
set_option linter.all false
set_option maxRecDepth 100000
set_option maxHeartbeats 2000000
/-! DL4: calls, what is walked, comprehensions. -/
namespace DL
open PySem PySem.Spec PyProof.Rows L2

/-! ### room for calls, and no repr under way -/
structure RoomG (k : Nat) (A : Around) : Prop where
  r : Room k A
  g : A.guards = some []
theorem RoomG.mono {j k : Nat} {A : Around} (r : RoomG k A) (h : j ≤ k) : RoomG j A := ⟨r.r.mono h, r.g⟩
theorem RoomG.deeper {k : Nat} {A : Around} (r : RoomG (k + 1) A) (env : PySem.Env) : RoomG k (A.deeper env) := ⟨r.r.deeper env, r.g⟩
/-- the promise of a def, where no repr is under way -/
structure FnG (P : Program) (w : World) (K : PySem.W.Frag) (mg : PySem.Str → Option Value) (base : Heap) (CX : CXT) (k : Nat) (f : Addr) (fd : FuncData) (ps : List PySem.Str) (sp : Sp) : Prop where
  len : ∀ vs H Q E, sp vs H Q E → vs.length = ps.length
  run : ∀ (A : Around) (outer : List PySem.Env) (s : Shared) (H : Hp) (args : Args) (us : List Value) (vs : List V) (Q : VK) (E : XK), RoomG k A → Env0 P w K mg base A outer s H → BindsTo s fd args (ps.zip us) → Vals vs us → sp vs H Q E →
    codeAny (model P w) A (.call (.ref f) args) (CR CX outer P w H s Q E) s
theorem FnG.mono {P : Program} {w : World} {K : PySem.W.Frag} {mg : PySem.Str → Option Value} {base : Heap} {CX : CXT} {j k : Nat} {f : Addr} {fd : FuncData} {ps : List PySem.Str} {sp : Sp} (F : FnG P w K mg base CX j f fd ps sp) (h : j ≤ k) :
    FnG P w K mg base CX k f fd ps sp := ⟨F.len, fun A outer s H args us vs Q E hr => F.run A outer s H args us vs Q E (hr.mono h)⟩
section
variable {P : Program} {w : World} {K : PySem.W.Frag} {mg : PySem.Str → Option Value} {base : Heap} {x qual : PySem.Str} {params : Arguments} {body : List Stmt} {scope : Scope} {dvs : List V} {kws : List (PySem.Str × V)} {f : Addr} {fd : FuncData}
theorem okG {CX : CXT} {N ps : List PySem.Str} {k : Nat} {sp : Sp} (F : FunD K x qual params body scope dvs kws f fd) (S : FnScope N ps scope) (len : ∀ vs H Q E, sp vs H Q E → vs.length = ps.length)
    (hbody : ∀ (cdv : Value) (A : Around) (outer : List PySem.Env) (s : Shared) (H : Hp) (vs : List V) (Q : VK) (E : XK), RoomG k (A.deeper (envOfC qual scope s.heap.objs.size f cdv)) → sp vs H Q E →
      ∃ t, PSs (cxOf CX P w K mg base N qual scope f cdv A outer s H E) body t ∧ t { nx := fun _ H' => Q .non H', rt := Q } (L2.start N vs) H) : FnG P w K mg base CX (k + 1) f fd ps sp := by
  obtain ⟨oc, od, dV, kV, doc, pm, an, cdv, ct, osl, rfl, lk, hcd, _, _⟩ := F.ex
  refine ⟨len, fun A outer s H args us vs Q E hr e0 hb r h => ?_⟩
  exact LamX.run_ofS lk hcd S hr.r e0 hb r (len vs H Q E h) fun hr' => hbody cdv A outer s H vs Q E ⟨hr', hr.g⟩ h
end
section
variable {X : Cx} {CX : CXT} {k : Nat} {f C : Addr} {fd : FuncData} {ps : List PySem.Str} {sp : Sp} {dvs : List V} {ds : List Value} {E : XK} {x m : PySem.Str} {p pos apos : Pos} {e o : Expr} {es : List Expr} {ta : TE} {t : TA}
theorem run_fnG {pins : List (Addr × Obj)} {σ : L2.St} {H : Hp} {s : Shared} {Q : VK} {us : List Value} {vs : List V} (F : FnG X.prog X.w X.K X.mg X.base CX k f fd ps sp) (hr : RoomG k X.A) (hb : Binds X.K fd ps ds) (hd : Vals dvs ds) (hx : Passes CX X E)
    (I : Inv X pins σ H s) (r : Vals vs us) (h : sp (vs ++ dvs) H Q E) : wpAny (model X.prog X.w) X.A (call (.ref f) us) (EP X pins σ Q) X.xe s := by
  have r2 : Vals (vs ++ dvs) (us ++ ds) := r.append hd
  have hl : (us ++ ds).length = ps.length := by rw [← r2.length]; exact F.len _ _ _ _ h
  refine wpAny_call (codeAny_mono (F.run X.A X.stack s H ⟨us, []⟩ (us ++ ds) (vs ++ dvs) Q E hr I.env0 (hb s us I.kIn hl) r2 h) fun r s' hq => ?_)
  cases r with
  | error e => exact hx pins σ H s e s' I hq
  | ok fl =>
    cases fl with
    | ret u => exact I.after hq
    | next => exact False.elim hq
    | brk => exact False.elim hq
    | cont => exact False.elim hq
theorem pe_callG (F : FnG X.prog X.w X.K X.mg X.base CX k f fd ps sp) (hr : RoomG k X.A) (hg : Gl X x) (hm : X.mg x = some (.ref f)) (hk : PySem.W.keepIn X.K (.ref f) = true) (hb : Binds X.K fd ps ds) (hd : Vals dvs ds) (hx : Passes CX X E)
    (ha : PA X (e :: es) t) (hdb : (x == ("__debug__" : PySem.Str)) = false := by decide) (he : starEach (e :: es) X.env = (false, eval e X.env) :: starEach es X.env := by rfl) (hpl : (backTo pos (starEach es X.env)).any (·.1) = false := by rfl) :
    PE X (.Call (.Name x p) (e :: es) [] pos) (tCall sp dvs E t) := by
  refine ⟨fun pins s σ H Q I h => ?_⟩
  refine wpAny_Call_Name_kw (ld_glob I hg hm ?_ hdb)
  refine PySem.W.callWith_K (h₀ := X.base) I.ok.mod.kin hk (thn (ha.run pos pins s σ H _ I h) fun us s1 ⟨vs, H1, I1, r, q⟩ => ⟨I1.kIn, ?_⟩) he hpl
  exact run_fnG F hr hb hd hx I1 r q
theorem pe_call0G (F : FnG X.prog X.w X.K X.mg X.base CX k f fd ps sp) (hr : RoomG k X.A) (hg : Gl X x) (hm : X.mg x = some (.ref f)) (hk : PySem.W.keepIn X.K (.ref f) = true) (hb : Binds X.K fd ps ds) (hd : Vals dvs ds) (hx : Passes CX X E)
    (hdb : (x == ("__debug__" : PySem.Str)) = false := by decide) : PE X (.Call (.Name x p) [] [] pos) (tCall sp dvs E tNil) := by
  refine ⟨fun pins s σ H Q I h => ?_⟩
  refine wpAny_Call_Name_kw (ld_glob I hg hm ?_ hdb)
  exact PySem.W.callWith_K0 I.kIn hk (run_fnG (us := []) F hr hb hd hx I .nil h)
end
/-! ### defs -/
/-- the promise of a def that is worth F (the first argument: how often its whiles may turn) -/
def spP (K : PySem.W.Frag) (mg : PySem.Str → Option Value) (n : Nat) (F : Nat → List D → Option D) : Sp := fun vs H Q _ => vs.length = n ∧ ∃ (m : Nat) (R : Hp) (ds : List D) (d : D), Same R H ∧ RepL K mg R ds vs ∧ F m ds = some d ∧
  ∀ v R' H', Ext R H R' H' → Rep K mg R' d v → Q v H'
/-- the module's x is a def of n parameters, worth F -/
structure Fn (P : Program) (w : World) (K : PySem.W.Frag) (mg : PySem.Str → Option Value) (base : Heap) (k : Nat) (x : PySem.Str) (n : Nat) (F : Nat → List D → Option D) : Prop where
  ex : ∃ f fd ps, FnG P w K mg base CX0 k f fd ps (spP K mg n F) ∧ ps.length = n ∧ mg x = some (.ref f) ∧ PySem.W.keepIn K (.ref f) = true ∧ Binds K fd ps []

section
variable {X : Cx} {a b c e : Expr} {es : List Expr} {ga gb gc : G} {gl : GL} {p pos apos cpos : Pos}
theorem ev_call {k j n : Nat} {x : PySem.Str} {f : Nat → List D → Option D} (F : Fn X.prog X.w X.K X.mg X.base k x n f) (hr : RoomG j X.A) (m : Nat) (ha : EVL X (e :: es) gl) (hk : k ≤ j := by decide) (hl : (e :: es).length = n := by rfl) (hg : Gl X x := by rfl)
    (hdb : (x == ("__debug__" : PySem.Str)) = false := by decide) (he : starEach (e :: es) X.env = (false, eval e X.env) :: starEach es X.env := by rfl) (hpl : (backTo pos (starEach es X.env)).any (·.1) = false := by rfl) :
    EV X (.Call (.Name x p) (e :: es) [] pos) (gF (f m) gl) := by
  obtain ⟨fa, fd, ps, h1, h2, h3, h4, h5⟩ := F.ex
  obtain ⟨t, pt, qt⟩ := ha.ex
  refine ⟨_, pe_callG (h1.mono hk) (hr) hg h3 h4 h5 .nil pass0 pt hdb he hpl, fun ρ σ R H d Q en s e q => ?_⟩
  obtain ⟨l, e1, e2⟩ := bind_some e
  refine qt ρ σ R H l _ en s e1 fun vs R1 H1 x1 r1 => ?_
  rw [List.append_nil]
  exact ⟨by rw [RepL.length r1, ha.len ρ l e1]; exact hl, m, R1, l, d, x1.s, r1, e2, fun v R2 H2 x2 r2 => q v R2 H2 (x1.trans x2) r2⟩
theorem ev_call0 {k j : Nat} {x : PySem.Str} {f : Nat → List D → Option D} (F : Fn X.prog X.w X.K X.mg X.base k x 0 f) (hr : RoomG j X.A) (m : Nat) (hk : k ≤ j := by decide) (hg : Gl X x := by rfl)
    (hdb : (x == ("__debug__" : PySem.Str)) = false := by decide) : EV X (.Call (.Name x p) [] [] pos) (gF (f m) gN) := by
  obtain ⟨fa, fd, ps, h1, h2, h3, h4, h5⟩ := F.ex
  refine ⟨_, pe_call0G (h1.mono hk) (hr) hg h3 h4 h5 .nil pass0 hdb, fun ρ σ R H d Q en s e q => ?_⟩
  obtain ⟨l, e1, e2⟩ := bind_some e
  cases e1
  exact ⟨rfl, m, R, [], d, s, rfl, e2, fun v R2 H2 x2 r2 => q v R2 H2 x2 r2⟩

/-! ### built-in functions by values -/
structure C1 (X : Cx) (fv : Value) (f : List D → Option D) : Prop where
  ex : ∃ r, CallR X fv r ∧ ∀ (R H : Hp) (ds : List D) (vs : List V) (d : D) (Q : VK), Same R H → RepL X.K X.mg R ds vs → f ds = some d → (∀ v R' H', Ext R H R' H' → Rep X.K X.mg R' d v → Q v H') → r vs H Q
theorem ev_callB {id : String} {x : PySem.Str} {f : List D → Option D} (o : C1 X (.builtin id) f) (hm : X.mg x = none) (ha : EVL X (e :: es) gl) (hv : bootBuiltins x = some (.builtin id) := by decide +kernel) (hg : Gl X x := by rfl) (hn : x ≠ "__name__" := by decide)
    (hdb : (x == ("__debug__" : PySem.Str)) = false := by decide) (he : starEach (e :: es) X.env = (false, eval e X.env) :: starEach es X.env := by rfl) (hpl : (backTo pos (starEach es X.env)).any (·.1) = false := by rfl) :
    EV X (.Call (.Name x p) (e :: es) [] pos) (gF f gl) := by
  obtain ⟨r, hc, hr⟩ := o.ex
  obtain ⟨t, pt, qt⟩ := ha.ex
  refine ⟨_, pe_callB hc hg hm hv pt hn hdb he hpl, fun ρ σ R H d Q en s e q => ?_⟩
  obtain ⟨l, e1, e2⟩ := bind_some e
  exact qt ρ σ R H l _ en s e1 fun vs R1 H1 x1 r1 => hr R1 H1 l vs d Q x1.s r1 e2 fun v R2 H2 x2 r2 => q v R2 H2 (x1.trans x2) r2
theorem ev_callTy {T : String} {x : PySem.Str} {f : List D → Option D} (o : C1 X (.type T) f) (hm : X.mg x = none) (ha : EVL X (e :: es) gl) (hv : bootBuiltins x = some (.type T) := by decide +kernel) (hg : Gl X x := by rfl) (hn : x ≠ "__name__" := by decide)
    (hdb : (x == ("__debug__" : PySem.Str)) = false := by decide) (he : starEach (e :: es) X.env = (false, eval e X.env) :: starEach es X.env := by rfl) (hpl : (backTo pos (starEach es X.env)).any (·.1) = false := by rfl) :
    EV X (.Call (.Name x p) (e :: es) [] pos) (gF f gl) := by
  obtain ⟨r, hc, hr⟩ := o.ex
  obtain ⟨t, pt, qt⟩ := ha.ex
  refine ⟨_, pe_callTy hc hg hm hv pt hn hdb he hpl, fun ρ σ R H d Q en s e q => ?_⟩
  obtain ⟨l, e1, e2⟩ := bind_some e
  exact qt ρ σ R H l _ en s e1 fun vs R1 H1 x1 r1 => hr R1 H1 l vs d Q x1.s r1 e2 fun v R2 H2 x2 r2 => q v R2 H2 (x1.trans x2) r2
/-- a built-in function that stands under a module's own name (from math import gcd) -/
theorem ev_callM {id : String} {x : PySem.Str} {f : List D → Option D} (o : C1 X (.builtin id) f) (hm : X.mg x = some (.builtin id)) (ha : EVL X (e :: es) gl) (hg : Gl X x := by rfl)
    (hdb : (x == ("__debug__" : PySem.Str)) = false := by decide) (he : starEach (e :: es) X.env = (false, eval e X.env) :: starEach es X.env := by rfl) (hpl : (backTo pos (starEach es X.env)).any (·.1) = false := by rfl) :
    EV X (.Call (.Name x p) (e :: es) [] pos) (gF f gl) := by
  obtain ⟨r, hc, hr⟩ := o.ex
  obtain ⟨t, pt, qt⟩ := ha.ex
  refine ⟨_, pe_callBfun hc hg hm pt hdb he hpl, fun ρ σ R H d Q en s e q => ?_⟩
  obtain ⟨l, e1, e2⟩ := bind_some e
  exact qt ρ σ R H l _ en s e1 fun vs R1 H1 x1 r1 => hr R1 H1 l vs d Q x1.s r1 e2 fun v R2 H2 x2 r2 => q v R2 H2 (x1.trans x2) r2

def dLen : List D → Option D
  | [.tup l] => some (.int l.length)
  | [.lst l] => some (.int l.length)
  | [.frz l] => some (.int l.length)
  | _ => none
theorem repL1 {K : PySem.W.Frag} {mg : PySem.Str → Option Value} {R : Hp} {d : D} {vs : List V} (h : RepL K mg R [d] vs) : ∃ v, vs = [v] ∧ Rep K mg R d v := by
  obtain ⟨v, ws, e, h1, h2⟩ := h
  rw [show ws = [] from h2] at e
  exact ⟨v, e, h1⟩
theorem repL2 {K : PySem.W.Frag} {mg : PySem.Str → Option Value} {R : Hp} {d d' : D} {vs : List V} (h : RepL K mg R [d, d'] vs) : ∃ v v', vs = [v, v'] ∧ Rep K mg R d v ∧ Rep K mg R d' v' := by
  obtain ⟨v, ws, e, h1, h2⟩ := h
  obtain ⟨v', e', h3⟩ := repL1 h2
  exact ⟨v, v', by rw [e, e'], h1, h3⟩
theorem c_len : C1 X (.builtin "len") dLen := ⟨_, call_len_seq, fun R H ds vs d Q s r e q => by
  match ds, e with
  | [.tup l], e =>
    cases e
    obtain ⟨v, e1, a, ws, e2, h1, h2⟩ := repL1 r
    exact ⟨a, ws, by rw [e1, e2], .inr (Same.seqT s h1), q _ R H (.refl s) (by rw [RepL.length h2]; rfl)⟩
  | [.lst l], e =>
    cases e
    obtain ⟨v, e1, a, ws, e2, h1, h2⟩ := repL1 r
    exact ⟨a, ws, by rw [e1, e2], .inl (.inl (.inl (s _ _ h1))), q _ R H (.refl s) (by rw [RepL.length h2]; rfl)⟩
  | [.frz l], e =>
    cases e
    obtain ⟨v, e1, a, ws, e2, h1, h2⟩ := repL1 r
    exact ⟨a, ws, by rw [e1, e2], .inl (s.seq h1), q _ R H (.refl s) (by rw [RepL.length h2]; rfl)⟩⟩
def dAbs : List D → Option D
  | [.int i] => some (.int (if i < 0 then -i else i))
  | _ => none
theorem c_abs : C1 X (.builtin "abs") dAbs := ⟨_, call_abs, fun R H ds vs d Q s r e q => by
  match ds, e with
  | [.int i], e =>
    cases e
    obtain ⟨v, e1, h⟩ := repL1 r
    exact ⟨i, by rw [e1, show v = V.int i from h], q _ R H (.refl s) rfl⟩⟩
def dMax2 : List D → Option D
  | [.int i, .int j] => some (.int (if j > i then j else i))
  | _ => none
theorem c_max2 (hc : X.calm = true) : C1 X (.builtin "max") dMax2 := ⟨_, call_max2 hc, fun R H ds vs d Q s r e q => by
  match ds, e with
  | [.int i, .int j], e =>
    cases e
    obtain ⟨v, v', e1, h, h'⟩ := repL2 r
    exact ⟨i, j, by rw [e1, show v = V.int i from h, show v' = V.int j from h'], q _ R H (.refl s) rfl⟩⟩
def dMin2 : List D → Option D
  | [.int i, .int j] => some (.int (if j < i then j else i))
  | _ => none
theorem c_min2 (hc : X.calm = true) : C1 X (.builtin "min") dMin2 := ⟨_, call_min2 hc, fun R H ds vs d Q s r e q => by
  match ds, e with
  | [.int i, .int j], e =>
    cases e
    obtain ⟨v, v', e1, h, h'⟩ := repL2 r
    exact ⟨i, j, by rw [e1, show v = V.int i from h, show v' = V.int j from h'], q _ R H (.refl s) rfl⟩⟩
def dInt : List D → Option D
  | [.int i] => some (.int i)
  | [.bl k] => some (.int (if k then 1 else 0))
  | _ => none
theorem c_int : C1 X (.type "int") dInt := ⟨_, call_int1, fun R H ds vs d Q s r e q => by
  match ds, e with
  | [.int i], e =>
    cases e
    obtain ⟨v, e1, h⟩ := repL1 r
    exact .inl ⟨i, by rw [e1, show v = V.int i from h], q _ R H (.refl s) rfl⟩
  | [.bl i], e =>
    cases e
    obtain ⟨v, e1, h⟩ := repL1 r
    exact .inr ⟨i, by rw [e1, show v = V.bl i from h], q _ R H (.refl s) rfl⟩⟩
def dStr : List D → Option D
  | [.int i] => if i.natAbs.log2 < 1920 then some (.str (toString i)) else none
  | _ => none
theorem c_str : C1 X (.type "str") dStr := ⟨_, call_str_int, fun R H ds vs d Q s r e q => by
  match ds, e with
  | [.int i], e =>
    obtain ⟨hl, rfl⟩ := ite_some (show (if i.natAbs.log2 < 1920 then some (D.str (toString i)) else none) = some d from e)
    obtain ⟨v, e1, h⟩ := repL1 r
    exact ⟨i, by rw [e1, show v = V.int i from h], hl, q _ R H (.refl s) rfl⟩⟩
def intsD : List D → Option (List Int)
  | [] => some []
  | .int i :: r => (intsD r).map (i :: ·)
  | _ => none
theorem intsD_v {K : PySem.W.Frag} {mg : PySem.Str → Option Value} {R : Hp} : ∀ {l : List D} {ns : List Int} {vs : List V}, intsD l = some ns → RepL K mg R l vs → vs = ns.map V.int
  | [], ns, vs, e, r => by
    cases e
    exact r
  | d :: l, ns, vs, e, r => by
    obtain ⟨v, ws, e1, h1, h2⟩ := r
    cases d <;> try (cases e; done)
    rename_i i
    obtain ⟨ms, e2, e3⟩ := map_some (show (intsD l).map (i :: ·) = some ns from e)
    subst e3
    rw [e1, show v = V.int i from h1, intsD_v e2 h2]
    rfl
def blsD : List D → Option (List Bool)
  | [] => some []
  | .bl i :: r => (blsD r).map (i :: ·)
  | _ => none
theorem blsD_v {K : PySem.W.Frag} {mg : PySem.Str → Option Value} {R : Hp} : ∀ {l : List D} {ns : List Bool} {vs : List V}, blsD l = some ns → RepL K mg R l vs → vs = ns.map V.bl
  | [], ns, vs, e, r => by
    cases e
    exact r
  | d :: l, ns, vs, e, r => by
    obtain ⟨v, ws, e1, h1, h2⟩ := r
    cases d <;> try (cases e; done)
    rename_i i
    obtain ⟨ms, e2, e3⟩ := map_some (show (blsD l).map (i :: ·) = some ns from e)
    subst e3
    rw [e1, show v = V.bl i from h1, blsD_v e2 h2]
    rfl
def dSum : List D → Option D
  | [.lst l] => (intsD l).map fun ns => .int ns.sum
  | [.frz l] => (intsD l).map fun ns => .int ns.sum
  | _ => none
theorem c_sum (hc : X.calm = true) : C1 X (.builtin "sum") dSum := ⟨_, cr_sum hc, fun R H ds vs d Q s r e q => by
  match ds, e with
  | [.lst l], e =>
    obtain ⟨ns, e1, e2⟩ := map_some (show (intsD l).map (fun ns => D.int ns.sum) = some d from e)
    obtain ⟨v, e3, a, ws, e4, h1, h2⟩ := repL1 r
    have e5 := intsD_v e1 h2
    subst e5 e2
    exact ⟨a, ns, by rw [e3, e4], .inl (.inl (s _ _ h1)), q _ R H (.refl s) rfl⟩
  | [.frz l], e =>
    obtain ⟨ns, e1, e2⟩ := map_some (show (intsD l).map (fun ns => D.int ns.sum) = some d from e)
    obtain ⟨v, e3, a, ws, e4, h1, h2⟩ := repL1 r
    have e5 := intsD_v e1 h2
    subst e5 e2
    exact ⟨a, ns, by rw [e3, e4], s.seq h1, q _ R H (.refl s) rfl⟩⟩
def dAll : List D → Option D
  | [.lst l] => (blsD l).map fun ns => .bl (ns.all id)
  | _ => none
theorem c_all (hc : X.calm = true) : C1 X (.builtin "all") dAll := ⟨_, cr_all hc, fun R H ds vs d Q s r e q => by
  match ds, e with
  | [.lst l], e =>
    obtain ⟨ns, e1, e2⟩ := map_some (show (blsD l).map (fun ns => D.bl (ns.all id)) = some d from e)
    obtain ⟨v, e3, a, ws, e4, h1, h2⟩ := repL1 r
    have e5 := blsD_v e1 h2
    subst e5 e2
    exact ⟨a, ns, by rw [e3, e4], .inl (.inl (s _ _ h1)), q _ R H (.refl s) rfl⟩⟩
def dTuple : List D → Option D
  | [.lst l] => some (.tup l)
  | [.tup l] => some (.tup l)
  | _ => none
theorem c_tuple : C1 X (.type "tuple") dTuple := ⟨_, call_tuple_of, fun R H ds vs d Q s r e q => by
  match ds, e with
  | [.lst l], e =>
    cases e
    obtain ⟨v, e3, a, ws, e4, h1, h2⟩ := repL1 r
    exact ⟨a, ws, by rw [e3, e4], .inl ⟨.inl (.inl (s _ _ h1)), fun p hp => q _ _ _ (Ext.new s hp _) (tup_new (s.free hp) h2)⟩⟩
  | [.tup l], e =>
    cases e
    obtain ⟨v, e3, a, ws, e4, h1, h2⟩ := repL1 r
    exact ⟨a, ws, by rw [e3, e4], .inr ⟨Same.seqT s h1, q _ R H (.refl s) ⟨a, ws, rfl, h1, h2⟩⟩⟩⟩
def lTuple : List D → Option (List D)
  | [.lst l] => some l
  | [.tup l] => some l
  | [.frz l] => some l
  | _ => none
/-- list(x): a new list -/
theorem evf_list {x : PySem.Str} (hm : X.mg x = none) (ha : EVL X (e :: es) gl) (hv : bootBuiltins x = some (.type "list") := by decide +kernel) (hg : Gl X x := by rfl) (hn : x ≠ "__name__" := by decide)
    (hdb : (x == ("__debug__" : PySem.Str)) = false := by decide) (he : starEach (e :: es) X.env = (false, eval e X.env) :: starEach es X.env := by rfl) (hpl : (backTo pos (starEach es X.env)).any (·.1) = false := by rfl) :
    EVF X (.Call (.Name x p) (e :: es) [] pos) (fun ρ => (gl ρ).bind lTuple) := by
  obtain ⟨t, pt, qt⟩ := ha.ex
  refine ⟨_, pe_callTy call_list_of hg hm hv pt hn hdb he hpl, fun ρ σ R H l Q en s e q => ?_⟩
  obtain ⟨ds, e1, e2⟩ := bind_some e
  refine qt ρ σ R H ds _ en s e1 fun vs R1 H1 x1 r1 => ?_
  match ds, e2 with
  | [.lst l'], e2 =>
    cases e2
    obtain ⟨v, e3, a, ws, e4, h1, h2⟩ := repL1 r1
    exact ⟨a, ws, by rw [e3, e4], .inl (.inl (.inl (x1.s _ _ h1))), fun p hp => q p ws R1 _ (x1.trans (Ext.newOut x1.s hp _)) (x1.s.free hp) (x1.h.free hp) upd_same h2⟩
  | [.tup l'], e2 =>
    cases e2
    obtain ⟨v, e3, a, ws, e4, h1, h2⟩ := repL1 r1
    exact ⟨a, ws, by rw [e3, e4], .inr (Same.seqT x1.s h1), fun p hp => q p ws R1 _ (x1.trans (Ext.newOut x1.s hp _)) (x1.s.free hp) (x1.h.free hp) upd_same h2⟩
  | [.frz l'], e2 =>
    cases e2
    obtain ⟨v, e3, a, ws, e4, h1, h2⟩ := repL1 r1
    exact ⟨a, ws, by rw [e3, e4], .inl (x1.s.seq h1), fun p hp => q p ws R1 _ (x1.trans (Ext.newOut x1.s hp _)) (x1.s.free hp) (x1.h.free hp) upd_same h2⟩
def dDivmod : List D → Option D
  | [.int i, .int j] => if 0 < j ∧ j < 1073741824 then some (.tup [.int (i / j), .int (i % j)]) else none
  | _ => none
theorem c_divmod : C1 X (.builtin "divmod") dDivmod := ⟨_, call_divmod, fun R H ds vs d Q s r e q => by
  match ds, e with
  | [.int i, .int j], e =>
    obtain ⟨hl, rfl⟩ := ite_some (show (if 0 < j ∧ j < 1073741824 then some (D.tup [.int (i / j), .int (i % j)]) else none) = some d from e)
    obtain ⟨v, v', e1, h, h'⟩ := repL2 r
    exact ⟨i, j, by rw [e1, show v = V.int i from h, show v' = V.int j from h'], hl, fun p hp => q _ _ _ (Ext.new s hp _) (tup_new (s.free hp) ⟨_, _, rfl, rfl, _, _, rfl, rfl, rfl⟩)⟩⟩
def dGcd : List D → Option D
  | [.int i, .int j] => some (.int ((Nat.gcd i.natAbs j.natAbs : Nat) : Int))
  | _ => none
theorem c_gcd : C1 X (.builtin "math.gcd") dGcd := ⟨_, cr_gcd, fun R H ds vs d Q s r e q => by
  match ds, e with
  | [.int i, .int j], e =>
    cases e
    obtain ⟨v, v', e1, h, h'⟩ := repL2 r
    exact ⟨i, j, by rw [e1, show v = V.int i from h, show v' = V.int j from h'], q _ R H (.refl s) rfl⟩⟩

/-! ### isinstance -/
def tyD : D → Option String
  | .non => some "NoneType"
  | .bl _ => some "bool"
  | .int _ => some "int"
  | .str _ => some "str"
  | .tup _ => some "tuple"
  | .lst _ => some "list"
  | .frz _ => some "list"
  | .dic _ _ => some "dict"
  | .obj _ _ _ => none
  | .exc _ _ _ => none
  | .exb _ => none
def isiT (t T : String) : Bool := t == T || (t == "bool" && T == "int")
def dIsi (T : String) (d : D) : Option D := (tyD d).map fun t => .bl (isiT t T)
theorem tyX_of {K : PySem.W.Frag} {mg : PySem.Str → Option Value} {R H : Hp} {d : D} {v : V} {t : String} (s : Same R H) (r : Rep K mg R d v) (e : tyD d = some t) : TyX K H v (.type t) := by
  cases d with
  | non => cases e; rw [show v = V.non from r]; exact .base .non
  | bl b => cases e; rw [show v = V.bl b from r]; exact .base (.bl b)
  | int i => cases e; rw [show v = V.int i from r]; exact .base (.int i)
  | str i => cases e; rw [show v = V.str i from r]; exact .base (.str i)
  | tup l =>
    cases e
    obtain ⟨a, vs, e1, h1, h2⟩ := r
    rw [e1]
    rcases Same.seqT s h1 with (h | ⟨o, h⟩) | ⟨o, its, n, h, h', _⟩
    · exact .base (.tup h)
    · exact .fTuple h
    · exact .kTuple h h'
  | lst l =>
    cases e
    obtain ⟨a, vs, e1, h1, h2⟩ := r
    rw [e1]
    exact .base (.lst (s _ _ h1))
  | frz l =>
    cases e
    obtain ⟨a, vs, e1, h1, h2⟩ := r
    rw [e1]
    rcases s.seq h1 with (h | ⟨o, h⟩) | ⟨o, its, n, h, h', _⟩
    · exact .base (.lst h)
    · exact .base (.frz h)
    · exact .kList h h'
  | dic k l =>
    cases e
    obtain ⟨a, vs, e1, h1, h2⟩ := r
    rw [e1]
    exact .base (.dK (s _ _ h1))
  | obj c f l => cases e
  | exc c f l => cases e
  | exb c => cases e
/-- isinstance(x, T), T a built-in class by its name -/
theorem ev_isi {T : String} {T' : PySem.Str} {p2 : Pos} (hm : X.mg "isinstance" = none) (hmT : X.mg T' = none) (ha : EV X a ga) (hk : ∀ t, t ∈ ["NoneType", "bool", "int", "str", "tuple", "list", "dict"] → PySem.W.kitOne X.K (.type t) (.type T) = some (isiT t T)) (hcl : ClsV (.ty T) (.type T))
    (hvT : bootBuiltins T' = some (.type T) := by decide +kernel)
    (hg : Gl X "isinstance" := by rfl) (hgT : Gl X T' := by rfl) (hnT : T' ≠ "__name__" := by decide) (hdT : (T' == ("__debug__" : PySem.Str)) = false := by decide)
    (he : starEach [a, .Name T' p2] X.env = (false, eval a X.env) :: starEach [.Name T' p2] X.env := by rfl) (he2 : starEach [.Name T' p2] X.env = (false, eval (.Name T' p2) X.env) :: starEach [] X.env := by rfl) (hpl : (backTo pos (starEach [.Name T' p2] X.env)).any (·.1) = false := by rfl) :
    EV X (.Call (.Name "isinstance" p) [a, .Name T' p2] [] pos) (gU (dIsi T) ga) := by
  obtain ⟨t, pt, qt⟩ := ha.ex
  refine ⟨_, pe_callB call_isi hg hm boot_isinstance (pa_cons pt (pa_cons (pe_bltn (v := .ty T) hgT hmT hvT rfl hnT hdT) pa_nil he2) he) (by decide) (by decide) he hpl, fun ρ σ R H d Q en s e q => ?_⟩
  obtain ⟨x, e1, e2⟩ := bind_some e
  obtain ⟨ty, e3, e4⟩ := map_some e2
  subst e4
  refine qt ρ σ R H x _ en s e1 fun v R1 H1 x1 r1 => ?_
  refine ⟨v, .ty T, .type ty, .type T, isiT ty T, rfl, hcl, tyX_of x1.s r1 e3, hk ty ?_, q _ R1 H1 x1 rfl⟩
  cases x <;> first | (cases e3; simp) | cases e3

/-! ### what is walked -/
/-- from the region R on, J walks ds -/
structure ItOk (K : PySem.W.Frag) (mg : PySem.Str → Option Value) (J : It) (R : Hp) (ds : List D) : Prop where
  go : ∀ (R1 H1 : Hp) (i : Nat), Same R R1 → Same R1 H1 → i < ds.length → J.go i H1
  yld : ∀ (R1 H1 : Hp) (i : Nat) (x : V) (H' : Hp), Same R R1 → Same R1 H1 → J.yld i H1 x H' → i < ds.length → ∃ d R', ds[i]? = some d ∧ Ext R1 H1 R' H' ∧ Rep K mg R' d x
  stop : ∀ (R1 H1 : Hp) (i : Nat), Same R R1 → Same R1 H1 → ds.length ≤ i → J.stop i H1
structure IV (X : Cx) (tg iter : Expr) (g : GL) : Prop where
  ex : ∃ wi, PI X tg iter wi ∧ ∀ (ρ : Rho) (σ : L2.St) (R H : Hp) (ds : List D) (Q : It → Hp → Prop), Env X.K X.mg R ρ σ → Same R H → g ρ = some ds →
    (∀ J R' H', Ext R H R' H' → ItOk X.K X.mg J R' ds → Q J H') → wi σ H Q
variable {tg iter : Expr}
def iSeq (K : PySem.W.Frag) (tl : TE) : TI := fun σ H R => tl σ H fun x H1 => ∃ a, x = .ref a ∧ (((∃ xs, SqL K H1 a xs) ∧ R (Itl K a) H1) ∨ ((∃ xs, SqT K H1 a xs) ∧ R (Itt K a) H1))
theorem pi_seq {l : Expr} {tl : TE} (hl : PE X l tl) : PI X tg l (iSeq X.K tl) := by
  refine ⟨fun pins s σ H R I h => ?_⟩
  refine thn (hl.run pins s σ H _ I h) fun v s1 ⟨x, H1, I1, r1, q1⟩ => ?_
  obtain ⟨a, e, q1⟩ := q1
  subst e
  cases r1
  rcases q1 with ⟨⟨xs, hq⟩, q⟩ | ⟨⟨xs, hq⟩, q⟩
  · obtain ⟨its, rv, p, hz⟩ := I1.list hq
    refine wpAny_pyIter_list p.isList ?_
    refine ⟨s1.heap.objs.size, [s1.heap.objs.size], _, _, H1, rfl, I1.kept (t' := s1.toks) fun b o e => Heap.get?_push_of_some _ e, turn_list a _, ⟨_, Heap.get?_push_size _ rfl, rfl, rfl⟩, fun b hb => ?_, q⟩
    have e : b = s1.heap.objs.size := by simpa using hb
    subst e
    exact I1.fpOk (Nat.le_refl _) (I1.hok.fresh (Nat.le_refl _))
  · obtain ⟨its, rv, p, hz⟩ := I1.tuple hq
    refine wpAny_pyIter_tuple (show s1.heap.IsTuple a its.toArray from p) ?_
    refine ⟨s1.heap.objs.size, [s1.heap.objs.size], _, _, H1, rfl, I1.kept (t' := s1.toks) fun b o e => Heap.get?_push_of_some _ e, turn_tuple a _, ⟨_, Heap.get?_push_size _ rfl, rfl, rfl⟩, fun b hb => ?_, q⟩
    have e : b = s1.heap.objs.size := by simpa using hb
    subst e
    exact I1.fpOk (Nat.le_refl _) (I1.hok.fresh (Nat.le_refl _))
theorem itok_list {K : PySem.W.Frag} {mg : PySem.Str → Option Value} {R : Hp} {a : Addr} {vs : List V} {ds : List D} (h : SqL K R a vs) (r : RepL K mg R ds vs) : ItOk K mg (Itl K a) R ds where
  go := fun R1 H1 i s s1 hi => by
    obtain ⟨v, e, _⟩ := RepL.get r (List.getElem?_eq_getElem hi)
    exact ⟨vs, v, (s.trans s1).seq h, e⟩
  yld := fun R1 H1 i x H' s s1 y hi => by
    obtain ⟨rfl, f⟩ := y
    obtain ⟨v, e, r'⟩ := RepL.get r (List.getElem?_eq_getElem hi)
    have e2 := f vs ((s.trans s1).seq h)
    rw [e] at e2
    cases e2
    exact ⟨ds[i], R1, List.getElem?_eq_getElem hi, .refl s1, Rep.mono s _ _ r'⟩
  stop := fun R1 H1 i s s1 hi => ⟨vs, (s.trans s1).seq h, by rw [RepL.length r]; exact hi⟩
theorem itok_tup {K : PySem.W.Frag} {mg : PySem.Str → Option Value} {R : Hp} {a : Addr} {vs : List V} {ds : List D} (h : SqT K R a vs) (r : RepL K mg R ds vs) : ItOk K mg (Itt K a) R ds where
  go := fun R1 H1 i s s1 hi => by
    obtain ⟨v, e, _⟩ := RepL.get r (List.getElem?_eq_getElem hi)
    exact ⟨vs, v, Same.seqT (s.trans s1) h, e⟩
  yld := fun R1 H1 i x H' s s1 y hi => by
    obtain ⟨rfl, f⟩ := y
    obtain ⟨v, e, r'⟩ := RepL.get r (List.getElem?_eq_getElem hi)
    have e2 := f vs (Same.seqT (s.trans s1) h)
    rw [e] at e2
    cases e2
    exact ⟨ds[i], R1, List.getElem?_eq_getElem hi, .refl s1, Rep.mono s _ _ r'⟩
  stop := fun R1 H1 i s s1 hi => ⟨vs, Same.seqT (s.trans s1) h, by rw [RepL.length r]; exact hi⟩
def seqD : D → Option (List D)
  | .lst l => some l
  | .frz l => some l
  | .tup l => some l
  | _ => none
theorem iv_seq (ha : EV X a ga) : IV X tg a (fun ρ => (ga ρ).bind seqD) := by
  obtain ⟨t, pt, qt⟩ := ha.ex
  refine ⟨_, pi_seq pt, fun ρ σ R H ds Q en s e q => ?_⟩
  obtain ⟨x, e1, e2⟩ := bind_some e
  refine qt ρ σ R H x _ en s e1 fun v R1 H1 x1 r1 => ?_
  cases x with
  | lst l =>
    cases e2
    obtain ⟨p, vs, e3, h1, h2⟩ := r1
    exact ⟨p, e3, .inl ⟨⟨vs, .inl (.inl (x1.s _ _ h1))⟩, q _ R1 H1 x1 (itok_list (.inl (.inl h1)) h2)⟩⟩
  | frz l =>
    cases e2
    obtain ⟨p, vs, e3, h1, h2⟩ := r1
    exact ⟨p, e3, .inl ⟨⟨vs, x1.s.seq h1⟩, q _ R1 H1 x1 (itok_list h1 h2)⟩⟩
  | tup l =>
    cases e2
    obtain ⟨p, vs, e3, h1, h2⟩ := r1
    exact ⟨p, e3, .inr ⟨⟨vs, Same.seqT x1.s h1⟩, q _ R1 H1 x1 (itok_tup h1 h2)⟩⟩
  | _ => cases e2
def rngD (lo : Int) (n : Nat) : List D := (List.range n).map fun (i : Nat) => D.int (lo + i)
theorem itok_rng {K : PySem.W.Frag} {mg : PySem.Str → Option Value} {R : Hp} (lo : Int) (n : Nat) : ItOk K mg (Itr lo n) R (rngD lo n) where
  go := fun R1 H1 i s s1 hi => by
    have : (rngD lo n).length = n := by simp [rngD]
    rw [this] at hi
    exact hi
  yld := fun R1 H1 i x H' s s1 y hi => by
    obtain ⟨rfl, rfl⟩ := y
    have : (rngD lo n).length = n := by simp [rngD]
    rw [this] at hi
    exact ⟨.int (lo + i), R1, by simp [rngD, hi], .refl s1, rfl⟩
  stop := fun R1 H1 i s s1 hi => by
    have : (rngD lo n).length = n := by simp [rngD]
    rw [this] at hi
    exact hi
def dRng1 : List D → Option (List D)
  | [.int n] => if n ≤ 1000000 ∧ -1000000 ≤ n then some (rngD 0 n.toNat) else none
  | _ => none
def dRng2 : List D → Option (List D)
  | [.int a, .int n] => if a ≤ 1000000 ∧ -1000000 ≤ a ∧ n ≤ 1000000 ∧ -1000000 ≤ n then some (rngD a (n - a).toNat) else none
  | _ => none
theorem iv_rng1 (hm : X.mg "range" = none) (ha : EVL X [a] gl) (hg : Gl X "range" := by rfl) (hs : starEach [a] X.env = [(false, eval a X.env)] := by rfl) : IV X tg (.Call (.Name "range" p) [a] [] pos) (fun ρ => (gl ρ).bind dRng1) := by
  obtain ⟨t, pt, qt⟩ := ha.ex
  refine ⟨_, pi_range1 hg hm pt hs, fun ρ σ R H ds Q en s e q => ?_⟩
  obtain ⟨l, e1, e2⟩ := bind_some e
  refine qt ρ σ R H l _ en s e1 fun vs R1 H1 x1 r1 => ?_
  match l, e2 with
  | [.int n], e2 =>
    obtain ⟨hl, rfl⟩ := ite_some (show (if n ≤ 1000000 ∧ -1000000 ≤ n then some (rngD 0 n.toNat) else none) = some ds from e2)
    obtain ⟨v, e3, h⟩ := repL1 r1
    exact ⟨n, by rw [e3, show v = V.int n from h], by omega, by omega, q _ R1 H1 x1 (itok_rng 0 n.toNat)⟩
theorem iv_rng2 (hm : X.mg "range" = none) (ha : EVL X [a, b] gl) (hg : Gl X "range" := by rfl) (hs : starEach [a, b] X.env = [(false, eval a X.env), (false, eval b X.env)] := by rfl) (hs2 : starEach [b] X.env = [(false, eval b X.env)] := by rfl) : IV X tg (.Call (.Name "range" p) [a, b] [] pos) (fun ρ => (gl ρ).bind dRng2) := by
  obtain ⟨t, pt, qt⟩ := ha.ex
  refine ⟨_, pi_range2 hg hm pt hs hs2, fun ρ σ R H ds Q en s e q => ?_⟩
  obtain ⟨l, e1, e2⟩ := bind_some e
  refine qt ρ σ R H l _ en s e1 fun vs R1 H1 x1 r1 => ?_
  match l, e2 with
  | [.int m, .int n], e2 =>
    obtain ⟨hl, rfl⟩ := ite_some (show (if m ≤ 1000000 ∧ -1000000 ≤ m ∧ n ≤ 1000000 ∧ -1000000 ≤ n then some (rngD m (n - m).toNat) else none) = some ds from e2)
    obtain ⟨v, v', e3, h, h'⟩ := repL2 r1
    exact ⟨m, n, by rw [e3, show v = V.int m from h, show v' = V.int n from h'], ⟨by omega, by omega, by omega, by omega⟩, q _ R1 H1 x1 (itok_rng m (n - m).toNat)⟩

/-! ### comprehensions -/
/-- a target among slots: a name, or names within a tuple -/
inductive Pat where
  | nm (i : Nat) | tp (l : List Pat) | ix (i : Nat) (k : G)
mutual
def asg : Pat → D → Rho → Option Rho
  | .nm i, d, ρ => some (ρ.set i (.sh d))
  | .tp ps, .tup ds, ρ => asgL ps ds ρ
  | .tp _, _, _ => none
  | .ix i k, d, ρ => match ρ[i]? with
    | some (.own c l) => (k (peek ρ)).bind fun x => match x with
      | .int n => (L2.ixN l.length n).map fun j => ρ.set i (.own c (l.set j d))
      | _ => none
    | _ => none
def asgL : List Pat → List D → Rho → Option Rho
  | [], [], ρ => some ρ
  | q :: ps, d :: ds, ρ => (asg q d ρ).bind (asgL ps ds)
  | _, _, _ => none
end
/-- a target takes a value; the slots of vs alone may change -/
structure TGV (X : Cx) (tg : Expr) (q : Pat) : Prop where
  ex : ∃ g, PG X tg g ∧ ∀ (π : Pi) (B R0 R H : Hp) (ρ ρ' : Rho) (σ : L2.St) (d : D) (v : V) (Q : L2.St → Hp → Prop), StR X.K X.mg π B R0 R H ρ σ → Rep X.K X.mg R d v → asg q d ρ = some ρ' →
    (∀ σ' R' H', StR X.K X.mg π B R0 R' H' ρ' σ' → Same R R' → Q σ' H') → g v σ H Q
structure TGVs (X : Cx) (tgs : List Expr) (qs : List Pat) : Prop where
  ex : ∃ g, PGs X tgs g ∧ ∀ (π : Pi) (B R0 R H : Hp) (ρ ρ' : Rho) (σ : L2.St) (ds : List D) (vs : List V) (Q : L2.St → Hp → Prop), StR X.K X.mg π B R0 R H ρ σ → RepL X.K X.mg R ds vs → asgL qs ds ρ = some ρ' →
    (∀ σ' R' H', StR X.K X.mg π B R0 R' H' ρ' σ' → Same R R' → Q σ' H') → g vs σ H Q
  len : tgs.length = qs.length
theorem tg_nm (i : Nat) {x : PySem.Str} (hN : X.N.Nodup) (hi : X.N[i]? = some x := by rfl) (hx : Loc X.env.scope x := by first | exact Or.inl rfl | exact Or.inr rfl) (hf : X.fn x = true ∨ X.env.scope.names.lookup x = some .local := by first | exact .inl rfl | exact .inr rfl) : TGV X (.Name x pos) (.nm i) :=
  ⟨_, pg_name hN hi hx hf, fun π B R0 R H ρ ρ' σ d v Q st r e q => by
    cases e
    exact q _ R H (st.setSh i r) (.refl _)⟩
theorem tgs_nil : TGVs X [] [] := ⟨⟨_, pgs_nil, fun π B R0 R H ρ ρ' σ ds vs Q st r e q => by
  cases ds with
  | nil => cases e; exact ⟨r, q _ R H st (.refl _)⟩
  | cons d ds => cases e⟩, rfl⟩
theorem asgL_len : ∀ {qs : List Pat} {ds : List D} {ρ ρ' : Rho}, asgL qs ds ρ = some ρ' → ds.length = qs.length
  | [], [], _, _, _ => rfl
  | [], d :: ds, ρ, ρ', e => by simp [asgL] at e
  | q :: qs, [], ρ, ρ', e => by simp [asgL] at e
  | q :: qs, d :: ds, ρ, ρ', e => by
    have e : (asg q d ρ).bind (asgL qs ds) = some ρ' := by simpa [asgL] using e
    obtain ⟨ρ1, e1, e2⟩ := bind_some e
    rw [List.length_cons, List.length_cons, asgL_len e2]
theorem tgs_cons {t : Expr} {ts : List Expr} {q : Pat} {qs : List Pat} (h : TGV X t q) (hs : TGVs X ts qs) (hh : (assignEach (t :: ts) X.env).map (·.2) = assign t X.env :: (assignEach ts X.env).map (·.2) := by rfl) : TGVs X (t :: ts) (q :: qs) := by
  obtain ⟨g, p1, q1⟩ := h.ex
  obtain ⟨g', p2, q2⟩ := hs.ex
  refine ⟨⟨_, pgs_cons p1 p2 hh, fun π B R0 R H ρ ρ' σ ds vs Q st r e k => ?_⟩, by rw [List.length_cons, List.length_cons, hs.len]⟩
  cases ds with
  | nil => simp [asgL] at e
  | cons d ds =>
    have e : (asg q d ρ).bind (asgL qs ds) = some ρ' := by simpa [asgL] using e
    obtain ⟨ρ1, e1, e2⟩ := bind_some e
    obtain ⟨v, ws, e3, h1, h2⟩ := r
    exact ⟨v, ws, e3, q1 π B R0 R H ρ ρ1 σ d v _ st h1 e1 fun σ1 R1 H1 st1 s1 => q2 π B R0 R1 H1 ρ1 ρ' σ1 ds ws Q st1 (RepL.mono s1 ds ws h2) e2 fun σ2 R2 H2 st2 s2 => k σ2 R2 H2 st2 (s1.trans s2)⟩
theorem tg_tp {ts : List Expr} {qs : List Pat} {k : Nat} (hc : X.calm = true) (hs : TGVs X ts qs) (hn : (assignEach ts X.env).length = ts.length := by rfl) (hst : (assignEach ts X.env).findIdx? (·.1) = none := by rfl) : TGV X (.Tuple ts k pos) (.tp qs) := by
  obtain ⟨g, p1, q1⟩ := hs.ex
  refine ⟨_, pg_tup hc p1 hn hst, fun π B R0 R H ρ ρ' σ d v Q st r e q => ?_⟩
  cases d with
  | tup ds =>
    have e : asgL qs ds ρ = some ρ' := by simpa [asg] using e
    obtain ⟨a, vs, e1, h1, h2⟩ := r
    refine ⟨a, vs, e1, Same.seqT st.s h1, by rw [RepL.length h2, asgL_len e, hs.len], q1 π B R0 R H ρ ρ' σ ds vs Q st h2 e q⟩
  | _ => simp [asg] at e

/-- the ifs of a comprehension -/
structure TsV (X : Cx) (ifs : List Expr) (g : GB) : Prop where
  ex : ∃ t, PTs X ifs t ∧ ∀ (ρ : Rho) (σ : L2.St) (R H : Hp) (b : Bool) (Q : Bool → Hp → Prop), Env X.K X.mg R ρ σ → Same R H → g ρ = some b →
    (∀ R' H', Ext R H R' H' → Q b H') → t σ H Q
def tYes' : GB := fun _ => some true
theorem ts_nil : TsV X [] tYes' := ⟨_, pts_nil, fun ρ σ R H b Q en s e q => by
  cases e
  exact q R H (.refl s)⟩
theorem ts_one {g : GB} (h : TV X c g) : TsV X [c] g := by
  obtain ⟨t, pt, qt⟩ := h.ex
  exact ⟨_, pts_one pt, qt⟩
end
end DL

set_option Elab.async false
set_option linter.all false
set_option maxRecDepth 100000
set_option maxHeartbeats 2000000
/-! DL5: comprehensions, statements. -/
namespace DL
open PySem PySem.Spec PyProof.Rows L2

/-! ### the readings, told by the functions alone -/
def tE (K : PySem.W.Frag) (mg : PySem.Str → Option Value) (g : G) : TE := fun σ H Q => ∃ (ρ : Rho) (R : Hp) (d : D), Env K mg R ρ σ ∧ Same R H ∧ g ρ = some d ∧ ∀ v R' H', Ext R H R' H' → Rep K mg R' d v → Q v H'
theorem EV.pe {X : Cx} {e : Expr} {g : G} (h : EV X e g) : PE X e (tE X.K X.mg g) := by
  obtain ⟨t, p, q⟩ := h.ex
  refine ⟨fun pins s σ H Q I hh => ?_⟩
  obtain ⟨ρ, R, d, en, sm, e, k⟩ := hh
  exact p.run pins s σ H Q I (q ρ σ R H d Q en sm e k)
def tTs (K : PySem.W.Frag) (mg : PySem.Str → Option Value) (g : GB) : TT := fun σ H Q => ∃ (ρ : Rho) (R : Hp) (b : Bool), Env K mg R ρ σ ∧ Same R H ∧ g ρ = some b ∧ ∀ R' H', Ext R H R' H' → Q b H'
theorem TsV.pt {X : Cx} {es : List Expr} {g : GB} (h : TsV X es g) : PTs X es (tTs X.K X.mg g) := by
  obtain ⟨t, p, q⟩ := h.ex
  refine ⟨fun pins s σ H Q I hh => ?_⟩
  obtain ⟨ρ, R, d, en, sm, e, k⟩ := hh
  exact p.run pins s σ H Q I (q ρ σ R H d Q en sm e k)

/-! ### targets of comprehensions -/
mutual
def pvars : Pat → List Nat
  | .nm i => [i]
  | .tp l => pvarsL l
  | .ix _ _ => []
def pvarsL : List Pat → List Nat
  | [] => []
  | q :: qs => pvars q ++ pvarsL qs
end
def tC (K : PySem.W.Frag) (mg : PySem.Str → Option Value) (q : Pat) : TG := fun v σ H Q => ∃ (ρ ρ' : Rho) (R : Hp) (d : D), Env K mg R ρ σ ∧ Same R H ∧ Rep K mg R d v ∧ asg q d ρ = some ρ' ∧
  ∀ σ', Env K mg R ρ' σ' → σ'.length = σ.length → ρ'.length = ρ.length → (∀ j, j ∉ pvars q → σ'[j]? = σ[j]?) → Q σ' H
structure TGC (X : Cx) (tg : Expr) (q : Pat) : Prop where
  pg : PG X tg (tC X.K X.mg q)
def tCs (K : PySem.W.Frag) (mg : PySem.Str → Option Value) (qs : List Pat) : TGs := fun vs σ H Q => ∃ (ρ ρ' : Rho) (R : Hp) (ds : List D), Env K mg R ρ σ ∧ Same R H ∧ RepL K mg R ds vs ∧ asgL qs ds ρ = some ρ' ∧
  ∀ σ', Env K mg R ρ' σ' → σ'.length = σ.length → ρ'.length = ρ.length → (∀ j, j ∉ pvarsL qs → σ'[j]? = σ[j]?) → Q σ' H
structure TGCs (X : Cx) (tgs : List Expr) (qs : List Pat) : Prop where
  pg : PGs X tgs (tCs X.K X.mg qs)
  len : tgs.length = qs.length
section
variable {X : Cx} {pos : Pos}
theorem Env.set {K : PySem.W.Frag} {mg : PySem.Str → Option Value} {R : Hp} {ρ : Rho} {σ : L2.St} {i : Nat} {d : D} {v : V} (en : Env K mg R ρ σ) (r : Rep K mg R d v) : Env K mg R (ρ.set i (.sh d)) (σ.set i (some v)) := ⟨by rw [List.length_set, List.length_set]; exact en.len, fun j e h => by
  rcases getSet h with ⟨rfl, q, h2⟩ | ⟨hj, h⟩
  · cases q
    exact ⟨v, by rw [List.getElem?_set_self (by rw [← en.len]; exact h2)], r⟩
  · obtain ⟨u, h1, h2⟩ := en.get j e h
    exact ⟨u, by rw [List.getElem?_set_ne (Ne.symm hj)]; exact h1, h2⟩⟩
theorem tc_nm (i : Nat) {x : PySem.Str} (hN : X.N.Nodup) (hi : X.N[i]? = some x := by rfl) (hx : Loc X.env.scope x := by first | exact Or.inl rfl | exact Or.inr rfl) (hf : X.fn x = true ∨ X.env.scope.names.lookup x = some .local := by first | exact .inl rfl | exact .inr rfl) : TGC X (.Name x pos) (.nm i) := by
  refine ⟨⟨fun pins s σ H v u Q I r h => ?_⟩⟩
  obtain ⟨ρ, ρ', R, d, en, sm, rd, e, k⟩ := h
  cases e
  refine (pg_name (pos := pos) hN hi hx hf).run pins s σ H v u Q I r (k _ (en.set rd) (by rw [List.length_set]) (by rw [List.length_set]) fun j hj => ?_)
  rw [List.getElem?_set_ne]
  rintro rfl
  exact hj (by simp [pvars])
theorem tcs_nil : TGCs X [] [] := by
  refine ⟨⟨fun pins s σ H vs us Q I r h => ?_⟩, rfl⟩
  obtain ⟨ρ, ρ', R, ds, en, sm, rd, e, k⟩ := h
  cases ds with
  | nil =>
    cases e
    exact pgs_nil.run pins s σ H vs us Q I r ⟨rd, k σ en rfl rfl fun _ _ => rfl⟩
  | cons d ds => cases e
theorem tcs_cons {t : Expr} {ts : List Expr} {q : Pat} {qs : List Pat} (h : TGC X t q) (hs : TGCs X ts qs) (hh : (assignEach (t :: ts) X.env).map (·.2) = assign t X.env :: (assignEach ts X.env).map (·.2) := by rfl) : TGCs X (t :: ts) (q :: qs) := by
  refine ⟨⟨fun pins s σ H vs us Q I r h' => ?_⟩, by rw [List.length_cons, List.length_cons, hs.len]⟩
  obtain ⟨ρ, ρ', R, ds, en, sm, rd, e, k⟩ := h'
  cases ds with
  | nil => simp [asgL] at e
  | cons d ds =>
    have e : (asg q d ρ).bind (asgL qs ds) = some ρ' := by simpa [asgL] using e
    obtain ⟨ρ1, e1, e2⟩ := bind_some e
    obtain ⟨v, ws, e3, h1, h2⟩ := rd
    refine (pgs_cons h.pg hs.pg hh).run pins s σ H vs us Q I r ⟨v, ws, e3, ρ, ρ1, R, d, en, sm, h1, e1, fun σ1 en1 l1 l2 f1 => ?_⟩
    refine ⟨ρ1, ρ', R, ds, en1, sm, h2, e2, fun σ2 en2 l3 l4 f2 => k σ2 en2 (by rw [l3, l1]) (by rw [l4, l2]) fun j hj => ?_⟩
    have hj : j ∉ pvars q ++ pvarsL qs := by simpa [pvarsL] using hj
    rw [List.mem_append, not_or] at hj
    rw [f2 j hj.2, f1 j hj.1]
theorem tc_tp {ts : List Expr} {qs : List Pat} {k : Nat} (hc : X.calm = true) (hs : TGCs X ts qs) (hn : (assignEach ts X.env).length = ts.length := by rfl) (hst : (assignEach ts X.env).findIdx? (·.1) = none := by rfl) : TGC X (.Tuple ts k pos) (.tp qs) := by
  refine ⟨⟨fun pins s σ H v u Q I r h => ?_⟩⟩
  obtain ⟨ρ, ρ', R, d, en, sm, rd, e, kk⟩ := h
  cases d with
  | tup ds =>
    have e : asgL qs ds ρ = some ρ' := by simpa [asg] using e
    obtain ⟨a, vs, e1, h1, h2⟩ := rd
    refine (pg_tup (k := k) (pos := pos) hc hs.pg hn hst).run pins s σ H v u Q I r ⟨a, vs, e1, Same.seqT sm h1, by rw [RepL.length h2, asgL_len e, hs.len], ρ, ρ', R, ds, en, sm, h2, e, fun σ' en' l1 l2 f => kk σ' en' l1 l2 (by simpa [pvars] using f)⟩
  | _ => simp [asg] at e

/-! ### comprehensions -/
def dComp (q : Pat) (tt : GB) (te : G) (ρ : Rho) : List D → Option (List D)
  | [] => some []
  | d :: ds => (asg q d ρ).bind fun ρ1 => (tt ρ1).bind fun b => if b = true then (te ρ1).bind fun y => (dComp q tt te ρ ds).map fun r => y :: r else dComp q tt te ρ ds
def wipeR (ρ : Rho) : List Nat → Rho
  | [] => ρ
  | v :: vs => (wipeR ρ vs).set v .no
def gLc (gi : GL) (q : Pat) (vs : List Nat) (tt : GB) (te : G) : GL := fun ρ => (gi ρ).bind fun ds => if ds.length ≤ 1000 then dComp q tt te (wipeR ρ vs) ds else none
theorem wipeR_len (ρ : Rho) : ∀ vs, (wipeR ρ vs).length = ρ.length
  | [] => rfl
  | v :: vs => by unfold wipeR; rw [List.length_set, wipeR_len ρ vs]
theorem Env.wipe {K : PySem.W.Frag} {mg : PySem.Str → Option Value} {R : Hp} {ρ : Rho} {σ : L2.St} (en : Env K mg R ρ σ) : ∀ vs, Env K mg R (wipeR ρ vs) (L2.wipe σ vs)
  | [] => en
  | v :: vs => ⟨by rw [wipeR_len, L2.wipe_length]; exact en.len, fun j e h => by
    have h : ((wipeR ρ vs).set v .no)[j]? = some (.sh e) := h
    rcases getSet h with ⟨rfl, q, _⟩ | ⟨hj, h⟩
    · cases q
    · obtain ⟨u, h1, h2⟩ := (Env.wipe en vs).get j e h
      refine ⟨u, ?_, h2⟩
      show ((L2.wipe σ vs).set v none)[j]? = _
      rw [List.getElem?_set_ne (Ne.symm hj)]
      exact h1⟩
theorem wipe_at {σ : L2.St} : ∀ {vs : List Nat} {j : Nat}, j ∈ vs → j < σ.length → (L2.wipe σ vs)[j]? = some none
  | v :: vs, j, hj, hl => by
    show ((L2.wipe σ vs).set v none)[j]? = _
    by_cases e : v = j
    · subst e
      rw [List.getElem?_set_self (by rw [L2.wipe_length]; exact hl)]
    · rw [List.getElem?_set_ne e]
      exact wipe_at (by simpa [Ne.symm e] using hj) hl
theorem wipe_eq {σ σ2 : L2.St} {vs : List Nat} (hl : σ2.length = σ.length) (h : ∀ j, j ∉ vs → σ2[j]? = (L2.wipe σ vs)[j]?) : L2.wipe σ2 vs = L2.wipe σ vs := by
  apply List.ext_getElem?
  intro j
  by_cases hj : j ∈ vs
  · by_cases hjl : j < σ.length
    · rw [wipe_at hj hjl, wipe_at hj (by omega)]
    · rw [List.getElem?_eq_none (by rw [L2.wipe_length]; omega), List.getElem?_eq_none (by rw [L2.wipe_length]; omega)]
  · rw [L2.wipe_out hj]
    exact h j hj
theorem dComp_len {q : Pat} {tt : GB} {te : G} {ρ : Rho} : ∀ {ds l : List D}, dComp q tt te ρ ds = some l → l.length ≤ ds.length
  | [], l, e => by cases e; simp
  | d :: ds, l, e => by
    have e : (asg q d ρ).bind (fun ρ1 => (tt ρ1).bind fun b => if b = true then (te ρ1).bind fun y => (dComp q tt te ρ ds).map fun r => y :: r else dComp q tt te ρ ds) = some l := e
    obtain ⟨ρ1, e1, e⟩ := bind_some e
    obtain ⟨b, e2, e⟩ := bind_some e
    cases b with
    | true =>
      rw [if_pos rfl] at e
      obtain ⟨y, e3, e⟩ := bind_some e
      obtain ⟨r, e4, e⟩ := map_some e
      subst e
      rw [List.length_cons, List.length_cons]
      exact Nat.succ_le_succ (dComp_len e4)
    | false =>
      rw [if_neg Bool.false_ne_true] at e
      rw [List.length_cons]
      exact Nat.le_succ_of_le (dComp_len e)
/-- the reading of a comprehension -/
theorem lc_read {K : PySem.W.Frag} {mg : PySem.Str → Option Value} {wi : TI} {gi : GL} {q : Pat} {vs : List Nat} {tt : GB} {te : G} (hq : ∀ j ∈ pvars q, j ∈ vs)
    (hi : ∀ (ρ : Rho) (σ : L2.St) (R H : Hp) (ds : List D) (Q : It → Hp → Prop), Env K mg R ρ σ → Same R H → gi ρ = some ds → (∀ J R' H', Ext R H R' H' → ItOk K mg J R' ds → Q J H') → wi σ H Q)
    (ρ : Rho) (σ : L2.St) (R H : Hp) (l : List D) (Q : VK) (en : Env K mg R ρ σ) (sm : Same R H) (e : gLc gi q vs tt te ρ = some l)
    (k : ∀ p ws R' H', Ext R H R' H' → R' p = none → H p = none → H' p = some (.lst ws) → RepL K mg R' l ws → Q (.ref p) H') : tLc wi (tC K mg q) (tTs K mg tt) (tE K mg te) vs σ H Q := by
  obtain ⟨ds, e1, e2⟩ := bind_some e
  have hlen : ds.length ≤ 1000 := by
    by_cases h : ds.length ≤ 1000
    · exact h
    · rw [if_neg h] at e2; cases e2
  rw [if_pos hlen] at e2
  refine hi ρ σ R H ds _ en sm e1 fun J R1 H1 x1 ok => ?_
  intro A hA
  have hAR : R1 A = none := x1.s.free hA
  refine ⟨fun i m H => m = ds.length - i ∧ i ≤ ds.length ∧ ∃ (R2 : Hp) (acc : List V) (done rest : List D), Same R1 R2 ∧ Same R2 H ∧ Same H1 H ∧ (∀ b, R2 b ≠ none → R1 b ≠ none ∨ H1 b = none) ∧ R2 A = none ∧ H A = some (.lst acc) ∧ RepL K mg R2 done acc ∧
    dComp q tt te (wipeR ρ vs) (ds.drop i) = some rest ∧ done ++ rest = l, ⟨ds.length, by simp, Nat.zero_le _, R1, [], [], l, .refl _, fun b o eb => ?_, fun b o eb => ?_, fun b h => .inl h, hAR, upd_same, rfl, e2, rfl⟩, ?_⟩
  · rw [upd_ne (ne_of_none (x1.s _ _ eb) hA)]; exact x1.s _ _ eb
  · rw [upd_ne (ne_of_none eb hA)]; exact eb
  rintro i m H2 ⟨rfl, hi2, R2, acc, done, rest, s1, s2, s3, f, nA, hAcc, ra, ec, el⟩
  by_cases hlt : i < ds.length
  · have ed : ds.drop i = ds[i] :: ds.drop (i + 1) := List.drop_eq_getElem_cons hlt
    rw [ed] at ec
    have ec : (asg q ds[i] (wipeR ρ vs)).bind (fun ρ1 => (tt ρ1).bind fun b => if b = true then (te ρ1).bind fun y => (dComp q tt te (wipeR ρ vs) (ds.drop (i + 1))).map fun r => y :: r else dComp q tt te (wipeR ρ vs) (ds.drop (i + 1))) = some rest := ec
    obtain ⟨ρ1, e3, ec⟩ := bind_some ec
    obtain ⟨b, e4, ec⟩ := bind_some ec
    refine .inr ⟨ok.go R2 H2 i s1 s2 hlt, fun H => i + 1 ≤ ds.length ∧ ∃ (R2 : Hp) (acc : List V) (done rest : List D), Same R1 R2 ∧ Same R2 H ∧ Same H1 H ∧ (∀ b, R2 b ≠ none → R1 b ≠ none ∨ H1 b = none) ∧ R2 A = none ∧ H A = some (.lst acc) ∧ RepL K mg R2 done acc ∧
      dComp q tt te (wipeR ρ vs) (ds.drop (i + 1)) = some rest ∧ done ++ rest = l, fun H' ⟨h1, h2⟩ => ⟨ds.length - (i + 1), by omega, rfl, h1, h2⟩, fun x H' y => ?_⟩
    obtain ⟨d, R3, e5, x3, r3⟩ := ok.yld R2 H2 i x H' s1 s2 y hlt
    rw [List.getElem?_eq_getElem hlt] at e5
    cases e5
    have en3 : Env K mg R3 (wipeR ρ vs) (L2.wipe σ vs) := Env.wipe (en.mono (x1.r.trans (s1.trans x3.r))) vs
    refine ⟨wipeR ρ vs, ρ1, R3, ds[i], en3, x3.s, r3, e3, fun σ2 en4 l1 l2 f2 => ?_⟩
    have hA3 : R3 A = none := by
      cases z : R3 A with
      | none => rfl
      | some o =>
        rcases x3.f A (by rw [z]; exact fun z => nomatch z) with z' | z'
        · exact absurd nA z'
        · rw [hAcc] at z'; cases z'
    have f3 : ∀ b, R3 b ≠ none → R1 b ≠ none ∨ H1 b = none := fun b hb => by
      rcases x3.f b hb with z | z
      · exact f b z
      · exact .inr (s3.free z)
    refine ⟨wipe_eq (by rw [l1, L2.wipe_length]) fun j hj => ?_, ?_⟩
    · exact f2 j fun hm => hj (hq j hm)
    refine ⟨ρ1, R3, b, en4, x3.s, e4, fun R4 H4 x4 => ?_⟩
    have hA4 : R4 A = none := by
      cases z : R4 A with
      | none => rfl
      | some o =>
        rcases x4.f A (by rw [z]; exact fun z => nomatch z) with z' | z'
        · exact absurd hA3 z'
        · rw [x3.h _ _ hAcc] at z'; cases z'
    have f4 : ∀ b, R4 b ≠ none → R1 b ≠ none ∨ H1 b = none := fun b hb => by
      rcases x4.f b hb with z | z
      · exact f3 b z
      · exact .inr ((s3.trans x3.h).free z)
    cases b with
    | false =>
      rw [if_neg Bool.false_ne_true] at ec
      refine iteF ⟨hlt, R4, acc, done, rest, s1.trans (x3.r.trans x4.r), x4.s, s3.trans (x3.h.trans x4.h), f4, hA4, x4.h _ _ (x3.h _ _ hAcc), RepL.mono (x3.r.trans x4.r) _ _ ra, ec, el⟩
    | true =>
      rw [if_pos rfl] at ec
      obtain ⟨y', e6, ec⟩ := bind_some ec
      obtain ⟨r, e7, ec⟩ := map_some ec
      subst ec
      refine iteT ⟨ρ1, R4, y', en4.mono x4.r, x4.s, e6, fun v R5 H5 x5 r5 => ?_⟩
      have hA5 : R5 A = none := by
        cases z : R5 A with
        | none => rfl
        | some o =>
          rcases x5.f A (by rw [z]; exact fun z => nomatch z) with z' | z'
          · exact absurd hA4 z'
          · rw [x4.h _ _ (x3.h _ _ hAcc)] at z'; cases z'
      have tot : acc.length ≤ ds.length := by
        have h1 := dComp_len e2
        have h2 := RepL.length ra
        have h3 : (done ++ y' :: r).length = l.length := by rw [el]
        rw [List.length_append] at h3
        omega
      refine ⟨acc, x5.h _ _ (x4.h _ _ (x3.h _ _ hAcc)), small1000 (by omega), hlt, R5, acc ++ [v], done ++ [y'], r, s1.trans (x3.r.trans (x4.r.trans x5.r)), fun b o eb => ?_, fun b o eb => ?_, fun b hb => ?_, hA5, upd_same, ?_, e7, ?_⟩
      · rw [upd_ne (ne_of_none eb hA5)]; exact x5.s _ _ eb
      · rw [upd_ne (ne_of_none eb hA)]; exact x5.h _ _ (x4.h _ _ (x3.h _ _ (s3 _ _ eb)))
      · rcases x5.f b hb with z | z
        · exact f4 b z
        · exact .inr ((s3.trans (x3.h.trans x4.h)).free z)
      · exact RepL.append (RepL.mono (x3.r.trans (x4.r.trans x5.r)) _ _ ra) ⟨v, [], rfl, r5, rfl⟩
      · rw [← el, List.append_assoc]; rfl
  · have ei : ds.drop i = [] := List.drop_eq_nil_of_le (by omega)
    rw [ei] at ec
    cases ec
    rw [List.append_nil] at el
    subst el
    refine .inl ⟨ok.stop R2 H2 i s1 s2 (by omega), k A acc R2 H2 ⟨x1.r.trans s1, x1.h.trans s3, s2, fun b hb => ?_⟩ nA (x1.h.free hA) hAcc ra⟩
    rcases f b hb with z | z
    · exact x1.f b z
    · exact .inr (x1.h.free z)
variable {elt tg iter : Expr} {ifs : List Expr} {scope : Scope} {own : List (PySem.Str × Nat)} {gi : GL} {q : Pat} {tt : GB} {te : G}
theorem evf_lc (hc : X.calm = true) (hN : X.N.Nodup) (hi : IV X tg iter gi) (ok : BlkOk X.N X.env.scope scope own) (hg : ∀ (s : Shared) (H : Hp) (C : Addr) (cl : List (PySem.Str × Addr)) (fp : List Addr), TGC (X.blk s H scope (compEnvC scope cl C X.env) fp) tg q)
    (ht : ∀ (s : Shared) (H : Hp) (C : Addr) (cl : List (PySem.Str × Addr)) (fp : List Addr), TsV (X.blk s H scope (compEnvC scope cl C X.env) fp) ifs tt) (he : ∀ (s : Shared) (H : Hp) (C : Addr) (cl : List (PySem.Str × Addr)) (fp : List Addr), EV (X.blk s H scope (compEnvC scope cl C X.env) fp) elt te)
    (hq : ∀ j ∈ pvars q, j ∈ own.map (·.2) := by decide) (hs : ∀ x, foldedSetIterable iter X.env x = pure x := by intro _; rfl) : EVF X (.ListComp elt [⟨tg, iter, ifs, 0⟩] scope pos) (gLc gi q (own.map (·.2)) tt te) := by
  obtain ⟨wi, p, hw⟩ := hi.ex
  exact ⟨_, pe_lc (g := tC X.K X.mg q) (tt := tTs X.K X.mg tt) (te := tE X.K X.mg te) hc hN p ok (fun s H C cl fp => (hg s H C cl fp).pg) (fun s H C cl fp => (ht s H C cl fp).pt) (fun s H C cl fp => (he s H C cl fp).pe) hs, fun ρ σ R H l Q en sm e k => lc_read hq hw ρ σ R H l Q en sm e k⟩

/-! ### statements -/
inductive Out where
  | nx (ρ : Rho) | rt (d : D) (ρ : Rho) | bk (ρ : Rho) | ct (ρ : Rho)
abbrev GS := Rho → Option Out
def Post (K : PySem.W.Frag) (mg : PySem.Str → Option Value) (π : Pi) (B R0 : Hp) (o : Out) (D : Ends) : Prop := match o with
  | .nx ρ => ∀ σ R H, StR K mg π B R0 R H ρ σ → D.nx σ H
  | .bk ρ => ∀ σ R H, StR K mg π B R0 R H ρ σ → D.bk σ H
  | .ct ρ => ∀ σ R H, StR K mg π B R0 R H ρ σ → D.ct σ H
  | .rt d ρ => ∀ v σ R H, StR K mg π B R0 R H ρ σ → Rep K mg R d v → D.rt v H
structure SV (X : Cx) (st : Stmt) (g : GS) : Prop where
  ex : ∃ t, PS X st t ∧ ∀ (π : Pi) (B R0 R H : Hp) (ρ : Rho) (σ : L2.St) (o : Out) (D : Ends), StR X.K X.mg π B R0 R H ρ σ → g ρ = some o → Post X.K X.mg π B R0 o D → t D σ H
structure SVs (X : Cx) (sts : List Stmt) (g : GS) : Prop where
  ex : ∃ t, PSs X sts t ∧ ∀ (π : Pi) (B R0 R H : Hp) (ρ : Rho) (σ : L2.St) (o : Out) (D : Ends), StR X.K X.mg π B R0 R H ρ σ → g ρ = some o → Post X.K X.mg π B R0 o D → t D σ H

def sNil : GS := fun ρ => some (.nx ρ)
def sSeq (a b : GS) : GS := fun ρ => (a ρ).bind fun o => match o with
  | .nx ρ1 => b ρ1
  | o => some o
theorem svs_nil : SVs X [] sNil := ⟨_, pss_nil, fun π B R0 R H ρ σ o D st e k => by
  cases e
  exact k σ R H st⟩
theorem svs_one {s : Stmt} {g : GS} (h : SV X s g) : SVs X [s] g := by
  obtain ⟨t, p, q⟩ := h.ex
  exact ⟨_, pss_one p, q⟩
theorem svs_cons {s : Stmt} {ss : List Stmt} {g g' : GS} (h : SV X s g) (h' : SVs X ss g') : SVs X (s :: ss) (sSeq g g') := by
  obtain ⟨t, p, q⟩ := h.ex
  obtain ⟨t', p', q'⟩ := h'.ex
  refine ⟨_, pss_cons p p', fun π B R0 R H ρ σ o D st e k => ?_⟩
  obtain ⟨o1, e1, e2⟩ := bind_some e
  refine q π B R0 R H ρ σ o1 _ st e1 ?_
  cases o1 with
  | nx ρ1 => exact fun σ1 R1 H1 st1 => q' π B R0 R1 H1 ρ1 σ1 o D st1 e2 k
  | rt d ρ1 => cases e2; exact k
  | bk ρ1 => cases e2; exact k
  | ct ρ1 => cases e2; exact k
def sPass : GS := fun ρ => some (.nx ρ)
theorem sv_pass : SV X (.Pass pos) sPass := ⟨_, ps_pass, fun π B R0 R H ρ σ o D st e k => by
  cases e
  exact k σ R H st⟩
def sBreak : GS := fun ρ => some (.bk ρ)
theorem sv_break : SV X (.Break pos) sBreak := ⟨_, ps_break, fun π B R0 R H ρ σ o D st e k => by
  cases e
  exact k σ R H st⟩

/-! #### nothing of a list of one's own in the value -/
mutual
def lf : D → Bool
  | .non => true
  | .bl _ => true
  | .int _ => true
  | .str _ => true
  | .tup l => lfL l
  | .lst _ => false
  | .frz _ => false
  | .dic _ _ => false
  | .obj _ _ l => lfL l
  | .exc _ _ l => lfL l
  | .exb _ => true
def lfL : List D → Bool
  | [] => true
  | d :: ds => lf d && lfL ds
end
mutual
theorem Rep.lf {K : PySem.W.Frag} {mg : PySem.Str → Option Value} {R R' : Hp} (hh : ∀ b o, R b = some o → (∀ l, o ≠ .lst l) → R' b = some o) : ∀ (d : D) (v : V), DL.lf d = true → Rep K mg R d v → Rep K mg R' d v
  | .non, v, _, h => h
  | .bl _, v, _, h => h
  | .int _, v, _, h => h
  | .str _, v, _, h => h
  | .tup ds, v, e, h => by
    obtain ⟨a, vs, e1, h1, h2⟩ := h
    refine ⟨a, vs, e1, ?_, RepL.lf hh ds vs (by simpa [DL.lf] using e) h2⟩
    rcases h1 with (h | ⟨o, h⟩) | h
    · exact .inl (.inl (hh _ _ h fun l z => by cases z))
    · exact .inl (.inr ⟨o, hh _ _ h fun l z => by cases z⟩)
    · exact .inr h
  | .lst _, v, e, h => by simp [DL.lf] at e
  | .frz _, v, e, h => by simp [DL.lf] at e
  | .dic _ _, v, e, h => by simp [DL.lf] at e
  | .obj c fs ds, v, e, h => by
    obtain ⟨a, C, dx, vs, e1, h0, h1, h2, h3⟩ := h
    exact ⟨a, C, dx, vs, e1, h0, hh _ _ h1 (fun l z => by cases z), h2, RepL.lf hh ds vs (by simpa [DL.lf] using e) h3⟩
  | .exc c fs ds, v, e, h => by
    obtain ⟨a, C, dx, vs, e1, h0, h1, h1', h2, h3⟩ := h
    exact ⟨a, C, dx, vs, e1, h0, hh _ _ h1 (fun l z => by unfold exo at z; cases z), hh _ _ h1' (fun l z => by unfold exd at z; cases z), h2, RepL.lf hh ds vs (by simpa [DL.lf] using e) h3⟩
  | .exb c, v, e, h => by
    obtain ⟨a, C, e1, h0, h1⟩ := h
    exact ⟨a, C, e1, h0, hh _ _ h1 (fun l z => by unfold ExO at z; cases z)⟩
theorem RepL.lf {K : PySem.W.Frag} {mg : PySem.Str → Option Value} {R R' : Hp} (hh : ∀ b o, R b = some o → (∀ l, o ≠ .lst l) → R' b = some o) : ∀ (ds : List D) (vs : List V), lfL ds = true → RepL K mg R ds vs → RepL K mg R' ds vs
  | [], vs, _, h => h
  | d :: ds, vs, e, h => by
    obtain ⟨v, ws, e1, h1, h2⟩ := h
    have e : DL.lf d = true ∧ lfL ds = true := by simpa [lfL] using e
    exact ⟨v, ws, e1, Rep.lf hh d v e.1 h1, RepL.lf hh ds ws e.2 h2⟩
end
open Classical in
/-- out of the greater region (all lists of one's own told) back to a region without them -/
theorem StR.unpeek {K : PySem.W.Frag} {mg : PySem.Str → Option Value} {π : Pi} {B R0 R R1 R2 H H2 : Hp} {ρ : Rho} {σ : L2.St} (t : StR K mg π B R0 R H ρ σ) (s1 : Same R R1) (f1 : ∀ b, R1 b ≠ none → R b ≠ none ∨ ∃ (i : Nat) (c : Bool) (l : List D), ρ[i]? = some (S.own c l) ∧ σ[i]? = some (some (V.ref b)))
    (x : Ext R1 H R2 H2) : ∃ R3, StR K mg π B R0 R3 H2 ρ σ ∧ Same R R3 ∧ Same R3 R2 ∧ (∀ b o, R2 b = some o → (∀ l, o ≠ .lst l) → R3 b = some o) ∧ (∀ b, H b = none → R3 b = R2 b) := by
  have key : ∀ b, (∃ (i : Nat) (c : Bool) (l : List D), ρ[i]? = some (S.own c l) ∧ σ[i]? = some (some (V.ref b))) → R b = none ∧ B b = none ∧ ∃ vs, H b = some (.lst vs) := fun b ⟨i, c, l, h1, h2⟩ => by
    obtain ⟨q, vs, e1, e2, e3, e4, e5, e6⟩ := t.own i c l h1
    rw [h2] at e1
    cases e1
    exact ⟨e2, e3, vs, e4⟩
  let R3 : Hp := fun b => if (∃ (i : Nat) (c : Bool) (l : List D), ρ[i]? = some (S.own c l) ∧ σ[i]? = some (some (V.ref b))) then none else R2 b
  have a1 : Same R R3 := fun b o e => by
    show (if _ then none else R2 b) = _
    rw [if_neg]
    · exact x.r _ _ (s1 _ _ e)
    · intro z
      rw [(key b z).1] at e
      cases e
  have a2 : Same R3 R2 := fun b o e => by
    have e : (if _ then none else R2 b) = some o := e
    split at e
    · cases e
    · exact e
  have a3 : ∀ b, R3 b ≠ none → R b ≠ none ∨ H b = none := fun b hb => by
    have hb : (if _ then none else R2 b) ≠ none := hb
    split at hb
    · exact absurd rfl hb
    · rename_i hn
      rcases x.f b hb with z | z
      · rcases f1 b z with z | z
        · exact .inl z
        · exact absurd z hn
      · exact .inr z
  refine ⟨R3, t.ext ⟨a1, x.h, a2.trans x.s, a3⟩, a1, a2, fun b o e hl => ?_, fun b hb => ?_⟩
  · show (if _ then none else R2 b) = _
    rw [if_neg]
    · exact e
    · intro z
      obtain ⟨_, _, vs, hv⟩ := key b z
      have q := x.s _ _ e
      rw [x.h _ _ hv] at q
      exact hl vs (Option.some.inj q).symm
  · show (if _ then none else R2 b) = _
    rw [if_neg]
    intro z
    obtain ⟨_, _, vs, hv⟩ := key b z
    rw [hb] at hv
    cases hv

/-! #### assignments -/
variable {e : Expr} {ga : G} {gl : GL}
def sSet (i : Nat) (g : G) : GS := fun ρ => (g ρ).map fun d => .nx (ρ.set i (.sh d))
def sSetP (i : Nat) (g : G) : GS := fun ρ => (g (peek ρ)).bind fun d => if lf d then some (.nx (ρ.set i (.sh d))) else none
def sOwn (i : Nat) (g : GL) : GS := fun ρ => (g ρ).map fun l => .nx (ρ.set i (.own false l))
def sOwnP (i : Nat) (g : GL) : GS := fun ρ => (g (peek ρ)).bind fun l => if lfL l then some (.nx (ρ.set i (.own false l))) else none
theorem own_new {K : PySem.W.Frag} {mg : PySem.Str → Option Value} {π : Pi} {B R0 R H R' H' : Hp} {ρ : Rho} {σ : L2.St} {p : Addr} {vs : List V} {l : List D} (t : StR K mg π B R0 R H ρ σ) (t' : StR K mg π B R0 R' H' ρ σ) (i : Nat) (hR : R' p = none) (hH : H p = none) (hp : H' p = some (.lst vs)) (r : RepL K mg R' l vs) :
    StR K mg π B R0 R' H' (ρ.set i (.own false l)) (σ.set i (some (.ref p))) := by
  refine t'.setOwn (H0 := H) i hR (t.b.free hH) hp r fun j c m h1 h2 => ?_
  obtain ⟨q, ws, e1, e2, e3, e4, e5, e6⟩ := t.own j c m h1
  rw [h2] at e1
  cases e1
  rw [hH] at e4
  cases e4
theorem sv_set (i : Nat) {x : PySem.Str} {pos' : Pos} (hN : X.N.Nodup) (he : EV X e ga) (hi : X.N[i]? = some x := by rfl) (hx : Loc X.env.scope x := by first | exact Or.inl rfl | exact Or.inr rfl) (hs : swapsWith e (some (.Name x pos')) pos.line X.env = pure false := by rfl)
    (hf : X.fn x = true ∨ X.env.scope.names.lookup x = some .local := by first | exact .inl rfl | exact .inr rfl) : SV X (.Assign [.Name x pos'] e pos) (sSet i ga) := by
  obtain ⟨t, p, q⟩ := he.ex
  refine ⟨_, ps_set hN hi hx p hs hf, fun π B R0 R H ρ σ o D st e k => ?_⟩
  obtain ⟨d, e1, e2⟩ := map_some e
  subst e2
  exact q ρ σ R H d _ st.env st.s e1 fun v R1 H1 x1 r1 => k _ R1 H1 ((st.ext x1).setSh i r1)
theorem sv_setP (i : Nat) {x : PySem.Str} {pos' : Pos} (hN : X.N.Nodup) (he : EV X e ga) (hi : X.N[i]? = some x := by rfl) (hx : Loc X.env.scope x := by first | exact Or.inl rfl | exact Or.inr rfl) (hs : swapsWith e (some (.Name x pos')) pos.line X.env = pure false := by rfl)
    (hf : X.fn x = true ∨ X.env.scope.names.lookup x = some .local := by first | exact .inl rfl | exact .inr rfl) : SV X (.Assign [.Name x pos'] e pos) (sSetP i ga) := by
  obtain ⟨t, p, q⟩ := he.ex
  refine ⟨_, ps_set hN hi hx p hs hf, fun π B R0 R H ρ σ o D st e k => ?_⟩
  obtain ⟨d, e1, e2⟩ := bind_some e
  obtain ⟨hl, rfl⟩ := ite_some (show (if lf d = true then some (Out.nx (ρ.set i (.sh d))) else none) = some o from e2)
  obtain ⟨R1, s1, st1, f1⟩ := st.peek
  refine q (peek ρ) σ R1 H d _ st1.env st1.s e1 fun v R2 H2 x2 r2 => ?_
  obtain ⟨R3, st3, a1, a2, a3, a4⟩ := st.unpeek s1 f1 x2
  exact k _ R3 H2 (st3.setSh i (Rep.lf a3 d v hl r2))
theorem sv_own (i : Nat) {x : PySem.Str} {pos' : Pos} (hN : X.N.Nodup) (he : EVF X e gl) (hi : X.N[i]? = some x := by rfl) (hx : Loc X.env.scope x := by first | exact Or.inl rfl | exact Or.inr rfl) (hs : swapsWith e (some (.Name x pos')) pos.line X.env = pure false := by rfl)
    (hf : X.fn x = true ∨ X.env.scope.names.lookup x = some .local := by first | exact .inl rfl | exact .inr rfl) : SV X (.Assign [.Name x pos'] e pos) (sOwn i gl) := by
  obtain ⟨t, p, q⟩ := he.ex
  refine ⟨_, ps_set hN hi hx p hs hf, fun π B R0 R H ρ σ o D st e k => ?_⟩
  obtain ⟨l, e1, e2⟩ := map_some e
  subst e2
  exact q ρ σ R H l _ st.env st.s e1 fun p vs R1 H1 x1 hR hH hp r1 => k _ R1 H1 (own_new st (st.ext x1) i hR hH hp r1)
theorem sv_ownP (i : Nat) {x : PySem.Str} {pos' : Pos} (hN : X.N.Nodup) (he : EVF X e gl) (hi : X.N[i]? = some x := by rfl) (hx : Loc X.env.scope x := by first | exact Or.inl rfl | exact Or.inr rfl) (hs : swapsWith e (some (.Name x pos')) pos.line X.env = pure false := by rfl)
    (hf : X.fn x = true ∨ X.env.scope.names.lookup x = some .local := by first | exact .inl rfl | exact .inr rfl) : SV X (.Assign [.Name x pos'] e pos) (sOwnP i gl) := by
  obtain ⟨t, p, q⟩ := he.ex
  refine ⟨_, ps_set hN hi hx p hs hf, fun π B R0 R H ρ σ o D st e k => ?_⟩
  obtain ⟨l, e1, e2⟩ := bind_some e
  obtain ⟨hl, rfl⟩ := ite_some (show (if lfL l = true then some (Out.nx (ρ.set i (.own false l))) else none) = some o from e2)
  obtain ⟨R1, s1, st1, f1⟩ := st.peek
  refine q (peek ρ) σ R1 H l _ st1.env st1.s e1 fun p vs R2 H2 x2 hR hH hp r2 => ?_
  obtain ⟨R3, st3, a1, a2, a3, a4⟩ := st.unpeek s1 f1 x2
  exact k _ R3 H2 (own_new st st3 i (by rw [a4 p hH]; exact hR) hH hp (RepL.lf a3 l vs hl r2))
section
variable {y : PySem.Str} {py spos : Pos}
/-- x = [..] on one line, x a local -/
theorem sv_setLc (hc : X.calm = true) (hN : X.N.Nodup) (i : Nat) (hi : IV X tg iter gi) (ok : BlkOk X.N X.env.scope scope own) (hg : ∀ (s : Shared) (H : Hp) (C : Addr) (cl : List (PySem.Str × Addr)) (fp : List Addr), TGC (X.blk s H scope (compEnvC scope cl C X.env) fp) tg q)
    (ht : ∀ (s : Shared) (H : Hp) (C : Addr) (cl : List (PySem.Str × Addr)) (fp : List Addr), TsV (X.blk s H scope (compEnvC scope cl C X.env) fp) ifs tt) (he : ∀ (s : Shared) (H : Hp) (C : Addr) (cl : List (PySem.Str × Addr)) (fp : List Addr), EV (X.blk s H scope (compEnvC scope cl C X.env) fp) elt te)
    (hsw : swapsWith (.ListComp elt [⟨tg, iter, ifs, 0⟩] scope pos) (some (.Name y py)) spos.line X.env = pure true) (hy : X.N[i]? = some y := by rfl) (hyl : X.env.scope.names.lookup y = some .local := by rfl) (hq : ∀ j ∈ pvars q, j ∈ own.map (·.2) := by decide) (hs : ∀ x, foldedSetIterable iter X.env x = pure x := by intro _; rfl) :
    SV X (.Assign [.Name y py] (.ListComp elt [⟨tg, iter, ifs, 0⟩] scope pos) spos) (sSet i (gLst (gLc gi q (own.map (·.2)) tt te))) := by
  obtain ⟨wi, p, hw⟩ := hi.ex
  refine ⟨_, ps_setLc (g := tC X.K X.mg q) (tt := tTs X.K X.mg tt) (te := tE X.K X.mg te) hc hN hy hyl hsw p ok (fun s H C cl fp => (hg s H C cl fp).pg) (fun s H C cl fp => (ht s H C cl fp).pt) (fun s H C cl fp => (he s H C cl fp).pe) hs, fun π B R0 R H ρ σ o D st e k => ?_⟩
  obtain ⟨d, e1, e2⟩ := map_some e
  obtain ⟨l, e3, e4⟩ := map_some e1
  subst e2 e4
  refine lc_read hq hw ρ σ R H l _ st.env st.s e3 fun p vs R1 H1 x1 hR hH hp r1 => ?_
  have x2 : Ext R H (upd R1 p (.lst vs)) H1 := ⟨fun b o eb => by rw [upd_ne (ne_of_none (x1.r _ _ eb) hR)]; exact x1.r _ _ eb, x1.h, fun b o eb => by
    by_cases hb : b = p
    · subst hb; rw [upd_same] at eb; rw [hp, eb]
    · rw [upd_ne hb] at eb; exact x1.s _ _ eb, fun b hb => by
    by_cases e : b = p
    · subst e; exact .inr hH
    · rw [upd_ne e] at hb; exact x1.f b hb⟩
  exact k _ _ H1 ((st.ext x2).setSh i (lst_new hR r1))
theorem sv_setLcP (hc : X.calm = true) (hN : X.N.Nodup) (i : Nat) (hi : IV X tg iter gi) (ok : BlkOk X.N X.env.scope scope own) (hg : ∀ (s : Shared) (H : Hp) (C : Addr) (cl : List (PySem.Str × Addr)) (fp : List Addr), TGC (X.blk s H scope (compEnvC scope cl C X.env) fp) tg q)
    (ht : ∀ (s : Shared) (H : Hp) (C : Addr) (cl : List (PySem.Str × Addr)) (fp : List Addr), TsV (X.blk s H scope (compEnvC scope cl C X.env) fp) ifs tt) (he : ∀ (s : Shared) (H : Hp) (C : Addr) (cl : List (PySem.Str × Addr)) (fp : List Addr), EV (X.blk s H scope (compEnvC scope cl C X.env) fp) elt te)
    (hsw : swapsWith (.ListComp elt [⟨tg, iter, ifs, 0⟩] scope pos) (some (.Name y py)) spos.line X.env = pure true) (hy : X.N[i]? = some y := by rfl) (hyl : X.env.scope.names.lookup y = some .local := by rfl) (hq : ∀ j ∈ pvars q, j ∈ own.map (·.2) := by decide) (hs : ∀ x, foldedSetIterable iter X.env x = pure x := by intro _; rfl) :
    SV X (.Assign [.Name y py] (.ListComp elt [⟨tg, iter, ifs, 0⟩] scope pos) spos) (sOwnP i (gLc gi q (own.map (·.2)) tt te)) := by
  obtain ⟨wi, p, hw⟩ := hi.ex
  refine ⟨_, ps_setLc (g := tC X.K X.mg q) (tt := tTs X.K X.mg tt) (te := tE X.K X.mg te) hc hN hy hyl hsw p ok (fun s H C cl fp => (hg s H C cl fp).pg) (fun s H C cl fp => (ht s H C cl fp).pt) (fun s H C cl fp => (he s H C cl fp).pe) hs, fun π B R0 R H ρ σ o D st e k => ?_⟩
  obtain ⟨l, e1, e2⟩ := bind_some e
  obtain ⟨hl, rfl⟩ := ite_some (show (if lfL l = true then some (Out.nx (ρ.set i (.own false l))) else none) = some o from e2)
  obtain ⟨R1, s1, st1, f1⟩ := st.peek
  refine lc_read hq hw (peek ρ) σ R1 H l _ st1.env st1.s e1 fun p vs R2 H2 x2 hR hH hp r2 => ?_
  obtain ⟨R3, st3, a1, a2, a3, a4⟩ := st.unpeek s1 f1 x2
  exact k _ R3 H2 (own_new st st3 i (by rw [a4 p hH]; exact hR) hH hp (RepL.lf a3 l vs hl r2))
end
def sTg (q : Pat) (g : G) : GS := fun ρ => (g ρ).bind fun d => (asg q d ρ).map .nx
def sTgP (q : Pat) (g : G) : GS := fun ρ => (g (peek ρ)).bind fun d => if lf d then (asg q d ρ).map .nx else none
theorem sv_tg (he : EV X e ga) (hg : TGV X tg q) (hs : swapsWithSole [tg] e pos.line X.env = pure false := by rfl) (hw : swappedStores [tg] e X.env = pure none := by rfl) (h1 : (assignEach [tg] X.env).map (·.2) = [assign tg X.env] := by rfl) : SV X (.Assign [tg] e pos) (sTg q ga) := by
  obtain ⟨t, p, qq⟩ := he.ex
  obtain ⟨g, pg, qg⟩ := hg.ex
  refine ⟨_, ps_asg p pg hs hw h1, fun π B R0 R H ρ σ o D st e k => ?_⟩
  obtain ⟨d, e1, e2⟩ := bind_some e
  obtain ⟨ρ1, e3, e4⟩ := map_some e2
  subst e4
  exact qq ρ σ R H d _ st.env st.s e1 fun v R1 H1 x1 r1 => qg π B R0 R1 H1 ρ ρ1 σ d v _ (st.ext x1) r1 e3 fun σ' R' H' st' _ => k σ' R' H' st'
theorem sv_tgP (he : EV X e ga) (hg : TGV X tg q) (hs : swapsWithSole [tg] e pos.line X.env = pure false := by rfl) (hw : swappedStores [tg] e X.env = pure none := by rfl) (h1 : (assignEach [tg] X.env).map (·.2) = [assign tg X.env] := by rfl) : SV X (.Assign [tg] e pos) (sTgP q ga) := by
  obtain ⟨t, p, qq⟩ := he.ex
  obtain ⟨g, pg, qg⟩ := hg.ex
  refine ⟨_, ps_asg p pg hs hw h1, fun π B R0 R H ρ σ o D st e k => ?_⟩
  obtain ⟨d, e1, e2⟩ := bind_some e
  by_cases hl : lf d = true
  · rw [if_pos hl] at e2
    obtain ⟨ρ1, e3, e4⟩ := map_some e2
    subst e4
    obtain ⟨R1, s1, st1, f1⟩ := st.peek
    refine qq (peek ρ) σ R1 H d _ st1.env st1.s e1 fun v R2 H2 x2 r2 => ?_
    obtain ⟨R3, st3, a1, a2, a3, a4⟩ := st.unpeek s1 f1 x2
    exact qg π B R0 R3 H2 ρ ρ1 σ d v _ st3 (Rep.lf a3 d v hl r2) e3 fun σ' R' H' st' _ => k σ' R' H' st'
  · rw [if_neg hl] at e2
    cases e2
/-- x, y = e1, e2 with two local names -/
def sPar (i j : Nat) (g : GL) : GS := fun ρ => (g (peek ρ)).bind fun l => match l with
  | [a, b] => if lf a && lf b then some (.nx ((ρ.set i (.sh a)).set j (.sh b))) else none
  | _ => none
theorem sv_par (i j : Nat) {x y : PySem.Str} {a b : Expr} {px py pt pt2 : Pos} {kt k2 : Nat} (hc : X.calm = true) (hN : X.N.Nodup) (ha : EVL X [a, b] gl)
    (hw : swappedStores [.Tuple [.Name x px, .Name y py] kt pt] (.Tuple [a, b] k2 pt2) X.env = pure (some [x, y])) (hi : X.N[i]? = some x := by rfl) (hj : X.N[j]? = some y := by rfl) (hij : i ≠ j := by decide)
    (hx : X.env.scope.names.lookup x = some .local := by rfl) (hy : X.env.scope.names.lookup y = some .local := by rfl)
    (hs : swapsWithSole [.Tuple [.Name x px, .Name y py] kt pt] (.Tuple [a, b] k2 pt2) pos.line X.env = pure false := by rfl) :
    SV X (.Assign [.Tuple [.Name x px, .Name y py] kt pt] (.Tuple [a, b] k2 pt2) pos) (sPar i j gl) := by
  obtain ⟨t, p, qq⟩ := ha.ex
  refine ⟨_, ps_par hc hN hi hj hij hx hy p hw hs, fun π B R0 R H ρ σ o D st e k => ?_⟩
  obtain ⟨l, e1, e2⟩ := bind_some e
  match l, e2 with
  | [a', b'], e2 =>
    obtain ⟨hl, rfl⟩ := ite_some (show (if (lf a' && lf b') = true then some (Out.nx ((ρ.set i (.sh a')).set j (.sh b'))) else none) = some o from e2)
    rw [Bool.and_eq_true] at hl
    obtain ⟨R1, s1, st1, f1⟩ := st.peek
    refine qq (peek ρ) σ R1 H _ _ st1.env st1.s e1 fun vs R2 H2 x2 r2 => ?_
    obtain ⟨R3, st3, a1, a2, a3, a4⟩ := st.unpeek s1 f1 x2
    obtain ⟨v, w, e3, h1, h2⟩ := repL2 r2
    exact ⟨v, w, e3, k _ R3 H2 ((st3.setSh i (Rep.lf a3 _ v hl.1 h1)).setSh j (Rep.lf a3 _ w hl.2 h2))⟩
/-- .. where no list of one's own is read -/
def sPar' (i j : Nat) (g : GL) : GS := fun ρ => (g ρ).bind fun l => match l with
  | [a, b] => some (.nx ((ρ.set i (.sh a)).set j (.sh b)))
  | _ => none
theorem sv_par' (i j : Nat) {x y : PySem.Str} {a b : Expr} {px py pt pt2 : Pos} {kt k2 : Nat} (hc : X.calm = true) (hN : X.N.Nodup) (ha : EVL X [a, b] gl)
    (hw : swappedStores [.Tuple [.Name x px, .Name y py] kt pt] (.Tuple [a, b] k2 pt2) X.env = pure (some [x, y])) (hi : X.N[i]? = some x := by rfl) (hj : X.N[j]? = some y := by rfl) (hij : i ≠ j := by decide)
    (hx : X.env.scope.names.lookup x = some .local := by rfl) (hy : X.env.scope.names.lookup y = some .local := by rfl)
    (hs : swapsWithSole [.Tuple [.Name x px, .Name y py] kt pt] (.Tuple [a, b] k2 pt2) pos.line X.env = pure false := by rfl) :
    SV X (.Assign [.Tuple [.Name x px, .Name y py] kt pt] (.Tuple [a, b] k2 pt2) pos) (sPar' i j gl) := by
  obtain ⟨t, p, qq⟩ := ha.ex
  refine ⟨_, ps_par hc hN hi hj hij hx hy p hw hs, fun π B R0 R H ρ σ o D st e k => ?_⟩
  obtain ⟨l, e1, e2⟩ := bind_some e
  match l, e2 with
  | [a', b'], e2 =>
    cases e2
    refine qq ρ σ R H _ _ st.env st.s e1 fun vs R2 H2 x2 r2 => ?_
    obtain ⟨v, w, e3, h1, h2⟩ := repL2 r2
    exact ⟨v, w, e3, k _ R2 H2 (((st.ext x2).setSh i h1).setSh j h2)⟩
/-- x op= e (ints) -/
def sAug (i : Nat) (f : D → D → Option D) (g : G) : GS := fun ρ => (gV i ρ).bind fun x => (g (peek ρ)).bind fun y => (f x y).bind fun z => match z with
  | .int n => some (.nx (ρ.set i (.sh (.int n))))
  | _ => none
/-- if -/
def sIf (t : GB) (a b : GS) : GS := fun ρ => (t (peek ρ)).bind fun k => if k = true then a ρ else b ρ
theorem sv_if {c : Expr} {a b : List Stmt} {gt : GB} {g g' : GS} (h : TV X c gt) (ha : SVs X a g) (hb : SVs X b g') : SV X (.If c a b pos) (sIf gt g g') := by
  obtain ⟨t, p, qq⟩ := h.ex
  obtain ⟨ta, pa, qa⟩ := ha.ex
  obtain ⟨tb, pb, qb⟩ := hb.ex
  refine ⟨_, ps_if p pa pb, fun π B R0 R H ρ σ o D st e k => ?_⟩
  obtain ⟨b, e1, e2⟩ := bind_some e
  obtain ⟨R1, s1, st1, f1⟩ := st.peek
  refine qq (peek ρ) σ R1 H b _ st1.env st1.s e1 fun R2 H2 x2 => ?_
  obtain ⟨R3, st3, a1, a2, a3, a4⟩ := st.unpeek s1 f1 x2
  cases b with
  | true => exact iteT (qa π B R0 R3 H2 ρ σ o D st3 e2 k)
  | false => exact iteF (qb π B R0 R3 H2 ρ σ o D st3 e2 k)
/-- return e -/
def sRet (g : G) : GS := fun ρ => (g ρ).map fun d => .rt d ρ
def sRetP (g : G) : GS := fun ρ => (g (peek ρ)).map fun d => .rt d (peek ρ)
def sRetL (g : G) : GS := fun ρ => (g (peek ρ)).bind fun d => if lf d then some (.rt d ρ) else none
theorem sv_ret (he : EV X e ga) : SV X (.Return (some e) pos) (sRet ga) := by
  obtain ⟨t, p, q⟩ := he.ex
  refine ⟨_, ps_ret p, fun π B R0 R H ρ σ o D st e k => ?_⟩
  obtain ⟨d, e1, e2⟩ := map_some e
  subst e2
  exact q ρ σ R H d _ st.env st.s e1 fun v R1 H1 x1 r1 => k v σ R1 H1 (st.ext x1) r1
theorem sv_retP (he : EV X e ga) : SV X (.Return (some e) pos) (sRetP ga) := by
  obtain ⟨t, p, q⟩ := he.ex
  refine ⟨_, ps_ret p, fun π B R0 R H ρ σ o D st e k => ?_⟩
  obtain ⟨d, e1, e2⟩ := map_some e
  subst e2
  obtain ⟨R1, s1, st1, f1⟩ := st.peek
  exact q (peek ρ) σ R1 H d _ st1.env st1.s e1 fun v R2 H2 x2 r2 => k v σ R2 H2 (st1.ext x2) r2
theorem sv_retL (he : EV X e ga) : SV X (.Return (some e) pos) (sRetL ga) := by
  obtain ⟨t, p, q⟩ := he.ex
  refine ⟨_, ps_ret p, fun π B R0 R H ρ σ o D st e k => ?_⟩
  obtain ⟨d, e1, e2⟩ := bind_some e
  obtain ⟨hl, rfl⟩ := ite_some (show (if lf d = true then some (Out.rt d ρ) else none) = some o from e2)
  obtain ⟨R1, s1, st1, f1⟩ := st.peek
  refine q (peek ρ) σ R1 H d _ st1.env st1.s e1 fun v R2 H2 x2 r2 => ?_
  obtain ⟨R3, st3, a1, a2, a3, a4⟩ := st.unpeek s1 f1 x2
  exact k v σ R3 H2 st3 (Rep.lf a3 d v hl r2)
/-- while -/
def dWh (c : GB) (b : GS) : Nat → GS
  | 0, _ => none
  | m + 1, ρ => (c (peek ρ)).bind fun k => if k = true then (b ρ).bind fun o => match o with
    | .nx ρ1 => dWh c b m ρ1
    | .ct ρ1 => dWh c b m ρ1
    | .bk ρ1 => some (.nx ρ1)
    | .rt d ρ1 => some (.rt d ρ1)
    else some (.nx ρ)
theorem sv_while (m : Nat) {c : Expr} {body : List Stmt} {gt : GB} {g : GS} (hp : PassesOwn (model X.prog X.w) X.A X.env X.xe) (hc : TV X c gt) (hb : SVs X body g) : SV X (.While c body [] pos) (dWh gt g m) := by
  obtain ⟨t, p, q⟩ := hc.ex
  obtain ⟨tb, pb, qb⟩ := hb.ex
  refine ⟨_, ps_while hp p pb, fun π B R0 R H ρ σ o D st e k => ?_⟩
  refine ⟨fun n σ H => ∃ R ρ, StR X.K X.mg π B R0 R H ρ σ ∧ dWh gt g n ρ = some o, ⟨m, R, ρ, st, e⟩, ?_⟩
  rintro n σ1 H1 ⟨R1, ρ1, st1, e1⟩
  cases n with
  | zero => cases e1
  | succ n =>
    have e1 : ((gt (peek ρ1)).bind fun k => if k = true then (g ρ1).bind fun o => match o with
      | .nx ρ1 => dWh gt g n ρ1
      | .ct ρ1 => dWh gt g n ρ1
      | .bk ρ1 => some (.nx ρ1)
      | .rt d ρ1 => some (.rt d ρ1)
      else some (.nx ρ1)) = some o := e1
    obtain ⟨b, e2, e3⟩ := bind_some e1
    obtain ⟨R2, s2, st2, f2⟩ := st1.peek
    refine q (peek ρ1) σ1 R2 H1 b _ st2.env st2.s e2 fun R3 H3 x3 => ?_
    obtain ⟨R4, st4, _⟩ := st1.unpeek s2 f2 x3
    cases b with
    | false =>
      rw [if_neg Bool.false_ne_true] at e3
      cases e3
      exact iteF (k σ1 R4 H3 st4)
    | true =>
      rw [if_pos rfl] at e3
      obtain ⟨o1, e4, e5⟩ := bind_some e3
      refine iteT ⟨fun σ H => ∃ R ρ, StR X.K X.mg π B R0 R H ρ σ ∧ dWh gt g n ρ = some o, fun σ' H' ⟨R, ρ, h1, h2⟩ => ⟨n, Nat.lt_succ_self n, R, ρ, h1, h2⟩, ?_⟩
      refine qb π B R0 R4 H3 ρ1 σ1 o1 _ st4 e4 ?_
      cases o1 with
      | nx ρ2 => exact fun σ2 R5 H5 st5 => ⟨R5, ρ2, st5, e5⟩
      | ct ρ2 => exact fun σ2 R5 H5 st5 => ⟨R5, ρ2, st5, e5⟩
      | bk ρ2 => cases e5; exact k
      | rt d ρ2 => cases e5; exact k
/-- for -/
def dFor (q : Pat) (b : GS) : List D → GS
  | [], ρ => some (.nx ρ)
  | d :: ds, ρ => (asg q d ρ).bind fun ρ1 => (b ρ1).bind fun o => match o with
    | .nx ρ2 => dFor q b ds ρ2
    | .ct ρ2 => dFor q b ds ρ2
    | .bk ρ2 => some (.nx ρ2)
    | .rt d ρ2 => some (.rt d ρ2)
def sFor (gi : GL) (q : Pat) (b : GS) : GS := fun ρ => (gi ρ).bind fun ds => dFor q b ds ρ
theorem sv_for {body : List Stmt} {g : GS} (hp : PassesOwn (model X.prog X.w) X.A X.env X.xe) (hc : X.calm = true) (hi : IV X tg iter gi) (hg : TGV X tg q) (hb : SVs X body g) (hs : ∀ x, foldedSetIterable iter X.env x = pure x := by intro _; rfl) : SV X (.For tg iter body [] pos) (sFor gi q g) := by
  obtain ⟨wi, pi, qi⟩ := hi.ex
  obtain ⟨tg', pg, qg⟩ := hg.ex
  obtain ⟨tb, pb, qb⟩ := hb.ex
  refine ⟨_, ps_for hp hc pi pg pb hs, fun π B R0 R H ρ σ o D st e k => ?_⟩
  obtain ⟨ds, e1, e2⟩ := bind_some e
  refine qi ρ σ R H ds _ st.env st.s e1 fun J R1 H1 x1 ok => ?_
  refine ⟨fun i m σ H => m = ds.length - i ∧ i ≤ ds.length ∧ ∃ R ρ, Same R1 R ∧ StR X.K X.mg π B R0 R H ρ σ ∧ dFor q g (ds.drop i) ρ = some o, ⟨ds.length, by simp, Nat.zero_le _, R1, ρ, .refl _, st.ext x1, e2⟩, ?_⟩
  rintro i m σ2 H2 ⟨rfl, hi, R2, ρ2, s2, st2, e3⟩
  by_cases hlt : i < ds.length
  · have ed : ds.drop i = ds[i] :: ds.drop (i + 1) := List.drop_eq_getElem_cons hlt
    rw [ed] at e3
    have e3 : ((asg q ds[i] ρ2).bind fun ρ1 => (g ρ1).bind fun o => match o with
      | .nx ρ2 => dFor q g (ds.drop (i + 1)) ρ2
      | .ct ρ2 => dFor q g (ds.drop (i + 1)) ρ2
      | .bk ρ2 => some (.nx ρ2)
      | .rt d ρ2 => some (.rt d ρ2)) = some o := e3
    obtain ⟨ρ3, e4, e5⟩ := bind_some e3
    obtain ⟨o1, e6, e7⟩ := bind_some e5
    refine .inr ⟨ok.go R2 H2 i s2 st2.s hlt, fun σ H => i + 1 ≤ ds.length ∧ ∃ R ρ, Same R1 R ∧ StR X.K X.mg π B R0 R H ρ σ ∧ dFor q g (ds.drop (i + 1)) ρ = some o, fun σ' H' ⟨h1, h2⟩ => ⟨ds.length - (i + 1), by omega, rfl, h1, h2⟩, fun x H' y => ?_⟩
    obtain ⟨d, R3, e8, x3, r3⟩ := ok.yld R2 H2 i x H' s2 st2.s y hlt
    rw [List.getElem?_eq_getElem hlt] at e8
    cases e8
    refine qg π B R0 R3 H' ρ2 ρ3 σ2 ds[i] x _ (st2.ext x3) r3 e4 fun σ3 R4 H4 st3 s34 => ?_
    -- the body: its region grows from R4
    refine qb π B R4 R4 H4 ρ3 σ3 o1 _ ⟨.refl _, st3.s, st3.b, fun b h => .inl h, st3.env, st3.own, st3.di, st3.tab⟩ e6 ?_
    have up : ∀ {R' H' : Hp} {ρ' : Rho} {σ' : L2.St}, StR X.K X.mg π B R4 R' H' ρ' σ' → StR X.K X.mg π B R0 R' H' ρ' σ' := fun {R' H' ρ' σ'} st' => ⟨st3.r0.trans st'.r0, st'.s, st'.b, fun b hb => by
      rcases st'.f b hb with z | z
      · exact st3.f b z
      · exact .inr z, st'.env, st'.own, st'.di, st'.tab⟩
    cases o1 with
    | nx ρ4 => exact fun σ4 R5 H5 st5 => ⟨hlt, R5, ρ4, s2.trans (x3.r.trans (s34.trans st5.r0)), up st5, e7⟩
    | ct ρ4 => exact fun σ4 R5 H5 st5 => ⟨hlt, R5, ρ4, s2.trans (x3.r.trans (s34.trans st5.r0)), up st5, e7⟩
    | bk ρ4 => cases e7; exact fun σ4 R5 H5 st5 => k σ4 R5 H5 (up st5)
    | rt d ρ4 => cases e7; exact fun v σ4 R5 H5 st5 r5 => k v σ4 R5 H5 (up st5) r5
  · have ei : ds.drop i = [] := List.drop_eq_nil_of_le (by omega)
    rw [ei] at e3
    cases e3
    exact .inl ⟨ok.stop R2 H2 i s2 st2.s (by omega), k σ2 R2 H2 st2⟩
/-- an expression whose value is dropped -/
def sDrop (g : G) : GS := fun ρ => (g (peek ρ)).map fun _ => .nx ρ
theorem sv_drop (he : EV X e ga) (hs : swapsWith e none pos.line X.env = pure false := by rfl) : SV X (.Expr e pos) (sDrop ga) := by
  obtain ⟨t, p, q⟩ := he.ex
  refine ⟨_, ps_expr p hs, fun π B R0 R H ρ σ o D st e k => ?_⟩
  obtain ⟨d, e1, e2⟩ := map_some e
  subst e2
  obtain ⟨R1, s1, st1, f1⟩ := st.peek
  refine q (peek ρ) σ R1 H d _ st1.env st1.s e1 fun v R2 H2 x2 r2 => ?_
  obtain ⟨R3, st3, _⟩ := st.unpeek s1 f1 x2
  exact k σ R3 H2 st3
end
end DL

set_option Elab.async false
set_option linter.all false
set_option maxRecDepth 100000
set_option maxHeartbeats 2000000
/-! DL6: defs, lists of one's own changed, lists handed in and changed. -/
namespace DL
open PySem PySem.Spec PyProof.Rows L2

/-! ### a def by its body -/
abbrev FnP (K : PySem.W.Frag) (x qual : PySem.Str) (st : Stmt) (f : Addr) (fd : FuncData) : Prop := FunD K x qual (defArgs st) (defBody st) (defScope st) [] [] f fd
def rho0 (n : Nat) (ss : List S) : Rho := ss ++ List.replicate (n - ss.length) .no
def runF (n : Nat) (g : GS) (ds : List D) : Option D := (g (rho0 n (ds.map .sh))).bind fun o => match o with
  | .rt d _ => some d
  | .nx _ => some .non
  | _ => none
theorem rho0_get {n : Nat} {ss : List S} {i : Nat} {s : S} (h : (rho0 n ss)[i]? = some s) : ss[i]? = some s ∨ s = .no := by
  unfold rho0 at h
  rw [List.getElem?_append] at h
  split at h
  · exact .inl h
  · rw [List.getElem?_replicate] at h
    split at h
    · exact .inr (Option.some.inj h).symm
    · cases h
theorem start_get {N : List PySem.Str} {vs : List V} {i : Nat} {v : V} (h : vs[i]? = some v) : (L2.start N vs)[i]? = some (some v) := by
  unfold L2.start
  rw [List.getElem?_append_left (by rw [List.length_map]; exact (List.getElem?_eq_some_iff.mp h).1), List.getElem?_map, h]
  rfl
theorem start_len {N : List PySem.Str} {vs : List V} : (L2.start N vs).length = vs.length + (N.length - vs.length) := by
  unfold L2.start
  rw [List.length_append, List.length_map, List.length_replicate]
section
variable {P : Program} {w : World} {K : PySem.W.Frag} {mg : PySem.Str → Option Value} {base : Heap}
/-- the context of a def's body -/
abbrev BX (P : Program) (w : World) (K : PySem.W.Frag) (mg : PySem.Str → Option Value) (base : Heap) (N : List PySem.Str) (qual : PySem.Str) (st : Stmt) (f : Addr) (cdv : Value) (A : Around) (outer : List PySem.Env) (s : Shared) (H : Hp) (E : XK) : Cx :=
  (cxOf CX0 P w K mg base N qual (defScope st) f cdv A outer s H E).nox
theorem fn_pure {x qual : PySem.Str} {st : Stmt} {f : Addr} {fd : FuncData} {N ps : List PySem.Str} {k : Nat} (F : FnP K x qual st f fd) (Sc : FnScope N ps (defScope st)) (g : Nat → GS)
    (hb : ∀ (m : Nat) (cdv : Value) (A : Around) (outer : List PySem.Env) (s : Shared) (H : Hp) (E : XK), RoomG k (A.deeper (envOfC qual (defScope st) s.heap.objs.size f cdv)) → SVs (BX P w K mg base N qual st f cdv A outer s H E) (defBody st) (g m)) :
    FnG P w K mg base CX0 (k + 1) f fd ps (spP K mg ps.length fun m ds => runF N.length (g m) ds) := by
  refine okG F Sc (fun vs H Q E h => h.1) (fun cdv A outer s H vs Q E hr h => ?_)
  obtain ⟨hl, m, R, ds, d, sm, r, e, k⟩ := h
  obtain ⟨t, p, q⟩ := (hb m cdv A outer s H E hr).ex
  refine ⟨t, p.nox, ?_⟩
  obtain ⟨o, e1, e2⟩ := bind_some e
  have hlen := RepL.length r
  refine q ⟨fun _ => 0, []⟩ H R R H (rho0 N.length (ds.map .sh)) (L2.start N vs) o _ ⟨.refl _, sm, .refl _, fun b h => .inl h, ⟨?_, fun i d' h => ?_⟩, fun i b l h => ?_, fun i j b c l m' p h => ?_, fun p hp => absurd hp (by simp)⟩ e1 ?_
  · rw [start_len, hlen]
    unfold rho0
    rw [List.length_append, List.length_replicate, List.length_map]
  · rcases rho0_get h with h | h
    · rw [List.getElem?_map] at h
      cases e3 : ds[i]? with
      | none => rw [e3] at h; cases h
      | some d2 =>
        rw [e3] at h
        cases h
        obtain ⟨v, h1, h2⟩ := RepL.get r e3
        exact ⟨v, start_get h1, h2⟩
    · cases h
  · rcases rho0_get h with h | h
    · rw [List.getElem?_map] at h
      cases e3 : ds[i]? with
      | none => rw [e3] at h; cases h
      | some d2 => rw [e3] at h; cases h
    · cases h
  · rcases rho0_get h with h | h
    · rw [List.getElem?_map] at h
      cases e3 : ds[i]? with
      | none => rw [e3] at h; cases h
      | some d2 => rw [e3] at h; cases h
    · cases h
  · cases o with
    | rt d' ρ' =>
      cases e2
      exact fun v σ R' H' st r' => k v R' H' ⟨st.r0, st.b, st.s, st.f⟩ r'
    | nx ρ' =>
      cases e2
      exact fun σ R' H' st => k V.non R' H' ⟨st.r0, st.b, st.s, st.f⟩ rfl
    | bk ρ' => cases e2
    | ct ρ' => cases e2
end

/-! ### expressions that may change lists of one's own -/
abbrev GM := Rho → Option (D × Rho)
abbrev GBM := Rho → Option (Bool × Rho)
inductive A where
  | d (x : D) | cell (i : Nat)
abbrev GA := Rho → Option (List A × Rho)
structure EM (X : Cx) (e : Expr) (g : GM) : Prop where
  ex : ∃ t, PE X e t ∧ ∀ (π : Pi) (B R0 R H : Hp) (ρ ρ' : Rho) (σ : L2.St) (d : D) (Q : VK), StR X.K X.mg π B R0 R H ρ σ → g ρ = some (d, ρ') →
    (∀ v R' H', StR X.K X.mg π B R0 R' H' ρ' σ → Same R R' → Rep X.K X.mg R' d v → Q v H') → t σ H Q
structure TM (X : Cx) (e : Expr) (g : GBM) : Prop where
  ex : ∃ t, PT X e t ∧ ∀ (π : Pi) (B R0 R H : Hp) (ρ ρ' : Rho) (σ : L2.St) (b : Bool) (Q : Bool → Hp → Prop), StR X.K X.mg π B R0 R H ρ σ → g ρ = some (b, ρ') →
    (∀ R' H', StR X.K X.mg π B R0 R' H' ρ' σ → Same R R' → Q b H') → t σ H Q
def RepA (K : PySem.W.Frag) (mg : PySem.Str → Option Value) (R : Hp) (σ : L2.St) : A → V → Prop
  | .d x, v => Rep K mg R x v
  | .cell i, v => σ[i]? = some (some v)
def RepAs (K : PySem.W.Frag) (mg : PySem.Str → Option Value) (R : Hp) (σ : L2.St) : List A → List V → Prop
  | [], vs => vs = []
  | a :: as, vs => ∃ v ws, vs = v :: ws ∧ RepA K mg R σ a v ∧ RepAs K mg R σ as ws
theorem RepA.mono {K : PySem.W.Frag} {mg : PySem.Str → Option Value} {R R' : Hp} {σ : L2.St} (s : Same R R') : ∀ {a : A} {v : V}, RepA K mg R σ a v → RepA K mg R' σ a v
  | .d x, v, h => Rep.mono s x v h
  | .cell i, v, h => h
structure EML (X : Cx) (es : List Expr) (g : GA) : Prop where
  ex : ∃ t, PA X es t ∧ ∀ (π : Pi) (B R0 R H : Hp) (ρ ρ' : Rho) (σ : L2.St) (as : List A) (Q : List V → Hp → Prop), StR X.K X.mg π B R0 R H ρ σ → g ρ = some (as, ρ') →
    (∀ vs R' H', StR X.K X.mg π B R0 R' H' ρ' σ → Same R R' → RepAs X.K X.mg R' σ as vs → Q vs H') → t σ H Q
  len : ∀ ρ as ρ', g ρ = some (as, ρ') → as.length = es.length
section
variable {X : Cx} {a b c e : Expr} {es : List Expr} {ga : G} {gm gm' gm'' : GM} {gs : GA} {pos p apos cpos : Pos}
/-- no list of one's own is read -/
def mP (g : G) : GM := fun ρ => (g ρ).map fun d => (d, ρ)
/-- lists of one's own may be read; the value holds no list -/
def mK (g : G) : GM := fun ρ => (g (peek ρ)).bind fun d => if lf d then some (d, ρ) else none
theorem em_p (h : EV X e ga) : EM X e (mP ga) := by
  obtain ⟨t, p, q⟩ := h.ex
  refine ⟨t, p, fun π B R0 R H ρ ρ' σ d Q st e k => ?_⟩
  obtain ⟨d', e1, e2⟩ := map_some e
  cases e2
  exact q ρ σ R H d _ st.env st.s e1 fun v R1 H1 x1 r1 => k v R1 H1 (st.ext x1) x1.r r1
theorem em_k (h : EV X e ga) : EM X e (mK ga) := by
  obtain ⟨t, p, q⟩ := h.ex
  refine ⟨t, p, fun π B R0 R H ρ ρ' σ d Q st e k => ?_⟩
  obtain ⟨d', e1, e2⟩ := bind_some e
  obtain ⟨hl, e3⟩ := ite_some (show (if lf d' = true then some (d', ρ) else none) = some (d, ρ') from e2)
  cases e3
  obtain ⟨R1, s1, st1, f1⟩ := st.peek
  refine q (peek ρ) σ R1 H d _ st1.env st1.s e1 fun v R2 H2 x2 r2 => ?_
  obtain ⟨R3, st3, a1, a2, a3, a4⟩ := st.unpeek s1 f1 x2
  exact k v R3 H2 st3 a1 (Rep.lf a3 d v hl r2)
def tK (g : GB) : GBM := fun ρ => (g (peek ρ)).map fun b => (b, ρ)
theorem tm_k {gt : GB} (h : TV X c gt) : TM X c (tK gt) := by
  obtain ⟨t, p, q⟩ := h.ex
  refine ⟨t, p, fun π B R0 R H ρ ρ' σ b Q st e k => ?_⟩
  obtain ⟨d', e1, e2⟩ := map_some e
  cases e2
  obtain ⟨R1, s1, st1, f1⟩ := st.peek
  refine q (peek ρ) σ R1 H b _ st1.env st1.s e1 fun R2 H2 x2 => ?_
  obtain ⟨R3, st3, a1, a2, a3, a4⟩ := st.unpeek s1 f1 x2
  exact k R3 H2 st3 a1
def mB (f : D → D → Option D) (a b : GM) : GM := fun ρ => (a ρ).bind fun x => (b x.2).bind fun y => (f x.1 y.1).map fun d => (d, y.2)
theorem em_bin {op : Operator} {f : D → D → Option D} (o : O2 X (binaryOp op) f) (ha : EM X a gm) (hb : EM X b gm') : EM X (.BinOp a op b pos) (mB f gm gm') := by
  obtain ⟨r, ho, hr⟩ := o.ex
  obtain ⟨ta, pa, qa⟩ := ha.ex
  obtain ⟨tb, pb, qb⟩ := hb.ex
  refine ⟨_, pe_op ho pa pb, fun π B R0 R H ρ ρ' σ d Q st e k => ?_⟩
  obtain ⟨⟨x, ρ1⟩, e1, e⟩ := bind_some e
  obtain ⟨⟨y, ρ2⟩, e2, e⟩ := bind_some e
  obtain ⟨d', e3, e4⟩ := map_some e
  cases e4
  refine qa π B R0 R H ρ ρ1 σ x _ st e1 fun v R1 H1 st1 s1 r1 => ?_
  refine qb π B R0 R1 H1 ρ1 ρ2 σ y _ st1 e2 fun w R2 H2 st2 s2 r2 => ?_
  exact hr R2 H2 x y v w d Q st2.s (Rep.mono s2 _ _ r1) r2 e3 fun u R3 H3 x3 r3 => k u R3 H3 (st2.ext x3) (s1.trans (s2.trans x3.r)) r3
theorem em_cmp {op : CmpOp} {f : D → D → Option D} (o : O2 X (compareOp op) f) (ha : EM X a gm) (hb : EM X b gm') (hm : behindInMarks op b = false := by rfl) : EM X (.Compare a [op] [b] pos) (mB f gm gm') := by
  obtain ⟨r, ho, hr⟩ := o.ex
  obtain ⟨ta, pa, qa⟩ := ha.ex
  obtain ⟨tb, pb, qb⟩ := hb.ex
  refine ⟨_, pe_cmpR ho pa pb hm, fun π B R0 R H ρ ρ' σ d Q st e k => ?_⟩
  obtain ⟨⟨x, ρ1⟩, e1, e⟩ := bind_some e
  obtain ⟨⟨y, ρ2⟩, e2, e⟩ := bind_some e
  obtain ⟨d', e3, e4⟩ := map_some e
  cases e4
  refine qa π B R0 R H ρ ρ1 σ x _ st e1 fun v R1 H1 st1 s1 r1 => ?_
  refine qb π B R0 R1 H1 ρ1 ρ2 σ y _ st1 e2 fun w R2 H2 st2 s2 r2 => ?_
  exact hr R2 H2 x y v w d Q st2.s (Rep.mono s2 _ _ r1) r2 e3 fun u R3 H3 x3 r3 => k u R3 H3 (st2.ext x3) (s1.trans (s2.trans x3.r)) r3
def tB2 (a : GM) : GBM := fun ρ => (a ρ).bind fun x => (toB x.1).map fun b => (b, x.2)
theorem tm_cmp {op : CmpOp} {f : D → D → Option D} (o : O2 X (compareOp op) f) (ha : EM X a gm) (hb : EM X b gm') (hm : behindInMarks op b = false := by rfl) : TM X (.Compare a [op] [b] pos) (tB2 (mB f gm gm')) := by
  obtain ⟨r, ho, hr⟩ := o.ex
  obtain ⟨ta, pa, qa⟩ := ha.ex
  obtain ⟨tb, pb, qb⟩ := hb.ex
  refine ⟨_, pt_cmpR ho pa pb hm, fun π B R0 R H ρ ρ' σ k' Q st e k => ?_⟩
  obtain ⟨⟨z, ρz⟩, e0, e⟩ := bind_some e
  obtain ⟨bz, e00, e000⟩ := map_some e
  have ez := toB_some e00
  simp only at ez
  subst ez
  cases e000
  obtain ⟨⟨x, ρ1⟩, e1, e⟩ := bind_some e0
  obtain ⟨⟨y, ρ2⟩, e2, e⟩ := bind_some e
  obtain ⟨d', e3, e4⟩ := map_some e
  cases e4
  refine qa π B R0 R H ρ ρ1 σ x _ st e1 fun v R1 H1 st1 s1 r1 => ?_
  refine qb π B R0 R1 H1 ρ1 ρ2 σ y _ st1 e2 fun w R2 H2 st2 s2 r2 => ?_
  exact hr R2 H2 x y v w _ _ st2.s (Rep.mono s2 _ _ r1) r2 e3 fun u R3 H3 x3 r3 => ⟨k', r3, k R3 H3 (st2.ext x3) (s1.trans (s2.trans x3.r))⟩
theorem tm_val (h : EM X a gm) (he : ∀ whole, isTrue a X.env whole = (do let v ← whole; standAt a.pos; holding [v] (truthy v)) := by intro _; rfl) : TM X a (tB2 gm) := by
  obtain ⟨ta, pa, qa⟩ := h.ex
  refine ⟨_, pt_val pa he, fun π B R0 R H ρ ρ' σ k' Q st e k => ?_⟩
  obtain ⟨⟨z, ρz⟩, e0, e⟩ := bind_some e
  obtain ⟨bz, e00, e000⟩ := map_some e
  have ez := toB_some e00
  simp only at ez
  subst ez
  cases e000
  exact qa π B R0 R H ρ _ σ _ _ st e0 fun v R1 H1 st1 s1 r1 => ⟨k', r1, k R1 H1 st1 s1⟩
def tNotM (a : GBM) : GBM := fun ρ => (a ρ).map fun x => (!x.1, x.2)
theorem tm_not {gt : GBM} (h : TM X a gt) : TM X (.UnaryOp .Not a pos) (tNotM gt) := by
  obtain ⟨t, p, q0⟩ := h.ex
  refine ⟨_, pt_not p, fun π B R0 R H ρ ρ' σ k' Q st e k => ?_⟩
  obtain ⟨⟨x, ρ1⟩, e1, e⟩ := map_some e
  cases e
  exact q0 π B R0 R H ρ _ σ x _ st e1 fun R1 H1 st1 s1 => k R1 H1 st1 s1
def mIf (t : GBM) (a b : GM) : GM := fun ρ => (t ρ).bind fun x => if x.1 = true then a x.2 else b x.2
theorem em_if {gt : GBM} (ht : TM X c gt) (ha : EM X a gm) (hb : EM X b gm') : EM X (.IfExp c a b pos) (mIf gt gm gm') := by
  obtain ⟨tt, pt, qt⟩ := ht.ex
  obtain ⟨ta, pa, qa⟩ := ha.ex
  obtain ⟨tb, pb, qb⟩ := hb.ex
  refine ⟨_, pe_ifExp pt pa pb, fun π B R0 R H ρ ρ' σ d Q st e k => ?_⟩
  obtain ⟨⟨x, ρ1⟩, e1, e⟩ := bind_some e
  refine qt π B R0 R H ρ ρ1 σ x _ st e1 fun R1 H1 st1 s1 => ?_
  cases x with
  | true => exact iteT (qa π B R0 R1 H1 ρ1 ρ' σ d _ st1 e fun v R2 H2 st2 s2 r2 => k v R2 H2 st2 (s1.trans s2) r2)
  | false => exact iteF (qb π B R0 R1 H1 ρ1 ρ' σ d _ st1 e fun v R2 H2 st2 s2 r2 => k v R2 H2 st2 (s1.trans s2) r2)
def mU (f : D → Option D) (a : GM) : GM := fun ρ => (a ρ).bind fun x => (f x.1).map fun d => (d, x.2)
theorem em_ix (ha : EM X a gm) (hb : EM X b gm') (hs : PlainIx b := by intro _ _; rfl) : EM X (.Subscript a b pos) (mB dIx gm gm') := by
  obtain ⟨ta, pa, qa⟩ := ha.ex
  obtain ⟨tb, pb, qb⟩ := hb.ex
  refine ⟨_, pe_ix ix_seq pa pb hs, fun π B R0 R H ρ ρ' σ d Q st e k => ?_⟩
  obtain ⟨⟨x, ρ1⟩, e1, e⟩ := bind_some e
  obtain ⟨⟨y, ρ2⟩, e2, e⟩ := bind_some e
  obtain ⟨d', e3, e4⟩ := map_some e
  cases e4
  refine qa π B R0 R H ρ ρ1 σ x _ st e1 fun v R1 H1 st1 s1 r1 => ?_
  refine qb π B R0 R1 H1 ρ1 ρ2 σ y _ st1 e2 fun w R2 H2 st2 s2 r2 => ?_
  have r1 := Rep.mono s2 _ _ r1
  have e3 : dIx x y = some d := e3
  cases y with
  | int i =>
    cases x with
    | tup l =>
      obtain ⟨p, vs, e5, h1, h2⟩ := r1
      obtain ⟨v', h3, h4⟩ := RepL.atI h2 e3
      exact .inr (.inl ⟨p, vs, i, v', e5, r2, Same.seqT st2.s h1, h3, k v' R2 H2 st2 (s1.trans s2) h4⟩)
    | lst l =>
      obtain ⟨p, vs, e5, h1, h2⟩ := r1
      obtain ⟨v', h3, h4⟩ := RepL.atI h2 e3
      exact .inl ⟨p, vs, i, v', e5, r2, .inl (.inl (st2.s _ _ h1)), h3, k v' R2 H2 st2 (s1.trans s2) h4⟩
    | frz l =>
      obtain ⟨p, vs, e5, h1, h2⟩ := r1
      obtain ⟨v', h3, h4⟩ := RepL.atI h2 e3
      exact .inl ⟨p, vs, i, v', e5, r2, st2.s.seq h1, h3, k v' R2 H2 st2 (s1.trans s2) h4⟩
    | _ => cases e3
  | _ => cases x <;> cases e3
/-! argument lists -/
def aN : GA := fun ρ => some ([], ρ)
def aD (g : GM) (r : GA) : GA := fun ρ => (g ρ).bind fun x => (r x.2).map fun y => (.d x.1 :: y.1, y.2)
def aC (i : Nat) (r : GA) : GA := fun ρ => (r ρ).map fun y => (.cell i :: y.1, y.2)
theorem eml_nil : EML X [] aN := ⟨⟨_, pa_nil, fun π B R0 R H ρ ρ' σ as Q st e k => by
  cases e
  exact k [] R H st (.refl _) rfl⟩, fun ρ as ρ' e => by cases e; rfl⟩
theorem eml_d (ha : EM X e gm) (hr : EML X es gs) (hs : starEach (e :: es) X.env = (false, eval e X.env) :: starEach es X.env := by rfl) : EML X (e :: es) (aD gm gs) := by
  obtain ⟨ta, pa, qa⟩ := ha.ex
  obtain ⟨tb, pb, qb⟩ := hr.ex
  refine ⟨⟨_, pa_cons pa pb hs, fun π B R0 R H ρ ρ' σ as Q st e k => ?_⟩, fun ρ as ρ' e => ?_⟩
  · obtain ⟨⟨x, ρ1⟩, e1, e⟩ := bind_some e
    obtain ⟨⟨y, ρ2⟩, e2, e3⟩ := map_some e
    cases e3
    refine qa π B R0 R H ρ ρ1 σ x _ st e1 fun v R1 H1 st1 s1 r1 => ?_
    exact qb π B R0 R1 H1 ρ1 ρ2 σ y _ st1 e2 fun vs R2 H2 st2 s2 r2 => k (v :: vs) R2 H2 st2 (s1.trans s2) ⟨v, vs, rfl, Rep.mono s2 _ _ r1, r2⟩
  · obtain ⟨⟨x, ρ1⟩, e1, e⟩ := bind_some e
    obtain ⟨⟨y, ρ2⟩, e2, e3⟩ := map_some e
    cases e3
    rw [List.length_cons, List.length_cons, hr.len _ _ _ e2]
/-- a list of one's own, handed on by its name -/
theorem eml_c (i : Nat) {x : PySem.Str} {p2 : Pos} (hr : EML X es gs) (hN : X.N[i]? = some x := by rfl) (hv : Vis X.env.scope x := by first | exact Or.inl rfl | exact Or.inr (Or.inl rfl) | exact Or.inr (Or.inr rfl)) (hd : (x == ("__debug__" : PySem.Str)) = false := by decide)
    (hcd : (x == ("__classdict__" : PySem.Str)) = false := by decide) (hs : starEach (.Name x p2 :: es) X.env = (false, eval (.Name x p2) X.env) :: starEach es X.env := by rfl) : EML X (.Name x p2 :: es) (fun ρ => match ρ[i]? with | some (.own _ _) => aC i gs ρ | _ => none) := by
  obtain ⟨tb, pb, qb⟩ := hr.ex
  refine ⟨⟨_, pa_cons (pe_var hN hv hd hcd) pb hs, fun π B R0 R H ρ ρ' σ as Q st e k => ?_⟩, fun ρ as ρ' e => ?_⟩
  · split at e
    · rename_i c l hi
      obtain ⟨⟨y, ρ2⟩, e2, e3⟩ := map_some e
      cases e3
      obtain ⟨q, vs, g1, _⟩ := st.own i c l hi
      exact ⟨.ref q, g1, qb π B R0 R H ρ ρ2 σ y _ st e2 fun vs R2 H2 st2 s2 r2 => k (.ref q :: vs) R2 H2 st2 s2 ⟨_, vs, rfl, g1, r2⟩⟩
    · cases e
  · split at e
    · obtain ⟨⟨y, ρ2⟩, e2, e3⟩ := map_some e
      cases e3
      rw [List.length_cons, List.length_cons, hr.len _ _ _ e2]
    · cases e
def allD : List A → Option (List D)
  | [] => some []
  | .d x :: r => (allD r).map fun xs => x :: xs
  | .cell _ :: _ => none
theorem allD_rep {K : PySem.W.Frag} {mg : PySem.Str → Option Value} {R : Hp} {σ : L2.St} : ∀ {as : List A} {ds : List D} {vs : List V}, allD as = some ds → RepAs K mg R σ as vs → RepL K mg R ds vs
  | [], ds, vs, e, r => by cases e; exact r
  | .d x :: as, ds, vs, e, r => by
    obtain ⟨xs, e1, e2⟩ := map_some (show (allD as).map (fun xs => x :: xs) = some ds from e)
    subst e2
    obtain ⟨v, ws, e3, h1, h2⟩ := r
    exact ⟨v, ws, e3, h1, allD_rep e1 h2⟩
  | .cell _ :: _, ds, vs, e, r => by cases e
def mF (f : List D → Option D) (a : GA) : GM := fun ρ => (a ρ).bind fun x => (allD x.1).bind fun ds => (f ds).map fun d => (d, x.2)
theorem em_call {k j n : Nat} {x : PySem.Str} {f : Nat → List D → Option D} (F : Fn X.prog X.w X.K X.mg X.base k x n f) (hr : RoomG j X.A) (m : Nat) (ha : EML X (e :: es) gs) (hk : k ≤ j := by decide) (hl : (e :: es).length = n := by rfl) (hg : Gl X x := by rfl)
    (hdb : (x == ("__debug__" : PySem.Str)) = false := by decide) (he : starEach (e :: es) X.env = (false, eval e X.env) :: starEach es X.env := by rfl) (hpl : (backTo pos (starEach es X.env)).any (·.1) = false := by rfl) :
    EM X (.Call (.Name x p) (e :: es) [] pos) (mF (f m) gs) := by
  obtain ⟨fa, fd, ps, h1, h2, h3, h4, h5⟩ := F.ex
  obtain ⟨t, pt, qt⟩ := ha.ex
  refine ⟨_, pe_callG (h1.mono hk) hr hg h3 h4 h5 .nil pass0 pt hdb he hpl, fun π B R0 R H ρ ρ' σ d Q st e kk => ?_⟩
  obtain ⟨⟨as, ρ1⟩, e1, e⟩ := bind_some e
  obtain ⟨ds, e2, e⟩ := bind_some e
  obtain ⟨d', e3, e4⟩ := map_some e
  cases e4
  refine qt π B R0 R H ρ _ σ as _ st e1 fun vs R1 H1 st1 s1 r1 => ?_
  rw [List.append_nil]
  have r2 := allD_rep e2 r1
  have l0 : ∀ {as : List A} {vs : List V}, RepAs X.K X.mg R1 σ as vs → vs.length = as.length := by
    intro as
    induction as with
    | nil => intro vs h; rw [show vs = [] from h]; rfl
    | cons a as ih => intro vs h; obtain ⟨v, ws, e, _, h2⟩ := h; rw [e, List.length_cons, List.length_cons, ih h2]
  exact ⟨by rw [l0 r1, ha.len _ _ _ e1]; exact hl, m, R1, ds, d, st1.s, r2, e3, fun v R2 H2 x2 r2 => kk v R2 H2 (st1.ext x2) (s1.trans x2.r) r2⟩
theorem em_callB {id : String} {x : PySem.Str} {f : List D → Option D} (o : C1 X (.builtin id) f) (hm : X.mg x = none) (ha : EML X (e :: es) gs) (hv : bootBuiltins x = some (.builtin id) := by decide +kernel) (hg : Gl X x := by rfl) (hn : x ≠ "__name__" := by decide)
    (hdb : (x == ("__debug__" : PySem.Str)) = false := by decide) (he : starEach (e :: es) X.env = (false, eval e X.env) :: starEach es X.env := by rfl) (hpl : (backTo pos (starEach es X.env)).any (·.1) = false := by rfl) :
    EM X (.Call (.Name x p) (e :: es) [] pos) (mF f gs) := by
  obtain ⟨r, hc, hr⟩ := o.ex
  obtain ⟨t, pt, qt⟩ := ha.ex
  refine ⟨_, pe_callB hc hg hm hv pt hn hdb he hpl, fun π B R0 R H ρ ρ' σ d Q st e kk => ?_⟩
  obtain ⟨⟨as, ρ1⟩, e1, e⟩ := bind_some e
  obtain ⟨ds, e2, e⟩ := bind_some e
  obtain ⟨d', e3, e4⟩ := map_some e
  cases e4
  exact qt π B R0 R H ρ _ σ as _ st e1 fun vs R1 H1 st1 s1 r1 => hr R1 H1 ds vs d Q st1.s (allD_rep e2 r1) e3 fun v R2 H2 x2 r2 => kk v R2 H2 (st1.ext x2) (s1.trans x2.r) r2
theorem em_callTy {T : String} {x : PySem.Str} {f : List D → Option D} (o : C1 X (.type T) f) (hm : X.mg x = none) (ha : EML X (e :: es) gs) (hv : bootBuiltins x = some (.type T) := by decide +kernel) (hg : Gl X x := by rfl) (hn : x ≠ "__name__" := by decide)
    (hdb : (x == ("__debug__" : PySem.Str)) = false := by decide) (he : starEach (e :: es) X.env = (false, eval e X.env) :: starEach es X.env := by rfl) (hpl : (backTo pos (starEach es X.env)).any (·.1) = false := by rfl) :
    EM X (.Call (.Name x p) (e :: es) [] pos) (mF f gs) := by
  obtain ⟨r, hc, hr⟩ := o.ex
  obtain ⟨t, pt, qt⟩ := ha.ex
  refine ⟨_, pe_callTy hc hg hm hv pt hn hdb he hpl, fun π B R0 R H ρ ρ' σ d Q st e kk => ?_⟩
  obtain ⟨⟨as, ρ1⟩, e1, e⟩ := bind_some e
  obtain ⟨ds, e2, e⟩ := bind_some e
  obtain ⟨d', e3, e4⟩ := map_some e
  cases e4
  exact qt π B R0 R H ρ _ σ as _ st e1 fun vs R1 H1 st1 s1 r1 => hr R1 H1 ds vs d Q st1.s (allD_rep e2 r1) e3 fun v R2 H2 x2 r2 => kk v R2 H2 (st1.ext x2) (s1.trans x2.r) r2
theorem RepAs.len {K : PySem.W.Frag} {mg : PySem.Str → Option Value} {R : Hp} {σ : L2.St} : ∀ {as : List A} {vs : List V}, RepAs K mg R σ as vs → vs.length = as.length
  | [], vs, h => by rw [show vs = [] from h]; rfl
  | a :: as, vs, h => by
    obtain ⟨v, ws, e, _, h2⟩ := h
    rw [e, List.length_cons, List.length_cons, RepAs.len h2]
def mTup (a : GA) : GM := fun ρ => (a ρ).bind fun x => (allD x.1).map fun ds => (.tup ds, x.2)
def mLst (a : GA) : GM := fun ρ => (a ρ).bind fun x => (allD x.1).map fun ds => (.lst ds, x.2)
theorem em_tup {k : Nat} (h : EML X es gs) (hl : es.length ≤ 1000 := by decide) : EM X (.Tuple es k pos) (mTup gs) := by
  obtain ⟨t, p, q0⟩ := h.ex
  refine ⟨_, pe_tup p, fun π B R0 R H ρ ρ' σ d Q st e kk => ?_⟩
  obtain ⟨⟨as, ρ1⟩, e1, e⟩ := bind_some e
  obtain ⟨ds, e2, e3⟩ := map_some e
  cases e3
  refine q0 π B R0 R H ρ _ σ as _ st e1 fun vs R1 H1 st1 s1 r1 => ?_
  refine ⟨le1000 (by rw [RepAs.len r1, h.len _ _ _ e1]; exact hl), fun p hp => ?_⟩
  exact kk _ _ _ (st1.ext (Ext.new st1.s hp _)) (s1.trans (Ext.new st1.s hp _).r) (tup_new (st1.s.free hp) (allD_rep e2 r1))
theorem em_lst (h : EML X es gs) (hl : es.length ≤ 1000 := by decide) : EM X (.List es pos) (mLst gs) := by
  obtain ⟨t, p, q0⟩ := h.ex
  refine ⟨_, pe_lst p, fun π B R0 R H ρ ρ' σ d Q st e kk => ?_⟩
  obtain ⟨⟨as, ρ1⟩, e1, e⟩ := bind_some e
  obtain ⟨ds, e2, e3⟩ := map_some e
  cases e3
  refine q0 π B R0 R H ρ _ σ as _ st e1 fun vs R1 H1 st1 s1 r1 => ?_
  refine ⟨le1000 (by rw [RepAs.len r1, h.len _ _ _ e1]; exact hl), fun p hp => ?_⟩
  exact kk _ _ _ (st1.ext (Ext.new st1.s hp _)) (s1.trans (Ext.new st1.s hp _).r) (lst_new (st1.s.free hp) (allD_rep e2 r1))

/-! ### a def that changes lists handed in -/
def spB (K : PySem.W.Frag) (mg : PySem.Str → Option Value) (n : Nat) (F : Nat → List S → Option (D × List S)) : Sp := fun vs H Q _ => vs.length = n ∧ ∃ (m : Nat) (π : Pi) (B R : Hp) (ρ0 ρ1 : List S) (d : D), StR K mg π B R R H ρ0 (vs.map some) ∧ F m ρ0 = some (d, ρ1) ∧
  ∀ v R' H', StR K mg π B R R' H' ρ1 (vs.map some) → Rep K mg R' d v → Q v H'
structure FnB (P : Program) (w : World) (K : PySem.W.Frag) (mg : PySem.Str → Option Value) (base : Heap) (k : Nat) (x : PySem.Str) (n : Nat) (F : Nat → List S → Option (D × List S)) : Prop where
  ex : ∃ f fd ps, FnG P w K mg base CX0 k f fd ps (spB K mg n F) ∧ ps.length = n ∧ mg x = some (.ref f) ∧ PySem.W.keepIn K (.ref f) = true ∧ Binds K fd ps []
/-- what of the parameters' slots is told behind the body -/
def outS : List S → List S → Option (List S)
  | [], _ => some []
  | .own true _ :: r, .own true l :: r' => (outS r r').map fun s => .own true l :: s
  | .own _ _ :: _, _ => none
  | _ :: r, _ :: r' => (outS r r').map fun s => .no :: s
  | _ :: _, [] => none
def runB (n : Nat) (g : GS) (ss : List S) : Option (D × List S) := (g (rho0 n ss)).bind fun o => match o with
  | .rt d ρ => (outS ss ρ).map fun s => (d, s)
  | .nx ρ => (outS ss ρ).map fun s => (.non, s)
  | _ => none
theorem outS_len : ∀ {ss ρ s : List S}, outS ss ρ = some s → s.length = ss.length
  | [], ρ, s, e => by simp [outS] at e; subst e; rfl
  | .own true l :: r, .own true l' :: r', s, e => by
    obtain ⟨s', e1, e2⟩ := map_some (show (outS r r').map (fun s => S.own true l' :: s) = some s from by simpa [outS] using e)
    subst e2
    rw [List.length_cons, List.length_cons, outS_len e1]
  | .own true l :: r, .own false l' :: r', s, e => by simp [outS] at e
  | .own true l :: r, .no :: r', s, e => by simp [outS] at e
  | .own true l :: r, .sh _ :: r', s, e => by simp [outS] at e
  | .own true l :: r, [], s, e => by simp [outS] at e
  | .own false l :: r, ρ, s, e => by simp [outS] at e
  | .no :: r, [], s, e => by simp [outS] at e
  | .sh _ :: r, [], s, e => by simp [outS] at e
  | .no :: r, x :: r', s, e => by
    obtain ⟨s', e1, e2⟩ := map_some (show (outS r r').map (fun s => S.no :: s) = some s from by simpa [outS] using e)
    subst e2
    rw [List.length_cons, List.length_cons, outS_len e1]
  | .sh _ :: r, x :: r', s, e => by
    obtain ⟨s', e1, e2⟩ := map_some (show (outS r r').map (fun s => S.no :: s) = some s from by simpa [outS] using e)
    subst e2
    rw [List.length_cons, List.length_cons, outS_len e1]
theorem outS_get : ∀ {ss ρ s : List S} {i : Nat} {x : S}, outS ss ρ = some s → s[i]? = some x → x = .no ∨ ∃ l l', x = .own true l ∧ ρ[i]? = some (.own true l) ∧ ss[i]? = some (.own true l')
  | [], ρ, s, i, x, e, h => by simp [outS] at e; subst e; simp at h
  | .own true l :: r, .own true l' :: r', s, i, x, e, h => by
    obtain ⟨s', e1, e2⟩ := map_some (show (outS r r').map (fun s => S.own true l' :: s) = some s from by simpa [outS] using e)
    subst e2
    cases i with
    | zero => simp at h; subst h; exact .inr ⟨l', l, rfl, rfl, rfl⟩
    | succ i => exact outS_get (i := i) e1 (by simpa using h)
  | .own true l :: r, .own false l' :: r', s, i, x, e, h => by simp [outS] at e
  | .own true l :: r, .no :: r', s, i, x, e, h => by simp [outS] at e
  | .own true l :: r, .sh _ :: r', s, i, x, e, h => by simp [outS] at e
  | .own true l :: r, [], s, i, x, e, h => by simp [outS] at e
  | .own false l :: r, ρ, s, i, x, e, h => by simp [outS] at e
  | .no :: r, [], s, i, x, e, h => by simp [outS] at e
  | .sh _ :: r, [], s, i, x, e, h => by simp [outS] at e
  | .no :: r, y :: r', s, i, x, e, h => by
    obtain ⟨s', e1, e2⟩ := map_some (show (outS r r').map (fun s => S.no :: s) = some s from by simpa [outS] using e)
    subst e2
    cases i with
    | zero => simp at h; subst h; exact .inl rfl
    | succ i => exact outS_get (i := i) e1 (by simpa using h)
  | .sh _ :: r, y :: r', s, i, x, e, h => by
    obtain ⟨s', e1, e2⟩ := map_some (show (outS r r').map (fun s => S.no :: s) = some s from by simpa [outS] using e)
    subst e2
    cases i with
    | zero => simp at h; subst h; exact .inl rfl
    | succ i => exact outS_get (i := i) e1 (by simpa using h)
/-- behind the body: the parameters as they were handed in -/
theorem outS_st {K : PySem.W.Frag} {mg : PySem.Str → Option Value} {π : Pi} {B R R' H H' : Hp} {ss ρ s : List S} {vs : List V} {σ : L2.St} (st0 : StR K mg π B R R H ss (vs.map some)) (st : StR K mg π B R R' H' ρ σ) (e : outS ss ρ = some s) : StR K mg π B R R' H' s (vs.map some) := by
  refine ⟨st.r0, st.s, st.b, st.f, ⟨by rw [outS_len e]; exact st0.len, fun i d h => ?_⟩, fun i b l h => ?_, fun i j b c l m p h1 h2 h3 h4 => ?_, st.tab⟩
  · rcases outS_get e h with z | ⟨l, l', z, _⟩ <;> cases z
  · rcases outS_get e h with z | ⟨l1, l2, z, z1, z2⟩
    · cases z
    · cases z
      obtain ⟨p, ws, g1, g2, g3, g4, g5, g6⟩ := st.own i true l z1
      obtain ⟨p', ws', k1, _, _, _, _, k6⟩ := st0.own i true l2 z2
      have e1 := g6 rfl
      have e2 := k6 rfl
      subst e1 e2
      exact ⟨_, ws, k1, g2, g3, g4, g5, fun _ => rfl⟩
  · rcases outS_get e h1 with z | ⟨l1, l2, z, z1, z2⟩
    · cases z
    rcases outS_get e h2 with y | ⟨m1, m2, y, y1, y2⟩
    · cases y
    exact st0.di i j true true l2 m2 p z2 y2 h3 h4
theorem fn_ref {P : Program} {w : World} {K : PySem.W.Frag} {mg : PySem.Str → Option Value} {base : Heap} {x qual : PySem.Str} {st : Stmt} {f : Addr} {fd : FuncData} {N ps : List PySem.Str} {k : Nat} (F : FnP K x qual st f fd) (Sc : FnScope N ps (defScope st)) (g : Nat → GS)
    (hb : ∀ (m : Nat) (cdv : Value) (A : Around) (outer : List PySem.Env) (s : Shared) (H : Hp) (E : XK), RoomG k (A.deeper (envOfC qual (defScope st) s.heap.objs.size f cdv)) → SVs (BX P w K mg base N qual st f cdv A outer s H E) (defBody st) (g m)) :
    FnG P w K mg base CX0 (k + 1) f fd ps (spB K mg ps.length fun m ss => runB N.length (g m) ss) := by
  refine okG F Sc (fun vs H Q E h => h.1) (fun cdv A outer s H vs Q E hr h => ?_)
  obtain ⟨hl, m, π, B, R, ρ0, ρ1, d, st0, e, k⟩ := h
  obtain ⟨t, p, q⟩ := (hb m cdv A outer s H E hr).ex
  refine ⟨t, p.nox, ?_⟩
  obtain ⟨o, e1, e2⟩ := bind_some e
  have hlen : ρ0.length = vs.length := by rw [st0.len, List.length_map]
  have up : ∀ {i : Nat} {v : V}, (vs.map some)[i]? = some (some v) → (L2.start N vs)[i]? = some (some v) := fun {i v} h => by
    refine start_get ?_
    rw [List.getElem?_map] at h
    cases z : vs[i]? with
    | none => rw [z] at h; cases h
    | some u => rw [z] at h; cases h; rfl
  have dn : ∀ {i : Nat} {c : Bool} {l : List D} {v : V}, ρ0[i]? = some (.own c l) → (L2.start N vs)[i]? = some (some v) → (vs.map some)[i]? = some (some v) := fun {i c l v} h h2 => by
    obtain ⟨q, ws, g1, _⟩ := st0.own i c l h
    have g2 := up g1
    rw [h2] at g2
    cases g2
    exact g1
  refine q π B R R H (rho0 N.length ρ0) (L2.start N vs) o _ ⟨.refl _, st0.s, st0.b, fun b h => .inl h, ⟨?_, fun i d' h => ?_⟩, fun i b l h => ?_, fun i j b c l m' p h1 h2 h3 h4 => ?_, st0.tab⟩ e1 ?_
  · rw [start_len]
    unfold rho0
    rw [List.length_append, List.length_replicate, hlen]
  · rcases rho0_get h with h | h
    · obtain ⟨v, h1, h2⟩ := st0.env.get i d' h
      exact ⟨v, up h1, h2⟩
    · cases h
  · rcases rho0_get h with h | h
    · obtain ⟨p, ws, h1, h2⟩ := st0.own i b l h
      exact ⟨p, ws, up h1, h2⟩
    · cases h
  · rcases rho0_get h1 with h1 | h1
    · rcases rho0_get h2 with h2 | h2
      · exact st0.di i j b c l m' p h1 h2 (dn h1 h3) (dn h2 h4)
      · cases h2
    · cases h1
  · cases o with
    | rt d' ρ' =>
      obtain ⟨s', e3, e4⟩ := map_some e2
      cases e4
      exact fun v σ R' H' st r' => k v R' H' (outS_st st0 st e3) r'
    | nx ρ' =>
      obtain ⟨s', e3, e4⟩ := map_some e2
      cases e4
      exact fun σ R' H' st => k V.non R' H' (outS_st st0 st e3) rfl
    | bk ρ' => cases e2
    | ct ρ' => cases e2
/-- the slots of a call's arguments -/
def argS (ρ : Rho) : List A → Option (List S)
  | [] => some []
  | .d x :: r => (argS ρ r).map fun s => .sh x :: s
  | .cell i :: r => match ρ[i]? with
    | some (.own _ l) => (argS ρ r).map fun s => .own true l :: s
    | _ => none
/-- the lists handed on, as the callee left them -/
def backS (ρ : Rho) : List A → List S → Option Rho
  | [], _ => some ρ
  | .d _ :: r, _ :: s => backS ρ r s
  | .cell i :: r, .own _ l :: s => match ρ[i]? with
    | some (.own c _) => backS (ρ.set i (.own c l)) r s
    | _ => none
  | _, _ => none
def cellsOf : List A → List Nat
  | [] => []
  | .d _ :: r => cellsOf r
  | .cell i :: r => i :: cellsOf r
def mR (f : List S → Option (D × List S)) (a : GA) : GM := fun ρ => (a ρ).bind fun x => if (cellsOf x.1).Nodup then (argS x.2 x.1).bind fun ss => (f ss).bind fun y => (backS x.2 x.1 y.2).map fun ρ' => (y.1, ρ') else none
end
end DL

set_option Elab.async false
set_option linter.all false
set_option maxRecDepth 100000
set_option maxHeartbeats 2000000
/-! DL7: a call that changes lists handed in; statements over such expressions. -/
namespace DL
open PySem PySem.Spec PyProof.Rows L2

theorem argS_len {ρ : Rho} : ∀ {as : List A} {ss : List S}, argS ρ as = some ss → ss.length = as.length
  | [], ss, e => by cases e; rfl
  | .d x :: r, ss, e => by
    obtain ⟨s, e1, e2⟩ := map_some (show (argS ρ r).map (fun s => S.sh x :: s) = some ss from e)
    subst e2
    rw [List.length_cons, List.length_cons, argS_len e1]
  | .cell i :: r, ss, e => by
    unfold argS at e
    split at e
    · obtain ⟨s, e1, e2⟩ := map_some e
      subst e2
      rw [List.length_cons, List.length_cons, argS_len e1]
    · cases e
theorem argS_get {ρ : Rho} : ∀ {as : List A} {ss : List S} {i : Nat} {x : S}, argS ρ as = some ss → ss[i]? = some x →
    (∃ d, as[i]? = some (.d d) ∧ x = .sh d) ∨ (∃ (c : Nat) (b : Bool) (l : List D), as[i]? = some (.cell c) ∧ ρ[c]? = some (.own b l) ∧ x = .own true l)
  | [], ss, i, x, e, h => by cases e; cases h
  | .d y :: r, ss, i, x, e, h => by
    obtain ⟨s, e1, e2⟩ := map_some (show (argS ρ r).map (fun s => S.sh y :: s) = some ss from e)
    subst e2
    cases i with
    | zero => cases h; exact .inl ⟨y, rfl, rfl⟩
    | succ i => exact argS_get (i := i) e1 h
  | .cell c :: r, ss, i, x, e, h => by
    unfold argS at e
    split at e
    · rename_i b l hc
      obtain ⟨s, e1, e2⟩ := map_some e
      subst e2
      cases i with
      | zero => cases h; exact .inr ⟨c, b, l, rfl, hc, rfl⟩
      | succ i => exact argS_get (i := i) e1 h
    · cases e
theorem RepAs.get {K : PySem.W.Frag} {mg : PySem.Str → Option Value} {R : Hp} {σ : L2.St} : ∀ {as : List A} {vs : List V} {i : Nat} {a : A}, RepAs K mg R σ as vs → as[i]? = some a → ∃ v, vs[i]? = some v ∧ RepA K mg R σ a v
  | [], vs, i, a, r, h => by cases h
  | b :: as, vs, i, a, r, h => by
    obtain ⟨v, ws, e, h1, h2⟩ := r
    subst e
    cases i with
    | zero => cases h; exact ⟨v, rfl, h1⟩
    | succ i => exact RepAs.get (i := i) h2 h
theorem RepAs.mono {K : PySem.W.Frag} {mg : PySem.Str → Option Value} {R R' : Hp} {σ : L2.St} (s : Same R R') : ∀ {as : List A} {vs : List V}, RepAs K mg R σ as vs → RepAs K mg R' σ as vs
  | [], vs, h => h
  | a :: as, vs, ⟨v, ws, e, h1, h2⟩ => ⟨v, ws, e, h1.mono s, RepAs.mono s h2⟩
theorem mem_cells {c : Nat} : ∀ {as : List A} {j : Nat}, as[j]? = some (.cell c) → c ∈ cellsOf as
  | [], j, h => by cases h
  | .d x :: r, j, h => by
    cases j with
    | zero => cases h
    | succ j => exact mem_cells (as := r) (j := j) h
  | .cell i :: r, j, h => by
    cases j with
    | zero => cases h; exact List.mem_cons_self
    | succ j => exact List.mem_cons_of_mem _ (mem_cells (as := r) (j := j) h)
theorem cells_inj {c : Nat} : ∀ {as : List A} {i j : Nat}, (cellsOf as).Nodup → as[i]? = some (.cell c) → as[j]? = some (.cell c) → i = j
  | [], i, j, n, h, g => by cases h
  | .d x :: r, i, j, n, h, g => by
    cases i with
    | zero => cases h
    | succ i =>
      cases j with
      | zero => cases g
      | succ j => rw [cells_inj (as := r) (i := i) (j := j) n h g]
  | .cell y :: r, i, j, n, h, g => by
    have n : (y :: cellsOf r).Nodup := n
    rw [List.nodup_cons] at n
    cases i with
    | zero =>
      cases j with
      | zero => rfl
      | succ j => cases h; exact absurd (mem_cells (as := r) (j := j) g) n.1
    | succ i =>
      cases j with
      | zero => cases g; exact absurd (mem_cells (as := r) (j := i) h) n.1
      | succ j => rw [cells_inj (as := r) (i := i) (j := j) n.2 h g]
theorem backS_len : ∀ {as : List A} {ρ ρ2 : Rho} {s : List S}, backS ρ as s = some ρ2 → ρ2.length = ρ.length
  | [], ρ, ρ2, s, e => by simp [backS] at e; rw [e]
  | .d x :: r, ρ, ρ2, y :: s, e => backS_len (as := r) (s := s) e
  | .cell i :: r, ρ, ρ2, .own b l :: s, e => by
    unfold backS at e
    split at e
    · rw [backS_len (as := r) e, List.length_set]
    · cases e
  | .d x :: r, ρ, ρ2, [], e => by simp [backS] at e
  | .cell i :: r, ρ, ρ2, [], e => by simp [backS] at e
  | .cell i :: r, ρ, ρ2, .no :: s, e => by simp [backS] at e
  | .cell i :: r, ρ, ρ2, .sh _ :: s, e => by simp [backS] at e
theorem backS_get : ∀ {as : List A} {ρ ρ2 : Rho} {s : List S} {i : Nat} {x : S}, backS ρ as s = some ρ2 → ρ2[i]? = some x →
    ((∀ j : Nat, as[j]? ≠ some (A.cell i)) ∧ ρ[i]? = some x) ∨ (∃ (j : Nat) (c c' : Bool) (l l0 : List D), as[j]? = some (.cell i) ∧ s[j]? = some (.own c' l) ∧ ρ[i]? = some (.own c l0) ∧ x = .own c l)
  | [], ρ, ρ2, s, i, x, e, h => by
    simp [backS] at e
    subst e
    exact .inl ⟨fun j z => (by cases z), h⟩
  | .d y :: r, ρ, ρ2, z :: s, i, x, e, h => by
    rcases backS_get (as := r) (s := s) e h with ⟨a, b⟩ | ⟨j, c, c', l, l0, a, b⟩
    · exact .inl ⟨fun j q => by
        cases j with
        | zero => cases q
        | succ j => exact a j q, b⟩
    · exact .inr ⟨j + 1, c, c', l, l0, a, b⟩
  | .cell c0 :: r, ρ, ρ2, .own b0 l1 :: s, i, x, e, h => by
    unfold backS at e
    split at e
    · rename_i c1 l2 hc
      rcases backS_get (as := r) (s := s) e h with ⟨a, b⟩ | ⟨j, c, c', l, l0, a, b, d, f⟩
      · rcases getSet b with ⟨rfl, q, hl⟩ | ⟨hj, b⟩
        · exact .inr ⟨0, c1, b0, l1, l2, rfl, rfl, hc, q⟩
        · exact .inl ⟨fun j q => by
            cases j with
            | zero => cases q; exact hj rfl
            | succ j => exact a j q, b⟩
      · rcases getSet d with ⟨rfl, q, hl⟩ | ⟨hj, d⟩
        · cases q
          exact .inr ⟨j + 1, c1, c', l, l2, a, b, hc, f⟩
        · exact .inr ⟨j + 1, c, c', l, l0, a, b, d, f⟩
    · cases e
  | .d x :: r, ρ, ρ2, [], i, y, e, h => by simp [backS] at e
  | .cell c :: r, ρ, ρ2, [], i, y, e, h => by simp [backS] at e
  | .cell c :: r, ρ, ρ2, .no :: s, i, y, e, h => by simp [backS] at e
  | .cell c :: r, ρ, ρ2, .sh _ :: s, i, y, e, h => by simp [backS] at e
open Classical in
/-- the state at the callee's entry, and the way back -/
theorem StR.inS {K : PySem.W.Frag} {mg : PySem.Str → Option Value} {π : Pi} {B R0 R H : Hp} {ρ : Rho} {σ : L2.St} {as : List A} {vs : List V} {ss : List S} (t : StR K mg π B R0 R H ρ σ) (ra : RepAs K mg R σ as vs) (hd : (cellsOf as).Nodup) (ea : argS ρ as = some ss) :
    ∃ (π' : Pi) (B' : Hp), StR K mg π' B' R R H ss (vs.map some) ∧ ∀ (s1 : List S) (ρ2 : Rho) (R' H' : Hp), backS ρ as s1 = some ρ2 → StR K mg π' B' R R' H' s1 (vs.map some) → StR K mg π B R0 R' H' ρ2 σ := by
  have lv := RepAs.len ra
  have ls := argS_len ea
  -- the cells' addresses
  have cel : ∀ {j c : Nat}, as[j]? = some (.cell c) → ∃ b l p ws, ρ[c]? = some (.own b l) ∧ ss[j]? = some (.own true l) ∧ vs[j]? = some (.ref p) ∧ σ[c]? = some (some (.ref p)) ∧ R p = none ∧ B p = none ∧ H p = some (.lst ws) ∧ RepL K mg R l ws := fun {j c} hj => by
    obtain ⟨v, hv, hr⟩ := ra.get hj
    have hr : σ[c]? = some (some v) := hr
    cases hs : ss[j]? with
    | none =>
      have := (List.getElem?_eq_some_iff.mp hj).1
      rw [List.getElem?_eq_none_iff] at hs
      omega
    | some x =>
      rcases argS_get ea hs with ⟨d, z, _⟩ | ⟨c', b, l, z, z1, z2⟩
      · rw [hj] at z; cases z
      · rw [hj] at z
        cases z
        obtain ⟨p, ws, e1, e2, e3, e4, e5, e6⟩ := t.own c b l z1
        rw [hr] at e1
        cases e1
        subst z2
        exact ⟨b, l, p, ws, z1, rfl, hv, hr, e2, e3, e4, e5⟩
  have tne : ∀ {p : Addr × PySem.Str}, p ∈ π.tabs → ∃ ps, H p.1 = some (.tbl ps) := fun hp => tabNe (t.tab _ hp).1
  let CA : Addr → Prop := fun b => (∃ j c : Nat, as[j]? = some (A.cell c) ∧ vs[j]? = some (V.ref b)) ∨ ∃ p ∈ π.tabs, p.1 = b
  let B' : Hp := fun b => if CA b then none else H b
  let π' : Pi := ⟨fun j => match vs[j]? with | some (.ref p) => p | _ => 0, π.tabs⟩
  have Bn : ∀ {b : Addr}, CA b → B' b = none := fun h => if_pos h
  have Bp : ∀ {b : Addr}, ¬ CA b → B' b = H b := fun h => if_neg h
  have CB : ∀ {b : Addr}, CA b → B b = none ∧ R b = none := fun {b} h => by
    rcases h with ⟨j, c, hj, hv⟩ | ⟨p, hp, e⟩
    · obtain ⟨_, _, p, _, _, _, h3, _, h5, h6, _⟩ := cel hj
      rw [hv] at h3
      cases h3
      exact ⟨h6, h5⟩
    · subst e
      exact ⟨(t.tab p hp).2.2, (t.tab p hp).2.1⟩
  refine ⟨π', B', ⟨.refl _, t.s, fun b o e => ?_, fun b h => .inl h, ⟨by rw [List.length_map, ls, lv], fun i d h => ?_⟩, fun i b l h => ?_, fun i j b c l m p h1 h2 h3 h4 => ?_, fun p hp => ?_⟩, fun s1 ρ2 R' H' eb st => ?_⟩
  · have e : (if CA b then none else H b) = some o := e
    split at e
    · cases e
    · exact e
  · rcases argS_get ea h with ⟨d', z, z1⟩ | ⟨c, b, l, z, z1, z2⟩
    · cases z1
      obtain ⟨v, hv, hr⟩ := ra.get z
      exact ⟨v, by rw [List.getElem?_map, hv]; rfl, hr⟩
    · cases z2
  · rcases argS_get ea h with ⟨d', z, z1⟩ | ⟨c, b', l', z, z1, z2⟩
    · cases z1
    · obtain ⟨b1, l1, p, ws, g1, g2, g3, g4, g5, g6, g7, g8⟩ := cel z
      rw [h] at g2
      cases g2
      refine ⟨p, ws, by rw [List.getElem?_map, g3]; rfl, g5, Bn (.inl ⟨i, c, z, g3⟩), g7, g8, fun _ => ?_⟩
      show p = match vs[i]? with | some (.ref p) => p | _ => 0
      rw [g3]
  · rcases argS_get ea h1 with ⟨d', z, z1⟩ | ⟨c1, b1, l1, z, z1, z2⟩
    · cases z1
    rcases argS_get ea h2 with ⟨d', y, y1⟩ | ⟨c2, b2, l2, y, y1, y2⟩
    · cases y1
    obtain ⟨_, _, p1, _, g1, _, g3, g4, _⟩ := cel z
    obtain ⟨_, _, p2, _, k1, _, k3, k4, _⟩ := cel y
    rw [List.getElem?_map, g3] at h3
    cases h3
    rw [List.getElem?_map, k3] at h4
    cases h4
    have e := t.di c1 c2 _ _ _ _ _ g1 k1 g4 k4
    subst e
    exact cells_inj hd z y
  · exact ⟨(t.tab p hp).1, (t.tab p hp).2.1, Bn (.inr ⟨p, hp, rfl⟩)⟩
  · have hB : ∀ b o, B b = some o → H' b = some o := fun b o e => by
      refine st.b b o ?_
      rw [Bp fun z => by rw [(CB z).1] at e; cases e]
      exact t.b _ _ e
    have hf : ∀ b, R' b ≠ none → R b ≠ none ∨ CA b ∨ H b = none := fun b h => by
      rcases st.f b h with z | z
      · exact .inl z
      · by_cases hc : CA b
        · exact .inr (.inl hc)
        · rw [Bp hc] at z
          exact .inr (.inr z)
    refine ⟨t.r0.trans st.r0, st.s, hB, fun b h => ?_, ⟨by rw [backS_len eb]; exact t.len, fun i d h => ?_⟩, fun i b l h => ?_, fun i j b c l m p h1 h2 h3 h4 => ?_, fun p hp => ?_⟩
    · rcases hf b h with z | z | z
      · exact t.f b z
      · exact .inr (CB z).1
      · exact .inr (t.b.free z)
    · rcases backS_get eb h with ⟨_, z⟩ | ⟨_, _, _, _, _, _, _, _, z⟩
      · obtain ⟨v, h1, h2⟩ := t.env.get i d z
        exact ⟨v, h1, Rep.mono st.r0 d v h2⟩
      · cases z
    · rcases backS_get eb h with ⟨n, z⟩ | ⟨j, c, c', l', l0, z1, z2, z3, z4⟩
      · obtain ⟨p, ws, e1, e2, e3, e4, e5, e6⟩ := t.own i b l z
        have nc : ¬ CA p := fun y => by
          rcases y with ⟨j, c, hj, hv⟩ | ⟨q, hq, e⟩
          · obtain ⟨b1, l1, p1, ws1, g1, g2, g3, g4, _⟩ := cel hj
            rw [hv] at g3
            cases g3
            have e := t.di i c _ _ _ _ _ z g1 e1 g4
            subst e
            exact n j hj
          · obtain ⟨ps, y⟩ := tne hq
            rw [e, e4] at y
            cases y
        refine ⟨p, ws, e1, ?_, e3, st.b p _ (by rw [Bp nc]; exact e4), RepL.mono st.r0 l ws e5, e6⟩
        cases q : R' p with
        | none => rfl
        | some o =>
          rcases hf p (by rw [q]; exact fun z => nomatch z) with y | y | y
          · exact absurd e2 y
          · exact absurd y nc
          · rw [e4] at y; cases y
      · cases z4
        obtain ⟨b1, l1, p, ws, g1, g2, g3, g4, g5, g6, g7, g8⟩ := cel z1
        obtain ⟨p', ws', k1, k2, k3, k4, k5, k6⟩ := st.own j c' l z2
        rw [List.getElem?_map, g3] at k1
        cases k1
        refine ⟨p, ws', g4, k2, g6, k4, k5, fun hb => ?_⟩
        obtain ⟨p2, ws2, q1, _, _, _, _, q6⟩ := t.own i b l0 z3
        rw [g4] at q1
        cases q1
        exact q6 hb
    · have back : ∀ {i : Nat} {b : Bool} {l : List D}, ρ2[i]? = some (.own b l) → ∃ b' l', ρ[i]? = some (.own b' l') := fun {i b l} h => by
        rcases backS_get eb h with ⟨_, z⟩ | ⟨_, c, _, _, l0, _, _, z, _⟩
        · exact ⟨b, l, z⟩
        · exact ⟨c, l0, z⟩
      obtain ⟨b', l', g1⟩ := back h1
      obtain ⟨c', m', g2⟩ := back h2
      exact t.di i j _ _ _ _ p g1 g2 h3 h4
    · obtain ⟨g1, g2, g3⟩ := st.tab p hp
      exact ⟨g1, g2, (t.tab p hp).2.2⟩
section
variable {X : Cx} {a b c e : Expr} {es : List Expr} {ga : G} {gl : GL} {gm gm' gm'' : GM} {gs : GA} {pos p apos cpos : Pos}
theorem em_callR {k j n : Nat} {x : PySem.Str} {f : Nat → List S → Option (D × List S)} (F : FnB X.prog X.w X.K X.mg X.base k x n f) (hr : RoomG j X.A) (m : Nat) (ha : EML X (e :: es) gs) (hk : k ≤ j := by decide) (hl : (e :: es).length = n := by rfl) (hg : Gl X x := by rfl)
    (hdb : (x == ("__debug__" : PySem.Str)) = false := by decide) (he : starEach (e :: es) X.env = (false, eval e X.env) :: starEach es X.env := by rfl) (hpl : (backTo pos (starEach es X.env)).any (·.1) = false := by rfl) :
    EM X (.Call (.Name x p) (e :: es) [] pos) (mR (f m) gs) := by
  obtain ⟨fa, fd, ps, h1, h2, h3, h4, h5⟩ := F.ex
  obtain ⟨t, pt, qt⟩ := ha.ex
  refine ⟨_, pe_callG (h1.mono hk) hr hg h3 h4 h5 .nil pass0 pt hdb he hpl, fun π B R0 R H ρ ρ' σ d Q st e kk => ?_⟩
  obtain ⟨⟨as, ρ1⟩, e1, e⟩ := bind_some e
  have e : (if (cellsOf as).Nodup then (argS ρ1 as).bind fun ss => (f m ss).bind fun y => (backS ρ1 as y.2).map fun ρ' => (y.1, ρ') else none) = some (d, ρ') := e
  split at e
  case isFalse => cases e
  rename_i hd
  obtain ⟨ss, e2, e⟩ := bind_some e
  obtain ⟨⟨d', s1⟩, e3, e⟩ := bind_some e
  obtain ⟨ρ2, e4, e5⟩ := map_some e
  cases e5
  refine qt π B R0 R H ρ ρ1 σ as _ st e1 fun vs R1 H1 st1 sm r1 => ?_
  rw [List.append_nil]
  obtain ⟨π', B', st2, back⟩ := st1.inS r1 hd e2
  refine ⟨by rw [RepAs.len r1, ha.len _ _ _ e1]; exact hl, m, π', B', R1, ss, s1, d', st2, e3, fun v R2 H2 st3 r2 => ?_⟩
  exact kk v R2 H2 (back s1 _ R2 H2 e4 st3) (sm.trans st3.r0) r2

/-! ### statements over expressions that change -/
def sSetM (i : Nat) (g : GM) : GS := fun ρ => (g ρ).map fun x => .nx (x.2.set i (.sh x.1))
theorem sv_setM (i : Nat) {x : PySem.Str} {pos' : Pos} (hN : X.N.Nodup) (he : EM X e gm) (hi : X.N[i]? = some x := by rfl) (hx : Loc X.env.scope x := by first | exact Or.inl rfl | exact Or.inr rfl) (hs : swapsWith e (some (.Name x pos')) pos.line X.env = pure false := by rfl)
    (hf : X.fn x = true ∨ X.env.scope.names.lookup x = some .local := by first | exact .inl rfl | exact .inr rfl) : SV X (.Assign [.Name x pos'] e pos) (sSetM i gm) := by
  obtain ⟨t, p, q⟩ := he.ex
  refine ⟨_, ps_set hN hi hx p hs hf, fun π B R0 R H ρ σ o D st e k => ?_⟩
  obtain ⟨⟨d, ρ1⟩, e1, e2⟩ := map_some e
  subst e2
  exact q π B R0 R H ρ ρ1 σ d _ st e1 fun v R1 H1 st1 s1 r1 => k _ R1 H1 (st1.setSh i r1)
def sTgM (q : Pat) (g : GM) : GS := fun ρ => (g ρ).bind fun x => (asg q x.1 x.2).map .nx
theorem sv_tgM {tg : Expr} {q : Pat} (he : EM X e gm) (hg : TGV X tg q) (hs : swapsWithSole [tg] e pos.line X.env = pure false := by rfl) (hw : swappedStores [tg] e X.env = pure none := by rfl) (h1 : (assignEach [tg] X.env).map (·.2) = [assign tg X.env] := by rfl) : SV X (.Assign [tg] e pos) (sTgM q gm) := by
  obtain ⟨t, p, qq⟩ := he.ex
  obtain ⟨g, pg, qg⟩ := hg.ex
  refine ⟨_, ps_asg p pg hs hw h1, fun π B R0 R H ρ σ o D st e k => ?_⟩
  obtain ⟨⟨d, ρ1⟩, e1, e2⟩ := bind_some e
  obtain ⟨ρ2, e3, e4⟩ := map_some e2
  subst e4
  exact qq π B R0 R H ρ ρ1 σ d _ st e1 fun v R1 H1 st1 s1 r1 => qg π B R0 R1 H1 ρ1 ρ2 σ d v _ st1 r1 e3 fun σ' R' H' st' _ => k σ' R' H' st'
/-- store[i] = .. , a list of one's own -/
theorem tg_ix (i : Nat) {x : PySem.Str} {idx : Expr} {p2 : Pos} (hi : EV X idx ga) (hN : X.N[i]? = some x := by rfl) (hv : Vis X.env.scope x := by first | exact Or.inl rfl | exact Or.inr (Or.inl rfl) | exact Or.inr (Or.inr rfl)) (hd : (x == ("__debug__" : PySem.Str)) = false := by decide)
    (hcd : (x == ("__classdict__" : PySem.Str)) = false := by decide)
    (ha : ∀ v, assign (.Subscript (.Name x p2) idx pos) X.env v = (do
      let ov ← holding [v] (eval (.Name x p2) X.env)
      let iv ← holding [v, ov] (eval idx X.env)
      standAt pos
      holding [v, ov, iv] (setItem ov iv v)
      release [v, ov, iv] []) := by intro _; rfl) : TGV X (.Subscript (.Name x p2) idx pos) (.ix i ga) := by
  obtain ⟨t, p, q⟩ := hi.ex
  refine ⟨_, pg_sub (pe_var hN hv hd hcd) p set_list ha, fun π B R0 R H ρ ρ' σ d v Q st r e k => ?_⟩
  have e : (match ρ[i]? with
    | some (.own c l) => (ga (peek ρ)).bind fun x => match x with
      | .int n => (L2.ixN l.length n).map fun j => ρ.set i (.own c (l.set j d))
      | _ => none
    | _ => none) = some ρ' := e
  split at e
  case h_2 => cases e
  rename_i c l hc
  obtain ⟨y, e1, e2⟩ := bind_some e
  cases y with
  | int n =>
    obtain ⟨j, e3, e4⟩ := map_some e2
    subst e4
    obtain ⟨a, vs, g1, g2, g3, g4, g5, g6⟩ := st.own i c l hc
    refine ⟨.ref a, g1, ?_⟩
    obtain ⟨R1, s1, st1, f1⟩ := st.peek
    refine q (peek ρ) σ R1 H _ _ st1.env st1.s e1 fun w R2 H2 x2 r2 => ?_
    obtain ⟨R3, st3, a1, a2, a3, a4⟩ := st.unpeek s1 f1 x2
    refine ⟨a, vs, n, j, rfl, r2, x2.h _ _ g4, by rw [RepL.length g5]; exact e3, ?_⟩
    exact k σ R3 _ (st3.write hc g1 (RepL.set (Rep.mono a1 d v r) j (RepL.mono a1 l vs g5))) a1
  | _ => cases e2
def sParM (i j : Nat) (g : GA) : GS := fun ρ => (g ρ).bind fun x => (allD x.1).bind fun l => match l with
  | [a, b] => some (.nx ((x.2.set i (.sh a)).set j (.sh b)))
  | _ => none
theorem sv_parM (i j : Nat) {x y : PySem.Str} {a b : Expr} {px py pt pt2 : Pos} {kt k2 : Nat} (hc : X.calm = true) (hN : X.N.Nodup) (ha : EML X [a, b] gs)
    (hw : swappedStores [.Tuple [.Name x px, .Name y py] kt pt] (.Tuple [a, b] k2 pt2) X.env = pure (some [x, y])) (hi : X.N[i]? = some x := by rfl) (hj : X.N[j]? = some y := by rfl) (hij : i ≠ j := by decide)
    (hx : X.env.scope.names.lookup x = some .local := by rfl) (hy : X.env.scope.names.lookup y = some .local := by rfl)
    (hs : swapsWithSole [.Tuple [.Name x px, .Name y py] kt pt] (.Tuple [a, b] k2 pt2) pos.line X.env = pure false := by rfl) :
    SV X (.Assign [.Tuple [.Name x px, .Name y py] kt pt] (.Tuple [a, b] k2 pt2) pos) (sParM i j gs) := by
  obtain ⟨t, p, qq⟩ := ha.ex
  refine ⟨_, ps_par hc hN hi hj hij hx hy p hw hs, fun π B R0 R H ρ σ o D st e k => ?_⟩
  obtain ⟨⟨as, ρ1⟩, e1, e⟩ := bind_some e
  obtain ⟨l, e2, e⟩ := bind_some e
  match l, e2, e with
  | [a', b'], e2, e =>
    cases e
    refine qq π B R0 R H ρ ρ1 σ as _ st e1 fun vs R2 H2 st2 s2 r2 => ?_
    obtain ⟨v, w, e3, h1, h2⟩ := repL2 (allD_rep e2 r2)
    exact ⟨v, w, e3, k _ R2 H2 ((st2.setSh i h1).setSh j h2)⟩
def sPar3M (i j n : Nat) (g : GA) : GS := fun ρ => (g ρ).bind fun x => (allD x.1).bind fun l => match l with
  | [a, b, c] => some (.nx (((x.2.set i (.sh a)).set j (.sh b)).set n (.sh c)))
  | _ => none
theorem repL3 {K : PySem.W.Frag} {mg : PySem.Str → Option Value} {R : Hp} {d d' d'' : D} {vs : List V} (h : RepL K mg R [d, d', d''] vs) : ∃ v v' v'', vs = [v, v', v''] ∧ Rep K mg R d v ∧ Rep K mg R d' v' ∧ Rep K mg R d'' v'' := by
  obtain ⟨v, ws, rfl, h1, v', ws', rfl, h2, v'', ws'', rfl, h3, h4⟩ := h
  rw [show ws'' = [] from h4]
  exact ⟨v, v', v'', rfl, h1, h2, h3⟩
theorem sv_par3M (i j n : Nat) {x y z : PySem.Str} {a b c : Expr} {px py pz pt pt2 : Pos} {kt k2 : Nat} (hc : X.calm = true) (hN : X.N.Nodup) (ha : EML X [a, b, c] gs)
    (hw : swappedStores [.Tuple [.Name x px, .Name y py, .Name z pz] kt pt] (.Tuple [a, b, c] k2 pt2) X.env = pure (some [x, y, z])) (hi : X.N[i]? = some x := by rfl) (hj : X.N[j]? = some y := by rfl) (hn : X.N[n]? = some z := by rfl) (hij : i ≠ j := by decide) (hin : i ≠ n := by decide) (hjn : j ≠ n := by decide)
    (hx : X.env.scope.names.lookup x = some .local := by rfl) (hy : X.env.scope.names.lookup y = some .local := by rfl) (hz : X.env.scope.names.lookup z = some .local := by rfl)
    (hs : swapsWithSole [.Tuple [.Name x px, .Name y py, .Name z pz] kt pt] (.Tuple [a, b, c] k2 pt2) pos.line X.env = pure false := by rfl) :
    SV X (.Assign [.Tuple [.Name x px, .Name y py, .Name z pz] kt pt] (.Tuple [a, b, c] k2 pt2) pos) (sPar3M i j n gs) := by
  obtain ⟨t, p, qq⟩ := ha.ex
  refine ⟨_, ps_par3 hc hN hi hj hn hij hin hjn hx hy hz p hw hs, fun π B R0 R H ρ σ o D st e k => ?_⟩
  obtain ⟨⟨as, ρ1⟩, e1, e⟩ := bind_some e
  obtain ⟨l, e2, e⟩ := bind_some e
  match l, e2, e with
  | [a', b', c'], e2, e =>
    cases e
    refine qq π B R0 R H ρ ρ1 σ as _ st e1 fun vs R2 H2 st2 s2 r2 => ?_
    obtain ⟨v, w, u, e3, h1, h2, h3⟩ := repL3 (allD_rep e2 r2)
    exact ⟨v, w, u, e3, k _ R2 H2 (((st2.setSh i h1).setSh j h2).setSh n h3)⟩
def sRetM (g : GM) : GS := fun ρ => (g ρ).map fun x => .rt x.1 x.2
theorem sv_retM (he : EM X e gm) : SV X (.Return (some e) pos) (sRetM gm) := by
  obtain ⟨t, p, q⟩ := he.ex
  refine ⟨_, ps_ret p, fun π B R0 R H ρ σ o D st e k => ?_⟩
  obtain ⟨⟨d, ρ1⟩, e1, e2⟩ := map_some e
  subst e2
  exact q π B R0 R H ρ ρ1 σ d _ st e1 fun v R1 H1 st1 s1 r1 => k v σ R1 H1 st1 r1
def sDropM (g : GM) : GS := fun ρ => (g ρ).map fun x => .nx x.2
theorem sv_dropM (he : EM X e gm) (hs : swapsWith e none pos.line X.env = pure false := by rfl) : SV X (.Expr e pos) (sDropM gm) := by
  obtain ⟨t, p, q⟩ := he.ex
  refine ⟨_, ps_expr p hs, fun π B R0 R H ρ σ o D st e k => ?_⟩
  obtain ⟨⟨d, ρ1⟩, e1, e2⟩ := map_some e
  subst e2
  exact q π B R0 R H ρ ρ1 σ d _ st e1 fun v R1 H1 st1 s1 r1 => k σ R1 H1 st1
def sIfM (t : GBM) (a b : GS) : GS := fun ρ => (t ρ).bind fun x => if x.1 = true then a x.2 else b x.2
theorem sv_ifM {a b : List Stmt} {gt : GBM} {g g' : GS} (h : TM X c gt) (ha : SVs X a g) (hb : SVs X b g') : SV X (.If c a b pos) (sIfM gt g g') := by
  obtain ⟨t, p, qq⟩ := h.ex
  obtain ⟨ta, pa, qa⟩ := ha.ex
  obtain ⟨tb, pb, qb⟩ := hb.ex
  refine ⟨_, ps_if p pa pb, fun π B R0 R H ρ σ o D st e k => ?_⟩
  obtain ⟨⟨b, ρ1⟩, e1, e2⟩ := bind_some e
  refine qq π B R0 R H ρ ρ1 σ b _ st e1 fun R2 H2 st2 s2 => ?_
  have post : ∀ {o : Out}, Post X.K X.mg π B R0 o D → Post X.K X.mg π B R0 o D := id
  cases b with
  | true => exact iteT (qa π B R0 R2 H2 ρ1 σ o D st2 e2 k)
  | false => exact iteF (qb π B R0 R2 H2 ρ1 σ o D st2 e2 k)
/-- x.append(e) -/
def mApp (i : Nat) (g : GM) : GM := fun ρ => match ρ[i]? with
  | some (.own _ _) => (g ρ).bind fun x => match x.2[i]? with
    | some (.own c l) => if l.length < 1000 then some (.non, x.2.set i (.own c (l ++ [x.1]))) else none
    | _ => none
  | _ => none
theorem em_app (i : Nat) {x : PySem.Str} {p2 apos cpos : Pos} (he : EM X e gm) (hN : X.N[i]? = some x := by rfl) (hv : Vis X.env.scope x := by first | exact Or.inl rfl | exact Or.inr (Or.inl rfl) | exact Or.inr (Or.inr rfl)) (hd : (x == ("__debug__" : PySem.Str)) = false := by decide)
    (hcd : (x == ("__classdict__" : PySem.Str)) = false := by decide)
    (hbase : attributeBase (.Name x p2) "append" X.env (eval (.Name x p2) X.env) = eval (.Name x p2) X.env := by rfl)
    (hfew : ((backTo cpos (starEach [e] X.env)).all (fun x => !x.1) && (backToKw cpos (keywordEach [] X.env)).all (fun x => x.1.isSome)
      && decide (([e] : List Expr).length + ([] : List Keyword).length + (if ([] : List Keyword).isEmpty then 0 else 1) < 30)) = true := by rfl)
    (hline : (apos.endLine == cpos.line) = true := by rfl) (hs : starEach [e] X.env = (false, eval e X.env) :: starEach [] X.env := by rfl) (hplain : (backTo cpos (starEach [] X.env)).any (·.1) = false := by rfl) :
    EM X (.Call (.Attribute (.Name x p2) "append" apos) [e] [] cpos) (mApp i gm) := by
  obtain ⟨t, p, q⟩ := he.ex
  refine ⟨_, pe_bm PySem.F.plainAttrs_list PySem.F.slot_list_append PySem.F.type_list_append mt_append (pe_var hN hv hd hcd) (pa_cons p pa_nil hs) hbase hfew hline hs hplain, fun π B R0 R H ρ ρ' σ d Q st e k => ?_⟩
  have e : (match ρ[i]? with
    | some (.own _ _) => (gm ρ).bind fun x => match x.2[i]? with
      | some (.own c l) => if l.length < 1000 then some (.non, x.2.set i (.own c (l ++ [x.1]))) else none
      | _ => none
    | _ => none) = some (d, ρ') := e
  split at e
  case h_2 => cases e
  rename_i c0 l0 hc0
  obtain ⟨⟨y, ρ1⟩, e1, e⟩ := bind_some e
  have e : (match ρ1[i]? with
      | some (.own c l) => if l.length < 1000 then some (D.non, ρ1.set i (.own c (l ++ [y]))) else none
      | _ => none) = some (d, ρ') := e
  split at e
  case h_2 => cases e
  rename_i c l hc
  obtain ⟨hlt, e⟩ := ite_some e
  cases e
  obtain ⟨a, vs, g1, g2, g3, g4, g5, g6⟩ := st.own i c0 l0 hc0
  refine ⟨.ref a, g1, .inl ⟨rfl, _, .inl (.inl g4)⟩, ?_⟩
  refine q π B R0 R H ρ ρ1 σ y _ st e1 fun v R1 H1 st1 s1 r1 => ?_
  obtain ⟨a2, vs2, k1, k2, k3, k4, k5, k6⟩ := st1.own i c l hc
  rw [g1] at k1
  cases k1
  refine ⟨a, vs2, v, rfl, rfl, k4, small1000 (by rw [RepL.length k5]; omega), ?_⟩
  exact k _ R1 _ (st1.write hc g1 (RepL.append k5 ⟨v, [], rfl, r1, rfl⟩)) s1 rfl
/-- x.pop() -/
def mPop (i : Nat) : GM := fun ρ => match ρ[i]? with
  | some (.own c l) => (l[l.length - 1]?).map fun d => (d, ρ.set i (.own c l.dropLast))
  | _ => none
theorem RepL.dropLast {K : PySem.W.Frag} {mg : PySem.Str → Option Value} {R : Hp} {l : List D} {vs : List V} (r : RepL K mg R l vs) : RepL K mg R l.dropLast vs.dropLast := by
  rw [List.dropLast_eq_take, List.dropLast_eq_take, RepL.length r]
  exact RepL.take _ r
theorem em_pop (i : Nat) {x : PySem.Str} {p2 apos cpos : Pos} (hN : X.N[i]? = some x := by rfl) (hv : Vis X.env.scope x := by first | exact Or.inl rfl | exact Or.inr (Or.inl rfl) | exact Or.inr (Or.inr rfl)) (hd : (x == ("__debug__" : PySem.Str)) = false := by decide)
    (hcd : (x == ("__classdict__" : PySem.Str)) = false := by decide)
    (hbase : attributeBase (.Name x p2) "pop" X.env (eval (.Name x p2) X.env) = eval (.Name x p2) X.env := by rfl) (hline : (apos.endLine == cpos.line) = true := by rfl) :
    EM X (.Call (.Attribute (.Name x p2) "pop" apos) [] [] cpos) (mPop i) := by
  refine ⟨_, pe_bm0 PySem.F.plainAttrs_list PySem.F.slot_list_pop PySem.F.type_list_pop mt_pop (pe_var hN hv hd hcd) hbase hline, fun π B R0 R H ρ ρ' σ d Q st e k => ?_⟩
  have e : (match ρ[i]? with
    | some (.own c l) => (l[l.length - 1]?).map fun d => (d, ρ.set i (.own c l.dropLast))
    | _ => none) = some (d, ρ') := e
  split at e
  case h_2 => cases e
  rename_i c l hc
  obtain ⟨y, e1, e2⟩ := map_some e
  cases e2
  obtain ⟨a, vs, g1, g2, g3, g4, g5, g6⟩ := st.own i c l hc
  obtain ⟨v, h1, h2⟩ := RepL.get g5 e1
  refine ⟨.ref a, g1, .inl ⟨rfl, _, .inl (.inl g4)⟩, a, vs, v, rfl, rfl, g4, by rw [RepL.length g5]; exact h1, ?_⟩
  exact k v R _ (st.write hc g1 (RepL.dropLast g5)) (.refl _) h2
/-! ### a list made afresh, handed in -/
def gRf (f : List S → Option (D × List S)) (g : GL) : G := fun ρ => (g ρ).bind fun l => (f [.own true l]).map (·.1)
theorem ev_callF {k j : Nat} {x : PySem.Str} {f : Nat → List S → Option (D × List S)} (F : FnB X.prog X.w X.K X.mg X.base k x 1 f) (hr : RoomG j X.A) (m : Nat) (he : EVF X e gl) (hk : k ≤ j := by decide) (hg : Gl X x := by rfl)
    (hdb : (x == ("__debug__" : PySem.Str)) = false := by decide) (hst : starEach [e] X.env = (false, eval e X.env) :: starEach [] X.env := by rfl) (hpl : (backTo pos (starEach [] X.env)).any (·.1) = false := by rfl) :
    EV X (.Call (.Name x p) [e] [] pos) (gRf (f m) gl) := by
  obtain ⟨fa, fd, ps, h1, h2, h3, h4, h5⟩ := F.ex
  obtain ⟨t, pt, qt⟩ := he.ex
  refine ⟨_, pe_callG (h1.mono hk) hr hg h3 h4 h5 .nil pass0 (pa_cons pt pa_nil hst) hdb hst hpl, fun ρ σ R H d Q en s e kk => ?_⟩
  obtain ⟨l, e1, e⟩ := bind_some e
  obtain ⟨⟨d', s1⟩, e2, e3⟩ := map_some e
  cases e3
  refine qt ρ σ R H l _ en s e1 fun p vs R1 H1 x1 hR hH hp r1 => ?_
  refine ⟨rfl, m, ⟨fun _ => p, []⟩, H, R1, [.own true l], s1, _, ?_, e2, fun v R2 H2 st2 r2 => ?_⟩
  · refine ⟨.refl _, x1.s, x1.h, fun b h => .inl h, ⟨rfl, fun i d h => ?_⟩, fun i b l' h => ?_, fun i j b c l' m' p h1 h2 _ _ => ?_, fun q hq => absurd hq (by simp)⟩
    · cases i with
      | zero => cases h
      | succ i => cases h
    · cases i with
      | zero => cases h; exact ⟨p, vs, rfl, hR, hH, hp, r1, fun _ => rfl⟩
      | succ i => cases h
    · cases i with
      | zero =>
        cases j with
        | zero => rfl
        | succ j => cases h2
      | succ i => cases h1
  · refine kk v R2 H2 ⟨x1.r.trans st2.r0, st2.b, st2.s, fun b hb => ?_⟩ r2
    rcases st2.f b hb with z | z
    · exact x1.f b z
    · exact .inr z
end
end DL

set_option Elab.async false
set_option linter.all false
set_option maxRecDepth 100000
set_option maxHeartbeats 2000000
/-! DX1: an own exception class with its own __init__, called with keywords (after the kit's call_own). -/
namespace PySem
namespace HandSPK
open Builtin Builtin.ObjectAttr HandSPX
section
variable {M : Model} {A : Around} {E : Value → Shared → Prop} {h : Heap} {g : Array GenState} {d : Drawn} {t : Nat} {os : OsState}
variable {nm q : Str} {C N : Addr} {bs bm bmB : List Value} {hdct : Bool} {sn : List Str} {sub : List Value} {ab : Bool} {col : Option Bool} {dd : Option Addr} {k0 k1 k2 k3 k5 : Option Value} {B newId initId : String} {kw : List (Str × Value)}
theorem check_new_own (F : ExcBaseFacts B newId initId bmB) (hT : ∀ X : String, bm.contains (.type X) = bmB.contains (.type X)) {rest : List Value} {Q : Unit → Shared → Prop}
    (hC : h.get? C = some (excClassObj nm q C N bs bm hdct sn sub ab col dd k0 k1 k2 k3 k5 newId)) (hq : Q () ⟨h, g, d, t, os⟩) : wpAny M A (checkBuiltinCall newId ⟨.ref C :: rest, kw⟩) Q E ⟨h, g, d, t, os⟩ := by
  have hcont : (Value.ref C :: bm).contains (.type B) = true := by rw [List.contains_cons, hT, F.hasB, Bool.or_true]
  have hstar := F.noStar
  simp only [checkBuiltinCall, F.newKind, F.newSplit, F.newRow]
  repeat (first | refine wpAny_loadPart_at hC ?_ | (refine wpAny_isSubtype_exc hC ?_; rw [hcont]) | refine wpAny_staticBase_exc hC ?_ | refine wpAny_madeBy_exc hC ?_ | simp only [bne_self_eq_false, Bool.false_eq_true, if_false] | wp_step)
  exact hq
end
section
variable {prog : Program} {w : World} {A : Around} {E : Value → Shared → Prop} {R : Result → Shared → Prop} {h : Heap} {g : Array GenState} {d : Drawn} {t : Nat} {os : OsState}
variable {nm q : Str} {C N : Addr} {bs bm bmB : List Value} {hdct : Bool} {sn : List Str} {sub : List Value} {ab : Bool} {col : Option Bool} {dd : Option Addr} {k0 k1 k2 k3 k5 : Option Value} {B newId initId : String} {kw : List (Str × Value)}
theorem new_own (F : ExcBaseFacts B newId initId bmB) (hT : ∀ X : String, bm.contains (.type X) = bmB.contains (.type X)) {rest : List Value}
    (hC : h.get? C = some (excClassObj nm q C N bs bm hdct sn sub ab col dd k0 k1 k2 k3 k5 newId))
    (hq : R (.ok (.ret (.ref (h.objs.size + 1)))) ⟨(h.push { cls := .type "tuple", data := .seq rest.toArray }).push
      { cls := .ref C, data := .fields #[.ref h.objs.size, .none, .none, .none, .bool false, .none] }, g, d, t, os⟩) (hrest : rest.length ≤ sizeLine) :
    codeAny (model prog w) A (.builtin newId ⟨.ref C :: rest, kw⟩) R ⟨h, g, d, t, os⟩ := by
  have hends := F.ends
  have hcB : (Value.ref C :: bm).contains (.type B) = true := by rw [List.contains_cons, hT, F.hasB, Bool.or_true]
  have hcA : (Value.ref C :: bm).contains (.type "AttributeError") = false := by rw [List.contains_cons, hT, F.noAttr]; rfl
  have hcN : (Value.ref C :: bm).contains (.type "NameError") = false := by rw [List.contains_cons, hT, F.noName]; rfl
  refine codeAny_builtinAt F.entry ?_
  unfold Builtin.«BaseException.__new__»
  refine wpAt_bind ?_
  show wpAt _ _ _ (stack >>= _) _ _ _
  refine wpAt_bind (wpAt_stack fun p below => wpAt_of_wpAny ?_)
  wp_walk
  refine wpAt_of_wpAny ?_
  rw [F.owner]
  repeat (first | with_reducible refine wpAny_madeHere_exc F.canon hC ?_ | with_reducible refine wpAny_loadPart_at hC ?_ | (with_reducible refine wpAny_isSubtype_exc hC ?_; first | rw [hcB] | rw [hcA] | rw [hcN]) | wp_step)
  show R _ _
  rw [Heap.size_push]
  exact hq
theorem type_call_own (F : ExcBaseFacts B newId initId bmB) (hT : ∀ X : String, bm.contains (.type X) = bmB.contains (.type X)) {rest : List Value} {fI : Addr} {Q : Fin → Shared → Prop}
    (hC : h.get? C = some (excClassObj nm q C N bs bm hdct sn sub ab col dd k0 k1 k2 k3 k5 newId))
    (hi : W.Looks (model prog w) h (typeLookup (.ref C) "__init__") (some (.ref fI))) (hb : ∀ self, W.Looks (model prog w) h (bindSpecial (.ref fI) self) (.ref fI, [self])) (hrest : rest.length ≤ sizeLine)
    (hq : codeAny (model prog w) A (.call (.ref fI) ⟨.ref (h.objs.size + 1) :: rest, kw⟩)
      (fun r s' => match r with | .ok (.ret v) => v = .none ∧ Q (.done (.ret (.ref (h.objs.size + 1)))) s' | .ok _ => False | .error e => E e s')
      ⟨(h.push (W.kdv_tup rest)).push (excO C h.objs.size), g, d, t, os⟩) :
    wpAny (model prog w) A (Builtin.«type.__call__» ⟨.ref C :: rest, kw⟩) Q E ⟨h, g, d, t, os⟩ := by
  repeat (first | with_reducible refine wpAny_loadPart_at hC ?_ | with_reducible refine wpAny_madeBy_exc hC ?_ | wp_step)
  refine codeAny_call_builtin_code (Code.quiet_builtin _ F.quiet) (check_new_own F hT hC ?_)
  refine new_own F hT hC ?_ hrest
  show wpAny _ _ _ _ _ _
  have k : ∀ b o, h.get? b = some o → ((h.push (W.kdv_tup rest)).push (excO C h.objs.size)).get? b = some o := fun b o e => Heap.get?_push_of_some _ (Heap.get?_push_of_some _ e)
  have hC₁ := k _ _ hC
  have hget : ((h.push (W.kdv_tup rest)).push (excO C h.objs.size)).get? (h.objs.size + 1) = some (excO C h.objs.size) := by heap_get
  have hcC : (Value.ref C :: bm).contains (.ref C) = true := by simp
  have i1 := hi.keeps k
  have b1 := (hb (.ref (h.objs.size + 1))).keeps k
  unfold isInstance
  repeat (first | with_reducible refine wpAny_loadPart_at hget ?_ | (with_reducible refine wpAny_isSubtype_exc hC₁ ?_; rw [hcC]) | wp_step)
  show wpAny _ _ (typeLookup (.ref C) _) _ _ _
  refine i1.at ?_
  refine wpAny_holding (wpAny_bind (b1.at ?_))
  refine wpAny_bind (wpAny_call (codeAny_mono hq fun r s' z => ?_))
  rcases r with e | (v | _ | _ | _) <;> first | exact z | exact z.elim | skip
  obtain ⟨rfl, z⟩ := z
  first
    | exact wpAny_pure (wpAny_pure z)
    | (wp_walk; exact z)
theorem call_own (F : ExcBaseFacts B newId initId bmB) (hT : ∀ X : String, bm.contains (.type X) = bmB.contains (.type X)) {rest : List Value} {fI : Addr}
    (hC : h.get? C = some (excClassObj nm q C N bs bm hdct sn sub ab col dd k0 k1 k2 k3 k5 newId))
    (hi : W.Looks (model prog w) h (typeLookup (.ref C) "__init__") (some (.ref fI))) (hb : ∀ self, W.Looks (model prog w) h (bindSpecial (.ref fI) self) (.ref fI, [self])) (hrest : rest.length ≤ sizeLine)
    (hq : codeAny (model prog w) (A.under (.builtin "type.__call__" ⟨.ref C :: rest, kw⟩)) (.call (.ref fI) ⟨.ref (h.objs.size + 1) :: rest, kw⟩) (W.InitBack (h.objs.size + 1) R)
      ⟨(h.push (W.kdv_tup rest)).push (excO C h.objs.size), g, d, t, os⟩) :
    codeAny (model prog w) A (.call (.ref C) ⟨rest, kw⟩) R ⟨h, g, d, t, os⟩ := by
  have f1 := tc_lookup
  have f2 := tc_bind (.ref C)
  have hTy : (⟨h, g, d, t, os⟩ : Shared).TypeIs (.ref C) "type" := ⟨_, hC, rfl⟩
  refine codeAny_of_tree ?_
  show wpAny _ _ (callAny (.ref C) _) _ _ _
  repeat (any_goals (first | assumption | with_reducible refine wpAny_loadPart_at hC ?_ | wp_step))
  refine ⟨rfl, ?_⟩
  refine codeAny_call_builtin_at (Code.quiet_builtin _ (by decide +kernel)) entry_typeCall (wpAny_check_type_call_sub hC (type_call_own F hT hC hi hb hrest ?_))
  refine codeAny_mono hq fun r s' z => ?_
  rcases r with e | (v | _ | _ | _) <;> exact z
end
end HandSPK
end PySem

set_option Elab.async false
set_option linter.all false
set_option maxRecDepth 100000
set_option maxHeartbeats 4000000
/-! DX2: isinstance of an own exception that is held as a value, with or without a dict (after the kit's ExcIs). -/
namespace PySem.W
open PySem PySem.Spec PySem.Calls PyProof.Rows
section
variable {prog : Program} {w : World} {A : Around} {E : Value → Shared → Prop} {s : Shared} {K : Frag} {x D : Addr} {ox : Obj} {od : Option Obj}
theorem findObj_dataO {C : Addr} {name : Str} {a g : Value} (hc : (clsIn K C).isSome = true) (ha : findIn K (.ref C) name = some (some a)) (hg : specialIn K a "__get__" = some (some g)) (ht : takesIn K a = some true) : findObj K C od name = some (.bind g a) := by
  obtain ⟨cd, hc⟩ := Option.isSome_iff_exists.mp hc
  unfold findObj
  rw [hc, Option.bind_some, ha, Option.bind_some]
  simp [hg, ht]
theorem kin_classO {Q : Option Value → Shared → Prop} (hga : findIn K (.ref D) "__getattribute__" = some (some (.builtin "BaseException.__getattribute__"))) (hgt : findIn K (.ref D) "__getattr__" = some none) (hsub : subIn K (.ref D) (.type "BaseException") = some true)
    (hdct : hasDictIn K D = true) (ha : findIn K (.ref D) "__class__" = some (some (.builtin "object.__class__")))
    (hn : specialIn K (.builtin "object.__class__") "__get__" = some (some (.builtin "getset_descriptor.__get__"))) (htk : takesIn K (.builtin "object.__class__") = some true) (hm : mroIn K D (.type "object") = some true)
    (X : K.In s.heap) (I : InstAt s.heap x ox D od) (h : Q (some (.ref D)) { s with toks := s.toks + 1 }) : wpAny (model prog w) A (getAttr? (.ref x) "__class__") Q E s := by
  have hf : findObj K D od "__class__" = some (.bind (.builtin "getset_descriptor.__get__") (.builtin "object.__class__")) := findObj_dataO (by obtain ⟨cd, hc, _⟩ := any_some hdct; rw [hc]; rfl) ha hn htk
  obtain ⟨hp, g, d, t, os⟩ := s
  have L0 := I.type (M := model prog w)
  have L1 := looks_findIn (M := model prog w) X hga
  have L2 := looks_findIn (M := model prog w) X hgt
  have L3 := looks_find (M := model prog w) X I hf
  have sub : Looks (model prog w) hp (isInstance (.ref x) (.type "BaseException")) true := L0.andThen (looks_subIn X hsub)
  have hx0 : (false && onTheHeap (Value.builtin "BaseException.__getattribute__")) = false := rfl
  have hx2 : (Value.builtin "BaseException.__getattribute__" == Value.builtin "object.__getattribute__") = false := by decide +kernel
  have hx1 : (onTheHeap (Value.ref D) && Value.builtin "BaseException.__getattribute__" == Value.builtin "object.__getattribute__") = false := by rw [hx2]; rfl
  unfold getAttr? getAttrBy? getAttrBy
  refine wpAny_bind (wpAny_mkText (wpAny_bind (wpAny_attempt (wpAny_holding (wpAny_bind (L0.at (wpAny_bind (L1.at ?_))))))))
  show wpAny _ _ (if (onTheHeap (Value.ref D) && Value.builtin "BaseException.__getattribute__" == Value.builtin "object.__getattribute__") = true then _ else _) _ _ _
  rw [hx1, if_neg Bool.false_ne_true]
  unfold getAttrByItsOwn hookBefore
  refine wpAny_bind ?_
  rw [if_pos (show onTheHeap (Value.ref D) = true from rfl)]
  refine L2.at ?_
  refine wpAny_bind (wpAny_attempt (wpAny_holding ?_))
  unfold callGetattribute
  rw [hx0, if_neg Bool.false_ne_true]
  unfold boundAndCalled
  rw [PySem.F.excAttr_ValueError.ga.bind (.ref x)]
  refine wpAny_bind (wpAny_pure ?_)
  show wpAny _ _ (call (.builtin "BaseException.__getattribute__") [.ref x, .str "__class__" t]) _ _ _
  refine wpAny_call (codeAny_call_builtin PySem.F.excAttr_ValueError.ga.plain PySem.F.entry_bexc_ga ?_)
  refine @check_slot (model prog w) _ _ ⟨hp, g, d, t + 1, os⟩ "BaseException.__getattribute__" "BaseException" "__getattribute__" (.ref x) [.str "__class__" t] [] _ (by decide +kernel) (by decide +kernel) sub (PySem.F.args_bexc_ga (.ref x) (.str "__class__" t)) ?_
  unfold Builtin.«object.__getattribute__»
  refine wpAny_bind (wpAny_of_eq (a := ((Value.ref x : Value), [Value.str "__class__" t])) (by first | rfl | (simp only [slotArgs]; rfl)) ?_)
  refine wpAny_bind (wpAny_pure (wpAny_bind (L0.at (wpAny_bind (L3.at ?_)))))
  show wpAny _ _ (holding [Value.builtin "object.__class__"] (call (.builtin "getset_descriptor.__get__") [.builtin "object.__class__", .ref x, .ref D]) >>= ret) _ _ _
  refine wpAny_bind (wpAny_holding (wpAny_call (class_get (s := ⟨hp, g, d, t + 1, os⟩) (ox := ox) (od := od) X I hm ?_)))
  refine wpAny_pure ?_
  show wpAny _ _ (handedOut (.ref D)) _ _ _
  rw [handedOut_of (v := .ref D) rfl]
  first
    | exact wpAny_pure (wpAny_pure h)
    | exact wpAny_pure h
    | exact wpAny_pure (wpAny_bind (wpAny_pure (wpAny_pure h)))
theorem kitx_excO (hga : findIn K (.ref D) "__getattribute__" = some (some (.builtin "BaseException.__getattribute__"))) (hgt : findIn K (.ref D) "__getattr__" = some none) (hsub : subIn K (.ref D) (.type "BaseException") = some true) (hdct : hasDictIn K D = true) (ha : findIn K (.ref D) "__class__" = some (some (.builtin "object.__class__")))
    (hn : specialIn K (.builtin "object.__class__") "__get__" = some (some (.builtin "getset_descriptor.__get__"))) (htk : takesIn K (.builtin "object.__class__") = some true) (hm : mroIn K D (.type "object") = some true) :
    KitX K (.ref x) (.ref D) (fun h => InstAt h x ox D od) where
  ty := fun _ _ _ I => I.type
  it := fun _ _ X _ => by
    obtain ⟨cdD, hcD, _⟩ := any_some hdct
    unfold clsIn at hcD
    split at hcD
    · rename_i c' d' cd' sl' ho
      intro A' Q' E' s' k q
      unfold isType loadHead
      exact wpAny_bind (wpAny_loadPart (k _ _ (X _ _ ho)) (wpAny_pure q))
    · cases hcD
  ne := fun h tp dd its n sl X htp => (handS_kitx_exc (x := x) (ox := ox) hga hgt hsub hdct ha hn htk hm).ne h tp dd its n sl X htp
  ca := fun X I k => kin_classO hga hgt hsub hdct ha hn htk hm X I k
end
end PySem.W

set_option Elab.async false
set_option linter.all false
set_option maxRecDepth 100000
set_option maxHeartbeats 2000000
/-! DL8: own exceptions held as values; repr; dicts; lists given back afresh. -/
namespace DL
open PySem PySem.Spec PyProof.Rows L2

/-! ### own exceptions -/
/-- what the written part says of an own exception class C whose __init__, at fI, keeps its one argument as the field f -/
structure XC (K : PySem.W.Frag) (C fI : Addr) (f : PySem.Str) (fd : FuncData) : Prop where
  o : OexC K C
  i : PySem.W.findIn K (.ref C) "__init__" = some (some (.ref fI))
  t : PySem.W.typeIn K (.ref fI) = some (.type "function")
  no : PySem.W.findIn K (.ref C) f = some none
  bP : ∀ (s : Shared) (a v : Value), BindsTo s fd ⟨[a, v], []⟩ [("self", a), (f, v)]
  bK : ∀ (s : Shared) (a v : Value), BindsTo s fd ⟨[a], [(f, v)]⟩ [("self", a), (f, v)]
def spI (C : Addr) (f : PySem.Str) : Sp := fun vs H Q _ => ∃ (a : Addr) (y : V), vs = [.ref a, y] ∧ H a = some (exo a C none) ∧ ∀ dx, H dx = none → dx ≠ a → Q .non (upd (upd H dx (exd dx [(f, y)])) a (exo a C (some dx)))
section
variable {P : Program} {w : World} {K : PySem.W.Frag} {mg : PySem.Str → Option Value} {base : Heap}
theorem ok_init {k : Nat} {qual f : PySem.Str} {st : Stmt} {C fI : Addr} {fd : FuncData} (F : FnP K "__init__" qual st fI fd) (S : FnScope ["self", f] ["self", f] (defScope st)) (ho : OexC K C) (hno : PySem.W.findIn K (.ref C) f = some none)
    (hb : ∃ p1 p2 p3 p4 : Pos, defBody st = [.Assign [.Attribute (.Name "self" p1) f p2] (.Name f p3) p4]) (h1 : Vis (defScope st) "self") (h2 : Vis (defScope st) f) (hd : (f == ("__debug__" : PySem.Str)) = false) (hcd : (f == ("__classdict__" : PySem.Str)) = false) :
    FnG P w K mg base CX0 (k + 1) fI fd ["self", f] (spI C f) := by
  obtain ⟨p1, p2, p3, p4, hb⟩ := hb
  refine okG F S (fun vs H Q E h => by obtain ⟨a, y, rfl, _⟩ := h; rfl) (fun cdv A outer s H vs Q E hr h => ?_)
  rw [hb]
  obtain ⟨a, y, rfl, h3, h4⟩ := h
  refine ⟨_, pss_one (ps_ost (pe_var (i := 0) rfl h1) (pe_var (i := 1) rfl h2 hd hcd)), ?_⟩
  exact ⟨y, rfl, .ref a, rfl, a, C, rfl, ho, hno, .inl ⟨h3, fun dx n ne => h4 dx n ne⟩⟩
end
theorem RoomG.make {k : Nat} {A : Around} (r : RoomG (k + 1) A) (C : Addr) (us : List Value) (kw : List (PySem.Str × Value)) : RoomG k (A.under (.builtin "type.__call__" ⟨.ref C :: us, kw⟩)) :=
  ⟨r.r.make C us kw, by
    have h := r.g
    simp [Around.under, Code.guards, Code.isGuard, guardIds, pushGuards, h]⟩
section
variable {X : Cx} {C fI : Addr} {f : PySem.Str} {fd : FuncData} {k : Nat}
theorem newE_core {pins : List (Addr × Obj)} {σ : L2.St} {H1 : Hp} {s1 : Shared} {y : V} {u : Value} {us : List Value} {kw : List (PySem.Str × Value)} {Q : VK} (T : XC X.K C fI f fd) (F1 : FnG X.prog X.w X.K X.mg X.base CX0 k fI fd ["self", f] (spI C f)) (hr : RoomG (k + 1) X.A) (I1 : Inv X pins σ H1 s1) (r : RelV y u)
    (hu : (us = [u] ∧ kw = []) ∨ (us = [] ∧ kw = [(f, u)])) (hq : ∀ a dx, H1 a = none → H1 dx = none → dx ≠ a → Q (.ref a) (upd (upd H1 dx (exd dx [(f, y)])) a (exo a C (some dx)))) :
    wpAny (model X.prog X.w) X.A (call (.ref C) us kw) (EP X pins σ Q) X.xe s1 := by
  obtain ⟨nm, q, N, bs, bm, sn, sub, ab, col, dd, k0, k1, k2, k3, k5, hC, hbm⟩ := T.o.cls
  obtain ⟨hp, g, dr, tk, os⟩ := s1
  have hsz : hp.objs.size ≤ hp.objs.size + 1 := Nat.le_succ _
  have hn : H1 (hp.objs.size + 1) = none := I1.hok.fresh hsz
  have kk : ∀ b o, hp.get? b = some o → ((hp.push (PySem.W.kdv_tup us)).push (PySem.HandSPX.excO C hp.objs.size)).get? b = some o := fun b o e => Heap.get?_push_of_some _ (Heap.get?_push_of_some _ e)
  have hget : ((hp.push (PySem.W.kdv_tup us)).push (PySem.HandSPX.excO C hp.objs.size)).get? (hp.objs.size + 1) = some (PySem.HandSPX.excO C hp.objs.size) := by heap_get
  have I2 : Inv X pins σ (upd H1 (hp.objs.size + 1) (exo (hp.objs.size + 1) C none)) ⟨(hp.push (PySem.W.kdv_tup us)).push (PySem.HandSPX.excO C hp.objs.size), g, dr, tk, os⟩ :=
    I1.laid (t' := tk) (a := hp.objs.size + 1) (o := exo (hp.objs.size + 1) C none) (h' := (hp.push (PySem.W.kdv_tup us)).push (PySem.HandSPX.excO C hp.objs.size)) kk hsz (exo_ok hget)
  have hus : us.length ≤ sizeLine := by
    have := sizeLine_eq
    rcases hu with ⟨rfl, _⟩ | ⟨rfl, _⟩
    · show 1 ≤ _; omega
    · show 0 ≤ _; omega
  have hbind : ∀ s : Shared, BindsTo s fd ⟨.ref (hp.objs.size + 1) :: us, kw⟩ ((["self", f] : List PySem.Str).zip [.ref (hp.objs.size + 1), u]) := fun s => by
    rcases hu with ⟨rfl, rfl⟩ | ⟨rfl, rfl⟩
    · exact T.bP s _ _
    · exact T.bK s _ _
  have hsp : spI C f [.ref (hp.objs.size + 1), y] (upd H1 (hp.objs.size + 1) (exo (hp.objs.size + 1) C none)) (fun v H2 => v = .non ∧ Q (.ref (hp.objs.size + 1)) H2) E0 := by
    refine ⟨_, y, rfl, upd_same, fun dx n ne => ⟨rfl, ?_⟩⟩
    rw [upd_ne ne] at n
    have e : upd (upd (upd H1 (hp.objs.size + 1) (exo (hp.objs.size + 1) C none)) dx (exd dx [(f, y)])) (hp.objs.size + 1) (exo (hp.objs.size + 1) C (some dx)) = upd (upd H1 dx (exd dx [(f, y)])) (hp.objs.size + 1) (exo (hp.objs.size + 1) C (some dx)) := by
      funext b
      by_cases hb : b = hp.objs.size + 1
      · rw [hb, upd_same, upd_same]
      · rw [upd_ne hb, upd_ne hb]
        by_cases hb2 : b = dx
        · rw [hb2, upd_same, upd_same]
        · rw [upd_ne hb2, upd_ne hb2, upd_ne hb]
    rw [e]
    exact hq _ _ hn n ne
  refine wpAny_call (PySem.HandSPK.call_own F.excBase_ValueError (fun Y => PySem.HandSPX.refsVE_contains Y bm hbm) (I1.kIn _ _ hC) (PySem.W.looks_findIn I1.kIn T.i) (fun self => PySem.W.bind_fn I1.kIn self T.t) hus
    (codeAny_mono (F1.run _ X.stack _ _ ⟨Value.ref (hp.objs.size + 1) :: us, kw⟩ [.ref (hp.objs.size + 1), u] [.ref (hp.objs.size + 1), y] _ E0 (hr.make C us kw) (I2.env0.make C us kw) (hbind _) (.cons rfl (.cons r .nil)) hsp) fun r s' hq' => ?_))
  cases r with
  | error er => exact pass0 pins σ _ _ er s' I2 hq'
  | ok fl =>
    cases fl with
    | ret u' =>
      obtain ⟨v, H', I', rv, e, q⟩ := I2.after hq'
      subst e
      exact ⟨rv, .ref (hp.objs.size + 1), H', I', rfl, q⟩
    | next => exact False.elim hq'
    | brk => exact False.elim hq'
    | cont => exact False.elim hq'
variable {x : PySem.Str} {e : Expr} {ta : TE} {p pos kp : Pos}
def tNewE (C : Addr) (f : PySem.Str) (ta : TE) : TE := fun σ H Q => ta σ H fun y H1 => ∀ a dx, H1 a = none → H1 dx = none → dx ≠ a → Q (.ref a) (upd (upd H1 dx (exd dx [(f, y)])) a (exo a C (some dx)))
theorem pe_newE (T : XC X.K C fI f fd) (F1 : FnG X.prog X.w X.K X.mg X.base CX0 k fI fd ["self", f] (spI C f)) (hr : RoomG (k + 1) X.A) (hg : Gl X x) (hm : X.mg x = some (.ref C)) (he : PE X e ta)
    (hdb : (x == ("__debug__" : PySem.Str)) = false := by decide) (hs : starEach [e] X.env = (false, eval e X.env) :: starEach [] X.env := by rfl) (hpl : (backTo pos (starEach [] X.env)).any (·.1) = false := by rfl) :
    PE X (.Call (.Name x p) [e] [] pos) (tNewE C f ta) := by
  refine ⟨fun pins s σ H Q I h => ?_⟩
  refine wpAny_Call_Name_kw (ld_glob I hg hm ?_ hdb)
  refine PySem.W.callWith_K (h₀ := X.base) I.ok.mod.kin T.o.kC ?_ hs hpl
  rw [hs]
  show wpAny _ _ (spliced ((false, eval e X.env) :: backTo pos (starEach [] X.env))) _ _ s
  refine Calls.spliced_cons (thn (he.run pins s σ H _ I h) fun u s1 ⟨v, H1, I1, r1, q1⟩ => ?_)
  refine Calls.spliced_nil ⟨I1.kIn, ?_⟩
  exact newE_core T F1 hr I1 r1 (.inl ⟨rfl, rfl⟩) q1
def tNewEK (C : Addr) (f : PySem.Str) (ta : TE) : TE := fun σ H Q => tCons ta tNil σ H fun vs H1 => ∃ y, vs = [y] ∧ ∀ a dx, H1 a = none → H1 dx = none → dx ≠ a → Q (.ref a) (upd (upd H1 dx (exd dx [(f, y)])) a (exo a C (some dx)))
theorem pe_newEK (T : XC X.K C fI f fd) (F1 : FnG X.prog X.w X.K X.mg X.base CX0 k fI fd ["self", f] (spI C f)) (hr : RoomG (k + 1) X.A) (hg : Gl X x) (hm : X.mg x = some (.ref C)) (he : PE X e ta)
    (hdb : (x == ("__debug__" : PySem.Str)) = false := by decide) (hall : (backToKw pos (keywordEach [⟨some f, e, kp⟩] X.env)).all (·.1.isSome) = true := by rfl) (hks : (backToKw pos (keywordEach [⟨some f, e, kp⟩] X.env)).filterMap (·.1) = [f] := by rfl)
    (hpl : ((backTo pos (starEach [] X.env)).any (·.1) || (backToKw pos (keywordEach [⟨some f, e, kp⟩] X.env)).any (·.1.isNone)) = false := by rfl) :
    PE X (.Call (.Name x p) [] [⟨some f, e, kp⟩] pos) (tNewEK C f ta) := by
  refine ⟨fun pins s σ H Q I h => ?_⟩
  refine wpAny_Call_Name_kw (ld_glob I hg hm ?_ hdb)
  have hk : PK X [⟨some f, e, kp⟩] (tCons ta tNil) := pk_cons he pk_nil
  refine PySem.W.callWith_KW0 (h₀ := X.base) I.ok.mod.kin T.o.kC hall (thn (hk.run pos pins s σ H _ I h) fun ws s2 ⟨zs, H2, I2, rz, y, ez, q2⟩ => ⟨I2.kIn, ?_⟩) hpl
  subst ez
  cases rz with
  | cons ry rn =>
    cases rn
    rw [hks]
    exact newE_core T F1 hr I2 ry (.inr ⟨rfl, rfl⟩) q2
/-- X(), no __init__ of its own -/
theorem pe_newB {bmB : List Value} {B newId initId : String} (F : ExcBaseFacts B newId initId bmB) (q : PySem.W.excIn X.K C bmB newId = true) (gC : X.mg x = some (.ref C)) (kC : PySem.W.keepIn X.K (.ref C) = true) (hg : Gl X x)
    (hdb : (x == ("__debug__" : PySem.Str)) = false := by decide) : PE X (.Call (.Name x p) [] [] pos) (fun σ H Q => ∀ a, H a = none → Q (.ref a) (upd H a (ExO (.ref C) a))) := by
  refine ⟨fun pins s σ H Q I h => ?_⟩
  refine wpAny_Call_Name_kw (ld_glob I hg gC ?_ hdb)
  refine PySem.W.callWith_K0 I.kIn kC ?_
  show wpAny _ _ (call (.ref C) []) _ _ _
  obtain ⟨bm, N, nm, qn, bs, hdct, sn, sub, ab, col, dd, k0, k1, k2, k3, k5, mN, hC, hN, hni, T⟩ := exc_obj I.kIn q
  refine wpAny_call_exc_subT F T hC hN hni (fun h' a hm => ?_) (by show 0 ≤ sizeLine; omega)
  have hn : H a = none := I.hok.gone hm.new
  obtain ⟨t, ht, _, _⟩ := hm.there
  exact ⟨.ref a, upd H a (ExO (.ref C) a), I.laidN hm.keeps hm.new hn (exO_ok ht ⟨rfl, rfl⟩ rfl rfl rfl (show 4 < 6 by decide)), rfl, h a hn⟩
end
section
variable {X : Cx} {C fI : Addr} {f x : PySem.Str} {fd : FuncData} {k j : Nat} {e : Expr} {ga : G} {p pos kp : Pos}
def dExc (c f : PySem.Str) : D → Option D := fun d => some (.exc c [f] [d])
theorem exc_rep {R H : Hp} {c : PySem.Str} {d : D} {y : V} {a dx : Addr} {mg : PySem.Str → Option Value} {K : PySem.W.Frag} (s : Same R H) (r : Rep K mg R d y) (hm : mg c = some (.ref C)) (ha : H a = none) (hd : H dx = none) (ne : dx ≠ a) :
    Ext R H (upd (upd R dx (exd dx [(f, y)])) a (exo a C (some dx))) (upd (upd H dx (exd dx [(f, y)])) a (exo a C (some dx))) ∧ Rep K mg (upd (upd R dx (exd dx [(f, y)])) a (exo a C (some dx))) (.exc c [f] [d]) (.ref a) := by
  have e1 := Ext.new s hd (exd dx [(f, y)])
  have ha' : upd H dx (exd dx [(f, y)]) a = none := by rw [upd_ne (Ne.symm ne)]; exact ha
  have e2 := Ext.new e1.s ha' (exo a C (some dx))
  refine ⟨e1.trans e2, a, C, dx, [y], rfl, hm, upd_same, ?_, rfl, y, [], rfl, Rep.mono (e1.trans e2).r d y r, rfl⟩
  rw [upd_ne ne, upd_same]
  rfl
/-- the module's x is such a class -/
structure XcD (P : Program) (w : World) (K : PySem.W.Frag) (mg : PySem.Str → Option Value) (base : Heap) (k : Nat) (x f : PySem.Str) : Prop where
  ex : ∃ C fI fd, XC K C fI f fd ∧ FnG P w K mg base CX0 k fI fd ["self", f] (spI C f) ∧ mg x = some (.ref C)
theorem ev_newE (T : XcD X.prog X.w X.K X.mg X.base k x f) (hr : RoomG j X.A) (he : EV X e ga) (hk : k + 1 ≤ j := by decide) (hg : Gl X x := by rfl)
    (hdb : (x == ("__debug__" : PySem.Str)) = false := by decide) (hs : starEach [e] X.env = (false, eval e X.env) :: starEach [] X.env := by rfl) (hpl : (backTo pos (starEach [] X.env)).any (·.1) = false := by rfl) :
    EV X (.Call (.Name x p) [e] [] pos) (gU (dExc x f) ga) := by
  obtain ⟨C, fI, fd, T, F1, hm⟩ := T.ex
  obtain ⟨t, pt, qt⟩ := he.ex
  refine ⟨_, pe_newE T F1 (hr.mono hk) hg hm pt hdb hs hpl, fun ρ σ R H d Q en s e q => ?_⟩
  obtain ⟨y, e1, e2⟩ := bind_some e
  cases e2
  refine qt ρ σ R H y _ en s e1 fun v R1 H1 x1 r1 a dx ha hd ne => ?_
  obtain ⟨x2, r2⟩ := exc_rep (f := f) x1.s r1 hm ha hd ne
  exact q _ _ _ (x1.trans x2) r2
theorem ev_newEK (T : XcD X.prog X.w X.K X.mg X.base k x f) (hr : RoomG j X.A) (he : EV X e ga) (hk : k + 1 ≤ j := by decide) (hg : Gl X x := by rfl)
    (hdb : (x == ("__debug__" : PySem.Str)) = false := by decide) (hall : (backToKw pos (keywordEach [⟨some f, e, kp⟩] X.env)).all (·.1.isSome) = true := by rfl) (hks : (backToKw pos (keywordEach [⟨some f, e, kp⟩] X.env)).filterMap (·.1) = [f] := by rfl)
    (hpl : ((backTo pos (starEach [] X.env)).any (·.1) || (backToKw pos (keywordEach [⟨some f, e, kp⟩] X.env)).any (·.1.isNone)) = false := by rfl) :
    EV X (.Call (.Name x p) [] [⟨some f, e, kp⟩] pos) (gU (dExc x f) ga) := by
  obtain ⟨C, fI, fd, T, F1, hm⟩ := T.ex
  obtain ⟨t, pt, qt⟩ := he.ex
  refine ⟨_, pe_newEK T F1 (hr.mono hk) hg hm pt hdb hall hks hpl, fun ρ σ R H d Q en s e q => ?_⟩
  obtain ⟨y, e1, e2⟩ := bind_some e
  cases e2
  refine qt ρ σ R H y _ en s e1 fun v R1 H1 x1 r1 => ⟨v, rfl, fun a dx ha hd ne => ?_⟩
  obtain ⟨x2, r2⟩ := exc_rep (f := f) x1.s r1 hm ha hd ne
  exact q _ _ _ (x1.trans x2) r2
/-- the module's x is an own exception class without __init__ -/
structure XbD (K : PySem.W.Frag) (mg : PySem.Str → Option Value) (x : PySem.Str) : Prop where
  ex : ∃ C, PySem.W.excIn K C He.veBase "ValueError.__new__" = true ∧ PySem.W.keepIn K (.ref C) = true ∧ mg x = some (.ref C)
theorem ev_newB (T : XbD X.K X.mg x) (hg : Gl X x := by rfl) (hdb : (x == ("__debug__" : PySem.Str)) = false := by decide) : EV X (.Call (.Name x p) [] [] pos) (gC (.exb x)) := by
  obtain ⟨C, h1, h2, h3⟩ := T.ex
  refine ⟨_, pe_newB F.excBase_ValueError h1 h3 h2 hg hdb, fun ρ σ R H d Q en s e q a ha => ?_⟩
  cases e
  exact q _ _ _ (Ext.new s ha _) ⟨a, C, rfl, h3, upd_same⟩
end
end DL

set_option Elab.async false
set_option linter.all false
set_option maxRecDepth 100000
set_option maxHeartbeats 2000000
/-! DL9: isinstance and fields of own exceptions held as values; repr; dicts; lists given back afresh. -/
namespace DL
open PySem PySem.Spec PyProof.Rows L2

section
variable {X : Cx} {e : Expr} {ga : G} {p pos kp : Pos}
/-- what stands at a is an own exception of the class at D -/
theorem exc_inst {pins : List (Addr × Obj)} {σ : L2.St} {H : Hp} {s : Shared} {a D : Addr} (I : Inv X pins σ H s) (h : (∃ dx fs, H a = some (exo a D (some dx)) ∧ H dx = some (exd dx fs)) ∨ H a = some (ExO (.ref D) a)) :
    ∃ oe od, PySem.W.InstAt s.heap a oe D od := by
  rcases h with ⟨dx, fs, h1, h2⟩ | h
  · obtain ⟨t0, ho⟩ := exo_at I.hok h1
    obtain ⟨mA, hns, rel⟩ := exd_at I.hok h2
    obtain ⟨od, hod, _⟩ := lookIn_ns hns
    exact ⟨_, some od, ⟨ho, rfl, rfl, hod⟩⟩
  · obtain ⟨⟨oe, vs, ho, hz, hd, _⟩, _, _⟩ := I.hok a _ h
    obtain ⟨oc, od, oda, osl⟩ := oe
    obtain ⟨h1, h2⟩ := hz
    dsimp only at h1 h2 hd
    subst h1 h2 hd
    exact ⟨_, none, ⟨ho, rfl, rfl, trivial⟩⟩
def rIsX (K : PySem.W.Frag) : List V → Hp → VK → Prop := fun xs H Q => ∃ (a D : Addr) (c : V) (cv : Value) (b : Bool), xs = [.ref a, c] ∧ ((∃ dx fs, H a = some (exo a D (some dx)) ∧ H dx = some (exd dx fs)) ∨ H a = some (ExO (.ref D) a)) ∧ ExcC K D ∧
  (∀ u, RelV c u → u = cv) ∧ PySem.W.kitOne K (.ref D) cv = some b ∧ Q (.bl b) H
theorem call_isX : CallR X (.builtin "isinstance") (rIsX X.K) := by
  intro pins s σ H xs us Q I r h
  obtain ⟨a, D, c, cv, b, rfl, hx, C, hcv, e, q⟩ := h
  cases r with
  | cons rx rr =>
    cases rr with
    | cons rt rr =>
      cases rr
      cases rx
      have ec := hcv _ rt
      subst ec
      obtain ⟨oe, od, J⟩ := exc_inst I hx
      exact PySem.W.kia_one (PySem.W.kitx_excO C.hg C.hk C.hs C.hd C.ha C.hn C.ht C.hm) I.kIn J e (fun z => nomatch z) fun tk => ⟨.bl b, H, I.kept (t' := tk) fun _ _ z => z, rfl, q⟩
/-- isinstance of own exceptions: f tells it by the class's name -/
structure IsE (K : PySem.W.Frag) (mg : PySem.Str → Option Value) (cv : Value) (f : PySem.Str → Option Bool) : Prop where
  ok : ∀ c b C, f c = some b → mg c = some (.ref C) → ExcC K C ∧ PySem.W.kitOne K (.ref C) cv = some b
def dIsE (f : PySem.Str → Option Bool) : D → Option D
  | .exc c _ _ => (f c).map .bl
  | .exb c => (f c).map .bl
  | _ => none
theorem isE_read {R H : Hp} {x d : D} {v c : V} {cv : Value} {f : PySem.Str → Option Bool} {Q : VK} (hf : IsE X.K X.mg cv f) (hc : ∀ u, RelV c u → u = cv) (s : Same R H) (r : Rep X.K X.mg R x v) (e : dIsE f x = some d) (q : ∀ v R' H', Ext R H R' H' → Rep X.K X.mg R' d v → Q v H') : rIsX X.K [v, c] H Q := by
  cases x with
  | exc n fs l =>
    obtain ⟨b, e1, e2⟩ := map_some e
    obtain ⟨a, C, dx, vs, rfl, hm, h1, h2, _, _⟩ := r
    obtain ⟨k1, k2⟩ := hf.ok n b C e1 hm
    subst e2
    exact ⟨a, C, c, cv, b, rfl, .inl ⟨dx, _, s _ _ h1, s _ _ h2⟩, k1, hc, k2, q _ R H (.refl s) rfl⟩
  | exb n =>
    obtain ⟨b, e1, e2⟩ := map_some e
    obtain ⟨a, C, rfl, hm, h1⟩ := r
    obtain ⟨k1, k2⟩ := hf.ok n b C e1 hm
    subst e2
    exact ⟨a, C, c, cv, b, rfl, .inr (s _ _ h1), k1, hc, k2, q _ R H (.refl s) rfl⟩
  | _ => cases e
/-- isinstance(e, Y), Y an own class -/
theorem ev_isE {y : PySem.Str} {C : Addr} {f : PySem.Str → Option Bool} {p2 : Pos} (hm : X.mg "isinstance" = none) (hy : X.mg y = some (.ref C)) (hf : IsE X.K X.mg (.ref C) f) (ha : EV X e ga)
    (hg : Gl X "isinstance" := by rfl) (hgy : Gl X y := by rfl) (hdT : (y == ("__debug__" : PySem.Str)) = false := by decide)
    (he : starEach [e, .Name y p2] X.env = (false, eval e X.env) :: starEach [.Name y p2] X.env := by rfl) (he2 : starEach [.Name y p2] X.env = (false, eval (.Name y p2) X.env) :: starEach [] X.env := by rfl) (hpl : (backTo pos (starEach [.Name y p2] X.env)).any (·.1) = false := by rfl) :
    EV X (.Call (.Name "isinstance" p) [e, .Name y p2] [] pos) (gU (dIsE f) ga) := by
  obtain ⟨t, pt, qt⟩ := ha.ex
  refine ⟨_, pe_callB call_isX hg hm boot_isinstance (pa_cons pt (pa_cons (pe_glob (v := .ref C) hgy hy rfl hdT) pa_nil he2) he) (by decide) (by decide) he hpl, fun ρ σ R H d Q en s e q => ?_⟩
  obtain ⟨x, e1, e2⟩ := bind_some e
  refine qt ρ σ R H x _ en s e1 fun v R1 H1 x1 r1 => ?_
  exact isE_read hf (fun u r => r) x1.s r1 e2 fun v R2 H2 x2 r2 => q v R2 H2 (x1.trans x2) r2
/-- .. a built-in class -/
theorem ev_isET {T : String} {y : PySem.Str} {f : PySem.Str → Option Bool} {p2 : Pos} (hm : X.mg "isinstance" = none) (hy : X.mg y = none) (hf : IsE X.K X.mg (.type T) f) (ha : EV X e ga) (hvT : bootBuiltins y = some (.type T) := by decide +kernel)
    (hg : Gl X "isinstance" := by rfl) (hgy : Gl X y := by rfl) (hnT : y ≠ "__name__" := by decide) (hdT : (y == ("__debug__" : PySem.Str)) = false := by decide)
    (he : starEach [e, .Name y p2] X.env = (false, eval e X.env) :: starEach [.Name y p2] X.env := by rfl) (he2 : starEach [.Name y p2] X.env = (false, eval (.Name y p2) X.env) :: starEach [] X.env := by rfl) (hpl : (backTo pos (starEach [.Name y p2] X.env)).any (·.1) = false := by rfl) :
    EV X (.Call (.Name "isinstance" p) [e, .Name y p2] [] pos) (gU (dIsE f) ga) := by
  obtain ⟨t, pt, qt⟩ := ha.ex
  refine ⟨_, pe_callB call_isX hg hm boot_isinstance (pa_cons pt (pa_cons (pe_bltn (v := .ty T) hgy hy hvT rfl hnT hdT) pa_nil he2) he) (by decide) (by decide) he hpl, fun ρ σ R H d Q en s e q => ?_⟩
  obtain ⟨x, e1, e2⟩ := bind_some e
  refine qt ρ σ R H x _ en s e1 fun v R1 H1 x1 r1 => ?_
  exact isE_read hf (fun u r => r) x1.s r1 e2 fun v R2 H2 x2 r2 => q v R2 H2 (x1.trans x2) r2
/-! fields -/
def tXv (K : PySem.W.Frag) (n : PySem.Str) (te : TE) : TE := fun σ H Q => te σ H fun x H1 => ∃ (a C dx : Addr) (fs : List (PySem.Str × V)) (v : V), x = .ref a ∧ H1 a = some (exo a C (some dx)) ∧ H1 dx = some (exd dx fs) ∧ XfC K C ∧ PySem.W.findIn K (.ref C) n = some none ∧ fs.lookup n = some v ∧ Q v H1
theorem pe_xv {n : PySem.Str} {te : TE} (he : PE X e te) (hb : attributeBase e n X.env (eval e X.env) = eval e X.env := by rfl) : PE X (.Attribute e n pos) (tXv X.K n te) := by
  refine ⟨fun pins s σ H Q I h => ?_⟩
  refine attr_of hb (thn (he.run pins s σ H _ I h) fun u s1 hh => ?_)
  obtain ⟨x, H1, I1, rx, a, C, dx, fs, v, ex, h1, h2, T, hno, l, q⟩ := hh
  subst ex
  obtain rfl : u = Value.ref a := rx
  obtain ⟨t0, ho⟩ := exo_at I1.hok h1
  obtain ⟨mA, hns, hr⟩ := exd_at I1.hok h2
  obtain ⟨od, hod, hl⟩ := lookIn_ns hns
  obtain ⟨u, hu, ru⟩ := RelO.some_of (v := v) (o := mA n) (by rw [← l]; exact hr n)
  have J : PySem.W.InstAt s1.heap a _ C (some od) := ⟨ho, rfl, rfl, hod⟩
  exact HandSPX.exc_get I1.kIn J T.ga T.gg T.exC (PySem.W.findObj_own T.hdC hno rfl (by rw [hl, hu])) (handed_of ru) ⟨v, H1, I1.tok _, ru, q⟩
def dXv (cs : List PySem.Str) (n : PySem.Str) : D → Option D
  | .exc c fs l => if c ∈ cs then (fs.zip l).lookup n else none
  | _ => none
/-- e.n, e an exception of one of the classes cs -/
theorem ev_xv {n : PySem.Str} {cs : List PySem.Str} (hc : ∀ c ∈ cs, ∀ C, X.mg c = some (.ref C) → XfC X.K C ∧ PySem.W.findIn X.K (.ref C) n = some none) (ha : EV X e ga) (hb : attributeBase e n X.env (eval e X.env) = eval e X.env := by rfl) : EV X (.Attribute e n pos) (gU (dXv cs n) ga) := by
  obtain ⟨t, pt, qt⟩ := ha.ex
  refine ⟨_, pe_xv pt hb, fun ρ σ R H d Q en s e q => ?_⟩
  obtain ⟨x, e1, e2⟩ := bind_some e
  refine qt ρ σ R H x _ en s e1 fun v R1 H1 x1 r1 => ?_
  cases x with
  | exc c fs l =>
    have e2 : (if c ∈ cs then (fs.zip l).lookup n else none) = some d := e2
    split at e2
    case isFalse => cases e2
    rename_i hm
    obtain ⟨a, C, dx, vs, rfl, hmg, h1, h2, h3, h4⟩ := r1
    obtain ⟨k1, k2⟩ := hc c hm C hmg
    obtain ⟨w, l1, l2⟩ := RepL.lookup h4 e2
    exact ⟨a, C, dx, _, w, rfl, x1.s _ _ h1, x1.s _ _ h2, k1, k2, l1, q w R1 H1 x1 l2⟩
  | _ => cases e2
end
/-! ### repr -/
mutual
theorem py_noDict : ∀ (d : D) (p : PyData), py d = some p → p.hasDict = false
  | .non, p, e => by cases e; rfl
  | .bl b, p, e => by cases e; rfl
  | .int i, p, e => by cases e; rfl
  | .str i, p, e => by cases e; rfl
  | .tup l, p, e => by
    obtain ⟨ps, e1, e2⟩ := map_some (show (pyL l).map PyData.tuple = some p from e)
    subst e2
    exact (by simpa [PyData.hasDict] using pyL_noDict l ps e1)
  | .lst l, p, e => by
    obtain ⟨ps, e1, e2⟩ := map_some (show (pyL l).map PyData.list = some p from e)
    subst e2
    exact (by simpa [PyData.hasDict] using pyL_noDict l ps e1)
  | .frz l, p, e => by
    obtain ⟨ps, e1, e2⟩ := map_some (show (pyL l).map PyData.list = some p from e)
    subst e2
    exact (by simpa [PyData.hasDict] using pyL_noDict l ps e1)
  | .dic _ _, p, e => by cases e
  | .obj _ _ _, p, e => by cases e
  | .exc _ _ _, p, e => by cases e
  | .exb _, p, e => by cases e
theorem pyL_noDict : ∀ (l : List D) (ps : List PyData), pyL l = some ps → PyData.hasDictAll ps = false
  | [], ps, e => by cases e; rfl
  | d :: ds, ps, e => by
    obtain ⟨x, e1, e2⟩ := bind_some (show (py d).bind (fun x => (pyL ds).map fun xs => x :: xs) = some ps from e)
    obtain ⟨xs, e3, e4⟩ := map_some e2
    subst e4
    simp [PyData.hasDictAll, py_noDict d x e1, pyL_noDict ds xs e3]
end
def keyPy : Key → PyData
  | .inl i => .int i
  | .inr s => .str s
/-- the data that repr shows -/
def pyR : D → Option PyData
  | .dic ks l => if (l.all flatD && ks.length == l.length) = true then (pyL l).map fun xs => .dict ((ks.map keyPy).zip xs) else none
  | d => py d
def dReprO (o : Option PyData) : Option D := o.bind fun p => if p.showable = true ∧ p.depth ≤ 60 ∧ p.shown.length ≤ 1000 then some (.str p.shown) else none
def dRepr : List D → Option D
  | [d] => dReprO (pyR d)
  | _ => none
theorem pyL_len : ∀ {l : List D} {ps : List PyData}, pyL l = some ps → ps.length = l.length
  | [], ps, e => by cases e; rfl
  | d :: ds, ps, e => by
    obtain ⟨x, e1, e2⟩ := bind_some (show (py d).bind (fun x => (pyL ds).map fun xs => x :: xs) = some ps from e)
    obtain ⟨xs, e3, e4⟩ := map_some e2
    subst e4
    rw [List.length_cons, List.length_cons, pyL_len e3]
section
variable {X : Cx} {pins : List (Addr × Obj)} {σ : L2.St} {H : Hp} {s : Shared}
theorem flat_reads {d : D} {p : PyData} {v : V} {u : Value} (hf : flatD d = true) (e : py d = some p) (r : Rep X.K X.mg H d v) (ru : RelV v u) : Reads s.heap u p [] := by
  cases d with
  | non => cases e; rw [show v = V.non from r] at ru; cases (show u = Value.none from ru); exact .none
  | bl b => cases e; rw [show v = V.bl b from r] at ru; cases (show u = Value.bool b from ru); exact .bool b
  | int i => cases e; rw [show v = V.int i from r] at ru; obtain ⟨t, rfl⟩ := ru; exact .int i t
  | str i => cases e; rw [show v = V.str i from r] at ru; obtain ⟨t, rfl⟩ := ru; exact .str i t
  | _ => cases hf
theorem flat_readsAll : ∀ {l : List D} {ps : List PyData} {vs : List V} {us : List Value}, l.all flatD = true → pyL l = some ps → RepL X.K X.mg H l vs → Vals vs us → ReadsAll s.heap us ps []
  | [], ps, vs, us, _, e, r, ru => by
    cases e
    rw [show vs = [] from r] at ru
    cases ru
    exact .nil
  | d :: l, ps, vs, us, hf, e, r, ru => by
    rw [List.all_cons, Bool.and_eq_true] at hf
    obtain ⟨x, e1, e2⟩ := bind_some (show (py d).bind (fun x => (pyL l).map fun xs => x :: xs) = some ps from e)
    obtain ⟨xs, e3, e4⟩ := map_some e2
    subst e4
    obtain ⟨v, ws, rfl, h1, h2⟩ := r
    cases ru with
    | cons r1 r2 => exact ReadsAll.cons (flat_reads hf.1 e1 h1 r1) (flat_readsAll hf.2 e3 h2 r2)
theorem key_reads {k : Key} {u : Value} (h : keyIs k u = true) : Reads s.heap u (keyPy k) [] := by
  rcases keyIs_shape h with ⟨i, t, rfl, rfl⟩ | ⟨x, t, rfl, rfl⟩
  · exact .int i t
  · exact .str x t
theorem pairs_reads {kvs : List (Key × V)} {rs : List (Key × Value)} (r : KV kvs rs) : ∀ {es : List DictEntry}, Pairs (mixKind X.prog X.w) es rs → ReadsAll s.heap (es.map (·.key)) ((kvs.map (·.1)).map keyPy) [] ∧ Vals (kvs.map (·.2)) (es.map (·.val)) := by
  unfold KV at r
  induction r with
  | nil =>
    intro es h
    cases h
    exact ⟨.nil, .nil⟩
  | @cons p q ps qs h t ih =>
    intro es hp
    cases hp with
    | @cons e _ es' _ h1 h2 h3 =>
      obtain ⟨i1, i2⟩ := ih h3
      have h1 : keyIs q.1 e.key = true := h1
      refine ⟨?_, ?_⟩
      · have k := key_reads (s := s) (k := p.1) (u := e.key) (by rw [h.1]; exact h1)
        exact ReadsAll.cons k i1
      · exact .cons (by show RelV p.2 e.val; rw [h2]; exact h.2) i2
theorem dic_reads {ks : List Key} {l : List D} {xs : List PyData} {a : Addr} {vs : List V} (I : Inv X pins σ H s) (hf : l.all flatD = true) (hp : pyL l = some xs) (h : H a = some (.dK (ks.zip vs))) (hl : ks.length = l.length) (r : RepL X.K X.mg H l vs) :
    Reads s.heap (.ref a) (.dict ((ks.map keyPy).zip xs)) [a] ∧ (a == sysModules) = false := by
  obtain ⟨z, hd, rs, rk, o, es, ep, ho, hx, hda, hk, hpr, hn⟩ := dk_of I.hok h
  obtain ⟨q1, q2⟩ := pairs_reads (X := X) (s := s) rk hpr
  have lv := RepL.length r
  have lx : xs.length = l.length := pyL_len hp
  rw [List.map_fst_zip (by omega)] at q1
  rw [List.map_snd_zip (by omega)] at q2
  have q3 := flat_readsAll (s := s) hf hp r q2
  refine ⟨?_, hd⟩
  have e1 : ((ks.map keyPy).zip xs).map (·.1) = ks.map keyPy := List.map_fst_zip (by rw [List.length_map]; omega)
  have e2 : ((ks.map keyPy).zip xs).map (·.2) = xs := List.map_snd_zip (by rw [List.length_map]; omega)
  exact Reads.dict (as := []) (bs := []) ho hx.1 hda (by rw [e1]; exact q1) (by rw [e2]; exact q3)
end
section
variable {X : Cx}
def rRepr (K : PySem.W.Frag) (mg : PySem.Str → Option Value) : List V → Hp → VK → Prop := fun xs H Q => ∃ (v : V) (d : D) (p : PyData) (R : Hp), xs = [v] ∧ Same R H ∧ Rep K mg R d v ∧ pyR d = some p ∧ p.showable = true ∧ p.depth ≤ 60 ∧ p.shown.length ≤ 1000 ∧ Q (.str p.shown) H
theorem call_repr (hg : X.A.guards = some []) (hu : X.A.units + 70 < cLine) : CallR X (.builtin "repr") (rRepr X.K X.mg) := by
  intro pins s σ H xs us Q I r h
  obtain ⟨v, d, p, R, rfl, sm, rd, e, hs, hdp, hsz, q⟩ := h
  cases r with
  | cons ru rn =>
    rename_i u us'
    cases rn
    have rd := Rep.mono sm d v rd
    have hz : p.shown.length ≤ sizeLine := le1000 hsz
    have fin : ∀ (a : Addr) (as : List Addr), Reads s.heap (.ref a) p as → (p.hasDict = true → sysModules ∉ as) → wpAny (model X.prog X.w) X.A (call (.builtin "repr") [.ref a]) (EP X pins σ Q) X.xe s := fun a as hr hn =>
      repr_of_reads' hr hs hn hg (by omega) (fun _ _ e => e) (fun h' u tk hk => ⟨.str p.shown, H, I.kept hk, ⟨u, rfl⟩, q⟩) hz
    cases d with
    | non => cases e; rw [show v = V.non from rd] at ru; cases (show u = Value.none from ru); exact PySem.P.repr_of_none ⟨.str _, H, I.tok _, ⟨_, rfl⟩, q⟩
    | bl b => cases e; rw [show v = V.bl b from rd] at ru; cases (show u = Value.bool b from ru); exact PySem.P.repr_of_bool ⟨.str _, H, I.tok _, ⟨_, rfl⟩, q⟩
    | int i =>
      cases e
      rw [show v = V.int i from rd] at ru
      obtain ⟨t, rfl⟩ := ru
      exact PySem.P.repr_of_int (by simpa [PyData.showable] using hs) ⟨.str _, H, I.tok _, ⟨_, rfl⟩, q⟩
    | str i =>
      cases e
      rw [show v = V.str i from rd] at ru
      obtain ⟨t, rfl⟩ := ru
      exact PySem.P.repr_of_str ⟨.str _, H, I.tok _, ⟨_, rfl⟩, q⟩ hz
    | tup l =>
      obtain ⟨as, hr⟩ := Dp.reads I p v u (Rep.dp _ _ _ rd e) ru
      obtain ⟨a, vs, rfl, _⟩ := rd
      cases ru
      exact fin a as hr (PyData.noDict_hsm (py_noDict _ _ e))
    | lst l =>
      obtain ⟨as, hr⟩ := Dp.reads I p v u (Rep.dp _ _ _ rd e) ru
      obtain ⟨a, vs, rfl, _⟩ := rd
      cases ru
      exact fin a as hr (PyData.noDict_hsm (py_noDict _ _ e))
    | frz l =>
      obtain ⟨as, hr⟩ := Dp.reads I p v u (Rep.dp _ _ _ rd e) ru
      obtain ⟨a, vs, rfl, _⟩ := rd
      cases ru
      exact fin a as hr (PyData.noDict_hsm (py_noDict _ _ e))
    | dic ks l =>
      have e2 : (if (l.all flatD && ks.length == l.length) = true then (pyL l).map fun xs => PyData.dict ((ks.map keyPy).zip xs) else none) = some p := e
      split at e2
      case isFalse => cases e2
      rename_i hc
      rw [Bool.and_eq_true] at hc
      obtain ⟨a, vs, rfl, h1, h2, h3⟩ := rd
      cases ru
      cases e3 : pyL l with
      | none => rw [e3] at e2; cases e2
      | some xs =>
        rw [e3] at e2
        cases e2
        obtain ⟨hr, hn⟩ := dic_reads I hc.1 e3 h1 h2 h3
        exact fin a [a] hr fun _ hm => by
          rw [List.mem_singleton] at hm
          rw [hm] at hn
          simp at hn
    | obj _ _ _ => cases e
    | exc _ _ _ => cases e
    | exb _ => cases e
theorem c_repr (hg : X.A.guards = some []) (hu : X.A.units + 70 < cLine) : C1 X (.builtin "repr") dRepr := ⟨_, call_repr hg hu, fun R H ds vs d Q s r e q => by
  match ds, e with
  | [x], e =>
    obtain ⟨v, rfl, h⟩ := repL1 r
    obtain ⟨p, e1, e2⟩ := bind_some (show (pyR x).bind (fun p => if p.showable = true ∧ p.depth ≤ 60 ∧ p.shown.length ≤ 1000 then some (D.str p.shown) else none) = some d from e)
    split at e2
    case isFalse => cases e2
    rename_i hc
    cases e2
    exact ⟨v, x, p, R, rfl, s, h, e1, hc.1, hc.2.1, hc.2.2, q _ R H (.refl s) rfl⟩⟩
end
end DL

set_option Elab.async false
set_option linter.all false
set_option maxRecDepth 100000
set_option maxHeartbeats 2000000
/-! DL10: lists given back afresh; dict displays; a law's end. -/
namespace DL
open PySem PySem.Spec PyProof.Rows L2

def spF (K : PySem.W.Frag) (mg : PySem.Str → Option Value) (n : Nat) (F : Nat → List D → Option (List D)) : Sp := fun vs H Q _ => vs.length = n ∧ ∃ (m : Nat) (R : Hp) (ds : List D) (l : List D), Same R H ∧ RepL K mg R ds vs ∧ F m ds = some l ∧
  ∀ p ws R' H', Ext R H R' H' → R' p = none → H p = none → H' p = some (.lst ws) → RepL K mg R' l ws → Q (.ref p) H'
structure FnF (P : Program) (w : World) (K : PySem.W.Frag) (mg : PySem.Str → Option Value) (base : Heap) (k : Nat) (x : PySem.Str) (n : Nat) (F : Nat → List D → Option (List D)) : Prop where
  ex : ∃ f fd ps, FnG P w K mg base CX0 k f fd ps (spF K mg n F) ∧ ps.length = n ∧ mg x = some (.ref f) ∧ PySem.W.keepIn K (.ref f) = true ∧ Binds K fd ps []
abbrev GF := Rho → Option (List D)
structure SF (X : Cx) (sts : List Stmt) (g : GF) : Prop where
  ex : ∃ t, PSs X sts t ∧ ∀ (π : Pi) (B R0 R H : Hp) (ρ : Rho) (σ : L2.St) (l : List D) (D : Ends), StR X.K X.mg π B R0 R H ρ σ → g ρ = some l →
    (∀ (p : Addr) (ws : List V) (R' H' : Hp), Same R0 R' → Same R' H' → Same B H' → (∀ b, R' b ≠ none → R0 b ≠ none ∨ B b = none) → R' p = none → B p = none → H' p = some (.lst ws) → RepL X.K X.mg R' l ws → D.rt (.ref p) H') → t D σ H
section
variable {X : Cx} {e : Expr} {es : List Expr} {ga : G} {gl : GL} {p pos kp : Pos}
theorem sf_ret (he : EVF X e gl) : SF X [.Return (some e) pos] gl := by
  obtain ⟨t, pt, q⟩ := he.ex
  refine ⟨_, pss_one (ps_ret pt), fun π B R0 R H ρ σ l D st e k => ?_⟩
  refine q ρ σ R H l _ st.env st.s e fun p vs R1 H1 x1 hR hH hp r1 => ?_
  have st1 := st.ext x1
  exact k p vs R1 H1 st1.r0 st1.s st1.b st1.f hR (st.b.free hH) hp r1
/-- return x, a list of one's own -/
def gOwn (i : Nat) : GF := fun ρ => match ρ[i]? with
  | some (.own _ l) => some l
  | _ => none
theorem sf_var (i : Nat) {x : PySem.Str} (hN : X.N[i]? = some x := by rfl) (hv : Vis X.env.scope x := by first | exact Or.inl rfl | exact Or.inr (Or.inl rfl) | exact Or.inr (Or.inr rfl)) (hd : (x == ("__debug__" : PySem.Str)) = false := by decide)
    (hcd : (x == ("__classdict__" : PySem.Str)) = false := by decide) : SF X [.Return (some (.Name x p)) pos] (gOwn i) := by
  refine ⟨_, pss_one (ps_ret (pe_var hN hv hd hcd)), fun π B R0 R H ρ σ l D st e k => ?_⟩
  unfold gOwn at e
  split at e
  case h_2 => cases e
  rename_i c l' hc
  cases e
  obtain ⟨p, vs, g1, g2, g3, g4, g5, g6⟩ := st.own i c l hc
  exact ⟨.ref p, g1, k p vs R H st.r0 st.s st.b st.f g2 g3 g4 g5⟩
def fSeq (a : GS) (b : GF) : GF := fun ρ => (a ρ).bind fun o => match o with
  | .nx ρ1 => b ρ1
  | _ => none
theorem sf_cons {s : Stmt} {ss : List Stmt} {g : GS} {g' : GF} (h : SV X s g) (h' : SF X ss g') : SF X (s :: ss) (fSeq g g') := by
  obtain ⟨t, p, q⟩ := h.ex
  obtain ⟨t', p', q'⟩ := h'.ex
  refine ⟨_, pss_cons p p', fun π B R0 R H ρ σ l D st e k => ?_⟩
  obtain ⟨o1, e1, e2⟩ := bind_some e
  refine q π B R0 R H ρ σ o1 _ st e1 ?_
  cases o1 with
  | nx ρ1 => exact fun σ1 R1 H1 st1 => q' π B R0 R1 H1 ρ1 σ1 l D st1 e2 k
  | rt d ρ1 => cases e2
  | bk ρ1 => cases e2
  | ct ρ1 => cases e2
end
def runL (n : Nat) (g : GF) (ds : List D) : Option (List D) := g (rho0 n (ds.map .sh))
theorem start_st {K : PySem.W.Frag} {mg : PySem.Str → Option Value} {N : List PySem.Str} {R H : Hp} {ds : List D} {vs : List V} (sm : Same R H) (r : RepL K mg R ds vs) : StR K mg ⟨fun _ => 0, []⟩ H R R H (rho0 N.length (ds.map .sh)) (L2.start N vs) := by
  have hlen := RepL.length r
  refine ⟨.refl _, sm, .refl _, fun b h => .inl h, ⟨?_, fun i d' h => ?_⟩, fun i b l h => ?_, fun i j b c l m' p h => ?_, fun p hp => absurd hp (by simp)⟩
  · rw [start_len, hlen]
    unfold rho0
    rw [List.length_append, List.length_replicate, List.length_map]
  · rcases rho0_get h with h | h
    · rw [List.getElem?_map] at h
      cases e3 : ds[i]? with
      | none => rw [e3] at h; cases h
      | some d2 =>
        rw [e3] at h
        cases h
        obtain ⟨v, h1, h2⟩ := RepL.get r e3
        exact ⟨v, start_get h1, h2⟩
    · cases h
  · rcases rho0_get h with h | h
    · rw [List.getElem?_map] at h
      cases e3 : ds[i]? with
      | none => rw [e3] at h; cases h
      | some d2 => rw [e3] at h; cases h
    · cases h
  · rcases rho0_get h with h | h
    · rw [List.getElem?_map] at h
      cases e3 : ds[i]? with
      | none => rw [e3] at h; cases h
      | some d2 => rw [e3] at h; cases h
    · cases h
theorem fn_fresh {P : Program} {w : World} {K : PySem.W.Frag} {mg : PySem.Str → Option Value} {base : Heap} {x qual : PySem.Str} {st : Stmt} {f : Addr} {fd : FuncData} {N ps : List PySem.Str} {k : Nat} (F : FnP K x qual st f fd) (Sc : FnScope N ps (defScope st)) (g : Nat → GF)
    (hb : ∀ (m : Nat) (cdv : Value) (A : Around) (outer : List PySem.Env) (s : Shared) (H : Hp) (E : XK), RoomG k (A.deeper (envOfC qual (defScope st) s.heap.objs.size f cdv)) → SF (BX P w K mg base N qual st f cdv A outer s H E) (defBody st) (g m)) :
    FnG P w K mg base CX0 (k + 1) f fd ps (spF K mg ps.length fun m ds => runL N.length (g m) ds) := by
  refine okG F Sc (fun vs H Q E h => h.1) (fun cdv A outer s H vs Q E hr h => ?_)
  obtain ⟨hl, m, R, ds, l, sm, r, e, k⟩ := h
  obtain ⟨t, p, q⟩ := (hb m cdv A outer s H E hr).ex
  refine ⟨t, p.nox, ?_⟩
  exact q _ H R R H _ (L2.start N vs) l _ (start_st sm r) e fun p ws R' H' h1 h2 h3 h4 h5 h6 h7 h8 => k p ws R' H' ⟨h1, h3, h2, h4⟩ h5 h6 h7 h8
section
variable {X : Cx} {e : Expr} {es : List Expr} {ga : G} {gl : GL} {p pos kp : Pos}
def gFl (f : List D → Option (List D)) (a : GL) : GL := fun ρ => (a ρ).bind f
theorem evf_call {k j n : Nat} {x : PySem.Str} {f : Nat → List D → Option (List D)} (F : FnF X.prog X.w X.K X.mg X.base k x n f) (hr : RoomG j X.A) (m : Nat) (ha : EVL X (e :: es) gl) (hk : k ≤ j := by decide) (hl : (e :: es).length = n := by rfl) (hg : Gl X x := by rfl)
    (hdb : (x == ("__debug__" : PySem.Str)) = false := by decide) (he : starEach (e :: es) X.env = (false, eval e X.env) :: starEach es X.env := by rfl) (hpl : (backTo pos (starEach es X.env)).any (·.1) = false := by rfl) :
    EVF X (.Call (.Name x p) (e :: es) [] pos) (gFl (f m) gl) := by
  obtain ⟨fa, fd, ps, h1, h2, h3, h4, h5⟩ := F.ex
  obtain ⟨t, pt, qt⟩ := ha.ex
  refine ⟨_, pe_callG (h1.mono hk) hr hg h3 h4 h5 .nil pass0 pt hdb he hpl, fun ρ σ R H l Q en s e q => ?_⟩
  obtain ⟨ds, e1, e2⟩ := bind_some e
  refine qt ρ σ R H ds _ en s e1 fun vs R1 H1 x1 r1 => ?_
  rw [List.append_nil]
  exact ⟨by rw [RepL.length r1, ha.len ρ ds e1]; exact hl, m, R1, ds, l, x1.s, r1, e2, fun p ws R2 H2 x2 h1 h2 h3 h4 => q p ws R2 H2 (x1.trans x2) h1 (x1.h.free h2) h3 h4⟩
/-! ### dicts -/
theorem ev_dic0 : EV X (.Dict [] [] pos) (gC (.dic [] [])) := ⟨_, pe_dnewK, fun ρ σ R H d Q en s e q p hp => by
  cases e
  exact q _ _ _ (Ext.new s hp _) ⟨p, [], rfl, upd_same, rfl, rfl⟩⟩
def gDic1 (s : PySem.Str) (g : G) : G := fun ρ => (g ρ).map fun d => .dic [.inr s] [d]
/-- {'x': e}, e a constant -/
theorem ev_dic1 {s : PySem.Str} {j : Nat} {p2 : Pos} {d : D} {v : V} (h : PE X e (L2.tC v)) (r : ∀ R, Rep X.K X.mg R d v) : EV X (.Dict [some (.Constant (.str s) j p2)] [e] pos) (gC (.dic [.inr s] [d])) := by
  refine ⟨_, pe_disp (pps_cons pe_str h pps_nil) rfl rfl (by simp) (by simp), fun ρ σ R H d' Q en sm e q p hp => ?_⟩
  cases e
  refine ⟨upd_same, [(.inr s, v)], rfl, by simp, ?_⟩
  have e1 : upd (upd H p (.dK [])) p (.dK (mergeK [] [(Sum.inr s, v)])) = upd H p (.dK (([Sum.inr s] : List Key).zip [v])) := by
    funext b
    by_cases hb : b = p
    · rw [hb, upd_same, upd_same]; rfl
    · rw [upd_ne hb, upd_ne hb, upd_ne hb]
  rw [e1]
  exact q _ _ _ (Ext.new sm hp _) ⟨p, [v], rfl, upd_same, rfl, v, [], rfl, r _, rfl⟩
end
/-! ### a law's end -/
theorem law_callG {P : Program} {w : World} {K : PySem.W.Frag} {mg mb : PySem.Str → Option Value} {k : Nat} {fa a : Addr} {fd : FuncData} {x : PySem.Str} {F : Nat → List D → Option D} {s₁ : Shared} {vs : List Value} {ns : List Int}
    (KX : K.In s₁.heap) (hns : s₁.heap.Ns mainGlobals mg) (hb : s₁.heap.Ns builtinsNs mb) (hbb : ∀ x : PySem.Str, x ≠ "__name__" → mb x = bootBuiltins x) (hlim : s₁.heap.NoLimit) (hg : s₁.gens = #[])
    (ha : s₁.heap.get? a = some { cls := .type "list", data := .seq vs.toArray }) (hi : IntsAre vs ns) (hl : ns.length ≤ sizeLine) (hr : Room k callerA)
    (hF : ∀ base : Heap, K.In base → base.Ns mainGlobals mg → FnG P w K mg base CX0 k fa fd [x] (spP K mg 1 F)) (hbind : ∀ (s : Shared) (u : Value), BindsTo s fd ⟨[u], []⟩ [(x, u)])
    (m : Nat) (hm : F m [.frz (ns.map D.int)] = some (.bl true)) :
    codeAny (model P w) callerA (.call (.ref fa) ⟨[.ref a], []⟩) (fun r s' => r = .ok (.ret (.bool true)) ∧ OldK s₁.heap s'.heap ∧ s'.os = s₁.os ∧ AllBare s'.gens) s₁ := by
  have rv := vals_ints hi
  have lenV := hi.length
  have repI : ∀ (R : Hp) (ns : List Int), RepL K mg R (ns.map D.int) (ns.map V.int) := fun R ns => by
    induction ns with
    | nil => exact rfl
    | cons n ns ih => exact ⟨V.int n, _, rfl, rfl, ih⟩
  -- from an abstract heap in which nothing but the script may be tracked
  have core : ∀ H : Hp, Only H → SqL K H a (ns.map V.int) → HOk P w H s₁.heap → (∀ b, H b ≠ none → b = a) → (H a ≠ none → K.lookup a = none) →
      codeAny (model P w) callerA (.call (.ref fa) ⟨[.ref a], []⟩) (fun r s' => r = .ok (.ret (.bool true)) ∧ OldK s₁.heap s'.heap ∧ s'.os = s₁.os ∧ AllBare s'.gens) s₁ := by
    intro H hO hS hok hA hK
    have base_of : ∀ {b : Addr} {o : Obj}, s₁.heap.get? b = some o → H b = none → (hidT s₁.heap H).get? b = some o := fun e n => hidT_get e n
    have noA : ∀ {b : Addr} {o : Obj} {es : Array DictEntry} {ep : Nat}, s₁.heap.get? b = some o → o.data = .dict es ep → H b = none := fun {b o es ep} e d => by
      cases q : H b with
      | none => rfl
      | some u =>
        have e' : b = a := hA b (by rw [q]; simp)
        subst e'
        rw [ha] at e; cases e
        have d' : Data.seq vs.toArray _ = Data.dict es ep := d
        cases d'
    have nsK : ∀ {b : Addr} {m : PySem.Str → Option Value}, s₁.heap.Ns b m → (hidT s₁.heap H).Ns b m := fun {b m} ⟨o, es, ep, e, d, r⟩ => ⟨o, es, ep, base_of e (noA e d), d, r⟩
    have hKb : K.In (hidT s₁.heap H) := fun b o e => base_of (KX b o e) (by
      cases q : H b with
      | none => rfl
      | some u =>
        have e' : b = a := hA b (by rw [q]; simp)
        subst e'
        rw [hK (by rw [q]; simp)] at e; cases e)
    have hM : Mod K mg (hidT s₁.heap H) := ⟨hKb, nsK hns, ⟨mb, nsK hb, hbb⟩, let ⟨mc, h1, h2⟩ := hlim; ⟨mc, nsK h1, h2⟩⟩
    have e0 : Env0 P w K mg (hidT s₁.heap H) callerA [] s₁ H := ⟨rfl, hM, fun b o e => of_hidT e, Nat.le_of_eq (hidT_size _ _), trivial, fun b hb => absurd (show b ∈ ([] : List Addr) from hb) (by simp), hok, .of_eq hg⟩
    have hsp : spP K mg 1 F [.ref a] H (fun v _ => v = .bl true) fun _ _ _ => False := by
      refine ⟨rfl, m, H, [.frz (ns.map D.int)], .bl true, .refl _, ?_, hm, fun v R' H' _ r => r⟩
      exact ⟨.ref a, [], rfl, ⟨a, _, rfl, hS, repI H ns⟩, rfl⟩
    refine codeAny_mono ((hF _ hKb (nsK hns)).run callerA [] s₁ H ⟨[.ref a], []⟩ [.ref a] [.ref a] _ _ ⟨hr, rfl⟩ e0 (hbind s₁ (.ref a)) (.cons rfl .nil) hsp) fun r s' h => ?_
    cases r with
    | error e => exact False.elim h
    | ok fl =>
      cases fl with
      | next => exact False.elim h
      | brk => exact False.elim h
      | cont => exact False.elim h
      | ret u =>
        obtain ⟨v, H', os, bare, un, hok', r', q⟩ := h
        have q' : v = .bl true := q
        subst q'
        obtain rfl : u = Value.bool true := r'
        refine ⟨rfl, OldK.of_keep fun b o e => ?_, os, bare⟩
        cases q : H b with
        | none => exact un.keep b o e q (by intro z; exact absurd (show b ∈ ([] : List Addr) from z) (by simp)) (by simp)
        | some u =>
          rcases hO b with z | ⟨ob, xs, z⟩
          · rw [q] at z; cases z
          · have z2 := un.frzs b ob _ z
            obtain ⟨e1, _⟩ := hok b _ z
            obtain ⟨e2, _⟩ := hok' b _ z2
            rw [e] at e1; cases e1
            exact e2
  cases hk : K.lookup a with
  | some o =>
    -- the script is one of the module's own objects
    have e := KX a o hk
    rw [ha] at e
    cases e
    refine core (fun _ => none) (fun _ => .inl rfl) (.inr ⟨_, vs.toArray, _, hk, rfl, rfl, rfl, by rw [List.size_toArray, lenV]; exact hl, by simpa using rv⟩) (fun b u z => by have z' : (none : Option HO) = some u := z; cases z') (fun b z => absurd rfl z) fun z => absurd rfl z
  | none =>
    refine core (fun b => if b = a then some (.frz { cls := .type "list", data := .seq vs.toArray } (.lst (ns.map V.int))) else none) (fun b => ?_) (.inl (.inr ⟨{ cls := .type "list", data := .seq vs.toArray }, if_pos rfl⟩)) (fun b u z => ?_) (fun b z => ?_) fun _ => hk
    · by_cases hb : b = a
      · exact .inr ⟨_, _, if_pos hb⟩
      · exact .inl (if_neg hb)
    · by_cases hb : b = a
      · have z' := (if_pos hb).symm.trans z
        cases z'
        subst hb
        exact ⟨ha, by rw [List.length_map]; exact hl, vs, _, rv, ha⟩
      · have z' := (if_neg hb).symm.trans z
        cases z'
    · by_cases hb : b = a
      · exact hb
      · exact absurd (if_neg hb) z
/-- a law: hF gives the written part, the function object, what it is worth; bits: of each of the script's numbers -/
theorem walk_ofG {l : PySem.W.OpenLaw} {n k : Nat} {q : Program} {loose : List PySem.Str} {XP : (PySem.Str → Option Value) → Heap → Prop} {YP : World → Heap → Prop} {d : DefRec} {x : PySem.Str}
    (hn : l.most = some n) (hn2 : n ≤ sizeLine) (hdf : d.params.defaults = []) (hr : Room k callerA)
    (hF : ∀ (w : World) (mg : PySem.Str → Option Value) (fa : Addr) (h : Heap), YP w h → h.Ns mainGlobals mg → mg d.name = some (.ref fa) →
      ∃ (K : PySem.W.Frag) (fd : FuncData) (F : Nat → List D → Option D), K.In h ∧ (∀ (s : Shared) (u : Value), BindsTo s fd ⟨[u], []⟩ [(x, u)]) ∧
        (∀ ns : List Int, ns.length ≤ n → (∀ z ∈ ns, Builtin.Int.intBits z ≤ 1048576) → ∃ m, F m [.frz (ns.map D.int)] = some (.bl true)) ∧
        ∀ base : Heap, K.In base → base.Ns mainGlobals mg → FnG l.prog w K mg base CX0 k fa fd [x] (spP K mg 1 F)) :
    PySem.W.WalkO q loose XP YP l.row.toRowW d [] (fun f vs => PySem.call f vs) := by
  refine Att.attach_callB hn hdf fun w s₀ s₁ mg mb fa o pm cd doc a vs ns G Y ho hd hcd hmg hobj hints hlen hbits hg => ?_
  obtain ⟨K, fd, F, KX, hb, hm, hF⟩ := hF w mg fa _ Y G.T.g hmg
  obtain ⟨m, hm⟩ := hm ns hlen hbits
  exact law_callG KX G.T.g G.T.b G.T.builtins G.T.nolimit hg hobj hints (Nat.le_trans hlen hn2) hr hF hb m hm
end DL

set_option Elab.async false
set_option linter.all false
set_option maxRecDepth 100000
set_option maxHeartbeats 2000000
/-! DH: a head with facts of one's own (after the kit's HeadHook2), what the layer wants of the written part. -/
namespace DL
open PySem PySem.Spec PyProof.Rows L2

abbrev AlX : Type := Bool × List He.FnW
abbrev FaX : Type := PySem.W.Frag → Bool
def obsX (fa : List FaX) (fn : List He.DefD) (K : PySem.W.Frag) : AlX := ((fa.all fun f => f K) && fn.all fun d => d.ok K, fn.map fun d => He.fnW K d.at_)
def valX (fn : List He.DefD) : AlX := (true, fn.map He.DefD.val)
def SaysX (fa : List FaX) (fn : List He.DefD) (K : PySem.W.Frag) : Prop := obsX fa fn K = valX fn
def obsXG (n : Nat) (fa : List FaX) (fn : List He.DefD) (g : Addr → Option Obj) : AlX := obsX fa fn (He.frG g (He.asD g n))
def hookX (n : Nat) (fa : List FaX) (fn : List He.DefD) : PySem.W.Hook where
  α := AlX
  obs := fun s => obsXG n fa fn s.heap.get?
  val := fun _ => valX fn
  says := fun _ h => ∃ K : PySem.W.Frag, K.In h ∧ SaysX fa fn K
  of := fun _ _ e => ⟨_, He.frG_in, e⟩
  keeps := fun _ _ _ ⟨K, hK, c⟩ k => ⟨K, PySem.W.Frag.In.keeps hK k, c⟩
theorem obsXG_eq {n : Nat} {fa : List FaX} {fn : List He.DefD} {g : Addr → Option Obj} {s : Shared} (h : ∀ a, g a = s.heap.get? a) : obsXG n fa fn g = (hookX n fa fn).obs s := by
  have e : g = s.heap.get? := funext h
  rw [e] <;> rfl
section
variable {fa : List FaX} {fn : List He.DefD} {K : PySem.W.Frag}
theorem SaysX.fact (c : SaysX fa fn K) (i : Nat) {f : FaX} (h : fa[i]? = some f := by rfl) : f K = true := by
  have c1 := (He.ba (show ((fa.all fun f => f K) && fn.all fun d => d.ok K) = true from congrArg (fun z : AlX => z.1) c)).1
  exact List.all_eq_true.mp c1 f (List.mem_of_getElem? h)
theorem SaysX.def_ (c : SaysX fa fn K) (i : Nat) {d : He.DefD} (h : fn[i]? = some d := by rfl) : ∃ fd, FunD K d.name d.qual d.params d.body d.scope (d.dvs K) (d.kws K) (He.fAd K d.at_) fd := by
  have c2 := (He.ba (show ((fa.all fun f => f K) && fn.all fun d => d.ok K) = true from congrArg (fun z : AlX => z.1) c)).2
  have e : fn.map (fun d => He.fnW K d.at_) = fn.map He.DefD.val := congrArg (fun z : AlX => z.2) c
  have e2 : (fn.map fun d => He.fnW K d.at_)[i]? = (fn.map He.DefD.val)[i]? := by rw [e]
  rw [List.getElem?_map, List.getElem?_map, h] at e2
  exact He.DefD.funD (Option.some.inj e2) (List.all_eq_true.mp c2 d (List.mem_of_getElem? h))
end
/-! ### defs -/
/-- the module's x is the def st -/
structure DefAt (K : PySem.W.Frag) (mg : PySem.Str → Option Value) (x : PySem.Str) (st : Stmt) : Prop where
  ex : ∃ f fd, FnP K x x st f fd ∧ mg x = some (.ref f)
def Bnd (x : PySem.Str) (st : Stmt) (ps : List PySem.Str) : Prop := ∀ (kV doc pm : Value) (an : Option Addr) (cdv ct : Value) (us : List Value), us.length = ps.length → bindArgs (PySem.W.fnOf x x (defArgs st) (defBody st) (defScope st) .none kV doc pm an cdv ct) ⟨us, []⟩ = pure (ps.zip us)
section
variable {P : Program} {w : World} {K : PySem.W.Frag} {mg : PySem.Str → Option Value} {base : Heap} {x : PySem.Str} {st : Stmt} {N ps : List PySem.Str} {k n : Nat}
theorem mk_fn (d : DefAt K mg x st) (Sc : FnScope N ps (defScope st)) (hb : Bnd x st ps) (g : Nat → GS) (hn : ps.length = n := by rfl)
    (h : ∀ (m : Nat) (f : Addr) (cdv : Value) (A : Around) (outer : List PySem.Env) (s : Shared) (H : Hp) (E : XK), RoomG k (A.deeper (envOfC x (defScope st) s.heap.objs.size f cdv)) → SVs (BX P w K mg base N x st f cdv A outer s H E) (defBody st) (g m)) :
    Fn P w K mg base (k + 1) x n fun m ds => runF N.length (g m) ds := by
  subst hn
  obtain ⟨f, fd, F, hm⟩ := d.ex
  exact ⟨f, fd, ps, fn_pure F Sc g (fun m cdv A outer s H E hr => h m f cdv A outer s H E hr), rfl, hm, F.kp, FunD.bindsN F hb⟩
theorem mk_fnB (d : DefAt K mg x st) (Sc : FnScope N ps (defScope st)) (hb : Bnd x st ps) (g : Nat → GS) (hn : ps.length = n := by rfl)
    (h : ∀ (m : Nat) (f : Addr) (cdv : Value) (A : Around) (outer : List PySem.Env) (s : Shared) (H : Hp) (E : XK), RoomG k (A.deeper (envOfC x (defScope st) s.heap.objs.size f cdv)) → SVs (BX P w K mg base N x st f cdv A outer s H E) (defBody st) (g m)) :
    FnB P w K mg base (k + 1) x n fun m ss => runB N.length (g m) ss := by
  subst hn
  obtain ⟨f, fd, F, hm⟩ := d.ex
  exact ⟨f, fd, ps, fn_ref F Sc g (fun m cdv A outer s H E hr => h m f cdv A outer s H E hr), rfl, hm, F.kp, FunD.bindsN F hb⟩
theorem mk_fnF (d : DefAt K mg x st) (Sc : FnScope N ps (defScope st)) (hb : Bnd x st ps) (g : Nat → GF) (hn : ps.length = n := by rfl)
    (h : ∀ (m : Nat) (f : Addr) (cdv : Value) (A : Around) (outer : List PySem.Env) (s : Shared) (H : Hp) (E : XK), RoomG k (A.deeper (envOfC x (defScope st) s.heap.objs.size f cdv)) → SF (BX P w K mg base N x st f cdv A outer s H E) (defBody st) (g m)) :
    FnF P w K mg base (k + 1) x n fun m ds => runL N.length (g m) ds := by
  subst hn
  obtain ⟨f, fd, F, hm⟩ := d.ex
  exact ⟨f, fd, ps, fn_fresh F Sc g (fun m cdv A outer s H E hr => h m f cdv A outer s H E hr), rfl, hm, F.kp, FunD.bindsN F hb⟩
end
theorem RoomG.u64 {k : Nat} {A : Around} (r : RoomG k A) : A.units + 64 < cLine := by have := r.r.un; omega
theorem RoomG.u65 {k : Nat} {A : Around} (r : RoomG k A) : A.units + 65 < cLine := by have := r.r.un; omega
theorem RoomG.u70 {k : Nat} {A : Around} (r : RoomG k A) : A.units + 70 < cLine := by have := r.r.un; omega
theorem blk_of {X : Cx} {scope : Scope} {own : List (PySem.Str × Nat)} (N : List PySem.Str) (sc : Scope) (hN : X.N = N) (hs : X.env.scope = sc) (h : BlkOk N sc scope own) : BlkOk X.N X.env.scope scope own := by
  rw [hN, hs]
  exact h
/-! ### values of the module -/
mutual
def repB (K : PySem.W.Frag) : D → Value → Bool
  | .non, .none => true
  | .bl b, .bool c => b == c
  | .int i, .int j _ => decide (i = j)
  | .str x, .str y _ => decide (x = y)
  | .tup ds, .ref a => (match K.lookup a with
    | some ⟨.type c, _, .seq its _, _⟩ => decide (c = "tuple") && (decide (its.size ≤ sizeLine) && repBs K ds its.toList)
    | _ => false)
  | .frz ds, .ref a => (match K.lookup a with
    | some ⟨.type c, none, .seq its _, _⟩ => decide (c = "list") && (decide (its.size ≤ sizeLine) && repBs K ds its.toList)
    | _ => false)
  | _, _ => false
def repBs (K : PySem.W.Frag) : List D → List Value → Bool
  | [], [] => true
  | d :: ds, u :: us => repB K d u && repBs K ds us
  | _, _ => false
end
mutual
theorem repB_ok {K : PySem.W.Frag} {mg : PySem.Str → Option Value} : ∀ (d : D) (u : Value), repB K d u = true → ∃ v, RelV v u ∧ ∀ R, Rep K mg R d v
  | .non, u, h => by
    cases u <;> first | exact ⟨.non, rfl, fun R => rfl⟩ | (simp [repB] at h)
  | .bl b, u, h => by
    cases u with
    | bool c =>
      have e : b = c := by simpa [repB] using h
      exact ⟨.bl b, by rw [e]; rfl, fun R => rfl⟩
    | _ => simp [repB] at h
  | .int i, u, h => by
    cases u with
    | int j t =>
      have e : i = j := by simpa [repB] using h
      exact ⟨.int i, ⟨t, by rw [e]⟩, fun R => rfl⟩
    | _ => simp [repB] at h
  | .str i, u, h => by
    cases u with
    | str j t =>
      have e : i = j := by simpa [repB] using h
      exact ⟨.str i, ⟨t, by rw [e]⟩, fun R => rfl⟩
    | _ => simp [repB] at h
  | .tup ds, u, h => by
    cases u with
    | ref a =>
      cases q : K.lookup a with
      | none => simp [repB, q] at h
      | some o =>
        obtain ⟨oc, od, dt, osl⟩ := o
        cases oc with
        | type c =>
          cases dt with
          | seq its n =>
            have h : (decide (c = "tuple") && (decide (its.size ≤ sizeLine) && repBs K ds its.toList)) = true := by simpa [repB, q] using h
            obtain ⟨h1, h2⟩ := He.ba h
            obtain ⟨h3, h4⟩ := He.ba h2
            obtain ⟨vs, r1, r2⟩ := repBs_ok (mg := mg) ds its.toList h4
            exact ⟨.ref a, rfl, fun R => ⟨a, vs, rfl, .inr ⟨_, its, n, q, congrArg Value.type (of_decide_eq_true h1), rfl, of_decide_eq_true h3, r1⟩, r2 R⟩⟩
          | _ => simp [repB, q] at h
        | _ => simp [repB, q] at h
    | _ => simp [repB] at h
  | .frz ds, u, h => by
    cases u with
    | ref a =>
      cases q : K.lookup a with
      | none => simp [repB, q] at h
      | some o =>
        obtain ⟨oc, od, dt, osl⟩ := o
        cases oc with
        | type c =>
          cases od with
          | none =>
            cases dt with
            | seq its n =>
              have h : (decide (c = "list") && (decide (its.size ≤ sizeLine) && repBs K ds its.toList)) = true := by simpa [repB, q] using h
              obtain ⟨h1, h2⟩ := He.ba h
              obtain ⟨h3, h4⟩ := He.ba h2
              obtain ⟨vs, r1, r2⟩ := repBs_ok (mg := mg) ds its.toList h4
              exact ⟨.ref a, rfl, fun R => ⟨a, vs, rfl, .inr ⟨_, its, n, q, congrArg Value.type (of_decide_eq_true h1), rfl, rfl, of_decide_eq_true h3, r1⟩, r2 R⟩⟩
            | _ => simp [repB, q] at h
          | some _ => cases dt <;> simp [repB, q] at h
        | _ => simp [repB, q] at h
    | _ => simp [repB] at h
  | .lst _, u, h => by simp [repB] at h
  | .dic _ _, u, h => by simp [repB] at h
  | .obj _ _ _, u, h => by simp [repB] at h
  | .exc _ _ _, u, h => by simp [repB] at h
  | .exb _, u, h => by simp [repB] at h
theorem repBs_ok {K : PySem.W.Frag} {mg : PySem.Str → Option Value} : ∀ (ds : List D) (us : List Value), repBs K ds us = true → ∃ vs, Vals vs us ∧ ∀ R, RepL K mg R ds vs
  | [], [], _ => ⟨[], .nil, fun R => rfl⟩
  | [], _ :: _, h => by simp [repBs] at h
  | _ :: _, [], h => by simp [repBs] at h
  | d :: ds, u :: us, h => by
    have h : (repB K d u && repBs K ds us) = true := by simpa [repBs] using h
    obtain ⟨h1, h2⟩ := He.ba h
    obtain ⟨v, r1, r2⟩ := repB_ok (mg := mg) d u h1
    obtain ⟨vs, q1, q2⟩ := repBs_ok (mg := mg) ds us h2
    exact ⟨v :: vs, .cons r1 q1, fun R => ⟨v, vs, rfl, r2 R, q2 R⟩⟩
end
/-! ### facts -/
def fGlo (x : PySem.Str) : FaX := fun K => (He.Fa.glo x).ok K
def fFree (x : PySem.Str) : FaX := fun K => (He.Fa.free x).ok K
def fBlt (x : PySem.Str) (id : String) : FaX := fun K => He.eqO (PySem.W.nsIn K mainGlobals x) (some (some (.builtin id)))
def fVal (x : PySem.Str) (d : D) : FaX := fun K => match PySem.W.nsIn K mainGlobals x with
  | some (some u) => repB K d u
  | _ => false
def fTy (T : String) : FaX := fun K => (["NoneType", "bool", "int", "str", "tuple", "list", "dict"] : List String).all fun t => decide (PySem.W.kitOne K (.type t) (.type T) = some (isiT t T))
def excB (K : PySem.W.Frag) (D : Addr) : Bool := decide (PySem.W.findIn K (.ref D) "__getattribute__" = some (some (.builtin "BaseException.__getattribute__"))) && (decide (PySem.W.findIn K (.ref D) "__getattr__" = some none) && (decide (PySem.W.subIn K (.ref D) (.type "BaseException") = some true) && (PySem.W.hasDictIn K D &&
  (decide (PySem.W.findIn K (.ref D) "__class__" = some (some (.builtin "object.__class__"))) && (decide (PySem.W.specialIn K (.builtin "object.__class__") "__get__" = some (some (.builtin "getset_descriptor.__get__"))) && (decide (PySem.W.takesIn K (.builtin "object.__class__") = some true) && decide (PySem.W.mroIn K D (.type "object") = some true)))))))
theorem excB_ok {K : PySem.W.Frag} {D : Addr} (h : excB K D = true) : ExcC K D := by
  unfold excB at h
  simp only [Bool.and_eq_true, decide_eq_true_eq] at h
  obtain ⟨h1, h2, h3, h4, h5, h6, h7, h8⟩ := h
  exact ⟨h1, h2, h3, h4, h5, h6, h7, h8⟩
def fExcs (cs : List PySem.Str) : FaX := fun K => cs.all fun c => (He.Fa.glo c).ok K && excB K (He.ga K c)
def fKitC (cs : List PySem.Str) (y : PySem.Str) (f : PySem.Str → Option Bool) : FaX := fun K => cs.all fun c => decide (PySem.W.kitOne K (.ref (He.ga K c)) (.ref (He.ga K y)) = f c)
def fKitT (cs : List PySem.Str) (T : String) (f : PySem.Str → Option Bool) : FaX := fun K => cs.all fun c => decide (PySem.W.kitOne K (.ref (He.ga K c)) (.type T) = f c)
def oexB (K : PySem.W.Frag) (C : Addr) : Bool := (match K.lookup C with
  | some ⟨.type "type", _, .cls cd, sl⟩ => (match cd.mro, sl.toList with
    | .ref C' :: bm, [_, _, _, _, some (.builtin n), _] => C' == C && (n == "ValueError.__new__" && (!cd.hasDel && (cd.hasDict && PySem.HandSPX.refsVE bm)))
    | _, _ => false)
  | _ => false) && (decide (PySem.W.findIn K (.ref C) "__setattr__" = some (some (.builtin "object.__setattr__"))) && (decide (PySem.W.subIn K (.ref C) (.type "BaseException") = some true) && (decide (PySem.W.typeIn K (.ref C) = some (.type "type")) && PySem.W.keepIn K (.ref C))))
theorem oexB_ok {K : PySem.W.Frag} {C : Addr} (h : oexB K C = true) : OexC K C := by
  unfold oexB at h
  rw [Bool.and_eq_true] at h
  obtain ⟨q, h⟩ := h
  simp only [Bool.and_eq_true, decide_eq_true_eq] at h
  obtain ⟨h2, h3, h4, h5⟩ := h
  refine ⟨?_, h2, h3, h4, h5⟩
  split at q
  · rename_i dd cd sl ho
    split at q
    · rename_i C' bm k0 k1 k2 k3 n k5 hm hs
      simp only [Bool.and_eq_true, beq_iff_eq, Bool.not_eq_true'] at q
      obtain ⟨rfl, rfl, hdel, hdct, hbm⟩ := q
      obtain ⟨nm, bs, mro, ns, qn, hd, sn, sub, ab, col, del⟩ := cd
      dsimp only at hm hdel hdct
      subst hm hdel hdct
      have hsl : sl = #[k0, k1, k2, k3, some (.builtin "ValueError.__new__"), k5] := by
        obtain ⟨l⟩ := sl
        simp only at hs
        rw [hs]
      subst hsl
      exact ⟨nm, qn, ns, bs, bm, sn, sub, ab, col, dd, k0, k1, k2, k3, k5, ho, hbm⟩
    · cases q
  · cases q
/-- of the class x with a field f -/
def xcB (K : PySem.W.Frag) (C : Addr) (f : PySem.Str) : Bool := oexB K C && (He.eqO (PySem.W.findIn K (.ref C) "__init__") (some (some (.ref (He.ma K C "__init__")))) && (decide (PySem.W.typeIn K (.ref (He.ma K C "__init__")) = some (.type "function")) && (decide (PySem.W.findIn K (.ref C) f = some none) && xfB K C)))
def fXc (x f : PySem.Str) : FaX := fun K => xcB K (He.ga K x) f
def fXb (x : PySem.Str) : FaX := fun K => PySem.W.excIn K (He.ga K x) He.veBase "ValueError.__new__" && PySem.W.keepIn K (.ref (He.ga K x))
section
variable {K : PySem.W.Frag} {h : Heap} {mg : PySem.Str → Option Value}
theorem blt_ok (X : K.In h) (G : h.Ns mainGlobals mg) {x : PySem.Str} {id : String} (c : fBlt x id K = true) : mg x = some (.builtin id) := PySem.W.mg_of X G (He.eqO_ok c)
theorem val_ok (X : K.In h) (G : h.Ns mainGlobals mg) {x : PySem.Str} {d : D} (c : fVal x d K = true) : GlD K mg x d := by
  unfold fVal at c
  split at c
  · rename_i u e
    obtain ⟨v, r1, r2⟩ := repB_ok (mg := mg) d u c
    exact ⟨u, v, PySem.W.mg_of X G e, r1, r2⟩
  · cases c
theorem ty_ok {T : String} (c : fTy T K = true) : ∀ t, t ∈ ["NoneType", "bool", "int", "str", "tuple", "list", "dict"] → PySem.W.kitOne K (.type t) (.type T) = some (isiT t T) := fun t ht =>
  of_decide_eq_true (List.all_eq_true.mp c t ht)
theorem isE_c (X : K.In h) (G : h.Ns mainGlobals mg) {cs : List PySem.Str} {y : PySem.Str} {f : PySem.Str → Option Bool} (h1 : fExcs cs K = true) (h2 : fKitC cs y f K = true) (hf : ∀ c b, f c = some b → c ∈ cs) : IsE K mg (.ref (He.ga K y)) f := ⟨fun c b C e hm => by
  have hc := hf c b e
  obtain ⟨g1, g2⟩ := He.ba (List.all_eq_true.mp h1 c hc)
  have g3 := He.glo_ok X G g1
  rw [hm] at g3
  cases g3
  exact ⟨excB_ok g2, by rw [of_decide_eq_true (List.all_eq_true.mp h2 c hc)]; exact e⟩⟩
theorem isE_t (X : K.In h) (G : h.Ns mainGlobals mg) {cs : List PySem.Str} {T : String} {f : PySem.Str → Option Bool} (h1 : fExcs cs K = true) (h2 : fKitT cs T f K = true) (hf : ∀ c b, f c = some b → c ∈ cs) : IsE K mg (.type T) f := ⟨fun c b C e hm => by
  have hc := hf c b e
  obtain ⟨g1, g2⟩ := He.ba (List.all_eq_true.mp h1 c hc)
  have g3 := He.glo_ok X G g1
  rw [hm] at g3
  cases g3
  exact ⟨excB_ok g2, by rw [of_decide_eq_true (List.all_eq_true.mp h2 c hc)]; exact e⟩⟩
theorem xv_ok (X : K.In h) (G : h.Ns mainGlobals mg) {cs : List PySem.Str} {f : PySem.Str} (h1 : cs.all (fun c => (He.Fa.glo c).ok K && fXc c f K) = true) : ∀ c ∈ cs, ∀ C, mg c = some (.ref C) → XfC K C ∧ PySem.W.findIn K (.ref C) f = some none := fun c hc C hm => by
  obtain ⟨g1, g2⟩ := He.ba (List.all_eq_true.mp h1 c hc)
  have g3 := He.glo_ok X G g1
  rw [hm] at g3
  cases g3
  unfold fXc xcB at g2
  simp only [Bool.and_eq_true, decide_eq_true_eq] at g2
  exact ⟨xfB_ok g2.2.2.2.2, g2.2.2.2.1⟩
theorem xb_ok (X : K.In h) (G : h.Ns mainGlobals mg) {x : PySem.Str} (c1 : fGlo x K = true) (c : fXb x K = true) : XbD K mg x := by
  obtain ⟨a, b⟩ := He.ba c
  exact ⟨_, a, b, He.glo_ok X G c1⟩
theorem xc_ok {P : Program} {w : World} {base : Heap} (X : K.In h) (G : h.Ns mainGlobals mg) {x f qual : PySem.Str} {st : Stmt} {fd : FuncData} (c1 : fGlo x K = true) (c : fXc x f K = true) (F : FnP K "__init__" qual st (He.ma K (He.ga K x) "__init__") fd) (S : FnScope ["self", f] ["self", f] (defScope st))
    (hb : ∃ p1 p2 p3 p4 : Pos, defBody st = [.Assign [.Attribute (.Name "self" p1) f p2] (.Name f p3) p4]) (h1 : Vis (defScope st) "self") (h2 : Vis (defScope st) f) (hd : (f == ("__debug__" : PySem.Str)) = false) (hcd : (f == ("__classdict__" : PySem.Str)) = false)
    (bP : ∀ (kV doc pm : Value) (an : Option Addr) (cdv ct a v : Value), bindArgs (PySem.W.fnOf "__init__" qual (defArgs st) (defBody st) (defScope st) .none kV doc pm an cdv ct) ⟨[a, v], []⟩ = pure [(("self" : PySem.Str), a), (f, v)])
    (bK : ∀ (kV doc pm : Value) (an : Option Addr) (cdv ct a v : Value), bindArgs (PySem.W.fnOf "__init__" qual (defArgs st) (defBody st) (defScope st) .none kV doc pm an cdv ct) ⟨[a], [(f, v)]⟩ = pure [(("self" : PySem.Str), a), (f, v)]) :
    XcD P w K mg base 1 x f := by
  unfold fXc xcB at c
  simp only [Bool.and_eq_true, decide_eq_true_eq] at c
  obtain ⟨a1, a2, a3, a4, a5⟩ := c
  have ho := oexB_ok a1
  refine ⟨_, _, fd, ⟨ho, He.eqO_ok a2, a3, a4, fun s a v => ?_, fun s a v => ?_⟩, ok_init (k := 0) F S ho a4 hb h1 h2 hd hcd, He.glo_ok X G c1⟩
  · obtain ⟨oc, od, dV, kV, doc, pm, an, cdv, ct, osl, rfl, lk, hcd, hD, hK⟩ := F.ex
    rcases hD with ⟨_, rfl⟩ | ⟨e, _⟩
    · exact .of_eq (bP kV doc pm an cdv ct a v)
    · exact absurd rfl e
  · obtain ⟨oc, od, dV, kV, doc, pm, an, cdv, ct, osl, rfl, lk, hcd, hD, hK⟩ := F.ex
    rcases hD with ⟨_, rfl⟩ | ⟨e, _⟩
    · exact .of_eq (bK kV doc pm an cdv ct a v)
    · exact absurd rfl e
end
/-- shorter names for what the generator prints -/
def gCatL (a b : G) : GL := fun ρ => (a ρ).bind fun x => (b ρ).bind fun y => match dAddL x y with | some (.lst l) => some l | _ => none
def gRepL (a b : G) : GL := fun ρ => (a ρ).bind fun x => (b ρ).bind fun y => match dMulL x y with | some (.lst l) => some l | _ => none
def aCc (i : Nat) (gs : GA) : GA := fun ρ => match ρ[i]? with | some (.own _ _) => aC i gs ρ | _ => none
end DL

set_option Elab.async false
set_option linter.all false
set_option maxRecDepth 100000
set_option maxHeartbeats 4000000
/-! DP: plain equations of the mirrored functions. -/
namespace DL
open PySem PySem.Spec PyProof.Rows L2
theorem asg_nm (i : Nat) (d : D) (ρ : Rho) : asg (.nm i) d ρ = some (ρ.set i (.sh d)) := by simp only [asg]
theorem asg_tp (ps : List Pat) (ds : List D) (ρ : Rho) : asg (.tp ps) (.tup ds) ρ = asgL ps ds ρ := by simp only [asg]
theorem asg_ix (i : Nat) (k : G) (d : D) (ρ : Rho) {c : Bool} {l : List D} {n : Int} {j : Nat} (h1 : ρ[i]? = some (.own c l)) (h2 : k (peek ρ) = some (.int n)) (h3 : L2.ixN l.length n = some j) : asg (.ix i k) d ρ = some (ρ.set i (.own c (l.set j d))) := by
  simp only [asg, h1, h2, h3, Option.bind_some, Option.map_some]
theorem asg_ixE (i : Nat) (k : G) (d : D) (ρ : Rho) : asg (.ix i k) d ρ = (match ρ[i]? with
    | some (.own c l) => (k (peek ρ)).bind fun x => match x with
      | .int n => (L2.ixN l.length n).map fun j => ρ.set i (.own c (l.set j d))
      | _ => none
    | _ => none) := by simp only [asg] <;> rfl
theorem asgL_nil (ρ : Rho) : asgL [] [] ρ = some ρ := by simp only [asgL]
theorem asgL_cons (p : Pat) (ps : List Pat) (d : D) (ds : List D) (ρ : Rho) : asgL (p :: ps) (d :: ds) ρ = (asg p d ρ).bind (asgL ps ds) := by simp only [asgL]
theorem log2_le {a : Int} {n : Nat} (h : a.natAbs < 2 ^ n) (hn : 0 < n) : a.natAbs.log2 < n := by
  by_cases h0 : a.natAbs = 0
  · rw [h0]; simpa using hn
  · exact (Nat.log2_lt h0).mpr h
theorem mulOk_of {a b : Int} (h1 : a.natAbs < 2 ^ 10000000) (h2 : b.natAbs < 2 ^ 10000000) : mulOk a b = true := by
  unfold mulOk
  have := log2_le h1 (by omega)
  have := log2_le h2 (by omega)
  exact decide_eq_true (by omega)
/-- a draw's store: what the script's number leaves, the stirred seed, how many draws -/
def St (B : Int) (l : List D) : Prop := ∃ c s k : Int, l = [.int c, .int s, .int k] ∧ 0 ≤ c ∧ 0 ≤ s ∧ s < 2147483477 ∧ 0 ≤ k ∧ k ≤ B
theorem dAdd_i (i j : Int) : dAdd (.int i) (.int j) = some (.int (i + j)) := rfl
theorem dSub_i (i j : Int) : dSub (.int i) (.int j) = some (.int (i - j)) := rfl
theorem dMul_i {i j : Int} (h : mulOk i j = true) : dMul (.int i) (.int j) = some (.int (i * j)) := if_pos h
theorem dMod_i {i j : Int} (h : j ≠ 0) : dMod (.int i) (.int j) = some (.int (i.fmod j)) := if_neg h
theorem dFdiv_i {i j : Int} (h : divOk j = true) : dFdiv (.int i) (.int j) = some (.int (i.fdiv j)) := if_pos h
theorem dPow_i {i j : Int} (h : 0 ≤ j ∧ j ≤ 1000000 ∧ i.natAbs < 2 ^ 64) : dPow (.int i) (.int j) = some (.int (i ^ j.toNat)) := if_pos h
theorem dNeg_i (i : Int) : dNeg (.int i) = some (.int (-i)) := rfl
theorem dInt_i (i : Int) : dInt [.int i] = some (.int i) := rfl
theorem dCmp_i (f : Int → Int → Bool) (i j : Int) : dCmp f (.int i) (.int j) = some (.bl (f i j)) := rfl
theorem toB_b (b : Bool) : toB (.bl b) = some b := rfl
theorem dAdd_l {l r : List D} (h : l.length + r.length ≤ 1000) : dAdd (.lst l) (.lst r) = some (.lst (l ++ r)) := if_pos h
theorem fmod_pos {a b : Int} (h : 0 < b) : 0 ≤ a.fmod b ∧ a.fmod b < b := by
  rw [Int.fmod_eq_emod_of_nonneg _ (by omega)]
  exact ⟨Int.emod_nonneg _ (by omega), Int.emod_lt_of_pos _ h⟩
theorem gLc_of {gi : GL} {q : Pat} {vs : List Nat} {tt : GB} {te : G} {ρ : Rho} {ds r : List D} (h1 : gi ρ = some ds) (h2 : ds.length ≤ 1000) (h3 : dComp q tt te (wipeR ρ vs) ds = some r) : gLc gi q vs tt te ρ = some r := by
  unfold gLc
  rw [h1, Option.bind_some, if_pos h2]
  exact h3
theorem cutL_map {α β : Type} (f : α → β) (l : List α) (lo hi : Option Int) : cutL (l.map f) lo hi = (cutL l lo hi).map f := by
  unfold cutL
  rw [List.length_map, List.map_take, List.map_drop]
theorem cutL_len {α : Type} (l : List α) (lo hi : Option Int) : (cutL l lo hi).length ≤ l.length := by
  unfold cutL
  rw [List.length_take, List.length_drop]
  omega
theorem intsD_map (l : List Int) : intsD (l.map .int) = some l := by
  induction l with
  | nil => rfl
  | cons a l ih => simp [intsD, ih]
theorem map_singleton (i : Int) : [D.int i] = ([i] : List Int).map D.int := rfl
end DL

set_option Elab.async false
set_option linter.all false
set_option maxRecDepth 100000
set_option maxHeartbeats 0
namespace Lk01
open PySem PySem.Spec PyProof.Rows L2 DL
def top (i : Nat) : Stmt := PySem.Challenge.pw_ironships_k01_errors_each_of_its_own.main.body.getD i (.Pass ⟨0, 0, 0, 0⟩)
def mth (i j : Nat) : Stmt := match top i with
  | .ClassDef (body := b) .. => b.getD j (.Pass ⟨0, 0, 0, 0⟩)
  | s => s
def st_law_lode : Stmt := top 33
def st_law_deal : Stmt := top 34
def st_law_some : Stmt := top 35
def st_law_about : Stmt := top 36
def st_law_given : Stmt := top 37
def st_law_indexed : Stmt := top 38
def st_law_marks : Stmt := top 39
def st_law_stand : Stmt := top 40
def st_law_right : Stmt := top 41
def st_law : Stmt := top 42
def excs : List PySem.Str := ["CompassError", "InvalidFraction", "InvalidNumber", "InvalidIndex", "InvalidSurd", "InvalidHeading", "InvalidCourse", "InvalidWave", "InvalidIron", "InvalidPiece", "InvalidPlace", "InvalidFive", "InvalidForce", "InvalidReading", "InvalidName", "InvalidWish", "InvalidPhrase", "UnknownName", "NotAWorkshop", "HighBelowLow", "InvalidReadings", "InvalidSea", "InvalidBox", "InvalidCounts", "InUse", "Broken", "TooMuchIron", "NotAhead", "SameDip", "NoneFits", "NothingToUndo"]
def cs_given : List PySem.Str := ["InvalidFraction", "InvalidNumber", "InvalidIndex", "InvalidSurd", "InvalidHeading", "InvalidCourse", "InvalidWave", "InvalidIron", "InvalidPiece", "InvalidPlace", "InvalidFive", "InvalidForce", "InvalidReading", "InvalidName", "InvalidWish", "InvalidPhrase", "UnknownName", "NotAWorkshop", "HighBelowLow"]
def cs_index : List PySem.Str := ["InvalidReadings", "InvalidSea", "InvalidBox", "InvalidCounts", "InUse", "Broken"]
def i_InvalidFraction (c : PySem.Str) : Option Bool := if c ∈ excs then some (decide (c ∈ (["InvalidFraction"] : List PySem.Str))) else none
def i_InvalidNumber (c : PySem.Str) : Option Bool := if c ∈ excs then some (decide (c ∈ (["InvalidNumber"] : List PySem.Str))) else none
def i_InvalidIndex (c : PySem.Str) : Option Bool := if c ∈ excs then some (decide (c ∈ (["InvalidIndex"] : List PySem.Str))) else none
def i_InvalidSurd (c : PySem.Str) : Option Bool := if c ∈ excs then some (decide (c ∈ (["InvalidSurd"] : List PySem.Str))) else none
def i_InvalidHeading (c : PySem.Str) : Option Bool := if c ∈ excs then some (decide (c ∈ (["InvalidHeading"] : List PySem.Str))) else none
def i_InvalidCourse (c : PySem.Str) : Option Bool := if c ∈ excs then some (decide (c ∈ (["InvalidCourse"] : List PySem.Str))) else none
def i_InvalidWave (c : PySem.Str) : Option Bool := if c ∈ excs then some (decide (c ∈ (["InvalidWave"] : List PySem.Str))) else none
def i_InvalidIron (c : PySem.Str) : Option Bool := if c ∈ excs then some (decide (c ∈ (["InvalidIron"] : List PySem.Str))) else none
def i_InvalidPiece (c : PySem.Str) : Option Bool := if c ∈ excs then some (decide (c ∈ (["InvalidPiece"] : List PySem.Str))) else none
def i_InvalidPlace (c : PySem.Str) : Option Bool := if c ∈ excs then some (decide (c ∈ (["InvalidPlace"] : List PySem.Str))) else none
def i_InvalidFive (c : PySem.Str) : Option Bool := if c ∈ excs then some (decide (c ∈ (["InvalidFive"] : List PySem.Str))) else none
def i_InvalidForce (c : PySem.Str) : Option Bool := if c ∈ excs then some (decide (c ∈ (["InvalidForce"] : List PySem.Str))) else none
def i_InvalidReading (c : PySem.Str) : Option Bool := if c ∈ excs then some (decide (c ∈ (["InvalidReading"] : List PySem.Str))) else none
def i_InvalidName (c : PySem.Str) : Option Bool := if c ∈ excs then some (decide (c ∈ (["InvalidName"] : List PySem.Str))) else none
def i_InvalidWish (c : PySem.Str) : Option Bool := if c ∈ excs then some (decide (c ∈ (["InvalidWish"] : List PySem.Str))) else none
def i_InvalidPhrase (c : PySem.Str) : Option Bool := if c ∈ excs then some (decide (c ∈ (["InvalidPhrase"] : List PySem.Str))) else none
def i_UnknownName (c : PySem.Str) : Option Bool := if c ∈ excs then some (decide (c ∈ (["UnknownName"] : List PySem.Str))) else none
def i_NotAWorkshop (c : PySem.Str) : Option Bool := if c ∈ excs then some (decide (c ∈ (["NotAWorkshop"] : List PySem.Str))) else none
def i_HighBelowLow (c : PySem.Str) : Option Bool := if c ∈ excs then some (decide (c ∈ (["HighBelowLow"] : List PySem.Str))) else none
def i_InvalidReadings (c : PySem.Str) : Option Bool := if c ∈ excs then some (decide (c ∈ (["InvalidReadings"] : List PySem.Str))) else none
def i_InvalidSea (c : PySem.Str) : Option Bool := if c ∈ excs then some (decide (c ∈ (["InvalidSea"] : List PySem.Str))) else none
def i_InvalidBox (c : PySem.Str) : Option Bool := if c ∈ excs then some (decide (c ∈ (["InvalidBox"] : List PySem.Str))) else none
def i_InvalidCounts (c : PySem.Str) : Option Bool := if c ∈ excs then some (decide (c ∈ (["InvalidCounts"] : List PySem.Str))) else none
def i_InUse (c : PySem.Str) : Option Bool := if c ∈ excs then some (decide (c ∈ (["InUse"] : List PySem.Str))) else none
def i_Broken (c : PySem.Str) : Option Bool := if c ∈ excs then some (decide (c ∈ (["Broken"] : List PySem.Str))) else none
def i_TooMuchIron (c : PySem.Str) : Option Bool := if c ∈ excs then some (decide (c ∈ (["TooMuchIron"] : List PySem.Str))) else none
def i_NotAhead (c : PySem.Str) : Option Bool := if c ∈ excs then some (decide (c ∈ (["NotAhead"] : List PySem.Str))) else none
def i_SameDip (c : PySem.Str) : Option Bool := if c ∈ excs then some (decide (c ∈ (["SameDip"] : List PySem.Str))) else none
def i_NoneFits (c : PySem.Str) : Option Bool := if c ∈ excs then some (decide (c ∈ (["NoneFits"] : List PySem.Str))) else none
def i_NothingToUndo (c : PySem.Str) : Option Bool := if c ∈ excs then some (decide (c ∈ (["NothingToUndo"] : List PySem.Str))) else none
def i_LookupError (c : PySem.Str) : Option Bool := if c ∈ excs then some (decide (c ∈ ([] : List PySem.Str))) else none
def i_ArithmeticError (c : PySem.Str) : Option Bool := if c ∈ excs then some (decide (c ∈ ([] : List PySem.Str))) else none
def i_TypeError (c : PySem.Str) : Option Bool := if c ∈ excs then some (decide (c ∈ ([] : List PySem.Str))) else none
def i_RuntimeError (c : PySem.Str) : Option Bool := if c ∈ excs then some (decide (c ∈ ([] : List PySem.Str))) else none
def i_CompassError (c : PySem.Str) : Option Bool := if c ∈ excs then some (decide (c ∈ (["CompassError", "InvalidFraction", "InvalidNumber", "InvalidIndex", "InvalidSurd", "InvalidHeading", "InvalidCourse", "InvalidWave", "InvalidIron", "InvalidPiece", "InvalidPlace", "InvalidFive", "InvalidForce", "InvalidReading", "InvalidName", "InvalidWish", "InvalidPhrase", "UnknownName", "NotAWorkshop", "HighBelowLow", "InvalidReadings", "InvalidSea", "InvalidBox", "InvalidCounts", "InUse", "Broken", "TooMuchIron", "NotAhead", "SameDip", "NoneFits", "NothingToUndo"] : List PySem.Str))) else none
def i_ValueError (c : PySem.Str) : Option Bool := if c ∈ excs then some (decide (c ∈ (["CompassError", "InvalidFraction", "InvalidNumber", "InvalidIndex", "InvalidSurd", "InvalidHeading", "InvalidCourse", "InvalidWave", "InvalidIron", "InvalidPiece", "InvalidPlace", "InvalidFive", "InvalidForce", "InvalidReading", "InvalidName", "InvalidWish", "InvalidPhrase", "UnknownName", "NotAWorkshop", "HighBelowLow", "InvalidReadings", "InvalidSea", "InvalidBox", "InvalidCounts", "InUse", "Broken", "TooMuchIron", "NotAhead", "SameDip", "NoneFits", "NothingToUndo"] : List PySem.Str))) else none
/-- what the walk wants of the written part -/
structure Txt (K : PySem.W.Frag) (mg : PySem.Str → Option Value) : Prop where
  d_law_lode : DefAt K mg "_law_lode" st_law_lode
  d_law_deal : DefAt K mg "_law_deal" st_law_deal
  d_law_some : DefAt K mg "_law_some" st_law_some
  d_law_about : DefAt K mg "_law_about" st_law_about
  d_law_given : DefAt K mg "_law_given" st_law_given
  d_law_indexed : DefAt K mg "_law_indexed" st_law_indexed
  d_law_marks : DefAt K mg "_law_marks" st_law_marks
  d_law_stand : DefAt K mg "_law_stand" st_law_stand
  d_law_right : DefAt K mg "_law_right" st_law_right
  d_law : DefAt K mg "law" st_law
  n_ArithmeticError : mg "ArithmeticError" = none
  n_LookupError : mg "LookupError" = none
  n_RuntimeError : mg "RuntimeError" = none
  n_TypeError : mg "TypeError" = none
  n_ValueError : mg "ValueError" = none
  n_abs : mg "abs" = none
  n_all : mg "all" = none
  n_divmod : mg "divmod" = none
  n_int : mg "int" = none
  n_isinstance : mg "isinstance" = none
  n_len : mg "len" = none
  n_range : mg "range" = none
  n_repr : mg "repr" = none
  n_sum : mg "sum" = none
  b_CompassError : XbD K mg "CompassError"
  e_InvalidFraction : ∀ (P : Program) (w : World) (base : Heap), XcD P w K mg base 1 "InvalidFraction" "given"
  e_InvalidNumber : ∀ (P : Program) (w : World) (base : Heap), XcD P w K mg base 1 "InvalidNumber" "given"
  e_InvalidIndex : ∀ (P : Program) (w : World) (base : Heap), XcD P w K mg base 1 "InvalidIndex" "given"
  e_InvalidSurd : ∀ (P : Program) (w : World) (base : Heap), XcD P w K mg base 1 "InvalidSurd" "given"
  e_InvalidHeading : ∀ (P : Program) (w : World) (base : Heap), XcD P w K mg base 1 "InvalidHeading" "given"
  e_InvalidCourse : ∀ (P : Program) (w : World) (base : Heap), XcD P w K mg base 1 "InvalidCourse" "given"
  e_InvalidWave : ∀ (P : Program) (w : World) (base : Heap), XcD P w K mg base 1 "InvalidWave" "given"
  e_InvalidIron : ∀ (P : Program) (w : World) (base : Heap), XcD P w K mg base 1 "InvalidIron" "given"
  e_InvalidPiece : ∀ (P : Program) (w : World) (base : Heap), XcD P w K mg base 1 "InvalidPiece" "given"
  e_InvalidPlace : ∀ (P : Program) (w : World) (base : Heap), XcD P w K mg base 1 "InvalidPlace" "given"
  e_InvalidFive : ∀ (P : Program) (w : World) (base : Heap), XcD P w K mg base 1 "InvalidFive" "given"
  e_InvalidForce : ∀ (P : Program) (w : World) (base : Heap), XcD P w K mg base 1 "InvalidForce" "given"
  e_InvalidReading : ∀ (P : Program) (w : World) (base : Heap), XcD P w K mg base 1 "InvalidReading" "given"
  e_InvalidName : ∀ (P : Program) (w : World) (base : Heap), XcD P w K mg base 1 "InvalidName" "given"
  e_InvalidWish : ∀ (P : Program) (w : World) (base : Heap), XcD P w K mg base 1 "InvalidWish" "given"
  e_InvalidPhrase : ∀ (P : Program) (w : World) (base : Heap), XcD P w K mg base 1 "InvalidPhrase" "given"
  e_UnknownName : ∀ (P : Program) (w : World) (base : Heap), XcD P w K mg base 1 "UnknownName" "given"
  e_NotAWorkshop : ∀ (P : Program) (w : World) (base : Heap), XcD P w K mg base 1 "NotAWorkshop" "given"
  e_HighBelowLow : ∀ (P : Program) (w : World) (base : Heap), XcD P w K mg base 1 "HighBelowLow" "given"
  e_InvalidReadings : ∀ (P : Program) (w : World) (base : Heap), XcD P w K mg base 1 "InvalidReadings" "index"
  e_InvalidSea : ∀ (P : Program) (w : World) (base : Heap), XcD P w K mg base 1 "InvalidSea" "index"
  e_InvalidBox : ∀ (P : Program) (w : World) (base : Heap), XcD P w K mg base 1 "InvalidBox" "index"
  e_InvalidCounts : ∀ (P : Program) (w : World) (base : Heap), XcD P w K mg base 1 "InvalidCounts" "index"
  e_InUse : ∀ (P : Program) (w : World) (base : Heap), XcD P w K mg base 1 "InUse" "index"
  e_Broken : ∀ (P : Program) (w : World) (base : Heap), XcD P w K mg base 1 "Broken" "index"
  b_TooMuchIron : XbD K mg "TooMuchIron"
  b_NotAhead : XbD K mg "NotAhead"
  b_SameDip : XbD K mg "SameDip"
  b_NoneFits : XbD K mg "NoneFits"
  b_NothingToUndo : XbD K mg "NothingToUndo"
  g_InvalidFraction : mg "InvalidFraction" = some (.ref (He.ga K "InvalidFraction"))
  i_InvalidFraction : IsE K mg (.ref (He.ga K "InvalidFraction")) i_InvalidFraction
  g_InvalidNumber : mg "InvalidNumber" = some (.ref (He.ga K "InvalidNumber"))
  i_InvalidNumber : IsE K mg (.ref (He.ga K "InvalidNumber")) i_InvalidNumber
  g_InvalidIndex : mg "InvalidIndex" = some (.ref (He.ga K "InvalidIndex"))
  i_InvalidIndex : IsE K mg (.ref (He.ga K "InvalidIndex")) i_InvalidIndex
  g_InvalidSurd : mg "InvalidSurd" = some (.ref (He.ga K "InvalidSurd"))
  i_InvalidSurd : IsE K mg (.ref (He.ga K "InvalidSurd")) i_InvalidSurd
  g_InvalidHeading : mg "InvalidHeading" = some (.ref (He.ga K "InvalidHeading"))
  i_InvalidHeading : IsE K mg (.ref (He.ga K "InvalidHeading")) i_InvalidHeading
  g_InvalidCourse : mg "InvalidCourse" = some (.ref (He.ga K "InvalidCourse"))
  i_InvalidCourse : IsE K mg (.ref (He.ga K "InvalidCourse")) i_InvalidCourse
  g_InvalidWave : mg "InvalidWave" = some (.ref (He.ga K "InvalidWave"))
  i_InvalidWave : IsE K mg (.ref (He.ga K "InvalidWave")) i_InvalidWave
  g_InvalidIron : mg "InvalidIron" = some (.ref (He.ga K "InvalidIron"))
  i_InvalidIron : IsE K mg (.ref (He.ga K "InvalidIron")) i_InvalidIron
  g_InvalidPiece : mg "InvalidPiece" = some (.ref (He.ga K "InvalidPiece"))
  i_InvalidPiece : IsE K mg (.ref (He.ga K "InvalidPiece")) i_InvalidPiece
  g_InvalidPlace : mg "InvalidPlace" = some (.ref (He.ga K "InvalidPlace"))
  i_InvalidPlace : IsE K mg (.ref (He.ga K "InvalidPlace")) i_InvalidPlace
  g_InvalidFive : mg "InvalidFive" = some (.ref (He.ga K "InvalidFive"))
  i_InvalidFive : IsE K mg (.ref (He.ga K "InvalidFive")) i_InvalidFive
  g_InvalidForce : mg "InvalidForce" = some (.ref (He.ga K "InvalidForce"))
  i_InvalidForce : IsE K mg (.ref (He.ga K "InvalidForce")) i_InvalidForce
  g_InvalidReading : mg "InvalidReading" = some (.ref (He.ga K "InvalidReading"))
  i_InvalidReading : IsE K mg (.ref (He.ga K "InvalidReading")) i_InvalidReading
  g_InvalidName : mg "InvalidName" = some (.ref (He.ga K "InvalidName"))
  i_InvalidName : IsE K mg (.ref (He.ga K "InvalidName")) i_InvalidName
  g_InvalidWish : mg "InvalidWish" = some (.ref (He.ga K "InvalidWish"))
  i_InvalidWish : IsE K mg (.ref (He.ga K "InvalidWish")) i_InvalidWish
  g_InvalidPhrase : mg "InvalidPhrase" = some (.ref (He.ga K "InvalidPhrase"))
  i_InvalidPhrase : IsE K mg (.ref (He.ga K "InvalidPhrase")) i_InvalidPhrase
  g_UnknownName : mg "UnknownName" = some (.ref (He.ga K "UnknownName"))
  i_UnknownName : IsE K mg (.ref (He.ga K "UnknownName")) i_UnknownName
  g_NotAWorkshop : mg "NotAWorkshop" = some (.ref (He.ga K "NotAWorkshop"))
  i_NotAWorkshop : IsE K mg (.ref (He.ga K "NotAWorkshop")) i_NotAWorkshop
  g_HighBelowLow : mg "HighBelowLow" = some (.ref (He.ga K "HighBelowLow"))
  i_HighBelowLow : IsE K mg (.ref (He.ga K "HighBelowLow")) i_HighBelowLow
  g_InvalidReadings : mg "InvalidReadings" = some (.ref (He.ga K "InvalidReadings"))
  i_InvalidReadings : IsE K mg (.ref (He.ga K "InvalidReadings")) i_InvalidReadings
  g_InvalidSea : mg "InvalidSea" = some (.ref (He.ga K "InvalidSea"))
  i_InvalidSea : IsE K mg (.ref (He.ga K "InvalidSea")) i_InvalidSea
  g_InvalidBox : mg "InvalidBox" = some (.ref (He.ga K "InvalidBox"))
  i_InvalidBox : IsE K mg (.ref (He.ga K "InvalidBox")) i_InvalidBox
  g_InvalidCounts : mg "InvalidCounts" = some (.ref (He.ga K "InvalidCounts"))
  i_InvalidCounts : IsE K mg (.ref (He.ga K "InvalidCounts")) i_InvalidCounts
  g_InUse : mg "InUse" = some (.ref (He.ga K "InUse"))
  i_InUse : IsE K mg (.ref (He.ga K "InUse")) i_InUse
  g_Broken : mg "Broken" = some (.ref (He.ga K "Broken"))
  i_Broken : IsE K mg (.ref (He.ga K "Broken")) i_Broken
  g_TooMuchIron : mg "TooMuchIron" = some (.ref (He.ga K "TooMuchIron"))
  i_TooMuchIron : IsE K mg (.ref (He.ga K "TooMuchIron")) i_TooMuchIron
  g_NotAhead : mg "NotAhead" = some (.ref (He.ga K "NotAhead"))
  i_NotAhead : IsE K mg (.ref (He.ga K "NotAhead")) i_NotAhead
  g_SameDip : mg "SameDip" = some (.ref (He.ga K "SameDip"))
  i_SameDip : IsE K mg (.ref (He.ga K "SameDip")) i_SameDip
  g_NoneFits : mg "NoneFits" = some (.ref (He.ga K "NoneFits"))
  i_NoneFits : IsE K mg (.ref (He.ga K "NoneFits")) i_NoneFits
  g_NothingToUndo : mg "NothingToUndo" = some (.ref (He.ga K "NothingToUndo"))
  i_NothingToUndo : IsE K mg (.ref (He.ga K "NothingToUndo")) i_NothingToUndo
  i_LookupError : IsE K mg (.type "LookupError") i_LookupError
  i_ArithmeticError : IsE K mg (.type "ArithmeticError") i_ArithmeticError
  i_TypeError : IsE K mg (.type "TypeError") i_TypeError
  i_RuntimeError : IsE K mg (.type "RuntimeError") i_RuntimeError
  g_CompassError : mg "CompassError" = some (.ref (He.ga K "CompassError"))
  i_CompassError : IsE K mg (.ref (He.ga K "CompassError")) i_CompassError
  i_ValueError : IsE K mg (.type "ValueError") i_ValueError
  x_given : ∀ c ∈ cs_given, ∀ C, mg c = some (.ref C) → XfC K C ∧ PySem.W.findIn K (.ref C) "given" = some none
  x_index : ∀ c ∈ cs_index, ∀ C, mg c = some (.ref C) → XfC K C ∧ PySem.W.findIn K (.ref C) "index" = some none
section
variable {P : Program} {w : World} {K : PySem.W.Frag} {mg : PySem.Str → Option Value} {base : Heap}
/-! #### law_lode -/
def N_law_lode : List PySem.Str := ["_law_script", "_law_lap", "_law_cell", "_law_stirred", "_law_each"]
def P_law_lode : List PySem.Str := ["_law_script", "_law_lap"]
theorem sc_law_lode : FnScope N_law_lode P_law_lode (defScope st_law_lode) := ⟨rfl, rfl, rfl, by decide +kernel, rfl, by decide +kernel, by decide +kernel⟩
theorem bd_law_lode : Bnd "_law_lode" st_law_lode P_law_lode := fun _ _ _ _ _ _ us hl => match us, hl with
  | [_, _], _ => rfl
def g_law_lode (m : Nat) : GF := (fSeq (sSet 2 (gIf (tB' (gB (dCmp fLt) (gV 1) (gF dLen (gK (gV 0) gN)))) (gF dInt (gK (gB dIx (gV 0) (gV 1)) gN)) (gB dAdd (gB dAdd (gB dMul (gC (.int 6113)) (gV 1)) (gC (.int 41))) (gB dMod (gF dInt (gK (gF dSum (gK (gLst (gSlL (gV 0) gNoP (gP (gC (.int 5))))) gN)) gN)) (gC (.int 1000133))))))
 (fSeq (sSet 3 (gB dAdd (gC (.int 27191)) (gB dMul (gC (.int 1409)) (gV 1))))
 (fSeq (sFor (fun ρ => ((gB dAdd (gLst (gSlL (gV 0) gNoP (gP (gC (.int 11))))) (gLst (gK (gV 2) gN))) ρ).bind seqD) (.nm 4)
 (sSet 3 (gB dMod (gF dInt (gK (gB dAdd (gB dAdd (gB dMul (gV 3) (gC (.int 39373))) (gB dMod (gF dInt (gK (gV 4) gN)) (gC (.int 2147483477)))) (gC (.int 17))) gN)) (gC (.int 2147483477)))))
 (gK (gIf (tOr' (tB' (gB (dCmp fLt) (gV 2) (gC (.int 0)))) (tB' (gB (dCmp fGe) (gV 2) (gB dPow (gC (.int 10)) (gC (.int 18)))))) (gF dAbs (gK (gV 2) gN)) (gC (.int 0))) (gK (gV 3) (gK (gC (.int 0)) gN))))))
def F_law_lode (m : Nat) (ds : List D) : Option (List D) := runL N_law_lode.length (g_law_lode m) ds
theorem fn_law_lode (T : Txt K mg) : FnF P w K mg base 1 "_law_lode" 2 F_law_lode := by
  refine mk_fnF T.d_law_lode sc_law_lode bd_law_lode g_law_lode rfl fun m f cdv A outer s H E hr => ?_
  exact (sf_cons (sv_set 2 sc_law_lode.nd (ev_if (tv_cmp o_lt (ev_var 1) (ev_callB c_len T.n_len (evl_cons (ev_var 0) evl_nil))) (ev_callTy c_int T.n_int (evl_cons (ev_ix (ev_var 0) (ev_var 1)) evl_nil)) (ev_bin o_add (ev_bin o_add (ev_bin o_mul ev_int (ev_var 1)) ev_int) (ev_bin o_mod (ev_callTy c_int T.n_int (evl_cons (ev_callB (c_sum rfl) T.n_sum (evl_cons (EVF.ev (evf_sl (ev_var 0) pv_no (pv_at ev_int))) evl_nil)) evl_nil)) ev_int))))
 (sf_cons (sv_set 3 sc_law_lode.nd (ev_bin o_add ev_int (ev_bin o_mul ev_int (ev_var 1))))
 (sf_cons (sv_for PassesOwn.never rfl (iv_seq (ev_bin o_add (EVF.ev (evf_sl (ev_var 0) pv_no (pv_at ev_int))) (EVF.ev (evf_lst (evl_cons (ev_var 2) evl_nil))))) (tg_nm 4 sc_law_lode.nd)
 (svs_one (sv_set 3 sc_law_lode.nd (ev_bin o_mod (ev_callTy c_int T.n_int (evl_cons (ev_bin o_add (ev_bin o_add (ev_bin o_mul (ev_var 3) ev_int) (ev_bin o_mod (ev_callTy c_int T.n_int (evl_cons (ev_var 4) evl_nil)) ev_int)) ev_int) evl_nil)) ev_int))))
 (sf_ret (evf_lst (evl_cons (ev_if (WV.tv (wv_or (tv_cmp o_lt (ev_var 2) ev_int) (wv_or1 (tv_cmp o_ge (ev_var 2) (ev_bin o_pow ev_int ev_int))))) (ev_callB c_abs T.n_abs (evl_cons (ev_var 2) evl_nil)) ev_int) (evl_cons (ev_var 3) (evl_cons ev_int evl_nil))))))))
/-! #### law_deal -/
def N_law_deal : List PySem.Str := ["_law_lode_here", "_law_many", "_law_digit", "_law_factor"]
def P_law_deal : List PySem.Str := ["_law_lode_here", "_law_many"]
theorem sc_law_deal : FnScope N_law_deal P_law_deal (defScope st_law_deal) := ⟨rfl, rfl, rfl, by decide +kernel, rfl, by decide +kernel, by decide +kernel⟩
theorem bd_law_deal : Bnd "_law_deal" st_law_deal P_law_deal := fun _ _ _ _ _ _ us hl => match us, hl with
  | [_, _], _ => rfl
def g_law_deal (m : Nat) : GS := (sSeq (sIf (tB' (gB (dCmp fGt) (gB dIx (gV 0) (gC (.int 0))) (gC (.int 0))))
 (sSeq (sTgP (.tp [(.ix 0 (gC (.int 0))), (.nm 2)]) (gF dDivmod (gK (gB dIx (gV 0) (gC (.int 0))) (gK (gV 1) gN))))
 (sRet (gV 2)))
 sNil)
 (sSeq (sTgM (.ix 0 (gC (.int 2))) (mK (gB dAdd (gB dIx (gV 0) (gC (.int 2))) (gC (.int 1)))))
 (sSeq (sSetP 3 (gB dAdd (gB dMod (gF dInt (gK (gB dIx (gV 0) (gC (.int 1))) gN)) (gC (.int 17011))) (gC (.int 23003))))
 (sSeq (sTgM (.ix 0 (gC (.int 1))) (mK (gB dMod (gF dInt (gK (gB dAdd (gB dAdd (gB dMul (gB dIx (gV 0) (gC (.int 1))) (gV 3)) (gB dMul (gC (.int 60013)) (gB dIx (gV 0) (gC (.int 2))))) (gC (.int 41))) gN)) (gC (.int 2147483477)))))
 (sRetL (gB dMod (gF dInt (gK (gB dFdiv (gB dIx (gV 0) (gC (.int 1))) (gC (.int 89))) gN)) (gV 1)))))))
def F_law_deal (m : Nat) (ss : List S) : Option (D × List S) := runB N_law_deal.length (g_law_deal m) ss
theorem fn_law_deal (T : Txt K mg) : FnB P w K mg base 1 "_law_deal" 2 F_law_deal := by
  refine mk_fnB T.d_law_deal sc_law_deal bd_law_deal g_law_deal rfl fun m f cdv A outer s H E hr => ?_
  exact (svs_cons (sv_if (tv_cmp o_gt (ev_ix (ev_var 0) ev_int) ev_int)
 (svs_cons (sv_tgP (ev_callB c_divmod T.n_divmod (evl_cons (ev_ix (ev_var 0) ev_int) (evl_cons (ev_var 1) evl_nil))) (tg_tp rfl (tgs_cons (tg_ix 0 ev_int) (tgs_cons (tg_nm 2 sc_law_deal.nd) tgs_nil))))
 (svs_one (sv_ret (ev_var 2))))
 svs_nil)
 (svs_cons (sv_tgM (em_k (ev_bin o_add (ev_ix (ev_var 0) ev_int) ev_int)) (tg_ix 0 ev_int))
 (svs_cons (sv_setP 3 sc_law_deal.nd (ev_bin o_add (ev_bin o_mod (ev_callTy c_int T.n_int (evl_cons (ev_ix (ev_var 0) ev_int) evl_nil)) ev_int) ev_int))
 (svs_cons (sv_tgM (em_k (ev_bin o_mod (ev_callTy c_int T.n_int (evl_cons (ev_bin o_add (ev_bin o_add (ev_bin o_mul (ev_ix (ev_var 0) ev_int) (ev_var 3)) (ev_bin o_mul ev_int (ev_ix (ev_var 0) ev_int))) ev_int) evl_nil)) ev_int)) (tg_ix 0 ev_int))
 (svs_one (sv_retL (ev_bin o_mod (ev_callTy c_int T.n_int (evl_cons (ev_bin o_fdiv (ev_ix (ev_var 0) ev_int) ev_int) evl_nil)) (ev_var 1))))))))
/-! #### law_some -/
def N_law_some : List PySem.Str := ["_law_lode_here", "_law_some_here"]
def P_law_some : List PySem.Str := ["_law_lode_here", "_law_some_here"]
theorem sc_law_some : FnScope N_law_some P_law_some (defScope st_law_some) := ⟨rfl, rfl, rfl, by decide +kernel, rfl, by decide +kernel, by decide +kernel⟩
theorem bd_law_some : Bnd "_law_some" st_law_some P_law_some := fun _ _ _ _ _ _ us hl => match us, hl with
  | [_, _], _ => rfl
def g_law_some (m : Nat) : GS := (sRetM (mB dIx (mP (gV 1)) (mR (F_law_deal m) (aCc 0 (aD (mP (gF dLen (gK (gV 1) gN))) aN)))))
def F_law_some (m : Nat) (ss : List S) : Option (D × List S) := runB N_law_some.length (g_law_some m) ss
theorem fn_law_some (T : Txt K mg) : FnB P w K mg base 2 "_law_some" 2 F_law_some := by
  refine mk_fnB T.d_law_some sc_law_some bd_law_some g_law_some rfl fun m f cdv A outer s H E hr => ?_
  exact (svs_one (sv_retM (em_ix (em_p (ev_var 1)) (em_callR (fn_law_deal T) hr m (eml_c 0 (eml_d (em_p (ev_callB c_len T.n_len (evl_cons (ev_var 1) evl_nil))) eml_nil))))))
/-! #### law_about -/
def N_law_about : List PySem.Str := ["_law_lode_here", "_law_wide", "_law_high"]
def P_law_about : List PySem.Str := ["_law_lode_here", "_law_wide"]
theorem sc_law_about : FnScope N_law_about P_law_about (defScope st_law_about) := ⟨rfl, rfl, rfl, by decide +kernel, rfl, by decide +kernel, by decide +kernel⟩
theorem bd_law_about : Bnd "_law_about" st_law_about P_law_about := fun _ _ _ _ _ _ us hl => match us, hl with
  | [_, _], _ => rfl
def g_law_about (m : Nat) : GS := (sSeq (sIf (tB' (gB (dCmp fLt) (gV 1) (gB dPow (gC (.int 10)) (gC (.int 5)))))
 (sRetM (mB dSub (mR (F_law_deal m) (aCc 0 (aD (mP (gB dAdd (gB dMul (gC (.int 2)) (gV 1)) (gC (.int 1)))) aN))) (mP (gV 1))))
 sNil)
 (sSeq (sSetM 2 (mR (F_law_deal m) (aCc 0 (aD (mP (gC (.int 64007))) aN))))
 (sRetM (mB dSub (mB dMod (mF dInt (aD (mB dAdd (mP (gB dMul (gV 2) (gC (.int 64007)))) (mR (F_law_deal m) (aCc 0 (aD (mP (gC (.int 64007))) aN)))) aN)) (mP (gB dAdd (gB dMul (gC (.int 2)) (gV 1)) (gC (.int 1))))) (mP (gV 1))))))
def F_law_about (m : Nat) (ss : List S) : Option (D × List S) := runB N_law_about.length (g_law_about m) ss
theorem fn_law_about (T : Txt K mg) : FnB P w K mg base 2 "_law_about" 2 F_law_about := by
  refine mk_fnB T.d_law_about sc_law_about bd_law_about g_law_about rfl fun m f cdv A outer s H E hr => ?_
  exact (svs_cons (sv_if (tv_cmp o_lt (ev_var 1) (ev_bin o_pow ev_int ev_int))
 (svs_one (sv_retM (em_bin o_sub (em_callR (fn_law_deal T) hr m (eml_c 0 (eml_d (em_p (ev_bin o_add (ev_bin o_mul ev_int (ev_var 1)) ev_int)) eml_nil))) (em_p (ev_var 1)))))
 svs_nil)
 (svs_cons (sv_setM 2 sc_law_about.nd (em_callR (fn_law_deal T) hr m (eml_c 0 (eml_d (em_p ev_int) eml_nil))))
 (svs_one (sv_retM (em_bin o_sub (em_bin o_mod (em_callTy c_int T.n_int (eml_d (em_bin o_add (em_p (ev_bin o_mul (ev_var 2) ev_int)) (em_callR (fn_law_deal T) hr m (eml_c 0 (eml_d (em_p ev_int) eml_nil)))) eml_nil)) (em_p (ev_bin o_add (ev_bin o_mul ev_int (ev_var 1)) ev_int))) (em_p (ev_var 1)))))))
/-! #### law_given -/
def N_law_given : List PySem.Str := ["_law_thing", "_law_one", "_law_two"]
def P_law_given : List PySem.Str := ["_law_thing"]
theorem sc_law_given : FnScope N_law_given P_law_given (defScope st_law_given) := ⟨rfl, rfl, rfl, by decide +kernel, rfl, by decide +kernel, by decide +kernel⟩
theorem bd_law_given : Bnd "_law_given" st_law_given P_law_given := fun _ _ _ _ _ _ us hl => match us, hl with
  | [_], _ => rfl
def g_law_given (m : Nat) : GS := (sSeq (sSet 1 (gLst (gK (gU (dExc "InvalidFraction" "given") (gV 0)) (gK (gU (dExc "InvalidNumber" "given") (gV 0)) (gK (gU (dExc "InvalidIndex" "given") (gV 0)) (gK (gU (dExc "InvalidSurd" "given") (gV 0)) gN))))))
 (sSeq (sSet 1 (gB dAdd (gV 1) (gLst (gK (gU (dExc "InvalidHeading" "given") (gV 0)) (gK (gU (dExc "InvalidCourse" "given") (gV 0)) (gK (gU (dExc "InvalidWave" "given") (gV 0)) (gK (gU (dExc "InvalidIron" "given") (gV 0)) gN)))))))
 (sSeq (sSet 1 (gB dAdd (gV 1) (gLst (gK (gU (dExc "InvalidPiece" "given") (gV 0)) (gK (gU (dExc "InvalidPlace" "given") (gV 0)) (gK (gU (dExc "InvalidFive" "given") (gV 0)) (gK (gU (dExc "InvalidForce" "given") (gV 0)) gN)))))))
 (sSeq (sSet 1 (gB dAdd (gV 1) (gLst (gK (gU (dExc "InvalidReading" "given") (gV 0)) (gK (gU (dExc "InvalidName" "given") (gV 0)) (gK (gU (dExc "InvalidWish" "given") (gV 0)) (gK (gU (dExc "InvalidPhrase" "given") (gV 0)) gN)))))))
 (sSeq (sSet 1 (gB dAdd (gV 1) (gLst (gK (gU (dExc "UnknownName" "given") (gV 0)) (gK (gU (dExc "NotAWorkshop" "given") (gV 0)) (gK (gU (dExc "HighBelowLow" "given") (gV 0)) gN))))))
 (sSeq (sSet 2 (gLst (gK (gU (dExc "InvalidFraction" "given") (gV 0)) (gK (gU (dExc "InvalidNumber" "given") (gV 0)) (gK (gU (dExc "InvalidIndex" "given") (gV 0)) gN)))))
 (sSeq (sSet 2 (gB dAdd (gV 2) (gLst (gK (gU (dExc "InvalidSurd" "given") (gV 0)) (gK (gU (dExc "InvalidHeading" "given") (gV 0)) (gK (gU (dExc "InvalidCourse" "given") (gV 0)) gN))))))
 (sSeq (sSet 2 (gB dAdd (gV 2) (gLst (gK (gU (dExc "InvalidWave" "given") (gV 0)) (gK (gU (dExc "InvalidIron" "given") (gV 0)) (gK (gU (dExc "InvalidPiece" "given") (gV 0)) gN))))))
 (sSeq (sSet 2 (gB dAdd (gV 2) (gLst (gK (gU (dExc "InvalidPlace" "given") (gV 0)) (gK (gU (dExc "InvalidFive" "given") (gV 0)) (gK (gU (dExc "InvalidForce" "given") (gV 0)) gN))))))
 (sSeq (sSet 2 (gB dAdd (gV 2) (gLst (gK (gU (dExc "InvalidReading" "given") (gV 0)) (gK (gU (dExc "InvalidName" "given") (gV 0)) (gK (gU (dExc "InvalidWish" "given") (gV 0)) gN))))))
 (sSeq (sSet 2 (gB dAdd (gV 2) (gLst (gK (gU (dExc "InvalidPhrase" "given") (gV 0)) (gK (gU (dExc "UnknownName" "given") (gV 0)) (gK (gU (dExc "NotAWorkshop" "given") (gV 0)) gN))))))
 (sRet (gLst (gK (gV 1) (gK (gB dAdd (gV 2) (gLst (gK (gU (dExc "HighBelowLow" "given") (gV 0)) gN))) gN)))))))))))))))
def F_law_given (m : Nat) (ds : List D) : Option D := runF N_law_given.length (g_law_given m) ds
theorem fn_law_given (T : Txt K mg) : Fn P w K mg base 3 "_law_given" 1 F_law_given := by
  refine mk_fn T.d_law_given sc_law_given bd_law_given g_law_given rfl fun m f cdv A outer s H E hr => ?_
  exact (svs_cons (sv_set 1 sc_law_given.nd (EVF.ev (evf_lst (evl_cons (ev_newE (T.e_InvalidFraction _ _ _) hr (ev_var 0)) (evl_cons (ev_newE (T.e_InvalidNumber _ _ _) hr (ev_var 0)) (evl_cons (ev_newE (T.e_InvalidIndex _ _ _) hr (ev_var 0)) (evl_cons (ev_newE (T.e_InvalidSurd _ _ _) hr (ev_var 0)) evl_nil)))))))
 (svs_cons (sv_set 1 sc_law_given.nd (ev_bin o_add (ev_var 1) (EVF.ev (evf_lst (evl_cons (ev_newE (T.e_InvalidHeading _ _ _) hr (ev_var 0)) (evl_cons (ev_newE (T.e_InvalidCourse _ _ _) hr (ev_var 0)) (evl_cons (ev_newE (T.e_InvalidWave _ _ _) hr (ev_var 0)) (evl_cons (ev_newE (T.e_InvalidIron _ _ _) hr (ev_var 0)) evl_nil))))))))
 (svs_cons (sv_set 1 sc_law_given.nd (ev_bin o_add (ev_var 1) (EVF.ev (evf_lst (evl_cons (ev_newE (T.e_InvalidPiece _ _ _) hr (ev_var 0)) (evl_cons (ev_newE (T.e_InvalidPlace _ _ _) hr (ev_var 0)) (evl_cons (ev_newE (T.e_InvalidFive _ _ _) hr (ev_var 0)) (evl_cons (ev_newE (T.e_InvalidForce _ _ _) hr (ev_var 0)) evl_nil))))))))
 (svs_cons (sv_set 1 sc_law_given.nd (ev_bin o_add (ev_var 1) (EVF.ev (evf_lst (evl_cons (ev_newE (T.e_InvalidReading _ _ _) hr (ev_var 0)) (evl_cons (ev_newE (T.e_InvalidName _ _ _) hr (ev_var 0)) (evl_cons (ev_newE (T.e_InvalidWish _ _ _) hr (ev_var 0)) (evl_cons (ev_newE (T.e_InvalidPhrase _ _ _) hr (ev_var 0)) evl_nil))))))))
 (svs_cons (sv_set 1 sc_law_given.nd (ev_bin o_add (ev_var 1) (EVF.ev (evf_lst (evl_cons (ev_newE (T.e_UnknownName _ _ _) hr (ev_var 0)) (evl_cons (ev_newE (T.e_NotAWorkshop _ _ _) hr (ev_var 0)) (evl_cons (ev_newE (T.e_HighBelowLow _ _ _) hr (ev_var 0)) evl_nil)))))))
 (svs_cons (sv_set 2 sc_law_given.nd (EVF.ev (evf_lst (evl_cons (ev_newEK (T.e_InvalidFraction _ _ _) hr (ev_var 0)) (evl_cons (ev_newEK (T.e_InvalidNumber _ _ _) hr (ev_var 0)) (evl_cons (ev_newEK (T.e_InvalidIndex _ _ _) hr (ev_var 0)) evl_nil))))))
 (svs_cons (sv_set 2 sc_law_given.nd (ev_bin o_add (ev_var 2) (EVF.ev (evf_lst (evl_cons (ev_newEK (T.e_InvalidSurd _ _ _) hr (ev_var 0)) (evl_cons (ev_newEK (T.e_InvalidHeading _ _ _) hr (ev_var 0)) (evl_cons (ev_newEK (T.e_InvalidCourse _ _ _) hr (ev_var 0)) evl_nil)))))))
 (svs_cons (sv_set 2 sc_law_given.nd (ev_bin o_add (ev_var 2) (EVF.ev (evf_lst (evl_cons (ev_newEK (T.e_InvalidWave _ _ _) hr (ev_var 0)) (evl_cons (ev_newEK (T.e_InvalidIron _ _ _) hr (ev_var 0)) (evl_cons (ev_newEK (T.e_InvalidPiece _ _ _) hr (ev_var 0)) evl_nil)))))))
 (svs_cons (sv_set 2 sc_law_given.nd (ev_bin o_add (ev_var 2) (EVF.ev (evf_lst (evl_cons (ev_newEK (T.e_InvalidPlace _ _ _) hr (ev_var 0)) (evl_cons (ev_newEK (T.e_InvalidFive _ _ _) hr (ev_var 0)) (evl_cons (ev_newEK (T.e_InvalidForce _ _ _) hr (ev_var 0)) evl_nil)))))))
 (svs_cons (sv_set 2 sc_law_given.nd (ev_bin o_add (ev_var 2) (EVF.ev (evf_lst (evl_cons (ev_newEK (T.e_InvalidReading _ _ _) hr (ev_var 0)) (evl_cons (ev_newEK (T.e_InvalidName _ _ _) hr (ev_var 0)) (evl_cons (ev_newEK (T.e_InvalidWish _ _ _) hr (ev_var 0)) evl_nil)))))))
 (svs_cons (sv_set 2 sc_law_given.nd (ev_bin o_add (ev_var 2) (EVF.ev (evf_lst (evl_cons (ev_newEK (T.e_InvalidPhrase _ _ _) hr (ev_var 0)) (evl_cons (ev_newEK (T.e_UnknownName _ _ _) hr (ev_var 0)) (evl_cons (ev_newEK (T.e_NotAWorkshop _ _ _) hr (ev_var 0)) evl_nil)))))))
 (svs_one (sv_ret (EVF.ev (evf_lst (evl_cons (ev_var 1) (evl_cons (ev_bin o_add (ev_var 2) (EVF.ev (evf_lst (evl_cons (ev_newEK (T.e_HighBelowLow _ _ _) hr (ev_var 0)) evl_nil)))) evl_nil)))))))))))))))))
/-! #### law_indexed -/
def N_law_indexed : List PySem.Str := ["_law_thing", "_law_one", "_law_two"]
def P_law_indexed : List PySem.Str := ["_law_thing"]
theorem sc_law_indexed : FnScope N_law_indexed P_law_indexed (defScope st_law_indexed) := ⟨rfl, rfl, rfl, by decide +kernel, rfl, by decide +kernel, by decide +kernel⟩
theorem bd_law_indexed : Bnd "_law_indexed" st_law_indexed P_law_indexed := fun _ _ _ _ _ _ us hl => match us, hl with
  | [_], _ => rfl
def g_law_indexed (m : Nat) : GS := (sSeq (sSet 1 (gLst (gK (gU (dExc "InvalidReadings" "index") (gV 0)) (gK (gU (dExc "InvalidSea" "index") (gV 0)) (gK (gU (dExc "InvalidBox" "index") (gV 0)) (gK (gU (dExc "InvalidCounts" "index") (gV 0)) (gK (gU (dExc "InUse" "index") (gV 0)) gN)))))))
 (sSeq (sSet 2 (gLst (gK (gU (dExc "InvalidReadings" "index") (gV 0)) (gK (gU (dExc "InvalidSea" "index") (gV 0)) (gK (gU (dExc "InvalidBox" "index") (gV 0)) gN)))))
 (sRet (gLst (gK (gB dAdd (gV 1) (gLst (gK (gU (dExc "Broken" "index") (gV 0)) gN))) (gK (gB dAdd (gV 2) (gLst (gK (gU (dExc "InvalidCounts" "index") (gV 0)) (gK (gU (dExc "InUse" "index") (gV 0)) (gK (gU (dExc "Broken" "index") (gV 0)) gN))))) gN))))))
def F_law_indexed (m : Nat) (ds : List D) : Option D := runF N_law_indexed.length (g_law_indexed m) ds
theorem fn_law_indexed (T : Txt K mg) : Fn P w K mg base 3 "_law_indexed" 1 F_law_indexed := by
  refine mk_fn T.d_law_indexed sc_law_indexed bd_law_indexed g_law_indexed rfl fun m f cdv A outer s H E hr => ?_
  exact (svs_cons (sv_set 1 sc_law_indexed.nd (EVF.ev (evf_lst (evl_cons (ev_newE (T.e_InvalidReadings _ _ _) hr (ev_var 0)) (evl_cons (ev_newE (T.e_InvalidSea _ _ _) hr (ev_var 0)) (evl_cons (ev_newE (T.e_InvalidBox _ _ _) hr (ev_var 0)) (evl_cons (ev_newE (T.e_InvalidCounts _ _ _) hr (ev_var 0)) (evl_cons (ev_newE (T.e_InUse _ _ _) hr (ev_var 0)) evl_nil))))))))
 (svs_cons (sv_set 2 sc_law_indexed.nd (EVF.ev (evf_lst (evl_cons (ev_newEK (T.e_InvalidReadings _ _ _) hr (ev_var 0)) (evl_cons (ev_newEK (T.e_InvalidSea _ _ _) hr (ev_var 0)) (evl_cons (ev_newEK (T.e_InvalidBox _ _ _) hr (ev_var 0)) evl_nil))))))
 (svs_one (sv_ret (EVF.ev (evf_lst (evl_cons (ev_bin o_add (ev_var 1) (EVF.ev (evf_lst (evl_cons (ev_newE (T.e_Broken _ _ _) hr (ev_var 0)) evl_nil)))) (evl_cons (ev_bin o_add (ev_var 2) (EVF.ev (evf_lst (evl_cons (ev_newEK (T.e_InvalidCounts _ _ _) hr (ev_var 0)) (evl_cons (ev_newEK (T.e_InUse _ _ _) hr (ev_var 0)) (evl_cons (ev_newEK (T.e_Broken _ _ _) hr (ev_var 0)) evl_nil)))))) evl_nil))))))))
/-! #### law_marks -/
def N_law_marks : List PySem.Str := ["_law_e", "_law_found"]
def P_law_marks : List PySem.Str := ["_law_e"]
theorem sc_law_marks : FnScope N_law_marks P_law_marks (defScope st_law_marks) := ⟨rfl, rfl, rfl, by decide +kernel, rfl, by decide +kernel, by decide +kernel⟩
theorem bd_law_marks : Bnd "_law_marks" st_law_marks P_law_marks := fun _ _ _ _ _ _ us hl => match us, hl with
  | [_], _ => rfl
def g_law_marks (m : Nat) : GS := (sSeq (sSet 1 (gLst (gK (gU (dIsE i_InvalidFraction) (gV 0)) (gK (gU (dIsE i_InvalidNumber) (gV 0)) (gK (gU (dIsE i_InvalidIndex) (gV 0)) gN)))))
 (sSeq (sSet 1 (gB dAdd (gV 1) (gLst (gK (gU (dIsE i_InvalidSurd) (gV 0)) (gK (gU (dIsE i_InvalidHeading) (gV 0)) (gK (gU (dIsE i_InvalidCourse) (gV 0)) gN))))))
 (sSeq (sSet 1 (gB dAdd (gV 1) (gLst (gK (gU (dIsE i_InvalidWave) (gV 0)) (gK (gU (dIsE i_InvalidIron) (gV 0)) (gK (gU (dIsE i_InvalidPiece) (gV 0)) gN))))))
 (sSeq (sSet 1 (gB dAdd (gV 1) (gLst (gK (gU (dIsE i_InvalidPlace) (gV 0)) (gK (gU (dIsE i_InvalidFive) (gV 0)) (gK (gU (dIsE i_InvalidForce) (gV 0)) gN))))))
 (sSeq (sSet 1 (gB dAdd (gV 1) (gLst (gK (gU (dIsE i_InvalidReading) (gV 0)) (gK (gU (dIsE i_InvalidName) (gV 0)) (gK (gU (dIsE i_InvalidWish) (gV 0)) gN))))))
 (sSeq (sSet 1 (gB dAdd (gV 1) (gLst (gK (gU (dIsE i_InvalidPhrase) (gV 0)) (gK (gU (dIsE i_UnknownName) (gV 0)) (gK (gU (dIsE i_NotAWorkshop) (gV 0)) gN))))))
 (sSeq (sSet 1 (gB dAdd (gV 1) (gLst (gK (gU (dIsE i_HighBelowLow) (gV 0)) (gK (gU (dIsE i_InvalidReadings) (gV 0)) (gK (gU (dIsE i_InvalidSea) (gV 0)) gN))))))
 (sSeq (sSet 1 (gB dAdd (gV 1) (gLst (gK (gU (dIsE i_InvalidBox) (gV 0)) (gK (gU (dIsE i_InvalidCounts) (gV 0)) (gK (gU (dIsE i_InUse) (gV 0)) gN))))))
 (sSeq (sSet 1 (gB dAdd (gV 1) (gLst (gK (gU (dIsE i_Broken) (gV 0)) (gK (gU (dIsE i_TooMuchIron) (gV 0)) (gK (gU (dIsE i_NotAhead) (gV 0)) gN))))))
 (sRet (gB dAdd (gV 1) (gLst (gK (gU (dIsE i_SameDip) (gV 0)) (gK (gU (dIsE i_NoneFits) (gV 0)) (gK (gU (dIsE i_NothingToUndo) (gV 0)) gN)))))))))))))))
def F_law_marks (m : Nat) (ds : List D) : Option D := runF N_law_marks.length (g_law_marks m) ds
theorem fn_law_marks (T : Txt K mg) : Fn P w K mg base 1 "_law_marks" 1 F_law_marks := by
  refine mk_fn T.d_law_marks sc_law_marks bd_law_marks g_law_marks rfl fun m f cdv A outer s H E hr => ?_
  exact (svs_cons (sv_set 1 sc_law_marks.nd (EVF.ev (evf_lst (evl_cons (ev_isE T.n_isinstance T.g_InvalidFraction T.i_InvalidFraction (ev_var 0)) (evl_cons (ev_isE T.n_isinstance T.g_InvalidNumber T.i_InvalidNumber (ev_var 0)) (evl_cons (ev_isE T.n_isinstance T.g_InvalidIndex T.i_InvalidIndex (ev_var 0)) evl_nil))))))
 (svs_cons (sv_set 1 sc_law_marks.nd (ev_bin o_add (ev_var 1) (EVF.ev (evf_lst (evl_cons (ev_isE T.n_isinstance T.g_InvalidSurd T.i_InvalidSurd (ev_var 0)) (evl_cons (ev_isE T.n_isinstance T.g_InvalidHeading T.i_InvalidHeading (ev_var 0)) (evl_cons (ev_isE T.n_isinstance T.g_InvalidCourse T.i_InvalidCourse (ev_var 0)) evl_nil)))))))
 (svs_cons (sv_set 1 sc_law_marks.nd (ev_bin o_add (ev_var 1) (EVF.ev (evf_lst (evl_cons (ev_isE T.n_isinstance T.g_InvalidWave T.i_InvalidWave (ev_var 0)) (evl_cons (ev_isE T.n_isinstance T.g_InvalidIron T.i_InvalidIron (ev_var 0)) (evl_cons (ev_isE T.n_isinstance T.g_InvalidPiece T.i_InvalidPiece (ev_var 0)) evl_nil)))))))
 (svs_cons (sv_set 1 sc_law_marks.nd (ev_bin o_add (ev_var 1) (EVF.ev (evf_lst (evl_cons (ev_isE T.n_isinstance T.g_InvalidPlace T.i_InvalidPlace (ev_var 0)) (evl_cons (ev_isE T.n_isinstance T.g_InvalidFive T.i_InvalidFive (ev_var 0)) (evl_cons (ev_isE T.n_isinstance T.g_InvalidForce T.i_InvalidForce (ev_var 0)) evl_nil)))))))
 (svs_cons (sv_set 1 sc_law_marks.nd (ev_bin o_add (ev_var 1) (EVF.ev (evf_lst (evl_cons (ev_isE T.n_isinstance T.g_InvalidReading T.i_InvalidReading (ev_var 0)) (evl_cons (ev_isE T.n_isinstance T.g_InvalidName T.i_InvalidName (ev_var 0)) (evl_cons (ev_isE T.n_isinstance T.g_InvalidWish T.i_InvalidWish (ev_var 0)) evl_nil)))))))
 (svs_cons (sv_set 1 sc_law_marks.nd (ev_bin o_add (ev_var 1) (EVF.ev (evf_lst (evl_cons (ev_isE T.n_isinstance T.g_InvalidPhrase T.i_InvalidPhrase (ev_var 0)) (evl_cons (ev_isE T.n_isinstance T.g_UnknownName T.i_UnknownName (ev_var 0)) (evl_cons (ev_isE T.n_isinstance T.g_NotAWorkshop T.i_NotAWorkshop (ev_var 0)) evl_nil)))))))
 (svs_cons (sv_set 1 sc_law_marks.nd (ev_bin o_add (ev_var 1) (EVF.ev (evf_lst (evl_cons (ev_isE T.n_isinstance T.g_HighBelowLow T.i_HighBelowLow (ev_var 0)) (evl_cons (ev_isE T.n_isinstance T.g_InvalidReadings T.i_InvalidReadings (ev_var 0)) (evl_cons (ev_isE T.n_isinstance T.g_InvalidSea T.i_InvalidSea (ev_var 0)) evl_nil)))))))
 (svs_cons (sv_set 1 sc_law_marks.nd (ev_bin o_add (ev_var 1) (EVF.ev (evf_lst (evl_cons (ev_isE T.n_isinstance T.g_InvalidBox T.i_InvalidBox (ev_var 0)) (evl_cons (ev_isE T.n_isinstance T.g_InvalidCounts T.i_InvalidCounts (ev_var 0)) (evl_cons (ev_isE T.n_isinstance T.g_InUse T.i_InUse (ev_var 0)) evl_nil)))))))
 (svs_cons (sv_set 1 sc_law_marks.nd (ev_bin o_add (ev_var 1) (EVF.ev (evf_lst (evl_cons (ev_isE T.n_isinstance T.g_Broken T.i_Broken (ev_var 0)) (evl_cons (ev_isE T.n_isinstance T.g_TooMuchIron T.i_TooMuchIron (ev_var 0)) (evl_cons (ev_isE T.n_isinstance T.g_NotAhead T.i_NotAhead (ev_var 0)) evl_nil)))))))
 (svs_one (sv_ret (ev_bin o_add (ev_var 1) (EVF.ev (evf_lst (evl_cons (ev_isE T.n_isinstance T.g_SameDip T.i_SameDip (ev_var 0)) (evl_cons (ev_isE T.n_isinstance T.g_NoneFits T.i_NoneFits (ev_var 0)) (evl_cons (ev_isE T.n_isinstance T.g_NothingToUndo T.i_NothingToUndo (ev_var 0)) evl_nil)))))))))))))))))
/-! #### law_stand -/
def N_law_stand : List PySem.Str := ["_law_errors", "_law_start", "_law_at", "_law_marks_here", "_law_k"]
def P_law_stand : List PySem.Str := ["_law_errors", "_law_start"]
theorem sc_law_stand : FnScope N_law_stand P_law_stand (defScope st_law_stand) := ⟨rfl, rfl, rfl, by decide +kernel, rfl, by decide +kernel, by decide +kernel⟩
theorem bd_law_stand : Bnd "_law_stand" st_law_stand P_law_stand := fun _ _ _ _ _ _ us hl => match us, hl with
  | [_, _], _ => rfl
def g_law_stand (m : Nat) : GS := (sSeq (sFor (fun ρ => ((gK (gF dLen (gK (gV 0) gN)) gN) ρ).bind dRng1) (.nm 2)
 (sSeq (sSet 3 (gF (F_law_marks m) (gK (gB dIx (gV 0) (gV 2)) gN)))
 (sSeq (sIf (tB' (gB dNe (gLst (gLc (fun ρ => ((gK (gF dLen (gK (gV 3) gN)) gN) ρ).bind dRng1) (.nm 4) [4] (tB' (gB dIx (gV 3) (gV 4))) (gV 4))) (gLst (gK (gB dAdd (gV 1) (gV 2)) gN))))
 (sRet (gC (.bl false)))
 sNil)
 (sSeq (sIf (tOr' (tNot' (tB' (gU (dIsE i_CompassError) (gB dIx (gV 0) (gV 2))))) (tNot' (tB' (gU (dIsE i_ValueError) (gB dIx (gV 0) (gV 2))))))
 (sRet (gC (.bl false)))
 sNil)
 (sSeq (sIf (tOr' (tB' (gU (dIsE i_LookupError) (gB dIx (gV 0) (gV 2)))) (tB' (gU (dIsE i_ArithmeticError) (gB dIx (gV 0) (gV 2)))))
 (sRet (gC (.bl false)))
 sNil)
 (sIf (tOr' (tB' (gU (dIsE i_TypeError) (gB dIx (gV 0) (gV 2)))) (tB' (gU (dIsE i_RuntimeError) (gB dIx (gV 0) (gV 2)))))
 (sRet (gC (.bl false)))
 sNil))))))
 (sRet (gC (.bl true))))
def F_law_stand (m : Nat) (ds : List D) : Option D := runF N_law_stand.length (g_law_stand m) ds
theorem fn_law_stand (T : Txt K mg) : Fn P w K mg base 2 "_law_stand" 2 F_law_stand := by
  refine mk_fn T.d_law_stand sc_law_stand bd_law_stand g_law_stand rfl fun m f cdv A outer s H E hr => ?_
  exact (svs_cons (sv_for PassesOwn.never rfl (iv_rng1 T.n_range (evl_cons (ev_callB c_len T.n_len (evl_cons (ev_var 0) evl_nil)) evl_nil)) (tg_nm 2 sc_law_stand.nd)
 (svs_cons (sv_set 3 sc_law_stand.nd (ev_call (fn_law_marks T) hr m (evl_cons (ev_ix (ev_var 0) (ev_var 2)) evl_nil)))
 (svs_cons (sv_if (tv_cmp (o_ne hr.u64) (EVF.ev (evf_lc rfl sc_law_stand.nd (iv_rng1 T.n_range (evl_cons (ev_callB c_len T.n_len (evl_cons (ev_var 3) evl_nil)) evl_nil)) (own := [("_law_k", 4)]) (blk_of N_law_stand (defScope st_law_stand) rfl rfl ⟨rfl, by decide +kernel, by decide +kernel, by decide +kernel, by decide +kernel⟩) (fun _ _ _ _ _ => (tc_nm 4 sc_law_stand.nd)) (fun _ _ _ _ _ => (ts_one (tv_val (ev_ix (ev_var 3) (ev_var 4))))) (fun _ _ _ _ _ => (ev_var 4)))) (EVF.ev (evf_lst (evl_cons (ev_bin o_add (ev_var 1) (ev_var 2)) evl_nil))))
 (svs_one (sv_ret ev_bl))
 svs_nil)
 (svs_cons (sv_if (WV.tv (wv_or (tv_not (tv_val (ev_isE T.n_isinstance T.g_CompassError T.i_CompassError (ev_ix (ev_var 0) (ev_var 2))))) (wv_or1 (tv_not (tv_val (ev_isET T.n_isinstance T.n_ValueError T.i_ValueError (ev_ix (ev_var 0) (ev_var 2))))))))
 (svs_one (sv_ret ev_bl))
 svs_nil)
 (svs_cons (sv_if (WV.tv (wv_or (tv_val (ev_isET T.n_isinstance T.n_LookupError T.i_LookupError (ev_ix (ev_var 0) (ev_var 2)))) (wv_or1 (tv_val (ev_isET T.n_isinstance T.n_ArithmeticError T.i_ArithmeticError (ev_ix (ev_var 0) (ev_var 2)))))))
 (svs_one (sv_ret ev_bl))
 svs_nil)
 (svs_one (sv_if (WV.tv (wv_or (tv_val (ev_isET T.n_isinstance T.n_TypeError T.i_TypeError (ev_ix (ev_var 0) (ev_var 2)))) (wv_or1 (tv_val (ev_isET T.n_isinstance T.n_RuntimeError T.i_RuntimeError (ev_ix (ev_var 0) (ev_var 2)))))))
 (svs_one (sv_ret ev_bl))
 svs_nil)))))))
 (svs_one (sv_ret ev_bl)))
/-! #### law_right -/
def N_law_right : List PySem.Str := ["_law_lode_here", "_law_some_here", "_law_thing", "_law_other", "_law_errors", "_law_e", "_law_base", "_law_bare"]
def P_law_right : List PySem.Str := ["_law_lode_here"]
theorem sc_law_right : FnScope N_law_right P_law_right (defScope st_law_right) := ⟨rfl, rfl, rfl, by decide +kernel, rfl, by decide +kernel, by decide +kernel⟩
theorem bd_law_right : Bnd "_law_right" st_law_right P_law_right := fun _ _ _ _ _ _ us hl => match us, hl with
  | [_], _ => rfl
def g_law_right (m : Nat) : GS := (sSeq (sSet 1 (gLst (gK (gC .non) (gK (gC (.bl true)) (gK (gU dNeg (gC (.int 7))) (gK (gC (.str "")) (gK (gC (.str "card")) (gK (gTup gN) (gK (gTup (gK (gC (.int 1)) (gK (gC (.int 0)) (gK (gU dNeg (gC (.int 2))) gN)))) (gK (gLst gN) (gK (gLst (gK (gC (.int 1)) (gK (gLst (gK (gC (.int 2)) gN)) gN))) (gK (gC (.dic [.inr "x"] [.int 1])) (gK (gTup (gK (gTup (gK (gC (.int 0)) (gK (gC (.int 1)) gN))) (gK (gC .non) gN))) gN)))))))))))))
 (sSeq (sTgM (.tp [(.nm 2), (.nm 3)]) (mTup (aD (mR (F_law_some m) (aCc 0 (aD (mB dAdd (mP (gV 1)) (mLst (aD (mR (F_law_about m) (aCc 0 (aD (mP (gB dPow (gC (.int 10)) (gC (.int 9)))) aN))) aN))) aN))) (aD (mR (F_law_some m) (aCc 0 (aD (mP (gV 1)) aN))) aN))))
 (sSeq (sFor (fun ρ => ((gF (F_law_given m) (gK (gV 2) gN)) ρ).bind seqD) (.nm 4)
 (sIf (tOr' (tB' (gB dNe (gLst (gLc (fun ρ => ((gV 4) ρ).bind seqD) (.nm 5) [5] (tB' (gB dNe (gF dRepr (gK (gU (dXv cs_given "given") (gV 5)) gN)) (gF dRepr (gK (gV 2) gN)))) (gU (dXv cs_given "given") (gV 5)))) (gLst gN))) (tNot' (tB' (gF (F_law_stand m) (gK (gV 4) (gK (gC (.int 0)) gN))))))
 (sRet (gC (.bl false)))
 sNil))
 (sSeq (sFor (fun ρ => ((gF (F_law_indexed m) (gK (gV 3) gN)) ρ).bind seqD) (.nm 4)
 (sIf (tOr' (tB' (gB dNe (gLst (gLc (fun ρ => ((gV 4) ρ).bind seqD) (.nm 5) [5] (tB' (gB dNe (gF dRepr (gK (gU (dXv cs_index "index") (gV 5)) gN)) (gF dRepr (gK (gV 3) gN)))) (gU (dXv cs_index "index") (gV 5)))) (gLst gN))) (tNot' (tB' (gF (F_law_stand m) (gK (gV 4) (gK (gC (.int 19)) gN))))))
 (sRet (gC (.bl false)))
 sNil))
 (sSeq (sPar' 6 7 (gK (gC (.exb "CompassError")) (gK (gLst (gK (gC (.exb "TooMuchIron")) (gK (gC (.exb "NotAhead")) (gK (gC (.exb "SameDip")) (gK (gC (.exb "NoneFits")) (gK (gC (.exb "NothingToUndo")) gN)))))) gN)))
 (sSeq (sIf (tOr' (tNot' (tB' (gF (F_law_stand m) (gK (gV 7) (gK (gC (.int 25)) gN))))) (tB' (gB (dIn false) (gC (.bl true)) (gF (F_law_marks m) (gK (gV 6) gN)))))
 (sRet (gC (.bl false)))
 sNil)
 (sRet (gAnd (gU (dIsE i_ValueError) (gV 6)) (gNot (gU (dIsE i_LookupError) (gV 6)))))))))))
def F_law_right (m : Nat) (ss : List S) : Option (D × List S) := runB N_law_right.length (g_law_right m) ss
theorem fn_law_right (T : Txt K mg) : FnB P w K mg base 4 "_law_right" 1 F_law_right := by
  refine mk_fnB T.d_law_right sc_law_right bd_law_right g_law_right rfl fun m f cdv A outer s H E hr => ?_
  exact (svs_cons (sv_set 1 sc_law_right.nd (EVF.ev (evf_lst (evl_cons ev_non (evl_cons ev_bl (evl_cons (ev_neg ev_int) (evl_cons ev_str (evl_cons ev_str (evl_cons (ev_tup evl_nil) (evl_cons (ev_tup (evl_cons ev_int (evl_cons ev_int (evl_cons (ev_neg ev_int) evl_nil)))) (evl_cons (EVF.ev (evf_lst evl_nil)) (evl_cons (EVF.ev (evf_lst (evl_cons ev_int (evl_cons (EVF.ev (evf_lst (evl_cons ev_int evl_nil))) evl_nil)))) (evl_cons (ev_dic1 (d := .int 1) pe_int fun _ => rfl) (evl_cons (ev_tup (evl_cons (ev_tup (evl_cons ev_int (evl_cons ev_int evl_nil))) (evl_cons ev_non evl_nil))) evl_nil))))))))))))))
 (svs_cons (sv_tgM (em_tup (eml_d (em_callR (fn_law_some T) hr m (eml_c 0 (eml_d (em_bin o_add (em_p (ev_var 1)) (em_lst (eml_d (em_callR (fn_law_about T) hr m (eml_c 0 (eml_d (em_p (ev_bin o_pow ev_int ev_int)) eml_nil))) eml_nil))) eml_nil))) (eml_d (em_callR (fn_law_some T) hr m (eml_c 0 (eml_d (em_p (ev_var 1)) eml_nil))) eml_nil))) (tg_tp rfl (tgs_cons (tg_nm 2 sc_law_right.nd) (tgs_cons (tg_nm 3 sc_law_right.nd) tgs_nil))))
 (svs_cons (sv_for PassesOwn.never rfl (iv_seq (ev_call (fn_law_given T) hr m (evl_cons (ev_var 2) evl_nil))) (tg_nm 4 sc_law_right.nd)
 (svs_one (sv_if (WV.tv (wv_or (tv_cmp (o_ne hr.u64) (EVF.ev (evf_lc rfl sc_law_right.nd (iv_seq (ev_var 4)) (own := [("_law_e", 5)]) (blk_of N_law_right (defScope st_law_right) rfl rfl ⟨rfl, by decide +kernel, by decide +kernel, by decide +kernel, by decide +kernel⟩) (fun _ _ _ _ _ => (tc_nm 5 sc_law_right.nd)) (fun _ _ _ _ _ => (ts_one (tv_cmp (o_ne hr.u64) (ev_callB (c_repr hr.g hr.u70) T.n_repr (evl_cons (ev_xv T.x_given (ev_var 5)) evl_nil)) (ev_callB (c_repr hr.g hr.u70) T.n_repr (evl_cons (ev_var 2) evl_nil))))) (fun _ _ _ _ _ => (ev_xv T.x_given (ev_var 5))))) (EVF.ev (evf_lst evl_nil))) (wv_or1 (tv_not (tv_val (ev_call (fn_law_stand T) hr m (evl_cons (ev_var 4) (evl_cons ev_int evl_nil))))))))
 (svs_one (sv_ret ev_bl))
 svs_nil)))
 (svs_cons (sv_for PassesOwn.never rfl (iv_seq (ev_call (fn_law_indexed T) hr m (evl_cons (ev_var 3) evl_nil))) (tg_nm 4 sc_law_right.nd)
 (svs_one (sv_if (WV.tv (wv_or (tv_cmp (o_ne hr.u64) (EVF.ev (evf_lc rfl sc_law_right.nd (iv_seq (ev_var 4)) (own := [("_law_e", 5)]) (blk_of N_law_right (defScope st_law_right) rfl rfl ⟨rfl, by decide +kernel, by decide +kernel, by decide +kernel, by decide +kernel⟩) (fun _ _ _ _ _ => (tc_nm 5 sc_law_right.nd)) (fun _ _ _ _ _ => (ts_one (tv_cmp (o_ne hr.u64) (ev_callB (c_repr hr.g hr.u70) T.n_repr (evl_cons (ev_xv T.x_index (ev_var 5)) evl_nil)) (ev_callB (c_repr hr.g hr.u70) T.n_repr (evl_cons (ev_var 3) evl_nil))))) (fun _ _ _ _ _ => (ev_xv T.x_index (ev_var 5))))) (EVF.ev (evf_lst evl_nil))) (wv_or1 (tv_not (tv_val (ev_call (fn_law_stand T) hr m (evl_cons (ev_var 4) (evl_cons ev_int evl_nil))))))))
 (svs_one (sv_ret ev_bl))
 svs_nil)))
 (svs_cons (sv_par' 6 7 rfl sc_law_right.nd (evl_cons (ev_newB T.b_CompassError) (evl_cons (EVF.ev (evf_lst (evl_cons (ev_newB T.b_TooMuchIron) (evl_cons (ev_newB T.b_NotAhead) (evl_cons (ev_newB T.b_SameDip) (evl_cons (ev_newB T.b_NoneFits) (evl_cons (ev_newB T.b_NothingToUndo) evl_nil))))))) evl_nil)) rfl)
 (svs_cons (sv_if (WV.tv (wv_or (tv_not (tv_val (ev_call (fn_law_stand T) hr m (evl_cons (ev_var 7) (evl_cons ev_int evl_nil))))) (wv_or1 (tv_cmp (o_in hr.u65) ev_bl (ev_call (fn_law_marks T) hr m (evl_cons (ev_var 6) evl_nil))))))
 (svs_one (sv_ret ev_bl))
 svs_nil)
 (svs_one (sv_ret (ev_and (ev_isET T.n_isinstance T.n_ValueError T.i_ValueError (ev_var 6)) (ev_one (ev_not (ev_isET T.n_isinstance T.n_LookupError T.i_LookupError (ev_var 6)))))))))))))
/-! #### law -/
def N_law : List PySem.Str := ["_law_script", "_law_lap"]
def P_law : List PySem.Str := ["_law_script"]
theorem sc_law : FnScope N_law P_law (defScope st_law) := ⟨rfl, rfl, rfl, by decide +kernel, rfl, by decide +kernel, by decide +kernel⟩
theorem bd_law : Bnd "law" st_law P_law := fun _ _ _ _ _ _ us hl => match us, hl with
  | [_], _ => rfl
def g_law (m : Nat) : GS := (sRet (gF dAll (gK (gLst (gLc (fun ρ => ((gK (gC (.int 2)) gN) ρ).bind dRng1) (.nm 1) [1] tYes' (gRf (F_law_right m) (gFl (F_law_lode m) (gK (gV 0) (gK (gV 1) gN)))))) gN)))
def F_law (m : Nat) (ds : List D) : Option D := runF N_law.length (g_law m) ds
theorem ok_law {f : Addr} {fd : FuncData} (T : Txt K mg) (F : FnP K "law" "law" st_law f fd) : FnG P w K mg base CX0 5 f fd P_law (spP K mg 1 F_law) := by
  refine fn_pure F sc_law g_law fun m cdv A outer s H E hr => ?_
  exact (svs_one (sv_ret (ev_callB (c_all rfl) T.n_all (evl_cons (EVF.ev (evf_lc rfl sc_law.nd (iv_rng1 T.n_range (evl_cons ev_int evl_nil)) (own := [("_law_lap", 1)]) (blk_of N_law (defScope st_law) rfl rfl ⟨rfl, by decide +kernel, by decide +kernel, by decide +kernel, by decide +kernel⟩) (fun _ _ _ _ _ => (tc_nm 1 sc_law.nd)) (fun _ _ _ _ _ => ts_nil) (fun _ _ _ _ _ => (ev_callF (fn_law_right T) hr m (evf_call (fn_law_lode T) hr m (evl_cons (ev_var 0) (evl_cons (ev_var 1) evl_nil))))))) evl_nil))))
end
end Lk01

set_option Elab.async false
set_option linter.all false
set_option maxRecDepth 100000
set_option maxHeartbeats 0
namespace Lk01
open PySem PySem.Spec PyProof.Rows L2 DL
def dd_law_lode : He.DefD := ⟨("_law_lode", none), "_law_lode", "_law_lode", defArgs st_law_lode, defBody st_law_lode, defScope st_law_lode, [], []⟩
def dd_law_deal : He.DefD := ⟨("_law_deal", none), "_law_deal", "_law_deal", defArgs st_law_deal, defBody st_law_deal, defScope st_law_deal, [], []⟩
def dd_law_some : He.DefD := ⟨("_law_some", none), "_law_some", "_law_some", defArgs st_law_some, defBody st_law_some, defScope st_law_some, [], []⟩
def dd_law_about : He.DefD := ⟨("_law_about", none), "_law_about", "_law_about", defArgs st_law_about, defBody st_law_about, defScope st_law_about, [], []⟩
def dd_law_given : He.DefD := ⟨("_law_given", none), "_law_given", "_law_given", defArgs st_law_given, defBody st_law_given, defScope st_law_given, [], []⟩
def dd_law_indexed : He.DefD := ⟨("_law_indexed", none), "_law_indexed", "_law_indexed", defArgs st_law_indexed, defBody st_law_indexed, defScope st_law_indexed, [], []⟩
def dd_law_marks : He.DefD := ⟨("_law_marks", none), "_law_marks", "_law_marks", defArgs st_law_marks, defBody st_law_marks, defScope st_law_marks, [], []⟩
def dd_law_stand : He.DefD := ⟨("_law_stand", none), "_law_stand", "_law_stand", defArgs st_law_stand, defBody st_law_stand, defScope st_law_stand, [], []⟩
def dd_law_right : He.DefD := ⟨("_law_right", none), "_law_right", "_law_right", defArgs st_law_right, defBody st_law_right, defScope st_law_right, [], []⟩
def dd_law : He.DefD := ⟨("law", none), "law", "law", defArgs st_law, defBody st_law, defScope st_law, [], []⟩
abbrev si_InvalidFraction : Stmt := mth 2 0
def di_InvalidFraction : He.DefD := ⟨("InvalidFraction", some "__init__"), "__init__", "InvalidFraction.__init__", defArgs si_InvalidFraction, defBody si_InvalidFraction, defScope si_InvalidFraction, [], []⟩
abbrev si_InvalidNumber : Stmt := mth 3 0
def di_InvalidNumber : He.DefD := ⟨("InvalidNumber", some "__init__"), "__init__", "InvalidNumber.__init__", defArgs si_InvalidNumber, defBody si_InvalidNumber, defScope si_InvalidNumber, [], []⟩
abbrev si_InvalidIndex : Stmt := mth 4 0
def di_InvalidIndex : He.DefD := ⟨("InvalidIndex", some "__init__"), "__init__", "InvalidIndex.__init__", defArgs si_InvalidIndex, defBody si_InvalidIndex, defScope si_InvalidIndex, [], []⟩
abbrev si_InvalidSurd : Stmt := mth 5 0
def di_InvalidSurd : He.DefD := ⟨("InvalidSurd", some "__init__"), "__init__", "InvalidSurd.__init__", defArgs si_InvalidSurd, defBody si_InvalidSurd, defScope si_InvalidSurd, [], []⟩
abbrev si_InvalidHeading : Stmt := mth 6 0
def di_InvalidHeading : He.DefD := ⟨("InvalidHeading", some "__init__"), "__init__", "InvalidHeading.__init__", defArgs si_InvalidHeading, defBody si_InvalidHeading, defScope si_InvalidHeading, [], []⟩
abbrev si_InvalidCourse : Stmt := mth 7 0
def di_InvalidCourse : He.DefD := ⟨("InvalidCourse", some "__init__"), "__init__", "InvalidCourse.__init__", defArgs si_InvalidCourse, defBody si_InvalidCourse, defScope si_InvalidCourse, [], []⟩
abbrev si_InvalidWave : Stmt := mth 8 0
def di_InvalidWave : He.DefD := ⟨("InvalidWave", some "__init__"), "__init__", "InvalidWave.__init__", defArgs si_InvalidWave, defBody si_InvalidWave, defScope si_InvalidWave, [], []⟩
abbrev si_InvalidIron : Stmt := mth 9 0
def di_InvalidIron : He.DefD := ⟨("InvalidIron", some "__init__"), "__init__", "InvalidIron.__init__", defArgs si_InvalidIron, defBody si_InvalidIron, defScope si_InvalidIron, [], []⟩
abbrev si_InvalidPiece : Stmt := mth 10 0
def di_InvalidPiece : He.DefD := ⟨("InvalidPiece", some "__init__"), "__init__", "InvalidPiece.__init__", defArgs si_InvalidPiece, defBody si_InvalidPiece, defScope si_InvalidPiece, [], []⟩
abbrev si_InvalidPlace : Stmt := mth 11 0
def di_InvalidPlace : He.DefD := ⟨("InvalidPlace", some "__init__"), "__init__", "InvalidPlace.__init__", defArgs si_InvalidPlace, defBody si_InvalidPlace, defScope si_InvalidPlace, [], []⟩
abbrev si_InvalidFive : Stmt := mth 12 0
def di_InvalidFive : He.DefD := ⟨("InvalidFive", some "__init__"), "__init__", "InvalidFive.__init__", defArgs si_InvalidFive, defBody si_InvalidFive, defScope si_InvalidFive, [], []⟩
abbrev si_InvalidForce : Stmt := mth 13 0
def di_InvalidForce : He.DefD := ⟨("InvalidForce", some "__init__"), "__init__", "InvalidForce.__init__", defArgs si_InvalidForce, defBody si_InvalidForce, defScope si_InvalidForce, [], []⟩
abbrev si_InvalidReading : Stmt := mth 14 0
def di_InvalidReading : He.DefD := ⟨("InvalidReading", some "__init__"), "__init__", "InvalidReading.__init__", defArgs si_InvalidReading, defBody si_InvalidReading, defScope si_InvalidReading, [], []⟩
abbrev si_InvalidName : Stmt := mth 15 0
def di_InvalidName : He.DefD := ⟨("InvalidName", some "__init__"), "__init__", "InvalidName.__init__", defArgs si_InvalidName, defBody si_InvalidName, defScope si_InvalidName, [], []⟩
abbrev si_InvalidWish : Stmt := mth 16 0
def di_InvalidWish : He.DefD := ⟨("InvalidWish", some "__init__"), "__init__", "InvalidWish.__init__", defArgs si_InvalidWish, defBody si_InvalidWish, defScope si_InvalidWish, [], []⟩
abbrev si_InvalidPhrase : Stmt := mth 17 0
def di_InvalidPhrase : He.DefD := ⟨("InvalidPhrase", some "__init__"), "__init__", "InvalidPhrase.__init__", defArgs si_InvalidPhrase, defBody si_InvalidPhrase, defScope si_InvalidPhrase, [], []⟩
abbrev si_UnknownName : Stmt := mth 18 0
def di_UnknownName : He.DefD := ⟨("UnknownName", some "__init__"), "__init__", "UnknownName.__init__", defArgs si_UnknownName, defBody si_UnknownName, defScope si_UnknownName, [], []⟩
abbrev si_NotAWorkshop : Stmt := mth 19 0
def di_NotAWorkshop : He.DefD := ⟨("NotAWorkshop", some "__init__"), "__init__", "NotAWorkshop.__init__", defArgs si_NotAWorkshop, defBody si_NotAWorkshop, defScope si_NotAWorkshop, [], []⟩
abbrev si_HighBelowLow : Stmt := mth 20 0
def di_HighBelowLow : He.DefD := ⟨("HighBelowLow", some "__init__"), "__init__", "HighBelowLow.__init__", defArgs si_HighBelowLow, defBody si_HighBelowLow, defScope si_HighBelowLow, [], []⟩
abbrev si_InvalidReadings : Stmt := mth 21 0
def di_InvalidReadings : He.DefD := ⟨("InvalidReadings", some "__init__"), "__init__", "InvalidReadings.__init__", defArgs si_InvalidReadings, defBody si_InvalidReadings, defScope si_InvalidReadings, [], []⟩
abbrev si_InvalidSea : Stmt := mth 22 0
def di_InvalidSea : He.DefD := ⟨("InvalidSea", some "__init__"), "__init__", "InvalidSea.__init__", defArgs si_InvalidSea, defBody si_InvalidSea, defScope si_InvalidSea, [], []⟩
abbrev si_InvalidBox : Stmt := mth 23 0
def di_InvalidBox : He.DefD := ⟨("InvalidBox", some "__init__"), "__init__", "InvalidBox.__init__", defArgs si_InvalidBox, defBody si_InvalidBox, defScope si_InvalidBox, [], []⟩
abbrev si_InvalidCounts : Stmt := mth 24 0
def di_InvalidCounts : He.DefD := ⟨("InvalidCounts", some "__init__"), "__init__", "InvalidCounts.__init__", defArgs si_InvalidCounts, defBody si_InvalidCounts, defScope si_InvalidCounts, [], []⟩
abbrev si_InUse : Stmt := mth 25 0
def di_InUse : He.DefD := ⟨("InUse", some "__init__"), "__init__", "InUse.__init__", defArgs si_InUse, defBody si_InUse, defScope si_InUse, [], []⟩
abbrev si_Broken : Stmt := mth 26 0
def di_Broken : He.DefD := ⟨("Broken", some "__init__"), "__init__", "Broken.__init__", defArgs si_Broken, defBody si_Broken, defScope si_Broken, [], []⟩
def fn : List He.DefD := [dd_law_lode, dd_law_deal, dd_law_some, dd_law_about, dd_law_given, dd_law_indexed, dd_law_marks, dd_law_stand, dd_law_right, dd_law, di_InvalidFraction, di_InvalidNumber, di_InvalidIndex, di_InvalidSurd, di_InvalidHeading, di_InvalidCourse, di_InvalidWave, di_InvalidIron, di_InvalidPiece, di_InvalidPlace, di_InvalidFive, di_InvalidForce, di_InvalidReading, di_InvalidName, di_InvalidWish, di_InvalidPhrase, di_UnknownName, di_NotAWorkshop, di_HighBelowLow, di_InvalidReadings, di_InvalidSea, di_InvalidBox, di_InvalidCounts, di_InUse, di_Broken]
def fa : List FaX := [fGlo "_law_lode", fGlo "_law_deal", fGlo "_law_some", fGlo "_law_about", fGlo "_law_given", fGlo "_law_indexed", fGlo "_law_marks", fGlo "_law_stand", fGlo "_law_right", fGlo "law", fFree "ArithmeticError", fFree "LookupError", fFree "RuntimeError", fFree "TypeError", fFree "ValueError", fFree "abs", fFree "all", fFree "divmod", fFree "int", fFree "isinstance", fFree "len", fFree "range", fFree "repr", fFree "sum", fGlo "CompassError", fXb "CompassError", fGlo "InvalidFraction", fXc "InvalidFraction" "given", fGlo "InvalidNumber", fXc "InvalidNumber" "given", fGlo "InvalidIndex", fXc "InvalidIndex" "given", fGlo "InvalidSurd", fXc "InvalidSurd" "given", fGlo "InvalidHeading", fXc "InvalidHeading" "given", fGlo "InvalidCourse", fXc "InvalidCourse" "given", fGlo "InvalidWave", fXc "InvalidWave" "given", fGlo "InvalidIron", fXc "InvalidIron" "given", fGlo "InvalidPiece", fXc "InvalidPiece" "given", fGlo "InvalidPlace", fXc "InvalidPlace" "given", fGlo "InvalidFive", fXc "InvalidFive" "given", fGlo "InvalidForce", fXc "InvalidForce" "given", fGlo "InvalidReading", fXc "InvalidReading" "given", fGlo "InvalidName", fXc "InvalidName" "given", fGlo "InvalidWish", fXc "InvalidWish" "given", fGlo "InvalidPhrase", fXc "InvalidPhrase" "given", fGlo "UnknownName", fXc "UnknownName" "given", fGlo "NotAWorkshop", fXc "NotAWorkshop" "given", fGlo "HighBelowLow", fXc "HighBelowLow" "given", fGlo "InvalidReadings", fXc "InvalidReadings" "index", fGlo "InvalidSea", fXc "InvalidSea" "index", fGlo "InvalidBox", fXc "InvalidBox" "index", fGlo "InvalidCounts", fXc "InvalidCounts" "index", fGlo "InUse", fXc "InUse" "index", fGlo "Broken", fXc "Broken" "index", fGlo "TooMuchIron", fXb "TooMuchIron", fGlo "NotAhead", fXb "NotAhead", fGlo "SameDip", fXb "SameDip", fGlo "NoneFits", fXb "NoneFits", fGlo "NothingToUndo", fXb "NothingToUndo", fExcs excs, fKitC excs "InvalidFraction" i_InvalidFraction, fKitC excs "InvalidNumber" i_InvalidNumber, fKitC excs "InvalidIndex" i_InvalidIndex, fKitC excs "InvalidSurd" i_InvalidSurd, fKitC excs "InvalidHeading" i_InvalidHeading, fKitC excs "InvalidCourse" i_InvalidCourse, fKitC excs "InvalidWave" i_InvalidWave, fKitC excs "InvalidIron" i_InvalidIron, fKitC excs "InvalidPiece" i_InvalidPiece, fKitC excs "InvalidPlace" i_InvalidPlace, fKitC excs "InvalidFive" i_InvalidFive, fKitC excs "InvalidForce" i_InvalidForce, fKitC excs "InvalidReading" i_InvalidReading, fKitC excs "InvalidName" i_InvalidName, fKitC excs "InvalidWish" i_InvalidWish, fKitC excs "InvalidPhrase" i_InvalidPhrase, fKitC excs "UnknownName" i_UnknownName, fKitC excs "NotAWorkshop" i_NotAWorkshop, fKitC excs "HighBelowLow" i_HighBelowLow, fKitC excs "InvalidReadings" i_InvalidReadings, fKitC excs "InvalidSea" i_InvalidSea, fKitC excs "InvalidBox" i_InvalidBox, fKitC excs "InvalidCounts" i_InvalidCounts, fKitC excs "InUse" i_InUse, fKitC excs "Broken" i_Broken, fKitC excs "TooMuchIron" i_TooMuchIron, fKitC excs "NotAhead" i_NotAhead, fKitC excs "SameDip" i_SameDip, fKitC excs "NoneFits" i_NoneFits, fKitC excs "NothingToUndo" i_NothingToUndo, fKitT excs "LookupError" i_LookupError, fKitT excs "ArithmeticError" i_ArithmeticError, fKitT excs "TypeError" i_TypeError, fKitT excs "RuntimeError" i_RuntimeError, fKitC excs "CompassError" i_CompassError, fKitT excs "ValueError" i_ValueError, (fun K => cs_given.all fun c => (He.Fa.glo c).ok K && fXc c "given" K), (fun K => cs_index.all fun c => (He.Fa.glo c).ok K && fXc c "index" K)]
abbrev R : PySem.W.OpenRow := PySem.W.OpenLaw.row PySem.Challenge.rw_ironships_k01_errors_each_of_its_own
abbrev hk : PySem.W.Hook := hookX 4 fa fn
def ob (s : PySem.W.SharedT) : AlX := obsXG 4 fa fn (HandSHeadRun.getT s)
theorem ob_eq (s : PySem.W.SharedT) : ob s = hk.obs s.abs := obsXG_eq (HandSHeadRun.getT_eq s)
def loose0 : List PySem.Str := ["CompassError", "InvalidFraction", "InvalidNumber", "InvalidIndex", "InvalidSurd", "InvalidHeading", "InvalidCourse", "InvalidWave", "InvalidIron", "InvalidPiece", "InvalidPlace", "InvalidFive", "InvalidForce", "InvalidReading", "InvalidName", "InvalidWish", "InvalidPhrase", "UnknownName", "NotAWorkshop", "HighBelowLow", "InvalidReadings", "InvalidSea", "InvalidBox", "InvalidCounts", "InUse", "Broken", "TooMuchIron", "NotAhead", "SameDip", "NoneFits"]
def loose1 : List PySem.Str := ["NothingToUndo", "_law_lode", "_law_deal", "_law_some", "_law_about", "_law_given", "_law_indexed", "_law_marks", "_law_stand", "_law_right"]
def loose : List PySem.Str := loose0 ++ loose1
theorem run (w : World) : HandSHeadRun.RunEq R (PySem.W.view R.prog [42]) hk ob 40000 loose w := by
  intro os
  kernel_rfl
theorem txt {K : PySem.W.Frag} {h : Heap} {mg : PySem.Str → Option Value} (X : K.In h) (G : h.Ns mainGlobals mg) (c : SaysX fa fn K) : Txt K mg where
  d_law_lode := by
    obtain ⟨fd, F⟩ := c.def_ 0 (d := dd_law_lode) rfl
    exact ⟨_, fd, F, He.glo_ok X G (c.fact 0 (f := fGlo "_law_lode") rfl)⟩
  d_law_deal := by
    obtain ⟨fd, F⟩ := c.def_ 1 (d := dd_law_deal) rfl
    exact ⟨_, fd, F, He.glo_ok X G (c.fact 1 (f := fGlo "_law_deal") rfl)⟩
  d_law_some := by
    obtain ⟨fd, F⟩ := c.def_ 2 (d := dd_law_some) rfl
    exact ⟨_, fd, F, He.glo_ok X G (c.fact 2 (f := fGlo "_law_some") rfl)⟩
  d_law_about := by
    obtain ⟨fd, F⟩ := c.def_ 3 (d := dd_law_about) rfl
    exact ⟨_, fd, F, He.glo_ok X G (c.fact 3 (f := fGlo "_law_about") rfl)⟩
  d_law_given := by
    obtain ⟨fd, F⟩ := c.def_ 4 (d := dd_law_given) rfl
    exact ⟨_, fd, F, He.glo_ok X G (c.fact 4 (f := fGlo "_law_given") rfl)⟩
  d_law_indexed := by
    obtain ⟨fd, F⟩ := c.def_ 5 (d := dd_law_indexed) rfl
    exact ⟨_, fd, F, He.glo_ok X G (c.fact 5 (f := fGlo "_law_indexed") rfl)⟩
  d_law_marks := by
    obtain ⟨fd, F⟩ := c.def_ 6 (d := dd_law_marks) rfl
    exact ⟨_, fd, F, He.glo_ok X G (c.fact 6 (f := fGlo "_law_marks") rfl)⟩
  d_law_stand := by
    obtain ⟨fd, F⟩ := c.def_ 7 (d := dd_law_stand) rfl
    exact ⟨_, fd, F, He.glo_ok X G (c.fact 7 (f := fGlo "_law_stand") rfl)⟩
  d_law_right := by
    obtain ⟨fd, F⟩ := c.def_ 8 (d := dd_law_right) rfl
    exact ⟨_, fd, F, He.glo_ok X G (c.fact 8 (f := fGlo "_law_right") rfl)⟩
  d_law := by
    obtain ⟨fd, F⟩ := c.def_ 9 (d := dd_law) rfl
    exact ⟨_, fd, F, He.glo_ok X G (c.fact 9 (f := fGlo "law") rfl)⟩
  n_ArithmeticError := He.free_ok X G (c.fact 10 (f := fFree "ArithmeticError") rfl)
  n_LookupError := He.free_ok X G (c.fact 11 (f := fFree "LookupError") rfl)
  n_RuntimeError := He.free_ok X G (c.fact 12 (f := fFree "RuntimeError") rfl)
  n_TypeError := He.free_ok X G (c.fact 13 (f := fFree "TypeError") rfl)
  n_ValueError := He.free_ok X G (c.fact 14 (f := fFree "ValueError") rfl)
  n_abs := He.free_ok X G (c.fact 15 (f := fFree "abs") rfl)
  n_all := He.free_ok X G (c.fact 16 (f := fFree "all") rfl)
  n_divmod := He.free_ok X G (c.fact 17 (f := fFree "divmod") rfl)
  n_int := He.free_ok X G (c.fact 18 (f := fFree "int") rfl)
  n_isinstance := He.free_ok X G (c.fact 19 (f := fFree "isinstance") rfl)
  n_len := He.free_ok X G (c.fact 20 (f := fFree "len") rfl)
  n_range := He.free_ok X G (c.fact 21 (f := fFree "range") rfl)
  n_repr := He.free_ok X G (c.fact 22 (f := fFree "repr") rfl)
  n_sum := He.free_ok X G (c.fact 23 (f := fFree "sum") rfl)
  b_CompassError := xb_ok X G (c.fact 24 (f := fGlo "CompassError") rfl) (c.fact 25 (f := fXb "CompassError") rfl)
  e_InvalidFraction := fun P w base => by
    obtain ⟨fd, F⟩ := c.def_ 10 (d := di_InvalidFraction) rfl
    exact xc_ok X G (c.fact 26 (f := fGlo "InvalidFraction") rfl) (c.fact 27 (f := fXc "InvalidFraction" "given") rfl) (st := si_InvalidFraction) F ⟨rfl, rfl, rfl, by decide +kernel, rfl, by decide +kernel, by decide +kernel⟩ ⟨_, _, _, _, rfl⟩ (.inl rfl) (.inl rfl) (by decide) (by decide) (fun _ _ _ _ _ _ _ _ => rfl) (fun _ _ _ _ _ _ _ _ => rfl)
  e_InvalidNumber := fun P w base => by
    obtain ⟨fd, F⟩ := c.def_ 11 (d := di_InvalidNumber) rfl
    exact xc_ok X G (c.fact 28 (f := fGlo "InvalidNumber") rfl) (c.fact 29 (f := fXc "InvalidNumber" "given") rfl) (st := si_InvalidNumber) F ⟨rfl, rfl, rfl, by decide +kernel, rfl, by decide +kernel, by decide +kernel⟩ ⟨_, _, _, _, rfl⟩ (.inl rfl) (.inl rfl) (by decide) (by decide) (fun _ _ _ _ _ _ _ _ => rfl) (fun _ _ _ _ _ _ _ _ => rfl)
  e_InvalidIndex := fun P w base => by
    obtain ⟨fd, F⟩ := c.def_ 12 (d := di_InvalidIndex) rfl
    exact xc_ok X G (c.fact 30 (f := fGlo "InvalidIndex") rfl) (c.fact 31 (f := fXc "InvalidIndex" "given") rfl) (st := si_InvalidIndex) F ⟨rfl, rfl, rfl, by decide +kernel, rfl, by decide +kernel, by decide +kernel⟩ ⟨_, _, _, _, rfl⟩ (.inl rfl) (.inl rfl) (by decide) (by decide) (fun _ _ _ _ _ _ _ _ => rfl) (fun _ _ _ _ _ _ _ _ => rfl)
  e_InvalidSurd := fun P w base => by
    obtain ⟨fd, F⟩ := c.def_ 13 (d := di_InvalidSurd) rfl
    exact xc_ok X G (c.fact 32 (f := fGlo "InvalidSurd") rfl) (c.fact 33 (f := fXc "InvalidSurd" "given") rfl) (st := si_InvalidSurd) F ⟨rfl, rfl, rfl, by decide +kernel, rfl, by decide +kernel, by decide +kernel⟩ ⟨_, _, _, _, rfl⟩ (.inl rfl) (.inl rfl) (by decide) (by decide) (fun _ _ _ _ _ _ _ _ => rfl) (fun _ _ _ _ _ _ _ _ => rfl)
  e_InvalidHeading := fun P w base => by
    obtain ⟨fd, F⟩ := c.def_ 14 (d := di_InvalidHeading) rfl
    exact xc_ok X G (c.fact 34 (f := fGlo "InvalidHeading") rfl) (c.fact 35 (f := fXc "InvalidHeading" "given") rfl) (st := si_InvalidHeading) F ⟨rfl, rfl, rfl, by decide +kernel, rfl, by decide +kernel, by decide +kernel⟩ ⟨_, _, _, _, rfl⟩ (.inl rfl) (.inl rfl) (by decide) (by decide) (fun _ _ _ _ _ _ _ _ => rfl) (fun _ _ _ _ _ _ _ _ => rfl)
  e_InvalidCourse := fun P w base => by
    obtain ⟨fd, F⟩ := c.def_ 15 (d := di_InvalidCourse) rfl
    exact xc_ok X G (c.fact 36 (f := fGlo "InvalidCourse") rfl) (c.fact 37 (f := fXc "InvalidCourse" "given") rfl) (st := si_InvalidCourse) F ⟨rfl, rfl, rfl, by decide +kernel, rfl, by decide +kernel, by decide +kernel⟩ ⟨_, _, _, _, rfl⟩ (.inl rfl) (.inl rfl) (by decide) (by decide) (fun _ _ _ _ _ _ _ _ => rfl) (fun _ _ _ _ _ _ _ _ => rfl)
  e_InvalidWave := fun P w base => by
    obtain ⟨fd, F⟩ := c.def_ 16 (d := di_InvalidWave) rfl
    exact xc_ok X G (c.fact 38 (f := fGlo "InvalidWave") rfl) (c.fact 39 (f := fXc "InvalidWave" "given") rfl) (st := si_InvalidWave) F ⟨rfl, rfl, rfl, by decide +kernel, rfl, by decide +kernel, by decide +kernel⟩ ⟨_, _, _, _, rfl⟩ (.inl rfl) (.inl rfl) (by decide) (by decide) (fun _ _ _ _ _ _ _ _ => rfl) (fun _ _ _ _ _ _ _ _ => rfl)
  e_InvalidIron := fun P w base => by
    obtain ⟨fd, F⟩ := c.def_ 17 (d := di_InvalidIron) rfl
    exact xc_ok X G (c.fact 40 (f := fGlo "InvalidIron") rfl) (c.fact 41 (f := fXc "InvalidIron" "given") rfl) (st := si_InvalidIron) F ⟨rfl, rfl, rfl, by decide +kernel, rfl, by decide +kernel, by decide +kernel⟩ ⟨_, _, _, _, rfl⟩ (.inl rfl) (.inl rfl) (by decide) (by decide) (fun _ _ _ _ _ _ _ _ => rfl) (fun _ _ _ _ _ _ _ _ => rfl)
  e_InvalidPiece := fun P w base => by
    obtain ⟨fd, F⟩ := c.def_ 18 (d := di_InvalidPiece) rfl
    exact xc_ok X G (c.fact 42 (f := fGlo "InvalidPiece") rfl) (c.fact 43 (f := fXc "InvalidPiece" "given") rfl) (st := si_InvalidPiece) F ⟨rfl, rfl, rfl, by decide +kernel, rfl, by decide +kernel, by decide +kernel⟩ ⟨_, _, _, _, rfl⟩ (.inl rfl) (.inl rfl) (by decide) (by decide) (fun _ _ _ _ _ _ _ _ => rfl) (fun _ _ _ _ _ _ _ _ => rfl)
  e_InvalidPlace := fun P w base => by
    obtain ⟨fd, F⟩ := c.def_ 19 (d := di_InvalidPlace) rfl
    exact xc_ok X G (c.fact 44 (f := fGlo "InvalidPlace") rfl) (c.fact 45 (f := fXc "InvalidPlace" "given") rfl) (st := si_InvalidPlace) F ⟨rfl, rfl, rfl, by decide +kernel, rfl, by decide +kernel, by decide +kernel⟩ ⟨_, _, _, _, rfl⟩ (.inl rfl) (.inl rfl) (by decide) (by decide) (fun _ _ _ _ _ _ _ _ => rfl) (fun _ _ _ _ _ _ _ _ => rfl)
  e_InvalidFive := fun P w base => by
    obtain ⟨fd, F⟩ := c.def_ 20 (d := di_InvalidFive) rfl
    exact xc_ok X G (c.fact 46 (f := fGlo "InvalidFive") rfl) (c.fact 47 (f := fXc "InvalidFive" "given") rfl) (st := si_InvalidFive) F ⟨rfl, rfl, rfl, by decide +kernel, rfl, by decide +kernel, by decide +kernel⟩ ⟨_, _, _, _, rfl⟩ (.inl rfl) (.inl rfl) (by decide) (by decide) (fun _ _ _ _ _ _ _ _ => rfl) (fun _ _ _ _ _ _ _ _ => rfl)
  e_InvalidForce := fun P w base => by
    obtain ⟨fd, F⟩ := c.def_ 21 (d := di_InvalidForce) rfl
    exact xc_ok X G (c.fact 48 (f := fGlo "InvalidForce") rfl) (c.fact 49 (f := fXc "InvalidForce" "given") rfl) (st := si_InvalidForce) F ⟨rfl, rfl, rfl, by decide +kernel, rfl, by decide +kernel, by decide +kernel⟩ ⟨_, _, _, _, rfl⟩ (.inl rfl) (.inl rfl) (by decide) (by decide) (fun _ _ _ _ _ _ _ _ => rfl) (fun _ _ _ _ _ _ _ _ => rfl)
  e_InvalidReading := fun P w base => by
    obtain ⟨fd, F⟩ := c.def_ 22 (d := di_InvalidReading) rfl
    exact xc_ok X G (c.fact 50 (f := fGlo "InvalidReading") rfl) (c.fact 51 (f := fXc "InvalidReading" "given") rfl) (st := si_InvalidReading) F ⟨rfl, rfl, rfl, by decide +kernel, rfl, by decide +kernel, by decide +kernel⟩ ⟨_, _, _, _, rfl⟩ (.inl rfl) (.inl rfl) (by decide) (by decide) (fun _ _ _ _ _ _ _ _ => rfl) (fun _ _ _ _ _ _ _ _ => rfl)
  e_InvalidName := fun P w base => by
    obtain ⟨fd, F⟩ := c.def_ 23 (d := di_InvalidName) rfl
    exact xc_ok X G (c.fact 52 (f := fGlo "InvalidName") rfl) (c.fact 53 (f := fXc "InvalidName" "given") rfl) (st := si_InvalidName) F ⟨rfl, rfl, rfl, by decide +kernel, rfl, by decide +kernel, by decide +kernel⟩ ⟨_, _, _, _, rfl⟩ (.inl rfl) (.inl rfl) (by decide) (by decide) (fun _ _ _ _ _ _ _ _ => rfl) (fun _ _ _ _ _ _ _ _ => rfl)
  e_InvalidWish := fun P w base => by
    obtain ⟨fd, F⟩ := c.def_ 24 (d := di_InvalidWish) rfl
    exact xc_ok X G (c.fact 54 (f := fGlo "InvalidWish") rfl) (c.fact 55 (f := fXc "InvalidWish" "given") rfl) (st := si_InvalidWish) F ⟨rfl, rfl, rfl, by decide +kernel, rfl, by decide +kernel, by decide +kernel⟩ ⟨_, _, _, _, rfl⟩ (.inl rfl) (.inl rfl) (by decide) (by decide) (fun _ _ _ _ _ _ _ _ => rfl) (fun _ _ _ _ _ _ _ _ => rfl)
  e_InvalidPhrase := fun P w base => by
    obtain ⟨fd, F⟩ := c.def_ 25 (d := di_InvalidPhrase) rfl
    exact xc_ok X G (c.fact 56 (f := fGlo "InvalidPhrase") rfl) (c.fact 57 (f := fXc "InvalidPhrase" "given") rfl) (st := si_InvalidPhrase) F ⟨rfl, rfl, rfl, by decide +kernel, rfl, by decide +kernel, by decide +kernel⟩ ⟨_, _, _, _, rfl⟩ (.inl rfl) (.inl rfl) (by decide) (by decide) (fun _ _ _ _ _ _ _ _ => rfl) (fun _ _ _ _ _ _ _ _ => rfl)
  e_UnknownName := fun P w base => by
    obtain ⟨fd, F⟩ := c.def_ 26 (d := di_UnknownName) rfl
    exact xc_ok X G (c.fact 58 (f := fGlo "UnknownName") rfl) (c.fact 59 (f := fXc "UnknownName" "given") rfl) (st := si_UnknownName) F ⟨rfl, rfl, rfl, by decide +kernel, rfl, by decide +kernel, by decide +kernel⟩ ⟨_, _, _, _, rfl⟩ (.inl rfl) (.inl rfl) (by decide) (by decide) (fun _ _ _ _ _ _ _ _ => rfl) (fun _ _ _ _ _ _ _ _ => rfl)
  e_NotAWorkshop := fun P w base => by
    obtain ⟨fd, F⟩ := c.def_ 27 (d := di_NotAWorkshop) rfl
    exact xc_ok X G (c.fact 60 (f := fGlo "NotAWorkshop") rfl) (c.fact 61 (f := fXc "NotAWorkshop" "given") rfl) (st := si_NotAWorkshop) F ⟨rfl, rfl, rfl, by decide +kernel, rfl, by decide +kernel, by decide +kernel⟩ ⟨_, _, _, _, rfl⟩ (.inl rfl) (.inl rfl) (by decide) (by decide) (fun _ _ _ _ _ _ _ _ => rfl) (fun _ _ _ _ _ _ _ _ => rfl)
  e_HighBelowLow := fun P w base => by
    obtain ⟨fd, F⟩ := c.def_ 28 (d := di_HighBelowLow) rfl
    exact xc_ok X G (c.fact 62 (f := fGlo "HighBelowLow") rfl) (c.fact 63 (f := fXc "HighBelowLow" "given") rfl) (st := si_HighBelowLow) F ⟨rfl, rfl, rfl, by decide +kernel, rfl, by decide +kernel, by decide +kernel⟩ ⟨_, _, _, _, rfl⟩ (.inl rfl) (.inl rfl) (by decide) (by decide) (fun _ _ _ _ _ _ _ _ => rfl) (fun _ _ _ _ _ _ _ _ => rfl)
  e_InvalidReadings := fun P w base => by
    obtain ⟨fd, F⟩ := c.def_ 29 (d := di_InvalidReadings) rfl
    exact xc_ok X G (c.fact 64 (f := fGlo "InvalidReadings") rfl) (c.fact 65 (f := fXc "InvalidReadings" "index") rfl) (st := si_InvalidReadings) F ⟨rfl, rfl, rfl, by decide +kernel, rfl, by decide +kernel, by decide +kernel⟩ ⟨_, _, _, _, rfl⟩ (.inl rfl) (.inl rfl) (by decide) (by decide) (fun _ _ _ _ _ _ _ _ => rfl) (fun _ _ _ _ _ _ _ _ => rfl)
  e_InvalidSea := fun P w base => by
    obtain ⟨fd, F⟩ := c.def_ 30 (d := di_InvalidSea) rfl
    exact xc_ok X G (c.fact 66 (f := fGlo "InvalidSea") rfl) (c.fact 67 (f := fXc "InvalidSea" "index") rfl) (st := si_InvalidSea) F ⟨rfl, rfl, rfl, by decide +kernel, rfl, by decide +kernel, by decide +kernel⟩ ⟨_, _, _, _, rfl⟩ (.inl rfl) (.inl rfl) (by decide) (by decide) (fun _ _ _ _ _ _ _ _ => rfl) (fun _ _ _ _ _ _ _ _ => rfl)
  e_InvalidBox := fun P w base => by
    obtain ⟨fd, F⟩ := c.def_ 31 (d := di_InvalidBox) rfl
    exact xc_ok X G (c.fact 68 (f := fGlo "InvalidBox") rfl) (c.fact 69 (f := fXc "InvalidBox" "index") rfl) (st := si_InvalidBox) F ⟨rfl, rfl, rfl, by decide +kernel, rfl, by decide +kernel, by decide +kernel⟩ ⟨_, _, _, _, rfl⟩ (.inl rfl) (.inl rfl) (by decide) (by decide) (fun _ _ _ _ _ _ _ _ => rfl) (fun _ _ _ _ _ _ _ _ => rfl)
  e_InvalidCounts := fun P w base => by
    obtain ⟨fd, F⟩ := c.def_ 32 (d := di_InvalidCounts) rfl
    exact xc_ok X G (c.fact 70 (f := fGlo "InvalidCounts") rfl) (c.fact 71 (f := fXc "InvalidCounts" "index") rfl) (st := si_InvalidCounts) F ⟨rfl, rfl, rfl, by decide +kernel, rfl, by decide +kernel, by decide +kernel⟩ ⟨_, _, _, _, rfl⟩ (.inl rfl) (.inl rfl) (by decide) (by decide) (fun _ _ _ _ _ _ _ _ => rfl) (fun _ _ _ _ _ _ _ _ => rfl)
  e_InUse := fun P w base => by
    obtain ⟨fd, F⟩ := c.def_ 33 (d := di_InUse) rfl
    exact xc_ok X G (c.fact 72 (f := fGlo "InUse") rfl) (c.fact 73 (f := fXc "InUse" "index") rfl) (st := si_InUse) F ⟨rfl, rfl, rfl, by decide +kernel, rfl, by decide +kernel, by decide +kernel⟩ ⟨_, _, _, _, rfl⟩ (.inl rfl) (.inl rfl) (by decide) (by decide) (fun _ _ _ _ _ _ _ _ => rfl) (fun _ _ _ _ _ _ _ _ => rfl)
  e_Broken := fun P w base => by
    obtain ⟨fd, F⟩ := c.def_ 34 (d := di_Broken) rfl
    exact xc_ok X G (c.fact 74 (f := fGlo "Broken") rfl) (c.fact 75 (f := fXc "Broken" "index") rfl) (st := si_Broken) F ⟨rfl, rfl, rfl, by decide +kernel, rfl, by decide +kernel, by decide +kernel⟩ ⟨_, _, _, _, rfl⟩ (.inl rfl) (.inl rfl) (by decide) (by decide) (fun _ _ _ _ _ _ _ _ => rfl) (fun _ _ _ _ _ _ _ _ => rfl)
  b_TooMuchIron := xb_ok X G (c.fact 76 (f := fGlo "TooMuchIron") rfl) (c.fact 77 (f := fXb "TooMuchIron") rfl)
  b_NotAhead := xb_ok X G (c.fact 78 (f := fGlo "NotAhead") rfl) (c.fact 79 (f := fXb "NotAhead") rfl)
  b_SameDip := xb_ok X G (c.fact 80 (f := fGlo "SameDip") rfl) (c.fact 81 (f := fXb "SameDip") rfl)
  b_NoneFits := xb_ok X G (c.fact 82 (f := fGlo "NoneFits") rfl) (c.fact 83 (f := fXb "NoneFits") rfl)
  b_NothingToUndo := xb_ok X G (c.fact 84 (f := fGlo "NothingToUndo") rfl) (c.fact 85 (f := fXb "NothingToUndo") rfl)
  g_InvalidFraction := He.glo_ok X G (c.fact 26 (f := fGlo "InvalidFraction") rfl)
  i_InvalidFraction := isE_c X G (c.fact 86 (f := fExcs excs) rfl) (c.fact 87 (f := fKitC excs "InvalidFraction" i_InvalidFraction) rfl) (fun c b e => by unfold i_InvalidFraction at e; split at e; assumption; cases e)
  g_InvalidNumber := He.glo_ok X G (c.fact 28 (f := fGlo "InvalidNumber") rfl)
  i_InvalidNumber := isE_c X G (c.fact 86 (f := fExcs excs) rfl) (c.fact 88 (f := fKitC excs "InvalidNumber" i_InvalidNumber) rfl) (fun c b e => by unfold i_InvalidNumber at e; split at e; assumption; cases e)
  g_InvalidIndex := He.glo_ok X G (c.fact 30 (f := fGlo "InvalidIndex") rfl)
  i_InvalidIndex := isE_c X G (c.fact 86 (f := fExcs excs) rfl) (c.fact 89 (f := fKitC excs "InvalidIndex" i_InvalidIndex) rfl) (fun c b e => by unfold i_InvalidIndex at e; split at e; assumption; cases e)
  g_InvalidSurd := He.glo_ok X G (c.fact 32 (f := fGlo "InvalidSurd") rfl)
  i_InvalidSurd := isE_c X G (c.fact 86 (f := fExcs excs) rfl) (c.fact 90 (f := fKitC excs "InvalidSurd" i_InvalidSurd) rfl) (fun c b e => by unfold i_InvalidSurd at e; split at e; assumption; cases e)
  g_InvalidHeading := He.glo_ok X G (c.fact 34 (f := fGlo "InvalidHeading") rfl)
  i_InvalidHeading := isE_c X G (c.fact 86 (f := fExcs excs) rfl) (c.fact 91 (f := fKitC excs "InvalidHeading" i_InvalidHeading) rfl) (fun c b e => by unfold i_InvalidHeading at e; split at e; assumption; cases e)
  g_InvalidCourse := He.glo_ok X G (c.fact 36 (f := fGlo "InvalidCourse") rfl)
  i_InvalidCourse := isE_c X G (c.fact 86 (f := fExcs excs) rfl) (c.fact 92 (f := fKitC excs "InvalidCourse" i_InvalidCourse) rfl) (fun c b e => by unfold i_InvalidCourse at e; split at e; assumption; cases e)
  g_InvalidWave := He.glo_ok X G (c.fact 38 (f := fGlo "InvalidWave") rfl)
  i_InvalidWave := isE_c X G (c.fact 86 (f := fExcs excs) rfl) (c.fact 93 (f := fKitC excs "InvalidWave" i_InvalidWave) rfl) (fun c b e => by unfold i_InvalidWave at e; split at e; assumption; cases e)
  g_InvalidIron := He.glo_ok X G (c.fact 40 (f := fGlo "InvalidIron") rfl)
  i_InvalidIron := isE_c X G (c.fact 86 (f := fExcs excs) rfl) (c.fact 94 (f := fKitC excs "InvalidIron" i_InvalidIron) rfl) (fun c b e => by unfold i_InvalidIron at e; split at e; assumption; cases e)
  g_InvalidPiece := He.glo_ok X G (c.fact 42 (f := fGlo "InvalidPiece") rfl)
  i_InvalidPiece := isE_c X G (c.fact 86 (f := fExcs excs) rfl) (c.fact 95 (f := fKitC excs "InvalidPiece" i_InvalidPiece) rfl) (fun c b e => by unfold i_InvalidPiece at e; split at e; assumption; cases e)
  g_InvalidPlace := He.glo_ok X G (c.fact 44 (f := fGlo "InvalidPlace") rfl)
  i_InvalidPlace := isE_c X G (c.fact 86 (f := fExcs excs) rfl) (c.fact 96 (f := fKitC excs "InvalidPlace" i_InvalidPlace) rfl) (fun c b e => by unfold i_InvalidPlace at e; split at e; assumption; cases e)
  g_InvalidFive := He.glo_ok X G (c.fact 46 (f := fGlo "InvalidFive") rfl)
  i_InvalidFive := isE_c X G (c.fact 86 (f := fExcs excs) rfl) (c.fact 97 (f := fKitC excs "InvalidFive" i_InvalidFive) rfl) (fun c b e => by unfold i_InvalidFive at e; split at e; assumption; cases e)
  g_InvalidForce := He.glo_ok X G (c.fact 48 (f := fGlo "InvalidForce") rfl)
  i_InvalidForce := isE_c X G (c.fact 86 (f := fExcs excs) rfl) (c.fact 98 (f := fKitC excs "InvalidForce" i_InvalidForce) rfl) (fun c b e => by unfold i_InvalidForce at e; split at e; assumption; cases e)
  g_InvalidReading := He.glo_ok X G (c.fact 50 (f := fGlo "InvalidReading") rfl)
  i_InvalidReading := isE_c X G (c.fact 86 (f := fExcs excs) rfl) (c.fact 99 (f := fKitC excs "InvalidReading" i_InvalidReading) rfl) (fun c b e => by unfold i_InvalidReading at e; split at e; assumption; cases e)
  g_InvalidName := He.glo_ok X G (c.fact 52 (f := fGlo "InvalidName") rfl)
  i_InvalidName := isE_c X G (c.fact 86 (f := fExcs excs) rfl) (c.fact 100 (f := fKitC excs "InvalidName" i_InvalidName) rfl) (fun c b e => by unfold i_InvalidName at e; split at e; assumption; cases e)
  g_InvalidWish := He.glo_ok X G (c.fact 54 (f := fGlo "InvalidWish") rfl)
  i_InvalidWish := isE_c X G (c.fact 86 (f := fExcs excs) rfl) (c.fact 101 (f := fKitC excs "InvalidWish" i_InvalidWish) rfl) (fun c b e => by unfold i_InvalidWish at e; split at e; assumption; cases e)
  g_InvalidPhrase := He.glo_ok X G (c.fact 56 (f := fGlo "InvalidPhrase") rfl)
  i_InvalidPhrase := isE_c X G (c.fact 86 (f := fExcs excs) rfl) (c.fact 102 (f := fKitC excs "InvalidPhrase" i_InvalidPhrase) rfl) (fun c b e => by unfold i_InvalidPhrase at e; split at e; assumption; cases e)
  g_UnknownName := He.glo_ok X G (c.fact 58 (f := fGlo "UnknownName") rfl)
  i_UnknownName := isE_c X G (c.fact 86 (f := fExcs excs) rfl) (c.fact 103 (f := fKitC excs "UnknownName" i_UnknownName) rfl) (fun c b e => by unfold i_UnknownName at e; split at e; assumption; cases e)
  g_NotAWorkshop := He.glo_ok X G (c.fact 60 (f := fGlo "NotAWorkshop") rfl)
  i_NotAWorkshop := isE_c X G (c.fact 86 (f := fExcs excs) rfl) (c.fact 104 (f := fKitC excs "NotAWorkshop" i_NotAWorkshop) rfl) (fun c b e => by unfold i_NotAWorkshop at e; split at e; assumption; cases e)
  g_HighBelowLow := He.glo_ok X G (c.fact 62 (f := fGlo "HighBelowLow") rfl)
  i_HighBelowLow := isE_c X G (c.fact 86 (f := fExcs excs) rfl) (c.fact 105 (f := fKitC excs "HighBelowLow" i_HighBelowLow) rfl) (fun c b e => by unfold i_HighBelowLow at e; split at e; assumption; cases e)
  g_InvalidReadings := He.glo_ok X G (c.fact 64 (f := fGlo "InvalidReadings") rfl)
  i_InvalidReadings := isE_c X G (c.fact 86 (f := fExcs excs) rfl) (c.fact 106 (f := fKitC excs "InvalidReadings" i_InvalidReadings) rfl) (fun c b e => by unfold i_InvalidReadings at e; split at e; assumption; cases e)
  g_InvalidSea := He.glo_ok X G (c.fact 66 (f := fGlo "InvalidSea") rfl)
  i_InvalidSea := isE_c X G (c.fact 86 (f := fExcs excs) rfl) (c.fact 107 (f := fKitC excs "InvalidSea" i_InvalidSea) rfl) (fun c b e => by unfold i_InvalidSea at e; split at e; assumption; cases e)
  g_InvalidBox := He.glo_ok X G (c.fact 68 (f := fGlo "InvalidBox") rfl)
  i_InvalidBox := isE_c X G (c.fact 86 (f := fExcs excs) rfl) (c.fact 108 (f := fKitC excs "InvalidBox" i_InvalidBox) rfl) (fun c b e => by unfold i_InvalidBox at e; split at e; assumption; cases e)
  g_InvalidCounts := He.glo_ok X G (c.fact 70 (f := fGlo "InvalidCounts") rfl)
  i_InvalidCounts := isE_c X G (c.fact 86 (f := fExcs excs) rfl) (c.fact 109 (f := fKitC excs "InvalidCounts" i_InvalidCounts) rfl) (fun c b e => by unfold i_InvalidCounts at e; split at e; assumption; cases e)
  g_InUse := He.glo_ok X G (c.fact 72 (f := fGlo "InUse") rfl)
  i_InUse := isE_c X G (c.fact 86 (f := fExcs excs) rfl) (c.fact 110 (f := fKitC excs "InUse" i_InUse) rfl) (fun c b e => by unfold i_InUse at e; split at e; assumption; cases e)
  g_Broken := He.glo_ok X G (c.fact 74 (f := fGlo "Broken") rfl)
  i_Broken := isE_c X G (c.fact 86 (f := fExcs excs) rfl) (c.fact 111 (f := fKitC excs "Broken" i_Broken) rfl) (fun c b e => by unfold i_Broken at e; split at e; assumption; cases e)
  g_TooMuchIron := He.glo_ok X G (c.fact 76 (f := fGlo "TooMuchIron") rfl)
  i_TooMuchIron := isE_c X G (c.fact 86 (f := fExcs excs) rfl) (c.fact 112 (f := fKitC excs "TooMuchIron" i_TooMuchIron) rfl) (fun c b e => by unfold i_TooMuchIron at e; split at e; assumption; cases e)
  g_NotAhead := He.glo_ok X G (c.fact 78 (f := fGlo "NotAhead") rfl)
  i_NotAhead := isE_c X G (c.fact 86 (f := fExcs excs) rfl) (c.fact 113 (f := fKitC excs "NotAhead" i_NotAhead) rfl) (fun c b e => by unfold i_NotAhead at e; split at e; assumption; cases e)
  g_SameDip := He.glo_ok X G (c.fact 80 (f := fGlo "SameDip") rfl)
  i_SameDip := isE_c X G (c.fact 86 (f := fExcs excs) rfl) (c.fact 114 (f := fKitC excs "SameDip" i_SameDip) rfl) (fun c b e => by unfold i_SameDip at e; split at e; assumption; cases e)
  g_NoneFits := He.glo_ok X G (c.fact 82 (f := fGlo "NoneFits") rfl)
  i_NoneFits := isE_c X G (c.fact 86 (f := fExcs excs) rfl) (c.fact 115 (f := fKitC excs "NoneFits" i_NoneFits) rfl) (fun c b e => by unfold i_NoneFits at e; split at e; assumption; cases e)
  g_NothingToUndo := He.glo_ok X G (c.fact 84 (f := fGlo "NothingToUndo") rfl)
  i_NothingToUndo := isE_c X G (c.fact 86 (f := fExcs excs) rfl) (c.fact 116 (f := fKitC excs "NothingToUndo" i_NothingToUndo) rfl) (fun c b e => by unfold i_NothingToUndo at e; split at e; assumption; cases e)
  i_LookupError := isE_t X G (c.fact 86 (f := fExcs excs) rfl) (c.fact 117 (f := fKitT excs "LookupError" i_LookupError) rfl) (fun c b e => by unfold i_LookupError at e; split at e; assumption; cases e)
  i_ArithmeticError := isE_t X G (c.fact 86 (f := fExcs excs) rfl) (c.fact 118 (f := fKitT excs "ArithmeticError" i_ArithmeticError) rfl) (fun c b e => by unfold i_ArithmeticError at e; split at e; assumption; cases e)
  i_TypeError := isE_t X G (c.fact 86 (f := fExcs excs) rfl) (c.fact 119 (f := fKitT excs "TypeError" i_TypeError) rfl) (fun c b e => by unfold i_TypeError at e; split at e; assumption; cases e)
  i_RuntimeError := isE_t X G (c.fact 86 (f := fExcs excs) rfl) (c.fact 120 (f := fKitT excs "RuntimeError" i_RuntimeError) rfl) (fun c b e => by unfold i_RuntimeError at e; split at e; assumption; cases e)
  g_CompassError := He.glo_ok X G (c.fact 24 (f := fGlo "CompassError") rfl)
  i_CompassError := isE_c X G (c.fact 86 (f := fExcs excs) rfl) (c.fact 121 (f := fKitC excs "CompassError" i_CompassError) rfl) (fun c b e => by unfold i_CompassError at e; split at e; assumption; cases e)
  i_ValueError := isE_t X G (c.fact 86 (f := fExcs excs) rfl) (c.fact 122 (f := fKitT excs "ValueError" i_ValueError) rfl) (fun c b e => by unfold i_ValueError at e; split at e; assumption; cases e)
  x_given := xv_ok X G (c.fact 123 (f := fun K => cs_given.all fun c => (He.Fa.glo c).ok K && fXc c "given" K) rfl)
  x_index := xv_ok X G (c.fact 124 (f := fun K => cs_index.all fun c => (He.Fa.glo c).ok K && fXc c "index" K) rfl)
end Lk01
section
open PySem PySem.W PySem.Calls PyProof.Rows
theorem Lk01.holds (hlaw : ∀ ns : List Int, ns.length ≤ 63 → (∀ z ∈ ns, Builtin.Int.intBits z ≤ 1048576) → ∃ m, Lk01.F_law m [.frz (ns.map DL.D.int)] = some (.bl true)) : PySem.Challenge.rw_ironships_k01_errors_each_of_its_own.Holds := by
  w_on; o_law
  refine HandSHeadRun.head_any (r := OpenLaw.row PySem.Challenge.rw_ironships_k01_errors_each_of_its_own) (q := view (OpenLaw.row PySem.Challenge.rw_ironships_k01_errors_each_of_its_own).prog [42]) (H := Lk01.hk) (ob := Lk01.ob) (M := 40000) (loose := Lk01.loose) (d := HandSHeadRun.topDef (OpenLaw.row PySem.Challenge.rw_ironships_k01_errors_each_of_its_own).prog 42) (kwd := []) Lk01.ob_eq
    (by kernel_rfl) (fun s => by kernel_rfl) Lk01.run (by kernel_rfl) (by kernel_rfl) (by kernel_rfl) (by rfl) (by first | assumption | decide +kernel) (by decide +kernel) ⟨rfl, rfl, rfl, rfl, rfl, by decide +kernel⟩ ?hw ?hc
  case hw => w_witness2
  case hc =>
    refine DL.walk_ofG (l := PySem.Challenge.rw_ironships_k01_errors_each_of_its_own) (n := 63) (k := 5) (x := "_law_script") rfl (by decide) (by kernel_rfl) ⟨rfl, by decide, by decide⟩ ?F
    intro w mg fa h Y G hmg0
    obtain ⟨K, KX, c⟩ := Y
    have hmg : mg ("law" : PySem.Str) = some (.ref fa) := by
      have e : (HandSHeadRun.topDef (OpenLaw.row PySem.Challenge.rw_ironships_k01_errors_each_of_its_own).prog 42).name = ("law" : PySem.Str) := by kernel_rfl
      rw [← e]
      exact hmg0
    have T := Lk01.txt KX G c
    obtain ⟨fd, F⟩ := c.def_ 9 (d := Lk01.dd_law) rfl
    have e := hmg.symm.trans (He.glo_ok KX G (c.fact 9 (f := DL.fGlo "law") rfl))
    cases e
    exact ⟨K, fd, Lk01.F_law, KX, fun s v => L2.FunD.bindsA (ps := Lk01.P_law) F Lk01.bd_law s [v] rfl, hlaw, fun base _ _ => Lk01.ok_law T F⟩
end

set_option Elab.async false
set_option linter.all false
set_option maxRecDepth 100000
set_option maxHeartbeats 4000000
namespace Lk01
open PySem PySem.Spec PyProof.Rows L2 DL
theorem deal_ok {m : Nat} {B n : Int} {l : List D} (h : St B l) (hB : B < 1000000) (hn : 0 < n) (hn2 : n < 1000000) :
    ∃ (d : Int) (l' : List D), F_law_deal m [.own true l, .sh (.int n)] = some (.int d, [.own true l', .no]) ∧ 0 ≤ d ∧ d < n ∧ St (B + 1) l' := by
  obtain ⟨c, s, k, rfl, h1, h2, h3, h4, h5⟩ := h
  by_cases hc : 0 < c
  · refine ⟨c % n, [.int (c / n), .int s, .int k], ?_, Int.emod_nonneg _ (by omega), Int.emod_lt_of_pos _ hn, c / n, s, k, rfl, Int.ediv_nonneg h1 (by omega), h2, h3, h4, by omega⟩
    have e1 : n < 1073741824 := by omega
    simp [F_law_deal, g_law_deal, runB, rho0, N_law_deal, sSeq, sIf, tB', gB, gV, gC, gF, gK, gN, dIx, atI, ixN, dCmp, fGt, toB, peek, peek1, hc, sTgP, dDivmod, hn, e1, lf, lfL, asg_tp, asg_nm, asg_ixE, asgL_nil, asgL_cons, sRet, outS]
  · have hf : 0 ≤ s % 17011 ∧ s % 17011 < 17011 := ⟨Int.emod_nonneg _ (by omega), Int.emod_lt_of_pos _ (by omega)⟩
    have hm : 0 ≤ s * (s % 17011 + 23003) ∧ s * (s % 17011 + 23003) < 2147483477 * 41000 := ⟨Int.mul_nonneg h2 (by omega), by
      calc s * (s % 17011 + 23003) ≤ s * 40013 := Int.mul_le_mul_of_nonneg_left (by omega) h2
        _ < _ := by omega⟩
    have k1 : mulOk s (s.fmod 17011 + 23003) = true := by
      rw [Int.fmod_eq_emod_of_nonneg _ (by omega)]
      exact mulOk_of (by omega) (by omega)
    have k3 : divOk 89 = true := by decide +kernel
    have k2 : mulOk 60013 (k + 1) = true := mulOk_of (by omega) (by omega)
    refine ⟨((s * (s.fmod 17011 + 23003) + 60013 * (k + 1) + 41).fmod 2147483477).fdiv 89 |>.fmod n, [.int c, .int ((s * (s.fmod 17011 + 23003) + 60013 * (k + 1) + 41).fmod 2147483477), .int (k + 1)], ?_, ?_, ?_, c, _, k + 1, rfl, h1, ?_, ?_, by omega, by omega⟩
    · have hn0 : n ≠ 0 := by omega
      simp [F_law_deal, g_law_deal, runB, rho0, N_law_deal, sSeq, sIf, tB', gB, gV, gC, gF, gK, gN, dIx, atI, ixN, dCmp, fGt, toB, peek, peek1, hc, sTgM, mK, lf, lfL, asg_tp, asg_nm, asg_ixE, asgL_nil, asgL_cons, sRet, outS, sNil, dAdd, sSetP, dMod, dInt, dMul, k1, k2, dFdiv, k3, sRetL, hn0]
    · rw [Int.fmod_eq_emod_of_nonneg _ (by omega : 0 ≤ n)]; exact Int.emod_nonneg _ (by omega)
    · rw [Int.fmod_eq_emod_of_nonneg _ (by omega : 0 ≤ n)]; exact Int.emod_lt_of_pos _ hn
    · rw [Int.fmod_eq_emod_of_nonneg _ (by omega : (0:Int) ≤ 2147483477)]; exact Int.emod_nonneg _ (by omega)
    · rw [Int.fmod_eq_emod_of_nonneg _ (by omega : (0:Int) ≤ 2147483477)]; exact Int.emod_lt_of_pos _ (by omega)
theorem atI_mem {xs : List D} {d : Int} (h0 : 0 ≤ d) (h1 : d < xs.length) : ∃ x ∈ xs, L2.atI xs d = some x := by
  obtain ⟨n, rfl⟩ := Int.eq_ofNat_of_zero_le h0
  have hn : n < xs.length := by omega
  refine ⟨xs[n], List.getElem_mem hn, ?_⟩
  simp [atI, ixN, hn]
theorem some_ok {m : Nat} {B : Int} {l xs : List D} (h : St B l) (hB : B < 1000000) (h0 : 0 < xs.length) (h1 : xs.length < 1000000) :
    ∃ (d : D) (l' : List D), F_law_some m [.own true l, .sh (.lst xs)] = some (d, [.own true l', .no]) ∧ d ∈ xs ∧ St (B + 1) l' := by
  obtain ⟨d, l', e, d0, d1, h'⟩ := deal_ok (m := m) (n := xs.length) h hB (by omega) (by omega)
  obtain ⟨x, hx, e2⟩ := atI_mem d0 d1
  refine ⟨x, l', ?_, hx, h'⟩
  simp [F_law_some, g_law_some, runB, rho0, N_law_some, sRetM, mB, mP, gV, mR, aCc, aC, aD, aN, gF, gK, gN, dLen, cellsOf, argS, backS, e, dIx, e2, outS]
theorem about_ok {m : Nat} {B w : Int} {l : List D} (h : St B l) (hB : B < 900000) (h0 : 0 ≤ w) (h1 : w ≤ 10 ^ 9) :
    ∃ (d : Int) (l' : List D), F_law_about m [.own true l, .sh (.int w)] = some (.int d, [.own true l', .no]) ∧ -w ≤ d ∧ d ≤ w ∧ St (B + 2) l' := by
  have k1 : mulOk 2 w = true := mulOk_of (by omega) (by omega)
  have p1 : dPow (.int 10) (.int 5) = some (.int 100000) := rfl
  by_cases hw : w < 100000
  · obtain ⟨d, l', e, d0, d1, c, s, k, h2, h3⟩ := deal_ok (m := m) (n := 2 * w + 1) h (by omega) (by omega) (by omega)
    refine ⟨d - w, l', ?_, by omega, by omega, c, s, k, h2, by omega⟩
    simp [F_law_about, g_law_about, runB, rho0, N_law_about, sSeq, sIf, tB', gB, gV, gC, p1, dCmp_i, fLt, toB, peek, peek1, hw, sRetM, mB, mP, mR, aCc, aC, aD, aN, dMul_i, k1, dAdd_i, cellsOf, argS, backS, e, dSub_i, outS]
  · obtain ⟨d, l', e, d0, d1, h'⟩ := deal_ok (m := m) (n := 64007) h (by omega) (by omega) (by omega)
    obtain ⟨d', l'', e', d0', d1', h''⟩ := deal_ok (m := m) (n := 64007) h' (by omega) (by omega) (by omega)
    have k2 : mulOk d 64007 = true := mulOk_of (by omega) (by omega)
    have k3 : 2 * w + 1 ≠ 0 := by omega
    have k4 := fmod_pos (a := d * 64007 + d') (b := 2 * w + 1) (by omega)
    refine ⟨(d * 64007 + d').fmod (2 * w + 1) - w, l'', ?_, by omega, by omega, ?_⟩
    · simp [F_law_about, g_law_about, runB, rho0, N_law_about, sSeq, sIf, tB', gB, gV, gC, p1, dCmp_i, fLt, toB, peek, peek1, hw, sRetM, sSetM, sNil, mB, mP, mR, mF, allD, aCc, aC, aD, aN, dMul_i, k1, k2, dAdd_i, cellsOf, argS, backS, e, e', dInt_i, dMod_i, k3, dSub_i, outS]
    · rw [show B + 2 = B + 1 + 1 by omega]; exact h''
theorem lode_loop (b : GS) (hb : b = sSet 3 (gB dMod (gF dInt (gK (gB dAdd (gB dAdd (gB dMul (gV 3) (gC (.int 39373))) (gB dMod (gF dInt (gK (gV 4) gN)) (gC (.int 2147483477)))) (gC (.int 17))) gN)) (gC (.int 2147483477)))) : ∀ (xs : List Int) (x0 x1 x2 x4 : S) (s : Int), 0 ≤ s → s < 2147483477 →
    ∃ (s' : Int) (x4' : S), dFor (.nm 4) b (xs.map D.int) [x0, x1, x2, .sh (.int s), x4] = some (.nx [x0, x1, x2, .sh (.int s'), x4']) ∧ 0 ≤ s' ∧ s' < 2147483477
  | [], x0, x1, x2, x4, s, h0, h1 => ⟨s, x4, rfl, h0, h1⟩
  | x :: xs, x0, x1, x2, x4, s, h0, h1 => by
    have k1 : mulOk s 39373 = true := mulOk_of (by omega) (by omega)
    have k2 := fmod_pos (a := s * 39373 + x.fmod 2147483477 + 17) (b := 2147483477) (by omega)
    obtain ⟨s', x4', e, h2, h3⟩ := lode_loop b hb xs x0 x1 x2 (.sh (.int x)) ((s * 39373 + x.fmod 2147483477 + 17).fmod 2147483477) k2.1 k2.2
    refine ⟨s', x4', ?_, h2, h3⟩
    have hstep : b [x0, x1, x2, .sh (.int s), .sh (.int x)] = some (.nx [x0, x1, x2, .sh (.int ((s * 39373 + x.fmod 2147483477 + 17).fmod 2147483477)), .sh (.int x)]) := by
      rw [hb]
      simp [sSet, gB, gF, gK, gN, gV, gC, dMul_i, k1, dInt_i, dMod_i, dAdd_i]
    show ((asg (.nm 4) (.int x) [x0, x1, x2, .sh (.int s), x4]).bind fun ρ1 => (b ρ1).bind fun o => match o with
    | .nx ρ2 => dFor (.nm 4) b (xs.map D.int) ρ2
    | .ct ρ2 => dFor (.nm 4) b (xs.map D.int) ρ2
    | .bk ρ2 => some (.nx ρ2)
    | .rt d ρ2 => some (.rt d ρ2)) = _
    rw [asg_nm]
    show (b [x0, x1, x2, .sh (.int s), .sh (.int x)]).bind _ = _
    rw [hstep]
    exact e
theorem lode_ok {m : Nat} (ns : List Int) (lap : Int) (h0 : 0 ≤ lap) (h1 : lap < 1000) (hl : ns.length ≤ 63) : ∃ l, F_law_lode m [.frz (ns.map .int), .int lap] = some l ∧ St 0 l := by
  -- the number of this lap
  have hc : ∃ c : Int, (gIf (tB' (gB (dCmp fLt) (gV 1) (gF dLen (gK (gV 0) gN)))) (gF dInt (gK (gB dIx (gV 0) (gV 1)) gN)) (gB dAdd (gB dAdd (gB dMul (gC (.int 6113)) (gV 1)) (gC (.int 41))) (gB dMod (gF dInt (gK (gF dSum (gK (gLst (gSlL (gV 0) gNoP (gP (gC (.int 5))))) gN)) gN)) (gC (.int 1000133))))) [.sh (.frz (ns.map .int)), .sh (.int lap), .no, .no, .no] = some (.int c) := by
    by_cases hlt : lap < ns.length
    · obtain ⟨x, hx, e⟩ := atI_mem (xs := ns.map D.int) h0 (by rw [List.length_map]; exact hlt)
      obtain ⟨c, _, rfl⟩ := List.mem_map.mp hx
      exact ⟨c, by simp [gIf, tB', gB, gV, gF, gK, gN, dLen, dCmp_i, fLt, hlt, toB, dIx, e, dInt_i]⟩
    · have k1 : mulOk 6113 lap = true := mulOk_of (by omega) (by omega)
      exact ⟨6113 * lap + 41 + (cutL ns none (some 5)).sum.fmod 1000133, by simp [gIf, tB', gB, gV, gF, gK, gN, gC, dLen, dCmp_i, fLt, hlt, toB, DL.gLst, gSlL, gNoP, gP, toI, cutL_map, dSum, intsD_map, dInt_i, dMul_i, k1, dAdd_i, dMod_i]⟩
  obtain ⟨c, hc⟩ := hc
  have k1 : mulOk 1409 lap = true := mulOk_of (by omega) (by omega)
  obtain ⟨s', x4, e, h2, h3⟩ := lode_loop _ rfl (cutL ns none (some 11) ++ [c]) (.sh (.frz (ns.map .int))) (.sh (.int lap)) (.sh (.int c)) .no (27191 + 1409 * lap) (by omega) (by omega)
  have hlen := cutL_len ns none (some 11)
  have hadd : dAdd (.lst ((cutL ns none (some 11)).map .int)) (.lst [.int c]) = some (.lst ((cutL ns none (some 11) ++ [c]).map .int)) := by
    rw [dAdd_l (by rw [List.length_map]; simp; omega), List.map_append]; rfl
  have p1 : dPow (.int 10) (.int 18) = some (.int 1000000000000000000) := rfl
  obtain ⟨c0, hc0, hcp⟩ : ∃ c0 : Int, (gIf (tOr' (tB' (gB (dCmp fLt) (gV 2) (gC (.int 0)))) (tB' (gB (dCmp fGe) (gV 2) (gB dPow (gC (.int 10)) (gC (.int 18)))))) (gF dAbs (gK (gV 2) gN)) (gC (.int 0))) [.sh (.frz (ns.map .int)), .sh (.int lap), .sh (.int c), .sh (.int s'), x4] = some (.int c0) ∧ 0 ≤ c0 := by
    by_cases c1 : c < 0
    · exact ⟨-c, by simp [gK, gN, gIf, tOr', tB', gB, gV, gC, dCmp_i, fLt, toB, c1, gF, dAbs], by omega⟩
    · by_cases c2 : 1000000000000000000 ≤ c
      · exact ⟨c, by simp [gK, gN, gIf, tOr', tB', gB, gV, gC, dCmp_i, fLt, fGe, toB, c1, p1, c2, gF, dAbs], by omega⟩
      · exact ⟨0, by simp [gK, gN, gIf, tOr', tB', gB, gV, gC, dCmp_i, fLt, fGe, toB, c1, p1, c2, gF, dAbs], by omega⟩
  refine ⟨[.int c0, .int s', .int 0], ?_, c0, s', 0, rfl, hcp, h2, h3, by omega, by omega⟩
  · unfold F_law_lode runL g_law_lode
    show fSeq _ _ [.sh (.frz (ns.map .int)), .sh (.int lap), .no, .no, .no] = _
    simp only [fSeq, sSet, hc, Option.map_some, Option.bind_some, List.set_cons_succ, List.set_cons_zero]
    have hfor : (gB dAdd (DL.gLst (gSlL (gV 0) gNoP (gP (gC (.int 11))))) (DL.gLst (gK (gV 2) gN))) [.sh (.frz (ns.map .int)), .sh (.int lap), .sh (.int c), .sh (.int (27191 + 1409 * lap)), .no] = some (.lst ((cutL ns none (some 11) ++ [c]).map .int)) := by
      simp [gB, gV, gC, gK, gN, DL.gLst, gSlL, gNoP, gP, toI, cutL_map, -List.map_append]
      exact hadd
    have hst : (gB dAdd (gC (.int 27191)) (gB dMul (gC (.int 1409)) (gV 1))) [.sh (.frz (ns.map .int)), .sh (.int lap), .sh (.int c), .no, .no] = some (.int (27191 + 1409 * lap)) := by
      simp [gB, gV, gC, dMul_i, k1, dAdd_i]
    simp only [hst, Option.map_some, Option.bind_some, sFor, hfor, seqD, e, List.set_cons_succ, List.set_cons_zero]
    simp [gK, gN, hc0, gV, gC]
end Lk01

set_option Elab.async false
set_option linter.all false
set_option maxRecDepth 100000
set_option maxHeartbeats 4000000
namespace Lk01
open PySem PySem.Spec PyProof.Rows L2 DL
def gl (t : D) : List D := cs_given.map fun c => .exc c ["given"] [t]
def il (t : D) : List D := cs_index.map fun c => .exc c ["index"] [t]
theorem given_eq (m : Nat) (t : D) : F_law_given m [t] = some (.lst [.lst (gl t), .lst (gl t)]) := by rfl
theorem indexed_eq (m : Nat) (t : D) : F_law_indexed m [t] = some (.lst [.lst (il t), .lst (il t)]) := by rfl
theorem stand_i (m : Nat) (t : D) : F_law_stand m [.lst (il t), .int 19] = some (.bl true) := by kernel_rfl
theorem stand_g (m : Nat) (t : D) : F_law_stand m [.lst (gl t), .int 0] = some (.bl true) := by kernel_rfl
theorem stand_b (m : Nat) : F_law_stand m [.lst [.exb "TooMuchIron", .exb "NotAhead", .exb "SameDip", .exb "NoneFits", .exb "NothingToUndo"], .int 25] = some (.bl true) := by kernel_rfl
theorem marks_b (m : Nat) : (gB (dIn false) (gC (.bl true)) (gF (F_law_marks m) (gK (gC (.exb "CompassError")) gN))) [] = some (.bl false) := by kernel_rfl
/-- none is told apart by its text -/
theorem noneG {te : G} {t : D} {s : PySem.Str} (hr : dRepr [t] = some (.str s)) (hs : PyData.strOk s = true) : ∀ (cs : List PySem.Str), (∀ c ∈ cs, c ∈ cs_given) → ∀ (ρ : Rho), ρ[2]? = some (.sh t) → 5 < ρ.length →
    dComp (.nm 5) (tB' (gB dNe (gF dRepr (gK (gU (dXv cs_given "given") (gV 5)) gN)) (gF dRepr (gK (gV 2) gN)))) te ρ (cs.map fun c => .exc c ["given"] [t]) = some []
  | [], _, ρ, _, _ => rfl
  | c :: cs, h, ρ, h2, h5 => by
    have e5 : (ρ.set 5 (.sh (.exc c ["given"] [t])))[5]? = some (.sh (.exc c ["given"] [t])) := by rw [List.getElem?_set_self h5]
    have e2 : (ρ.set 5 (.sh (.exc c ["given"] [t])))[2]? = some (.sh t) := by rw [List.getElem?_set_ne (by omega)]; exact h2
    have ex : dXv cs_given "given" (.exc c ["given"] [t]) = some t := by
      show (if c ∈ cs_given then _ else _) = _
      rw [if_pos (h c List.mem_cons_self)]
      rfl
    have en : dNe (.str s) (.str s) = some (.bl false) := by
      simp [dNe, dEqv, py, SeqAt.shaped, PyData.eqv, PyData.canLay0, PyData.depth, hs]
    have et : (tB' (gB dNe (gF dRepr (gK (gU (dXv cs_given "given") (gV 5)) gN)) (gF dRepr (gK (gV 2) gN)))) (ρ.set 5 (.sh (.exc c ["given"] [t]))) = some false := by
      simp [tB', gB, gF, gK, gN, gU, gV, e5, e2, ex, hr, en, toB]
    have ih := noneG (te := te) hr hs cs (fun c hc => h c (List.mem_cons_of_mem _ hc)) ρ h2 h5
    simp only [List.map_cons, dComp, asg_nm, Option.bind_some, et]
    simpa using ih
/-- none is told apart by its text -/
theorem noneI {te : G} {t : D} {s : PySem.Str} (hr : dRepr [t] = some (.str s)) (hs : PyData.strOk s = true) : ∀ (cs : List PySem.Str), (∀ c ∈ cs, c ∈ cs_index) → ∀ (ρ : Rho), ρ[3]? = some (.sh t) → 5 < ρ.length →
    dComp (.nm 5) (tB' (gB dNe (gF dRepr (gK (gU (dXv cs_index "index") (gV 5)) gN)) (gF dRepr (gK (gV 3) gN)))) te ρ (cs.map fun c => .exc c ["index"] [t]) = some []
  | [], _, ρ, _, _ => rfl
  | c :: cs, h, ρ, h2, h5 => by
    have e5 : (ρ.set 5 (.sh (.exc c ["index"] [t])))[5]? = some (.sh (.exc c ["index"] [t])) := by rw [List.getElem?_set_self h5]
    have e2 : (ρ.set 5 (.sh (.exc c ["index"] [t])))[3]? = some (.sh t) := by rw [List.getElem?_set_ne (by omega)]; exact h2
    have ex : dXv cs_index "index" (.exc c ["index"] [t]) = some t := by
      show (if c ∈ cs_index then _ else _) = _
      rw [if_pos (h c List.mem_cons_self)]
      rfl
    have en : dNe (.str s) (.str s) = some (.bl false) := by
      simp [dNe, dEqv, py, SeqAt.shaped, PyData.eqv, PyData.canLay0, PyData.depth, hs]
    have et : (tB' (gB dNe (gF dRepr (gK (gU (dXv cs_index "index") (gV 5)) gN)) (gF dRepr (gK (gV 3) gN)))) (ρ.set 5 (.sh (.exc c ["index"] [t]))) = some false := by
      simp [tB', gB, gF, gK, gN, gU, gV, e5, e2, ex, hr, en, toB]
    have ih := noneI (te := te) hr hs cs (fun c hc => h c (List.mem_cons_of_mem _ hc)) ρ h2 h5
    simp only [List.map_cons, dComp, asg_nm, Option.bind_some, et]
    simpa using ih
theorem strOk_of (s : String) : PyData.strOk (PySem.Str.ofString s) = true := by
  rw [Str.ofString_eq_toList]
  unfold PyData.strOk
  simp only [Array.all_eq_true', List.mem_toArray, List.mem_map, decide_eq_true_eq]
  rintro x ⟨c, _, rfl⟩
  have h := c.valid
  unfold UInt32.isValidChar Nat.isValidChar at h
  show c.val.toNat < _
  omega
theorem repr_int {i : Int} (h0 : -(10 ^ 9) ≤ i) (h1 : i ≤ 10 ^ 9) : ∃ s, dRepr [.int i] = some (.str s) ∧ PyData.strOk s = true := by
  have e := int_text_length_le10 (a := i) (k := 10) (by decide) (by omega)
  have e2 : (PySem.Str.ofString (toString i)).length ≤ 1000 := by
    rw [PySem.ofString_length]
    omega
  have e3 : i.natAbs.log2 < 1920 := by
    have := log2_le (a := i) (n := 31) (by omega) (by omega)
    omega
  refine ⟨PySem.Str.ofString (toString i), ?_, strOk_of _⟩
  show dReprO (some (.int i)) = _
  unfold dReprO
  rw [Option.bind_some, if_pos ⟨by simpa [PyData.showable] using e3, by simp [PyData.depth], e2⟩]
  rfl
def L11 : List D := [.non, .bl true, .int (-7), .str "", .str "card", .tup [], .tup [.int 1, .int 0, .int (-2)], .lst [], .lst [.int 1, .lst [.int 2]], .dic [.inr "x"] [.int 1], .tup [.tup [.int 0, .int 1], .non]]
def okR (t : D) : Bool := match dRepr [t] with
  | some (.str s) => PyData.strOk s
  | _ => false
theorem okR_of {t : D} (h : okR t = true) : ∃ s, dRepr [t] = some (.str s) ∧ PyData.strOk s = true := by
  unfold okR at h
  split at h
  · rename_i s e
    exact ⟨s, e, h⟩
  · cases h
theorem L11_repr : ∀ t ∈ L11, ∃ s, dRepr [t] = some (.str s) ∧ PyData.strOk s = true := by
  have h : L11.all okR = true := by kernel_rfl
  exact fun t ht => okR_of (List.all_eq_true.mp h t ht)
end Lk01

set_option Elab.async false
set_option linter.all false
set_option maxRecDepth 100000
set_option maxHeartbeats 4000000
namespace Lk01
open PySem PySem.Spec PyProof.Rows L2 DL
/-- the first loop's body -/
def bG (m : Nat) : GS := (sIf (tOr' (tB' (gB dNe (DL.gLst (gLc (fun ρ => ((gV 4) ρ).bind seqD) (.nm 5) [5] (tB' (gB dNe (gF dRepr (gK (gU (dXv cs_given "given") (gV 5)) gN)) (gF dRepr (gK (gV 2) gN)))) (gU (dXv cs_given "given") (gV 5)))) (DL.gLst gN))) (tNot' (tB' (gF (F_law_stand m) (gK (gV 4) (gK (gC (.int 0)) gN))))))
 (sRet (gC (.bl false)))
 sNil)
def bI (m : Nat) : GS := (sIf (tOr' (tB' (gB dNe (DL.gLst (gLc (fun ρ => ((gV 4) ρ).bind seqD) (.nm 5) [5] (tB' (gB dNe (gF dRepr (gK (gU (dXv cs_index "index") (gV 5)) gN)) (gF dRepr (gK (gV 3) gN)))) (gU (dXv cs_index "index") (gV 5)))) (DL.gLst gN))) (tNot' (tB' (gF (F_law_stand m) (gK (gV 4) (gK (gC (.int 19)) gN))))))
 (sRet (gC (.bl false)))
 sNil)
theorem ne0 : dNe (.lst []) (.lst []) = some (.bl false) := by kernel_rfl
theorem bG_ok {m : Nat} {l : List D} {t o : D} {x1 x5 x6 x7 : S} {s : PySem.Str} (hr : dRepr [t] = some (.str s)) (hs : PyData.strOk s = true) :
    bG m [.own true l, x1, .sh t, .sh o, .sh (.lst (gl t)), x5, x6, x7] = some (.nx [.own true l, x1, .sh t, .sh o, .sh (.lst (gl t)), x5, x6, x7]) := by
  have hp : ∃ y1 y5 y6 y7, peek [.own true l, x1, .sh t, .sh o, .sh (.lst (gl t)), x5, x6, x7] = [.sh (.lst l), y1, .sh t, .sh o, .sh (.lst (gl t)), y5, y6, y7] := ⟨_, _, _, _, rfl⟩
  obtain ⟨y1, y5, y6, y7, hp⟩ := hp
  have h1 := noneG (te := (gU (dXv cs_given "given") (gV 5))) hr hs cs_given (fun c h => h) [.sh (.lst l), y1, .sh t, .sh o, .sh (.lst (gl t)), .no, y6, y7] rfl (by simp)
  have hlen : (gl t).length ≤ 1000 := by simp [gl, cs_given]
  have h1 : dComp (.nm 5) (tB' (gB dNe (gF dRepr (gK (gU (dXv cs_given "given") (gV 5)) gN)) (gF dRepr (gK (gV 2) gN)))) (gU (dXv cs_given "given") (gV 5)) [.sh (.lst l), y1, .sh t, .sh o, .sh (.lst (gl t)), .no, y6, y7] (gl t) = some [] := h1
  have hw : wipeR [.sh (.lst l), y1, .sh t, .sh o, .sh (.lst (gl t)), y5, y6, y7] [5] = [.sh (.lst l), y1, .sh t, .sh o, .sh (.lst (gl t)), .no, y6, y7] := rfl
  have e1 : gLc (fun ρ => ((gV 4) ρ).bind seqD) (.nm 5) [5] (tB' (gB dNe (gF dRepr (gK (gU (dXv cs_given "given") (gV 5)) gN)) (gF dRepr (gK (gV 2) gN)))) (gU (dXv cs_given "given") (gV 5)) [.sh (.lst l), y1, .sh t, .sh o, .sh (.lst (gl t)), y5, y6, y7] = some [] := by
    exact gLc_of (ds := gl t) rfl hlen (by rw [hw]; exact h1)
  unfold bG sIf
  rw [hp]
  have e2 : (tOr' (tB' (gB dNe (DL.gLst (gLc (fun ρ => ((gV 4) ρ).bind seqD) (.nm 5) [5] (tB' (gB dNe (gF dRepr (gK (gU (dXv cs_given "given") (gV 5)) gN)) (gF dRepr (gK (gV 2) gN)))) (gU (dXv cs_given "given") (gV 5)))) (DL.gLst gN))) (tNot' (tB' (gF (F_law_stand m) (gK (gV 4) (gK (gC (.int 0)) gN)))))) [.sh (.lst l), y1, .sh t, .sh o, .sh (.lst (gl t)), y5, y6, y7] = some false := by
    have a1 : (gF (F_law_stand m) (gK (gV 4) (gK (gC (.int 0)) gN))) [.sh (.lst l), y1, .sh t, .sh o, .sh (.lst (gl t)), y5, y6, y7] = some (.bl true) := by
      have a0 : (gK (gV 4) (gK (gC (.int 0)) gN)) [.sh (.lst l), y1, .sh t, .sh o, .sh (.lst (gl t)), y5, y6, y7] = some [.lst (gl t), .int 0] := rfl
      unfold gF
      rw [a0, Option.bind_some]
      exact stand_g m t
    simp only [tOr', tB', gB, DL.gLst, e1, Option.map_some, Option.bind_some, gN, ne0, toB_b, Bool.false_eq_true, if_false, tNot', a1]
    rfl
  rw [e2]
  rfl
theorem bI_ok {m : Nat} {l : List D} {t o : D} {x1 x5 x6 x7 : S} {s : PySem.Str} (hr : dRepr [o] = some (.str s)) (hs : PyData.strOk s = true) :
    bI m [.own true l, x1, .sh t, .sh o, .sh (.lst (il o)), x5, x6, x7] = some (.nx [.own true l, x1, .sh t, .sh o, .sh (.lst (il o)), x5, x6, x7]) := by
  have hp : ∃ y1 y5 y6 y7, peek [.own true l, x1, .sh t, .sh o, .sh (.lst (il o)), x5, x6, x7] = [.sh (.lst l), y1, .sh t, .sh o, .sh (.lst (il o)), y5, y6, y7] := ⟨_, _, _, _, rfl⟩
  obtain ⟨y1, y5, y6, y7, hp⟩ := hp
  have h1 := noneI (te := (gU (dXv cs_index "index") (gV 5))) hr hs cs_index (fun c h => h) [.sh (.lst l), y1, .sh t, .sh o, .sh (.lst (il o)), .no, y6, y7] rfl (by simp)
  have hlen : (il o).length ≤ 1000 := by simp [il, cs_index]
  have h1 : dComp (.nm 5) (tB' (gB dNe (gF dRepr (gK (gU (dXv cs_index "index") (gV 5)) gN)) (gF dRepr (gK (gV 3) gN)))) (gU (dXv cs_index "index") (gV 5)) [.sh (.lst l), y1, .sh t, .sh o, .sh (.lst (il o)), .no, y6, y7] (il o) = some [] := h1
  have hw : wipeR [.sh (.lst l), y1, .sh t, .sh o, .sh (.lst (il o)), y5, y6, y7] [5] = [.sh (.lst l), y1, .sh t, .sh o, .sh (.lst (il o)), .no, y6, y7] := rfl
  have e1 : gLc (fun ρ => ((gV 4) ρ).bind seqD) (.nm 5) [5] (tB' (gB dNe (gF dRepr (gK (gU (dXv cs_index "index") (gV 5)) gN)) (gF dRepr (gK (gV 3) gN)))) (gU (dXv cs_index "index") (gV 5)) [.sh (.lst l), y1, .sh t, .sh o, .sh (.lst (il o)), y5, y6, y7] = some [] := by
    exact gLc_of (ds := il o) rfl hlen (by rw [hw]; exact h1)
  unfold bI sIf
  rw [hp]
  have e2 : (tOr' (tB' (gB dNe (DL.gLst (gLc (fun ρ => ((gV 4) ρ).bind seqD) (.nm 5) [5] (tB' (gB dNe (gF dRepr (gK (gU (dXv cs_index "index") (gV 5)) gN)) (gF dRepr (gK (gV 3) gN)))) (gU (dXv cs_index "index") (gV 5)))) (DL.gLst gN))) (tNot' (tB' (gF (F_law_stand m) (gK (gV 4) (gK (gC (.int 19)) gN)))))) [.sh (.lst l), y1, .sh t, .sh o, .sh (.lst (il o)), y5, y6, y7] = some false := by
    have a1 : (gF (F_law_stand m) (gK (gV 4) (gK (gC (.int 19)) gN))) [.sh (.lst l), y1, .sh t, .sh o, .sh (.lst (il o)), y5, y6, y7] = some (.bl true) := by
      have a0 : (gK (gV 4) (gK (gC (.int 19)) gN)) [.sh (.lst l), y1, .sh t, .sh o, .sh (.lst (il o)), y5, y6, y7] = some [.lst (il o), .int 19] := rfl
      unfold gF
      rw [a0, Option.bind_some]
      exact stand_i m o
    simp only [tOr', tB', gB, DL.gLst, e1, Option.map_some, Option.bind_some, gN, ne0, toB_b, Bool.false_eq_true, if_false, tNot', a1]
    rfl
  rw [e2]
  rfl
/-- the rest behind the draws -/
def restR (m : Nat) : GS := (sSeq (sFor (fun ρ => ((gF (F_law_given m) (gK (gV 2) gN)) ρ).bind seqD) (.nm 4) (bG m))
 (sSeq (sFor (fun ρ => ((gF (F_law_indexed m) (gK (gV 3) gN)) ρ).bind seqD) (.nm 4) (bI m))
 (sSeq (sPar' 6 7 (gK (gC (.exb "CompassError")) (gK (DL.gLst (gK (gC (.exb "TooMuchIron")) (gK (gC (.exb "NotAhead")) (gK (gC (.exb "SameDip")) (gK (gC (.exb "NoneFits")) (gK (gC (.exb "NothingToUndo")) gN)))))) gN)))
 (sSeq (sIf (tOr' (tNot' (tB' (gF (F_law_stand m) (gK (gV 7) (gK (gC (.int 25)) gN))))) (tB' (gB (dIn false) (gC (.bl true)) (gF (F_law_marks m) (gK (gV 6) gN)))))
 (sRet (gC (.bl false)))
 sNil)
 (sRet (gAnd (gU (dIsE i_ValueError) (gV 6)) (gNot (gU (dIsE i_LookupError) (gV 6)))))))))
theorem for2 {b : GS} {d : D} {x0 x1 x2 x3 x4 x5 x6 x7 : S} (h : b [x0, x1, x2, x3, .sh d, x5, x6, x7] = some (.nx [x0, x1, x2, x3, .sh d, x5, x6, x7])) :
    dFor (.nm 4) b [d, d] [x0, x1, x2, x3, x4, x5, x6, x7] = some (.nx [x0, x1, x2, x3, .sh d, x5, x6, x7]) := by
  simp only [dFor, asg_nm, Option.bind_some, List.set_cons_succ, List.set_cons_zero, h]
theorem rest_ok {m : Nat} {l : List D} {t o : D} {x1 : S} {s s' : PySem.Str} (hr : dRepr [t] = some (.str s)) (hs : PyData.strOk s = true) (hr' : dRepr [o] = some (.str s')) (hs' : PyData.strOk s' = true) :
    ∃ ρ, restR m [.own true l, x1, .sh t, .sh o, .no, .no, .no, .no] = some (.rt (.bl true) (.own true l :: ρ)) := by
  have f1 : sFor (fun ρ => ((gF (F_law_given m) (gK (gV 2) gN)) ρ).bind seqD) (.nm 4) (bG m) [.own true l, x1, .sh t, .sh o, .no, .no, .no, .no] = some (.nx [.own true l, x1, .sh t, .sh o, .sh (.lst (gl t)), .no, .no, .no]) := by
    unfold sFor
    have a1 : (gF (F_law_given m) (gK (gV 2) gN)) [.own true l, x1, .sh t, .sh o, .no, .no, .no, .no] = some (.lst [.lst (gl t), .lst (gl t)]) := by
      have a0 : (gK (gV 2) gN) [.own true l, x1, .sh t, .sh o, .no, .no, .no, .no] = some [t] := rfl
      unfold gF
      rw [a0, Option.bind_some]
      exact given_eq m t
    simp only [a1, Option.bind_some, seqD]
    exact for2 (bG_ok hr hs)
  have f2 : sFor (fun ρ => ((gF (F_law_indexed m) (gK (gV 3) gN)) ρ).bind seqD) (.nm 4) (bI m) [.own true l, x1, .sh t, .sh o, .sh (.lst (gl t)), .no, .no, .no] = some (.nx [.own true l, x1, .sh t, .sh o, .sh (.lst (il o)), .no, .no, .no]) := by
    unfold sFor
    have a1 : (gF (F_law_indexed m) (gK (gV 3) gN)) [.own true l, x1, .sh t, .sh o, .sh (.lst (gl t)), .no, .no, .no] = some (.lst [.lst (il o), .lst (il o)]) := by
      have a0 : (gK (gV 3) gN) [.own true l, x1, .sh t, .sh o, .sh (.lst (gl t)), .no, .no, .no] = some [o] := rfl
      unfold gF
      rw [a0, Option.bind_some]
      exact indexed_eq m o
    simp only [a1, Option.bind_some, seqD]
    exact for2 (bI_ok hr' hs')
  let ρ6 : Rho := [.own true l, x1, .sh t, .sh o, .sh (.lst (il o)), .no, .sh (.exb "CompassError"), .sh (.lst [.exb "TooMuchIron", .exb "NotAhead", .exb "SameDip", .exb "NoneFits", .exb "NothingToUndo"])]
  have f3 : sPar' 6 7 (gK (gC (.exb "CompassError")) (gK (DL.gLst (gK (gC (.exb "TooMuchIron")) (gK (gC (.exb "NotAhead")) (gK (gC (.exb "SameDip")) (gK (gC (.exb "NoneFits")) (gK (gC (.exb "NothingToUndo")) gN)))))) gN)) [.own true l, x1, .sh t, .sh o, .sh (.lst (il o)), .no, .no, .no] = some (.nx ρ6) := rfl
  have hp : ∃ y1, peek ρ6 = [.sh (.lst l), y1, .sh t, .sh o, .sh (.lst (il o)), .no, .sh (.exb "CompassError"), .sh (.lst [.exb "TooMuchIron", .exb "NotAhead", .exb "SameDip", .exb "NoneFits", .exb "NothingToUndo"])] := ⟨_, rfl⟩
  obtain ⟨y1, hp⟩ := hp
  have f4 : (sIf (tOr' (tNot' (tB' (gF (F_law_stand m) (gK (gV 7) (gK (gC (.int 25)) gN))))) (tB' (gB (dIn false) (gC (.bl true)) (gF (F_law_marks m) (gK (gV 6) gN))))) (sRet (gC (.bl false))) sNil) ρ6 = some (.nx ρ6) := by
    unfold sIf
    rw [hp]
    have a1 : (gF (F_law_stand m) (gK (gV 7) (gK (gC (.int 25)) gN))) [.sh (.lst l), y1, .sh t, .sh o, .sh (.lst (il o)), .no, .sh (.exb "CompassError"), .sh (.lst [.exb "TooMuchIron", .exb "NotAhead", .exb "SameDip", .exb "NoneFits", .exb "NothingToUndo"])] = some (.bl true) := by
      have a0 : (gK (gV 7) (gK (gC (.int 25)) gN)) [.sh (.lst l), y1, .sh t, .sh o, .sh (.lst (il o)), .no, .sh (.exb "CompassError"), .sh (.lst [.exb "TooMuchIron", .exb "NotAhead", .exb "SameDip", .exb "NoneFits", .exb "NothingToUndo"])] = some [.lst [.exb "TooMuchIron", .exb "NotAhead", .exb "SameDip", .exb "NoneFits", .exb "NothingToUndo"], .int 25] := rfl
      unfold gF
      rw [a0, Option.bind_some]
      exact stand_b m
    have a2 : (gB (dIn false) (gC (.bl true)) (gF (F_law_marks m) (gK (gV 6) gN))) [.sh (.lst l), y1, .sh t, .sh o, .sh (.lst (il o)), .no, .sh (.exb "CompassError"), .sh (.lst [.exb "TooMuchIron", .exb "NotAhead", .exb "SameDip", .exb "NoneFits", .exb "NothingToUndo"])] = some (.bl false) := by
      have a0 : (gK (gV 6) gN) [.sh (.lst l), y1, .sh t, .sh o, .sh (.lst (il o)), .no, .sh (.exb "CompassError"), .sh (.lst [.exb "TooMuchIron", .exb "NotAhead", .exb "SameDip", .exb "NoneFits", .exb "NothingToUndo"])] = some [.exb "CompassError"] := rfl
      have a3 := marks_b m
      unfold gB gF at a3 ⊢
      rw [a0]
      exact a3
    simp only [tOr', tNot', tB', a1, a2, Option.bind_some, Option.map_some, toB_b, Bool.not_true, Bool.false_eq_true, if_false, sNil]
  have f5 : (sRet (gAnd (gU (dIsE i_ValueError) (gV 6)) (gNot (gU (dIsE i_LookupError) (gV 6))))) ρ6 = some (.rt (.bl true) ρ6) := by kernel_rfl
  refine ⟨ρ6.tail, ?_⟩
  unfold restR
  simp only [sSeq, f1, f2, f3, f4, f5, Option.bind_some]
  rfl
theorem right_ok {m : Nat} {B : Int} {l : List D} (h : St B l) (hB : B < 800000) : ∃ s, F_law_right m [.own true l] = some (.bl true, s) := by
  obtain ⟨i, l1, e1, i0, i1, h1⟩ := about_ok (m := m) (w := 1000000000) h (by omega) (by omega) (by omega)
  obtain ⟨t, l2, e2, ht, h2⟩ := some_ok (m := m) (xs := L11 ++ [.int i]) h1 (by omega) (by simp [L11]) (by simp [L11])
  obtain ⟨o, l3, e3, ho, h3⟩ := some_ok (m := m) (xs := L11) h2 (by omega) (by simp [L11]) (by simp [L11])
  have rt : ∃ s, dRepr [t] = some (.str s) ∧ PyData.strOk s = true := by
    rcases List.mem_append.mp ht with ht | ht
    · exact L11_repr t ht
    · rw [List.mem_singleton] at ht
      subst ht
      exact repr_int (by omega) (by omega)
  obtain ⟨s, r1, r2⟩ := rt
  obtain ⟨s', r3, r4⟩ := L11_repr o ho
  obtain ⟨ρ, hr⟩ := rest_ok (m := m) (l := l3) (x1 := .sh (.lst L11)) r1 r2 r3 r4
  have p1 : dPow (.int 10) (.int 9) = some (.int 1000000000) := rfl
  have d1 : dAdd (.lst L11) (.lst [.int i]) = some (.lst (L11 ++ [.int i])) := rfl
  have s1 : (sTgM (.tp [(.nm 2), (.nm 3)]) (mTup (aD (mR (F_law_some m) (aCc 0 (aD (mB dAdd (mP (gV 1)) (mLst (aD (mR (F_law_about m) (aCc 0 (aD (mP (gB dPow (gC (.int 10)) (gC (.int 9)))) aN))) aN))) aN))) (aD (mR (F_law_some m) (aCc 0 (aD (mP (gV 1)) aN))) aN)))) [.own true l, .sh (.lst L11), .no, .no, .no, .no, .no, .no] = some (.nx [.own true l3, .sh (.lst L11), .sh t, .sh o, .no, .no, .no, .no]) := by
    simp [sTgM, mTup, aD, mR, aCc, aC, aN, mB, mP, mLst, gV, gB, gC, p1, cellsOf, argS, e1, backS, allD, d1, e2, e3, asg_tp, asg_nm, asgL_cons, asgL_nil]
  refine ⟨[.own true l3], ?_⟩
  show ((sSeq _ (sSeq _ (restR m))) [.own true l, .no, .no, .no, .no, .no, .no, .no]).bind _ = _
  have s0 : ((sSet 1 (DL.gLst (gK (gC .non) (gK (gC (.bl true)) (gK (gU dNeg (gC (.int 7))) (gK (gC (.str "")) (gK (gC (.str "card")) (gK (gTup gN) (gK (gTup (gK (gC (.int 1)) (gK (gC (.int 0)) (gK (gU dNeg (gC (.int 2))) gN)))) (gK (DL.gLst gN) (gK (DL.gLst (gK (gC (.int 1)) (gK (DL.gLst (gK (gC (.int 2)) gN)) gN))) (gK (gC (.dic [.inr "x"] [.int 1])) (gK (gTup (gK (gTup (gK (gC (.int 0)) (gK (gC (.int 1)) gN))) (gK (gC .non) gN))) gN)))))))))))))) [.own true l, .no, .no, .no, .no, .no, .no, .no] = some (.nx [.own true l, .sh (.lst L11), .no, .no, .no, .no, .no, .no]) := rfl
  simp only [sSeq, s0, s1, hr, Option.bind_some]
  rfl
theorem law_ok (ns : List Int) (hl : ns.length ≤ 63) : ∃ m, F_law m [.frz (ns.map D.int)] = some (.bl true) := by
  refine ⟨0, ?_⟩
  obtain ⟨l0, e0, h0⟩ := lode_ok (m := 0) ns 0 (by omega) (by omega) hl
  obtain ⟨l1, e1, h1⟩ := lode_ok (m := 0) ns 1 (by omega) (by omega) hl
  obtain ⟨s0, r0⟩ := right_ok (m := 0) h0 (by omega)
  obtain ⟨s1, r1⟩ := right_ok (m := 0) h1 (by omega)
  have c0 : (gRf (F_law_right 0) (gFl (F_law_lode 0) (gK (gV 0) (gK (gV 1) gN)))) [.sh (.frz (ns.map .int)), .sh (.int 0)] = some (.bl true) := by
    simp [gRf, gFl, gK, gN, gV, e0, r0]
  have c1 : (gRf (F_law_right 0) (gFl (F_law_lode 0) (gK (gV 0) (gK (gV 1) gN)))) [.sh (.frz (ns.map .int)), .sh (.int 1)] = some (.bl true) := by
    simp [gRf, gFl, gK, gN, gV, e1, r1]
  have cc : dComp (.nm 1) tYes' (gRf (F_law_right 0) (gFl (F_law_lode 0) (gK (gV 0) (gK (gV 1) gN)))) [.sh (.frz (ns.map .int)), .no] [.int 0, .int 1] = some [.bl true, .bl true] := by
    simp only [dComp, asg_nm, tYes', Option.bind_some, List.set_cons_succ, List.set_cons_zero, c0, c1]
    rfl
  show ((sRet _) [.sh (.frz (ns.map .int)), .no]).bind _ = _
  have cl : gLc (fun ρ => ((gK (gC (.int 2)) gN) ρ).bind dRng1) (.nm 1) [1] tYes' (gRf (F_law_right 0) (gFl (F_law_lode 0) (gK (gV 0) (gK (gV 1) gN)))) [.sh (.frz (ns.map .int)), .no] = some [.bl true, .bl true] := by
    exact gLc_of (ds := [.int 0, .int 1]) rfl (by decide) cc
  have key : ∀ L : GL, L [.sh (.frz (ns.map .int)), .no] = some [.bl true, .bl true] → (gF dAll (gK (DL.gLst L) gN)) [.sh (.frz (ns.map .int)), .no] = some (.bl true) := fun L h => by
    simp only [gF, gK, DL.gLst, h, Option.map_some, Option.bind_some]
    rfl
  unfold sRet
  rw [key _ cl]
  rfl
end Lk01

set_option Elab.async false
set_option maxRecDepth 100000
theorem PySem.Challenge.cw_ironships_k01_errors_each_of_its_own_holds : PySem.Challenge.rw_ironships_k01_errors_each_of_its_own.Holds := by
  exact Lk01.holds fun ns h1 _ => Lk01.law_ok ns h1
