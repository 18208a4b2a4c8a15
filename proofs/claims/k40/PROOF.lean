import PyProof.Rows.All
import Wide.All
import OpenK.AllK
import Wide.FinOn
import HandS.ForMost
import HandS.Exc
import HandS.TryOnly
import HandS.ExcOwn
import HandS.WordsExc
import HandS.CallSlots
import HandS.Defaults
import HandS.Lambda
import HandS.Nested
import HandS.Gcd
import HandS.Wide
import HandS.IsInst
import HandS.Property
import HandS.TupAny
import HandS.TupMul
import HandS.Zip
import HandS.Deep
import HandS.Style
import HandS.NestedK
import HandS.Head0
import HandS.HeadHook4
import KE.KStateDown
import HandS.EndTab
import HandS.HeadEnd
import PySem.Challenge.RW_mindmeans_k40_whole_beats_of_near_minds
import HandS.Base
import HandS.Call
import HandS.Ends
import HandS.More
import HandS.Words
import HandS.Head1
import HandS.Head2
import HandS.Head3
import HandS.HeadHook1
import HandS.HeadHook2
import HandS.HeadHook3
set_option Elab.async false
set_option linter.all false
set_option maxRecDepth 100000
set_option maxHeartbeats 4000000
namespace DL
open PySem PySem.Spec PyProof.Rows L2

/-! ### data -/
inductive D where
  | non | bl (b : Bool) | int (i : Int) | str (x : Str)
  | tup (l : List D) | lst (l : List D)
  | dct (ks : List D) (vs : List D)
  | obj (c : Str) (fs : List D)
  | glo (x : Str) | ty (n : String)
  | clo (i : Nat)
  | bowl
instance : Inhabited D := ⟨.non⟩

def LIM : Nat := 1000000
theorem lim_line : LIM < sizeLine := by decide

/-- a text that is let -/
def okS (x : Str) : Bool := decide (x.length ≤ LIM) && PyData.strOk x
/-- the attributes of the instances of a class, in order -/
def attrsOf (c : Str) : List Str := if c = "Circle" then ["all_told"] else if c = "Case" then ["all_of_it"] else []

def keyD : Key → D
  | .inl i => .int i
  | .inr x => .str x
def tkeyD (l : List Key) : D := .tup (l.map keyD)

/-- what data stands for: the written part, the module's names, the closures, the bowl -/
structure RC where
  K : PySem.W.Frag
  mg : Str → Option Value
  fns : List Addr
  bo : Option Addr

mutual
def Rep (R : RC) (H : Hp) : D → V → Prop
  | .non, v => v = .non
  | .bl b, v => v = .bl b
  | .int i, v => v = .int i
  | .str x, v => v = .str x ∧ okS x = true
  | .tup l, v => ∃ a vs, v = .ref a ∧ SqT R.K H a vs ∧ RepL R H l vs ∧ l.length ≤ LIM
  | .lst l, v => ∃ a vs, v = .ref a ∧ SqL R.K H a vs ∧ RepL R H l vs ∧ l.length ≤ LIM
  | .dct ks ds, v => ∃ a vs, v = .ref a ∧ RepL R H ds vs ∧ ks.length ≤ LIM ∧
      ((∃ kk : List Key, Rd H a (.dK (kk.zip vs)) ∧ ks = kk.map keyD ∧ kk.length = vs.length) ∨
       (∃ kk : List (List Key), Rd H a (.dT (kk.zip vs)) ∧ ks = kk.map tkeyD ∧ kk.length = vs.length))
  | .obj c fs, v => ∃ a C dx vs, v = .ref a ∧ R.mg c = some (.ref C) ∧ H a = some (.ins C dx ((attrsOf c).zip vs)) ∧ RepL R H fs vs ∧ vs.length = (attrsOf c).length
  | .glo x, v => ∃ f, v = .ref f ∧ R.mg x = some (.ref f)
  | .ty n, v => v = .ty n
  | .clo i, v => ∃ f, v = .ref f ∧ R.fns[i]? = some f
  | .bowl, v => ∃ a, v = .ref a ∧ R.bo = some a
def RepL (R : RC) (H : Hp) : List D → List V → Prop
  | [], vs => vs = []
  | d :: ds, vs => ∃ v r, vs = v :: r ∧ Rep R H d v ∧ RepL R H ds r
end

/-- all that is tracked stays, tables apart -/
def Sub (H H' : Hp) : Prop := ∀ a o, H a = some o → (∀ ps, o ≠ .tbl ps) → H' a = some o
theorem Sub.refl (H : Hp) : Sub H H := fun _ _ h _ => h
theorem Sub.trans {H H1 H2 : Hp} (a : Sub H H1) (b : Sub H1 H2) : Sub H H2 := fun c o h n => b c o (a c o h n) n
theorem Sub.rd {H H' : Hp} {a : Addr} {u : HO} (s : Sub H H') (n : ∀ ps, u ≠ .tbl ps) (h : Rd H a u) : Rd H' a u := by
  rcases h with h | ⟨o, h⟩
  · exact .inl (s _ _ h n)
  · exact .inr ⟨o, s _ _ h (fun _ z => by cases z)⟩
theorem Sub.seq {K : PySem.W.Frag} {H H' : Hp} {a : Addr} {xs : List V} (e : Sub H H') (h : SqL K H a xs) : SqL K H' a xs :=
  h.elim (fun h => .inl (e.rd (fun _ z => by cases z) h)) .inr
theorem Sub.tup {K : PySem.W.Frag} {H H' : Hp} {a : Addr} {xs : List V} (e : Sub H H') (h : SqT K H a xs) : SqT K H' a xs :=
  h.elim (fun h => .inl (e.rd (fun _ z => by cases z) h)) .inr
mutual
theorem Rep.mono {R : RC} {H H' : Hp} (s : Sub H H') : ∀ {d : D} {v : V}, Rep R H d v → Rep R H' d v
  | .non, _, h => h
  | .bl _, _, h => h
  | .int _, _, h => h
  | .str _, _, h => h
  | .glo _, _, h => h
  | .ty _, _, h => h
  | .clo _, _, h => h
  | .bowl, _, h => h
  | .tup l, v, h => by
    obtain ⟨a, vs, e, h1, h2, h3⟩ := h
    exact ⟨a, vs, e, s.tup h1, RepL.mono s h2, h3⟩
  | .lst l, v, h => by
    obtain ⟨a, vs, e, h1, h2, h3⟩ := h
    exact ⟨a, vs, e, s.seq h1, RepL.mono s h2, h3⟩
  | .dct ks ds, v, h => by
    obtain ⟨a, vs, e, h1, h2, h3⟩ := h
    refine ⟨a, vs, e, RepL.mono s h1, h2, ?_⟩
    rcases h3 with ⟨kk, q, r⟩ | ⟨kk, q, r⟩
    · exact .inl ⟨kk, s.rd (fun _ z => by cases z) q, r⟩
    · exact .inr ⟨kk, s.rd (fun _ z => by cases z) q, r⟩
  | .obj c fs, v, h => by
    obtain ⟨a, C, dx, vs, e, h1, h2, h3, h4⟩ := h
    exact ⟨a, C, dx, vs, e, h1, s _ _ h2 (fun _ z => by cases z), RepL.mono s h3, h4⟩
theorem RepL.mono {R : RC} {H H' : Hp} (s : Sub H H') : ∀ {ds : List D} {vs : List V}, RepL R H ds vs → RepL R H' ds vs
  | [], _, h => h
  | d :: ds, vs, h => by
    obtain ⟨v, r, e, h1, h2⟩ := h
    exact ⟨v, r, e, Rep.mono s h1, RepL.mono s h2⟩
end
theorem RepL.length {R : RC} {H : Hp} : ∀ {ds : List D} {vs : List V}, RepL R H ds vs → ds.length = vs.length
  | [], _, h => by cases h; rfl
  | d :: ds, vs, h => by
    obtain ⟨v, r, e, h1, h2⟩ := h
    subst e
    simp [RepL.length h2]
theorem RepL.get {R : RC} {H : Hp} : ∀ {ds : List D} {vs : List V} {i : Nat} {d : D}, RepL R H ds vs → ds[i]? = some d → ∃ v, vs[i]? = some v ∧ Rep R H d v
  | [], _, _, _, _, e => by simp at e
  | d :: ds, vs, 0, d', h, e => by
    obtain ⟨v, r, e1, h1, h2⟩ := h
    subst e1
    simp at e
    subst e
    exact ⟨v, rfl, h1⟩
  | d :: ds, vs, i + 1, d', h, e => by
    obtain ⟨v, r, e1, h1, h2⟩ := h
    subst e1
    obtain ⟨v', a, b⟩ := RepL.get (i := i) h2 (by simpa using e)
    exact ⟨v', by simpa using a, b⟩
theorem RepL.getV {R : RC} {H : Hp} {ds : List D} {vs : List V} {i : Nat} {v : V} (h : RepL R H ds vs) (e : vs[i]? = some v) : ∃ d, ds[i]? = some d ∧ Rep R H d v := by
  have hi : i < ds.length := by
    rw [h.length]
    exact (List.getElem?_eq_some_iff.mp e).1
  obtain ⟨v', e', r⟩ := h.get (List.getElem?_eq_getElem hi)
  rw [e] at e'
  cases e'
  exact ⟨_, List.getElem?_eq_getElem hi, r⟩
theorem RepL.append {R : RC} {H : Hp} : ∀ {ds es : List D} {vs ws : List V}, RepL R H ds vs → RepL R H es ws → RepL R H (ds ++ es) (vs ++ ws)
  | [], _, _, _, h, g => by
    cases h
    exact g
  | d :: ds, es, vs, ws, h, g => by
    obtain ⟨v, r, e, h1, h2⟩ := h
    subst e
    exact ⟨v, r ++ ws, rfl, h1, RepL.append h2 g⟩
theorem RepL.take {R : RC} {H : Hp} : ∀ (n : Nat) {ds : List D} {vs : List V}, RepL R H ds vs → RepL R H (ds.take n) (vs.take n)
  | 0, _, _, _ => by simp [RepL]
  | _ + 1, [], _, h => by
    cases h
    simp [RepL]
  | n + 1, d :: ds, vs, h => by
    obtain ⟨v, r, e, h1, h2⟩ := h
    subst e
    exact ⟨v, r.take n, rfl, h1, RepL.take n h2⟩
theorem RepL.drop {R : RC} {H : Hp} : ∀ (n : Nat) {ds : List D} {vs : List V}, RepL R H ds vs → RepL R H (ds.drop n) (vs.drop n)
  | 0, _, _, h => by simpa using h
  | _ + 1, [], _, h => by
    cases h
    simp [RepL]
  | n + 1, d :: ds, vs, h => by
    obtain ⟨v, r, e, h1, h2⟩ := h
    subst e
    simpa using RepL.drop n h2
theorem RepL.nil {R : RC} {H : Hp} : RepL R H [] [] := rfl
theorem RepL.cons {R : RC} {H : Hp} {d : D} {v : V} {ds : List D} {vs : List V} (h : Rep R H d v) (t : RepL R H ds vs) : RepL R H (d :: ds) (v :: vs) := ⟨v, vs, rfl, h, t⟩
theorem RepL.set {R : RC} {H : Hp} {d : D} {v : V} (h : Rep R H d v) : ∀ (i : Nat) {ds : List D} {vs : List V}, RepL R H ds vs → RepL R H (ds.set i d) (vs.set i v)
  | _, [], _, t => by
    cases t
    simp [RepL]
  | 0, d' :: ds, vs, t => by
    obtain ⟨v', r, e, h1, h2⟩ := t
    subst e
    exact ⟨v, r, rfl, h, h2⟩
  | i + 1, d' :: ds, vs, t => by
    obtain ⟨v', r, e, h1, h2⟩ := t
    subst e
    exact ⟨v', r.set i v, rfl, h1, RepL.set h i h2⟩

/-! ### what is visible, results -/
open Classical in
noncomputable def vis (H : Hp) (O : Addr → Prop) : Hp := fun a => if O a then none else H a
theorem vis_of {H : Hp} {O : Addr → Prop} {a : Addr} {o : HO} (h : H a = some o) (n : ¬ O a) : vis H O a = some o := by
  unfold vis
  rw [if_neg n]
  exact h
theorem of_vis {H : Hp} {O : Addr → Prop} {a : Addr} {o : HO} (h : vis H O a = some o) : H a = some o ∧ ¬ O a := by
  unfold vis at h
  by_cases q : O a
  · rw [if_pos q] at h
    cases h
  · rw [if_neg q] at h
    exact ⟨h, q⟩
theorem vis_sub {H : Hp} {O O' : Addr → Prop} (h : ∀ a, O' a → O a) : Sub (vis H O) (vis H O') := fun a o e _ => by
  obtain ⟨e1, e2⟩ := of_vis e
  exact vis_of e1 fun q => e2 (h a q)
theorem vis_all {H : Hp} {O : Addr → Prop} : Sub (vis H O) H := fun a o e _ => (of_vis e).1

abbrev Bw := Option (List Int)
inductive Wv where
  | val (d : D) | own (d : D)
def Wv.d : Wv → D
  | .val d => d
  | .own d => d
inductive Slot where
  | un | val (d : D) | own (d : D)
abbrev Sls := List Slot
def Wv.slot : Wv → Slot
  | .val d => .val d
  | .own d => .own d
inductive Res (α : Type) where
  | ok (a : α) (b : Bw) | err (c : Str) (fs : List D) (b : Bw) | bad
def Res.bind {α β : Type} (r : Res α) (f : α → Bw → Res β) : Res β := match r with
  | .ok a b => f a b
  | .err c fs b => .err c fs b
  | .bad => .bad
theorem Res.bind_ok {α β : Type} (a : α) (b : Bw) (f : α → Bw → Res β) : (Res.ok a b).bind f = f a b := rfl

/-- what stays over a call, an expression: all but the bowl -/
structure Ext (bo : Option Addr) (H H' : Hp) : Prop where
  keep : ∀ a o, H a = some o → bo ≠ some a → (∀ ps, o ≠ .tbl ps) → H' a = some o
  dom : ∀ a, H' a = none → H a = none
theorem Ext.refl {bo : Option Addr} (H : Hp) : Ext bo H H := ⟨fun _ _ h _ _ => h, fun _ h => h⟩
theorem Ext.trans {bo : Option Addr} {H H1 H2 : Hp} (a : Ext bo H H1) (b : Ext bo H1 H2) : Ext bo H H2 := ⟨fun c o h n m => b.keep c o (a.keep c o h n m) n m, fun c h => a.dom c (b.dom c h)⟩
theorem Ext.new {bo : Option Addr} {H : Hp} {p : Addr} {o : HO} (h : H p = none) : Ext bo H (upd H p o) :=
  ⟨fun a u e _ _ => by rw [upd_ne (ne_of_none e h)]; exact e, fun a e => by
    by_cases q : a = p
    · subst q
      exact h
    · rw [upd_ne q] at e
      exact e⟩
def BwOk (bo : Option Addr) (b : Bw) (H : Hp) : Prop := match bo, b with
  | some a, some l => H a = some (.lst (l.map V.int))
  | none, none => True
  | _, _ => False

/-- a new list, dict at a, its elements visible in Hv -/
def RepTop (R : RC) (H Hv : Hp) (d : D) (a : Addr) : Prop := match d with
  | .lst l => ∃ vs, H a = some (.lst vs) ∧ RepL R Hv l vs ∧ l.length ≤ LIM
  | .dct ks ds => ∃ vs, RepL R Hv ds vs ∧ ks.length ≤ LIM ∧
      ((∃ kk : List Key, H a = some (.dK (kk.zip vs)) ∧ ks = kk.map keyD ∧ kk.length = vs.length) ∨
       (∃ kk : List (List Key), H a = some (.dT (kk.zip vs)) ∧ ks = kk.map tkeyD ∧ kk.length = vs.length))
  | _ => False
def plus (O : Addr → Prop) (a : Addr) : Addr → Prop := fun b => O b ∨ b = a
def RepW (R : RC) (O : Addr → Prop) (H0 H' : Hp) : Wv → V → Prop
  | .val d, v => Rep R (vis H' O) d v
  | .own d, v => ∃ a, v = .ref a ∧ H0 a = none ∧ ¬ O a ∧ RepTop R H' (vis H' (plus O a)) d a

theorem RepTop.rep {R : RC} {H Hv Hv' : Hp} {d : D} {a : Addr} (h : RepTop R H Hv d a) (s : Sub Hv Hv') (ha : Hv' a = H a) : Rep R Hv' d (.ref a) := by
  cases d with
  | lst l =>
    obtain ⟨vs, h1, h2, h3⟩ := h
    exact ⟨a, vs, rfl, .inl (.inl (ha.trans h1)), RepL.mono s h2, h3⟩
  | dct ks ds =>
    obtain ⟨vs, h1, h2, h3⟩ := h
    refine ⟨a, vs, rfl, RepL.mono s h1, h2, ?_⟩
    rcases h3 with ⟨kk, q, r⟩ | ⟨kk, q, r⟩
    · exact .inl ⟨kk, .inl (ha.trans q), r⟩
    · exact .inr ⟨kk, .inl (ha.trans q), r⟩
  | _ => exact h.elim
theorem vis_at {H : Hp} {O : Addr → Prop} {a : Addr} (n : ¬ O a) : vis H O a = H a := by
  unfold vis
  rw [if_neg n]
/-- a new thing as a value -/
theorem RepW.rep {R : RC} {O : Addr → Prop} {H0 H' : Hp} {w : Wv} {v : V} (h : RepW R O H0 H' w v) : Rep R (vis H' O) w.d v := by
  cases w with
  | val d => exact h
  | own d =>
    obtain ⟨a, e, h0, hO, h1⟩ := h
    subst e
    exact h1.rep (vis_sub fun b q => .inl q) (vis_at hO)

/-! ### a body's parameters, the state -/
structure BP where
  R : RC
  T : List NdefX.NTab
  O : Addr → Prop
  He : Hp
  W : WX
  P : Hp
def ownO (O : Addr → Prop) (env : Sls) (σ : L2.St) : Addr → Prop := fun a => O a ∨ ∃ (i : Nat) (d : D), env[i]? = some (.own d) ∧ σ[i]? = some (some (.ref a))
structure Rel (B : BP) (env : Sls) (b : Bw) (σ : L2.St) (H : Hp) : Prop where
  len : env.length = σ.length
  val : ∀ (i : Nat) (d : D), env[i]? = some (.val d) → ∃ v, σ[i]? = some (some v) ∧ Rep B.R (vis H (ownO B.O env σ)) d v
  own : ∀ (i : Nat) (d : D), env[i]? = some (.own d) → ∃ a, σ[i]? = some (some (.ref a)) ∧ ¬ B.O a ∧ B.He a = none ∧ RepTop B.R H (vis H (ownO B.O env σ)) d a
  sep : ∀ (i j : Nat) (d e : D) (a : Addr), env[i]? = some (.own d) → env[j]? = some (.own e) → σ[i]? = some (some (.ref a)) → σ[j]? = some (some (.ref a)) → i = j
  bow : BwOk B.R.bo b H
  bO : ∀ a, B.R.bo = some a → B.O a
  odom : ∀ a, B.O a → ∃ o, H a = some o
  tab : NdefX.TabsN B.T H
  ext : Ext B.R.bo B.He H
  pin : Sub B.P (vis H (ownO B.O env σ))
section
variable {B : BP} {env : Sls} {b : Bw} {σ : L2.St} {H H' : Hp}
theorem RepTop.there {R : RC} {Hv : Hp} {d : D} {a : Addr} (h : RepTop R H Hv d a) : ∃ o, H a = some o ∧ ∀ ps, o ≠ .tbl ps := by
  cases d with
  | lst l =>
    obtain ⟨vs, h1, _⟩ := h
    exact ⟨_, h1, fun _ z => by cases z⟩
  | dct ks ds =>
    obtain ⟨vs, _, _, ⟨kk, q, _⟩ | ⟨kk, q, _⟩⟩ := h
    · exact ⟨_, q, fun _ z => by cases z⟩
    · exact ⟨_, q, fun _ z => by cases z⟩
  | _ => exact h.elim
theorem Rel.od (I : Rel B env b σ H) {a : Addr} (h : ownO B.O env σ a) : ∃ o, H a = some o := by
  rcases h with h | ⟨i, d, h1, h2⟩
  · exact I.odom a h
  · obtain ⟨a', e, _, _, r⟩ := I.own i d h1
    rw [h2] at e
    cases e
    obtain ⟨o, q, _⟩ := r.there
    exact ⟨o, q⟩
theorem Rel.bOO (I : Rel B env b σ H) {a : Addr} (h : B.R.bo = some a) : ownO B.O env σ a := .inl (I.bO a h)
/-- the visible part stays -/
theorem vis_ext {bo : Option Addr} {O : Addr → Prop} (x : Ext bo H H') (hb : ∀ a, bo = some a → O a) : Sub (vis H O) (vis H' O) := fun a o e n => by
  obtain ⟨e1, e2⟩ := of_vis e
  exact vis_of (x.keep a o e1 (fun q => e2 (hb a q)) n) e2
theorem RepTop.ext {bo : Option Addr} {R : RC} {Hv Hv' : Hp} {d : D} {a : Addr} (x : Ext bo H H') (na : bo ≠ some a) (s : Sub Hv Hv') (h : RepTop R H Hv d a) : RepTop R H' Hv' d a := by
  cases d with
  | lst l =>
    obtain ⟨vs, h1, h2, h3⟩ := h
    exact ⟨vs, x.keep a _ h1 na (fun _ z => by cases z), RepL.mono s h2, h3⟩
  | dct ks ds =>
    obtain ⟨vs, h1, h2, h3⟩ := h
    refine ⟨vs, RepL.mono s h1, h2, ?_⟩
    rcases h3 with ⟨kk, q, r⟩ | ⟨kk, q, r⟩
    · exact .inl ⟨kk, x.keep a _ q na (fun _ z => by cases z), r⟩
    · exact .inr ⟨kk, x.keep a _ q na (fun _ z => by cases z), r⟩
  | _ => exact h.elim
/-- the state behind an expression's part -/
theorem Rel.go {b' : Bw} (I : Rel B env b σ H) (x : Ext B.R.bo H H') (hb : BwOk B.R.bo b' H') (t : NdefX.TabsN B.T H') : Rel B env b' σ H' where
  len := I.len
  val := fun i d e => by
    obtain ⟨v, h1, h2⟩ := I.val i d e
    exact ⟨v, h1, h2.mono (vis_ext x fun a q => I.bOO q)⟩
  own := fun i d e => by
    obtain ⟨a, h1, h2, h3, h4⟩ := I.own i d e
    exact ⟨a, h1, h2, h3, h4.ext x (fun q => h2 (I.bO a q)) (vis_ext x fun a q => I.bOO q)⟩
  sep := I.sep
  bow := hb
  bO := I.bO
  odom := fun a h => by
    obtain ⟨o, e⟩ := I.odom a h
    cases q : H' a with
    | some o' => exact ⟨o', rfl⟩
    | none =>
      rw [x.dom a q] at e
      cases e
  tab := t
  ext := I.ext.trans x
  pin := I.pin.trans (vis_ext x fun a q => I.bOO q)
theorem RepW.go {R : RC} {O : Addr → Prop} {H0 : Hp} {w : Wv} {v : V} (h : RepW R O H0 H w v) (x : Ext R.bo H H') (hb : ∀ a, R.bo = some a → O a) : RepW R O H0 H' w v := by
  cases w with
  | val d => exact Rep.mono (vis_ext x hb) h
  | own d =>
    obtain ⟨a, e, h0, hO, h1⟩ := h
    exact ⟨a, e, h0, hO, h1.ext x (fun q => hO (hb a q)) (vis_ext x fun a q => .inl (hb a q))⟩
theorem RepW.back {R : RC} {O : Addr → Prop} {H0 H1 : Hp} {w : Wv} {v : V} (h : RepW R O H1 H w v) (x : ∀ a, H1 a = none → H0 a = none) : RepW R O H0 H w v := by
  cases w with
  | val d => exact h
  | own d =>
    obtain ⟨a, e, h0, hO, h1⟩ := h
    exact ⟨a, e, x a h0, hO, h1⟩
end

/-! ### readings -/
/-- an exception in the air: its class, its fields -/
def RepX (R : RC) (H : Hp) (c : Str) (fs : List D) (cls : Value) (d : Option Addr) : Prop :=
  ∃ C, R.mg c = some (.ref C) ∧ cls = .ref C ∧ match fs with
    | [] => d = none
    | _ => ∃ dd vs ns, d = some dd ∧ H dd = some (.xd (List.zip ns vs)) ∧ ns.length = fs.length ∧ RepL R H fs vs

abbrev Rho (α γ : Type) := RC → (Addr → Prop) → Hp → Hp → α → γ → Prop
def wpG {α γ : Type} (B : BP) (ρ : Rho α γ) (O : Addr → Prop) (H : Hp) (r : Res α) (σ : L2.St) (Q : γ → Hp → Prop) : Prop := match r with
  | .ok a b => ∀ x H', Ext B.R.bo H H' → BwOk B.R.bo b H' → NdefX.TabsN B.T H' → ρ B.R O H H' a x → Q x H'
  | .err c fs b => ∀ cls d H', Ext B.R.bo H H' → BwOk B.R.bo b H' → NdefX.TabsN B.T H' → RepX B.R (vis H' O) c fs cls d → B.W cls d σ H'
  | .bad => False
def rd {α γ : Type} (B : BP) (ρ : Rho α γ) (ev : Sls → Bw → Res α) : L2.St → Hp → (γ → Hp → Prop) → Prop := fun σ H Q =>
  ∃ env b, Rel B env b σ H ∧ wpG B ρ (ownO B.O env σ) H (ev env b) σ Q
def rhoB : Rho Bool Bool := fun _ _ _ _ a x => a = x
def rhoL : Rho (List D) (List V) := fun R O _ H' a x => RepL R (vis H' O) a x
abbrev Ev := Sls → Bw → Res Wv
abbrev EvT := Sls → Bw → Res Bool
abbrev EvA := Sls → Bw → Res (List D)
abbrev rdE (B : BP) (ev : Ev) : TE := rd B RepW ev
abbrev rdT (B : BP) (ev : EvT) : TT := rd B rhoB ev
abbrev rdA (B : BP) (ev : EvA) : TA := rd B rhoL ev
abbrev DE (B : BP) (X : Cx) (e : Expr) (ev : Ev) : Prop := PE X e (rdE B ev)
abbrev DT (B : BP) (X : Cx) (e : Expr) (ev : EvT) : Prop := PT X e (rdT B ev)
abbrev DA (B : BP) (X : Cx) (es : List Expr) (ev : EvA) : Prop := PA X es (rdA B ev)
/-- Rho's that stay -/
structure Stays {α γ : Type} (ρ : Rho α γ) : Prop where
  go : ∀ {R : RC} {O : Addr → Prop} {H0 H H' : Hp} {a : α} {x : γ}, ρ R O H0 H a x → Ext R.bo H H' → (∀ a, R.bo = some a → O a) → ρ R O H0 H' a x
  back : ∀ {R : RC} {O : Addr → Prop} {H0 H1 H : Hp} {a : α} {x : γ}, ρ R O H1 H a x → (∀ a, H1 a = none → H0 a = none) → ρ R O H0 H a x
theorem staysW : Stays RepW := ⟨RepW.go, RepW.back⟩
theorem staysB : Stays rhoB := ⟨fun h _ _ => h, fun h _ => h⟩
theorem staysL : Stays rhoL := ⟨fun h x hb => RepL.mono (vis_ext x hb) h, fun h _ => h⟩

theorem imp_PE {X : Cx} {e : Expr} {t u : TE} (h : PE X e t) (hi : ∀ σ H Q, u σ H Q → t σ H Q) : PE X e u := ⟨fun pins s σ H Q I q => h.run pins s σ H Q I (hi σ H Q q)⟩
theorem imp_PT {X : Cx} {e : Expr} {t u : TT} (h : PT X e t) (hi : ∀ σ H Q, u σ H Q → t σ H Q) : PT X e u := ⟨fun pins s σ H Q I q => h.run pins s σ H Q I (hi σ H Q q)⟩
theorem imp_PA {X : Cx} {e : List Expr} {t u : TA} (h : PA X e t) (hi : ∀ σ H Q, u σ H Q → t σ H Q) : PA X e u := ⟨fun pos pins s σ H Q I q => h.run pos pins s σ H Q I (hi σ H Q q)⟩

section
variable {B : BP} {α α1 α2 γ γ1 γ2 : Type} {ρ : Rho α γ} {ρ1 : Rho α1 γ1} {ρ2 : Rho α2 γ2} {σ : L2.St} {H : Hp} {Q : γ → Hp → Prop}
theorem wpG_err {O : Addr → Prop} {H1 : Hp} {c : Str} {fs : List D} {b : Bw} {Q' : γ1 → Hp → Prop} (h : wpG B ρ O H (.err c fs b) σ Q) (x : Ext B.R.bo H H1) : wpG B ρ1 O H1 (.err c fs b) σ Q' :=
  fun cls d H' e1 e2 e3 e4 => h cls d H' (x.trans e1) e2 e3 e4
/-- one part, then the rest -/
theorem rd_bind {ev : Sls → Bw → Res α1} {k : α1 → Sls → Bw → Res α} {Q1 : γ1 → Hp → Prop} (h : rd B ρ (fun env b => (ev env b).bind fun a b1 => k a env b1) σ H Q)
    (hq : ∀ env a b1 x H1, Rel B env b1 σ H1 → Ext B.R.bo H H1 → ρ1 B.R (ownO B.O env σ) H H1 a x → wpG B ρ (ownO B.O env σ) H (k a env b1) σ Q → Q1 x H1) : rd B ρ1 ev σ H Q1 := by
  obtain ⟨env, b, I, w⟩ := h
  refine ⟨env, b, I, ?_⟩
  have w : wpG B ρ (ownO B.O env σ) H ((ev env b).bind fun a b1 => k a env b1) σ Q := w
  cases e : ev env b with
  | ok a b1 =>
    rw [e] at w
    exact fun x H1 e1 e2 e3 e4 => hq env a b1 x H1 (I.go e1 e2 e3) e1 e4 w
  | err c fs b1 =>
    rw [e] at w
    exact wpG_err (ρ1 := ρ1) w (Ext.refl H)
  | bad =>
    rw [e] at w
    exact w.elim
/-- two parts, then the rest -/
theorem rd_bind2 {ev1 : Sls → Bw → Res α1} {ev2 : Sls → Bw → Res α2} {k : α1 → α2 → Sls → Bw → Res α} {Q2 : γ1 → γ2 → Hp → Prop} (s1 : Stays ρ1) (s2 : Stays ρ2)
    (h : rd B ρ (fun env b => (ev1 env b).bind fun a1 b1 => (ev2 env b1).bind fun a2 b2 => k a1 a2 env b2) σ H Q)
    (hq : ∀ env a1 a2 b2 x y H2, Rel B env b2 σ H2 → Ext B.R.bo H H2 → ρ1 B.R (ownO B.O env σ) H H2 a1 x → ρ2 B.R (ownO B.O env σ) H H2 a2 y → wpG B ρ (ownO B.O env σ) H (k a1 a2 env b2) σ Q → Q2 x y H2) :
    rd B ρ1 ev1 σ H fun x H1 => rd B ρ2 ev2 σ H1 fun y H2 => Q2 x y H2 := by
  refine rd_bind (k := fun a1 env b1 => (ev2 env b1).bind fun a2 b2 => k a1 a2 env b2) h fun env a1 b1 x H1 I1 x1 r1 w => ⟨env, b1, I1, ?_⟩
  have w : wpG B ρ (ownO B.O env σ) H ((ev2 env b1).bind fun a2 b2 => k a1 a2 env b2) σ Q := w
  cases e : ev2 env b1 with
  | ok a2 b2 =>
    rw [e] at w
    exact fun y H2 e1 e2 e3 e4 => hq env a1 a2 b2 x y H2 (I1.go e1 e2 e3) (x1.trans e1) (s1.go r1 e1 fun a q => I1.bOO q) (s2.back e4 x1.dom) w
  | err c fs b2 =>
    rw [e] at w
    exact wpG_err (ρ1 := ρ2) w x1
  | bad =>
    rw [e] at w
    exact w.elim
/-- the end: a value told -/
theorem wpG_ok {O : Addr → Prop} {a : α} {b : Bw} {x : γ} {H1 : Hp} (w : wpG B ρ O H (.ok a b) σ Q) (e1 : Ext B.R.bo H H1) (e2 : BwOk B.R.bo b H1) (e3 : NdefX.TabsN B.T H1) (e4 : ρ B.R O H H1 a x) : Q x H1 := w x H1 e1 e2 e3 e4
end
end DL

set_option Elab.async false
set_option linter.all false
set_option maxRecDepth 100000
set_option maxHeartbeats 4000000
namespace DL
open PySem PySem.Spec PyProof.Rows L2

/-! ### expressions: names, constants, operators by values -/
def dVar (i : Nat) : Ev := fun env b => match env[i]? with
  | some (.val d) => .ok (.val d) b
  | _ => .bad
def dC (d : D) : Ev := fun _ b => .ok (.val d) b
section
variable {B : BP} {X : Cx} {e a c : Expr} {es : List Expr} {ea eb ec : Ev} {pos p : Pos}
theorem rd_var {i : Nat} {σ : L2.St} {H : Hp} {Q : VK} (h : rdE B (dVar i) σ H Q) : tVar i σ H Q := by
  obtain ⟨env, b, I, w⟩ := h
  unfold dVar at w
  cases e : env[i]? with
  | none =>
    rw [e] at w
    exact False.elim w
  | some s =>
    rw [e] at w
    cases s with
    | val d =>
      obtain ⟨v, h1, h2⟩ := I.val i d e
      exact ⟨v, h1, w v H (Ext.refl H) I.bow I.tab h2⟩
    | un => exact False.elim w
    | own d => exact False.elim w
theorem de_var (i : Nat) {x : Str} (hN : X.N[i]? = some x := by rfl) (hv : Vis X.env.scope x := by first | exact Or.inl rfl | exact Or.inr (Or.inl rfl) | exact Or.inr (Or.inr rfl)) (hd : (x == ("__debug__" : Str)) = false := by decide)
    (hcd : (x == ("__classdict__" : Str)) = false := by decide) : DE B X (.Name x pos) (dVar i) := imp_PE (pe_var hN hv hd hcd) fun _ _ _ => rd_var
theorem rd_const {d : D} {v : V} (r : ∀ H, Rep B.R H d v) {σ : L2.St} {H : Hp} {Q : VK} (h : rdE B (dC d) σ H Q) : tC v σ H Q := by
  obtain ⟨env, b, I, w⟩ := h
  exact w v H (Ext.refl H) I.bow I.tab (r _)
theorem de_int {i : Int} {j : Nat} : DE B X (.Constant (.int i) j pos) (dC (.int i)) := imp_PE pe_int fun _ _ _ => rd_const (d := .int i) (v := .int i) fun _ => rfl
theorem de_bl {b : Bool} {j : Nat} : DE B X (.Constant (.bool b) j pos) (dC (.bl b)) := imp_PE pe_bl fun _ _ _ => rd_const (d := .bl b) (v := .bl b) fun _ => rfl
theorem de_non {j : Nat} : DE B X (.Constant .none j pos) (dC .non) := imp_PE pe_non fun _ _ _ => rd_const (d := .non) (v := .non) fun _ => rfl
theorem de_str {x : Str} {j : Nat} (h : okS x = true := by decide +kernel) : DE B X (.Constant (.str x) j pos) (dC (.str x)) := imp_PE pe_str fun _ _ _ => rd_const (d := .str x) (v := .str x) fun _ => ⟨rfl, h⟩
/-- a module's name: a def, a class as a value; a constant -/
theorem de_glo {x : Str} {f : Addr} (hg : Gl X x) (hm : X.mg x = some (.ref f)) (hR : B.R.mg = X.mg := by rfl) (hd : (x == ("__debug__" : Str)) = false := by decide) : DE B X (.Name x pos) (dC (.glo x)) :=
  imp_PE (pe_glob (v := .ref f) hg hm rfl hd) fun _ _ _ => rd_const (d := .glo x) (v := .ref f) fun _ => ⟨f, rfl, by rw [hR]; exact hm⟩
theorem de_gcon {x : Str} {d : D} {v : V} {u : Value} (hg : Gl X x) (hm : X.mg x = some u) (r : RelV v u) (hr : ∀ H, Rep B.R H d v) (hd : (x == ("__debug__" : Str)) = false := by decide) : DE B X (.Name x pos) (dC d) :=
  imp_PE (pe_glob (v := v) hg hm r hd) fun _ _ _ => rd_const hr
theorem de_ty {x : Str} {n : String} (hg : Gl X x) (hm : X.mg x = none) (hv : bootBuiltins x = some (.type n)) (hn : x ≠ "__name__" := by decide) (hd : (x == ("__debug__" : Str)) = false := by decide) : DE B X (.Name x pos) (dC (.ty n)) :=
  imp_PE (pe_bltn (v := .ty n) hg hm hv rfl hn hd) fun _ _ _ => rd_const (d := .ty n) (v := .ty n) fun _ => rfl

/-! ### values in, a value out -/
abbrev Nw (R : RC) (O : Addr → Prop) (H : Hp) (w : Wv) (Q : VK) : Prop := ∀ v H', Same H H' → RepW R O H H' w v → Q v H'
def H2ok (R : RC) (f : D → D → Option Wv) (r : R2) : Prop := ∀ d1 d2 w x y H O (Q : VK), f d1 d2 = some w → (∀ a, H a = none → ¬ O a) → Rep R (vis H O) d1 x → Rep R (vis H O) d2 y → Nw R O H w Q → r x y H Q
def H1ok (R : RC) (f : D → Option Wv) (r : V → Hp → VK → Prop) : Prop := ∀ d1 w x H O (Q : VK), f d1 = some w → (∀ a, H a = none → ¬ O a) → Rep R (vis H O) d1 x → Nw R O H w Q → r x H Q
def HLok (R : RC) (f : List D → Option Wv) (r : List V → Hp → VK → Prop) : Prop := ∀ ds w vs H O (Q : VK), f ds = some w → (∀ a, H a = none → ¬ O a) → RepL R (vis H O) ds vs → Nw R O H w Q → r vs H Q
theorem same_ext {bo : Option Addr} {H H' : Hp} (s : Same H H') : Ext bo H H' := ⟨fun a o h _ _ => s a o h, fun a h => s.free h⟩
theorem bw_same {bo : Option Addr} {b : Bw} {H H' : Hp} (h : BwOk bo b H) (s : Same H H') : BwOk bo b H' := by
  cases bo <;> cases b <;> first | exact h | exact s _ _ h
theorem tabs_same {T : List NdefX.NTab} {H H' : Hp} (h : NdefX.TabsN T H) (s : Same H H') : NdefX.TabsN T H' := h.ext s
def optR (o : Option Wv) (b : Bw) : Res Wv := match o with
  | some w => .ok w b
  | none => .bad
theorem nw_of {env : Sls} {b : Bw} {σ : L2.St} {H0 H : Hp} {w : Wv} {Q : VK} (I : Rel B env b σ H) (x : Ext B.R.bo H0 H) (q : wpG B RepW (ownO B.O env σ) H0 (.ok w b) σ Q) : Nw B.R (ownO B.O env σ) H w Q :=
  fun v H' s r => q v H' (x.trans (same_ext s)) (bw_same I.bow s) (tabs_same I.tab s) (r.back x.dom)
theorem Rel.nod {env : Sls} {b : Bw} {σ : L2.St} {H : Hp} (I : Rel B env b σ H) : ∀ a, H a = none → ¬ ownO B.O env σ a := fun a h q => by
  obtain ⟨o, e⟩ := I.od q
  rw [h] at e
  cases e
def dOp2 (f : D → D → Option Wv) (ea eb : Ev) : Ev := fun env b => (ea env b).bind fun a1 b1 => (eb env b1).bind fun a2 b2 => optR (f a1.d a2.d) b2
def dOp1 (f : D → Option Wv) (ea : Ev) : Ev := fun env b => (ea env b).bind fun a1 b1 => optR (f a1.d) b1
def dOpL (f : List D → Option Wv) (ea : EvA) : Ev := fun env b => (ea env b).bind fun a1 b1 => optR (f a1) b1
theorem rd_op2 {f : D → D → Option Wv} {r : R2} (hk : H2ok B.R f r) {σ : L2.St} {H : Hp} {Q : VK} (h : rdE B (dOp2 f ea eb) σ H Q) : tOp r (rdE B ea) (rdE B eb) σ H Q := by
  refine rd_bind2 (k := fun a1 a2 _ b2 => optR (f a1.d a2.d) b2) staysW staysW h fun env a1 a2 b2 x y H2 I2 x2 r1 r2 w => ?_
  cases e : f a1.d a2.d with
  | none =>
    rw [e] at w
    exact False.elim w
  | some v =>
    rw [e] at w
    exact hk _ _ v x y H2 _ Q e I2.nod r1.rep r2.rep (nw_of I2 x2 w)
theorem rd_op1 {f : D → Option Wv} {r : V → Hp → VK → Prop} (hk : H1ok B.R f r) {σ : L2.St} {H : Hp} {Q : VK} (h : rdE B (dOp1 f ea) σ H Q) : rdE B ea σ H fun x H1 => r x H1 Q := by
  refine rd_bind (k := fun a1 _ b1 => optR (f a1.d) b1) h fun env a1 b1 x H1 I1 x1 r1 w => ?_
  cases e : f a1.d with
  | none =>
    rw [e] at w
    exact False.elim w
  | some v =>
    rw [e] at w
    exact hk _ v x H1 _ Q e I1.nod r1.rep (nw_of I1 x1 w)
theorem rd_opL {A : EvA} {f : List D → Option Wv} {r : List V → Hp → VK → Prop} (hk : HLok B.R f r) {σ : L2.St} {H : Hp} {Q : VK} (h : rdE B (dOpL f A) σ H Q) : rdA B A σ H fun x H1 => r x H1 Q := by
  refine rd_bind (k := fun a1 _ b1 => optR (f a1) b1) h fun env a1 b1 x H1 I1 x1 r1 w => ?_
  cases e : f a1 with
  | none =>
    rw [e] at w
    exact False.elim w
  | some v =>
    rw [e] at w
    exact hk _ v x H1 _ Q e I1.nod r1 (nw_of I1 x1 w)
theorem de_bin {op : Operator} {f : D → D → Option Wv} {r : R2} (ho : OpR X (binaryOp op) r) (hk : H2ok B.R f r) (ha : DE B X a ea) (hb : DE B X c eb) : DE B X (.BinOp a op c pos) (dOp2 f ea eb) :=
  imp_PE (pe_op ho ha hb) fun _ _ _ => rd_op2 hk
theorem de_cmp {op : CmpOp} {f : D → D → Option Wv} {r : R2} (ho : OpR X (compareOp op) r) (hk : H2ok B.R f r) (ha : DE B X a ea) (hb : DE B X c eb) (hm : behindInMarks op c = false := by first | exact nomark _ | rfl) : DE B X (.Compare a [op] [c] pos) (dOp2 f ea eb) :=
  imp_PE (pe_cmpR ho ha hb hm) fun _ _ _ => rd_op2 hk
theorem de_un {op : UnaryOp} {f : D → Option Wv} {r : V → Hp → VK → Prop} (ho : UnR X (unaryOp op) r) (hk : H1ok B.R f r) (ha : DE B X a ea) : DE B X (.UnaryOp op a pos) (dOp1 f ea) :=
  imp_PE (pe_un ho ha) fun _ _ _ => rd_op1 hk
theorem de_ix {f : D → D → Option Wv} {r : R2} (ho : IxR X r) (hk : H2ok B.R f r) (ha : DE B X a ea) (hb : DE B X c eb) (hs : PlainIx c := by exact fun _ _ => rfl) : DE B X (.Subscript a c pos) (dOp2 f ea eb) :=
  imp_PE (pe_ix ho ha hb hs) fun _ _ _ => rd_op2 hk

/-! ### tests -/
def dTst (ev : Ev) : EvT := fun env b => (ev env b).bind fun w b1 => match w.d with
  | .bl c => .ok c b1
  | _ => .bad
theorem rd_tst {ev : Ev} {σ : L2.St} {H : Hp} {Q : Bool → Hp → Prop} (h : rdT B (dTst ev) σ H Q) : rdE B ev σ H fun x H' => ∃ k, x = .bl k ∧ Q k H' := by
  refine rd_bind (k := fun w _ b1 => match w.d with | .bl c => .ok c b1 | _ => .bad) h fun env a1 b1 x H1 I1 x1 r1 w => ?_
  have r := r1.rep
  cases e : a1.d with
  | bl c =>
    rw [e] at r w
    have w : wpG B rhoB (ownO B.O env σ) H (.ok c b1) σ Q := w
    exact ⟨c, r, w c H1 x1 I1.bow I1.tab rfl⟩
  | _ =>
    rw [e] at w
    exact False.elim w
theorem dt_cmp {op : CmpOp} {f : D → D → Option Wv} {r : R2} (ho : OpR X (compareOp op) r) (hk : H2ok B.R f r) (ha : DE B X a ea) (hb : DE B X c eb) (hm : behindInMarks op c = false := by first | exact nomark _ | rfl) : DT B X (.Compare a [op] [c] pos) (dTst (dOp2 f ea eb)) :=
  imp_PT (pt_cmpR ho ha hb hm) fun σ H Q h => rd_op2 hk (rd_tst h)
theorem dt_val {ev : Ev} (h : DE B X e ev) (he : ∀ whole, isTrue e X.env whole = (do let v ← whole; standAt e.pos; holding [v] (truthy v)) := by intro _; rfl) : DT B X e (dTst ev) :=
  imp_PT (pt_val h he) fun σ H Q h => rd_tst h
def dAnd (t u : EvT) : EvT := fun env b => (t env b).bind fun c b1 => if c = true then u env b1 else .ok false b1
def dOr (t u : EvT) : EvT := fun env b => (t env b).bind fun c b1 => if c = true then .ok true b1 else u env b1
def dNot (t : EvT) : EvT := fun env b => (t env b).bind fun c b1 => .ok (!c) b1
/-- a branch behind a part: the rest as a reading of its own -/
theorem rd_rest {α γ : Type} {ρ : Rho α γ} (s : Stays ρ) {ev : Sls → Bw → Res α} {env : Sls} {b : Bw} {σ : L2.St} {H0 H : Hp} {Q : γ → Hp → Prop} (I : Rel B env b σ H) (x : Ext B.R.bo H0 H) (w : wpG B ρ (ownO B.O env σ) H0 (ev env b) σ Q) : rd B ρ ev σ H Q := by
  refine ⟨env, b, I, ?_⟩
  cases e : ev env b with
  | ok a b1 =>
    rw [e] at w
    exact fun y H' e1 e2 e3 e4 => w y H' (x.trans e1) e2 e3 (s.back e4 x.dom)
  | err c fs b1 =>
    rw [e] at w
    exact fun cls d H' e1 e2 e3 e4 => w cls d H' (x.trans e1) e2 e3 e4
  | bad =>
    rw [e] at w
    exact False.elim w
abbrev DW (B : BP) (X : Cx) (e : Expr) (ev : EvT) : Prop := PW X e (rdT B ev)
theorem imp_PW {X : Cx} {e : Expr} {t u : TT} (h : PW X e t) (hi : ∀ σ H Q, u σ H Q → t σ H Q) : PW X e u := ⟨fun wh pins s σ H Q I q => h.run wh pins s σ H Q I (hi σ H Q q)⟩
variable {tA tB : EvT} {rest : List Expr}
theorem rd_and {σ : L2.St} {H : Hp} {Q : Bool → Hp → Prop} (h : rdT B (dAnd tA tB) σ H Q) : tAnd (rdT B tA) (rdT B tB) σ H Q := by
  refine rd_bind (ρ1 := rhoB) (k := fun c env b1 => if c = true then tB env b1 else .ok false b1) h fun env c b1 x H1 I1 x1 r1 w => ?_
  cases (show c = x from r1)
  cases c with
  | true => exact rd_rest staysB I1 x1 w
  | false =>
    rw [if_neg Bool.false_ne_true]
    exact wpG_ok (x := false) w x1 I1.bow I1.tab rfl
theorem rd_or {σ : L2.St} {H : Hp} {Q : Bool → Hp → Prop} (h : rdT B (dOr tA tB) σ H Q) : tOr (rdT B tA) (rdT B tB) σ H Q := by
  refine rd_bind (ρ1 := rhoB) (k := fun c env b1 => if c = true then .ok true b1 else tB env b1) h fun env c b1 x H1 I1 x1 r1 w => ?_
  cases (show c = x from r1)
  cases c with
  | false => exact rd_rest staysB I1 x1 w
  | true =>
    rw [if_pos rfl]
    exact wpG_ok (x := true) w x1 I1.bow I1.tab rfl
theorem rd_not {σ : L2.St} {H : Hp} {Q : Bool → Hp → Prop} (h : rdT B (dNot tA) σ H Q) : tNot (rdT B tA) σ H Q := by
  refine rd_bind (ρ1 := rhoB) (k := fun c env b1 => .ok (!c) b1) h fun env c b1 x H1 I1 x1 r1 w => ?_
  cases (show c = x from r1)
  exact wpG_ok (x := !c) w x1 I1.bow I1.tab rfl
theorem dw_and1 (ha : DT B X a tA) : DW B X (.BoolOp .And [a] pos) tA := pw_and1 ha
theorem dw_or1 (ha : DT B X a tA) : DW B X (.BoolOp .Or [a] pos) tA := pw_or1 ha
theorem dw_and (ha : DT B X a tA) (hb : DW B X (.BoolOp .And (c :: rest) pos) tB) : DW B X (.BoolOp .And (a :: c :: rest) pos) (dAnd tA tB) := imp_PW (pw_and ha hb) fun _ _ _ => rd_and
theorem dw_or (ha : DT B X a tA) (hb : DW B X (.BoolOp .Or (c :: rest) pos) tB) : DW B X (.BoolOp .Or (a :: c :: rest) pos) (dOr tA tB) := imp_PW (pw_or ha hb) fun _ _ _ => rd_or
theorem dt_not (ha : DT B X a tA) : DT B X (.UnaryOp .Not a pos) (dNot tA) := imp_PT (pt_not ha) fun _ _ _ => rd_not

/-! ### and, or, not as values -/
def dAndV (ea eb : Ev) : Ev := fun env b => (ea env b).bind fun w b1 => match w.d with
  | .bl c => if c = true then eb env b1 else .ok (.val (.bl false)) b1
  | _ => .bad
def dOrV (ea eb : Ev) : Ev := fun env b => (ea env b).bind fun w b1 => match w.d with
  | .bl c => if c = true then .ok (.val (.bl true)) b1 else eb env b1
  | _ => .bad
def dNotV (ea : Ev) : Ev := dOp1 (fun d => match d with | .bl c => some (.val (.bl (!c))) | _ => none) ea
theorem rd_andV {σ : L2.St} {H : Hp} {Q : VK} (h : rdE B (dAndV ea eb) σ H Q) : tAndV (rdE B ea) (rdE B eb) σ H Q := by
  refine rd_bind (k := fun w env b1 => match w.d with | .bl c => if c = true then eb env b1 else .ok (.val (.bl false)) b1 | _ => .bad) h fun env a1 b1 x H1 I1 x1 r1 w => ?_
  have r := r1.rep
  cases e : a1.d with
  | bl c =>
    rw [e] at r w
    refine ⟨c, r, ?_⟩
    cases c with
    | true => exact rd_rest staysW I1 x1 w
    | false =>
      rw [if_neg Bool.false_ne_true]
      exact wpG_ok (x := V.bl false) w x1 I1.bow I1.tab rfl
  | _ =>
    rw [e] at w
    exact False.elim w
theorem rd_orV {σ : L2.St} {H : Hp} {Q : VK} (h : rdE B (dOrV ea eb) σ H Q) : tOrV (rdE B ea) (rdE B eb) σ H Q := by
  refine rd_bind (k := fun w env b1 => match w.d with | .bl c => if c = true then .ok (.val (.bl true)) b1 else eb env b1 | _ => .bad) h fun env a1 b1 x H1 I1 x1 r1 w => ?_
  have r := r1.rep
  cases e : a1.d with
  | bl c =>
    rw [e] at r w
    refine ⟨c, r, ?_⟩
    cases c with
    | false => exact rd_rest staysW I1 x1 w
    | true =>
      rw [if_pos rfl]
      exact wpG_ok (x := V.bl true) w x1 I1.bow I1.tab rfl
  | _ =>
    rw [e] at w
    exact False.elim w
theorem de_one {op : BoolOp} (h : DE B X a ea) : DE B X (.BoolOp op [a] pos) ea := pe_one h
theorem de_and (ha : DE B X a ea) (hb : DE B X (.BoolOp .And (c :: rest) pos) eb) : DE B X (.BoolOp .And (a :: c :: rest) pos) (dAndV ea eb) := imp_PE (pe_and ha hb) fun _ _ _ => rd_andV
theorem de_or (ha : DE B X a ea) (hb : DE B X (.BoolOp .Or (c :: rest) pos) eb) : DE B X (.BoolOp .Or (a :: c :: rest) pos) (dOrV ea eb) := imp_PE (pe_or ha hb) fun _ _ _ => rd_orV
theorem de_not (ha : DE B X a ea) : DE B X (.UnaryOp .Not a pos) (dNotV ea) := imp_PE (pe_not ha) fun σ H Q h =>
  rd_op1 (f := fun d => match d with | .bl c => some (.val (.bl (!c))) | _ => none) (r := fun x H1 Q => ∃ c, x = .bl c ∧ Q (.bl (!c)) H1) (fun d w x H O Q e _ r q => by
    cases d with
    | bl c =>
      cases e
      exact ⟨c, r, q _ H (Same.refl H) rfl⟩
    | _ => cases e) h
def dIf (t : EvT) (ea eb : Ev) : Ev := fun env b => (t env b).bind fun c b1 => if c = true then ea env b1 else eb env b1
theorem rd_if {σ : L2.St} {H : Hp} {Q : VK} (h : rdE B (dIf tA ea eb) σ H Q) : tIf (rdT B tA) (rdE B ea) (rdE B eb) σ H Q := by
  refine rd_bind (ρ1 := rhoB) (k := fun c env b1 => if c = true then ea env b1 else eb env b1) h fun env c b1 x H1 I1 x1 r1 w => ?_
  cases (show c = x from r1)
  cases c with
  | true => exact rd_rest staysW I1 x1 w
  | false => exact rd_rest staysW I1 x1 w
theorem de_ifx {t : Expr} (ht : DT B X t tA) (ha : DE B X a ea) (hb : DE B X c eb) : DE B X (.IfExp t a c pos) (dIf tA ea eb) := imp_PE (pe_ifExp ht ha hb) fun _ _ _ => rd_if

/-! ### argument lists, displays -/
def dNil : EvA := fun _ b => .ok [] b
def dCons (ea : Ev) (er : EvA) : EvA := fun env b => (ea env b).bind fun a1 b1 => (er env b1).bind fun r b2 => .ok (a1.d :: r) b2
theorem da_nil : DA B X [] dNil := imp_PA pa_nil fun σ H Q h => by
  obtain ⟨env, b, I, w⟩ := h
  exact wpG_ok (x := ([] : List V)) w (Ext.refl H) I.bow I.tab rfl
theorem da_cons {A : EvA} (ha : DE B X e ea) (hr : DA B X es A) (hs : starEach (e :: es) X.env = (false, eval e X.env) :: starEach es X.env := by rfl) : DA B X (e :: es) (dCons ea A) :=
  imp_PA (pa_cons ha hr hs) fun σ H Q h =>
    rd_bind2 (k := fun a1 r _ b2 => .ok (a1.d :: r) b2) staysW staysL h fun env a1 a2 b2 x y H2 I2 x2 r1 r2 w => wpG_ok (x := x :: y) w x2 I2.bow I2.tab (RepL.cons r1.rep r2)
def fTup (ds : List D) : Option Wv := if ds.length ≤ LIM then some (.val (.tup ds)) else none
def fLst (ds : List D) : Option Wv := if ds.length ≤ LIM then some (.own (.lst ds)) else none
theorem small_lim {n : Nat} (h : n ≤ LIM) : n ≤ sizeLine := Nat.le_trans h (Nat.le_of_lt lim_line)
/-- a new tuple -/
theorem new_tup {R : RC} {H : Hp} {O : Addr → Prop} {ds : List D} {vs : List V} {p : Addr} (od : ∀ a, H a = none → ¬ O a) (r : RepL R (vis H O) ds vs) (hl : ds.length ≤ LIM) (hp : H p = none) : RepW R O H (upd H p (.tup vs)) (.val (.tup ds)) (.ref p) :=
  ⟨p, vs, rfl, .inl (.inl (vis_of upd_same (od p hp))), r.mono (vis_ext (Ext.new (bo := none) hp) fun a q => by cases q), hl⟩
theorem new_lst {R : RC} {H : Hp} {O : Addr → Prop} {ds : List D} {vs : List V} {p : Addr} (od : ∀ a, H a = none → ¬ O a) (r : RepL R (vis H O) ds vs) (hl : ds.length ≤ LIM) (hp : H p = none) : RepW R O H (upd H p (.lst vs)) (.own (.lst ds)) (.ref p) :=
  ⟨p, rfl, hp, od p hp, vs, upd_same, r.mono fun a o e _ => by
    obtain ⟨e1, e2⟩ := of_vis e
    have ne := ne_of_none e1 hp
    exact vis_of (show upd H p (.lst vs) a = some o by rw [upd_ne ne]; exact e1) fun q => q.elim e2 ne, hl⟩
theorem same_upd {H : Hp} {p : Addr} {o : HO} (h : H p = none) : Same H (upd H p o) := fun b x e => by
  rw [upd_ne (ne_of_none e h)]
  exact e
theorem hl_tup {R : RC} : HLok R fTup fun xs H1 Q => xs.length ≤ sizeLine ∧ ∀ p, H1 p = none → Q (.ref p) (upd H1 p (.tup xs)) := fun ds w vs H O Q e od r q => by
  unfold fTup at e
  split at e
  · rename_i hl
    cases e
    exact ⟨by rw [← r.length]; exact small_lim hl, fun p hp => q _ _ (same_upd hp) (new_tup od r hl hp)⟩
  · cases e
theorem hl_lst {R : RC} : HLok R fLst fun xs H1 Q => xs.length ≤ sizeLine ∧ ∀ p, H1 p = none → Q (.ref p) (upd H1 p (.lst xs)) := fun ds w vs H O Q e od r q => by
  unfold fLst at e
  split at e
  · rename_i hl
    cases e
    exact ⟨by rw [← r.length]; exact small_lim hl, fun p hp => q _ _ (same_upd hp) (new_lst od r hl hp)⟩
  · cases e
theorem de_tup {A : EvA} {k : Nat} (h : DA B X es A) : DE B X (.Tuple es k pos) (dOpL fTup A) := imp_PE (pe_tup h) fun σ H Q h => rd_opL hl_tup h
theorem de_lst {A : EvA} (h : DA B X es A) : DE B X (.List es pos) (dOpL fLst A) := imp_PE (pe_lst h) fun σ H Q h => rd_opL hl_lst h

/-! ### built-ins -/
variable {x : Str} {id T : String} {r : List V → Hp → VK → Prop} {f : List D → Option Wv}
theorem de_callB {A : EvA} (hc : CallR X (.builtin id) r) (hk : HLok B.R f r) (hg : Gl X x) (hm : X.mg x = none) (hv : bootBuiltins x = some (.builtin id)) (ha : DA B X (e :: es) A) (hn : x ≠ "__name__" := by decide) (hdb : (x == ("__debug__" : Str)) = false := by decide)
    (he : starEach (e :: es) X.env = (false, eval e X.env) :: starEach es X.env := by rfl) (hpl : (backTo pos (starEach es X.env)).any (·.1) = false := by rfl) : DE B X (.Call (.Name x p) (e :: es) [] pos) (dOpL f A) :=
  imp_PE (pe_callB hc hg hm hv ha hn hdb he hpl) fun σ H Q h => rd_opL hk h
theorem de_callTy {A : EvA} (hc : CallR X (.type T) r) (hk : HLok B.R f r) (hg : Gl X x) (hm : X.mg x = none) (hv : bootBuiltins x = some (.type T)) (ha : DA B X (e :: es) A) (hn : x ≠ "__name__" := by decide) (hdb : (x == ("__debug__" : Str)) = false := by decide)
    (he : starEach (e :: es) X.env = (false, eval e X.env) :: starEach es X.env := by rfl) (hpl : (backTo pos (starEach es X.env)).any (·.1) = false := by rfl) : DE B X (.Call (.Name x p) (e :: es) [] pos) (dOpL f A) :=
  imp_PE (pe_callTy hc hg hm hv ha hn hdb he hpl) fun σ H Q h => rd_opL hk h
theorem de_callF {A : EvA} (hc : CallR X (.builtin id) r) (hk : HLok B.R f r) (hg : Gl X x) (hm : X.mg x = some (.builtin id)) (ha : DA B X (e :: es) A) (hdb : (x == ("__debug__" : Str)) = false := by decide)
    (he : starEach (e :: es) X.env = (false, eval e X.env) :: starEach es X.env := by rfl) (hpl : (backTo pos (starEach es X.env)).any (·.1) = false := by rfl) : DE B X (.Call (.Name x p) (e :: es) [] pos) (dOpL f A) :=
  imp_PE (pe_callBfun hc hg hm ha hdb he hpl) fun σ H Q h => rd_opL hk h
end
end DL

set_option Elab.async false
set_option linter.all false
set_option maxRecDepth 100000
set_option maxHeartbeats 4000000
namespace DL
open PySem PySem.Spec PyProof.Rows L2

/-! ### ints -/
def vI (i : Int) : Option Wv := some (.val (.int i))
def vB (b : Bool) : Option Wv := some (.val (.bl b))
def fI2 (g : Int → Int → Option Wv) (x y : D) : Option Wv := match x, y with
  | .int i, .int j => g i j
  | _, _ => none
theorem h2_rI {R : RC} {C : Int → Int → Prop} {g : Int → Int → V} {f : Int → Int → Option Wv} (hf : ∀ i j w, f i j = some w → C i j ∧ ∃ d, w = .val d ∧ ∀ H, Rep R H d (g i j)) : H2ok R (fI2 f) (rI C g) := fun d1 d2 w x y H O Q e od r1 r2 q => by
  cases d1 with
  | int i =>
    cases d2 with
    | int j =>
      obtain ⟨hc, d, rfl, hr⟩ := hf i j w e
      exact ⟨i, j, r1, r2, hc, q _ H (Same.refl H) (hr _)⟩
    | _ => cases e
  | _ => cases e
theorem h2_rI0 {R : RC} {g : Int → Int → V} {f : Int → Int → Option Wv} (hf : ∀ i j w, f i j = some w → ∃ d, w = .val d ∧ ∀ H, Rep R H d (g i j)) : H2ok R (fI2 f) (rI0 g) := fun d1 d2 w x y H O Q e od r1 r2 q => by
  cases d1 with
  | int i =>
    cases d2 with
    | int j =>
      obtain ⟨d, rfl, hr⟩ := hf i j w e
      exact ⟨i, j, r1, r2, q _ H (Same.refl H) (hr _)⟩
    | _ => cases e
  | _ => cases e
def fAdd : D → D → Option Wv := fI2 fun i j => vI (i + j)
def fSub : D → D → Option Wv := fI2 fun i j => vI (i - j)
def mulOk (i j : Int) : Bool := decide (i.natAbs.log2 + j.natAbs.log2 < 1000000)
def divOk (j : Int) : Bool := decide (j ≠ 0) && decide (j.natAbs.log2 < 9000)
def powOk (i j : Int) : Bool := decide (0 ≤ j) && (decide (j ≤ 1000) && decide (i.natAbs < 1000))
def fMul : D → D → Option Wv := fI2 fun i j => if mulOk i j then vI (i * j) else none
def fDiv : D → D → Option Wv := fI2 fun i j => if divOk j then vI (i.fdiv j) else none
def fMod : D → D → Option Wv := fI2 fun i j => if j = 0 then none else vI (i.fmod j)
def fPow : D → D → Option Wv := fI2 fun i j => if powOk i j then vI (i ^ j.toNat) else none
def fLt : D → D → Option Wv := fI2 fun i j => vB (decide (i < j))
def fLe : D → D → Option Wv := fI2 fun i j => vB (decide (i ≤ j))
def fGt : D → D → Option Wv := fI2 fun i j => vB (decide (j < i))
def fGe : D → D → Option Wv := fI2 fun i j => vB (decide (j ≤ i))
theorem rep_vI {R : RC} {i : Int} {w : Wv} (h : vI i = some w) : ∃ d, w = .val d ∧ ∀ H, Rep R H d (.int i) := by
  cases h
  exact ⟨_, rfl, fun _ => rfl⟩
theorem rep_vB {R : RC} {i : Bool} {w : Wv} (h : vB i = some w) : ∃ d, w = .val d ∧ ∀ H, Rep R H d (.bl i) := by
  cases h
  exact ⟨_, rfl, fun _ => rfl⟩
section
variable {B : BP} {X : Cx} {a c e : Expr} {ea eb : Ev} {pos p : Pos}
theorem op_fdivW2 : OpR X (binaryOp .FloorDiv) (rI (fun _ j => j ≠ 0 ∧ j.natAbs.log2 < 9000) fun i j => .int (i.fdiv j)) := opI fun i j _ _ _ _ _ hc q => floordiv_int hc.1 q (.inl (PyProof.noPylong_of_log2 hc.2))
theorem de_add (ha : DE B X a ea) (hb : DE B X c eb) : DE B X (.BinOp a .Add c pos) (dOp2 fAdd ea eb) := de_bin op_add (h2_rI0 fun i j w h => rep_vI h) ha hb
theorem de_sub (ha : DE B X a ea) (hb : DE B X c eb) : DE B X (.BinOp a .Sub c pos) (dOp2 fSub ea eb) := de_bin op_sub (h2_rI0 fun i j w h => rep_vI h) ha hb
theorem de_mul (ha : DE B X a ea) (hb : DE B X c eb) : DE B X (.BinOp a .Mult c pos) (dOp2 fMul ea eb) := de_bin op_mulW (h2_rI fun i j w h => by
  split at h
  · rename_i hm
    have hm2 : i.natAbs.log2 + j.natAbs.log2 < 1000000 := of_decide_eq_true hm
    exact ⟨hm2, rep_vI h⟩
  · cases h) ha hb
theorem de_div (ha : DE B X a ea) (hb : DE B X c eb) : DE B X (.BinOp a .FloorDiv c pos) (dOp2 fDiv ea eb) := de_bin op_fdivW2 (h2_rI fun i j w h => by
  split at h
  · rename_i hm
    unfold divOk at hm
    rw [Bool.and_eq_true] at hm
    exact ⟨⟨of_decide_eq_true hm.1, of_decide_eq_true hm.2⟩, rep_vI h⟩
  · cases h) ha hb
theorem de_mod (ha : DE B X a ea) (hb : DE B X c eb) : DE B X (.BinOp a .Mod c pos) (dOp2 fMod ea eb) := de_bin op_modN (h2_rI fun i j w h => by
  split at h
  · cases h
  · rename_i hm
    exact ⟨hm, rep_vI h⟩) ha hb
theorem de_pow (ha : DE B X a ea) (hb : DE B X c eb) : DE B X (.BinOp a .Pow c pos) (dOp2 fPow ea eb) := de_bin op_pow (h2_rI fun i j w h => by
  split at h
  · rename_i hm
    unfold powOk at hm
    rw [Bool.and_eq_true, Bool.and_eq_true] at hm
    have h1 := of_decide_eq_true hm.1
    have h2 := of_decide_eq_true hm.2.1
    have h3 := of_decide_eq_true hm.2.2
    exact ⟨⟨h1, by omega, by omega⟩, rep_vI h⟩
  · cases h) ha hb
def fNeg (x : D) : Option Wv := match x with
  | .int i => vI (-i)
  | _ => none
theorem de_neg (ha : DE B X a ea) : DE B X (.UnaryOp .USub a pos) (dOp1 fNeg ea) := de_un un_neg (fun d w x H O Q e od r q => by
  cases d with
  | int i =>
    cases e
    exact ⟨i, r, q _ H (Same.refl H) rfl⟩
  | _ => cases e) ha
theorem h_lt {R : RC} : H2ok R fLt (rI0 fun i j => .bl (decide (i < j))) := h2_rI0 fun i j w h => rep_vB h
theorem h_le {R : RC} : H2ok R fLe (rI0 fun i j => .bl (decide (i ≤ j))) := h2_rI0 fun i j w h => rep_vB h
theorem h_gt {R : RC} : H2ok R fGt (rI0 fun i j => .bl (decide (j < i))) := h2_rI0 fun i j w h => rep_vB h
theorem h_ge {R : RC} : H2ok R fGe (rI0 fun i j => .bl (decide (j ≤ i))) := h2_rI0 fun i j w h => rep_vB h

/-! ### is None -/
def isNon : D → Bool
  | .non => true
  | _ => false
def fIsN (x y : D) : Option Wv := match y with
  | .non => vB (isNon x)
  | _ => none
def fNotN (x y : D) : Option Wv := match y with
  | .non => vB (!isNon x)
  | _ => none
theorem rep_non {R : RC} {H : Hp} {d : D} {v : V} (h : Rep R H d v) : decide (v = .non) = isNon d := by
  cases d with
  | non =>
    cases (show v = .non from h)
    rfl
  | bl b =>
    cases (show v = .bl b from h)
    rfl
  | int b =>
    cases (show v = .int b from h)
    rfl
  | str b =>
    cases h.1
    rfl
  | ty n =>
    cases (show v = .ty n from h)
    rfl
  | tup l =>
    obtain ⟨a, vs, rfl, _⟩ := h
    rfl
  | lst l =>
    obtain ⟨a, vs, rfl, _⟩ := h
    rfl
  | dct ks ds =>
    obtain ⟨a, vs, rfl, _⟩ := h
    rfl
  | obj c fs =>
    obtain ⟨a, _, _, vs, rfl, _⟩ := h
    rfl
  | glo x =>
    obtain ⟨f, rfl, _⟩ := h
    rfl
  | clo x =>
    obtain ⟨f, rfl, _⟩ := h
    rfl
  | bowl =>
    obtain ⟨f, rfl, _⟩ := h
    rfl
theorem h_isN {R : RC} : H2ok R fIsN (fun x y H Q => y = .non ∧ Q (.bl (decide (x = .non))) H) := fun d1 d2 w x y H O Q e od r1 r2 q => by
  cases d2 with
  | non =>
    cases e
    exact ⟨r2, by rw [rep_non r1]; exact q _ H (Same.refl H) rfl⟩
  | _ => cases e
theorem h_notN {R : RC} : H2ok R fNotN (fun x y H Q => y = .non ∧ Q (.bl (!decide (x = .non))) H) := fun d1 d2 w x y H O Q e od r1 r2 q => by
  cases d2 with
  | non =>
    cases e
    exact ⟨r2, by rw [rep_non r1]; exact q _ H (Same.refl H) rfl⟩
  | _ => cases e

/-! ### == of data -/
mutual
def eqD : D → D → Bool
  | .non, .non => true
  | .bl x, .bl y => x == y
  | .bl x, .int j => (if x then 1 else 0) == j
  | .int i, .bl y => i == (if y then 1 else 0)
  | .int i, .int j => i == j
  | .str x, .str y => x == y
  | .lst xs, .lst ys => eqDs xs ys
  | .tup xs, .tup ys => eqDs xs ys
  | _, _ => false
def eqDs : List D → List D → Bool
  | [], [] => true
  | x :: xs, y :: ys => eqD x y && eqDs xs ys
  | _, _ => false
end
mutual
def pureD : Nat → D → Bool
  | _, .non | _, .bl _ | _, .int _ | _, .str _ => true
  | n + 1, .lst l => pureDs n l
  | n + 1, .tup l => pureDs n l
  | _, _ => false
def pureDs : Nat → List D → Bool
  | _, [] => true
  | n, d :: ds => pureD n d && pureDs n ds
end
mutual
def pyD : D → PyData
  | .non => .none
  | .bl b => .bool b
  | .int i => .int i
  | .str x => .str x
  | .lst l => .list (pyDs l)
  | .tup l => .tuple (pyDs l)
  | _ => .none
def pyDs : List D → List PyData
  | [] => []
  | d :: ds => pyD d :: pyDs ds
end
mutual
theorem dp_of {R : RC} {H : Hp} : ∀ {n : Nat} {d : D} {v : V}, pureD n d = true → Rep R H d v → Dp R.K H v (pyD d) ∧ (pyD d).canLay0 = true ∧ (pyD d).depth ≤ n
  | n, .non, v, _, r => by
    cases (show v = .non from r)
    exact ⟨by simp only [pyD]; exact .non, by simp [pyD, PyData.canLay0], by simp [pyD, PyData.depth]⟩
  | n, .bl b, v, _, r => by
    cases (show v = .bl b from r)
    exact ⟨by simp only [pyD]; exact .bl b, by simp [pyD, PyData.canLay0], by simp [pyD, PyData.depth]⟩
  | n, .int b, v, _, r => by
    cases (show v = .int b from r)
    exact ⟨by simp only [pyD]; exact .int b, by simp [pyD, PyData.canLay0], by simp [pyD, PyData.depth]⟩
  | n, .str b, v, _, r => by
    obtain ⟨rfl, h⟩ := r
    unfold okS at h
    rw [Bool.and_eq_true] at h
    exact ⟨by simp only [pyD]; exact .str b, by simp [pyD, PyData.canLay0, h.2], by simp [pyD, PyData.depth]⟩
  | n + 1, .lst l, v, h, r => by
    obtain ⟨a, vs, rfl, h1, h2, _⟩ := r
    obtain ⟨i, j, k⟩ := dps_of (by simpa [pureD] using h) h2
    exact ⟨by simp only [pyD]; exact .lst h1 i, by simpa [pyD, PyData.canLay0] using j, by simp only [pyD, PyData.depth]; omega⟩
  | n + 1, .tup l, v, h, r => by
    obtain ⟨a, vs, rfl, h1, h2, _⟩ := r
    obtain ⟨i, j, k⟩ := dps_of (by simpa [pureD] using h) h2
    exact ⟨by simp only [pyD]; exact .tup h1 i, by simpa [pyD, PyData.canLay0] using j, by simp only [pyD, PyData.depth]; omega⟩
  | 0, .lst l, _, h, _ => by simp [pureD] at h
  | 0, .tup l, _, h, _ => by simp [pureD] at h
  | n, .dct _ _, _, h, _ => by simp [pureD] at h
  | n, .obj _ _, _, h, _ => by simp [pureD] at h
  | n, .glo _, _, h, _ => by simp [pureD] at h
  | n, .ty _, _, h, _ => by simp [pureD] at h
  | n, .clo _, _, h, _ => by simp [pureD] at h
  | n, .bowl, _, h, _ => by simp [pureD] at h
theorem dps_of {R : RC} {H : Hp} : ∀ {n : Nat} {ds : List D} {vs : List V}, pureDs n ds = true → RepL R H ds vs → DpAll R.K H vs (pyDs ds) ∧ PyData.canLayAll0 (pyDs ds) = true ∧ PyData.depthAll (pyDs ds) ≤ n
  | n, [], vs, _, r => by
    cases r
    exact ⟨by simp only [pyDs]; exact .nil, by simp [pyDs, PyData.canLayAll0], by simp [pyDs, PyData.depthAll]⟩
  | n, d :: ds, vs, h, r => by
    obtain ⟨v, t, rfl, h1, h2⟩ := r
    simp only [pureDs, Bool.and_eq_true] at h
    obtain ⟨i, j, k⟩ := dp_of h.1 h1
    obtain ⟨i', j', k'⟩ := dps_of h.2 h2
    exact ⟨by simp only [pyDs]; exact .cons i i', by simp [pyDs, PyData.canLayAll0, j, j'], by simp only [pyDs, PyData.depthAll]; omega⟩
end
mutual
theorem eq_py : ∀ {n m : Nat} {d e : D}, pureD n d = true → pureD m e = true → PyData.eqv (pyD d) (pyD e) = eqD d e
  | n, m, d, e, hd, he => by
    cases d with
    | lst xs =>
      cases e with
      | lst ys =>
        cases n with
        | zero => simp [pureD] at hd
        | succ n =>
          cases m with
          | zero => simp [pureD] at he
          | succ m =>
            simp only [pyD, PyData.eqv, eqD]
            exact eqs_py (by simpa [pureD] using hd) (by simpa [pureD] using he)
      | dct _ _ => simp [pureD] at he
      | obj _ _ => simp [pureD] at he
      | glo _ => simp [pureD] at he
      | ty _ => simp [pureD] at he
      | clo _ => simp [pureD] at he
      | bowl => simp [pureD] at he
      | _ => simp [pyD, PyData.eqv, eqD]
    | tup xs =>
      cases e with
      | tup ys =>
        cases n with
        | zero => simp [pureD] at hd
        | succ n =>
          cases m with
          | zero => simp [pureD] at he
          | succ m =>
            simp only [pyD, PyData.eqv, eqD]
            exact eqs_py (by simpa [pureD] using hd) (by simpa [pureD] using he)
      | dct _ _ => simp [pureD] at he
      | obj _ _ => simp [pureD] at he
      | glo _ => simp [pureD] at he
      | ty _ => simp [pureD] at he
      | clo _ => simp [pureD] at he
      | bowl => simp [pureD] at he
      | _ => simp [pyD, PyData.eqv, eqD]
    | dct _ _ => simp [pureD] at hd
    | obj _ _ => simp [pureD] at hd
    | glo _ => simp [pureD] at hd
    | ty _ => simp [pureD] at hd
    | clo _ => simp [pureD] at hd
    | bowl => simp [pureD] at hd
    | _ =>
      cases e with
      | dct _ _ => simp [pureD] at he
      | obj _ _ => simp [pureD] at he
      | glo _ => simp [pureD] at he
      | ty _ => simp [pureD] at he
      | clo _ => simp [pureD] at he
      | bowl => simp [pureD] at he
      | _ => simp [pyD, PyData.eqv, eqD]
theorem eqs_py : ∀ {n m : Nat} {ds es : List D}, pureDs n ds = true → pureDs m es = true → PyData.eqvAll (pyDs ds) (pyDs es) = eqDs ds es
  | _, _, [], [], _, _ => by simp [pyDs, PyData.eqvAll, eqDs]
  | _, _, [], _ :: _, _, _ => by simp [pyDs, PyData.eqvAll, eqDs]
  | _, _, _ :: _, [], _, _ => by simp [pyDs, PyData.eqvAll, eqDs]
  | n, m, d :: ds, e :: es, hd, he => by
    simp only [pureDs, Bool.and_eq_true] at hd he
    simp only [pyDs, PyData.eqvAll, eqDs]
    rw [eq_py hd.1 he.1, eqs_py hd.2 he.2]
end
def PD : Nat := 60
def fEq (x y : D) : Option Wv := if pureD PD x && pureD PD y then vB (eqD x y) else none
def fNe (x y : D) : Option Wv := if pureD PD x && pureD PD y then vB (!eqD x y) else none
theorem shaped_of {d : D} {n : Nat} (hn : n ≤ 64) (h1 : (pyD d).canLay0 = true) (h2 : (pyD d).depth ≤ n) : SeqAt.shaped (pyD d) = true := by
  unfold SeqAt.shaped
  rw [h1, Bool.true_and]
  exact decide_eq_true (by omega)
theorem h_eq {R : RC} : H2ok R fEq (rEqD R.K) := fun d1 d2 w x y H O Q e od r1 r2 q => by
  unfold fEq at e
  split at e
  · rename_i hp
    rw [Bool.and_eq_true] at hp
    cases e
    obtain ⟨a1, a2, a3⟩ := dp_of hp.1 (r1.mono vis_all)
    obtain ⟨b1, b2, b3⟩ := dp_of hp.2 (r2.mono vis_all)
    refine ⟨_, _, a1, b1, shaped_of (by decide) a2 a3, shaped_of (by decide) b2 b3, ?_⟩
    rw [eq_py hp.1 hp.2]
    exact q _ H (Same.refl H) rfl
  · cases e
theorem h_ne {R : RC} : H2ok R fNe (rNeD R.K) := fun d1 d2 w x y H O Q e od r1 r2 q => by
  unfold fNe at e
  split at e
  · rename_i hp
    rw [Bool.and_eq_true] at hp
    cases e
    obtain ⟨a1, a2, a3⟩ := dp_of hp.1 (r1.mono vis_all)
    obtain ⟨b1, b2, b3⟩ := dp_of hp.2 (r2.mono vis_all)
    refine ⟨_, _, a1, b1, shaped_of (by decide) a2 a3, shaped_of (by decide) b2 b3, ?_⟩
    rw [eq_py hp.1 hp.2]
    exact q _ H (Same.refl H) rfl
  · cases e
end
end DL

set_option Elab.async false
set_option linter.all false
set_option maxRecDepth 100000
set_option maxHeartbeats 4000000
namespace DL
open PySem PySem.Spec PyProof.Rows L2

/-! ### the order of texts -/
theorem ltCps_irr : ∀ a : List Nat, ltCps a a = false
  | [] => rfl
  | x :: r => by simp [ltCps, ltCps_irr r]
theorem ltCps_asymm : ∀ a b : List Nat, ltCps a b = true → ltCps b a = false
  | [], [], h => by simp [ltCps] at h
  | [], _ :: _, _ => rfl
  | _ :: _, [], h => by simp [ltCps] at h
  | x :: r, y :: t, h => by
    simp only [ltCps, Bool.or_eq_true, Bool.and_eq_true, decide_eq_true_eq, beq_iff_eq] at h
    rcases h with h | ⟨e, h⟩
    · simp [ltCps, show ¬ y < x by omega, show ¬ y = x by omega]
    · subst e
      simp [ltCps, ltCps_asymm r t h]
theorem ltCps_tri : ∀ a b : List Nat, ltCps a b = false → ltCps b a = false → a = b
  | [], [], _, _ => rfl
  | [], _ :: _, h, _ => by simp [ltCps] at h
  | _ :: _, [], _, h => by simp [ltCps] at h
  | x :: r, y :: t, h, g => by
    simp only [ltCps, Bool.or_eq_false_iff, Bool.and_eq_false_iff, decide_eq_false_iff_not, beq_eq_false_iff_ne] at h g
    have e : x = y := by omega
    subst e
    rcases h.2 with q | q
    · exact absurd rfl q
    · rcases g.2 with q' | q'
      · exact absurd rfl q'
      · rw [ltCps_tri r t q q']
theorem ltCps_trans : ∀ a b c : List Nat, ltCps a b = true → ltCps b c = true → ltCps a c = true
  | [], _, [], _, h => by cases ‹List Nat› <;> simp [ltCps] at h
  | [], _, _ :: _, _, _ => rfl
  | _ :: _, [], _, h, _ => by simp [ltCps] at h
  | _ :: _, _ :: _, [], _, h => by simp [ltCps] at h
  | x :: r, y :: t, z :: u, h, g => by
    simp only [ltCps, Bool.or_eq_true, Bool.and_eq_true, decide_eq_true_eq, beq_iff_eq] at h g ⊢
    rcases h with h | ⟨e, h⟩
    · rcases g with g | ⟨e', g⟩
      · exact .inl (by omega)
      · exact .inl (by omega)
    · rcases g with g | ⟨e', g⟩
      · exact .inl (by omega)
      · exact .inr ⟨by omega, ltCps_trans r t u h g⟩
def ltS (x y : Str) : Bool := ltCps x.cps.toList y.cps.toList
def leS (x y : Str) : Bool := !ltS y x
theorem str_ext {x y : Str} (h : x.cps.toList = y.cps.toList) : x = y := by
  obtain ⟨a⟩ := x
  obtain ⟨b⟩ := y
  have : a = b := by simpa using congrArg List.toArray h
  rw [this]
theorem leS_antisymm {x y : Str} (h : leS x y = true) (g : leS y x = true) : x = y := by
  unfold leS ltS at h g
  simp only [Bool.not_eq_true'] at h g
  exact str_ext (ltCps_tri _ _ g h)
theorem leS_total (x y : Str) : (leS x y || leS y x) = true := by
  unfold leS ltS
  cases h : ltCps y.cps.toList x.cps.toList with
  | false => rfl
  | true => rw [ltCps_asymm _ _ h]; rfl
theorem leS_trans {x y z : Str} (h : leS x y = true) (g : leS y z = true) : leS x z = true := by
  unfold leS ltS at *
  simp only [Bool.not_eq_true'] at *
  cases q : ltCps z.cps.toList x.cps.toList with
  | false => rfl
  | true =>
    cases e : ltCps y.cps.toList z.cps.toList with
    | true => rw [ltCps_trans _ _ _ e q] at h; cases h
    | false =>
      rw [str_ext (ltCps_tri _ _ g e)] at q
      rw [q] at h
      cases h
def insS (x : Str) : List Str → List Str
  | [] => [x]
  | y :: r => if ltS y x then y :: insS x r else x :: y :: r
def sortS : List Str → List Str
  | [] => []
  | x :: r => insS x (sortS r)
theorem insS_perm (x : Str) : ∀ l, (insS x l).Perm (x :: l)
  | [] => .refl _
  | y :: r => by
    unfold insS
    split
    · exact ((insS_perm x r).cons y).trans (.swap _ _ _)
    · exact .refl _
theorem sortS_perm : ∀ l, (sortS l).Perm l
  | [] => .refl _
  | x :: r => (insS_perm x (sortS r)).trans ((sortS_perm r).cons x)
theorem insS_sorted (x : Str) : ∀ l : List Str, l.Pairwise (fun a b => leS a b = true) → (insS x l).Pairwise (fun a b => leS a b = true)
  | [], _ => by simp [insS]
  | y :: r, h => by
    obtain ⟨h1, h2⟩ := List.pairwise_cons.mp h
    unfold insS
    split
    · rename_i q
      refine List.pairwise_cons.mpr ⟨fun z hz => ?_, insS_sorted x r h2⟩
      rcases List.mem_cons.mp ((insS_perm x r).mem_iff.mp hz) with e | hz
      · subst e
        unfold leS
        unfold ltS at q ⊢
        rw [ltCps_asymm _ _ q]
        rfl
      · exact h1 z hz
    · rename_i q
      have hxy : leS x y = true := by
        unfold leS
        simpa using q
      exact List.pairwise_cons.mpr ⟨fun z hz => by
        rcases List.mem_cons.mp hz with e | hz
        · subst e
          exact hxy
        · exact leS_trans hxy (h1 z hz), h⟩
theorem sortS_sorted : ∀ l, (sortS l).Pairwise (fun a b => leS a b = true)
  | [] => .nil
  | x :: r => insS_sorted x _ (sortS_sorted r)
theorem rising_pair : ∀ (p : Str) (l : List Str), risingS p l = true → (p :: l).Pairwise (fun a b => leS a b = true)
  | p, [], _ => by simp
  | p, x :: r, h => by
    have h' : (!ltCps x.cps.toList p.cps.toList && risingS x r) = true := h
    rw [Bool.and_eq_true] at h'
    have ih := rising_pair x r h'.2
    have hpx : leS p x = true := h'.1
    refine List.pairwise_cons.mpr ⟨fun z hz => ?_, ih⟩
    rcases List.mem_cons.mp hz with e | hz
    · subst e
      exact hpx
    · exact leS_trans hpx ((List.pairwise_cons.mp ih).1 z hz)
theorem sorted_pair {l : List Str} (h : sortedS l = true) : l.Pairwise (fun a b => leS a b = true) := by
  cases l with
  | nil => exact .nil
  | cons x r => exact rising_pair x r h
theorem sortS_only {xs ys : List Str} (p : ys.Perm xs) (s : sortedS ys = true) : ys = sortS xs :=
  List.Perm.eq_of_pairwise (fun a b _ _ h g => leS_antisymm h g) (sorted_pair s) (sortS_sorted xs) (p.trans (sortS_perm xs).symm)

/-! ### lists of one kind -/
def asInts : List D → Option (List Int)
  | [] => some []
  | .int i :: r => (asInts r).map (i :: ·)
  | _ => none
def asStrs : List D → Option (List Str)
  | [] => some []
  | .str i :: r => (asStrs r).map (i :: ·)
  | _ => none
def asBls : List D → Option (List Bool)
  | [] => some []
  | .bl i :: r => (asBls r).map (i :: ·)
  | _ => none
theorem asInts_rep {R : RC} {H : Hp} : ∀ {ds : List D} {vs : List V} {l : List Int}, asInts ds = some l → RepL R H ds vs → vs = l.map V.int ∧ ds.length = l.length
  | [], vs, l, e, r => by
    cases e
    cases r
    exact ⟨rfl, rfl⟩
  | .int i :: ds, vs, l, e, r => by
    obtain ⟨v, t, rfl, h1, h2⟩ := r
    cases q : asInts ds with
    | none => simp [asInts, q] at e
    | some l' =>
      simp [asInts, q] at e
      subst e
      obtain ⟨a, b⟩ := asInts_rep q h2
      subst a
      exact ⟨by rw [show v = .int i from h1]; rfl, by simp [b]⟩
  | .non :: _, _, _, e, _ | .bl _ :: _, _, _, e, _ | .str _ :: _, _, _, e, _ | .tup _ :: _, _, _, e, _ | .lst _ :: _, _, _, e, _ | .dct _ _ :: _, _, _, e, _ | .obj _ _ :: _, _, _, e, _ | .glo _ :: _, _, _, e, _ | .ty _ :: _, _, _, e, _ | .clo _ :: _, _, _, e, _ | .bowl :: _, _, _, e, _ => by simp [asInts] at e
theorem asStrs_rep {R : RC} {H : Hp} : ∀ {ds : List D} {vs : List V} {l : List Str}, asStrs ds = some l → RepL R H ds vs → vs = l.map V.str ∧ ds.length = l.length ∧ ∀ x ∈ l, okS x = true
  | [], vs, l, e, r => by
    cases e
    cases r
    exact ⟨rfl, rfl, by simp⟩
  | .str i :: ds, vs, l, e, r => by
    obtain ⟨v, t, rfl, h1, h2⟩ := r
    cases q : asStrs ds with
    | none => simp [asStrs, q] at e
    | some l' =>
      simp [asStrs, q] at e
      subst e
      obtain ⟨a, b, c⟩ := asStrs_rep q h2
      subst a
      exact ⟨by rw [h1.1]; rfl, by simp [b], fun x hx => (List.mem_cons.mp hx).elim (fun z => z ▸ h1.2) (c x)⟩
  | .non :: _, _, _, e, _ | .bl _ :: _, _, _, e, _ | .int _ :: _, _, _, e, _ | .tup _ :: _, _, _, e, _ | .lst _ :: _, _, _, e, _ | .dct _ _ :: _, _, _, e, _ | .obj _ _ :: _, _, _, e, _ | .glo _ :: _, _, _, e, _ | .ty _ :: _, _, _, e, _ | .clo _ :: _, _, _, e, _ | .bowl :: _, _, _, e, _ => by simp [asStrs] at e
theorem asBls_rep {R : RC} {H : Hp} : ∀ {ds : List D} {vs : List V} {l : List Bool}, asBls ds = some l → RepL R H ds vs → vs = l.map V.bl ∧ ds.length = l.length
  | [], vs, l, e, r => by
    cases e
    cases r
    exact ⟨rfl, rfl⟩
  | .bl i :: ds, vs, l, e, r => by
    obtain ⟨v, t, rfl, h1, h2⟩ := r
    cases q : asBls ds with
    | none => simp [asBls, q] at e
    | some l' =>
      simp [asBls, q] at e
      subst e
      obtain ⟨a, b⟩ := asBls_rep q h2
      subst a
      exact ⟨by rw [show v = .bl i from h1]; rfl, by simp [b]⟩
  | .non :: _, _, _, e, _ | .int _ :: _, _, _, e, _ | .str _ :: _, _, _, e, _ | .tup _ :: _, _, _, e, _ | .lst _ :: _, _, _, e, _ | .dct _ _ :: _, _, _, e, _ | .obj _ _ :: _, _, _, e, _ | .glo _ :: _, _, _, e, _ | .ty _ :: _, _, _, e, _ | .clo _ :: _, _, _, e, _ | .bowl :: _, _, _, e, _ => by simp [asBls] at e
theorem repL_strs {R : RC} {H : Hp} : ∀ {l : List Str}, (∀ x ∈ l, okS x = true) → RepL R H (l.map D.str) (l.map V.str)
  | [], _ => rfl
  | x :: r, h => RepL.cons ⟨rfl, h x (List.mem_cons_self ..)⟩ (repL_strs fun y hy => h y (List.mem_cons_of_mem _ hy))
theorem repL_ints {R : RC} {H : Hp} : ∀ {l : List Int}, RepL R H (l.map D.int) (l.map V.int)
  | [] => rfl
  | x :: r => RepL.cons rfl repL_ints
/-- a visible list, tuple as the rules read it -/
theorem vis_sql {K : PySem.W.Frag} {H : Hp} {O : Addr → Prop} {a : Addr} {xs : List V} (h : SqL K (vis H O) a xs) : SqL K H a xs := vis_all.seq h
theorem vis_sqt {K : PySem.W.Frag} {H : Hp} {O : Addr → Prop} {a : Addr} {xs : List V} (h : SqT K (vis H O) a xs) : SqT K H a xs := vis_all.tup h

/-! ### len, all, any, sum, tuple, list, sorted, int, abs, divmod, max, min, gcd -/
def f1 (f : D → Option Wv) (ds : List D) : Option Wv := match ds with
  | [d] => f d
  | _ => none
def f2 (f : D → D → Option Wv) (ds : List D) : Option Wv := match ds with
  | [d, e] => f d e
  | _ => none
theorem f1_inv {f : D → Option Wv} {ds : List D} {w : Wv} (h : f1 f ds = some w) : ∃ d, ds = [d] ∧ f d = some w := by
  match ds, h with
  | [d], h => exact ⟨d, rfl, h⟩
theorem f2_inv {f : D → D → Option Wv} {ds : List D} {w : Wv} (h : f2 f ds = some w) : ∃ d e, ds = [d, e] ∧ f d e = some w := by
  match ds, h with
  | [d, e], h => exact ⟨d, e, rfl, h⟩
theorem rep1 {R : RC} {H : Hp} {d : D} {vs : List V} (h : RepL R H [d] vs) : ∃ v, vs = [v] ∧ Rep R H d v := by
  obtain ⟨v, r, e, h1, h2⟩ := h
  cases h2
  exact ⟨v, e, h1⟩
theorem rep2 {R : RC} {H : Hp} {d e : D} {vs : List V} (h : RepL R H [d, e] vs) : ∃ v u, vs = [v, u] ∧ Rep R H d v ∧ Rep R H e u := by
  obtain ⟨v, r, e1, h1, h2⟩ := h
  obtain ⟨u, rfl, h3⟩ := rep1 h2
  exact ⟨v, u, e1, h1, h3⟩
def lenD : D → Option Wv
  | .str x => vI x.length
  | .lst l => vI l.length
  | .tup l => vI l.length
  | _ => none
theorem hl_len {R : RC} : HLok R (f1 lenD) (fun xs H Q => ∃ x n, xs = [x] ∧ LenV R.K x H n ∧ Q (.int n) H) := fun ds w vs H O Q e od r q => by
  obtain ⟨d, hd, e'⟩ := f1_inv e
  clear e
  subst hd
  have e := e'
  clear e'
  obtain ⟨v, rfl, h⟩ := rep1 r
  cases d with
  | str x =>
    cases e
    obtain ⟨rfl, ok⟩ := h
    unfold okS at ok
    rw [Bool.and_eq_true] at ok
    exact ⟨_, _, rfl, ⟨small_lim (of_decide_eq_true ok.1), rfl⟩, q _ H (Same.refl H) rfl⟩
  | lst l =>
    cases e
    obtain ⟨a, us, rfl, h1, h2, _⟩ := h
    exact ⟨_, _, rfl, .inl ⟨us, vis_sql h1, rfl⟩, by rw [← h2.length]; exact q _ H (Same.refl H) rfl⟩
  | tup l =>
    cases e
    obtain ⟨a, us, rfl, h1, h2, _⟩ := h
    exact ⟨_, _, rfl, .inr ⟨us, vis_sqt h1, rfl⟩, by rw [← h2.length]; exact q _ H (Same.refl H) rfl⟩
  | _ => cases e
def allD : D → Option Wv
  | .lst l => (asBls l).bind fun bs => vB (bs.all id)
  | _ => none
def anyD : D → Option Wv
  | .lst l => (asBls l).bind fun bs => vB (bs.any id)
  | _ => none
def sumD : D → Option Wv
  | .lst l => (asInts l).bind fun bs => vI bs.sum
  | _ => none
theorem hl_all {R : RC} : HLok R (f1 allD) (rAll R.K) := fun ds w vs H O Q e od r q => by
  obtain ⟨d, hd, e'⟩ := f1_inv e
  clear e
  subst hd
  have e := e'
  clear e'
  obtain ⟨v, rfl, h⟩ := rep1 r
  cases d with
  | lst l =>
    obtain ⟨a, us, rfl, h1, h2, _⟩ := h
    have e : (asBls l).bind (fun bs => vB (bs.all id)) = some w := e
    cases z : asBls l with
    | none =>
      rw [z] at e
      cases e
    | some bs =>
      rw [z] at e
      have e : vB (bs.all id) = some w := e
      cases e
      obtain ⟨rfl, _⟩ := asBls_rep z h2
      exact ⟨a, bs, rfl, vis_sql h1, q _ H (Same.refl H) rfl⟩
  | _ => cases e
theorem hl_any {R : RC} : HLok R (f1 anyD) (rAny R.K) := fun ds w vs H O Q e od r q => by
  obtain ⟨d, hd, e'⟩ := f1_inv e
  clear e
  subst hd
  have e := e'
  clear e'
  obtain ⟨v, rfl, h⟩ := rep1 r
  cases d with
  | lst l =>
    obtain ⟨a, us, rfl, h1, h2, _⟩ := h
    have e : (asBls l).bind (fun bs => vB (bs.any id)) = some w := e
    cases z : asBls l with
    | none =>
      rw [z] at e
      cases e
    | some bs =>
      rw [z] at e
      have e : vB (bs.any id) = some w := e
      cases e
      obtain ⟨rfl, _⟩ := asBls_rep z h2
      exact ⟨a, bs, rfl, vis_sql h1, q _ H (Same.refl H) rfl⟩
  | _ => cases e
theorem hl_sum {R : RC} : HLok R (f1 sumD) (rSum R.K) := fun ds w vs H O Q e od r q => by
  obtain ⟨d, hd, e'⟩ := f1_inv e
  clear e
  subst hd
  have e := e'
  clear e'
  obtain ⟨v, rfl, h⟩ := rep1 r
  cases d with
  | lst l =>
    obtain ⟨a, us, rfl, h1, h2, _⟩ := h
    have e : (asInts l).bind (fun bs => vI bs.sum) = some w := e
    cases z : asInts l with
    | none =>
      rw [z] at e
      cases e
    | some bs =>
      rw [z] at e
      have e : vI bs.sum = some w := e
      cases e
      obtain ⟨rfl, _⟩ := asInts_rep z h2
      exact ⟨a, bs, rfl, vis_sql h1, q _ H (Same.refl H) rfl⟩
  | _ => cases e
def tupleD : D → Option Wv
  | .lst l => some (.val (.tup l))
  | .tup l => some (.val (.tup l))
  | _ => none
theorem hl_tuple {R : RC} : HLok R (f1 tupleD) (fun xs H Q => ∃ p ys, xs = [.ref p] ∧ ((SqL R.K H p ys ∧ ∀ l, H l = none → Q (.ref l) (upd H l (.tup ys))) ∨ (SqT R.K H p ys ∧ Q (.ref p) H))) := fun ds w vs H O Q e od r q => by
  obtain ⟨d, hd, e'⟩ := f1_inv e
  clear e
  subst hd
  have e := e'
  clear e'
  obtain ⟨v, rfl, h⟩ := rep1 r
  cases d with
  | lst l =>
    cases e
    obtain ⟨a, us, rfl, h1, h2, h3⟩ := h
    exact ⟨a, us, rfl, .inl ⟨vis_sql h1, fun p hp => q _ _ (same_upd hp) (new_tup od h2 h3 hp)⟩⟩
  | tup l =>
    cases e
    have h' := h
    obtain ⟨a, us, rfl, h1, h2, h3⟩ := h
    exact ⟨a, us, rfl, .inr ⟨vis_sqt h1, q _ H (Same.refl H) h'⟩⟩
  | _ => cases e
def listD : D → Option Wv
  | .lst l => some (.own (.lst l))
  | .tup l => some (.own (.lst l))
  | _ => none
theorem hl_list {R : RC} : HLok R (f1 listD) (fun xs H Q => ∃ p ys, xs = [.ref p] ∧ (SqL R.K H p ys ∨ SqT R.K H p ys) ∧ ∀ l, H l = none → Q (.ref l) (upd H l (.lst ys))) := fun ds w vs H O Q e od r q => by
  obtain ⟨d, hd, e'⟩ := f1_inv e
  clear e
  subst hd
  have e := e'
  clear e'
  obtain ⟨v, rfl, h⟩ := rep1 r
  cases d with
  | lst l =>
    cases e
    obtain ⟨a, us, rfl, h1, h2, h3⟩ := h
    exact ⟨a, us, rfl, .inl (vis_sql h1), fun p hp => q _ _ (same_upd hp) (new_lst od h2 h3 hp)⟩
  | tup l =>
    cases e
    obtain ⟨a, us, rfl, h1, h2, h3⟩ := h
    exact ⟨a, us, rfl, .inr (vis_sqt h1), fun p hp => q _ _ (same_upd hp) (new_lst od h2 h3 hp)⟩
  | _ => cases e
def sortedD : D → Option Wv
  | .lst l => (asStrs l).bind fun ss => if ss.length < 64 then some (.own (.lst ((sortS ss).map D.str))) else none
  | _ => none
theorem hl_sorted {R : RC} : HLok R (f1 sortedD) (rSortedS R.K) := fun ds w vs H O Q e od r q => by
  obtain ⟨d, hd, e'⟩ := f1_inv e
  clear e
  subst hd
  have e := e'
  clear e'
  obtain ⟨v, rfl, h⟩ := rep1 r
  cases d with
  | lst l =>
    obtain ⟨a, us, rfl, h1, h2, h3⟩ := h
    cases z : asStrs l with
    | none => simp [sortedD, z] at e
    | some ss =>
      simp only [sortedD, z, Option.bind_some] at e
      split at e
      · rename_i h64
        cases e
        obtain ⟨rfl, hl, ok⟩ := asStrs_rep z h2
        refine ⟨a, ss, rfl, vis_sql h1, h64, fun ys p hp hs hn => ?_⟩
        have ey := sortS_only hp hs
        subst ey
        have hlen : (sortS ss).length = ss.length := (sortS_perm ss).length_eq
        exact q _ _ (same_upd hn) (new_lst od (repL_strs fun x hx => ok x ((sortS_perm ss).mem_iff.mp hx)) (by rw [List.length_map, hlen]; unfold LIM; omega) hn)
      · cases e
  | _ => cases e
def intD : D → Option Wv
  | .int i => vI i
  | .bl b => vI (if b then 1 else 0)
  | _ => none
theorem hl_int {R : RC} : HLok R (f1 intD) (fun xs H Q => (∃ i, xs = [.int i] ∧ Q (.int i) H) ∨ ∃ k, xs = [.bl k] ∧ Q (.int (if k then 1 else 0)) H) := fun ds w vs H O Q e od r q => by
  obtain ⟨d, hd, e'⟩ := f1_inv e
  clear e
  subst hd
  have e := e'
  clear e'
  obtain ⟨v, rfl, h⟩ := rep1 r
  cases d with
  | int i =>
    cases e
    exact .inl ⟨i, by rw [show v = .int i from h], q _ H (Same.refl H) rfl⟩
  | bl b =>
    cases e
    exact .inr ⟨b, by rw [show v = .bl b from h], q _ H (Same.refl H) rfl⟩
  | _ => cases e
def absD : D → Option Wv
  | .int i => vI (if i < 0 then -i else i)
  | _ => none
theorem hl_abs {R : RC} : HLok R (f1 absD) (fun xs H Q => ∃ i, xs = [.int i] ∧ Q (.int (if i < 0 then -i else i)) H) := fun ds w vs H O Q e od r q => by
  obtain ⟨d, hd, e'⟩ := f1_inv e
  clear e
  subst hd
  have e := e'
  clear e'
  obtain ⟨v, rfl, h⟩ := rep1 r
  cases d with
  | int i =>
    cases e
    exact ⟨i, by rw [show v = .int i from h], q _ H (Same.refl H) rfl⟩
  | _ => cases e
def fDivmod : D → D → Option Wv := fI2 fun i j => if 0 < j ∧ j < 1073741824 then some (.val (.tup [.int (i / j), .int (i % j)])) else none
theorem fI2_inv {g : Int → Int → Option Wv} {x y : D} {w : Wv} (h : fI2 g x y = some w) : ∃ i j, x = .int i ∧ y = .int j ∧ g i j = some w := by
  cases x with
  | int i =>
    cases y with
    | int j => exact ⟨i, j, rfl, rfl, h⟩
    | _ => cases h
  | _ => cases h
theorem hl_divmod {R : RC} : HLok R (f2 fDivmod) (fun xs H Q => ∃ i j, xs = [.int i, .int j] ∧ CDiv i j ∧ ∀ p, H p = none → Q (.ref p) (upd H p (.tup [.int (i / j), .int (i % j)]))) := fun ds w vs H O Q e od r q => by
  obtain ⟨d1, d2, hd, e'⟩ := f2_inv e
  clear e
  subst hd
  have e := e'
  clear e'
  obtain ⟨v, u, rfl, h1, h2⟩ := rep2 r
  obtain ⟨i, j, hi, hj, e'⟩ := fI2_inv e
  clear e
  subst hi
  subst hj
  have e := e'
  clear e'
  split at e
  · rename_i hc
    cases e
    exact ⟨i, j, by rw [show v = .int i from h1, show u = .int j from h2], hc, fun p hp => q _ _ (same_upd hp) (new_tup od (RepL.cons rfl (RepL.cons rfl RepL.nil)) (by show 2 ≤ LIM; decide) hp)⟩
  · cases e
def fMax : D → D → Option Wv := fI2 fun i j => vI (if j > i then j else i)
def fMin : D → D → Option Wv := fI2 fun i j => vI (if j < i then j else i)
theorem hl_max {R : RC} : HLok R (f2 fMax) (fun xs H Q => ∃ i j, xs = [.int i, .int j] ∧ Q (.int (if j > i then j else i)) H) := fun ds w vs H O Q e od r q => by
  obtain ⟨d1, d2, hd, e'⟩ := f2_inv e
  clear e
  subst hd
  have e := e'
  clear e'
  obtain ⟨v, u, rfl, h1, h2⟩ := rep2 r
  obtain ⟨i, j, hi, hj, e'⟩ := fI2_inv e
  clear e
  subst hi
  subst hj
  have e := e'
  clear e'
  cases e
  exact ⟨i, j, by rw [show v = .int i from h1, show u = .int j from h2], q _ H (Same.refl H) rfl⟩
theorem hl_min {R : RC} : HLok R (f2 fMin) (fun xs H Q => ∃ i j, xs = [.int i, .int j] ∧ Q (.int (if j < i then j else i)) H) := fun ds w vs H O Q e od r q => by
  obtain ⟨d1, d2, hd, e'⟩ := f2_inv e
  clear e
  subst hd
  have e := e'
  clear e'
  obtain ⟨v, u, rfl, h1, h2⟩ := rep2 r
  obtain ⟨i, j, hi, hj, e'⟩ := fI2_inv e
  clear e
  subst hi
  subst hj
  have e := e'
  clear e'
  cases e
  exact ⟨i, j, by rw [show v = .int i from h1, show u = .int j from h2], q _ H (Same.refl H) rfl⟩
def fGcd : D → D → Option Wv := fI2 fun i j => vI (Nat.gcd i.natAbs j.natAbs : Nat)
theorem hl_gcd {R : RC} : HLok R (f2 fGcd) rGcd := fun ds w vs H O Q e od r q => by
  obtain ⟨d1, d2, hd, e'⟩ := f2_inv e
  clear e
  subst hd
  have e := e'
  clear e'
  obtain ⟨v, u, rfl, h1, h2⟩ := rep2 r
  obtain ⟨i, j, hi, hj, e'⟩ := fI2_inv e
  clear e
  subst hi
  subst hj
  have e := e'
  clear e'
  cases e
  exact ⟨i, j, by rw [show v = .int i from h1, show u = .int j from h2], q _ H (Same.refl H) rfl⟩

/-! ### isinstance -/
/-- what is known of an own class -/
structure ClsI (K : PySem.W.Frag) (C : Addr) : Prop where
  cl : Cls K C
  ha : PySem.W.findIn K (.ref C) "__class__" = some (some (.builtin "object.__class__"))
  hn : PySem.W.specialIn K (.builtin "object.__class__") "__get__" = some (some (.builtin "getset_descriptor.__get__"))
  htk : PySem.W.takesIn K (.builtin "object.__class__") = some true
  hm : PySem.W.mroIn K C (.type "object") = some true
def tyN : D → Option String
  | .non => some "NoneType"
  | .bl _ => some "bool"
  | .int _ => some "int"
  | .str _ => some "str"
  | .lst _ => some "list"
  | .tup _ => some "tuple"
  | _ => none
def isiB (t n : String) : Bool := t == n || (t == "bool" && n == "int")
def isTy (n : String) : Bool := ["int", "bool", "str", "list", "tuple"].contains n
/-- own classes by name: isinstance of an own class's instance -/
def fIsi (x y : D) : Option Wv := match y with
  | .ty n => if isTy n then (match tyN x with
    | some t => vB (isiB t n)
    | none => none) else none
  | _ => none
theorem tyX_of {K : PySem.W.Frag} {R : RC} (hK : R.K = K) {H : Hp} {d : D} {v : V} {t : String} (h : tyN d = some t) (r : Rep R H d v) : TyX K H v (.type t) := by
  subst hK
  cases d with
  | non =>
    cases h
    cases (show v = .non from r)
    exact .base .non
  | bl b =>
    cases h
    cases (show v = .bl b from r)
    exact .base (.bl b)
  | int b =>
    cases h
    cases (show v = .int b from r)
    exact .base (.int b)
  | str b =>
    cases h
    cases r.1
    exact .base (.str b)
  | lst l =>
    cases h
    obtain ⟨a, vs, rfl, h1, _⟩ := r
    rcases h1 with (h1 | ⟨o, h1⟩) | ⟨o, _, _, h1, h2, _⟩
    · exact .base (.lst h1)
    · exact .base (.frz h1)
    · exact .kList h1 h2
  | tup l =>
    cases h
    obtain ⟨a, vs, rfl, h1, _⟩ := r
    rcases h1 with (h1 | ⟨o, h1⟩) | ⟨o, _, _, h1, h2, _⟩
    · exact .base (.tup h1)
    · exact .fTuple h1
    · exact .kTuple h1 h2
  | _ => cases h
theorem kit_isi {K : PySem.W.Frag} {d : D} {t n : String} (h : tyN d = some t) (hn : isTy n = true) : PySem.W.kitOne K (.type t) (.type n) = some (isiB t n) := by
  have hn' : n = "int" ∨ n = "bool" ∨ n = "str" ∨ n = "list" ∨ n = "tuple" := by
    simpa [isTy] using hn
  have ht : t = "NoneType" ∨ t = "bool" ∨ t = "int" ∨ t = "str" ∨ t = "list" ∨ t = "tuple" := by
    cases d <;> simp [tyN] at h <;> simp [← h]
  rcases hn' with rfl | rfl | rfl | rfl | rfl <;> rcases ht with rfl | rfl | rfl | rfl | rfl | rfl <;> exact kit_ty (by decide +kernel)
theorem hl_isi {R : RC} : HLok R (f2 fIsi) (rIsi R.K) := fun ds w vs H O Q e od r q => by
  obtain ⟨d1, d2, hd, e'⟩ := f2_inv e
  clear e
  subst hd
  have e := e'
  clear e'
  obtain ⟨v, u, rfl, h1, h2⟩ := rep2 r
  cases d2 with
  | ty n =>
    simp only [fIsi] at e
    split at e
    · rename_i hn
      cases z : tyN d1 with
      | none => simp [z] at e
      | some t =>
        simp [z, vB] at e
        subst e
        cases (show u = .ty n from h2)
        exact ⟨v, .ty n, .type t, .type n, isiB t n, rfl, .ty n, tyX_of rfl z (h1.mono vis_all), kit_isi z hn, q _ H (Same.refl H) rfl⟩
    · cases e
  | _ => cases e
end DL

set_option Elab.async false
set_option linter.all false
set_option maxRecDepth 100000
set_option maxHeartbeats 4000000
namespace DL
open PySem PySem.Spec PyProof.Rows L2

/-! ### statements -/
inductive RS where
  | nx (env : Sls) (b : Bw) | rt (w : Wv) (b : Bw) | bk (env : Sls) (b : Bw) | ct (env : Sls) (b : Bw) | err (c : Str) (fs : List D) (b : Bw) | bad
abbrev Sv := Sls → Bw → RS
def wpS (B : BP) (r : RS) (D : Ends) : Prop := match r with
  | .nx env b => ∀ σ H, Rel B env b σ H → D.nx σ H
  | .rt w b => ∀ v H, Ext B.R.bo B.He H → BwOk B.R.bo b H → NdefX.TabsN B.T H → RepW B.R B.O B.He H w v → D.rt v H
  | .bk env b => ∀ σ H, Rel B env b σ H → D.bk σ H
  | .ct env b => ∀ σ H, Rel B env b σ H → D.ct σ H
  | .err c fs b => ∀ cls d σ H, Ext B.R.bo B.He H → BwOk B.R.bo b H → NdefX.TabsN B.T H → RepX B.R (vis H B.O) c fs cls d → B.W cls d σ H
  | .bad => False
def rdS (B : BP) (dv : Sv) : TS := fun D σ H => ∃ env b, Rel B env b σ H ∧ wpS B (dv env b) D
abbrev DS (B : BP) (X : Cx) (st : Stmt) (dv : Sv) : Prop := PS X st (rdS B dv)
abbrev DSs (B : BP) (X : Cx) (sts : List Stmt) (dv : Sv) : Prop := PSs X sts (rdS B dv)
theorem imp_PS {X : Cx} {e : Stmt} {t u : TS} (h : PS X e t) (hi : ∀ D σ H, u D σ H → t D σ H) : PS X e u := ⟨fun pins s σ H D I q => h.run pins s σ H D I (hi D σ H q)⟩
theorem imp_PSs {X : Cx} {e : List Stmt} {t u : TS} (h : PSs X e t) (hi : ∀ D σ H, u D σ H → t D σ H) : PSs X e u := ⟨fun pins s σ H D I q => h.run pins s σ H D I (hi D σ H q)⟩
theorem RepX.mono {R : RC} {H H' : Hp} (s : Sub H H') {c : Str} {fs : List D} {cls : Value} {d : Option Addr} (h : RepX R H c fs cls d) : RepX R H' c fs cls d := by
  obtain ⟨C, h1, h2, h3⟩ := h
  refine ⟨C, h1, h2, ?_⟩
  cases fs with
  | nil => exact h3
  | cons f r =>
    obtain ⟨dd, vs, ns, e, e1, e2, e3⟩ := h3
    exact ⟨dd, vs, ns, e, s _ _ e1 (fun _ z => by cases z), e2, RepL.mono s e3⟩
section
variable {B : BP} {X : Cx} {env : Sls} {b : Bw} {σ : L2.St} {H H' : Hp}
/-- what an expression lets out, a statement does -/
theorem err_of {α γ : Type} {ρ : Rho α γ} {c : Str} {fs : List D} {b' : Bw} {D : Ends} (I : Rel B env b σ H) (w : wpS B (.err c fs b') D) {Q : γ → Hp → Prop} : wpG B ρ (ownO B.O env σ) H (.err c fs b' : Res α) σ Q :=
  fun cls d H' e1 e2 e3 e4 => w cls d σ H' (I.ext.trans e1) e2 e3 (e4.mono (vis_sub fun a q => .inl q))
theorem RepTop.hv {R : RC} {Hv Hv' : Hp} {d : D} {a : Addr} (s : Sub Hv Hv') (h : RepTop R H Hv d a) : RepTop R H Hv' d a := by
  cases d with
  | lst l =>
    obtain ⟨vs, h1, h2, h3⟩ := h
    exact ⟨vs, h1, h2.mono s, h3⟩
  | dct ks ds =>
    obtain ⟨vs, h1, h2⟩ := h
    exact ⟨vs, h1.mono s, h2⟩
  | _ => exact h.elim
/-- what was visible stays so, whatever new own things come -/
theorem vis_more {bo : Option Addr} {O O' : Addr → Prop} (x : Ext bo H H') (hb : ∀ a, bo = some a → O a) (ho : ∀ a o, H a = some o → O' a → O a) : Sub (vis H O) (vis H' O') := fun a o e n => by
  obtain ⟨e1, e2⟩ := of_vis e
  exact vis_of (x.keep a o e1 (fun q => e2 (hb a q)) n) fun q => e2 (ho a o e1 q)
theorem own_set {O : Addr → Prop} {i : Nat} {s : Slot} {v : V} {a : Addr} (h : ownO O (env.set i s) (σ.set i (some v)) a) : ownO O env σ a ∨ ∃ d, s = .own d ∧ v = .ref a := by
  rcases h with h | ⟨j, d, h1, h2⟩
  · exact .inl (.inl h)
  · by_cases q : i = j
    · subst q
      by_cases l : i < env.length
      · rw [List.getElem?_set_self l] at h1
        by_cases l2 : i < σ.length
        · rw [List.getElem?_set_self l2] at h2
          cases h1
          cases h2
          exact .inr ⟨d, rfl, rfl⟩
        · rw [List.getElem?_eq_none (by simpa using l2)] at h2
          cases h2
      · rw [List.getElem?_eq_none (by simpa using l)] at h1
        cases h1
    · rw [List.getElem?_set_ne q] at h1 h2
      exact .inl (.inr ⟨j, d, h1, h2⟩)
/-- a name stored -/
theorem Rel.set {b' : Bw} {i : Nat} {w : Wv} {v : V} (I : Rel B env b σ H) (x : Ext B.R.bo H H') (hb : BwOk B.R.bo b' H') (t : NdefX.TabsN B.T H') (r : RepW B.R (ownO B.O env σ) H H' w v) : Rel B (env.set i w.slot) b' (σ.set i (some v)) H' := by
  have J := I.go x hb t
  have news : ∀ a o, H a = some o → ownO B.O (env.set i w.slot) (σ.set i (some v)) a → ownO B.O env σ a := fun a o e h => by
    rcases own_set h with h | ⟨d, e1, e2⟩
    · exact h
    · cases w with
      | val d' => cases e1
      | own d' =>
        obtain ⟨a', e3, h0, _⟩ := r
        rw [e2] at e3
        cases e3
        rw [h0] at e
        cases e
  have vsub : Sub (vis H (ownO B.O env σ)) (vis H' (ownO B.O (env.set i w.slot) (σ.set i (some v)))) := vis_more x (fun a q => I.bOO q) news
  refine ⟨by simp [I.len], fun j d e => ?_, fun j d e => ?_, fun j k d e a h1 h2 h3 h4 => ?_, hb, I.bO, J.odom, t, J.ext, I.pin.trans vsub⟩
  · by_cases q : i = j
    · subst q
      have l : i < env.length := by
        have z := (List.getElem?_eq_some_iff.mp e).1
        simpa using z
      rw [List.getElem?_set_self l] at e
      rw [List.getElem?_set_self (by rw [← I.len]; exact l)]
      cases w with
      | val d' =>
        cases e
        exact ⟨v, rfl, Rep.mono (vis_sub fun a h => (own_set h).elim id fun ⟨d, e1, _⟩ => by cases e1) r⟩
      | own d' => cases e
    · rw [List.getElem?_set_ne q] at e
      rw [List.getElem?_set_ne q]
      obtain ⟨u, h1, h2⟩ := I.val j d e
      exact ⟨u, h1, h2.mono vsub⟩
  · by_cases q : i = j
    · subst q
      have l : i < env.length := by
        have z := (List.getElem?_eq_some_iff.mp e).1
        simpa using z
      rw [List.getElem?_set_self l] at e
      rw [List.getElem?_set_self (by rw [← I.len]; exact l)]
      cases w with
      | val d' => cases e
      | own d' =>
        cases e
        obtain ⟨a, rfl, h0, h1, h2⟩ := r
        refine ⟨a, rfl, fun z => h1 (.inl z), I.ext.dom a h0, RepTop.hv (vis_sub fun c h => ?_) h2⟩
        rcases own_set h with h | ⟨d, _, e2⟩
        · exact .inl h
        · cases e2
          exact .inr rfl
    · rw [List.getElem?_set_ne q] at e
      rw [List.getElem?_set_ne q]
      obtain ⟨a, h1, h2, h3, h4⟩ := I.own j d e
      exact ⟨a, h1, h2, h3, h4.ext x (fun z => h2 (I.bO a z)) vsub⟩
  · have old : ∀ (j : Nat) (d : D) (a : Addr), i ≠ j → (env.set i w.slot)[j]? = some (.own d) → (σ.set i (some v))[j]? = some (some (.ref a)) → ∃ o, H a = some o := fun j d a q h1 h2 => by
      rw [List.getElem?_set_ne q] at h1 h2
      exact I.od (.inr ⟨j, d, h1, h2⟩)
    have nu : ∀ (d : D) (a : Addr), (env.set i w.slot)[i]? = some (.own d) → (σ.set i (some v))[i]? = some (some (.ref a)) → H a = none := fun d a h1 h2 => by
      have l : i < env.length := by
        have z := (List.getElem?_eq_some_iff.mp h1).1
        simpa using z
      rw [List.getElem?_set_self l] at h1
      rw [List.getElem?_set_self (by rw [← I.len]; exact l)] at h2
      have hv : v = .ref a := Option.some.inj (Option.some.inj h2)
      cases w with
      | val d' => exact nomatch h1
      | own d' =>
        obtain ⟨a', e3, h0, _⟩ := r
        rw [hv] at e3
        have ea : a = a' := by injection e3
        rw [ea]
        exact h0
    by_cases q1 : i = j
    · by_cases q2 : i = k
      · rw [← q1, ← q2]
      · subst q1
        have z := nu d a h1 h3
        obtain ⟨o, z2⟩ := old k e a q2 h2 h4
        rw [z] at z2
        exact nomatch z2
    · by_cases q2 : i = k
      · subst q2
        have z := nu e a h2 h4
        obtain ⟨o, z2⟩ := old j d a q1 h1 h3
        rw [z] at z2
        exact nomatch z2
      · rw [List.getElem?_set_ne q1] at h1 h3
        rw [List.getElem?_set_ne q2] at h2 h4
        exact I.sep j k d e a h1 h2 h3 h4

/-! ### blocks, small statements -/
variable {st : Stmt} {rest : List Stmt} {d1 d2 : Sv} {e : Expr} {ev : Ev} {pos : Pos}
def dNext : Sv := fun env b => .nx env b
def dSeq (d1 d2 : Sv) : Sv := fun env b => match d1 env b with
  | .nx e b' => d2 e b'
  | r => r
theorem dss_nil : DSs B X [] dNext := imp_PSs pss_nil fun D σ H h => by
  obtain ⟨env, b, I, w⟩ := h
  exact w σ H I
theorem rd_seq {D : Ends} (h : rdS B (dSeq d1 d2) D σ H) : tSeq (rdS B d1) (rdS B d2) D σ H := by
  obtain ⟨env, b, I, w⟩ := h
  refine ⟨env, b, I, ?_⟩
  unfold dSeq at w
  cases e : d1 env b with
  | nx e1 b1 =>
    rw [e] at w
    exact fun σ' H' I' => ⟨e1, b1, I', w⟩
  | rt v b1 =>
    rw [e] at w
    exact w
  | bk e1 b1 =>
    rw [e] at w
    exact w
  | ct e1 b1 =>
    rw [e] at w
    exact w
  | err c fs b1 =>
    rw [e] at w
    exact w
  | bad =>
    rw [e] at w
    exact w
theorem dss_cons (h1 : DS B X st d1) (h2 : DSs B X rest d2) : DSs B X (st :: rest) (dSeq d1 d2) := imp_PSs (pss_cons h1 h2) fun D σ H h => rd_seq h
theorem dss_one (h1 : DS B X st d1) : DSs B X [st] d1 := pss_one h1
def dBad : Sv := fun _ _ => .bad
theorem ds_never : DS B X st dBad := imp_PS ps_never fun D σ H h => by
  obtain ⟨env, b, I, w⟩ := h
  exact w
theorem dss_never : DSs B X rest dBad := imp_PSs pss_never fun D σ H h => by
  obtain ⟨env, b, I, w⟩ := h
  exact w
theorem ds_pass : DS B X (.Pass pos) dNext := imp_PS ps_pass fun D σ H h => by
  obtain ⟨env, b, I, w⟩ := h
  exact w σ H I
def dBrk : Sv := fun env b => .bk env b
def dCnt : Sv := fun env b => .ct env b
theorem ds_break : DS B X (.Break pos) dBrk := imp_PS ps_break fun D σ H h => by
  obtain ⟨env, b, I, w⟩ := h
  exact w σ H I
theorem ds_cont : DS B X (.Continue pos) dCnt := imp_PS ps_continue fun D σ H h => by
  obtain ⟨env, b, I, w⟩ := h
  exact w σ H I
/-- an expression, then a statement's end -/
def Res.toS (r : Res Wv) (k : Wv → Bw → RS) : RS := match r with
  | .ok w b => k w b
  | .err c fs b => .err c fs b
  | .bad => .bad
theorem rd_toS {k : Wv → Sls → Bw → RS} {D : Ends} {Q : VK} (h : rdS B (fun env b => (ev env b).toS fun w b1 => k w env b1) D σ H)
    (hq : ∀ env b w b1 x H1, Rel B env b σ H → Ext B.R.bo H H1 → BwOk B.R.bo b1 H1 → NdefX.TabsN B.T H1 → RepW B.R (ownO B.O env σ) H H1 w x → wpS B (k w env b1) D → Q x H1) : rdE B ev σ H Q := by
  obtain ⟨env, b, I, w⟩ := h
  refine ⟨env, b, I, ?_⟩
  have w : wpS B ((ev env b).toS fun w b1 => k w env b1) D := w
  cases e : ev env b with
  | ok a b1 =>
    rw [e] at w
    exact fun x H1 e1 e2 e3 e4 => hq env b a b1 x H1 I e1 e2 e3 e4 w
  | err c fs b1 =>
    rw [e] at w
    exact err_of I w
  | bad =>
    rw [e] at w
    exact False.elim w
def dAsg (i : Nat) (ev : Ev) : Sv := fun env b => (ev env b).toS fun w b1 => .nx (env.set i w.slot) b1
theorem rd_asg {i : Nat} {D : Ends} (h : rdS B (dAsg i ev) D σ H) : tAsg (rdE B ev) (gName i) D σ H :=
  rd_toS (k := fun w env b1 => .nx (env.set i w.slot) b1) h fun env b w b1 x H1 I e1 e2 e3 e4 q => q _ _ (I.set e1 e2 e3 e4)
theorem ds_set {i : Nat} {x : Str} {pos' : Pos} (hN : X.N.Nodup) (he : DE B X e ev) (hi : X.N[i]? = some x := by rfl) (hx : Loc X.env.scope x := by first | exact Or.inl rfl | exact Or.inr rfl) (hs : swapsWith e (some (.Name x pos')) pos.line X.env = pure false := by rfl)
    (hf : X.fn x = true ∨ X.env.scope.names.lookup x = some .local := by first | exact .inl rfl | exact .inr rfl) : DS B X (.Assign [.Name x pos'] e pos) (dAsg i ev) := imp_PS (ps_set hN hi hx he hs hf) fun D σ H h => rd_asg h
def dRet (ev : Ev) : Sv := fun env b => (ev env b).toS fun w b1 => .rt w b1
theorem repW_ret {w : Wv} {v : V} (I : Rel B env b σ H) (r : RepW B.R (ownO B.O env σ) H H' w v) : RepW B.R B.O B.He H' w v := by
  cases w with
  | val d => exact Rep.mono (vis_sub fun a q => .inl q) r
  | own d =>
    obtain ⟨a, e, h0, h1, h2⟩ := r
    exact ⟨a, e, I.ext.dom a h0, fun z => h1 (.inl z), RepTop.hv (vis_sub fun c q => q.elim (fun z => .inl (.inl z)) .inr) h2⟩
theorem ds_ret (he : DE B X e ev) : DS B X (.Return (some e) pos) (dRet ev) := imp_PS (ps_ret he) fun D σ H h =>
  rd_toS (k := fun w env b1 => .rt w b1) h fun env b w b1 x H1 I e1 e2 e3 e4 q => q x H1 (I.ext.trans e1) e2 e3 (repW_ret I e4)
def dRetN : Sv := fun _ b => .rt (.val .non) b
theorem ds_retN : DS B X (.Return none pos) dRetN := imp_PS ps_retN fun D σ H h => by
  obtain ⟨env, b, I, w⟩ := h
  exact w .non H I.ext I.bow I.tab rfl
/-- return x, x a list or dict of the body's own -/
def dRetO (i : Nat) : Sv := fun env b => match env[i]? with
  | some (.own d) => .rt (.own d) b
  | some (.val d) => .rt (.val d) b
  | _ => .bad
theorem ds_retO (i : Nat) {x : Str} {p : Pos} (hN : X.N[i]? = some x := by rfl) (hv : Vis X.env.scope x := by first | exact Or.inl rfl | exact Or.inr (Or.inl rfl) | exact Or.inr (Or.inr rfl)) (hd : (x == ("__debug__" : Str)) = false := by decide)
    (hcd : (x == ("__classdict__" : Str)) = false := by decide) : DS B X (.Return (some (.Name x p)) pos) (dRetO i) := imp_PS (ps_ret (pe_var hN hv hd hcd)) fun D σ H h => by
  obtain ⟨env, b, I, w⟩ := h
  unfold dRetO at w
  cases e : env[i]? with
  | none =>
    rw [e] at w
    exact False.elim w
  | some s =>
    rw [e] at w
    cases s with
    | un => exact False.elim w
    | val d =>
      obtain ⟨v, h1, h2⟩ := I.val i d e
      exact ⟨v, h1, w v H I.ext I.bow I.tab (Rep.mono (vis_sub fun a q => .inl q) h2)⟩
    | own d =>
      obtain ⟨a, h1, h2, h3, h4⟩ := I.own i d e
      refine ⟨.ref a, h1, w _ H I.ext I.bow I.tab ⟨a, rfl, h3, h2, RepTop.hv (vis_sub fun c q => ?_) h4⟩⟩
      rcases q with q | q
      · exact .inl q
      · subst q
        exact .inr ⟨i, d, e, h1⟩
def dDrop (ev : Ev) : Sv := fun env b => (ev env b).toS fun _ b1 => .nx env b1
theorem ds_expr (he : DE B X e ev) (hs : swapsWith e none pos.line X.env = pure false := by rfl) : DS B X (.Expr e pos) (dDrop ev) := imp_PS (ps_expr he hs) fun D σ H h =>
  rd_toS (k := fun w env b1 => .nx env b1) h fun env b w b1 x H1 I e1 e2 e3 e4 q => q _ _ (I.go e1 e2 e3)
def dIfS (t : EvT) (d1 d2 : Sv) : Sv := fun env b => match t env b with
  | .ok c b1 => if c = true then d1 env b1 else d2 env b1
  | .err c fs b => .err c fs b
  | .bad => .bad
theorem rd_ifS {t : EvT} {D : Ends} (h : rdS B (dIfS t d1 d2) D σ H) : tIfS (rdT B t) (rdS B d1) (rdS B d2) D σ H := by
  obtain ⟨env, b, I, w⟩ := h
  refine ⟨env, b, I, ?_⟩
  unfold dIfS at w
  cases e : t env b with
  | ok c b1 =>
    rw [e] at w
    intro y H1 e1 e2 e3 e4
    cases (show c = y from e4)
    have J := I.go e1 e2 e3
    cases c with
    | true => exact ⟨env, b1, J, w⟩
    | false => exact ⟨env, b1, J, w⟩
  | err c fs b1 =>
    rw [e] at w
    exact err_of I w
  | bad =>
    rw [e] at w
    exact False.elim w
theorem ds_if {c : Expr} {a f : List Stmt} {t : EvT} (hc : DT B X c t) (ha : DSs B X a d1) (hb : DSs B X f d2) : DS B X (.If c a f pos) (dIfS t d1 d2) := imp_PS (ps_if hc ha hb) fun D σ H h => rd_ifS h
end
end DL

set_option Elab.async false
set_option linter.all false
set_option maxRecDepth 100000
set_option maxHeartbeats 4000000
namespace DL
open PySem PySem.Spec PyProof.Rows L2

/-! ### defs -/
abbrev Mir := List D → Bw → Res Wv
def spD (K : PySem.W.Frag) (mg : Str → Option Value) (T : List NdefX.NTab) (n : Nat) (m : Mir) : Sp := fun vs H Q E =>
  ∃ (fns : List Addr) (bo : Option Addr) (O : Addr → Prop) (ds : List D) (b : Bw), ds.length = n ∧ RepL ⟨K, mg, fns, bo⟩ (vis H O) ds vs ∧ BwOk bo b H ∧ (∀ a, bo = some a → O a) ∧ (∀ a, O a → ∃ o, H a = some o) ∧ NdefX.TabsN T H ∧
    match m ds b with
    | .ok w b' => ∀ v H', Ext bo H H' → BwOk bo b' H' → NdefX.TabsN T H' → RepW ⟨K, mg, fns, bo⟩ O H H' w v → Q v H'
    | .err c fs b' => ∀ cls d H', Ext bo H H' → BwOk bo b' H' → NdefX.TabsN T H' → RepX ⟨K, mg, fns, bo⟩ (vis H' O) c fs cls d → E cls d H'
    | .bad => False
def RS.toR (r : RS) : Res Wv := match r with
  | .nx _ b => .ok (.val .non) b
  | .rt w b => .ok w b
  | .err c fs b => .err c fs b
  | _ => .bad
/-- the slots at a def's entry -/
def ent (N : Nat) (ds : List D) : Sls := ds.map Slot.val ++ List.replicate (N - ds.length) Slot.un
def mir (dv : Sv) (n N : Nat) : Mir := fun ds b => if ds.length = n then (dv (ent N ds) b).toR else .bad
section
variable {Pg : Program} {w : World} {K : PySem.W.Frag} {mg : Str → Option Value} {base : Heap} {T : List NdefX.NTab}
theorem ent_rel {R : RC} {O : Addr → Prop} {H : Hp} {W : WX} {ds : List D} {vs : List V} {b : Bw} {N : List Str} (hl : vs.length ≤ N.length) (r : RepL R (vis H O) ds vs) (hb : BwOk R.bo b H) (bO : ∀ a, R.bo = some a → O a) (od : ∀ a, O a → ∃ o, H a = some o) (t : NdefX.TabsN T H) :
    Rel ⟨R, T, O, H, W, fun _ => none⟩ (ent N.length ds) b (L2.start N vs) H := by
  have hlen := r.length
  have noown : ∀ (i : Nat) (d : D), (ent N.length ds)[i]? ≠ some (.own d) := fun i d e => by
    unfold ent at e
    by_cases h : i < ds.length
    · rw [List.getElem?_append_left (by simpa using h), List.getElem?_map] at e
      cases q : ds[i]? with
      | none => rw [q] at e; exact nomatch e
      | some x => rw [q] at e; exact nomatch e
    · rw [List.getElem?_append_right (by simpa using h), List.getElem?_replicate] at e
      split at e <;> exact nomatch e
  have sub : ∀ {a}, ownO O (ent N.length ds) (L2.start N vs) a → O a := fun h => h.elim id fun ⟨i, d, h1, _⟩ => absurd h1 (noown i d)
  refine ⟨?_, fun i d e => ?_, fun i d e => absurd e (noown i d), fun i j d e a h1 => absurd h1 (noown i d), hb, bO, od, t, Ext.refl H, fun a o e => by cases e⟩
  · unfold ent L2.start
    simp
    omega
  · unfold ent at e
    by_cases h : i < ds.length
    · rw [List.getElem?_append_left (by simpa using h), List.getElem?_map] at e
      cases q : ds[i]? with
      | none => rw [q] at e; exact nomatch e
      | some x =>
        rw [q] at e
        cases e
        obtain ⟨v, h1, h2⟩ := r.get q
        refine ⟨v, ?_, h2.mono (vis_sub fun a h => sub h)⟩
        unfold L2.start
        rw [List.getElem?_append_left (by rw [List.length_map, ← hlen]; exact h), List.getElem?_map, h1]
        rfl
    · rw [List.getElem?_append_right (by simpa using h), List.getElem?_replicate] at e
      split at e <;> exact nomatch e
/-- a def's body as it stands in its frame -/
abbrev bpOf (K : PySem.W.Frag) (mg : Str → Option Value) (T : List NdefX.NTab) (fns : List Addr) (bo : Option Addr) (O : Addr → Prop) (H : Hp) (E : XK) (P : Hp) : BP := ⟨⟨K, mg, fns, bo⟩, T, O, H, fun cls d _ H' => E cls d H', P⟩
theorem end_of {fns : List Addr} {bo : Option Addr} {O : Addr → Prop} {H : Hp} {Q : VK} {E : XK} {P : Hp} {r : RS} (h : match r.toR with
    | .ok w b' => ∀ v H', Ext bo H H' → BwOk bo b' H' → NdefX.TabsN T H' → RepW ⟨K, mg, fns, bo⟩ O H H' w v → Q v H'
    | .err c fs b' => ∀ cls d H', Ext bo H H' → BwOk bo b' H' → NdefX.TabsN T H' → RepX ⟨K, mg, fns, bo⟩ (vis H' O) c fs cls d → E cls d H'
    | .bad => False) : wpS (bpOf K mg T fns bo O H E P) r { nx := fun _ H' => Q .non H', rt := Q } := by
  cases r with
  | nx env b => exact fun σ' H' I => h .non H' I.ext I.bow I.tab rfl
  | rt w b => exact fun v H' e1 e2 e3 e4 => h v H' e1 e2 e3 e4
  | bk env b => exact False.elim h
  | ct env b => exact False.elim h
  | err c fs b => exact fun cls d σ H' e1 e2 e3 e4 => h cls d H' e1 e2 e3 e4
  | bad => exact False.elim h
theorem fn_okD {x qual : Str} {params : Arguments} {body : List Stmt} {scope : Scope} {f : Addr} {fd : FuncData} {N ps : List Str} {k : Nat} {dv : Sv} (F : FunD K x qual params body scope [] [] f fd) (S : FnScope N ps scope)
    (hb : ∀ (fns : List Addr) (bo : Option Addr) (O : Addr → Prop) (P : Hp) (cdv : Value) (A : Around) (outer : List PySem.Env) (s : Shared) (H : Hp) (E : XK), Room k (A.deeper (envOfC qual scope s.heap.objs.size f cdv)) →
      DSs (bpOf K mg T fns bo O H E P) (cxOf (L2.CX Pg w) Pg w K mg base N qual scope f cdv A outer s H E) body dv) :
    FnOk Pg w K mg base (L2.CX Pg w) (k + 1) f fd ps (spD K mg T ps.length (mir dv ps.length N.length)) := by
  have hN : ps.length ≤ N.length := by
    have q := congrArg List.length S.pre
    rw [List.length_take] at q
    omega
  refine F.ok S (fun vs H Q E h => ?_) (fun cdv A outer s H vs Q E hr h => ?_)
  · obtain ⟨_, _, _, ds, _, h1, h2, _⟩ := h
    rw [← h2.length]
    exact h1
  · obtain ⟨fns, bo, O, ds, b, h1, h2, h3, h4, h5, h6, h7⟩ := h
    refine ⟨_, hb fns bo O (fun _ => none) cdv A outer s H E hr, ent N.length ds, b, ent_rel (by rw [← h2.length, h1]; exact hN) h2 h3 h4 h5 h6, ?_⟩
    unfold mir at h7
    rw [if_pos h1] at h7
    exact end_of h7
/-- a def of the module, as a caller takes it -/
structure Cal (Pg : Program) (w : World) (K : PySem.W.Frag) (mg : Str → Option Value) (base : Heap) (T : List NdefX.NTab) (k : Nat) (x : Str) (ps : List Str) (m : Mir) : Prop where
  ex : ∃ (f : Addr) (fd : FuncData), FnOk Pg w K mg base (L2.CX Pg w) k f fd ps (spD K mg T ps.length m) ∧ mg x = some (.ref f) ∧ PySem.W.keepIn K (.ref f) = true ∧ Binds K fd ps []
theorem Cal.mono {j k : Nat} {x : Str} {ps : List Str} {m : Mir} (c : Cal Pg w K mg base T j x ps m) (h : j ≤ k) : Cal Pg w K mg base T k x ps m := by
  obtain ⟨f, fd, a, b⟩ := c.ex
  exact ⟨f, fd, a.mono h, b⟩
theorem Cal.eq {k : Nat} {x : Str} {ps : List Str} {m m' : Mir} (c : Cal Pg w K mg base T k x ps m) (h : m = m') : Cal Pg w K mg base T k x ps m' := h ▸ c
end
/-! ### calls -/
def dCall (m : Mir) (A : EvA) : Ev := fun env b => (A env b).bind fun ds b1 => m ds b1
section
variable {B : BP} {X : Cx} {e : Expr} {es : List Expr} {x : Str} {p pos : Pos} {σ : L2.St} {H : Hp} {Q : VK}
/-- what a call asks -/
theorem sp_of {m : Mir} {n : Nat} {env : Sls} {b1 : Bw} {H1 : Hp} {ds : List D} {vs : List V} (hn : ds.length = n ∨ m ds b1 = .bad) (I : Rel B env b1 σ H1) (x1 : Ext B.R.bo H H1) (r : RepL B.R (vis H1 (ownO B.O env σ)) ds vs) (w : wpG B RepW (ownO B.O env σ) H (m ds b1) σ Q) :
    spD B.R.K B.R.mg B.T n m vs H1 Q (WE B.W σ) := by
  have hn' : ds.length = n := hn.resolve_right fun z => by rw [z] at w; exact w
  refine ⟨B.R.fns, B.R.bo, ownO B.O env σ, ds, b1, hn', r, I.bow, fun a q => I.bOO q, fun a q => I.od q, I.tab, ?_⟩
  cases e : m ds b1 with
  | ok v b2 =>
    rw [e] at w
    exact fun u H' e1 e2 e3 e4 => w u H' (x1.trans e1) e2 e3 (RepW.back e4 x1.dom)
  | err c fs b2 =>
    rw [e] at w
    exact fun cls d H' e1 e2 e3 e4 => w cls d H' (x1.trans e1) e2 e3 e4
  | bad =>
    rw [e] at w
    exact w
def Fits (n : Nat) (m : Mir) : Prop := ∀ ds b, ds.length ≠ n → m ds b = .bad
theorem mir_fits {dv : Sv} {n N : Nat} : Fits n (mir dv n N) := fun ds b h => by
  unfold mir
  rw [if_neg h]
theorem rd_call {m : Mir} {A : EvA} {n : Nat} (hf : Fits n m) (h : rdE B (dCall m A) σ H Q) : rdA B A σ H fun vs H1 => spD B.R.K B.R.mg B.T n m vs H1 Q (WE B.W σ) :=
  rd_bind (k := fun ds _ b1 => m ds b1) h fun env ds b1 vs H1 I1 x1 r1 w => sp_of (by
    by_cases q : ds.length = n
    · exact .inl q
    · exact .inr (hf ds b1 q)) I1 x1 r1 w
theorem de_call {k : Nat} {ps : List Str} {m : Mir} {A : EvA} (c : Cal X.prog X.w X.K X.mg X.base B.T k x ps m) (hf : Fits ps.length m) (hr : Room k X.A) (tk : Takes X B.W) (hg : Gl X x) (ha : DA B X (e :: es) A) (hK : B.R.K = X.K := by rfl) (hM : B.R.mg = X.mg := by rfl)
    (hdb : (x == ("__debug__" : Str)) = false := by decide) (he : starEach (e :: es) X.env = (false, eval e X.env) :: starEach es X.env := by rfl) (hpl : (backTo pos (starEach es X.env)).any (·.1) = false := by rfl) :
    DE B X (.Call (.Name x p) (e :: es) [] pos) (dCall m A) := by
  obtain ⟨f, fd, F, hm, hk, hb⟩ := c.ex
  refine imp_PE (pe_callSD F hr hg hm hk hb .nil (fun σ => passAt tk σ) ha hdb he hpl) fun σ H Q h => ?_
  have z := rd_call hf h
  rw [hK, hM] at z
  show rdA B A σ H fun vs H1 => spD X.K X.mg B.T ps.length m (vs ++ []) H1 Q (WE B.W σ)
  simpa only [List.append_nil] using z
end
/-! ### targets -/
abbrev Bd := D → Sls → Option Sls
def bName (i : Nat) : Bd := fun d env => some (env.set i (.val d))
def bEach : List Bd → List D → Sls → Option Sls
  | [], [], env => some env
  | t :: ts, d :: ds, env => (t d env).bind fun e => bEach ts ds e
  | _, _, _ => none
def bTup (ts : List Bd) : Bd := fun d env => match d with
  | .tup l => bEach ts l env
  | _ => none
def rdG (B : BP) (is : List Nat) (bd : Bd) : TG := fun v σ H Q => ∃ env b d env', Rel B env b σ H ∧ Rep B.R (vis H (ownO B.O env σ)) d v ∧ bd d env = some env' ∧
  ∀ σ', Rel B env' b σ' H → Sub (vis H (ownO B.O env σ)) (vis H (ownO B.O env' σ')) → σ'.length = σ.length → (∀ j, j ∉ is → σ'[j]? = σ[j]?) → (∀ j : Nat, j ∉ is → env'[j]? = env[j]?) → Q σ' H
def rdGs (B : BP) (is : List Nat) (bd : List D → Sls → Option Sls) : TGs := fun vs σ H Q => ∃ env b ds env', Rel B env b σ H ∧ RepL B.R (vis H (ownO B.O env σ)) ds vs ∧ bd ds env = some env' ∧
  ∀ σ', Rel B env' b σ' H → Sub (vis H (ownO B.O env σ)) (vis H (ownO B.O env' σ')) → σ'.length = σ.length → (∀ j, j ∉ is → σ'[j]? = σ[j]?) → (∀ j : Nat, j ∉ is → env'[j]? = env[j]?) → Q σ' H
abbrev DG (B : BP) (X : Cx) (tg : Expr) (is : List Nat) (bd : Bd) : Prop := PG X tg (rdG B is bd)
abbrev DGs (B : BP) (X : Cx) (tgs : List Expr) (is : List Nat) (bds : List Bd) : Prop := PGs X tgs (rdGs B is (bEach bds))
theorem imp_PG {X : Cx} {e : Expr} {t u : TG} (h : PG X e t) (hi : ∀ v σ H Q, u v σ H Q → t v σ H Q) : PG X e u := ⟨fun pins s σ H v y Q I r q => h.run pins s σ H v y Q I r (hi v σ H Q q)⟩
theorem imp_PGs {X : Cx} {e : List Expr} {t u : TGs} (h : PGs X e t) (hi : ∀ v σ H Q, u v σ H Q → t v σ H Q) : PGs X e u := ⟨fun pins s σ H v y Q I r q => h.run pins s σ H v y Q I r (hi v σ H Q q)⟩
section
variable {B : BP} {X : Cx} {tg : Expr} {tgs : List Expr} {pos : Pos} {x : Str}
theorem Rel.setV {env : Sls} {b : Bw} {σ : L2.St} {H : Hp} {i : Nat} {d : D} {v : V} (I : Rel B env b σ H) (r : Rep B.R (vis H (ownO B.O env σ)) d v) : Rel B (env.set i (.val d)) b (σ.set i (some v)) H :=
  I.set (w := .val d) (Ext.refl H) I.bow I.tab r
theorem own_setV {O : Addr → Prop} {env : Sls} {σ : L2.St} {i : Nat} {d : D} {v : V} {a : Addr} (h : ownO O (env.set i (.val d)) (σ.set i (some v)) a) : ownO O env σ a :=
  (own_set h).elim id fun ⟨d, e, _⟩ => nomatch e
theorem dg_name {i : Nat} (hN : X.N.Nodup) (hi : X.N[i]? = some x := by rfl) (hx : Loc X.env.scope x := by first | exact Or.inl rfl | exact Or.inr rfl) (hf : X.fn x = true ∨ X.env.scope.names.lookup x = some .local := by first | exact .inl rfl | exact .inr rfl) : DG B X (.Name x pos) [i] (bName i) :=
  imp_PG (pg_name hN hi hx hf) fun v σ H Q h => by
    obtain ⟨env, b, d, env', I, r, e, q⟩ := h
    cases e
    exact q _ (I.setV r) (vis_sub fun a z => own_setV z) (by simp) (fun j hj => by
      rw [List.getElem?_set_ne (fun z => hj (by simp [z]))]) fun j hj => by
      rw [List.getElem?_set_ne (fun z => hj (by simp [z]))]
theorem dgs_nil : DGs B X [] [] [] := imp_PGs pgs_nil fun v σ H Q h => by
  obtain ⟨env, b, ds, env', I, r, e, q⟩ := h
  cases ds with
  | nil =>
    cases r
    cases e
    exact ⟨rfl, q σ I (Sub.refl _) rfl (fun _ _ => rfl) fun _ _ => rfl⟩
  | cons d ds => cases e
theorem dgs_cons {is js : List Nat} {bd : Bd} {bds : List Bd} (h1 : DG B X tg is bd) (h2 : DGs B X tgs js bds) (hs : (assignEach (tg :: tgs) X.env).map (·.2) = assign tg X.env :: (assignEach tgs X.env).map (·.2) := by rfl) : DGs B X (tg :: tgs) (is ++ js) (bd :: bds) :=
  imp_PGs (pgs_cons h1 h2 hs) fun vs σ H Q h => by
    obtain ⟨env, b, ds, env', I, r, e, q⟩ := h
    cases ds with
    | nil => cases e
    | cons d ds =>
      obtain ⟨v, vr, rfl, r1, r2⟩ := r
      cases e1 : bd d env with
      | none =>
        simp [bEach, e1] at e
      | some env1 =>
        simp [bEach, e1] at e
        refine ⟨v, vr, rfl, env, b, d, env1, I, r1, e1, fun σ1 I1 s1 l1 k1 g1 => ⟨env1, b, ds, env', I1, r2.mono s1, e, fun σ2 I2 s2 l2 k2 g2 => q σ2 I2 (s1.trans s2) (l2.trans l1) (fun j hj => ?_) fun j hj => ?_⟩⟩
        · rw [k2 j (fun z => hj (by simp [z])), k1 j (fun z => hj (by simp [z]))]
        · rw [g2 j (fun z => hj (by simp [z])), g1 j (fun z => hj (by simp [z]))]
theorem dg_tup {is : List Nat} {bds : List Bd} {k n : Nat} (hc : X.calm = true) (h : DGs B X tgs is bds) (hK : B.R.K = X.K := by rfl) (hl : bds.length = n := by rfl)
    (hn : (assignEach tgs X.env).length = n := by rfl) (hst : (assignEach tgs X.env).findIdx? (·.1) = none := by rfl) : DG B X (.Tuple tgs k pos) is (bTup bds) :=
  imp_PG (pg_tup hc h hn hst) fun v σ H Q h => by
    obtain ⟨env, b, d, env', I, r, e, q⟩ := h
    cases d with
    | tup l =>
      obtain ⟨a, vs, rfl, h1, h2, h3⟩ := r
      have len : ∀ (bs : List Bd) (l : List D) (env env' : Sls), bEach bs l env = some env' → l.length = bs.length := by
        intro bs
        induction bs with
        | nil =>
          intro l env env' e
          cases l with
          | nil => rfl
          | cons d l => cases e
        | cons t ts ih =>
          intro l env env' e
          cases l with
          | nil => cases e
          | cons d l =>
            cases e1 : t d env with
            | none => simp [bEach, e1] at e
            | some env1 =>
              simp [bEach, e1] at e
              simp [ih l env1 env' e]
      exact ⟨a, vs, rfl, by rw [← hK]; exact vis_sqt h1, by rw [← h2.length, len _ _ _ _ e, hl], env, b, l, env', I, h2, e, q⟩
    | _ => cases e
end
end DL

set_option Elab.async false
set_option linter.all false
set_option maxRecDepth 100000
set_option maxHeartbeats 4000000
namespace DL
open PySem PySem.Spec PyProof.Rows L2

/-! ### what is walked -/
/-- J yields the things ds, wherever Pi and (visibly) Pv stand -/
def ItRep (R : RC) (Pi Pv : Hp) (J : It) (ds : List D) : Prop := ∀ (H : Hp) (O : Addr → Prop), Sub Pi H → Sub Pv (vis H O) → (∀ a, H a = none → ¬ O a) →
  (∀ (i : Nat) (d : D), ds[i]? = some d → J.go i H ∧ ∀ x H', J.yld i H x H' → Same H H' ∧ Rep R (vis H' O) d x) ∧ J.stop ds.length H
def rhoI : Rho (List D) It := fun R O _ H' ds J => ItRep R (vis H' O) (vis H' O) J ds ∧ ds.length ≤ LIM
/-- .. a list of the body's own, too -/
def rhoJ (O0 : Addr → Prop) : Rho (List D) It := fun R O _ H' ds J => ItRep R (vis H' O0) (vis H' O) J ds ∧ ds.length ≤ LIM
abbrev EvI := Sls → Bw → Res (List D)
abbrev rdI (B : BP) (evi : EvI) : TI := rd B rhoI evi
abbrev rdJ (B : BP) (evi : EvI) : TI := rd B (rhoJ B.O) evi
abbrev DI (B : BP) (X : Cx) (tg e : Expr) (evi : EvI) : Prop := PI X tg e (rdI B evi)
abbrev DJ (B : BP) (X : Cx) (tg e : Expr) (evi : EvI) : Prop := PI X tg e (rdJ B evi)
theorem imp_PI {X : Cx} {tg e : Expr} {t u : TI} (h : PI X tg e t) (hi : ∀ σ H Q, u σ H Q → t σ H Q) : PI X tg e u := ⟨fun pins s σ H Q I q => h.run pins s σ H Q I (hi σ H Q q)⟩
section
variable {B : BP} {X : Cx} {tg e : Expr} {ev : Ev} {evi : EvI}
theorem di_dj (h : DI B X tg e evi) : DJ B X tg e evi := imp_PI h fun σ H Q w => by
  obtain ⟨env, b, I, w⟩ := w
  refine ⟨env, b, I, ?_⟩
  cases q : evi env b with
  | ok ds b1 =>
    rw [q] at w
    exact fun J H' e1 e2 e3 e4 => w J H' e1 e2 e3 ⟨fun H2 O s1 s2 od => e4.1 H2 O ((vis_sub fun a z => .inl z).trans s1) s2 od, e4.2⟩
  | err c fs b1 =>
    rw [q] at w
    exact w
  | bad =>
    rw [q] at w
    exact w
/-- a list as it stands -/
theorem it_list {R : RC} {Pi Pv : Hp} {a : Addr} {vs : List V} {ds : List D} (h : SqL R.K Pi a vs) (r : RepL R Pv ds vs) : ItRep R Pi Pv (Itl R.K a) ds := fun H O s1 s2 od => by
  have hH := s1.seq h
  refine ⟨fun i d e => ?_, ⟨vs, hH, by rw [r.length]; exact Nat.le_refl _⟩⟩
  obtain ⟨v, e1, r1⟩ := r.get e
  refine ⟨⟨vs, v, hH, e1⟩, fun x H' y => ?_⟩
  obtain ⟨rfl, y⟩ := y
  have z := y vs hH
  rw [e1] at z
  cases z
  exact ⟨Same.refl _, r1.mono s2⟩
theorem it_tup {R : RC} {Pi Pv : Hp} {a : Addr} {vs : List V} {ds : List D} (h : SqT R.K Pi a vs) (r : RepL R Pv ds vs) : ItRep R Pi Pv (Itt R.K a) ds := fun H O s1 s2 od => by
  have hH := s1.tup h
  refine ⟨fun i d e => ?_, ⟨vs, hH, by rw [r.length]; exact Nat.le_refl _⟩⟩
  obtain ⟨v, e1, r1⟩ := r.get e
  refine ⟨⟨vs, v, hH, e1⟩, fun x H' y => ?_⟩
  obtain ⟨rfl, y⟩ := y
  have z := y vs hH
  rw [e1] at z
  cases z
  exact ⟨Same.refl _, r1.mono s2⟩
theorem it_rng {R : RC} {Pi Pv : Hp} {lo : Int} {n : Nat} : ItRep R Pi Pv (Itr lo n) ((List.range n).map fun i => .int (lo + (i : Nat))) := fun H O s1 s2 od => by
  refine ⟨fun i d e => ?_, by show n ≤ _; simp⟩
  rw [List.getElem?_map] at e
  by_cases hi : i < n
  · rw [List.getElem?_range hi] at e
    cases e
    exact ⟨hi, fun x H' y => by obtain ⟨rfl, rfl⟩ := y; exact ⟨Same.refl _, rfl⟩⟩
  · rw [List.getElem?_eq_none (by simpa using hi)] at e
    cases e
/-- a list or a tuple -/
def dSeqI (ev : Ev) : EvI := fun env b => (ev env b).bind fun w b1 => match w.d with
  | .lst l => .ok l b1
  | .tup l => .ok l b1
  | _ => .bad
theorem di_seq (h : DE B X e ev) (hK : B.R.K = X.K := by rfl) : DI B X tg e (dSeqI ev) := by
  refine ⟨fun pins s σ H R I w => ?_⟩
  obtain ⟨env, b, J, w⟩ := w
  have w : wpG B rhoI (ownO B.O env σ) H ((ev env b).bind fun w b1 => match w.d with | .lst l => .ok l b1 | .tup l => .ok l b1 | _ => .bad) σ R := w
  cases q : ev env b with
  | bad =>
    rw [q] at w
    exact False.elim w
  | err c fs b1 =>
    rw [q] at w
    refine (pi_list h).run pins s σ H R I ⟨env, b, J, ?_⟩
    rw [q]
    exact w
  | ok a b1 =>
    rw [q] at w
    have w : wpG B rhoI (ownO B.O env σ) H (match a.d with | .lst l => .ok l b1 | .tup l => .ok l b1 | _ => .bad) σ R := w
    cases z : a.d with
    | lst l =>
      rw [z] at w
      refine (pi_list h).run pins s σ H R I ⟨env, b, J, ?_⟩
      rw [q]
      intro x H1 e1 e2 e3 e4
      have r := e4.rep
      rw [z] at r
      obtain ⟨a1, vs, rfl, r1, r2, r3⟩ := r
      refine ⟨a1, rfl, ⟨vs, by rw [← hK]; exact vis_sql r1⟩, ?_⟩
      rw [← hK]
      exact w _ H1 e1 e2 e3 ⟨it_list r1 r2, r3⟩
    | tup l =>
      rw [z] at w
      refine (pi_tup h).run pins s σ H R I ⟨env, b, J, ?_⟩
      rw [q]
      intro x H1 e1 e2 e3 e4
      have r := e4.rep
      rw [z] at r
      obtain ⟨a1, vs, rfl, r1, r2, r3⟩ := r
      refine ⟨a1, rfl, ⟨vs, by rw [← hK]; exact vis_sqt r1⟩, ?_⟩
      rw [← hK]
      exact w _ H1 e1 e2 e3 ⟨it_tup r1 r2, r3⟩
    | _ =>
      rw [z] at w
      exact False.elim w
/-- a list of the body's own, in a comprehension -/
def dOwnI (i : Nat) : EvI := fun env b => match env[i]? with
  | some (.own (.lst l)) => .ok l b
  | some (.val (.lst l)) => .ok l b
  | _ => .bad
theorem dj_own (i : Nat) {x : Str} {pos : Pos} (hK : B.R.K = X.K := by rfl) (hN : X.N[i]? = some x := by rfl) (hv : Vis X.env.scope x := by first | exact Or.inl rfl | exact Or.inr (Or.inl rfl) | exact Or.inr (Or.inr rfl)) (hd : (x == ("__debug__" : Str)) = false := by decide)
    (hcd : (x == ("__classdict__" : Str)) = false := by decide) : DJ B X tg (.Name x pos) (dOwnI i) := imp_PI (pi_list (pe_var hN hv hd hcd)) fun σ H R w => by
  obtain ⟨env, b, I, w⟩ := w
  unfold dOwnI at w
  cases e : env[i]? with
  | none =>
    rw [e] at w
    exact False.elim w
  | some s =>
    rw [e] at w
    cases s with
    | un => exact False.elim w
    | val d =>
      cases d with
      | lst l =>
        obtain ⟨v, h1, h2⟩ := I.val i _ e
        obtain ⟨a, vs, rfl, r1, r2, r3⟩ := h2
        refine ⟨.ref a, h1, a, rfl, ⟨vs, by rw [← hK]; exact vis_sql r1⟩, ?_⟩
        rw [← hK]
        exact w _ H (Ext.refl H) I.bow I.tab ⟨it_list ((vis_sub fun a z => .inl z).seq r1) r2, r3⟩
      | _ => exact False.elim w
    | own d =>
      cases d with
      | lst l =>
        obtain ⟨a, h1, h2, h3, h4⟩ := I.own i _ e
        obtain ⟨vs, r1, r2, r3⟩ := h4
        refine ⟨.ref a, h1, a, rfl, ⟨vs, .inl (.inl r1)⟩, ?_⟩
        rw [← hK]
        exact w _ H (Ext.refl H) I.bow I.tab ⟨it_list (.inl (.inl (vis_of r1 h2))) r2, r3⟩
      | _ => exact False.elim w
/-! ### range -/
def rngOk (n : Int) : Bool := decide (n ≤ 500000) && decide (-500000 ≤ n)
def rngL (lo hi : Int) : List D := (List.range (hi - lo).toNat).map fun i => .int (lo + (i : Nat))
def rng1 (d : D) (b : Bw) : Res (List D) := match d with
  | .int n => if rngOk n then .ok (rngL 0 n) b else .bad
  | _ => .bad
def rng2 (d e : D) (b : Bw) : Res (List D) := match d, e with
  | .int m, .int n => if rngOk m && rngOk n then .ok (rngL m n) b else .bad
  | _, _ => .bad
def dRng1 (ea : Ev) : EvI := fun env b => (ea env b).bind fun w b1 => rng1 w.d b1
def dRng2 (ea eb : Ev) : EvI := fun env b => (ea env b).bind fun w b1 => (eb env b1).bind fun u b2 => rng2 w.d u.d b2
theorem rng_ok {n : Int} (h : rngOk n = true) : n ≤ 500000 ∧ -500000 ≤ n := by
  unfold rngOk at h
  rw [Bool.and_eq_true] at h
  exact ⟨of_decide_eq_true h.1, of_decide_eq_true h.2⟩
variable {a c : Expr} {ea eb : Ev} {p pos : Pos}
theorem rng_len {m n : Int} (h1 : -500000 ≤ m) (h2 : n ≤ 500000) : (rngL m n).length ≤ LIM := by
  unfold rngL LIM
  rw [List.length_map, List.length_range]
  omega
theorem di_rng1 (hg : Gl X "range") (hm : X.mg "range" = none) (ha : DE B X a ea) (hs : starEach [a] X.env = [(false, eval a X.env)] := by rfl) : DI B X tg (.Call (.Name "range" p) [a] [] pos) (dRng1 ea) :=
  imp_PI (pi_range1 hg hm (pa_cons ha pa_nil hs) hs) fun σ H R w => by
    refine rd_bind (ρ := rhoI) (k := fun (w : Wv) _ b1 => rng1 w.d b1) w fun env w1 b1 x H1 I1 x1 r1 w => ?_
    have r := r1.rep
    cases z : w1.d with
    | int n =>
      rw [z] at r w
      cases (show x = .int n from r)
      have w : wpG B rhoI (ownO B.O env σ) H (if rngOk n = true then .ok (rngL 0 n) b1 else .bad) σ R := w
      by_cases hn : rngOk n = true
      · rw [if_pos hn] at w
        have hh := rng_ok hn
        refine ⟨n, rfl, by omega, by omega, wpG_ok (x := Itr 0 n.toNat) w x1 I1.bow I1.tab ?_⟩
        have q := it_rng (R := B.R) (Pi := vis H1 (ownO B.O env σ)) (Pv := vis H1 (ownO B.O env σ)) (lo := 0) (n := n.toNat)
        refine ⟨?_, rng_len (by omega) hh.1⟩
        unfold rngL
        rw [Int.sub_zero]
        exact q
      · rw [if_neg hn] at w
        exact False.elim w
    | _ =>
      rw [z] at w
      exact False.elim w
theorem di_rng2 (hg : Gl X "range") (hm : X.mg "range" = none) (ha : DE B X a ea) (hb : DE B X c eb) (hs : starEach [a, c] X.env = [(false, eval a X.env), (false, eval c X.env)] := by rfl) (hs2 : starEach [c] X.env = [(false, eval c X.env)] := by rfl) :
    DI B X tg (.Call (.Name "range" p) [a, c] [] pos) (dRng2 ea eb) :=
  imp_PI (pi_range2 hg hm (pa_cons ha (pa_cons hb pa_nil hs2) (by rw [hs, hs2])) hs hs2) fun σ H R w => by
    refine rd_bind2 (ρ := rhoI) (k := fun (w u : Wv) _ b2 => rng2 w.d u.d b2) staysW staysW w fun env w1 w2 b2 x y H2 I2 x2 r1 r2 w => ?_
    have r1 := r1.rep
    have r2 := r2.rep
    cases z1 : w1.d with
    | int m =>
      cases z2 : w2.d with
      | int n =>
        rw [z1] at r1 w
        rw [z2] at r2 w
        cases (show x = .int m from r1)
        cases (show y = .int n from r2)
        have w : wpG B rhoI (ownO B.O env σ) H (if (rngOk m && rngOk n) = true then .ok (rngL m n) b2 else .bad) σ R := w
        by_cases hn : (rngOk m && rngOk n) = true
        · rw [if_pos hn] at w
          rw [Bool.and_eq_true] at hn
          have h1 := rng_ok hn.1
          have h2 := rng_ok hn.2
          exact ⟨m, n, rfl, ⟨by omega, by omega, by omega, by omega⟩, wpG_ok (x := Itr m (n - m).toNat) w x2 I2.bow I2.tab ⟨it_rng, rng_len h1.2 h2.1⟩⟩
        · rw [if_neg hn] at w
          exact False.elim w
      | _ =>
        rw [z1, z2] at w
        exact False.elim w
    | _ =>
      rw [z1] at w
      exact False.elim w
end

/-! ### for -/
def forL (bd : Bd) (body : Sv) : List D → Sv
  | [], env, b => .nx env b
  | d :: ds, env, b => match bd d env with
    | none => .bad
    | some e => match body e b with
      | .nx e' b' => forL bd body ds e' b'
      | .ct e' b' => forL bd body ds e' b'
      | .bk e' b' => .nx e' b'
      | .rt w b' => .rt w b'
      | .err c fs b' => .err c fs b'
      | .bad => .bad
def dFor (evi : EvI) (bd : Bd) (body : Sv) : Sv := fun env b => match evi env b with
  | .ok ds b1 => forL bd body ds env b1
  | .err c fs b => .err c fs b
  | .bad => .bad
abbrev BP.at (B : BP) (P : Hp) : BP := { B with P := P }
theorem Rel.atP {B : BP} {env : Sls} {b : Bw} {σ : L2.St} {H P : Hp} (I : Rel B env b σ H) (h : Sub P (vis H (ownO B.O env σ))) : Rel (B.at P) env b σ H := ⟨I.len, I.val, I.own, I.sep, I.bow, I.bO, I.odom, I.tab, I.ext, h⟩
section
variable {B : BP} {X : Cx} {tg iter : Expr} {evi : EvI} {bd : Bd} {is : List Nat} {body : Sv} {sts : List Stmt} {pos : Pos}
/-- the wish at a state of a wider pin -/
theorem wpS_at {P : Hp} {r : RS} {D : Ends} (hP : Sub B.P P) (h : wpS B r D) : wpS (B.at P) r D := by
  have back : ∀ {env b σ H}, Rel (B.at P) env b σ H → Rel B env b σ H := fun I => ⟨I.len, I.val, I.own, I.sep, I.bow, I.bO, I.odom, I.tab, I.ext, hP.trans I.pin⟩
  cases r with
  | nx env b => exact fun σ H I => h σ H (back I)
  | rt w b => exact h
  | bk env b => exact fun σ H I => h σ H (back I)
  | ct env b => exact fun σ H I => h σ H (back I)
  | err c fs b => exact h
  | bad => exact h
theorem Rel.back {P : Hp} (hP : Sub B.P P) {env : Sls} {b : Bw} {σ : L2.St} {H : Hp} (I : Rel (B.at P) env b σ H) : Rel B env b σ H := ⟨I.len, I.val, I.own, I.sep, I.bow, I.bO, I.odom, I.tab, I.ext, hP.trans I.pin⟩
theorem rd_for {D : Ends} {σ : L2.St} {H : Hp} (w : rdS B (dFor evi bd body) D σ H) :
    tFor (rdI B evi) (fun v σ H Q => ∃ P, rdG (B.at P) is bd v σ H Q) (fun D σ H => ∃ P, rdS (B.at P) body D σ H) D σ H := by
  obtain ⟨env, b, J, w⟩ := w
  unfold dFor at w
  refine ⟨env, b, J, ?_⟩
  cases q : evi env b with
  | bad =>
    rw [q] at w
    exact False.elim w
  | err c fs b1 =>
    rw [q] at w
    exact err_of J w
  | ok ds b1 =>
    rw [q] at w
    intro Jt H1 e1 e2 e3 e4
    have J1 := J.go e1 e2 e3
    generalize hP : vis H1 (ownO B.O env σ) = P at e4
    have e4 : ItRep B.R P P Jt ds := by
      have z : ItRep B.R (vis H1 (ownO B.O env σ)) (vis H1 (ownO B.O env σ)) Jt ds := e4.1
      rw [hP] at z
      exact z
    have hPP : Sub B.P P := hP ▸ J1.pin
    refine ⟨fun i m σ' H' => m = ds.length - i ∧ i ≤ ds.length ∧ ∃ env' b', Rel (B.at P) env' b' σ' H' ∧ wpS B (forL bd body (ds.drop i) env' b') D,
      ⟨ds.length, rfl, Nat.zero_le _, env, b1, J1.atP (hP ▸ Sub.refl _), w⟩, ?_⟩
    rintro i m σ' H' ⟨rfl, hi, env', b', I', w'⟩
    obtain ⟨items, stop⟩ := e4 H' (ownO B.O env' σ') (I'.pin.trans vis_all) I'.pin (Rel.nod (B := B.at P) I')
    by_cases hlt : i < ds.length
    · have hd : ds[i]? = some ds[i] := List.getElem?_eq_getElem hlt
      obtain ⟨go, yld⟩ := items i _ hd
      rw [List.drop_eq_getElem_cons hlt] at w'
      have w' : wpS B (match bd ds[i] env' with
        | none => .bad
        | some e => match body e b' with
          | .nx e' b' => forL bd body (ds.drop (i + 1)) e' b'
          | .ct e' b' => forL bd body (ds.drop (i + 1)) e' b'
          | .bk e' b' => .nx e' b'
          | .rt w b' => .rt w b'
          | .err c fs b' => .err c fs b'
          | .bad => .bad) D := w'
      cases hb : bd ds[i] env' with
      | none =>
        rw [hb] at w'
        exact False.elim w'
      | some env1 =>
        rw [hb] at w'
        refine .inr ⟨go, fun σ2 H2 => ∃ env2 b2, Rel (B.at P) env2 b2 σ2 H2 ∧ wpS B (forL bd body (ds.drop (i + 1)) env2 b2) D, fun σ2 H2 ⟨env2, b2, I2, w2⟩ => ⟨ds.length - (i + 1), by omega, rfl, hlt, env2, b2, I2, w2⟩, fun x H2 y => ?_⟩
        obtain ⟨sm, rx⟩ := yld x H2 y
        have I2 : Rel (B.at P) env' b' σ' H2 := I'.go (same_ext sm) (bw_same I'.bow sm) (tabs_same I'.tab sm)
        refine ⟨P, env', b', ds[i], env1, I2, rx, hb, fun σ3 I3 _ _ _ _ => ⟨P, env1, b', I3, ?_⟩⟩
        have w' : wpS B (match body env1 b' with
          | .nx e' b' => forL bd body (ds.drop (i + 1)) e' b'
          | .ct e' b' => forL bd body (ds.drop (i + 1)) e' b'
          | .bk e' b' => .nx e' b'
          | .rt w b' => .rt w b'
          | .err c fs b' => .err c fs b'
          | .bad => .bad) D := w'
        cases hr : body env1 b' with
        | nx e2 b2 =>
          rw [hr] at w'
          exact fun σ4 H4 I4 => ⟨e2, b2, I4, w'⟩
        | ct e2 b2 =>
          rw [hr] at w'
          exact fun σ4 H4 I4 => ⟨e2, b2, I4, w'⟩
        | bk e2 b2 =>
          rw [hr] at w'
          exact fun σ4 H4 I4 => w' σ4 H4 (Rel.back hPP I4)
        | rt v b2 =>
          rw [hr] at w'
          exact w'
        | err c fs b2 =>
          rw [hr] at w'
          exact w'
        | bad =>
          rw [hr] at w'
          exact w'
    · have e : i = ds.length := by omega
      subst e
      rw [List.drop_length] at w'
      exact .inl ⟨stop, w' σ' H' (Rel.back hPP I')⟩
theorem ds_for (hp : PassesOwn (model X.prog X.w) X.A X.env X.xe) (hc : X.calm = true) (hi : DI B X tg iter evi) (hg : ∀ P, DG (B.at P) X tg is bd) (hb : ∀ P, DSs (B.at P) X sts body)
    (hs : ∀ x, foldedSetIterable iter X.env x = pure x := by intro _; rfl) : DS B X (.For tg iter sts [] pos) (dFor evi bd body) :=
  imp_PS (ps_for hp hc hi (g := fun v σ H Q => ∃ P, rdG (B.at P) is bd v σ H Q) (tb := fun D σ H => ∃ P, rdS (B.at P) body D σ H) ⟨fun pins s σ H v u Q I r ⟨P, h⟩ => (hg P).run pins s σ H v u Q I r h⟩ ⟨fun pins s σ H D I ⟨P, h⟩ => (hb P).run pins s σ H D I h⟩ hs) fun D σ H w => rd_for w

/-! ### while -/
def whN (t : EvT) (body : Sv) : Nat → Sv
  | 0, _, _ => .bad
  | n + 1, env, b => match t env b with
    | .ok c b1 => if c = true then (match body env b1 with
      | .nx e' b' => whN t body n e' b'
      | .ct e' b' => whN t body n e' b'
      | .bk e' b' => .nx e' b'
      | .rt w b' => .rt w b'
      | .err c fs b' => .err c fs b'
      | .bad => .bad) else .nx env b1
    | .err c fs b => .err c fs b
    | .bad => .bad
open Classical in
noncomputable def dWhile (t : EvT) (body : Sv) : Sv := fun env b => if h : ∃ n, whN t body n env b ≠ .bad then whN t body (choose h) env b else .bad
theorem whN_more {t : EvT} {body : Sv} : ∀ {n : Nat} {env : Sls} {b : Bw}, whN t body n env b ≠ .bad → whN t body (n + 1) env b = whN t body n env b
  | 0, _, _, h => absurd rfl h
  | n + 1, env, b, h => by
    unfold whN at h ⊢
    cases q : t env b with
    | bad => rfl
    | err c fs b1 => rfl
    | ok c b1 =>
      simp only [q] at h ⊢
      cases c with
      | false => rfl
      | true =>
        simp only [if_true] at h ⊢
        cases z : body env b1 with
        | nx e' b' =>
          simp only [z] at h ⊢
          exact whN_more h
        | ct e' b' =>
          simp only [z] at h ⊢
          exact whN_more h
        | _ => rfl
theorem whN_le {t : EvT} {body : Sv} {n m : Nat} {env : Sls} {b : Bw} (h : whN t body n env b ≠ .bad) (l : n ≤ m) : whN t body m env b = whN t body n env b := by
  induction l with
  | refl => rfl
  | step l ih => rw [whN_more (by rw [ih]; exact h), ih]
/-- what a while loop comes to, by any number of turns that suffices -/
theorem dWhile_eq {t : EvT} {body : Sv} (n : Nat) {env : Sls} {b : Bw} {r : RS} (h : whN t body n env b = r) (hr : r ≠ .bad) : dWhile t body env b = r := by
  have hn : whN t body n env b ≠ .bad := by rw [h]; exact hr
  have ex : ∃ n, whN t body n env b ≠ .bad := ⟨n, hn⟩
  unfold dWhile
  rw [dif_pos ex]
  have hc := Classical.choose_spec ex
  rw [← h, ← whN_le hc (Nat.le_max_left _ n), ← whN_le hn (Nat.le_max_right (Classical.choose ex) n)]
theorem rd_while {t : EvT} {D : Ends} {σ : L2.St} {H : Hp} (w : rdS B (dWhile t body) D σ H) : tWhile (rdT B t) (rdS B body) D σ H := by
  obtain ⟨env, b, J, w⟩ := w
  unfold dWhile at w
  by_cases ex : ∃ n, whN t body n env b ≠ .bad
  · rw [dif_pos ex] at w
    generalize Classical.choose ex = n at w
    refine ⟨fun m σ' H' => ∃ env' b', Rel B env' b' σ' H' ∧ wpS B (whN t body m env' b') D, ⟨n, env, b, J, w⟩, ?_⟩
    rintro m σ' H' ⟨env', b', I', w'⟩
    cases m with
    | zero => exact False.elim w'
    | succ m =>
      unfold whN at w'
      refine ⟨env', b', I', ?_⟩
      cases q : t env' b' with
      | bad =>
        rw [q] at w'
        exact False.elim w'
      | err c fs b1 =>
        rw [q] at w'
        exact err_of I' w'
      | ok c b1 =>
        rw [q] at w'
        intro y H1 e1 e2 e3 e4
        cases (show c = y from e4)
        have J1 := I'.go e1 e2 e3
        cases c with
        | false => exact w' σ' H1 J1
        | true =>
          have w' : wpS B (match body env' b1 with
            | .nx e' b' => whN t body m e' b'
            | .ct e' b' => whN t body m e' b'
            | .bk e' b' => .nx e' b'
            | .rt w b' => .rt w b'
            | .err c fs b' => .err c fs b'
            | .bad => .bad) D := w'
          refine ⟨fun σ2 H2 => ∃ env2 b2, Rel B env2 b2 σ2 H2 ∧ wpS B (whN t body m env2 b2) D, fun σ2 H2 h2 => ⟨m, Nat.lt_succ_self m, h2⟩, env', b1, J1, ?_⟩
          cases hr : body env' b1 with
          | nx e2 b2 =>
            rw [hr] at w'
            exact fun σ4 H4 I4 => ⟨e2, b2, I4, w'⟩
          | ct e2 b2 =>
            rw [hr] at w'
            exact fun σ4 H4 I4 => ⟨e2, b2, I4, w'⟩
          | bk e2 b2 =>
            rw [hr] at w'
            exact fun σ4 H4 I4 => w' σ4 H4 I4
          | rt v b2 =>
            rw [hr] at w'
            exact w'
          | err c fs b2 =>
            rw [hr] at w'
            exact w'
          | bad =>
            rw [hr] at w'
            exact w'
  · rw [dif_neg ex] at w
    exact False.elim w
theorem ds_while {c : Expr} {t : EvT} (hp : PassesOwn (model X.prog X.w) X.A X.env X.xe) (hc : DT B X c t) (hb : DSs B X sts body) : DS B X (.While c sts [] pos) (dWhile t body) :=
  imp_PS (ps_while hp hc hb) fun D σ H w => rd_while w
end
end DL

set_option Elab.async false
set_option linter.all false
set_option maxRecDepth 100000
set_option maxHeartbeats 4000000
namespace DL
open PySem PySem.Spec PyProof.Rows L2

/-! ### comprehensions -/
def wipeE (env : Sls) : List Nat → Sls
  | [] => env
  | v :: vs => (wipeE env vs).set v .un
def noOwn (env : Sls) (vs : List Nat) : Bool := vs.all fun i => match env[i]? with
  | some (.own _) => false
  | _ => true
theorem wipeE_length (env : Sls) : ∀ vs : List Nat, (wipeE env vs).length = env.length
  | [] => rfl
  | v :: vs => by unfold wipeE; rw [List.length_set, wipeE_length env vs]
theorem wipeE_val {env : Sls} {i : Nat} {s : Slot} (hs : s ≠ .un) : ∀ {vs : List Nat}, (wipeE env vs)[i]? = some s → env[i]? = some s ∧ i ∉ vs
  | [], h => ⟨h, by simp⟩
  | v :: vs, h => by
    unfold wipeE at h
    by_cases hi : v = i
    · subst hi
      by_cases hv : v < (wipeE env vs).length
      · rw [List.getElem?_set_self hv] at h
        cases h
        exact absurd rfl hs
      · rw [List.getElem?_eq_none (by simpa using hv)] at h
        cases h
    · rw [List.getElem?_set_ne hi] at h
      obtain ⟨h1, h2⟩ := wipeE_val hs h
      exact ⟨h1, by simp only [List.mem_cons, not_or]; exact ⟨fun e => hi e.symm, h2⟩⟩
theorem wipeE_keep {env : Sls} {i : Nat} : ∀ {vs : List Nat}, i ∉ vs → (wipeE env vs)[i]? = env[i]?
  | [], _ => rfl
  | v :: vs, h => by
    simp only [List.mem_cons, not_or] at h
    unfold wipeE
    rw [List.getElem?_set_ne (fun e => h.1 e.symm), wipeE_keep h.2]
theorem wipe_keep {σ : L2.St} {i : Nat} : ∀ {vs : List Nat}, i ∉ vs → (wipe σ vs)[i]? = σ[i]?
  | [], _ => rfl
  | v :: vs, h => by
    simp only [List.mem_cons, not_or] at h
    unfold wipe
    rw [List.getElem?_set_ne (fun e => h.1 e.symm), wipe_keep h.2]
theorem wipe_in {σ : L2.St} {i : Nat} : ∀ {vs : List Nat}, i ∈ vs → (wipe σ vs)[i]? = if i < σ.length then some none else none
  | [], h => by simp at h
  | v :: vs, h => by
    unfold wipe
    by_cases q : v = i
    · subst q
      by_cases l : v < σ.length
      · rw [List.getElem?_set_self (by rw [wipe_length]; exact l), if_pos l]
      · rw [List.getElem?_eq_none (by rw [List.length_set, wipe_length]; omega), if_neg l]
    · rw [List.getElem?_set_ne q]
      exact wipe_in ((List.mem_cons.mp h).resolve_left fun e => q e.symm)
theorem wipe_same {σ σ2 : L2.St} {vs : List Nat} (hl : σ2.length = (wipe σ vs).length) (h : ∀ j, j ∉ vs → σ2[j]? = (wipe σ vs)[j]?) : wipe σ2 vs = wipe σ vs := by
  refine List.ext_getElem? fun j => ?_
  rw [wipe_length] at hl
  by_cases q : j ∈ vs
  · rw [wipe_in q, wipe_in q, hl]
  · rw [wipe_keep q, h j q]
/-- the parameters within a block: what the new list D is, is not seen -/
abbrev BP.cmp (B : BP) (O : Addr → Prop) (P : Hp) : BP := { B with O := O, W := fun _ _ _ _ => False, P := P }
def compL (bd : Bd) (tt : EvT) (te : Ev) (env : Sls) : List D → Bw → Res (List D)
  | [], b => .ok [] b
  | d :: ds, b => match bd d env with
    | none => .bad
    | some e => match tt e b with
      | .ok c b1 => if c = true then (match te e b1 with
        | .ok w b2 => match compL bd tt te env ds b2 with
          | .ok r b3 => .ok (w.d :: r) b3
          | _ => .bad
        | _ => .bad) else compL bd tt te env ds b1
      | _ => .bad
def ownL (r : Res (List D)) : Res Wv := match r with
  | .ok r b2 => .ok (.own (.lst r)) b2
  | _ => .bad
def dComp (evi : EvI) (bd : Bd) (tt : EvT) (te : Ev) (vs : List Nat) : Ev := fun env b => (evi env b).bind fun ds b1 => if noOwn env vs = true then ownL (compL bd tt te (wipeE env vs) ds b1) else .bad
theorem compL_len {bd : Bd} {tt : EvT} {te : Ev} {env : Sls} : ∀ {ds : List D} {b b' : Bw} {r : List D}, compL bd tt te env ds b = .ok r b' → r.length ≤ ds.length
  | [], b, b', r, h => by
    cases h
    exact Nat.le_refl _
  | d :: ds, b, b', r, h => by
    unfold compL at h
    cases e1 : bd d env with
    | none => simp [e1] at h
    | some e =>
      simp only [e1] at h
      cases e2 : tt e b with
      | ok c b1 =>
        simp only [e2] at h
        cases c with
        | false =>
          have q := compL_len (show compL bd tt te env ds b1 = .ok r b' from h)
          simp only [List.length_cons]
          omega
        | true =>
          simp only [if_true] at h
          cases e3 : te e b1 with
          | ok w b2 =>
            simp only [e3] at h
            cases e4 : compL bd tt te env ds b2 with
            | ok r2 b3 =>
              simp only [e4] at h
              cases h
              have q := compL_len e4
              simp only [List.length_cons]
              omega
            | _ => simp [e4] at h
          | _ => simp [e3] at h
      | _ => simp [e2] at h
section
variable {B : BP} {env : Sls} {b : Bw} {σ : L2.St} {H : Hp} {vs : List Nat} {Dd : Addr}
theorem own_blk (hn : noOwn env vs = true) (a : Addr) : ownO (plus B.O Dd) (wipeE env vs) (wipe σ vs) a ↔ plus (ownO B.O env σ) Dd a := by
  constructor
  · rintro (h | ⟨i, d, h1, h2⟩)
    · exact h.elim (fun z => .inl (.inl z)) .inr
    · obtain ⟨g1, g2⟩ := wipeE_val (by simp) h1
      rw [wipe_keep g2] at h2
      exact .inl (.inr ⟨i, d, g1, h2⟩)
  · rintro ((h | ⟨i, d, h1, h2⟩) | h)
    · exact .inl (.inl h)
    · have g : i ∉ vs := fun z => by
        unfold noOwn at hn
        have q := List.all_eq_true.mp hn i z
        rw [h1] at q
        cases q
      exact .inr ⟨i, d, by rw [wipeE_keep g]; exact h1, by rw [wipe_keep g]; exact h2⟩
    · exact .inl (.inr h)
/-- the state within a block -/
theorem Rel.blk {P : Hp} (I : Rel B env b σ H) (hn : noOwn env vs = true) (hD : H Dd = none) (hP : Sub P (vis H (ownO B.O env σ))) (acc : List V) : Rel (B.cmp (plus B.O Dd) P) (wipeE env vs) b (wipe σ vs) (upd H Dd (.lst acc)) := by
  have x : Ext B.R.bo H (upd H Dd (.lst acc)) := Ext.new hD
  have sub : Sub (vis H (ownO B.O env σ)) (vis (upd H Dd (.lst acc)) (ownO (plus B.O Dd) (wipeE env vs) (wipe σ vs))) := vis_more x (fun a q => I.bOO q) fun a o e h => ((own_blk hn a).mp h).elim id fun z => by
    rw [z, hD] at e
    cases e
  refine ⟨by rw [wipeE_length, wipe_length]; exact I.len, fun i d e => ?_, fun i d e => ?_, fun i j d e a h1 h2 h3 h4 => ?_, ?_, fun a q => .inl (I.bO a q), fun a h => ?_, tabs_same I.tab (same_upd hD), I.ext.trans x, hP.trans sub⟩
  · obtain ⟨g1, g2⟩ := wipeE_val (by simp) e
    obtain ⟨v, h1, h2⟩ := I.val i d g1
    exact ⟨v, by rw [wipe_keep g2]; exact h1, h2.mono sub⟩
  · obtain ⟨g1, g2⟩ := wipeE_val (by simp) e
    obtain ⟨a, h1, h2, h3, h4⟩ := I.own i d g1
    refine ⟨a, by rw [wipe_keep g2]; exact h1, fun z => z.elim h2 fun z => ?_, h3, h4.ext x (fun z => h2 (I.bO a z)) sub⟩
    obtain ⟨o, q, _⟩ := h4.there
    rw [z, hD] at q
    cases q
  · obtain ⟨g1, g2⟩ := wipeE_val (by simp) h1
    obtain ⟨g3, g4⟩ := wipeE_val (by simp) h2
    rw [wipe_keep g2] at h3
    rw [wipe_keep g4] at h4
    exact I.sep i j d e a g1 g3 h3 h4
  · exact bw_same I.bow (same_upd hD)
  · rcases h with h | h
    · obtain ⟨o, q⟩ := I.odom a h
      exact ⟨o, by rw [upd_ne (ne_of_none q hD)]; exact q⟩
    · exact ⟨_, by rw [h]; exact upd_same⟩
theorem bw_upd {bo : Option Addr} {b : Bw} {H : Hp} {a : Addr} {o : HO} (h : BwOk bo b H) (n : bo ≠ some a) : BwOk bo b (upd H a o) := by
  cases bo with
  | none => cases b <;> exact h
  | some c =>
    cases b with
    | none => exact h
    | some l =>
      have ne : c ≠ a := fun z => n (by rw [z])
      show upd H a o c = _
      rw [upd_ne ne]
      exact h
/-- the list within a block grows -/
theorem Rel.grow {P : Hp} {acc : List V} {O0 : Addr → Prop} {y : V} (I : Rel (B.cmp (plus B.O Dd) P) env b σ H) (hA : H Dd = some (.lst acc)) (he : B.He Dd = none) (hb : B.R.bo ≠ some Dd) : Rel (B.cmp (plus B.O Dd) P) env b σ (upd H Dd (.lst (acc ++ [y]))) := by
  have sub : Sub (vis H (ownO (plus B.O Dd) env σ)) (vis (upd H Dd (.lst (acc ++ [y]))) (ownO (plus B.O Dd) env σ)) := fun a o e n => by
    obtain ⟨e1, e2⟩ := of_vis e
    have ne : a ≠ Dd := fun z => e2 (.inl (.inr z))
    exact vis_of (by rw [upd_ne ne]; exact e1) e2
  refine ⟨I.len, fun i d e => ?_, fun i d e => ?_, I.sep, ?_, I.bO, fun a h => ?_, ?_, ⟨fun a o e n m => ?_, fun a h => ?_⟩, I.pin.trans sub⟩
  · obtain ⟨v, h1, h2⟩ := I.val i d e
    exact ⟨v, h1, h2.mono sub⟩
  · obtain ⟨a, h1, h2, h3, h4⟩ := I.own i d e
    have ne : a ≠ Dd := fun z => h2 (.inr z)
    have h4 := RepTop.hv sub h4
    refine ⟨a, h1, h2, h3, ?_⟩
    cases d with
    | lst l =>
      obtain ⟨vs, q1, q2, q3⟩ := h4
      exact ⟨vs, by rw [upd_ne ne]; exact q1, q2, q3⟩
    | dct ks ds =>
      obtain ⟨vs, q1, q2, q3⟩ := h4
      refine ⟨vs, q1, q2, ?_⟩
      rw [upd_ne ne]
      exact q3
    | _ => exact h4.elim
  · exact bw_upd I.bow hb
  · by_cases q : a = Dd
    · exact ⟨_, by rw [q]; exact upd_same⟩
    · obtain ⟨o, z⟩ := I.odom a h
      exact ⟨o, by rw [upd_ne q]; exact z⟩
  · intro p hp
    obtain ⟨ps, e1, e2, e3⟩ := I.tab p hp
    have up : ∀ b o, H b = some o → (∀ l, o ≠ .lst l) → upd H Dd (.lst (acc ++ [y])) b = some o := fun b o e n => by
      have ne : b ≠ Dd := fun z => by
        rw [z, hA] at e
        exact n acc (Option.some.inj e).symm
      rw [upd_ne ne]
      exact e
    refine ⟨ps, up _ _ e1 (fun l z => by cases z), e2, fun pos cv hc => ?_⟩
    obtain ⟨c, z1, z2⟩ := e3 pos cv hc
    exact ⟨c, z1, up _ _ z2 (fun l z => by unfold LamX.CodeO at z; cases z)⟩
  · have z := I.ext.keep a o e n m
    have ne : a ≠ Dd := fun q => by
      rw [q] at e
      have e : B.He Dd = some o := e
      rw [he] at e
      cases e
    rw [upd_ne ne]
    exact z
  · by_cases q : a = Dd
    · rw [q]
      exact he
    · rw [upd_ne q] at h
      exact I.ext.dom a h
end
section
variable {B : BP} {X : Cx} {tg iter elt : Expr} {ifs : List Expr} {evi : EvI} {bd : Bd} {is vs : List Nat} {tt : EvT} {te : Ev} {scope : Scope} {own : List (Str × Nat)} {pos : Pos}
theorem rd_comp {σ : L2.St} {H : Hp} {Q : VK} (his : ∀ j ∈ is, j ∈ vs) (w : rdE B (dComp evi bd tt te vs) σ H Q) :
    tLc (rdJ B evi) (fun v σ H Q => ∃ O P, rdG (B.cmp O P) is bd v σ H Q) (fun σ H Q => ∃ O P, rdT (B.cmp O P) tt σ H Q) (fun σ H Q => ∃ O P, rdE (B.cmp O P) te σ H Q) vs σ H Q := by
  refine rd_bind (ρ1 := rhoJ B.O) (k := fun ds env b1 => if noOwn env vs = true then ownL (compL bd tt te (wipeE env vs) ds b1) else .bad) w fun env ds b1 Jt H1 I1 x1 r1 w => ?_
  by_cases hn : noOwn env vs = true
  · rw [if_pos hn] at w
    cases hc : compL bd tt te (wipeE env vs) ds b1 with
    | bad =>
      rw [hc] at w
      exact False.elim w
    | err c fs b2 =>
      rw [hc] at w
      exact False.elim w
    | ok r b2 =>
      rw [hc] at w
      obtain ⟨itr, hlim⟩ := r1
      have w : wpG B RepW (ownO B.O env σ) H (.ok (.own (.lst r)) b2) σ Q := w
      intro Dd hD
      have hrl : r.length ≤ LIM := Nat.le_trans (compL_len hc) hlim
      have hHD : H Dd = none := x1.dom Dd hD
      have hO : ¬ ownO B.O env σ Dd := I1.nod Dd hD
      have hbo : B.R.bo ≠ some Dd := fun z => hO (.inl (I1.bO Dd z))
      generalize hP : vis H1 (ownO B.O env σ) = P at itr
      have hHe : B.He Dd = none := I1.ext.dom Dd hD
      -- the turns
      refine ⟨fun i m H' => m = ds.length - i ∧ i ≤ ds.length ∧ ∃ accD accV b', Rel (B.cmp (plus B.O Dd) P) (wipeE env vs) b' (wipe σ vs) H' ∧ Ext B.R.bo H1 H' ∧ H' Dd = some (.lst accV) ∧
          RepL B.R (vis H' (plus (ownO B.O env σ) Dd)) accD accV ∧ ∃ rest, compL bd tt te (wipeE env vs) (ds.drop i) b' = .ok rest b2 ∧ r = accD ++ rest,
        ⟨ds.length, rfl, Nat.zero_le _, [], [], b1, I1.blk hn hD (hP ▸ Sub.refl _) [], Ext.new hD, upd_same, rfl, r, hc, rfl⟩, ?_⟩
      rintro i m H' ⟨rfl, hi, accD, accV, b', I', x', hA, rA, rest, hr, er⟩
      have visI : Sub (vis H' (ownO (plus B.O Dd) (wipeE env vs) (wipe σ vs))) (vis H' (plus (ownO B.O env σ) Dd)) := vis_sub fun a h => (own_blk hn a).mpr h
      have visJ : Sub (vis H' (plus (ownO B.O env σ) Dd)) (vis H' (ownO (plus B.O Dd) (wipeE env vs) (wipe σ vs))) := vis_sub fun a h => (own_blk hn a).mp h
      have hPv : Sub P (vis H' (ownO (plus B.O Dd) (wipeE env vs) (wipe σ vs))) := I'.pin
      have hPi : Sub (vis H1 B.O) H' := fun a o e n => by
        obtain ⟨e1, e2⟩ := of_vis e
        exact x'.keep a o e1 (fun q => e2 (I1.bO a q)) n
      obtain ⟨items, stop⟩ := itr H' _ hPi hPv (Rel.nod (B := B.cmp (plus B.O Dd) P) I')
      by_cases hlt : i < ds.length
      · have hd : ds[i]? = some ds[i] := List.getElem?_eq_getElem hlt
        obtain ⟨go, yld⟩ := items i _ hd
        rw [List.drop_eq_getElem_cons hlt] at hr
        unfold compL at hr
        cases e1 : bd ds[i] (wipeE env vs) with
        | none =>
          rw [e1] at hr
          cases hr
        | some e =>
          simp only [e1] at hr
          cases e2 : tt e b' with
          | bad => simp [e2] at hr
          | err c fs b3 => simp [e2] at hr
          | ok c b3 =>
            simp only [e2] at hr
            refine .inr ⟨go, fun H2 => ∃ accD accV b', Rel (B.cmp (plus B.O Dd) P) (wipeE env vs) b' (wipe σ vs) H2 ∧ Ext B.R.bo H1 H2 ∧ H2 Dd = some (.lst accV) ∧
                RepL B.R (vis H2 (plus (ownO B.O env σ) Dd)) accD accV ∧ ∃ rest, compL bd tt te (wipeE env vs) (ds.drop (i + 1)) b' = .ok rest b2 ∧ r = accD ++ rest,
              fun H2 h2 => ⟨ds.length - (i + 1), by omega, rfl, hlt, h2⟩, fun x H2 y => ?_⟩
            obtain ⟨sm, rx⟩ := yld x H2 y
            have x2 : Ext B.R.bo H' H2 := same_ext sm
            have I2 : Rel (B.cmp (plus B.O Dd) P) (wipeE env vs) b' (wipe σ vs) H2 := I'.go x2 (bw_same I'.bow sm) (tabs_same I'.tab sm)
            refine ⟨plus B.O Dd, P, wipeE env vs, b', ds[i], e, I2, rx, e1, fun σ3 I3 _ l3 k3 h3 => ⟨wipe_same l3 fun j hj => k3 j fun z => hj (his j z), ?_⟩⟩
            -- the state at the turn's end is that of the block's start, over a later heap
            have bO' : ∀ a, B.R.bo = some a → plus (ownO B.O env σ) Dd a := fun a q => .inl (I1.bOO q)
            have again : ∀ {b4 H4}, Rel (B.cmp (plus B.O Dd) P) e b4 σ3 H4 → Ext B.R.bo H2 H4 → Rel (B.cmp (plus B.O Dd) P) (wipeE env vs) b4 (wipe σ vs) H4 := fun {b4 H4} I4 x4 => I2.go x4 I4.bow I4.tab
            have at2 : H2 Dd = some (.lst accV) := sm _ _ hA
            refine ⟨plus B.O Dd, P, e, b', I3, ?_⟩
            rw [e2]
            intro yb H3 f1 f2 f3 f4
            cases (show c = yb from f4)
            have I3' : Rel (B.cmp (plus B.O Dd) P) e b3 σ3 H3 := I3.go f1 f2 f3
            have at3 : H3 Dd = some (.lst accV) := f1.keep Dd _ at2 hbo (fun _ z => by cases z)
            cases c with
            | false =>
              rw [if_neg Bool.false_ne_true]
              exact ⟨accD, accV, b3, again I3' f1, x'.trans (x2.trans f1), at3, RepL.mono (vis_ext (x2.trans f1) bO') rA, rest, hr, er⟩
            | true =>
              rw [if_pos rfl]
              simp only [if_true] at hr
              cases e3 : te e b3 with
              | bad => simp [e3] at hr
              | err c fs b4 => simp [e3] at hr
              | ok w4 b4 =>
                simp only [e3] at hr
                cases e4 : compL bd tt te (wipeE env vs) (ds.drop (i + 1)) b4 with
                | bad => simp [e4] at hr
                | err c fs b5 => simp [e4] at hr
                | ok r5 b5 =>
                  simp only [e4] at hr
                  cases hr
                  refine ⟨plus B.O Dd, P, e, b3, I3', ?_⟩
                  rw [e3]
                  intro yv H4 g1 g2 g3 g4
                  have I4 : Rel (B.cmp (plus B.O Dd) P) e b4 σ3 H4 := I3'.go g1 g2 g3
                  have at4 : H4 Dd = some (.lst accV) := g1.keep Dd _ at3 hbo (fun _ z => by cases z)
                  have J4 := again I4 (f1.trans g1)
                  have lacc : accD.length = accV.length := rA.length
                  refine ⟨accV, at4, ?_, accD ++ [w4.d], accV ++ [yv], b4, Rel.grow (O0 := B.O) J4 at4 hHe hbo, ⟨fun a o q1 q2 q3 => ?_, fun a q1 => ?_⟩, upd_same, ?_, r5, e4, by rw [er, List.append_assoc]; rfl⟩
                  · have q := congrArg List.length er
                    rw [List.length_append, List.length_cons] at q
                    have := lim_line
                    omega
                  · have ne : a ≠ Dd := fun z => by
                      rw [z, hD] at q1
                      cases q1
                    rw [upd_ne ne]
                    exact (x'.trans (x2.trans (f1.trans g1))).keep a o q1 q2 q3
                  · by_cases z : a = Dd
                    · rw [z]
                      exact hD
                    · rw [upd_ne z] at q1
                      exact (x'.trans (x2.trans (f1.trans g1))).dom a q1
                  · have up : Sub (vis H4 (plus (ownO B.O env σ) Dd)) (vis (upd H4 Dd (.lst (accV ++ [yv]))) (plus (ownO B.O env σ) Dd)) := fun a o q n => by
                      obtain ⟨q1, q2⟩ := of_vis q
                      have ne : a ≠ Dd := fun z => q2 (.inr z)
                      exact vis_of (by rw [upd_ne ne]; exact q1) q2
                    refine RepL.append (RepL.mono ((vis_ext (x2.trans (f1.trans g1)) bO').trans up) rA) (RepL.cons (Rep.mono ?_ g4.rep) RepL.nil)
                    refine Sub.trans (vis_sub fun a h => ?_) up
                    rcases h with h | h
                    · rcases h with h | ⟨j, d, h1, h2⟩
                      · exact .inl (.inl h)
                      · -- a slot of the body's own
                        have g : j ∉ vs := fun z => by
                          unfold noOwn at hn
                          have q := List.all_eq_true.mp hn j z
                          rw [h1] at q
                          cases q
                        have z1 : (wipeE env vs)[j]? = some (.own d) := by rw [wipeE_keep g]; exact h1
                        have z2 : (wipe σ vs)[j]? = some (some (.ref a)) := by rw [wipe_keep g]; exact h2
                        have hj : j ∉ is := fun z => g (his j z)
                        exact .inr ⟨j, d, by rw [h3 j hj]; exact z1, by rw [k3 j hj]; exact z2⟩
                    · exact .inl (.inr h)
      · have e : i = ds.length := by omega
        subst e
        rw [List.drop_length] at hr
        cases hr
        rw [List.append_nil] at er
        subst er
        refine .inl ⟨stop, ?_⟩
        refine w (.ref Dd) H' (x1.trans x') I'.bow I'.tab ⟨Dd, rfl, hHD, hO, accV, hA, rA, hrl⟩
  · rw [if_neg hn] at w
    exact False.elim w
end
end DL
namespace DL
open PySem PySem.Spec PyProof.Rows L2
abbrev DTs (B : BP) (X : Cx) (ifs : List Expr) (tt : EvT) : Prop := PTs X ifs (rdT B tt)
theorem imp_PTs {X : Cx} {e : List Expr} {t u : TT} (h : PTs X e t) (hi : ∀ σ H Q, u σ H Q → t σ H Q) : PTs X e u := ⟨fun pins s σ H Q I q => h.run pins s σ H Q I (hi σ H Q q)⟩
def dYes : EvT := fun _ b => .ok true b
section
variable {B : BP} {X : Cx} {tg iter elt c : Expr} {ifs : List Expr} {evi : EvI} {bd : Bd} {is : List Nat} {tt : EvT} {te : Ev} {scope : Scope} {own : List (Str × Nat)} {pos : Pos}
theorem dts_nil : DTs B X [] dYes := imp_PTs pts_nil fun σ H Q h => by
  obtain ⟨env, b, I, w⟩ := h
  exact wpG_ok (x := true) w (Ext.refl H) I.bow I.tab rfl
theorem dts_one (h : DT B X c tt) : DTs B X [c] tt := pts_one h
theorem de_lc (hc : X.calm = true) (hN : X.N.Nodup) (hi : DJ B X tg iter evi) (ok : BlkOk X.N X.env.scope scope own) (his : ∀ j ∈ is, j ∈ own.map (·.2))
    (hg : ∀ (O : Addr → Prop) (P : Hp) (s : Shared) (H : Hp) (C : Addr) (cl : List (Str × Addr)) (fp : List Addr), DG (B.cmp O P) (X.blk s H scope (compEnvC scope cl C X.env) fp) tg is bd)
    (ht : ∀ (O : Addr → Prop) (P : Hp) (s : Shared) (H : Hp) (C : Addr) (cl : List (Str × Addr)) (fp : List Addr), DTs (B.cmp O P) (X.blk s H scope (compEnvC scope cl C X.env) fp) ifs tt)
    (he : ∀ (O : Addr → Prop) (P : Hp) (s : Shared) (H : Hp) (C : Addr) (cl : List (Str × Addr)) (fp : List Addr), DE (B.cmp O P) (X.blk s H scope (compEnvC scope cl C X.env) fp) elt te) (hs : ∀ x, foldedSetIterable iter X.env x = pure x := by intro _; rfl) :
    DE B X (.ListComp elt [⟨tg, iter, ifs, 0⟩] scope pos) (dComp evi bd tt te (own.map (·.2))) :=
  imp_PE (pe_lc hc hN hi ok (g := fun v σ H Q => ∃ O P, rdG (B.cmp O P) is bd v σ H Q) (tt := fun σ H Q => ∃ O P, rdT (B.cmp O P) tt σ H Q) (te := fun σ H Q => ∃ O P, rdE (B.cmp O P) te σ H Q)
    (fun s H C cl fp => ⟨fun pins s' σ H' v u Q I r ⟨O, P, h⟩ => (hg O P s H C cl fp).run pins s' σ H' v u Q I r h⟩)
    (fun s H C cl fp => ⟨fun pins s' σ H' Q I ⟨O, P, h⟩ => (ht O P s H C cl fp).run pins s' σ H' Q I h⟩)
    (fun s H C cl fp => ⟨fun pins s' σ H' Q I ⟨O, P, h⟩ => (he O P s H C cl fp).run pins s' σ H' Q I h⟩) hs) fun σ H Q w => rd_comp his w
theorem ds_setLc {i : Nat} {y : Str} {py spos : Pos} (hc : X.calm = true) (hN : X.N.Nodup) (hi : DJ B X tg iter evi) (ok : BlkOk X.N X.env.scope scope own) (his : ∀ j ∈ is, j ∈ own.map (·.2))
    (hg : ∀ (O : Addr → Prop) (P : Hp) (s : Shared) (H : Hp) (C : Addr) (cl : List (Str × Addr)) (fp : List Addr), DG (B.cmp O P) (X.blk s H scope (compEnvC scope cl C X.env) fp) tg is bd)
    (ht : ∀ (O : Addr → Prop) (P : Hp) (s : Shared) (H : Hp) (C : Addr) (cl : List (Str × Addr)) (fp : List Addr), DTs (B.cmp O P) (X.blk s H scope (compEnvC scope cl C X.env) fp) ifs tt)
    (he : ∀ (O : Addr → Prop) (P : Hp) (s : Shared) (H : Hp) (C : Addr) (cl : List (Str × Addr)) (fp : List Addr), DE (B.cmp O P) (X.blk s H scope (compEnvC scope cl C X.env) fp) elt te)
    (hy : X.N[i]? = some y := by rfl) (hyl : X.env.scope.names.lookup y = some .local := by rfl) (hsw : swapsWith (.ListComp elt [⟨tg, iter, ifs, 0⟩] scope pos) (some (.Name y py)) spos.line X.env = pure true := by refine sw_true ?_ ?_ ?_ ?_ <;> rfl)
    (hs : ∀ x, foldedSetIterable iter X.env x = pure x := by intro _; rfl) :
    DS B X (.Assign [.Name y py] (.ListComp elt [⟨tg, iter, ifs, 0⟩] scope pos) spos) (dAsg i (dComp evi bd tt te (own.map (·.2)))) :=
  imp_PS (ps_setLc hc hN hy hyl hsw hi ok (g := fun v σ H Q => ∃ O P, rdG (B.cmp O P) is bd v σ H Q) (tt := fun σ H Q => ∃ O P, rdT (B.cmp O P) tt σ H Q) (te := fun σ H Q => ∃ O P, rdE (B.cmp O P) te σ H Q)
    (fun s H C cl fp => ⟨fun pins s' σ H' v u Q I r ⟨O, P, h⟩ => (hg O P s H C cl fp).run pins s' σ H' v u Q I r h⟩)
    (fun s H C cl fp => ⟨fun pins s' σ H' Q I ⟨O, P, h⟩ => (ht O P s H C cl fp).run pins s' σ H' Q I h⟩)
    (fun s H C cl fp => ⟨fun pins s' σ H' Q I ⟨O, P, h⟩ => (he O P s H C cl fp).run pins s' σ H' Q I h⟩) hs) fun D σ H w => rd_comp his (rd_asg w)
end
end DL

set_option Elab.async false
set_option linter.all false
set_option maxRecDepth 100000
set_option maxHeartbeats 4000000
/-! enumerate(tuple), zip of tuples -/
namespace DL
open PySem PySem.Spec PyProof.Rows L2
open AutoSeq1 (wpAny_loadPart')
theorem meets_enumerate_newT (l : Addr) (items : Array Value) (n : Nat) (dct : Option Addr) (sl : Array (Option Value)) :
    Meets (Builtin.«enumerate.__new__» ⟨[.type "enumerate", .ref l], []⟩) (fun _ R s => s.heap.get? l = some { cls := .type "tuple", dict := dct, data := .seq items n, slots := sl } ∧
      R (.ok (.ret (.ref (s.heap.push { cls := .type "tuple_iterator", data := .fields #[.ref l, .int 0 0] }).objs.size)))
        { s with heap := (s.heap.push { cls := .type "tuple_iterator", data := .fields #[.ref l, .int 0 0] }).push { cls := .type "enumerate", data := .fields #[.none, .bool false, .ref s.heap.objs.size, rawInt 0, .none, .none] } }) :=
  .of_wp fun prog w A R s h => by
    obtain ⟨hp, g, d, tk, os⟩ := s; obtain ⟨hl, h⟩ := h
    have hsub := sub_enumerate
    have hL : Heap.IsTuple (Shared.heap ⟨hp, g, d, tk, os⟩) l items := ⟨_, hl, rfl, n, rfl⟩
    wp_walk using wpAny_loadPart' hl
    refine wpAny_stack_any fun st => wpAny_pure ?_
    split
    · rename_i c _ _ _ _ _
      cases (c == Value.type "enumerate")
      · wp_walk using wpAny_loadPart' hl, wpAny_pyIter_tuple hL
        exact ⟨_, rfl, h⟩
      · wp_walk using wpAny_loadPart' hl, wpAny_pyIter_tuple hL
        exact ⟨_, rfl, h⟩
    · wp_walk using wpAny_loadPart' hl, wpAny_pyIter_tuple hL
      exact ⟨_, rfl, h⟩
section
variable {prog : Program} {w : World} {A : Around} {E : Value → Shared → Prop} {s : Shared}
theorem call_enumerate_tuple {l : Addr} {items : Array Value} {Q : Value → Shared → Prop} (hL : s.heap.IsTuple l items)
    (h : ∀ h', IsEnum h' (s.heap.objs.size + 1) s.heap.objs.size 0 .none → h'.IsTupleIter s.heap.objs.size l 0 → h'.objs.size = s.heap.objs.size + 2 →
      (∀ b o, s.heap.get? b = some o → h'.get? b = some o) → Q (.ref (s.heap.objs.size + 1)) { s with heap := h' }) :
    wpAny (model prog w) A (call (.type "enumerate") [.ref l]) Q E s := by
  obtain ⟨⟨c, dct, dt, sl⟩, hl, hc, n, hd⟩ := hL
  replace hc : c = .type "tuple" := hc
  replace hd : dt = .seq items n := hd
  subst hc hd
  refine callType_new F.called_enumerate (by decide) (F.typeCall_enumerate_1 _) (F.newCall_enumerate_1 _) (fun obj => F.args_object_init_2 obj _) F.entry_enumerate_new
    (meets_enumerate_newT l items n dct sl) ⟨hl, ?_⟩
  have hz : (s.heap.push { cls := .type "tuple_iterator", data := .fields #[.ref l, .int 0 0] }).objs.size = s.heap.objs.size + 1 := Heap.size_push ..
  show _ ∧ _
  rw [hz]
  have he : IsEnum ((s.heap.push { cls := .type "tuple_iterator", data := .fields #[.ref l, .int 0 0] }).push
      { cls := .type "enumerate", data := .fields #[.none, .bool false, .ref s.heap.objs.size, rawInt 0, .none, .none] }) (s.heap.objs.size + 1) s.heap.objs.size 0 .none := by
    have := Heap.get?_push_size (s.heap.push { cls := .type "tuple_iterator", data := .fields #[.ref l, .int 0 0] })
      (o := { cls := .type "enumerate", data := .fields #[.none, .bool false, .ref s.heap.objs.size, rawInt 0, .none, .none] }) rfl
    rw [hz] at this; exact this
  refine ⟨⟨_, he, rfl⟩, h _ he ⟨_, Heap.get?_push_of_some _ (Heap.get?_push_size _ rfl), rfl, rfl⟩ (by rw [Heap.size_push, hz]) fun b o x => Heap.get?_push_of_some _ (Heap.get?_push_of_some _ x)⟩
theorem nextOf_tuple_item {it l : Addr} {i : Nat} {items} {x : Value} {Q : Value → Shared → Prop} (hit : s.heap.IsTupleIter it l i)
    (hl : s.heap.IsTuple l items) (hx : items[i]? = some x)
    (hQ : ∀ h', h'.IsTupleIter it l (i + 1) → Heap.SameBut it s.heap h' → Q x { s with heap := h' }) :
    wpAny (model prog w) A (Builtin.SmallTypes.nextOf (.ref it)) Q E s := by
  obtain ⟨o, ho, hc, hd⟩ := id hit
  obtain ⟨ol, hol, _, nl, hdl⟩ := hl
  unfold Builtin.SmallTypes.nextOf
  refine wpAny_bind (wpAny_callSpecial?_slot (name := Str.ofString "__next__") hit.typeIs F.slot_tuple_iterator_next
    (wpAny_call_entry F.slot_tuple_iterator_next hit.typeIs F.entry_tuple_iterator_next ?_ (F.args_tuple_iterator_next_1 _)))
  show wpAny _ _ (field (.ref it) 0 >>= _) _ _ s
  refine wpAny_bind (wpAny_field ho hd (x := .ref l) rfl ?_)
  show wpAny _ _ (if (Value.ref l == Value.none) = true then _ else _) _ _ s
  rw [if_neg (show ¬ ((Value.ref l == Value.none) = true) from Bool.false_ne_true)]
  show wpAny _ _ (field (.ref it) 1 >>= _) _ _ s
  refine wpAny_bind (wpAny_field ho hd (x := .int i 0) rfl ?_)
  show wpAny _ _ (seqItems? (.ref l) >>= _) _ _ s
  refine wpAny_bind (wpAny_seqItems hol hdl ?_)
  simp only [Int.toNat_natCast, hx]
  refine wpAny_bind (wpAny_setField ho hd (by simp) (wpAny_pure ⟨x, rfl, wpAny_pure (hQ _ ?_ (Heap.SameBut.update ..))⟩))
  exact ⟨_, Heap.get?_update_self _ ho (Obj.isFreed_of_fields (Obj.data_mapFields hd _)), (Obj.cls_mapFields ..).trans hc, by
    rw [Obj.data_mapFields hd]; simp [rawInt]⟩
theorem nextOf_tuple_end {it l : Addr} {i : Nat} {items} {Q : Value → Shared → Prop} (hh : A.handled = none)
    (hit : s.heap.IsTupleIter it l i) (hl : s.heap.IsTuple l items) (hx : items[i]? = none)
    (hE : ∀ h' e, Heap.ExtBut it s.heap h' → (∃ o, h'.get? e = some o ∧ o.cls = .type "StopIteration") → E (.ref e) { s with heap := h' }) :
    wpAny (model prog w) A (Builtin.SmallTypes.nextOf (.ref it)) Q E s := by
  obtain ⟨o, ho, hc, hd⟩ := id hit
  obtain ⟨ol, hol, _, nl, hdl⟩ := hl
  unfold Builtin.SmallTypes.nextOf
  refine wpAny_bind (wpAny_callSpecial?_slot (name := Str.ofString "__next__") hit.typeIs F.slot_tuple_iterator_next
    (wpAny_call_entry F.slot_tuple_iterator_next hit.typeIs F.entry_tuple_iterator_next ?_ (F.args_tuple_iterator_next_1 _)))
  show wpAny _ _ (field (.ref it) 0 >>= _) _ _ s
  refine wpAny_bind (wpAny_field ho hd (x := .ref l) rfl ?_)
  show wpAny _ _ (if (Value.ref l == Value.none) = true then _ else _) _ _ s
  rw [if_neg (show ¬ ((Value.ref l == Value.none) = true) from Bool.false_ne_true)]
  show wpAny _ _ (field (.ref it) 1 >>= _) _ _ s
  refine wpAny_bind (wpAny_field ho hd (x := .int i 0) rfl ?_)
  show wpAny _ _ (seqItems? (.ref l) >>= _) _ _ s
  refine wpAny_bind (wpAny_seqItems hol hdl ?_)
  simp only [Int.toNat_natCast, hx]
  refine wpAny_bind (wpAny_rule (wpAny_bind (wpAny_setField ho hd (by simp) ?_)))
  show wpAny _ _ (newExc (.type "StopIteration") [] >>= _) _ _ _
  refine wpAny_bind ?_
  simp only [newExc, newTuple]
  refine wpAny_bind (wpAny_newObj_type ?_ (by size_fits))
  refine wpAny_bind (m := firstArgMember _ _) (wpAny_of_eq (a := Value.none) (by first | rfl | (simp only [firstArgMember]; rfl)) ?_)
  refine wpAny_newObj_type ?_ (by size_fits)
  simp only [raiseNew]
  refine wpAny_bind (wpAny_handled ?_)
  first | rw [show A.in1.handled = none from hh] | rw [hh]
  refine wpAny_bind (wpAny_pure (wpAny_throw ?_))
  exact hE _ _ (((Heap.SameBut.update ..).extBut.push _).push _) ⟨_, Heap.get?_push_size _ rfl, rfl⟩
end
theorem Draws_tuple {prog : Program} {w : World} {A : Around} (hh : A.handled = none) (it l : Addr) (hne : l ≠ it) (items : Array Value) :
    Draws prog w A it [it, l] items.size (fun i v => items[i]? = some v) (fun i h => h.IsTupleIter it l i ∧ h.IsTuple l items) where
  live := fun _ _ st => let ⟨o, ho, _⟩ := st.1; ⟨o, ho⟩
  frame := fun _ _ _ st hk => ⟨st.1.at fun o e => hk it (by simp) o e, let ⟨o, ho, r⟩ := st.2; ⟨o, hk l (by simp) o ho, r⟩⟩
  item := fun i s Q E hi st hQ => by
    refine nextOf_tuple_item st.1 st.2 (x := items[i]) (by simp [hi]) fun h' hit' hs' => ?_
    exact hQ _ h' s.toks (by simp [hi]) ⟨hit', st.2.extBut hs'.extBut hne⟩ hs'
  done := fun s Q E st hE => nextOf_tuple_end hh st.1 st.2 (by simp) hE
/-- the tuple at a, each item in a new pair -/
def IteT (K : PySem.W.Frag) (a : Addr) : It :=
  ⟨fun i H => ∃ (xs : List V) (x : V), SqT K H a xs ∧ xs[i]? = some x, fun i H v H' => ∃ T x, v = .ref T ∧ H T = none ∧ H' = upd H T (.tup [.int (i : Nat), x]) ∧ ∀ xs, SqT K H a xs → xs[i]? = some x, fun i H => ∃ xs : List V, SqT K H a xs ∧ xs.length = i⟩
theorem turn_enumT {P : Program} {w : World} {K : PySem.W.Frag} {elts : List Expr} {kk : Nat} {tpos : Pos} (a e it : Addr) :
    Turn P w K (.Tuple elts kk tpos) (IteT K a) [e, it] e (fun i h => (∃ old, IsEnum h e it ((i : Nat) : Int) old) ∧ h.IsTupleIter it a i ∧ e ≠ it) where
  mem := by simp
  obj := fun i h st b hb => by
    obtain ⟨⟨old, he⟩, ⟨o, ho, hc, hd⟩, _⟩ := st
    have e' : b = e ∨ b = it := by simpa using hb
    rcases e' with z | z
    · rw [z]; exact ⟨_, he, fun v q => nomatch q⟩
    · rw [z]; exact ⟨o, ho, fun v q => by rw [hd] at q; cases q⟩
  keep := fun i h h' st k => let ⟨⟨old, he⟩, hi, hne⟩ := st; ⟨⟨old, k e (by simp) _ he⟩, hi.at fun o q => k it (by simp) o q, hne⟩
  item := by
    intro X hP hw hK hc i pins s σ H E I hf st hg
    subst hP hw hK
    obtain ⟨⟨old, he⟩, hit, hne⟩ := st
    obtain ⟨xs, x, hq, hx⟩ := hg
    obtain ⟨its, rv, p, hz⟩ := I.tuple hq
    obtain ⟨u, hu, ru⟩ := rv.get hx
    have hel : e < s.heap.objs.size := Heap.lt_size he
    have hil : it < s.heap.objs.size := by obtain ⟨_, q, _⟩ := hit; exact Heap.lt_size q
    have p' : s.heap.IsTuple a its.toArray := p
    have hil2 : i < its.toArray.size := by
      have := (List.getElem?_eq_some_iff.mp hu).1
      simpa using this
    have hai : a ≠ it := fun z => by
      obtain ⟨o, q1, q2, _⟩ := hit
      obtain ⟨o2, r1, r2, _⟩ := p'
      rw [z] at r1
      rw [r1] at q1
      cases q1
      rw [r2] at q2
      exact absurd q2 (by decide)
    have hae : a ≠ e := fun z => by
      obtain ⟨o2, r1, r2, _⟩ := p'
      rw [z] at r1
      have q1 : s.heap.get? e = some _ := he
      rw [r1] at q1
      cases q1
      have r2 : Value.type "enumerate" = Value.type "tuple" := r2
      exact absurd r2 (by decide)
    refine wpAny_pyNext_enum_itemD (Draws_tuple (A := X.A.in1) (I.ok.hd hc) it a hai its.toArray) he ⟨hit, p'⟩ hil2 hne (by simp [hne, Ne.symm hae]) fun u' h' tk hP ho hit' hT hsz hk => ?_
    have eu : u' = u := by
      have z : its.toArray[i]? = some u := by simpa using hu
      rw [z] at hP
      exact (Option.some.inj hP).symm
    subst eu
    refine ⟨_, rfl, wpAny_letOwnedTupleGo_enum (s := { s with heap := h', toks := tk + 1 }) ho fun h'' he' sb => ?_⟩
    have hT2 : h''.get? s.heap.objs.size = some { cls := .type "tuple", data := .seq #[.int i tk, u'] } := (sb.2 _ (Nat.ne_of_gt hel)).trans hT
    have new : ObjOk X.prog X.w (upd H s.heap.objs.size (.tup [.int (i : Nat), x])) h'' s.heap.objs.size (.tup [.int (i : Nat), x]) :=
      ⟨by show 2 ≤ sizeLine; decide, [.int i tk, u'], .cons ⟨_, rfl⟩ (.cons ru .nil), ⟨_, hT2, rfl, _, rfl⟩⟩
    have I1 : Inv X pins σ (upd H s.heap.objs.size (.tup [.int (i : Nat), x])) { s with heap := h'', toks := tk + 1 } :=
      I.turnedNew (ch := [e, it]) (fun b ob hb q => (sb.2 b (fun z => hb (by simp [z]))).trans (hk b ob (fun z => hb (by simp [z])) (fun z => hb (by simp [z])) q)) hf (Nat.le_refl _) new
    refine ⟨.ref s.heap.objs.size, _, I1, rfl, ⟨_, x, rfl, I.hok.fresh (Nat.le_refl _), rfl, fun ys hy => by rw [I.tuple_inj hy hq]; exact hx⟩, ⟨⟨u', ?_⟩, hit'.1.at fun o q => (sb.2 it (Ne.symm hne)).trans q, hne⟩, fun b hb => ?_⟩
    · have e1 : ((i + 1 : Nat) : Int) = (i : Int) + 1 := by omega
      rw [e1]; exact he'
    · have hb' : b < s.heap.objs.size := by
        have e' : b = e ∨ b = it := by simpa using hb
        rcases e' with z | z
        · rw [z]; exact hel
        · rw [z]; exact hil
      rw [upd_ne (Nat.ne_of_lt hb')]
      exact (hf b hb).1
  done := by
    intro X hP hw hK hc i pins s σ H E I hf st hg
    subst hP hw hK
    obtain ⟨⟨old, he⟩, hit, hne⟩ := st
    obtain ⟨xs, hq, hx⟩ := hg
    obtain ⟨its, rv, p, hz⟩ := I.tuple hq
    obtain ⟨f0, f1, f2, f3, f4, f5⟩ := hf it (by simp)
    have hl := rv.length
    have p' : s.heap.IsTuple a its.toArray := p
    have hai : a ≠ it := fun z => by
      obtain ⟨o, q1, q2, _⟩ := hit
      obtain ⟨o2, r1, r2, _⟩ := p'
      rw [z] at r1
      rw [r1] at q1
      cases q1
      rw [r2] at q2
      exact absurd q2 (by decide)
    have en : its.toArray.size = i := by rw [List.size_toArray]; omega
    exact wpAny_pyNext_enum_endD (Draws_tuple (A := X.A.in1) (I.ok.hd hc) it a hai its.toArray) he ⟨by rw [en]; exact hit, p'⟩ fun h' eb => ⟨rfl, I.turned (t' := s.toks) (fun b o hb q => eb b o hb q) f0 f1 f3 f4 f5⟩
  self := fun A i s Q E st h => let ⟨⟨_, he⟩, _⟩ := st; wpAny_pyIter_enum he h
def iEnumT (K : PySem.W.Frag) (ta : TA) : TI := fun σ H R => ta σ H fun vs H1 => ∃ a, vs = [.ref a] ∧ ((∃ xs, SqL K H1 a xs) ∧ R (Ite K a) H1 ∨ (∃ xs, SqT K H1 a xs) ∧ R (IteT K a) H1)
theorem pi_enumT {X : Cx} {e : Expr} {ta : TA} {p pos tpos : Pos} {elts : List Expr} {kk : Nat} (hg : Gl X "enumerate") (hm : X.mg "enumerate" = none) (ha : PA X [e] ta) (hs : starEach [e] X.env = [(false, eval e X.env)] := by rfl) :
    PI X (.Tuple elts kk tpos) (.Call (.Name "enumerate" p) [e] [] pos) (iEnumT X.K ta) := by
  refine ⟨fun pins s σ H R I h => ?_⟩
  refine Call_ (ld_blt I hg hm boot_enumerate (PyProof.Rows.callWith_type1 (thn (ha.run pos pins s σ H _ I h) fun us s1 ⟨vs, H1, I1, r1, q1⟩ => ?_) hs rfl))
  obtain ⟨a, ex, q⟩ := q1
  subst ex
  cases r1 with
  | cons r rr =>
    cases rr
    cases r
    have fp : ∀ b ∈ [s1.heap.objs.size + 1, s1.heap.objs.size], FpOk X pins H1 b := fun b hb => by
      have e' : b = s1.heap.objs.size + 1 ∨ b = s1.heap.objs.size := by simpa using hb
      have hle : s1.heap.objs.size ≤ b := by
        rcases e' with z | z
        · rw [z]; exact Nat.le_add_right _ _
        · rw [z]; exact Nat.le_refl _
      exact I1.fpOk hle (I1.hok.fresh hle)
    rcases q with ⟨⟨xs, hq⟩, q⟩ | ⟨⟨xs, hq⟩, q⟩
    · obtain ⟨its, rv, p', hz⟩ := I1.list hq
      refine call_enumerate_list p'.isList fun h' he hit hsz hk => wpAny_pyIter_enum he ?_
      have I2 : Inv X pins σ H1 { s1 with heap := h' } := I1.kept (t' := s1.toks) hk
      exact ⟨s1.heap.objs.size + 1, [s1.heap.objs.size + 1, s1.heap.objs.size], _, _, H1, rfl, I2, turn_enum a (s1.heap.objs.size + 1) s1.heap.objs.size, ⟨⟨.none, he⟩, hit, Nat.succ_ne_self _⟩, fp, q⟩
    · obtain ⟨its, rv, p', hz⟩ := I1.tuple hq
      refine call_enumerate_tuple (show s1.heap.IsTuple a its.toArray from p') fun h' he hit hsz hk => wpAny_pyIter_enum he ?_
      have I2 : Inv X pins σ H1 { s1 with heap := h' } := I1.kept (t' := s1.toks) hk
      exact ⟨s1.heap.objs.size + 1, [s1.heap.objs.size + 1, s1.heap.objs.size], _, _, H1, rfl, I2, turn_enumT a (s1.heap.objs.size + 1) s1.heap.objs.size, ⟨⟨.none, he⟩, hit, Nat.succ_ne_self _⟩, fp, q⟩
/-! ### in the layer -/
def enumL : Nat → List D → List D
  | _, [] => []
  | i, d :: ds => .tup [.int (i : Nat), d] :: enumL (i + 1) ds
theorem enumL_get : ∀ {ds : List D} {k i : Nat} {d : D}, (enumL k ds)[i]? = some d → ∃ x, ds[i]? = some x ∧ d = .tup [.int ((k + i : Nat) : Int), x]
  | [], _, _, _, h => by simp [enumL] at h
  | x :: ds, k, 0, d, h => by
    simp [enumL] at h
    exact ⟨x, rfl, by rw [← h]; rfl⟩
  | x :: ds, k, i + 1, d, h => by
    simp only [enumL, List.getElem?_cons_succ] at h
    obtain ⟨y, h1, h2⟩ := enumL_get h
    exact ⟨y, by simpa using h1, by rw [h2]; congr 3; omega⟩
theorem enumL_len : ∀ {ds : List D} {k : Nat}, (enumL k ds).length = ds.length
  | [], _ => rfl
  | _ :: ds, k => by simp [enumL, enumL_len]
theorem pair_rep {R : RC} {H1 H' : Hp} {O : Addr → Prop} {T : Addr} {v u : V} {d e : D} (hT : H1 T = none) (od : ∀ a, H1 a = none → ¬ O a) (e1 : H' = upd H1 T (.tup [v, u])) (r1 : Rep R (vis H1 O) d v) (r2 : Rep R (vis H1 O) e u) : Rep R (vis H' O) (.tup [d, e]) (.ref T) := by
  subst e1
  exact new_tup od (RepL.cons r1 (RepL.cons r2 RepL.nil)) (by show 2 ≤ LIM; decide) hT
theorem it_enumL {R : RC} {Pi Pv : Hp} {a : Addr} {vs : List V} {ds : List D} (h : SqL R.K Pi a vs) (r : RepL R Pv ds vs) : ItRep R Pi Pv (Ite R.K a) (enumL 0 ds) := fun H O s1 s2 od => by
  have hH := s1.seq h
  refine ⟨fun i d e => ?_, ⟨vs, hH, by rw [enumL_len, r.length]; exact Nat.le_refl _⟩⟩
  obtain ⟨x, ex, ed⟩ := enumL_get e
  obtain ⟨v, e1, r1⟩ := r.get ex
  refine ⟨⟨vs, v, hH, e1⟩, fun y H' q => ?_⟩
  obtain ⟨T, u, rfl, hT, hH', hu⟩ := q
  have z := hu vs hH
  rw [e1] at z
  cases z
  subst ed
  refine ⟨by rw [hH']; exact same_upd hT, pair_rep (u := v) hT od hH' (by rw [Nat.zero_add]; rfl) (r1.mono s2)⟩
theorem it_enumT {R : RC} {Pi Pv : Hp} {a : Addr} {vs : List V} {ds : List D} (h : SqT R.K Pi a vs) (r : RepL R Pv ds vs) : ItRep R Pi Pv (IteT R.K a) (enumL 0 ds) := fun H O s1 s2 od => by
  have hH := s1.tup h
  refine ⟨fun i d e => ?_, ⟨vs, hH, by rw [enumL_len, r.length]⟩⟩
  obtain ⟨x, ex, ed⟩ := enumL_get e
  obtain ⟨v, e1, r1⟩ := r.get ex
  refine ⟨⟨vs, v, hH, e1⟩, fun y H' q => ?_⟩
  obtain ⟨T, u, rfl, hT, hH', hu⟩ := q
  have z := hu vs hH
  rw [e1] at z
  cases z
  subst ed
  refine ⟨by rw [hH']; exact same_upd hT, pair_rep (u := v) hT od hH' (by rw [Nat.zero_add]; rfl) (r1.mono s2)⟩
def enum1 (d : D) (b : Bw) : Res (List D) := match d with
  | .lst l => .ok (enumL 0 l) b
  | .tup l => .ok (enumL 0 l) b
  | _ => .bad
def dEnum (ea : Ev) : EvI := fun env b => (ea env b).bind fun w b1 => enum1 w.d b1
section
variable {B : BP} {X : Cx} {e : Expr} {ea : Ev} {p pos tpos : Pos} {elts : List Expr} {kk : Nat}
theorem di_enum (hg : Gl X "enumerate") (hm : X.mg "enumerate" = none) (ha : DE B X e ea) (hK : B.R.K = X.K := by rfl) (hs : starEach [e] X.env = [(false, eval e X.env)] := by rfl) : DI B X (.Tuple elts kk tpos) (.Call (.Name "enumerate" p) [e] [] pos) (dEnum ea) :=
  imp_PI (pi_enumT hg hm (pa_cons ha pa_nil hs) hs) fun σ H R w => by
    refine rd_bind (ρ := rhoI) (k := fun (w : Wv) _ b1 => enum1 w.d b1) w fun env w1 b1 x H1 I1 x1 r1 w => ?_
    have r := r1.rep
    cases z : w1.d with
    | lst l =>
      rw [z] at r w
      obtain ⟨a, vs, rfl, h1, h2, h3⟩ := r
      refine ⟨a, rfl, .inl ⟨⟨vs, by rw [← hK]; exact vis_sql h1⟩, ?_⟩⟩
      rw [← hK]
      exact wpG_ok (x := Ite B.R.K a) w x1 I1.bow I1.tab ⟨it_enumL h1 h2, by rw [enumL_len]; exact h3⟩
    | tup l =>
      rw [z] at r w
      obtain ⟨a, vs, rfl, h1, h2, h3⟩ := r
      refine ⟨a, rfl, .inr ⟨⟨vs, by rw [← hK]; exact vis_sqt h1⟩, ?_⟩⟩
      rw [← hK]
      exact wpG_ok (x := IteT B.R.K a) w x1 I1.bow I1.tab ⟨it_enumT h1 h2, by rw [enumL_len]; exact h3⟩
    | _ =>
      rw [z] at w
      exact False.elim w
end
end DL

set_option Elab.async false
set_option linter.all false
set_option maxRecDepth 100000
set_option maxHeartbeats 4000000
namespace DL
open PySem PySem.Spec PyProof.Rows L2

/-! ### indexing -/
theorem RepL.atI {R : RC} {H : Hp} {ds : List D} {vs : List V} {i : Int} {d : D} (h : RepL R H ds vs) (e : L2.atI ds i = some d) : ∃ v, L2.atI vs i = some v ∧ Rep R H d v := by
  unfold L2.atI at e ⊢
  rw [← h.length]
  cases q : ixN ds.length i with
  | none => simp [q] at e
  | some j =>
    simp [q] at e
    simpa using h.get e
def fIx (x y : D) : Option Wv := match y with
  | .int i => match x with
    | .lst l => (atI l i).map .val
    | .tup l => (atI l i).map .val
    | .str z => (atI z.cps.toList i).bind fun c => if okS z && okS ⟨#[c]⟩ then some (.val (.str ⟨#[c]⟩)) else none
    | _ => none
  | _ => none
theorem okS_len {z : Str} (h : okS z = true) : z.length ≤ LIM ∧ z.length ≤ sizeLine := by
  unfold okS at h
  rw [Bool.and_eq_true] at h
  have := of_decide_eq_true h.1
  exact ⟨this, small_lim this⟩
theorem h_ix {R : RC} : H2ok R fIx (rIx R.K) := fun d1 d2 w x y H O Q e od r1 r2 q => by
  cases d2 with
  | int i =>
    cases (show y = .int i from r2)
    cases d1 with
    | lst l =>
      obtain ⟨a, vs, rfl, h1, h2, h3⟩ := r1
      simp only [fIx, Option.map_eq_some_iff] at e
      obtain ⟨d, e1, rfl⟩ := e
      obtain ⟨v, e2, rv⟩ := h2.atI e1
      exact .inl ⟨a, vs, i, v, rfl, rfl, vis_sql h1, e2, q _ H (Same.refl H) rv⟩
    | tup l =>
      obtain ⟨a, vs, rfl, h1, h2, h3⟩ := r1
      simp only [fIx, Option.map_eq_some_iff] at e
      obtain ⟨d, e1, rfl⟩ := e
      obtain ⟨v, e2, rv⟩ := h2.atI e1
      exact .inr (.inl ⟨a, vs, i, v, rfl, rfl, vis_sqt h1, e2, q _ H (Same.refl H) rv⟩)
    | str z =>
      obtain ⟨rfl, hz⟩ := r1
      simp only [fIx] at e
      cases ec : atI z.cps.toList i with
      | none => simp [ec] at e
      | some c =>
        simp only [ec, Option.bind_some] at e
        split at e
        · rename_i hok
          cases e
          rw [Bool.and_eq_true] at hok
          exact .inr (.inr ⟨z, i, c, rfl, rfl, (okS_len hz).2, ec, q _ H (Same.refl H) ⟨rfl, hok.2⟩⟩)
        · cases e
    | _ => cases e
  | _ => simp [fIx] at e
section
variable {B : BP} {X : Cx} {a c e : Expr} {ea eb : Ev} {pos p p2 : Pos}
theorem de_idx (ha : DE B X a ea) (hb : DE B X c eb) (hK : B.R.K = X.K := by rfl) (hs : PlainIx c := by exact fun _ _ => rfl) : DE B X (.Subscript a c pos) (dOp2 fIx ea eb) :=
  de_ix ix_seq (hK ▸ h_ix) ha hb hs

/-! ### slices -/
abbrev EvO := Sls → Bw → Res (Option Int)
def rhoO : Rho (Option Int) (Option Int) := fun _ _ _ _ a x => a = x
theorem staysO : Stays rhoO := ⟨fun h _ _ => h, fun h _ => h⟩
abbrev DO (B : BP) (X : Cx) (e : Option Expr) (ev : EvO) : Prop := PO X e (rd B rhoO ev)
def dNoPart : EvO := fun _ b => .ok none b
def part1 (d : D) (b : Bw) : Res (Option Int) := match d with
  | .int i => .ok (some i) b
  | _ => .bad
def dPart (ea : Ev) : EvO := fun env b => (ea env b).bind fun w b1 => part1 w.d b1
theorem imp_PO {X : Cx} {e : Option Expr} {t u : TO} (h : PO X e t) (hi : ∀ σ H Q, u σ H Q → t σ H Q) : PO X e u := ⟨fun pins s σ H Q I q => h.run pins s σ H Q I (hi σ H Q q)⟩
theorem do_none : DO B X none dNoPart := imp_PO po_none fun σ H Q h => by
  obtain ⟨env, b, I, w⟩ := h
  exact w none H (Ext.refl H) I.bow I.tab rfl
theorem do_some (h : DE B X e ea) : DO B X (some e) (dPart ea) := imp_PO (po_some h) fun σ H Q h => by
  refine rd_bind (k := fun (a1 : Wv) _ b1 => part1 a1.d b1) h fun env a1 b1 x H1 I1 x1 r1 w => ?_
  have r := r1.rep
  cases z : a1.d with
  | int i =>
    rw [z] at r w
    exact ⟨i, r, wpG_ok (x := some i) w x1 I1.bow I1.tab rfl⟩
  | _ =>
    rw [z] at w
    exact False.elim w
def cutD (xs : List D) (lo hi : Option Int) : List D := (xs.drop (HT.sIx xs.length 0 lo)).take (HT.sIx xs.length xs.length hi - HT.sIx xs.length 0 lo)
def fSl (x : D) (lo hi : Option Int) : Option Wv := match x with
  | .lst l => some (.own (.lst (cutD l lo hi)))
  | .tup l => some (.val (.tup (cutD l lo hi)))
  | .str z => if okS (cutS z lo hi) then some (.val (.str (cutS z lo hi))) else none
  | _ => none
theorem cutD_len (xs : List D) (lo hi : Option Int) : (cutD xs lo hi).length ≤ xs.length := by
  unfold cutD
  rw [List.length_take, List.length_drop]
  omega
theorem RepL.cut {R : RC} {H : Hp} {ds : List D} {vs : List V} (h : RepL R H ds vs) (lo hi : Option Int) : RepL R H (cutD ds lo hi) (cutV vs lo hi) := by
  unfold cutD cutV
  rw [h.length]
  exact (h.drop _).take _
def rSlAll (K : PySem.W.Frag) : V → Option Int → Option Int → Hp → VK → Prop := fun x lo hi H Q => rSlL K x lo hi H Q ∨ rSlA K x lo hi H Q ∨ rSlS x lo hi H Q
theorem sl_allK : L2.SlR X (rSlAll X.K) := SlR.or sl_list (SlR.or sl_tupA sl_str)
theorem hsl_ok {R : RC} {d : D} {w : Wv} {x : V} {lo hi : Option Int} {H : Hp} {O : Addr → Prop} {Q : VK} (e : fSl d lo hi = some w) (od : ∀ a, H a = none → ¬ O a) (r : Rep R (vis H O) d x) (q : Nw R O H w Q) : rSlAll R.K x lo hi H Q := by
  cases d with
  | lst l =>
    cases e
    obtain ⟨a, vs, rfl, h1, h2, h3⟩ := r
    exact .inl ⟨a, vs, rfl, vis_sql h1, fun p hp => q _ _ (same_upd hp) (new_lst od (h2.cut lo hi) (Nat.le_trans (cutD_len _ _ _) h3) hp)⟩
  | tup l =>
    cases e
    obtain ⟨a, vs, rfl, h1, h2, h3⟩ := r
    refine .inr (.inl ⟨a, vs, rfl, vis_sqt h1, fun hw => q _ H (Same.refl H) ?_, fun _ p hp => q _ _ (same_upd hp) (new_tup od (h2.cut lo hi) (Nat.le_trans (cutD_len _ _ _) h3) hp)⟩)
    have el : cutD l lo hi = l := by
      unfold cutD
      rw [h2.length, hw.1, hw.2]
      simp [← h2.length]
    rw [el]
    exact ⟨a, vs, rfl, h1, h2, h3⟩
  | str z =>
    simp only [fSl] at e
    split at e
    · rename_i hok
      cases e
      obtain ⟨rfl, hz⟩ := r
      exact .inr (.inr ⟨z, rfl, (okS_len hz).2, q _ H (Same.refl H) ⟨rfl, hok⟩⟩)
    · cases e
  | _ => cases e
def dSl (ea : Ev) (el eh : EvO) : Ev := fun env b => (ea env b).bind fun w b1 => (el env b1).bind fun lo b2 => (eh env b2).bind fun hi b3 => optR (fSl w.d lo hi) b3
theorem de_slice {lo hi : Option Expr} {el eh : EvO} (ha : DE B X e ea) (hl : DO B X lo el) (hh : DO B X hi eh) (hK : B.R.K = X.K := by rfl) : DE B X (.Subscript e (.Slice lo hi none p2) pos) (dSl ea el eh) :=
  imp_PE (pe_slice sl_allK ha hl hh) fun σ H Q h => by
    refine rd_bind (k := fun (w : Wv) env b1 => (el env b1).bind fun lo b2 => (eh env b2).bind fun hi b3 => optR (fSl w.d lo hi) b3) h fun env w1 b1 x H1 I1 x1 r1 wp => ⟨env, b1, I1, ?_⟩
    have wp : wpG B RepW (ownO B.O env σ) H ((el env b1).bind fun lo b2 => (eh env b2).bind fun hi b3 => optR (fSl w1.d lo hi) b3) σ Q := wp
    cases e1 : el env b1 with
    | bad =>
      rw [e1] at wp
      exact False.elim wp
    | err c fs b2 =>
      rw [e1] at wp
      exact wpG_err (ρ1 := rhoO) wp x1
    | ok lo b2 =>
      rw [e1] at wp
      intro lo' H2 f1 f2 f3 f4
      cases (show lo = lo' from f4)
      have I2 := I1.go f1 f2 f3
      refine ⟨env, b2, I2, ?_⟩
      have wp : wpG B RepW (ownO B.O env σ) H ((eh env b2).bind fun hi b3 => optR (fSl w1.d lo hi) b3) σ Q := wp
      cases e2 : eh env b2 with
      | bad =>
        rw [e2] at wp
        exact False.elim wp
      | err c fs b3 =>
        rw [e2] at wp
        exact wpG_err (ρ1 := rhoO) wp (x1.trans f1)
      | ok hi b3 =>
        rw [e2] at wp
        intro hi' H3 g1 g2 g3 g4
        cases (show hi = hi' from g4)
        have I3 := I2.go g1 g2 g3
        have wp : wpG B RepW (ownO B.O env σ) H (optR (fSl w1.d lo hi) b3) σ Q := wp
        cases e3 : fSl w1.d lo hi with
        | none =>
          rw [e3] at wp
          exact False.elim wp
        | some v =>
          rw [e3] at wp
          have rr := RepW.go (RepW.go r1 f1 fun a q => I1.bOO q) g1 fun a q => I2.bOO q
          rw [← hK]
          exact hsl_ok e3 I3.nod rr.rep (nw_of I3 ((x1.trans f1).trans g1) wp)

/-! ### [::-1] -/
theorem sliceApplied_rev {prog : Program} {w : World} {A : Around} {E : Value → Shared → Prop} {s : Shared} {sl : Addr} {vs : Value} {n : Nat} {Q : Int × Int × Nat → Shared → Prop} (hs : s.heap.IsSliceOf sl .none .none vs) (ps : IsPart vs (some (-1)))
    (h : Q ((n : Int) - 1, -1, n) s) : wpAny (model prog w) A (Builtin.Slice.sliceApplied (.ref sl) (pure (n : Int))) Q E s := by
  obtain ⟨os, hos, hcs, hds⟩ := id hs
  unfold Builtin.Slice.sliceApplied Builtin.Slice.sliceFields
  refine wpAny_bind (wpAny_bind (wpAny_field hos hds (x := .none) rfl (wpAny_bind (wpAny_field hos hds (x := .none) rfl (wpAny_bind (wpAny_field hos hds (x := vs) rfl (wpAny_pure ?_)))))))
  refine wpAny_bind (HT.slicePart_ ps ?_)
  show wpAny _ _ (if ((-1 : Int) == 0) = true then _ else _) _ _ s
  rw [if_neg (by decide)]
  refine wpAny_bind (slicePart_none (wpAny_bind (slicePart_none (wpAny_bind (wpAny_pure ?_)))))
  show wpAny _ _ (match Builtin.Slice.sliceAdjust none none (-1) (n : Int) with | (lo, hi) => pure (lo, (-1 : Int), Builtin.Slice.slicePlaces lo hi (-1))) _ _ s
  have e : Builtin.Slice.slicePlaces ((n : Int) - 1) (-1) (-1) = n := by
    unfold Builtin.Slice.slicePlaces
    rw [if_neg (by decide)]
    split
    · have : -(-1 : Int) = 1 := rfl
      rw [this, Int.ediv_one]
      omega
    · omega
  show wpAny _ _ (pure ((n : Int) - 1, (-1 : Int), Builtin.Slice.slicePlaces ((n : Int) - 1) (-1) (-1))) _ _ s
  rw [e]
  exact wpAny_pure h
theorem pick_rev (xs : Array Value) : ((List.range xs.size).filterMap fun (k : Nat) => xs[((xs.size : Int) - 1 + (k : Int) * -1).toNat]?).toArray = xs.toList.reverse.toArray := by
  have e : (fun (k : Nat) => xs[((xs.size : Int) - 1 + (k : Int) * -1).toNat]?) = (fun (j : Nat) => xs[j]?) ∘ (fun (k : Nat) => ((xs.size : Int) - 1 + (k : Int) * -1).toNat) := rfl
  rw [e, ← List.filterMap_map]
  have e2 : (List.range xs.size).map (fun (k : Nat) => ((xs.size : Int) - 1 + (k : Int) * -1).toNat) = (List.range xs.size).map (fun (k : Nat) => xs.size - 1 - k) := List.map_congr_left fun k hk => by
    have := List.mem_range.mp hk
    omega
  rw [e2, PySem.W.krv_range, List.filterMap_reverse, PySem.W.krv_all]
theorem getItem_tuple_rev {prog : Program} {w : World} {A : Around} {E : Value → Shared → Prop} {s : Shared} {t sl : Addr} {items : Array Value} {vs : Value} {Q : Value → Shared → Prop} (ht : IsTup s.heap t items) (hs : s.heap.IsSliceOf sl .none .none vs) (ps : IsPart vs (some (-1)))
    (h : Q (.ref s.heap.objs.size) { s with heap := s.heap.push { cls := .type "tuple", data := .seq items.toList.reverse.toArray } }) (hsz : items.size ≤ sizeLine) : wpAny (model prog w) A (getItem (.ref t) (.ref sl)) Q E s := by
  have htake : sizeOk (.seq items.toList.reverse.toArray) := by
    show items.toList.reverse.toArray.size ≤ sizeLine
    rw [List.size_toArray, List.length_reverse, Array.length_toList]
    exact hsz
  obtain ⟨os, hos, hcs, hds⟩ := id hs
  have hTs : s.TypeIs (.ref sl) "slice" := ⟨os, hos, hcs⟩
  unfold getItem
  try with_reducible refine wpAny_holding ?_
  first | refine wpAny_bind (wpAny_pure ?_) | skip
  refine wpAny_bind (wpAny_sequenceKey ht.typeIs (by decide) ?_)
  refine wpAny_bind (wpAny_callSpecial?_slot (name := Str.ofString "__getitem__") ht.typeIs PyProof.Rows.slot_tuple_getitem
    (wpAny_call_entry PyProof.Rows.slot_tuple_getitem ht.typeIs entry_tuple_getitem ?_ (args_tuple_getitem _ _)))
  show wpAny _ _ (Builtin.Tuple.tupleItemsOf (.ref t) >>= _) _ _ s
  refine wpAny_bind (tupleItemsOf_ ht ?_)
  refine wpAny_bind (wpAny_typeOf hTs ?_)
  rw [if_pos (by decide)]
  refine wpAny_bind (sliceApplied_rev hs ps ?_)
  have hno : ¬ (((items.size : Int) - 1 == 0 && (-1 : Int) == 1 && items.size == items.size) = true) := by
    intro q
    rw [Bool.and_eq_true, Bool.and_eq_true] at q
    exact absurd q.1.2 (by decide)
  show wpAny _ _ (if ((items.size : Int) - 1 == 0 && (-1 : Int) == 1 && items.size == items.size) = true then _ else _) _ _ s
  rw [if_neg hno, pick_rev]
  first
    | exact wpAny_bind (m := Builtin.Tuple.tupleExact _) (wpAny_newObj_type (wpAny_pure ⟨_, rfl, wpAny_pure h⟩) htake)
    | exact wpAny_bind (m := Builtin.Tuple.tupleExact _) (wpAny_newObj_type (wpAny_bind (wpAny_pure (wpAny_pure ⟨_, rfl, wpAny_pure h⟩))) htake)
    | exact wpAny_bind (wpAny_bind (m := Builtin.Tuple.tupleExact _) (wpAny_newObj_type (wpAny_pure (wpAny_pure ⟨_, rfl, wpAny_pure h⟩)) htake))
    | exact wpAny_bind (wpAny_bind (m := Builtin.Tuple.tupleExact _) (wpAny_newObj_type (wpAny_pure ⟨_, rfl, wpAny_pure h⟩) htake))
def tRev (K : PySem.W.Frag) (te : TE) : TE := fun σ H Q => te σ H fun x H1 => ∃ a xs, x = .ref a ∧ (SqL K H1 a xs ∧ (∀ p, H1 p = none → Q (.ref p) (upd H1 p (.lst xs.reverse))) ∨ SqT K H1 a xs ∧ ∀ p, H1 p = none → Q (.ref p) (upd H1 p (.tup xs.reverse)))
theorem pe_rev {te : TE} {k : Nat} {p1 p2 p3 pos : Pos} (he : PE X e te) : PE X (.Subscript e (.Slice none none (some (.UnaryOp .USub (.Constant (.int 1) k p1) p2)) p3) pos) (tRev X.K te) := by
  refine ⟨fun pins s σ H Q I h => ?_⟩
  refine Subscript_ (thn (he.run pins s σ H _ I h) fun v s1 ⟨x, H1, I1, r1, q1⟩ => ?_)
  obtain ⟨a, xs, ex, q⟩ := q1
  subst ex
  cases r1
  have hst : PO X (some (.UnaryOp .USub (.Constant (.int 1) k p1) p2)) (tPart (tUn (rU fun i => .int (-i)) (tC (.int 1)))) := po_some (pe_un un_neg pe_int)
  refine wpAny_Slice (thn (po_none.run pins s1 σ H1 (fun o H2 => o = none ∧ H2 = H1) I1 ⟨rfl, rfl⟩) fun vl s2 ⟨l, H2, I2, pl, el, e2⟩ => ?_)
  subst el e2
  refine thn (po_none.run pins s2 σ H2 (fun o H3 => o = none ∧ H3 = H2) I2 ⟨rfl, rfl⟩) fun vu s3 ⟨u, H3, I3, pu, eu, e3⟩ => ?_
  subst eu e3
  refine thn (hst.run pins s3 σ H3 (fun o H4 => o = some (-1) ∧ H4 = H3) I3 ⟨1, rfl, -1, rfl, rfl, rfl⟩) fun vs s4 ⟨o, H4, I4, ps, eo, e4⟩ => ?_
  subst eo e4
  have I5 : Inv X pins σ H4 { s4 with heap := s4.heap.push { cls := .type "slice", data := .fields #[vl, vu, vs] } } := I4.kept (t' := s4.toks) fun b ob q => Heap.get?_push_of_some _ q
  show wpAny (model X.prog X.w) X.A (subscriptTail e (.Slice none none (some (.UnaryOp .USub (.Constant (.int 1) k p1) p2)) p3) (.ref a) (.ref s4.heap.objs.size)) (EP X pins σ Q) X.xe { s4 with heap := s4.heap.push { cls := .type "slice", data := .fields #[vl, vu, vs] } }
  rcases q with ⟨hx, q⟩ | ⟨hx, q⟩
  · obtain ⟨its, r, ht, hz⟩ := I5.list hx
    have hlen := r.length
    refine tail_any (ops := [.ref a, .ref s4.heap.objs.size]) ht.isList.typeIs (PySem.slot_list_getitem.lookup) ?_ (by with_unfolding_all rfl)
    refine wpAny_getItem_list_slice ht.isList (Heap.IsSliceOf.new _ vl vu vs) pl pu ps (by decide) ?_ (by rw [List.size_toArray]; omega)
    rw [PySem.W.krv_pick]
    refine ⟨.ref _, _, I5.laid (t' := s4.toks) (o := .lst xs.reverse) (fun b ob q => Heap.get?_push_of_some _ q) (Nat.le_refl _) ?_, rfl, q _ (I5.hok.fresh (Nat.le_refl _))⟩
    exact ⟨by rw [List.length_reverse]; exact hz, _, 0, r.reverse, Heap.get?_push_size _ rfl⟩
  · obtain ⟨its, r, ht, hz⟩ := I5.tuple hx
    have hlen := r.length
    have vl0 : vl = .none := by cases pl; rfl
    have vu0 : vu = .none := by cases pu; rfl
    subst vl0 vu0
    refine tail_any (ops := [.ref a, .ref s4.heap.objs.size]) ht.typeIs (PyProof.Rows.slot_tuple_getitem.lookup) ?_ (by with_unfolding_all rfl)
    refine getItem_tuple_rev ht (Heap.IsSliceOf.new _ _ _ vs) ps ?_ (by rw [List.size_toArray]; omega)
    refine ⟨.ref _, _, I5.laid (t' := s4.toks) (o := .tup xs.reverse) (fun b ob q => Heap.get?_push_of_some _ q) (Nat.le_refl _) ?_, rfl, q _ (I5.hok.fresh (Nat.le_refl _))⟩
    exact ⟨by rw [List.length_reverse]; exact hz, _, by simpa using r.reverse, IsTup.new _ _⟩
theorem RepL.rev {R : RC} {H : Hp} : ∀ {ds : List D} {vs : List V}, RepL R H ds vs → RepL R H ds.reverse vs.reverse
  | [], _, h => by
    cases h
    rfl
  | d :: ds, vs, h => by
    obtain ⟨v, r, e, h1, h2⟩ := h
    subst e
    rw [List.reverse_cons, List.reverse_cons]
    exact RepL.append (RepL.rev h2) (RepL.cons h1 RepL.nil)
def fRev (x : D) : Option Wv := match x with
  | .lst l => some (.own (.lst l.reverse))
  | .tup l => some (.val (.tup l.reverse))
  | _ => none
theorem de_rev {k : Nat} {p1 p3 : Pos} (ha : DE B X e ea) (hK : B.R.K = X.K := by rfl) : DE B X (.Subscript e (.Slice none none (some (.UnaryOp .USub (.Constant (.int 1) k p1) p2)) p3) pos) (dOp1 fRev ea) :=
  imp_PE (pe_rev ha) fun σ H Q h => rd_op1 (f := fRev) (r := fun x H1 Q => ∃ a xs, x = .ref a ∧ (SqL X.K H1 a xs ∧ (∀ p, H1 p = none → Q (.ref p) (upd H1 p (.lst xs.reverse))) ∨ SqT X.K H1 a xs ∧ ∀ p, H1 p = none → Q (.ref p) (upd H1 p (.tup xs.reverse)))) (by
    rw [← hK]
    exact fun d w x H O Q e od r q => by
      cases d with
      | lst l =>
        cases e
        obtain ⟨a, vs, rfl, h1, h2, h3⟩ := r
        exact ⟨a, vs, rfl, .inl ⟨vis_sql h1, fun p hp => q _ _ (same_upd hp) (new_lst od h2.rev (by rw [List.length_reverse]; exact h3) hp)⟩⟩
      | tup l =>
        cases e
        obtain ⟨a, vs, rfl, h1, h2, h3⟩ := r
        exact ⟨a, vs, rfl, .inr ⟨vis_sqt h1, fun p hp => q _ _ (same_upd hp) (new_tup od h2.rev (by rw [List.length_reverse]; exact h3) hp)⟩⟩
      | _ => cases e) h


end
/-! ### in, not in -/
section
variable {X : Cx}
def rInT (K : PySem.W.Frag) : R2 := fun x y H Q => ∃ d ds, Dp K H x d ∧ Dp K H y (.tuple ds) ∧ SeqAt.shaped d = true ∧ SeqAt.shaped (.tuple ds) = true ∧ Q (.bl (ds.any fun z => PyData.eqv z d)) H
def rNotInT (K : PySem.W.Frag) : R2 := fun x y H Q => ∃ d ds, Dp K H x d ∧ Dp K H y (.tuple ds) ∧ SeqAt.shaped d = true ∧ SeqAt.shaped (.tuple ds) = true ∧ Q (.bl (!ds.any fun z => PyData.eqv z d)) H
theorem op_inT (hu : X.A.units + 65 < cLine) : OpR X (compareOp .In) (rInT X.K) := by
  intro pins s σ H x y v u Q I rx ry h
  obtain ⟨d, ds, hd, he, sd, se, q⟩ := h
  obtain ⟨as, r1⟩ := Dp.reads I d x v hd rx
  obtain ⟨bs, r2⟩ := Dp.reads I (.tuple ds) y u he ry
  exact SeqAt.in_tuple_reads r2 r1 (SeqAt.canLay_of_shaped se) (SeqAt.canLay_of_shaped sd) (room_in_shaped sd hu) ⟨.bl _, H, I, rfl, q⟩
theorem op_notInT (hu : X.A.units + 65 < cLine) : OpR X (compareOp .NotIn) (rNotInT X.K) := by
  intro pins s σ H x y v u Q I rx ry h
  obtain ⟨d, ds, hd, he, sd, se, q⟩ := h
  obtain ⟨as, r1⟩ := Dp.reads I d x v hd rx
  obtain ⟨bs, r2⟩ := Dp.reads I (.tuple ds) y u he ry
  exact SeqAt.notIn_tuple_reads r2 r1 (SeqAt.canLay_of_shaped se) (SeqAt.canLay_of_shaped sd) (room_in_shaped sd hu) ⟨.bl _, H, I, rfl, q⟩
end
def inL (x : D) (l : List D) : Bool := l.any fun z => eqD z x
def fIn (x y : D) : Option Wv := if pureD PD x && pureD PD y then (match y with
  | .lst l => vB (inL x l)
  | .tup l => vB (inL x l)
  | _ => none) else none
def fNotIn (x y : D) : Option Wv := if pureD PD x && pureD PD y then (match y with
  | .lst l => vB (!inL x l)
  | .tup l => vB (!inL x l)
  | _ => none) else none
theorem any_py {n m : Nat} {x : D} (hx : pureD n x = true) : ∀ {l : List D}, pureDs m l = true → (pyDs l).any (fun z => PyData.eqv z (pyD x)) = inL x l
  | [], _ => by simp [pyDs, inL]
  | d :: ds, h => by
    simp only [pureDs, Bool.and_eq_true] at h
    have := any_py hx h.2
    unfold inL at this
    simp only [pyDs, inL, List.any_cons]
    rw [eq_py h.1 hx, this]
theorem pure_succ {n : Nat} {l : List D} : (pureD (n + 1) (.lst l) = pureDs n l) ∧ (pureD (n + 1) (.tup l) = pureDs n l) := ⟨by simp [pureD], by simp [pureD]⟩
theorem h_in {R : RC} : H2ok R fIn (fun x y H Q => rInD R.K x y H Q ∨ rInT R.K x y H Q) := fun d1 d2 w x y H O Q e od r1 r2 q => by
  unfold fIn at e
  split at e
  · rename_i hp
    rw [Bool.and_eq_true] at hp
    obtain ⟨a1, a2, a3⟩ := dp_of hp.1 (r1.mono vis_all)
    obtain ⟨b1, b2, b3⟩ := dp_of hp.2 (r2.mono vis_all)
    cases d2 with
    | lst l =>
      cases e
      refine .inl ⟨_, pyDs l, a1, by simpa [pyD] using b1, shaped_of (by decide) a2 a3, by simpa [pyD] using shaped_of (by decide) b2 b3, ?_⟩
      rw [any_py hp.1 (by have := hp.2; unfold PD at this; rwa [pure_succ.1] at this)]
      exact q _ H (Same.refl H) rfl
    | tup l =>
      cases e
      refine .inr ⟨_, pyDs l, a1, by simpa [pyD] using b1, shaped_of (by decide) a2 a3, by simpa [pyD] using shaped_of (by decide) b2 b3, ?_⟩
      rw [any_py hp.1 (by have := hp.2; unfold PD at this; rwa [pure_succ.2] at this)]
      exact q _ H (Same.refl H) rfl
    | _ => cases e
  · cases e
theorem h_notIn {R : RC} : H2ok R fNotIn (fun x y H Q => rNotInD R.K x y H Q ∨ rNotInT R.K x y H Q) := fun d1 d2 w x y H O Q e od r1 r2 q => by
  unfold fNotIn at e
  split at e
  · rename_i hp
    rw [Bool.and_eq_true] at hp
    obtain ⟨a1, a2, a3⟩ := dp_of hp.1 (r1.mono vis_all)
    obtain ⟨b1, b2, b3⟩ := dp_of hp.2 (r2.mono vis_all)
    cases d2 with
    | lst l =>
      cases e
      refine .inl ⟨_, pyDs l, a1, by simpa [pyD] using b1, shaped_of (by decide) a2 a3, by simpa [pyD] using shaped_of (by decide) b2 b3, ?_⟩
      rw [any_py hp.1 (by have := hp.2; unfold PD at this; rwa [pure_succ.1] at this)]
      exact q _ H (Same.refl H) rfl
    | tup l =>
      cases e
      refine .inr ⟨_, pyDs l, a1, by simpa [pyD] using b1, shaped_of (by decide) a2 a3, by simpa [pyD] using shaped_of (by decide) b2 b3, ?_⟩
      rw [any_py hp.1 (by have := hp.2; unfold PD at this; rwa [pure_succ.2] at this)]
      exact q _ H (Same.refl H) rfl
    | _ => cases e
  · cases e

/-! ### + and * of any kind -/
section
variable {X : Cx}
def rCatL (K : PySem.W.Frag) : R2 := fun x y H Q => ∃ l b xs zs, x = .ref l ∧ y = .ref b ∧ SqL K H l xs ∧ SqL K H b zs ∧ xs.length + zs.length ≤ sizeLine ∧ ∀ p, H p = none → Q (.ref p) (upd H p (.lst (xs ++ zs)))
theorem op_catL : OpR X (binaryOp .Add) (rCatL X.K) := by
  intro pins s σ H x y v u Q I rx ry h
  obtain ⟨l, b, xs, zs, rfl, rfl, hH, hB, hz, q⟩ := h
  cases rx
  cases ry
  obtain ⟨its, r, ⟨⟨cls, dd, data, sl⟩, n, ho, hc, hdn, hdt⟩, z⟩ := I.list hH
  obtain ⟨its2, r2, ⟨⟨cls2, dd2, data2, sl2⟩, n2, ho2, hc2, hdn2, hdt2⟩, z2⟩ := I.list hB
  simp only at hc hdt hc2 hdt2
  subst hc hdt hc2 hdt2
  have l1 := r.length
  have l2 := r2.length
  refine concat_meets ⟨_, ho, rfl⟩ ⟨_, ho2, rfl⟩ noFill_list_add seq_list_add PySem.F.slot_list_add PySem.F.entry_list_add (PySem.F.args_list_add_2 _ _) (list_addW l b its.toArray its2.toArray n n2 dd dd2 sl sl2 (by rw [List.size_toArray, List.size_toArray]; omega)) ⟨ho, ho2, ?_⟩
  have ea : its.toArray ++ its2.toArray = (its ++ its2).toArray := by simp
  rw [ea]
  exact ⟨.ref _, _, I.lnew (t' := s.toks) (r.append r2) (by rw [List.length_append]; omega), rfl, q _ I.fresh⟩
def rRepL (K : PySem.W.Frag) : R2 := fun x y H Q => ∃ l k xs, x = .ref l ∧ y = .int k ∧ SqL K H l xs ∧ -1000 ≤ k ∧ k ≤ 1000 ∧ xs.length ≤ 1000 ∧ ∀ p, H p = none → Q (.ref p) (upd H p (.lst (List.replicate k.toNat xs).flatten))
theorem rep_len {α : Type} {xs : List α} {k : Int} (h2 : k ≤ 1000) (hz : xs.length ≤ 1000) : (List.replicate k.toNat xs).flatten.length ≤ LIM := by
  rw [PyProof.Rows.lm_len_rep_flat]
  have a1 : k.toNat * xs.length ≤ 1000 * 1000 := Nat.mul_le_mul (by omega) hz
  exact a1
theorem op_repL : OpR X (binaryOp .Mult) (rRepL X.K) := by
  intro pins s σ H x y v u Q I rx ry h
  obtain ⟨l, k, xs, rfl, rfl, hH, h1, h2, hz, q⟩ := h
  cases rx
  obtain ⟨t, rfl⟩ := ry
  obtain ⟨its, r, ⟨⟨cls, dd, data, sl⟩, n, ho, hc, hdn, hdt⟩, z⟩ := I.list hH
  simp only at hc hdt
  subst hc hdt
  have hl := r.length
  have a1 : its.toArray.size * k.toNat ≤ 1000 * 1000 := by
    rw [List.size_toArray]
    exact Nat.mul_le_mul (by omega) (by omega)
  refine wpAny_binaryOp_repeat_ref (T := "list") (U := "int") (by decide) ⟨_, ho, rfl⟩ (fun s' => typeIs_int s' k t) noFill_list_mul F.fills_int_mul F.slot_int_rmul repeat_list F.slot_int_index.lookup
    (call_meets F.slot_int_rmul (typeIs_int s k t) F.entry_int_rmul (F.args_int_rmul_2 _ _) (lm_int_rmul_list_any k t l its.toArray n dd sl)
      ⟨ho, rfl, ⟨_, ho, rfl⟩, call_meets F.slot_list_mul ⟨_, ho, rfl⟩ F.entry_list_mul (F.args_list_mul_2 _ _)
        (lm_list_mul_any l its.toArray n dd sl k t (by simp [Builtin.List.listFitsIndex]; omega) (by omega) (by simp [Builtin.List.listTooLong, sizeLine]; simp at a1; omega))
        ⟨ho, ?_⟩⟩)
  rw [listMul_foldl_if]
  exact ⟨.ref _, _, I.lnew (t' := s.toks) (r.rep k.toNat) (small_lim (rep_len h2 hz)), rfl, q _ I.fresh⟩
theorem tuple_mulS (l : Addr) (items : Array Value) (n : Nat) (dd : Option Addr) (sl : Array (Option Value)) (x : Int) (u : Tok) (c0 : (decide (x < -(2 ^ 63)) || decide (x ≥ 2 ^ 63)) = false) (c1 : (items.isEmpty || x == 1) = true) :
    Meets (Builtin.«tuple.__mul__» ⟨[.ref l, .int x u], []⟩) (fun _ R s => s.heap.get? l = some { cls := .type "tuple", dict := dd, data := .seq items n, slots := sl } ∧
      R (.ok (.ret (Value.ref l))) s) :=
  .of_wp fun prog w A R s h => by
    obtain ⟨hp, g, d, tk, os⟩ := s
    obtain ⟨hl, h⟩ := h
    have f1 := AutoSeq1.idx_int
    wp_walk using wpAny_loadPart' hl
    repeat (first
      | (refine wpAny_ite_false (decide_eq_false (by rw [c0]; exact Bool.false_ne_true)) ?_; wp_walk using wpAny_loadPart' hl)
      | (refine wpAny_ite_true (decide_eq_true c1) ?_; wp_walk using wpAny_loadPart' hl))
    exact ⟨_, rfl, h⟩

theorem tuple_mul0 (l : Addr) (items : Array Value) (n : Nat) (dd : Option Addr) (sl : Array (Option Value)) (x : Int) (u : Tok) (c0 : (decide (x < -(2 ^ 63)) || decide (x ≥ 2 ^ 63)) = false) (c1 : (items.isEmpty || x == 1) = false) (c2 : (decide (x ≤ 0) || items.isEmpty) = true) :
    Meets (Builtin.«tuple.__mul__» ⟨[.ref l, .int x u], []⟩) (fun _ R s => s.heap.get? l = some { cls := .type "tuple", dict := dd, data := .seq items n, slots := sl } ∧
      R (.ok (.ret (Value.ref s.heap.objs.size))) { s with heap := s.heap.push { cls := Value.type "tuple", data := Data.seq #[] }, toks := s.toks }) :=
  .of_wp fun prog w A R s h => by
    obtain ⟨hp, g, d, tk, os⟩ := s
    obtain ⟨hl, h⟩ := h
    have f1 := AutoSeq1.idx_int
    wp_walk using wpAny_loadPart' hl
    repeat (first
      | (refine wpAny_ite_false (decide_eq_false (by rw [c0]; exact Bool.false_ne_true)) ?_; wp_walk using wpAny_loadPart' hl)
      | (refine wpAny_ite_false (decide_eq_false (by rw [c1]; exact Bool.false_ne_true)) ?_; wp_walk using wpAny_loadPart' hl)
      | (refine wpAny_ite_true (decide_eq_true c2) ?_; wp_walk using wpAny_loadPart' hl))
    exact ⟨_, rfl, h⟩
def rRepA (K : PySem.W.Frag) : R2 := fun x y H Q => ∃ l k xs, x = .ref l ∧ y = .int k ∧ SqT K H l xs ∧ -1000 ≤ k ∧ k ≤ 1000 ∧ xs.length ≤ 1000 ∧
  ((xs = [] ∨ k = 1) → Q (.ref l) H) ∧ ∀ p, H p = none → Q (.ref p) (upd H p (.tup (List.replicate k.toNat xs).flatten))
theorem op_repA : OpR X (binaryOp .Mult) (rRepA X.K) := by
  intro pins s σ H x y v u Q I rx ry h
  obtain ⟨l, k, xs, rfl, rfl, hT, h1, h2, hz, q1, q2⟩ := h
  by_cases hs : xs = [] ∨ k = 1
  · cases rx
    obtain ⟨t, rfl⟩ := ry
    obtain ⟨its, r, ⟨⟨cls, dd, data, sl⟩, ho, hc, n, hd⟩, hsz⟩ := I.tuple hT
    simp only at hc hd
    subst hc hd
    have c0 : (decide (k < -(2 ^ 63)) || decide (k ≥ 2 ^ 63)) = false := by
      rw [decide_eq_false (by omega), decide_eq_false (by omega)] <;> rfl
    have c1 : (its.toArray.isEmpty || k == 1) = true := by
      rcases hs with e | e
      · subst e
        cases r
        rfl
      · subst e
        simp
    refine wpAny_binaryOp_repeat_ref (T := "tuple") (U := "int") (by decide) ⟨_, ho, rfl⟩ (fun s' => typeIs_int s' k t) noFill_tuple_mul F.fills_int_mul F.slot_int_rmul repeat_tuple F.slot_int_index.lookup
      (call_meets F.slot_int_rmul (typeIs_int s k t) F.entry_int_rmul (F.args_int_rmul_2 _ _) (int_rmul_tuple k t l its.toArray n dd sl)
        ⟨ho, rfl, ⟨_, ho, rfl⟩, call_meets F.slot_tuple_mul ⟨_, ho, rfl⟩ F.entry_tuple_mul (F.args_tuple_mul_2 _ _) (tuple_mulS l its.toArray n dd sl k t c0 c1) ⟨ho, ?_⟩⟩)
    exact ⟨.ref l, H, I, rfl, q1 hs⟩
  · have hne : xs ≠ [] := fun e => hs (.inl e)
    have hk : k ≠ 1 := fun e => hs (.inr e)
    by_cases h0 : k ≤ 0
    · cases rx
      obtain ⟨t, rfl⟩ := ry
      obtain ⟨its, r, ⟨⟨cls, dd, data, sl⟩, ho, hc, n, hd⟩, hsz⟩ := I.tuple hT
      simp only at hc hd
      subst hc hd
      have c0 : (decide (k < -(2 ^ 63)) || decide (k ≥ 2 ^ 63)) = false := by
        rw [decide_eq_false (by omega), decide_eq_false (by omega)] <;> rfl
      have hi : its.toArray.isEmpty = false := by
        cases its with
        | nil =>
          have := r.length
          exact absurd (List.eq_nil_of_length_eq_zero (by simpa using this)) hne
        | cons a b => rfl
      have c1 : (its.toArray.isEmpty || k == 1) = false := by
        rw [hi, Bool.false_or]
        exact beq_eq_false_iff_ne.mpr hk
      have c2 : (decide (k ≤ 0) || its.toArray.isEmpty) = true := by
        rw [decide_eq_true h0]
        rfl
      refine wpAny_binaryOp_repeat_ref (T := "tuple") (U := "int") (by decide) ⟨_, ho, rfl⟩ (fun s' => typeIs_int s' k t) noFill_tuple_mul F.fills_int_mul F.slot_int_rmul repeat_tuple F.slot_int_index.lookup
        (call_meets F.slot_int_rmul (typeIs_int s k t) F.entry_int_rmul (F.args_int_rmul_2 _ _) (int_rmul_tuple k t l its.toArray n dd sl)
          ⟨ho, rfl, ⟨_, ho, rfl⟩, call_meets F.slot_tuple_mul ⟨_, ho, rfl⟩ F.entry_tuple_mul (F.args_tuple_mul_2 _ _) (tuple_mul0 l its.toArray n dd sl k t c0 c1 c2) ⟨ho, ?_⟩⟩)
      have ek : k.toNat = 0 := by omega
      have q := q2 _ (I.hok.fresh (Nat.le_refl s.heap.objs.size))
      rw [ek] at q
      refine ⟨.ref s.heap.objs.size, _, I.laid (t' := s.toks) (o := .tup []) (fun b ob q => Heap.get?_push_of_some _ q) (Nat.le_refl _) ?_, rfl, q⟩
      exact ⟨Nat.zero_le _, [], .nil, IsTup.new _ _⟩
    · exact op_repT pins s σ H _ _ v u Q I rx ry ⟨l, k, xs, rfl, rfl, hT, hne, by omega, h2, hz, q2⟩

end
section
variable {X : Cx}
def rCatS : R2 := fun x y H Q => ∃ i j, x = .str i ∧ y = .str j ∧ i.length + j.length ≤ sizeLine ∧ Q (.str (i ++ j)) H
def rAddG (K : PySem.W.Frag) : R2 := fun x y H Q => rI0 (fun i j => .int (i + j)) x y H Q ∨ rCatL K x y H Q ∨ rCatA K x y H Q ∨ rCatS x y H Q
theorem op_addG : OpR X (binaryOp .Add) (rAddG X.K) := OpR.or op_add (OpR.or op_catL (OpR.or op_catA op_add_str))
def rMulG (K : PySem.W.Frag) : R2 := fun x y H Q => rI CMulW (fun i j => .int (i * j)) x y H Q ∨ rRepL K x y H Q ∨ rRepA K x y H Q
theorem op_mulG : OpR X (binaryOp .Mult) (rMulG X.K) := OpR.or op_mulW (OpR.or op_repL op_repA)
end
def fAddG (x y : D) : Option Wv := match x, y with
  | .int i, .int j => vI (i + j)
  | .lst l, .lst m => if l.length + m.length ≤ LIM then some (.own (.lst (l ++ m))) else none
  | .tup l, .tup m => if l.length + m.length ≤ LIM then some (.val (.tup (l ++ m))) else none
  | .str a, .str b => if okS (a ++ b) then some (.val (.str (a ++ b))) else none
  | _, _ => none
def repOk (k : Int) (n : Nat) : Bool := decide (-1000 ≤ k) && (decide (k ≤ 1000) && decide (n ≤ 1000))
def fMulG (x y : D) : Option Wv := match x, y with
  | .int i, .int j => if mulOk i j then vI (i * j) else none
  | .lst l, .int k => if repOk k l.length then some (.own (.lst (List.replicate k.toNat l).flatten)) else none
  | .tup l, .int k => if repOk k l.length then some (.val (.tup (List.replicate k.toNat l).flatten)) else none
  | _, _ => none
theorem h_addG {R : RC} : H2ok R fAddG (rAddG R.K) := fun d1 d2 w x y H O Q e od r1 r2 q => by
  cases d1 with
  | int i =>
    cases d2 with
    | int j =>
      cases e
      exact .inl ⟨i, j, r1, r2, q _ H (Same.refl H) rfl⟩
    | _ => cases e
  | lst l =>
    cases d2 with
    | lst m =>
      simp only [fAddG] at e
      split at e
      · rename_i hl
        cases e
        obtain ⟨a, vs, rfl, h1, h2, h3⟩ := r1
        obtain ⟨b, us, rfl, g1, g2, g3⟩ := r2
        exact .inr (.inl ⟨a, b, vs, us, rfl, rfl, vis_sql h1, vis_sql g1, by rw [← h2.length, ← g2.length]; exact small_lim hl, fun p hp => q _ _ (same_upd hp) (new_lst od (h2.append g2) (by rw [List.length_append]; exact hl) hp)⟩)
      · cases e
    | _ => cases e
  | tup l =>
    cases d2 with
    | tup m =>
      simp only [fAddG] at e
      split at e
      · rename_i hl
        cases e
        obtain ⟨a, vs, rfl, h1, h2, h3⟩ := r1
        obtain ⟨b, us, rfl, g1, g2, g3⟩ := r2
        refine .inr (.inr (.inl ⟨a, b, vs, us, rfl, rfl, vis_sqt h1, vis_sqt g1, by rw [← h2.length, ← g2.length]; exact small_lim hl, fun e1 => ?_, fun e1 e2 => ?_, fun e1 e2 p hp => q _ _ (same_upd hp) (new_tup od (h2.append g2) (by rw [List.length_append]; exact hl) hp)⟩))
        · subst e1
          have el : l = [] := List.eq_nil_of_length_eq_zero (by rw [h2.length]; rfl)
          subst el
          exact q _ H (Same.refl H) ⟨b, us, rfl, g1, g2, g3⟩
        · subst e2
          have el : m = [] := List.eq_nil_of_length_eq_zero (by rw [g2.length]; rfl)
          subst el
          exact q _ H (Same.refl H) ⟨a, vs, rfl, h1, by rw [List.append_nil]; exact h2, by rw [List.append_nil]; exact h3⟩
      · cases e
    | _ => cases e
  | str a =>
    cases d2 with
    | str b =>
      simp only [fAddG] at e
      split at e
      · rename_i hl
        cases e
        obtain ⟨rfl, h1⟩ := r1
        obtain ⟨rfl, h2⟩ := r2
        exact .inr (.inr (.inr ⟨a, b, rfl, rfl, by
          have z1 := (okS_len h1).1
          have z2 := (okS_len h2).1
          have z3 : 2 * LIM ≤ sizeLine := by decide
          omega, q _ H (Same.refl H) ⟨rfl, hl⟩⟩))
      · cases e
    | _ => cases e
  | _ => cases e
theorem h_mulG {R : RC} : H2ok R fMulG (rMulG R.K) := fun d1 d2 w x y H O Q e od r1 r2 q => by
  cases d1 with
  | int i =>
    cases d2 with
    | int j =>
      simp only [fMulG] at e
      split at e
      · rename_i hm
        cases e
        have hm2 : i.natAbs.log2 + j.natAbs.log2 < 1000000 := of_decide_eq_true hm
        exact .inl ⟨i, j, r1, r2, hm2, q _ H (Same.refl H) rfl⟩
      · cases e
    | _ => cases e
  | lst l =>
    cases d2 with
    | int k =>
      simp only [fMulG] at e
      split at e
      · rename_i hm
        cases e
        unfold repOk at hm
        rw [Bool.and_eq_true, Bool.and_eq_true] at hm
        have b1 := of_decide_eq_true hm.1
        have b2 := of_decide_eq_true hm.2.1
        have b3 := of_decide_eq_true hm.2.2
        obtain ⟨a, vs, rfl, h1, h2, h3⟩ := r1
        exact .inr (.inl ⟨a, k, vs, rfl, r2, vis_sql h1, b1, b2, by rw [← h2.length]; exact b3, fun p hp => q _ _ (same_upd hp) (new_lst od (repL_rep h2 _) (rep_len b2 b3) hp)⟩)
      · cases e
    | _ => cases e
  | tup l =>
    cases d2 with
    | int k =>
      simp only [fMulG] at e
      split at e
      · rename_i hm
        cases e
        unfold repOk at hm
        rw [Bool.and_eq_true, Bool.and_eq_true] at hm
        have b1 := of_decide_eq_true hm.1
        have b2 := of_decide_eq_true hm.2.1
        have b3 := of_decide_eq_true hm.2.2
        obtain ⟨a, vs, rfl, h1, h2, h3⟩ := r1
        refine .inr (.inr ⟨a, k, vs, rfl, r2, vis_sqt h1, b1, b2, by rw [← h2.length]; exact b3, fun hs => q _ H (Same.refl H) ?_, fun p hp => q _ _ (same_upd hp) (new_tup od (repL_rep h2 _) (rep_len b2 b3) hp)⟩)
        have el : (List.replicate k.toNat l).flatten = l := by
          rcases hs with z | z
          · have : l = [] := List.eq_nil_of_length_eq_zero (by rw [h2.length, z]; rfl)
            rw [this]
            simp
          · rw [z]
            simp
        show Rep R _ (.tup _) _
        rw [el]
        exact ⟨a, vs, rfl, h1, h2, h3⟩
      · cases e
    | _ => cases e
  | _ => cases e
where
  repL_rep {R : RC} {H : Hp} {ds : List D} {vs : List V} (h : RepL R H ds vs) : ∀ k : Nat, RepL R H (List.replicate k ds).flatten (List.replicate k vs).flatten
  | 0 => rfl
  | k + 1 => by
    rw [List.replicate_succ, List.replicate_succ, List.flatten_cons, List.flatten_cons]
    exact RepL.append h (repL_rep h k)
section
variable {B : BP} {X : Cx} {a c e : Expr} {ea eb : Ev} {pos p p2 : Pos}
theorem de_addG (ha : DE B X a ea) (hb : DE B X c eb) (hK : B.R.K = X.K := by rfl) : DE B X (.BinOp a .Add c pos) (dOp2 fAddG ea eb) := de_bin op_addG (hK ▸ h_addG) ha hb
theorem de_mulG (ha : DE B X a ea) (hb : DE B X c eb) (hK : B.R.K = X.K := by rfl) : DE B X (.BinOp a .Mult c pos) (dOp2 fMulG ea eb) := de_bin op_mulG (hK ▸ h_mulG) ha hb
end
end DL

set_option Elab.async false
set_option linter.all false
set_option maxRecDepth 100000
set_option maxHeartbeats 4000000
namespace DL
open PySem PySem.Spec PyProof.Rows L2

/-! ### own lists written -/
theorem tabs_upd {T : List NdefX.NTab} {H : Hp} {a : Addr} {o o' : HO} (t : NdefX.TabsN T H) (h : H a = some o) (n1 : ∀ ps, o ≠ .tbl ps) (n2 : ∀ cv nm, o ≠ LamX.CodeO cv nm) : NdefX.TabsN T (upd H a o') := by
  intro p hp
  obtain ⟨ps, e1, e2, e3⟩ := t p hp
  have up : ∀ b u, H b = some u → u ≠ o → upd H a o' b = some u := fun b u e n => by
    have ne : b ≠ a := fun z => by
      rw [z, h] at e
      exact n (Option.some.inj e).symm
    rw [upd_ne ne]
    exact e
  refine ⟨ps, up _ _ e1 (fun z => n1 ps z.symm), e2, fun pos cv hc => ?_⟩
  obtain ⟨c, z1, z2⟩ := e3 pos cv hc
  exact ⟨c, z1, up _ _ z2 fun z => n2 _ _ z.symm⟩
section
variable {B : BP} {X : Cx} {env : Sls} {b : Bw} {σ : L2.St} {H : Hp}
theorem own_put {O : Addr → Prop} {i : Nat} {d d' : D} (e : env[i]? = some (.own d)) (a : Addr) : ownO O (env.set i (.own d')) σ a ↔ ownO O env σ a := by
  have hi := (List.getElem?_eq_some_iff.mp e).1
  constructor
  · rintro (h | ⟨j, x, h1, h2⟩)
    · exact .inl h
    · by_cases q : i = j
      · subst q
        exact .inr ⟨i, d, e, h2⟩
      · rw [List.getElem?_set_ne q] at h1
        exact .inr ⟨j, x, h1, h2⟩
  · rintro (h | ⟨j, x, h1, h2⟩)
    · exact .inl h
    · by_cases q : i = j
      · subst q
        exact .inr ⟨i, d', List.getElem?_set_self hi, h2⟩
      · exact .inr ⟨j, x, by rw [List.getElem?_set_ne q]; exact h1, h2⟩
theorem rep_codes {R : RC} {Hv : Hp} {d : D} {a : Addr} (h : RepTop R H Hv d a) : ∃ o, H a = some o ∧ (∀ ps, o ≠ .tbl ps) ∧ ∀ cv nm, o ≠ LamX.CodeO cv nm := by
  cases d with
  | lst l =>
    obtain ⟨vs, h1, _⟩ := h
    exact ⟨_, h1, (fun _ z => by cases z), fun cv nm z => by unfold LamX.CodeO at z; cases z⟩
  | dct ks ds =>
    obtain ⟨vs, _, _, ⟨kk, q, _⟩ | ⟨kk, q, _⟩⟩ := h
    · exact ⟨_, q, (fun _ z => by cases z), fun cv nm z => by unfold LamX.CodeO at z; cases z⟩
    · exact ⟨_, q, (fun _ z => by cases z), fun cv nm z => by unfold LamX.CodeO at z; cases z⟩
  | _ => exact h.elim
theorem Rel.up {i : Nat} {d d' : D} {a : Addr} {o : HO} (I : Rel B env b σ H) (e : env[i]? = some (.own d)) (s : σ[i]? = some (some (.ref a))) (t : RepTop B.R (upd H a o) (vis H (ownO B.O env σ)) d' a) : Rel B (env.set i (.own d')) b σ (upd H a o) := by
  have own : ownO B.O env σ a := .inr ⟨i, d, e, s⟩
  obtain ⟨a', s', na, he, rt⟩ := I.own i d e
  rw [s] at s'
  cases s'
  obtain ⟨o0, ho, n1, n2⟩ := rep_codes rt
  have sub : Sub (vis H (ownO B.O env σ)) (vis (upd H a o) (ownO B.O (env.set i (.own d')) σ)) := fun c u z n => by
    obtain ⟨z1, z2⟩ := of_vis z
    have ne : c ≠ a := fun q => z2 (q ▸ own)
    exact vis_of (by rw [upd_ne ne]; exact z1) fun q => z2 ((own_put e c).mp q)
  have hi := (List.getElem?_eq_some_iff.mp e).1
  refine ⟨by simpa using I.len, fun j x z => ?_, fun j x z => ?_, fun j k x y c h1 h2 h3 h4 => ?_, ?_, I.bO, fun c h => ?_, tabs_upd I.tab ho n1 n2, ⟨fun c u z n m => ?_, fun c z => ?_⟩, I.pin.trans sub⟩
  · by_cases q : i = j
    · subst q
      rw [List.getElem?_set_self hi] at z
      cases z
    · rw [List.getElem?_set_ne q] at z
      obtain ⟨v, h1, h2⟩ := I.val j x z
      exact ⟨v, h1, h2.mono sub⟩
  · by_cases q : i = j
    · subst q
      rw [List.getElem?_set_self hi] at z
      cases z
      exact ⟨a, s, na, he, t.hv sub⟩
    · rw [List.getElem?_set_ne q] at z
      obtain ⟨c, h1, h2, h3, h4⟩ := I.own j x z
      have ne : c ≠ a := fun w => q (I.sep i j d x a e z s (w ▸ h1))
      refine ⟨c, h1, h2, h3, RepTop.hv sub ?_⟩
      cases x with
      | lst l =>
        obtain ⟨vs, q1, q2⟩ := h4
        exact ⟨vs, by rw [upd_ne ne]; exact q1, q2⟩
      | dct ks ds =>
        obtain ⟨vs, q1, q2, q3⟩ := h4
        refine ⟨vs, q1, q2, ?_⟩
        rw [upd_ne ne]
        exact q3
      | _ => exact h4.elim
  · have back : ∀ (j : Nat) (x : D), (env.set i (.own d'))[j]? = some (.own x) → ∃ x', env[j]? = some (.own x') := fun j x z => by
      by_cases q : i = j
      · subst q
        exact ⟨d, e⟩
      · rw [List.getElem?_set_ne q] at z
        exact ⟨x, z⟩
    obtain ⟨x', g1⟩ := back j x h1
    obtain ⟨y', g2⟩ := back k y h2
    exact I.sep j k x' y' c g1 g2 h3 h4
  · have := I.bow
    cases hb : B.R.bo with
    | none =>
      rw [hb] at this
      cases b <;> exact this
    | some c =>
      rw [hb] at this
      cases b with
      | none => exact this
      | some l =>
        have ne : c ≠ a := fun z => na (I.bO a (by rw [hb, z]))
        show upd H a o c = _
        rw [upd_ne ne]
        exact this
  · by_cases q : c = a
    · exact ⟨o, by rw [q]; exact upd_same⟩
    · obtain ⟨u, z⟩ := I.odom c h
      exact ⟨u, by rw [upd_ne q]; exact z⟩
  · have ne : c ≠ a := fun q => by
      rw [q, he] at z
      cases z
    rw [upd_ne ne]
    exact I.ext.keep c u z n m
  · by_cases q : c = a
    · rw [q]
      exact he
    · rw [upd_ne q] at z
      exact I.ext.dom c z
/-- the bowl written -/
theorem Rel.upB {a : Addr} {l l' : List Int} (I : Rel B env (some l) σ H) (hb : B.R.bo = some a) : Rel B env (some l') σ (upd H a (.lst (l'.map V.int))) := by
  have h0 : H a = some (.lst (l.map V.int)) := by
    have := I.bow
    rw [hb] at this
    exact this
  refine I.go ⟨fun c u z n m => ?_, fun c z => ?_⟩ ?_ (tabs_upd I.tab h0 (fun _ z => by cases z) fun cv nm z => by unfold LamX.CodeO at z; cases z)
  · have ne : c ≠ a := fun q => n (by rw [hb, q])
    rw [upd_ne ne]
    exact z
  · by_cases q : c = a
    · rw [q, upd_same] at z
      cases z
    · rw [upd_ne q] at z
      exact z
  · rw [hb]
    exact upd_same
variable {e : Expr} {ea ei : Ev} {x : Str} {p ap cp pos : Pos}
/-- x.append(e) -/
def dApp (i : Nat) (ea : Ev) : Sv := fun env b => match env[i]? with
  | some (.own (.lst l)) => (ea env b).toS fun w b1 => if l.length < LIM then .nx (env.set i (.own (.lst (l ++ [w.d])))) b1 else .bad
  | _ => .bad
theorem rd_app {i : Nat} {D : Ends} (h : rdS B (dApp i ea) D σ H) : tBM B.R.K "list" rAppend (tVar i) (tCons (rdE B ea) tNil) σ H fun _ H' => D.nx σ H' := by
  obtain ⟨env, b, I, w⟩ := h
  unfold dApp at w
  cases e : env[i]? with
  | none =>
    rw [e] at w
    exact False.elim w
  | some s =>
    rw [e] at w
    cases s with
    | un => exact False.elim w
    | val d => exact False.elim w
    | own d =>
      cases d with
      | lst l =>
        obtain ⟨a, s1, na, he, rt⟩ := I.own i _ e
        have rt' := rt
        obtain ⟨vs, h1, h2, h3⟩ := rt'
        refine ⟨.ref a, s1, .inl ⟨rfl, vs, .inl (.inl h1)⟩, env, b, I, ?_⟩
        have w : wpS B ((ea env b).toS fun w b1 => if l.length < LIM then .nx (env.set i (.own (.lst (l ++ [w.d])))) b1 else .bad) D := w
        cases q : ea env b with
        | bad =>
          rw [q] at w
          exact False.elim w
        | err c fs b1 =>
          rw [q] at w
          exact err_of I w
        | ok v b1 =>
          rw [q] at w
          intro y H1 e1 e2 e3 e4
          have w : wpS B (if l.length < LIM then .nx (env.set i (.own (.lst (l ++ [v.d])))) b1 else .bad) D := w
          by_cases hl : l.length < LIM
          · rw [if_pos hl] at w
            have J := I.go e1 e2 e3
            obtain ⟨a', s2, na', he', rt2⟩ := J.own i _ e
            rw [s1] at s2
            cases s2
            obtain ⟨vs', g1, g2, g3⟩ := rt2
            refine ⟨a, vs', y, rfl, rfl, g1, by rw [← g2.length]; exact Nat.lt_trans hl lim_line, w _ _ (J.up e s1 ⟨vs' ++ [y], upd_same, ?_, ?_⟩)⟩
            · exact g2.append (RepL.cons e4.rep RepL.nil)
            · rw [List.length_append]
              exact hl
          · rw [if_neg hl] at w
            exact False.elim w
      | _ => exact False.elim w
theorem ds_app (i : Nat) (ha : DE B X e ea) (hK : B.R.K = X.K := by rfl) (hN : X.N[i]? = some x := by rfl) (hv : Vis X.env.scope x := by first | exact Or.inl rfl | exact Or.inr (Or.inl rfl) | exact Or.inr (Or.inr rfl)) (hd : (x == ("__debug__" : Str)) = false := by decide)
    (hcd : (x == ("__classdict__" : Str)) = false := by decide) (hsw : swapsWith (.Call (.Attribute (.Name x p) "append" ap) [e] [] cp) none pos.line X.env = pure false := by rfl) (hb : attributeBase (.Name x p) "append" X.env (eval (.Name x p) X.env) = eval (.Name x p) X.env := by rfl)
    (hfew : ((backTo cp (starEach [e] X.env)).all (fun x => !x.1) && (backToKw cp (keywordEach [] X.env)).all (fun x => x.1.isSome)
      && decide ([e].length + ([] : List Keyword).length + (if ([] : List Keyword).isEmpty then 0 else 1) < 30)) = true := by rfl)
    (hline : (ap.endLine == cp.line) = true := by rfl) (hs : starEach [e] X.env = (false, eval e X.env) :: starEach [] X.env := by rfl) (hplain : (backTo cp (starEach [] X.env)).any (·.1) = false := by rfl) : DS B X (.Expr (.Call (.Attribute (.Name x p) "append" ap) [e] [] cp) pos) (dApp i ea) :=
  imp_PS (ps_expr (pe_bm PySem.F.plainAttrs_list PySem.F.slot_list_append type_list_append mt_append (pe_var hN hv hd hcd) (pa_cons ha pa_nil hs) hb hfew hline hs hplain) hsw) fun D σ H h => by
    have := rd_app h
    rw [hK] at this
    exact this

/-! ### subscripts: a list, a tuple, a text, the bowl -/
def ixB (x y : D) (b : Bw) : Res Wv := match x with
  | .bowl => match y, b with
    | .int i, some l => match L2.atI l i with
      | some v => .ok (.val (.int v)) b
      | none => .bad
    | _, _ => .bad
  | _ => optR (fIx x y) b
def dIx (ea ei : Ev) : Ev := fun env b => (ea env b).bind fun a1 b1 => (ei env b1).bind fun a2 b2 => ixB a1.d a2.d b2
theorem atI_map {l : List Int} {i v : Int} (h : L2.atI l i = some v) : L2.atI (l.map V.int) i = some (.int v) := by
  unfold L2.atI at h ⊢
  rw [List.length_map]
  cases q : ixN l.length i with
  | none => simp [q] at h
  | some j =>
    simp [q] at h
    simp [h]
variable {c : Expr}
theorem de_sub_ix (ha : DE B X e ea) (hi : DE B X c ei) (hK : B.R.K = X.K := by rfl) (hs : PlainIx c := by exact fun _ _ => rfl) : DE B X (.Subscript e c pos) (dIx ea ei) :=
  imp_PE (pe_ix ix_seq ha hi hs) fun σ H Q h => by
    rw [← hK]
    refine rd_bind2 (k := fun (a1 a2 : Wv) _ b2 => ixB a1.d a2.d b2) staysW staysW h fun env a1 a2 b2 x y H2 I2 x2 r1 r2 w => ?_
    have r1 := r1.rep
    have r2 := r2.rep
    have gen : wpG B RepW (ownO B.O env σ) H (optR (fIx a1.d a2.d) b2) σ Q → rIx B.R.K x y H2 Q := fun w => by
      cases z : fIx a1.d a2.d with
      | none =>
        rw [z] at w
        exact False.elim w
      | some v =>
        rw [z] at w
        exact h_ix _ _ v x y H2 _ Q z I2.nod r1 r2 (nw_of I2 x2 w)
    cases z1 : a1.d with
    | bowl =>
      rw [z1] at w r1
      cases z2 : a2.d with
      | int i =>
        rw [z2] at w r2
        cases (show y = .int i from r2)
        cases b2 with
        | none => exact False.elim w
        | some l =>
          have w : wpG B RepW (ownO B.O env σ) H (match L2.atI l i with | some v => .ok (.val (.int v)) (some l) | none => .bad) σ Q := w
          cases z3 : L2.atI l i with
          | none =>
            rw [z3] at w
            exact False.elim w
          | some v =>
            rw [z3] at w
            obtain ⟨a, rfl, hb⟩ := r1
            have hbow := I2.bow
            rw [hb] at hbow
            exact .inl ⟨a, l.map V.int, i, .int v, rfl, rfl, .inl (.inl hbow), atI_map z3, wpG_ok (x := V.int v) w x2 I2.bow I2.tab rfl⟩
      | _ =>
        rw [z2] at w
        cases b2 <;> exact False.elim w
    | _ =>
      rw [z1] at w
      refine gen ?_
      rw [z1]
      exact w
/-- x[i] = e: a list of the body's own, the bowl -/
def setB (i : Nat) (env : Sls) (y w : D) (b : Bw) : RS := match env[i]? with
  | some (.own (.lst l)) => match y with
    | .int k => match ixN l.length k with
      | some n => .nx (env.set i (.own (.lst (l.set n w)))) b
      | none => .bad
    | _ => .bad
  | some (.val .bowl) => match y, w, b with
    | .int k, .int v, some l => match ixN l.length k with
      | some n => .nx env (some (l.set n v))
      | none => .bad
    | _, _, _ => .bad
  | _ => .bad
def isHold (s : Option Slot) : Bool := match s with
  | some (.own (.lst _)) | some (.val .bowl) => true
  | _ => false
def dSetIx (i : Nat) (ei ev : Ev) : Sv := fun env b => (ev env b).toS fun w b1 => if isHold env[i]? then (ei env b1).toS fun y b2 => setB i env y.d w.d b2 else .bad
theorem setB_ok {i : Nat} {y w : D} {u v : V} {D : Ends} (I : Rel B env b σ H) (r1 : Rep B.R (vis H (ownO B.O env σ)) y u) (r2 : Rep B.R (vis H (ownO B.O env σ)) w v) {o : V} (ho : σ[i]? = some (some o)) (wp : wpS B (setB i env y w b) D) : rSetL o u v H fun H' => D.nx σ H' := by
  unfold setB at wp
  cases e : env[i]? with
  | none =>
    rw [e] at wp
    exact False.elim wp
  | some s =>
    rw [e] at wp
    cases s with
    | un => exact False.elim wp
    | own d =>
      cases d with
      | lst l =>
        cases y with
        | int k =>
          have wp : wpS B (match ixN l.length k with | some n => .nx (env.set i (.own (.lst (l.set n w)))) b | none => .bad) D := wp
          cases q : ixN l.length k with
          | none =>
            rw [q] at wp
            exact False.elim wp
          | some n =>
            rw [q] at wp
            obtain ⟨a, s1, na, he, vs, g1, g2, g3⟩ := I.own i _ e
            rw [ho] at s1
            cases s1
            exact ⟨a, vs, k, n, rfl, r1, g1, by rw [← g2.length]; exact q, wp _ _ (I.up e ho ⟨vs.set n v, upd_same, RepL.set r2 n g2, by rw [List.length_set]; exact g3⟩)⟩
        | _ => exact False.elim wp
      | _ => exact False.elim wp
    | val d =>
      cases d with
      | bowl =>
        cases y with
        | int k =>
          cases w with
          | int z =>
            cases b with
            | none => exact False.elim wp
            | some l =>
              have wp : wpS B (match ixN l.length k with | some n => .nx env (some (l.set n z)) | none => .bad) D := wp
              cases q : ixN l.length k with
              | none =>
                rw [q] at wp
                exact False.elim wp
              | some n =>
                rw [q] at wp
                obtain ⟨o', s1, rb⟩ := I.val i _ e
                obtain ⟨a, rfl, hb⟩ := rb
                rw [ho] at s1
                cases s1
                have hbow := I.bow
                rw [hb] at hbow
                cases (show v = .int z from r2)
                refine ⟨a, l.map V.int, k, n, rfl, r1, hbow, by rw [List.length_map]; exact q, ?_⟩
                have := I.upB (l' := l.set n z) hb
                rw [List.map_set] at this
                exact wp _ _ this
          | _ => cases b <;> exact False.elim wp
        | _ => cases b <;> exact False.elim wp
      | _ => exact False.elim wp
theorem hold_var {i : Nat} (I : Rel B env b σ H) (h : isHold env[i]? = true) : ∃ o, σ[i]? = some (some o) := by
  unfold isHold at h
  cases e : env[i]? with
  | none =>
    rw [e] at h
    cases h
  | some s =>
    cases s with
    | un =>
      rw [e] at h
      cases h
    | val d =>
      obtain ⟨v, h1, _⟩ := I.val i d e
      exact ⟨v, h1⟩
    | own d =>
      obtain ⟨a, h1, _⟩ := I.own i d e
      exact ⟨_, h1⟩
theorem rd_setIx {i : Nat} {D : Ends} (h : rdS B (dSetIx i ei ea) D σ H) : tAsg (rdE B ea) (gSub (tVar i) (rdE B ei) rSetL) D σ H := by
  obtain ⟨env, b, I, w⟩ := h
  refine ⟨env, b, I, ?_⟩
  unfold dSetIx at w
  cases e : ea env b with
  | bad =>
    rw [e] at w
    exact False.elim w
  | err c fs b1 =>
    rw [e] at w
    exact err_of I w
  | ok v b1 =>
    rw [e] at w
    intro x H1 e1 e2 e3 e4
    have J := I.go e1 e2 e3
    have w : wpS B (if isHold env[i]? = true then (ei env b1).toS fun y b2 => setB i env y.d v.d b2 else .bad) D := w
    by_cases hh : isHold env[i]? = true
    · rw [if_pos hh] at w
      obtain ⟨o, ho⟩ := hold_var J hh
      refine ⟨o, ho, env, b1, J, ?_⟩
      cases e' : ei env b1 with
      | bad =>
        rw [e'] at w
        exact False.elim w
      | err c fs b2 =>
        rw [e'] at w
        exact err_of J w
      | ok y b2 =>
        rw [e'] at w
        intro u H2 f1 f2 f3 f4
        have J2 := J.go f1 f2 f3
        exact setB_ok J2 f4.rep ((RepW.go e4 f1 fun a q => I.bOO q).rep) ho w
    · rw [if_neg hh] at w
      exact False.elim w
theorem ds_setIx (i : Nat) {ip : Pos} (he : DE B X e ea) (hi : DE B X c ei) (hN : X.N[i]? = some x := by rfl) (hv : Vis X.env.scope x := by first | exact Or.inl rfl | exact Or.inr (Or.inl rfl) | exact Or.inr (Or.inr rfl)) (hd : (x == ("__debug__" : Str)) = false := by decide)
    (hcd : (x == ("__classdict__" : Str)) = false := by decide)
    (ha : ∀ v, assign (.Subscript (.Name x p) c ip) X.env v = (do
      let ov ← holding [v] (eval (.Name x p) X.env)
      let iv ← holding [v, ov] (eval c X.env)
      standAt ip
      holding [v, ov, iv] (setItem ov iv v)
      release [v, ov, iv] []) := by intro _; rfl)
    (hs : swapsWithSole [.Subscript (.Name x p) c ip] e pos.line X.env = pure false := by rfl) (hw : swappedStores [.Subscript (.Name x p) c ip] e X.env = pure none := by rfl)
    (h1 : (assignEach [.Subscript (.Name x p) c ip] X.env).map (·.2) = [assign (.Subscript (.Name x p) c ip) X.env] := by rfl) : DS B X (.Assign [.Subscript (.Name x p) c ip] e pos) (dSetIx i ei ea) :=
  imp_PS (ps_asg he (pg_sub (pe_var hN hv hd hcd) hi set_list ha) hs hw h1) fun D σ H h => rd_setIx h
/-- x[i], y = e: the bowl, a name -/
def dSetIx2 (i j : Nat) (ei ev : Ev) : Sv := fun env b => (ev env b).toS fun w b1 => match w.d with
  | .tup [d1, d2] => if isHold env[i]? then (ei env b1).toS fun y b2 => match setB i env y.d d1 b2 with
    | .nx env' b3 => .nx (env'.set j (.val d2)) b3
    | _ => .bad
    else .bad
  | _ => .bad
end
end DL

set_option Elab.async false
set_option linter.all false
set_option maxRecDepth 100000
set_option maxHeartbeats 4000000
namespace DL
open PySem PySem.Spec PyProof.Rows L2
section
variable {B : BP} {X : Cx} {env : Sls} {b : Bw} {σ : L2.St} {H : Hp} {e c tg : Expr} {ea ei : Ev} {x y : Str} {p p2 ap cp pos : Pos}
/-! ### target = value, the target any -/
def dAsgG (bd : Bd) (ev : Ev) : Sv := fun env b => (ev env b).toS fun w b1 => match bd w.d env with
  | some env' => .nx env' b1
  | none => .bad
theorem rd_asgG {is : List Nat} {bd : Bd} {D : Ends} (h : rdS B (dAsgG bd ea) D σ H) : tAsg (rdE B ea) (rdG B is bd) D σ H := by
  refine rd_toS (k := fun w env b1 => match bd w.d env with | some env' => .nx env' b1 | none => .bad) h fun env b w b1 x H1 I e1 e2 e3 e4 q => ?_
  cases z : bd w.d env with
  | none =>
    rw [z] at q
    exact False.elim q
  | some env' =>
    rw [z] at q
    exact ⟨env, b1, w.d, env', I.go e1 e2 e3, Rep.mono (vis_sub fun a h => h) e4.rep, z, fun σ' I' _ _ _ _ => q σ' H1 I'⟩
theorem ds_asg {is : List Nat} {bd : Bd} (he : DE B X e ea) (hg : DG B X tg is bd) (hs : swapsWithSole [tg] e pos.line X.env = pure false := by rfl) (hw : swappedStores [tg] e X.env = pure none := by rfl)
    (h1 : (assignEach [tg] X.env).map (·.2) = [assign tg X.env] := by rfl) : DS B X (.Assign [tg] e pos) (dAsgG bd ea) := imp_PS (ps_asg he hg hs hw h1) fun D σ H h => rd_asgG h

/-! ### bowl[i], y = e -/
theorem rd_setIx2 {i j : Nat} {D : Ends} (h : rdS B (dSetIx2 i j ei ea) D σ H) : tAsg (rdE B ea) (gTup B.R.K 2 (gCons (gSub (tVar i) (rdE B ei) rSetL) (gCons (gName j) gNil))) D σ H := by
  obtain ⟨env, b, I, w⟩ := h
  refine ⟨env, b, I, ?_⟩
  unfold dSetIx2 at w
  cases e : ea env b with
  | bad =>
    rw [e] at w
    exact False.elim w
  | err c fs b1 =>
    rw [e] at w
    exact err_of I w
  | ok v b1 =>
    rw [e] at w
    intro x H1 e1 e2 e3 e4
    have J := I.go e1 e2 e3
    have r := e4.rep
    have r : Rep B.R (vis H1 (ownO B.O env σ)) v.d x := r
    have w : wpS B (match v.d with
      | .tup [d1, d2] => if isHold env[i]? = true then (ei env b1).toS fun y b2 => match setB i env y.d d1 b2 with
        | .nx env' b3 => .nx (env'.set j (.val d2)) b3
        | _ => .bad
        else .bad
      | _ => .bad) D := w
    split at w
    · rename_i d1 d2 hv
      rw [hv] at r
      obtain ⟨a, vs, rfl, h1, h2, _⟩ := r
      obtain ⟨v1, v2, rfl, r1, r2⟩ := rep2 h2
      refine ⟨a, [v1, v2], rfl, vis_sqt h1, rfl, v1, [v2], rfl, ?_⟩
      by_cases hh : isHold env[i]? = true
      · rw [if_pos hh] at w
        obtain ⟨o, ho⟩ := hold_var J hh
        refine ⟨o, ho, env, b1, J, ?_⟩
        cases e' : ei env b1 with
        | bad =>
          rw [e'] at w
          exact False.elim w
        | err c fs b2 =>
          rw [e'] at w
          exact err_of J w
        | ok y b2 =>
          rw [e'] at w
          intro u H2 f1 f2 f3 f4
          have J2 := J.go f1 f2 f3
          have s2 : Sub (vis H1 (ownO B.O env σ)) (vis H2 (ownO B.O env σ)) := vis_ext f1 fun a q => I.bOO q
          have w : wpS B (match setB i env y.d d1 b2 with
            | .nx env' b3 => .nx (env'.set j (.val d2)) b3
            | _ => .bad) D := w
          -- the store's own end
          let D' : Ends := { D with nx := fun σ3 H3 => σ3 = σ ∧ ∃ env' b3, setB i env y.d d1 b2 = .nx env' b3 ∧ Rel B env' b3 σ H3 ∧ Rep B.R (vis H3 (ownO B.O env' σ)) d2 v2 }
          have key : rSetL o u v1 H2 fun H3 => D'.nx σ H3 := by
            have hsb : ∃ env' b3, setB i env y.d d1 b2 = .nx env' b3 := by
              cases q : setB i env y.d d1 b2 with
              | nx env' b3 => exact ⟨env', b3, rfl⟩
              | _ =>
                rw [q] at w
                exact False.elim w
            obtain ⟨env', b3, hsb⟩ := hsb
            unfold setB at hsb
            cases ee : env[i]? with
            | none => simp [ee] at hsb
            | some s =>
              cases s with
              | un => simp [ee] at hsb
              | own d =>
                cases d with
                | lst l =>
                  simp only [ee] at hsb
                  split at hsb
                  · rename_i k hk
                    split at hsb
                    · rename_i n hn
                      cases hsb
                      have f5 := f4.rep
                      rw [hk] at f5
                      obtain ⟨a', s1, na, he, vs, g1, g2, g3⟩ := J2.own i _ ee
                      rw [ho] at s1
                      cases s1
                      have up := J2.up (d' := .lst (l.set n d1)) (o := .lst (vs.set n v1)) ee ho ⟨vs.set n v1, upd_same, RepL.set (r1.mono s2) n g2, by rw [List.length_set]; exact g3⟩
                      refine ⟨a', vs, k, n, rfl, f5, g1, by rw [← g2.length]; exact hn, rfl, _, _, by unfold setB; simp only [ee, hk, hn], up, (r2.mono s2).mono fun c o z _ => ?_⟩
                      obtain ⟨z1, z2⟩ := of_vis z
                      have ne : c ≠ a' := fun q => z2 (.inr ⟨i, _, ee, by rw [q]; exact ho⟩)
                      exact vis_of (by rw [upd_ne ne]; exact z1) fun q => z2 ((own_put ee c).mp q)
                    · cases hsb
                  · cases hsb
                | _ => simp [ee] at hsb
              | val d =>
                cases d with
                | bowl =>
                  cases hy : y.d with
                  | int k =>
                    cases d1 with
                    | int z =>
                      cases b2 with
                      | none => simp [ee, hy] at hsb
                      | some l =>
                        simp only [ee, hy] at hsb
                        cases hn : ixN l.length k with
                        | none => simp [hn] at hsb
                        | some n =>
                          simp only [hn] at hsb
                          cases hsb
                          have f5 := f4.rep
                          rw [hy] at f5
                          obtain ⟨o', s1, rb⟩ := J2.val i _ ee
                          obtain ⟨a', rfl, hb⟩ := rb
                          rw [ho] at s1
                          cases s1
                          have hbow := J2.bow
                          rw [hb] at hbow
                          cases (show v1 = .int z from r1)
                          have up := J2.upB (l' := l.set n z) hb
                          refine ⟨a', l.map V.int, k, n, rfl, f5, hbow, by rw [List.length_map]; exact hn, ?_⟩
                          rw [show (l.map V.int).set n (.int z) = (l.set n z).map V.int from List.map_set.symm]
                          refine ⟨rfl, env, some (l.set n z), by unfold setB; simp only [ee, hy, hn], up, (r2.mono s2).mono fun c o z _ => ?_⟩
                          obtain ⟨z1, z2⟩ := of_vis z
                          have ne : c ≠ a' := fun q => z2 (.inl (by rw [q]; exact J2.bO a' hb))
                          exact vis_of (by rw [upd_ne ne]; exact z1) z2
                    | _ => cases b2 <;> simp [ee, hy] at hsb
                  | _ => cases b2 <;> simp [ee, hy] at hsb
                | _ => simp [ee] at hsb
          obtain ⟨p1, xs, k, n, q1, q2, q3, q4, _, env', b3, q5, q6, q7⟩ := key
          refine ⟨p1, xs, k, n, q1, q2, q3, q4, v2, [], rfl, rfl, ?_⟩
          rw [q5] at w
          exact w _ _ (q6.setV q7)
      · rw [if_neg hh] at w
        exact False.elim w
    · exact False.elim w
theorem ds_setIx2 (i j : Nat) {ip tp : Pos} {kt : Nat} (hc : X.calm = true) (hNd : X.N.Nodup) (he : DE B X e ea) (hi : DE B X c ei) (hK : B.R.K = X.K := by rfl) (hN : X.N[i]? = some x := by rfl) (hv : Vis X.env.scope x := by first | exact Or.inl rfl | exact Or.inr (Or.inl rfl) | exact Or.inr (Or.inr rfl)) (hd : (x == ("__debug__" : Str)) = false := by decide)
    (hcd : (x == ("__classdict__" : Str)) = false := by decide) (hN2 : X.N[j]? = some y := by rfl) (hy : Loc X.env.scope y := by first | exact Or.inl rfl | exact Or.inr rfl) (hf : X.fn y = true ∨ X.env.scope.names.lookup y = some .local := by first | exact .inl rfl | exact .inr rfl)
    (ha : ∀ v, assign (.Subscript (.Name x p) c ip) X.env v = (do
      let ov ← holding [v] (eval (.Name x p) X.env)
      let iv ← holding [v, ov] (eval c X.env)
      standAt ip
      holding [v, ov, iv] (setItem ov iv v)
      release [v, ov, iv] []) := by intro _; rfl)
    (hs : swapsWithSole [.Tuple [.Subscript (.Name x p) c ip, .Name y p2] kt tp] e pos.line X.env = pure false := by rfl) (hw : swappedStores [.Tuple [.Subscript (.Name x p) c ip, .Name y p2] kt tp] e X.env = pure none := by rfl)
    (h1 : (assignEach [.Tuple [.Subscript (.Name x p) c ip, .Name y p2] kt tp] X.env).map (·.2) = [assign (.Tuple [.Subscript (.Name x p) c ip, .Name y p2] kt tp) X.env] := by rfl)
    (hn : (assignEach [.Subscript (.Name x p) c ip, .Name y p2] X.env).length = 2 := by rfl) (hst : (assignEach [.Subscript (.Name x p) c ip, .Name y p2] X.env).findIdx? (·.1) = none := by rfl)
    (hs1 : (assignEach [.Subscript (.Name x p) c ip, .Name y p2] X.env).map (·.2) = assign (.Subscript (.Name x p) c ip) X.env :: (assignEach [.Name y p2] X.env).map (·.2) := by rfl)
    (hs2 : (assignEach [.Name y p2] X.env).map (·.2) = assign (.Name y p2) X.env :: (assignEach [] X.env).map (·.2) := by rfl) :
    DS B X (.Assign [.Tuple [.Subscript (.Name x p) c ip, .Name y p2] kt tp] e pos) (dSetIx2 i j ei ea) :=
  imp_PS (ps_asg he (pg_tup hc (pgs_cons (pg_sub (pe_var hN hv hd hcd) hi set_list ha) (pgs_cons (pg_name hNd hN2 hy hf) pgs_nil hs2) hs1) hn hst) hs hw h1) fun D σ H h => by
    have := rd_setIx2 h
    rw [hK] at this
    exact this

/-! ### several values at once, own ones among them -/
def hid (O : Addr → Prop) (w : Wv) (v : V) : Addr → Prop := fun a => O a ∨ ((∃ d, w = .own d) ∧ v = .ref a)
abbrev BP.wO (B : BP) (O : Addr → Prop) : BP := { B with O := O }
/-- a value told, not yet stored: its own address is hidden in hid O w v -/
def Pend (B : BP) (O : Addr → Prop) (env : Sls) (σ : L2.St) (H : Hp) (w : Wv) (v : V) : Prop := match w with
  | .val d => Rep B.R (vis H (ownO O env σ)) d v
  | .own d => ∃ a, v = .ref a ∧ ¬ ownO O env σ a ∧ B.He a = none ∧ B.R.bo ≠ some a ∧ RepTop B.R H (vis H (plus (ownO O env σ) a)) d a
theorem hid_own {O : Addr → Prop} {w : Wv} {v : V} {a : Addr} (h : ownO (hid O w v) env σ a) : ownO O env σ a ∨ ((∃ d, w = .own d) ∧ v = .ref a) := by
  rcases h with (h | h) | h
  · exact .inl (.inl h)
  · exact .inr h
  · exact .inl (.inr h)
/-- a value told: its state, all own of it hidden -/
theorem Rel.hide {O : Addr → Prop} {w : Wv} {v : V} {b1 : Bw} {H1 : Hp} (I : Rel (B.wO O) env b σ H) (x : Ext B.R.bo H H1) (hb : BwOk B.R.bo b1 H1) (t : NdefX.TabsN B.T H1) (r : RepW B.R (ownO O env σ) H H1 w v) : Rel (B.wO (hid O w v)) env b1 σ H1 ∧ Pend B O env σ H1 w v := by
  have J : Rel (B.wO O) env b1 σ H1 := I.go x hb t
  cases w with
  | val d =>
    have e : hid O (.val d) v = O := funext fun a => propext ⟨fun h => h.elim id (fun h => by obtain ⟨⟨d, z⟩, _⟩ := h; cases z), .inl⟩
    rw [e]
    exact ⟨J, r⟩
  | own d =>
    obtain ⟨a, rfl, h0, hO, rt⟩ := r
    have newO : ∀ c o, H c = some o → ownO (hid O (.own d) (.ref a)) env σ c → ownO O env σ c := fun c o e h => (hid_own h).elim id fun ⟨_, z⟩ => by
      have : a = c := by injection z
      rw [← this, h0] at e
      cases e
    have bO' : ∀ c, B.R.bo = some c → ownO O env σ c := fun c q => .inl (I.bO c q)
    have sub : Sub (vis H (ownO O env σ)) (vis H1 (ownO (hid O (.own d) (.ref a)) env σ)) := vis_more x bO' newO
    refine ⟨⟨J.len, fun i d' e => ?_, fun i d' e => ?_, J.sep, hb, fun c q => .inl (I.bO c q), fun c h => ?_, t, J.ext, I.pin.trans sub⟩, a, rfl, hO, I.ext.dom a h0, fun q => hO (bO' a q), rt⟩
    · obtain ⟨u, h1, h2⟩ := I.val i d' e
      exact ⟨u, h1, h2.mono sub⟩
    · obtain ⟨c, h1, h2, h3, h4⟩ := I.own i d' e
      have hc : ∃ o, H c = some o := by
        obtain ⟨o, q, _⟩ := h4.there
        exact ⟨o, q⟩
      obtain ⟨o, hc⟩ := hc
      have ne : ¬ hid O (.own d) (.ref a) c := fun q => q.elim h2 fun ⟨_, z⟩ => by
        have : a = c := by injection z
        rw [← this, h0] at hc
        cases hc
      exact ⟨c, h1, ne, h3, h4.ext x (fun z => h2 (I.bO c z)) sub⟩
    · rcases h with h | ⟨_, z⟩
      · exact J.odom c h
      · have : a = c := by injection z
        obtain ⟨o, q, _⟩ := rt.there
        exact ⟨o, this ▸ q⟩
/-- told, then another one told and stored -/
theorem Pend.over {O : Addr → Prop} {w w2 : Wv} {v v2 : V} {H1 : Hp} {j : Nat} (I : Rel (B.wO (hid O w v)) env b σ H) (p : Pend B O env σ H w v) (x : Ext B.R.bo H H1) (r : RepW B.R (ownO (hid O w v) env σ) H H1 w2 v2) : Pend B O (env.set j w2.slot) (σ.set j (some v2)) H1 w v := by
  have newO : ∀ (O' : Addr → Prop) c o, H c = some o → ownO O' (env.set j w2.slot) (σ.set j (some v2)) c → ownO O' env σ c := fun O' c o e h => by
    rcases own_set h with h | ⟨d, z1, z2⟩
    · exact h
    · cases w2 with
      | val d2 => cases z1
      | own d2 =>
        obtain ⟨a, z3, h0, _⟩ := r
        rw [z2] at z3
        have : c = a := by injection z3
        rw [← this, e] at h0
        cases h0
  cases w with
  | val d =>
    have e : hid O (.val d) v = O := funext fun a => propext ⟨fun h => h.elim id (fun h => by obtain ⟨⟨d, z⟩, _⟩ := h; cases z), .inl⟩
    rw [e] at I
    exact Rep.mono (vis_more x (fun c q => .inl (I.bO c q)) (newO O)) p
  | own d =>
    obtain ⟨a, rfl, hO, he, hb, rt⟩ := p
    obtain ⟨o, ho, _⟩ := rt.there
    have hB : ∀ c, B.R.bo = some c → O c := fun c q => by
      rcases I.bO c q with h | ⟨_, z⟩
      · exact h
      · have : a = c := by injection z
        exact absurd (this ▸ q) hb
    refine ⟨a, rfl, fun q => hO (newO O a o ho q), he, hb, rt.ext x hb (vis_more x (fun c q => .inl (.inl (hB c q))) fun c o e h => ?_)⟩
    rcases h with h | h
    · exact .inl (newO O c o e h)
    · exact .inr h
/-- told, now stored -/
theorem Rel.place {O : Addr → Prop} {w : Wv} {v : V} {i : Nat} (I : Rel (B.wO (hid O w v)) env b σ H) (p : Pend B O env σ H w v) : Rel (B.wO O) (env.set i w.slot) b (σ.set i (some v)) H := by
  cases w with
  | val d =>
    have e : hid O (.val d) v = O := funext fun a => propext ⟨fun h => h.elim id (fun h => by obtain ⟨⟨d, z⟩, _⟩ := h; cases z), .inl⟩
    rw [e] at I
    exact Rel.setV (B := B.wO O) I p
  | own d =>
    obtain ⟨a, rfl, hO, he, hb, rt⟩ := p
    have less : ∀ c, ownO O (env.set i (.own d)) (σ.set i (some (.ref a))) c → ownO (hid O (.own d) (.ref a)) env σ c := fun c h => by
      rcases own_set h with h | ⟨d', z1, z2⟩
      · exact h.elim (fun h => .inl (.inl h)) .inr
      · exact .inl (.inr ⟨⟨d, rfl⟩, z2⟩)
    have sub : Sub (vis H (ownO (hid O (.own d) (.ref a)) env σ)) (vis H (ownO O (env.set i (.own d)) (σ.set i (some (.ref a))))) := vis_sub less
    refine ⟨by simpa using I.len, fun j x z => ?_, fun j x z => ?_, fun j k x y c h1 h2 h3 h4 => ?_, I.bow, fun c q => ?_, fun c h => I.odom c (.inl h), I.tab, I.ext, I.pin.trans sub⟩
    · by_cases q : i = j
      · subst q
        have l : i < env.length := by
          have z := (List.getElem?_eq_some_iff.mp z).1
          simpa using z
        have z : (env.set i (.own d))[i]? = some (.val x) := z
        rw [List.getElem?_set_self l] at z
        cases z
      · have z : (env.set i (.own d))[j]? = some (.val x) := z
        rw [List.getElem?_set_ne q] at z
        rw [List.getElem?_set_ne q]
        obtain ⟨u, h1, h2⟩ := I.val j x z
        exact ⟨u, h1, h2.mono sub⟩
    · by_cases q : i = j
      · subst q
        have l : i < env.length := by
          have z := (List.getElem?_eq_some_iff.mp z).1
          simpa using z
        have z : (env.set i (.own d))[i]? = some (.own x) := z
        rw [List.getElem?_set_self l] at z
        cases z
        refine ⟨a, by rw [List.getElem?_set_self (by rw [← I.len]; exact l)], fun z => hO (.inl z), he, RepTop.hv (vis_sub fun c h => ?_) rt⟩
        rcases own_set h with h | ⟨d', _, z2⟩
        · exact .inl h
        · have : a = c := by injection z2
          exact .inr this.symm
      · have z : (env.set i (.own d))[j]? = some (.own x) := z
        rw [List.getElem?_set_ne q] at z
        rw [List.getElem?_set_ne q]
        obtain ⟨c, h1, h2, h3, h4⟩ := I.own j x z
        exact ⟨c, h1, fun z => h2 (.inl z), h3, h4.hv sub⟩
    · have h1 : (env.set i (.own d))[j]? = some (.own x) := h1
      have h2 : (env.set i (.own d))[k]? = some (.own y) := h2
      have no : ∀ (j : Nat) (x : DL.D), i ≠ j → (env.set i (.own d))[j]? = some (.own x) → (σ.set i (some (.ref a)))[j]? = some (some (.ref a)) → False := fun j x q h1 h3 => by
        rw [List.getElem?_set_ne q] at h1 h3
        exact hO (.inr ⟨j, x, h1, h3⟩)
      have at_i : ∀ (x : DL.D), (env.set i (.own d))[i]? = some (.own x) → (σ.set i (some (.ref a)))[i]? = some (some (.ref c)) → a = c := fun x h1 h3 => by
        have l : i < env.length := by
          have z := (List.getElem?_eq_some_iff.mp h1).1
          simpa using z
        rw [List.getElem?_set_self (by rw [← I.len]; exact l)] at h3
        injection h3 with h3
        injection h3 with h3
        injection h3
      by_cases q1 : i = j
      · by_cases q2 : i = k
        · rw [← q1, ← q2]
        · subst q1
          have e := at_i x h1 h3
          rw [← e] at h4
          exact (no k y q2 h2 h4).elim
      · by_cases q2 : i = k
        · subst q2
          have e := at_i y h2 h4
          rw [← e] at h3
          exact (no j x q1 h1 h3).elim
        · rw [List.getElem?_set_ne q1] at h1 h3
          rw [List.getElem?_set_ne q2] at h2 h4
          exact I.sep j k x y c h1 h2 h3 h4
    · rcases I.bO c q with h | ⟨_, z⟩
      · exact h
      · have : a = c := by injection z
        exact absurd (this ▸ q) hb
/-- two values, then two names -/
def dPar2 (i j : Nat) (e1 e2 : Ev) : Sv := fun env b => (e1 env b).toS fun w1 b1 => (e2 env b1).toS fun w2 b2 => .nx ((env.set j w2.slot).set i w1.slot) b2
def dPar3 (i j l : Nat) (e1 e2 e3 : Ev) : Sv := fun env b => (e1 env b).toS fun w1 b1 => (e2 env b1).toS fun w2 b2 => (e3 env b2).toS fun w3 b3 => .nx (((env.set l w3.slot).set j w2.slot).set i w1.slot) b3
theorem err_hid {O : Addr → Prop} {c : Str} {fs : List DL.D} {b' : Bw} {D : Ends} (hO : ∀ a, B.O a → O a) (I : Rel (B.wO O) env b σ H) (w : wpS B (.err c fs b') D) {Q : VK} : wpG (B.wO O) RepW (ownO O env σ) H (.err c fs b' : Res Wv) σ Q :=
  fun cls d H' e1 e2 e3 e4 => w cls d σ H' (I.ext.trans e1) e2 e3 (e4.mono (vis_sub fun a q => .inl (hO a q)))
def rdW (B : BP) (ev : Ev) : TE := fun σ H Q => ∃ O, rdE (B.wO O) ev σ H Q
theorem pe_wO {ev : Ev} (h : ∀ O, DE (B.wO O) X e ev) : PE X e (rdW B ev) := ⟨fun pins s σ H Q I ⟨O, w⟩ => (h O).run pins s σ H Q I w⟩
theorem rd_par2 {i j : Nat} (hij : i ≠ j) {e1 e2 : Ev} {D : Ends} (h : rdS B (dPar2 i j e1 e2) D σ H) : tPar i j (tCons (rdE B e1) (tCons (rdW B e2) tNil)) D σ H := by
  obtain ⟨env, b, I, w⟩ := h
  refine ⟨env, b, I, ?_⟩
  unfold dPar2 at w
  cases q1 : e1 env b with
  | bad =>
    rw [q1] at w
    exact False.elim w
  | err c fs b1 =>
    rw [q1] at w
    exact err_of I w
  | ok w1 b1 =>
    rw [q1] at w
    intro v1 H1 x1 y1 t1 r1
    obtain ⟨I1, p1⟩ := Rel.hide (B := B) (O := B.O) I x1 y1 t1 r1
    refine ⟨hid B.O w1 v1, env, b1, I1, ?_⟩
    have w : wpS B ((e2 env b1).toS fun w2 b2 => .nx ((env.set j w2.slot).set i w1.slot) b2) D := w
    cases q2 : e2 env b1 with
    | bad =>
      rw [q2] at w
      exact False.elim w
    | err c fs b2 =>
      rw [q2] at w
      exact err_hid (fun a z => .inl z) I1 w
    | ok w2 b2 =>
      rw [q2] at w
      intro v2 H2 x2 y2 t2 r2
      obtain ⟨I2, p2⟩ := Rel.hide (B := B) I1 x2 y2 t2 r2
      have J2 := I2.place (i := j) p2
      have J1 := Rel.place (B := B) (i := i) J2 (p1.over (j := j) I1 x2 r2)
      refine ⟨v1, v2, rfl, ?_⟩
      rw [List.set_comm _ _ hij]
      exact w _ _ J1
theorem rd_par3 {i j l : Nat} (hij : i ≠ j) (hil : i ≠ l) (hjl : j ≠ l) {e1 e2 e3 : Ev} {D : Ends} (h : rdS B (dPar3 i j l e1 e2 e3) D σ H) : tPar3 i j l (tCons (rdE B e1) (tCons (rdW B e2) (tCons (rdW B e3) tNil))) D σ H := by
  obtain ⟨env, b, I, w⟩ := h
  refine ⟨env, b, I, ?_⟩
  unfold dPar3 at w
  cases q1 : e1 env b with
  | bad =>
    rw [q1] at w
    exact False.elim w
  | err c fs b1 =>
    rw [q1] at w
    exact err_of I w
  | ok w1 b1 =>
    rw [q1] at w
    intro v1 H1 x1 y1 t1 r1
    obtain ⟨I1, p1⟩ := Rel.hide (B := B) (O := B.O) I x1 y1 t1 r1
    refine ⟨hid B.O w1 v1, env, b1, I1, ?_⟩
    have w : wpS B ((e2 env b1).toS fun w2 b2 => (e3 env b2).toS fun w3 b3 => .nx (((env.set l w3.slot).set j w2.slot).set i w1.slot) b3) D := w
    cases q2 : e2 env b1 with
    | bad =>
      rw [q2] at w
      exact False.elim w
    | err c fs b2 =>
      rw [q2] at w
      exact err_hid (fun a z => .inl z) I1 w
    | ok w2 b2 =>
      rw [q2] at w
      intro v2 H2 x2 y2 t2 r2
      obtain ⟨I2, p2⟩ := Rel.hide (B := B) I1 x2 y2 t2 r2
      refine ⟨hid (hid B.O w1 v1) w2 v2, env, b2, I2, ?_⟩
      have w : wpS B ((e3 env b2).toS fun w3 b3 => .nx (((env.set l w3.slot).set j w2.slot).set i w1.slot) b3) D := w
      cases q3 : e3 env b2 with
      | bad =>
        rw [q3] at w
        exact False.elim w
      | err c fs b3 =>
        rw [q3] at w
        exact err_hid (fun a z => .inl (.inl z)) I2 w
      | ok w3 b3 =>
        rw [q3] at w
        intro v3 H3 x3 y3 t3 r3
        obtain ⟨I3, p3⟩ := Rel.hide (B := B) I2 x3 y3 t3 r3
        have J3 := I3.place (i := l) p3
        have p2' := p2.over (j := l) I2 x3 r3
        have J2 := Rel.place (B := B) (i := j) J3 p2'
        -- the first one, over both
        have p1a : Pend B B.O (env.set j w2.slot) (σ.set j (some v2)) H2 w1 v1 := p1.over (j := j) I1 x2 r2
        have I2' := I2.place (i := j) p2
        have r3' : RepW B.R (ownO (hid B.O w1 v1) (env.set j w2.slot) (σ.set j (some v2))) H2 H3 w3 v3 := by
          have less : ∀ c, ownO (hid B.O w1 v1) (env.set j w2.slot) (σ.set j (some v2)) c → ownO (hid (hid B.O w1 v1) w2 v2) env σ c := fun c h => by
            rcases own_set h with h | ⟨d', z1, z2⟩
            · exact h.elim (fun h => .inl (.inl h)) .inr
            · cases w2 with
              | val d => cases z1
              | own d => exact .inl (.inr ⟨⟨d, rfl⟩, z2⟩)
          cases w3 with
          | val d => exact Rep.mono (vis_sub less) r3
          | own d =>
            obtain ⟨a, z1, z2, z3, z4⟩ := r3
            exact ⟨a, z1, z2, fun q => z3 (less a q), z4.hv (vis_sub fun c h => h.elim (fun h => .inl (less c h)) .inr)⟩
        have p1b := p1a.over (j := l) I2' x3 r3'
        have ec : (env.set j w2.slot).set l w3.slot = (env.set l w3.slot).set j w2.slot := List.set_comm _ _ hjl
        have es : (σ.set j (some v2)).set l (some v3) = (σ.set l (some v3)).set j (some v2) := List.set_comm _ _ hjl
        rw [ec, es] at p1b
        have J1 := Rel.place (B := B) (i := i) J2 p1b
        refine ⟨v1, v2, v3, rfl, ?_⟩
        have z : (((σ.set i (some v1)).set j (some v2)).set l (some v3)) = (((σ.set l (some v3)).set j (some v2)).set i (some v1)) := by
          rw [List.set_comm _ _ hij, List.set_comm _ _ hil, List.set_comm _ _ hjl]
        rw [z]
        exact w _ _ J1
variable {a1 a2 a3 : Expr} {z : Str} {px py pz pt pt2 : Pos} {kt k2 : Nat}
theorem ds_par2 (i j : Nat) {e1 e2 : Ev} (hc : X.calm = true) (hN : X.N.Nodup) (h1 : DE B X a1 e1) (h2 : ∀ O, DE (B.wO O) X a2 e2) (hi : X.N[i]? = some x := by rfl) (hj : X.N[j]? = some y := by rfl) (hij : i ≠ j := by decide)
    (hx : X.env.scope.names.lookup x = some .local := by rfl) (hy : X.env.scope.names.lookup y = some .local := by rfl) (hw : swappedStores [.Tuple [.Name x px, .Name y py] kt pt] (.Tuple [a1, a2] k2 pt2) X.env = pure (some [x, y]) := by rfl)
    (hs : swapsWithSole [.Tuple [.Name x px, .Name y py] kt pt] (.Tuple [a1, a2] k2 pt2) pos.line X.env = pure false := by rfl)
    (s1 : starEach [a1, a2] X.env = (false, eval a1 X.env) :: starEach [a2] X.env := by rfl) (s2 : starEach [a2] X.env = (false, eval a2 X.env) :: starEach [] X.env := by rfl) :
    DS B X (.Assign [.Tuple [.Name x px, .Name y py] kt pt] (.Tuple [a1, a2] k2 pt2) pos) (dPar2 i j e1 e2) :=
  imp_PS (ps_par hc hN hi hj hij hx hy (pa_cons h1 (pa_cons (pe_wO h2) pa_nil s2) s1) hw hs) fun D σ H h => rd_par2 hij h
theorem ds_par3 (i j l : Nat) {e1 e2 e3 : Ev} (hc : X.calm = true) (hN : X.N.Nodup) (h1 : DE B X a1 e1) (h2 : ∀ O, DE (B.wO O) X a2 e2) (h3 : ∀ O, DE (B.wO O) X a3 e3) (hi : X.N[i]? = some x := by rfl) (hj : X.N[j]? = some y := by rfl) (hl : X.N[l]? = some z := by rfl) (hij : i ≠ j := by decide) (hil : i ≠ l := by decide) (hjl : j ≠ l := by decide)
    (hx : X.env.scope.names.lookup x = some .local := by rfl) (hy : X.env.scope.names.lookup y = some .local := by rfl) (hz : X.env.scope.names.lookup z = some .local := by rfl) (hw : swappedStores [.Tuple [.Name x px, .Name y py, .Name z pz] kt pt] (.Tuple [a1, a2, a3] k2 pt2) X.env = pure (some [x, y, z]) := by rfl)
    (hs : swapsWithSole [.Tuple [.Name x px, .Name y py, .Name z pz] kt pt] (.Tuple [a1, a2, a3] k2 pt2) pos.line X.env = pure false := by rfl)
    (s1 : starEach [a1, a2, a3] X.env = (false, eval a1 X.env) :: starEach [a2, a3] X.env := by rfl) (s2 : starEach [a2, a3] X.env = (false, eval a2 X.env) :: starEach [a3] X.env := by rfl) (s3 : starEach [a3] X.env = (false, eval a3 X.env) :: starEach [] X.env := by rfl) :
    DS B X (.Assign [.Tuple [.Name x px, .Name y py, .Name z pz] kt pt] (.Tuple [a1, a2, a3] k2 pt2) pos) (dPar3 i j l e1 e2 e3) :=
  imp_PS (ps_par3 hc hN hi hj hl hij hil hjl hx hy hz (pa_cons h1 (pa_cons (pe_wO h2) (pa_cons (pe_wO h3) pa_nil s3) s2) s1) hw hs) fun D σ H h => rd_par3 hij hil hjl h
end
end DL

set_option Elab.async false
set_option linter.all false
set_option maxRecDepth 100000
set_option maxHeartbeats 4000000
/-! functions as values: lambdas handed on, names of defs handed on -/
namespace DL
open PySem PySem.Spec PyProof.Rows L2 LamX

/-! ### data without closures -/
mutual
def noClo : D → Bool
  | .clo _ => false
  | .tup l => noClos l
  | .lst l => noClos l
  | .dct _ vs => noClos vs
  | .obj _ fs => noClos fs
  | _ => true
def noClos : List D → Bool
  | [] => true
  | d :: ds => noClo d && noClos ds
end
section
variable {K : PySem.W.Frag} {mg : Str → Option Value} {f1 f2 : List Addr} {bo : Option Addr} {H : Hp}
mutual
theorem Rep.fns : ∀ {d : D} {v : V}, noClo d = true → Rep ⟨K, mg, f1, bo⟩ H d v → Rep ⟨K, mg, f2, bo⟩ H d v
  | .non, _, _, h => h
  | .bl _, _, _, h => h
  | .int _, _, _, h => h
  | .str _, _, _, h => h
  | .glo _, _, _, h => h
  | .ty _, _, _, h => h
  | .clo _, _, e, _ => by simp [noClo] at e
  | .bowl, _, _, h => h
  | .tup l, v, e, h => by
    obtain ⟨a, vs, e1, h1, h2, h3⟩ := h
    exact ⟨a, vs, e1, h1, RepL.fns (by simpa [noClo] using e) h2, h3⟩
  | .lst l, v, e, h => by
    obtain ⟨a, vs, e1, h1, h2, h3⟩ := h
    exact ⟨a, vs, e1, h1, RepL.fns (by simpa [noClo] using e) h2, h3⟩
  | .dct ks ds, v, e, h => by
    obtain ⟨a, vs, e1, h1, h2, h3⟩ := h
    exact ⟨a, vs, e1, RepL.fns (by simpa [noClo] using e) h1, h2, h3⟩
  | .obj c fs, v, e, h => by
    obtain ⟨a, C, dx, vs, e1, h1, h2, h3, h4⟩ := h
    exact ⟨a, C, dx, vs, e1, h1, h2, RepL.fns (by simpa [noClo] using e) h3, h4⟩
theorem RepL.fns : ∀ {ds : List D} {vs : List V}, noClos ds = true → RepL ⟨K, mg, f1, bo⟩ H ds vs → RepL ⟨K, mg, f2, bo⟩ H ds vs
  | [], _, _, h => h
  | d :: ds, vs, e, h => by
    obtain ⟨v, r, e1, h1, h2⟩ := h
    simp only [noClos, Bool.and_eq_true] at e
    exact ⟨v, r, e1, Rep.fns e.1 h1, RepL.fns e.2 h2⟩
end
mutual
theorem Rep.up0 : ∀ {d : D} {v : V}, Rep ⟨K, mg, [], bo⟩ H d v → Rep ⟨K, mg, f2, bo⟩ H d v
  | .non, _, h => h
  | .bl _, _, h => h
  | .int _, _, h => h
  | .str _, _, h => h
  | .glo _, _, h => h
  | .ty _, _, h => h
  | .clo _, _, h => by
    obtain ⟨f, _, z⟩ := h
    simp at z
  | .bowl, _, h => h
  | .tup l, v, h => by
    obtain ⟨a, vs, e1, h1, h2, h3⟩ := h
    exact ⟨a, vs, e1, h1, RepL.up0 h2, h3⟩
  | .lst l, v, h => by
    obtain ⟨a, vs, e1, h1, h2, h3⟩ := h
    exact ⟨a, vs, e1, h1, RepL.up0 h2, h3⟩
  | .dct ks ds, v, h => by
    obtain ⟨a, vs, e1, h1, h2, h3⟩ := h
    exact ⟨a, vs, e1, RepL.up0 h1, h2, h3⟩
  | .obj c fs, v, h => by
    obtain ⟨a, C, dx, vs, e1, h1, h2, h3, h4⟩ := h
    exact ⟨a, C, dx, vs, e1, h1, h2, RepL.up0 h3, h4⟩
theorem RepL.up0 : ∀ {ds : List D} {vs : List V}, RepL ⟨K, mg, [], bo⟩ H ds vs → RepL ⟨K, mg, f2, bo⟩ H ds vs
  | [], _, h => h
  | d :: ds, vs, h => by
    obtain ⟨v, r, e1, h1, h2⟩ := h
    exact ⟨v, r, e1, Rep.up0 h1, RepL.up0 h2⟩
end
theorem RepTop.fns {Hv : Hp} {d : D} {a : Addr} (e : noClo d = true) (h : RepTop ⟨K, mg, f1, bo⟩ H Hv d a) : RepTop ⟨K, mg, f2, bo⟩ H Hv d a := by
  cases d with
  | lst l =>
    obtain ⟨vs, h1, h2, h3⟩ := h
    exact ⟨vs, h1, RepL.fns (by simpa [noClo] using e) h2, h3⟩
  | dct ks ds =>
    obtain ⟨vs, h1, h2⟩ := h
    exact ⟨vs, RepL.fns (by simpa [noClo] using e) h1, h2⟩
  | _ => exact h.elim
theorem RepW.fns {O : Addr → Prop} {H0 : Hp} {w : Wv} {v : V} (e : noClo w.d = true) (h : RepW ⟨K, mg, f1, bo⟩ O H0 H w v) : RepW ⟨K, mg, f2, bo⟩ O H0 H w v := by
  cases w with
  | val d => exact Rep.fns e h
  | own d =>
    obtain ⟨a, e1, h0, h1, h2⟩ := h
    exact ⟨a, e1, h0, h1, RepTop.fns e h2⟩
theorem RepX.fns {c : Str} {fs : List D} {cls : Value} {d : Option Addr} (e : noClos fs = true) (h : RepX ⟨K, mg, f1, bo⟩ H c fs cls d) : RepX ⟨K, mg, f2, bo⟩ H c fs cls d := by
  obtain ⟨C, h1, h2, h3⟩ := h
  refine ⟨C, h1, h2, ?_⟩
  cases fs with
  | nil => exact h3
  | cons f r =>
    obtain ⟨dd, vs, ns, e1, e2, e3, e4⟩ := h3
    exact ⟨dd, vs, ns, e1, e2, e3, RepL.fns e e4⟩
end
def clean (r : Res Wv) : Res Wv := match r with
  | .ok w b => if noClo w.d then .ok w b else .bad
  | .err c fs b => if noClos fs then .err c fs b else .bad
  | .bad => .bad
/-- what a call's result is asked -/
def resQ (T : List NdefX.NTab) (R : RC) (O : Addr → Prop) (H : Hp) (Q : VK) (E : XK) (r : Res Wv) : Prop := match r with
  | .ok w b' => ∀ v H', Ext R.bo H H' → BwOk R.bo b' H' → NdefX.TabsN T H' → RepW R O H H' w v → Q v H'
  | .err c fs b' => ∀ cls d H', Ext R.bo H H' → BwOk R.bo b' H' → NdefX.TabsN T H' → RepX R (vis H' O) c fs cls d → E cls d H'
  | .bad => False
theorem resQ_clean {T : List NdefX.NTab} {K : PySem.W.Frag} {mg : Str → Option Value} {f1 f2 : List Addr} {bo : Option Addr} {O : Addr → Prop} {H : Hp} {Q : VK} {E : XK} {r : Res Wv} (h : resQ T ⟨K, mg, f1, bo⟩ O H Q E (clean r)) : resQ T ⟨K, mg, f2, bo⟩ O H Q E r := by
  cases r with
  | bad => exact h
  | ok w b =>
    unfold clean at h
    by_cases e : noClo w.d = true
    · simp only [e, if_true] at h
      exact fun v H' e1 e2 e3 e4 => h v H' e1 e2 e3 (RepW.fns e e4)
    · simp only [e] at h
      exact False.elim h
  | err c fs b =>
    unfold clean at h
    by_cases e : noClos fs = true
    · simp only [e, if_true] at h
      exact fun cls d H' e1 e2 e3 e4 => h cls d H' e1 e2 e3 (RepX.fns e e4)
    · simp only [e] at h
      exact False.elim h

/-! ### the promise of a function at hand -/
def Held (S : Addr → Prop) (h : Heap) (H' : Hp) (h' : Heap) : Prop := ∀ b, S b → H' b = none ∧ ∀ o, h.get? b = some o → ∃ sl, h'.get? b = some { o with slots := sl }
theorem held_of {S : Addr → Prop} {fr : List Addr} {H H1 : Hp} {h h1 : Heap} (hS : ∀ b, S b → H b = none ∧ ∃ o, h.get? b = some o) (u : Un fr [] H H1 h h1) : Held S h H1 h1 := fun b sb => by
  obtain ⟨n, o, ho⟩ := hS b sb
  exact ⟨u.free b o ho n (by simp), fun o' ho' => u.any ho' n (by simp)⟩
structure CloAt (Pg : Program) (w : World) (K : PySem.W.Frag) (mg : Str → Option Value) (base : Heap) (T : List NdefX.NTab) (k : Nat) (bo : Option Addr) (f : Addr) (n : Nat) (m : Mir) (O : Addr → Prop) (h : Heap) (H : Hp) : Prop where
  ex : ∃ S : Addr → Prop, (∀ b, S b → H b = none ∧ ∃ o, h.get? b = some o) ∧ S f ∧ (∃ o fd, h.get? f = some o ∧ o.data = .func fd) ∧
    ∀ (A : Around) (outer : List Env) (s1 : Shared) (H1 : Hp) (O1 : Addr → Prop) (us : List Value) (vs : List V) (ds : List D) (b : Bw) (Q : VK) (E : XK),
      Room k A → Env0 Pg w K mg base A outer s1 H1 → Held S h H1 s1.heap → Ext bo H H1 → (∀ a o, H a = some o → O1 a → O a) → (∀ a, bo = some a → O1 a) → (∀ a, O1 a → ∃ o, H1 a = some o) → NdefX.TabsN T H1 → BwOk bo b H1 → ds.length = n → Vals vs us → RepL ⟨K, mg, [], bo⟩ (vis H1 O1) ds vs →
      resQ T ⟨K, mg, [], bo⟩ O1 H1 Q E (m ds b) → codeAny (model Pg w) A (.call (.ref f) ⟨us, []⟩) (CR (L2.CX Pg w) outer Pg w H1 s1 Q E) s1
section
variable {Pg : Program} {w : World} {K : PySem.W.Frag} {mg : Str → Option Value} {base : Heap} {T : List NdefX.NTab} {k : Nat} {bo : Option Addr} {f : Addr} {n : Nat} {m : Mir} {O O2 : Addr → Prop} {h h2 : Heap} {H H2 : Hp}
theorem some_of {a : Option HO} (h : a ≠ none) : ∃ o, a = some o := by
  cases a with
  | none => exact absurd rfl h
  | some o => exact ⟨o, rfl⟩
theorem CloAt.later {fr : List Addr} (c : CloAt Pg w K mg base T k bo f n m O h H) (u : Un fr [] H H2 h h2) (x : Ext bo H H2) (vo : ∀ a o, H a = some o → O2 a → O a) : CloAt Pg w K mg base T k bo f n m O2 h2 H2 := by
  obtain ⟨S, hS, sf, ⟨o, fd, ho, hd⟩, run⟩ := c.ex
  refine ⟨S, fun b sb => ?_, sf, ?_, fun A outer s1 H1 O1 us vs ds b Q E hr e0 hh x1 v1 b1 od t bw hl rv rl q => run A outer s1 H1 O1 us vs ds b Q E hr e0 ?_ (x.trans x1) ?_ b1 od t bw hl rv rl q⟩
  · obtain ⟨n1, o1, ho1⟩ := hS b sb
    obtain ⟨sl, z⟩ := u.any ho1 n1 (by simp)
    exact ⟨u.free b o1 ho1 n1 (by simp), _, z⟩
  · obtain ⟨sl, z⟩ := u.any ho (hS f sf).1 (by simp)
    exact ⟨_, fd, z, hd⟩
  · intro b sb
    obtain ⟨n1, o1, ho1⟩ := hS b sb
    refine ⟨(hh b sb).1, fun o' ho' => ?_⟩
    obtain ⟨sl, z⟩ := u.any ho' n1 (by simp)
    obtain ⟨sl2, z2⟩ := (hh b sb).2 _ z
    exact ⟨sl2, z2⟩
  · intro a o' ha ho1
    obtain ⟨o2, z⟩ := some_of (a := H2 a) (fun z => by
      have := x.dom a z
      rw [ha] at this
      cases this)
    exact vo a o' ha (v1 a o2 z ho1)
end
abbrev CM := Nat × Mir
/-- the promise for the function that the parameters name by clo 0 -/
def Pro (Pg : Program) (w : World) (K : PySem.W.Frag) (mg : Str → Option Value) (base : Heap) (T : List NdefX.NTab) (kc : Nat) (cm : Option CM) (R : RC) (O : Addr → Prop) (h : Heap) (H : Hp) : Prop :=
  ∀ n m, cm = some (n, m) → ∀ f, R.fns[0]? = some f → CloAt Pg w K mg base T kc R.bo f n m O h H

/-! ### a name that holds a function, called -/
def vGlo (o : Option CM) (A : EvA) : Ev := fun env b => match o with
  | some (n, m) => (A env b).bind fun ds b1 => if ds.length = n then m ds b1 else .bad
  | none => .bad
def vClo (o : Option CM) (A : EvA) : Ev := fun env b => match o with
  | some (n, m) => (A env b).bind fun ds b1 => if ds.length = n && noClos ds then m ds b1 else .bad
  | none => .bad
def dCallV (i : Nat) (gm : Str → Option CM) (cm : Option CM) (A : EvA) : Ev := fun env b => match env[i]? with
  | some (.val (.glo g)) => vGlo (gm g) A env b
  | some (.val (.clo 0)) => vClo cm A env b
  | _ => .bad
/-- the names of defs that may be handed on -/
def GM (Pg : Program) (w : World) (K : PySem.W.Frag) (mg : Str → Option Value) (base : Heap) (T : List NdefX.NTab) (k : Nat) (gm : Str → Option CM) : Prop := ∀ g n m, gm g = some (n, m) → ∃ ps, ps.length = n ∧ Cal Pg w K mg base T k g ps m
section
variable {B : BP} {X : Cx} {env : Sls} {b : Bw} {σ : L2.St} {H : Hp} {Q : VK} {pins : List (Addr × Obj)} {s : Shared}
theorem Rel.vo (I : Rel B env b σ H) : ∀ a o, B.He a = some o → ownO B.O env σ a → B.O a := fun a o e h => by
  rcases h with h | ⟨i, d, h1, h2⟩
  · exact h
  · obtain ⟨a', z1, _, z2, _⟩ := I.own i d h1
    rw [h2] at z1
    cases z1
    rw [z2] at e
    cases e
/-- a call of the promised function -/
theorem run_clo {kc k : Nat} {f : Addr} {n : Nat} {m : Mir} {us : List Value} {vs : List V} {ds : List D} {H0 : Hp} {b1 : Bw} (c : CloAt X.prog X.w X.K X.mg X.base B.T kc B.R.bo f n m B.O X.s_0.heap X.H_0) (hr : Room k X.A) (hk : kc ≤ k) (tk : Takes X B.W) (hK : B.R.K = X.K) (hM : B.R.mg = X.mg) (hHe : B.He = X.H_0) (hex : X.ex = [])
    (I : Inv X pins σ H s) (J : Rel B env b1 σ H) (r : Vals vs us) (hl : ds.length = n) (hn : noClos ds = true) (rl : RepL B.R (vis H (ownO B.O env σ)) ds vs) (x1 : Ext B.R.bo H0 H) (q : wpG B RepW (ownO B.O env σ) H0 (m ds b1) σ Q) :
    wpAny (model X.prog X.w) X.A (call (.ref f) us) (EP X pins σ Q) X.xe s := by
  have un : Un X.fs [] X.H_0 H X.s_0.heap s.heap := by
    have := I.base
    rw [hex] at this
    exact this
  obtain ⟨S, hS, sf, _, run⟩ := c.ex
  have hx := L2.passAt tk σ
  have hR : B.R = ⟨X.K, X.mg, B.R.fns, B.R.bo⟩ := by rw [← hK, ← hM]
  refine wpAny_call (codeAny_mono (run X.A X.stack s H (ownO B.O env σ) us vs ds b1 Q (WE B.W σ) (hr.mono hk) I.env0 (held_of hS un) (hHe ▸ J.ext) (fun a o e h => J.vo a o (by rw [hHe]; exact e) h) (fun a z => J.bOO z) (fun a z => J.od z) J.tab J.bow hl r ?_ ?_) fun r s' hq => ?_)
  · rw [hR] at rl
    exact RepL.fns hn rl
  · cases e : m ds b1 with
    | bad =>
      rw [e] at q
      exact q
    | ok w b2 =>
      rw [e] at q
      intro v H' e1 e2 e3 e4
      refine q v H' (x1.trans e1) e2 e3 (RepW.back ?_ x1.dom)
      rw [hR]
      cases w with
      | val d => exact Rep.up0 e4
      | own d =>
        obtain ⟨a, z1, z2, z3, z4⟩ := e4
        refine ⟨a, z1, z2, z3, ?_⟩
        cases d with
        | lst l =>
          obtain ⟨us, q1, q2, q3⟩ := z4
          exact ⟨us, q1, RepL.up0 q2, q3⟩
        | dct ks dd =>
          obtain ⟨us, q1, q2⟩ := z4
          exact ⟨us, RepL.up0 q1, q2⟩
        | _ => exact z4.elim
    | err c fs b2 =>
      rw [e] at q
      intro cls d H' e1 e2 e3 e4
      refine q cls d H' (x1.trans e1) e2 e3 ?_
      rw [hR]
      obtain ⟨C, h1, h2, h3⟩ := e4
      refine ⟨C, h1, h2, ?_⟩
      cases fs with
      | nil => exact h3
      | cons f0 r0 =>
        obtain ⟨dd, us, ns, z1, z2, z3, z4⟩ := h3
        exact ⟨dd, us, ns, z1, z2, z3, RepL.up0 z4⟩
  · cases r with
    | error e => exact hx pins H s e s' I hq
    | ok fl =>
      cases fl with
      | ret u => exact I.after hq
      | next => exact False.elim hq
      | brk => exact False.elim hq
      | cont => exact False.elim hq
variable {i : Nat} {x : Str} {e : Expr} {es : List Expr} {A : EvA} {p pos : Pos} {gm : Str → Option CM} {cm : Option CM} {k kc : Nat}
theorem de_callV (i : Nat) (hG : GM X.prog X.w X.K X.mg X.base B.T k gm) (hP : Pro X.prog X.w X.K X.mg X.base B.T kc cm B.R B.O X.s_0.heap X.H_0) (hr : Room k X.A) (hk : kc ≤ k) (tk : Takes X B.W) (ha : DA B X (e :: es) A) (hK : B.R.K = X.K := by rfl) (hM : B.R.mg = X.mg := by rfl) (hHe : B.He = X.H_0 := by rfl) (hex : X.ex = [] := by rfl)
    (hN : X.N[i]? = some x := by rfl) (hv : Vis X.env.scope x := by first | exact Or.inl rfl | exact Or.inr (Or.inl rfl) | exact Or.inr (Or.inr rfl)) (hd : (x == ("__debug__" : Str)) = false := by decide)
    (hcd : (x == ("__classdict__" : Str)) = false := by decide) (he : starEach (e :: es) X.env = (false, eval e X.env) :: starEach es X.env := by rfl) (hpl : (backTo pos (starEach es X.env)).any (·.1) = false := by rfl) :
    DE B X (.Call (.Name x p) (e :: es) [] pos) (dCallV i gm cm A) := by
  refine ⟨fun pins s σ H Q I h => ?_⟩
  obtain ⟨env, b, J, w⟩ := h
  unfold dCallV at w
  cases ei : env[i]? with
  | none =>
    rw [ei] at w
    exact False.elim w
  | some sl =>
    rw [ei] at w
    cases sl with
    | un => exact False.elim w
    | own d => exact False.elim w
    | val d =>
      obtain ⟨v, hs, rv⟩ := J.val i d ei
      cases d with
      | glo g =>
        obtain ⟨f, rfl, hmg⟩ := rv
        have w : wpG B RepW (ownO B.O env σ) H (vGlo (gm g) A env b) σ Q := w
        cases eg : gm g with
        | none =>
          rw [eg] at w
          exact False.elim w
        | some nm =>
          obtain ⟨n, m⟩ := nm
          rw [eg] at w
          have w : wpG B RepW (ownO B.O env σ) H ((A env b).bind fun ds b1 => if ds.length = n then m ds b1 else .bad) σ Q := w
          obtain ⟨ps, hn, c⟩ := hG g n m eg
          obtain ⟨f', fd, F, hm, hk', hb⟩ := c.ex
          have ef : f' = f := by
            rw [hM, hm] at hmg
            cases hmg
            rfl
          subst ef
          refine wpAny_Call_Name_kw (thn ((pe_var (pos := p) hN hv hd hcd).run pins s σ H (fun v H1 => v = .ref f' ∧ H1 = H) I ⟨.ref f', hs, rfl, rfl⟩) fun u s1 ⟨v, H1, I1, r1, q1⟩ => ?_)
          obtain ⟨ev, eH⟩ := q1
          subst ev
          rw [eH] at I1
          obtain rfl : u = Value.ref f' := r1
          refine PySem.W.callWith_K (h₀ := X.base) I1.ok.mod.kin hk' (thn (ha.run pos pins s1 σ H (fun vs H1 => spD X.K X.mg B.T ps.length (fun ds b1 => if ds.length = n then m ds b1 else .bad) vs H1 Q (WE B.W σ)) I1 ?_) fun us s2 ⟨vs, H2, I2, r, q⟩ => ⟨I2.kIn, ?_⟩) he hpl
          · have z := rd_call (B := B) (σ := σ) (H := H) (Q := Q) (m := fun ds b1 => if ds.length = n then m ds b1 else .bad) (A := A) (n := ps.length) (fun ds b h => if_neg (by rw [← hn]; exact h)) ⟨env, b, J, w⟩
            rw [hK, hM] at z
            exact z
          · have q' : spD X.K X.mg B.T ps.length m vs H2 Q (WE B.W σ) := by
              obtain ⟨fns, bo, O, ds, b1, z1, z⟩ := q
              refine ⟨fns, bo, O, ds, b1, z1, ?_⟩
              simp only [show ds.length = n from z1.trans hn, if_true] at z
              exact z
            show wpAny _ _ (call (.ref f') us) _ _ _
            exact L2.run_fnS (E := fun σ => WE B.W σ) F hr hb (L2.passAt tk σ) I2 r q'
      | clo j =>
        cases j with
        | succ j => exact False.elim w
        | zero =>
          obtain ⟨f, rfl, hfn⟩ := rv
          have w : wpG B RepW (ownO B.O env σ) H (vClo cm A env b) σ Q := w
          cases ec : cm with
          | none =>
            rw [ec] at w
            exact False.elim w
          | some nm =>
            obtain ⟨n, m⟩ := nm
            rw [ec] at w
            have w : wpG B RepW (ownO B.O env σ) H ((A env b).bind fun ds b1 => if (ds.length = n && noClos ds) = true then m ds b1 else .bad) σ Q := w
            have c := hP n m ec f hfn
            obtain ⟨S, hS, sf, hfo, _⟩ := id c.ex
            have fnAt : ∀ {H2 : Hp} {s2 : Shared}, Inv X pins σ H2 s2 → PySem.W.FnAt f s2.heap := fun {H2 s2} I2 => by
              obtain ⟨o, fd, ho, hdd⟩ := hfo
              have un : Un X.fs [] X.H_0 H2 X.s_0.heap s2.heap := by
                have := I2.base
                rw [hex] at this
                exact this
              obtain ⟨sl, z⟩ := un.any ho (hS f sf).1 (by simp)
              obtain ⟨oc, od, odt, osl⟩ := o
              have hdd : odt = .func fd := hdd
              subst hdd
              exact ⟨_, _, _, _, z⟩
            refine wpAny_Call_Name_kw (thn ((pe_var (pos := p) hN hv hd hcd).run pins s σ H (fun v H1 => v = .ref f ∧ H1 = H) I ⟨.ref f, hs, rfl, rfl⟩) fun u s1 ⟨v, H1, I1, r1, q1⟩ => ?_)
            obtain ⟨ev, eH⟩ := q1
            subst ev
            rw [eH] at I1
            obtain rfl : u = Value.ref f := r1
            refine PySem.W.callWith_F (first := []) (fnAt I1) (thn (ha.run pos pins s1 σ H (fun vs H1 => ∃ ds b1, Rel B env b1 σ H1 ∧ Ext B.R.bo H H1 ∧ RepL B.R (vis H1 (ownO B.O env σ)) ds vs ∧ wpG B RepW (ownO B.O env σ) H (if (ds.length = n && noClos ds) = true then m ds b1 else .bad) σ Q) I1 ?_) fun us s2 ⟨vs, H2, I2, r, q⟩ => ⟨fnAt I2, ?_⟩) he hpl
            · refine ⟨env, b, J, ?_⟩
              cases ea : A env b with
              | bad =>
                rw [ea] at w
                exact False.elim w
              | err c fs b1 =>
                rw [ea] at w
                exact wpG_err (ρ1 := rhoL) w (Ext.refl H)
              | ok ds b1 =>
                rw [ea] at w
                exact fun vs H1 e1 e2 e3 e4 => ⟨ds, b1, J.go e1 e2 e3, e1, e4, w⟩
            · obtain ⟨ds, b1, J2, x1, rl, q⟩ := q
              show wpAny _ _ (call (.ref f) us) _ _ _
              by_cases hc : (ds.length = n && noClos ds) = true
              · rw [if_pos hc] at q
                rw [Bool.and_eq_true] at hc
                exact run_clo c hr hk tk hK hM hHe hex I2 J2 r (of_decide_eq_true hc.1) hc.2 rl x1 q
              · rw [if_neg hc] at q
                exact False.elim q
      | _ => exact False.elim w
end
end DL

set_option Elab.async false
set_option linter.all false
set_option maxRecDepth 100000
set_option maxHeartbeats 4000000
/-! lambdas made, defs that take a function -/
namespace DL
open PySem PySem.Spec PyProof.Rows L2 LamX
section
variable {X : Cx} {pins : List (Addr × Obj)} {σ : L2.St} {H : Hp} {s : Shared}
def nt (L : List (Addr × Str)) : List NdefX.NTab := L.map fun p => (p.1, fun _ _ => p.2)
theorem nt_tabs {L : List (Addr × Str)} {H : Hp} : NdefX.TabsN (nt L) H ↔ Tabs L H := by
  constructor
  · intro h p hp
    exact h (p.1, fun _ _ => p.2) (List.mem_map.mpr ⟨p, hp, rfl⟩)
  · intro h p hp
    obtain ⟨q, hq, rfl⟩ := List.mem_map.mp hp
    exact h q hq
/-- what is known of a lambda just made -/
structure LamAt (X : Cx) (L : List (Addr × Str)) (params : Arguments) (body : Expr) (scope : Scope) (H H1 : Hp) (f c' : Addr) (s' : Shared) : Prop where
  obj : ∃ pm ctv, s'.heap.get? f = some (PySem.W.kla_obj "<lambda>" (X.env.qual ++ "<lambda>") params body scope (cloFrom X.env.cells scope.names []) pm c' ctv)
  new : H1 f = none
  co : H1 c' = some (CodeO c' (X.env.qual ++ "<lambda>"))
  keep : ExtN H H1
  dom : ∀ b, H1 b = none → H b = none
  tabs : Tabs L H1
theorem upd_dom {H : Hp} {a b : Addr} {o : HO} (e : upd H a o b = none) : H b = none := by
  unfold upd at e
  split at e
  · cases e
  · exact e
theorem lam_mk {L : List (Addr × Str)} {c P : Addr} {params : Arguments} {body : Expr} {scope : Scope} {pos : Pos} {E : Value → Shared → Prop} {Q : Value → Shared → Prop} (I : Inv X pins σ H s) (TB : TabB X.base X.mg c P) (hcode : X.env.code = .ref c)
    (hm : (P, X.env.qual ++ "<lambda>") ∈ L) (hu : ∀ p ∈ L, p.1 = P → p.2 = X.env.qual ++ "<lambda>") (hT : Tabs L H) (hdef : defaultsOf params X.env = ([], [])) (hfree : ∀ y ∈ scope.names, y.2 = .free → ∃ c, X.env.cells.lookup y.1 = some c)
    (h : ∀ (f c' : Addr) (H1 : Hp) (s' : Shared), Inv X pins σ H1 s' → LamAt X L params body scope H H1 f c' s' → Q (.ref f) s') :
    wpAny (model X.prog X.w) X.A (eval (.Lambda params body scope pos) X.env) Q E s := by
  obtain ⟨ps, hP, ht, ha⟩ := hT _ hm
  have hP' : s.heap.get? P = some { cls := .none, data := .fields ps } := I.hok P _ hP
  refine PySem.W.kla_eval hdef ?_
  cases hc : codeAmong pos ps.toList with
  | some cv =>
    obtain ⟨c', e, hco⟩ := ha pos cv hc
    subst e
    refine PySem.W.kla_makeFunctionHit (mg := X.mg) (c := c) (P := P) (ps := ps) (closure_ok hfree) I.ok.glob (I.mod.glob.keeps I.bk) hcode (TB.code.keeps I.bk) hP' ht hc (TB.bm.keeps I.bk) fun ctv h' tk hx hsz => ?_
    exact h h'.objs.size c' H _ (I.kept (t' := tk) fun b o e => Heap.get?_push_of_some _ (hx b o e)) ⟨⟨_, ctv, Heap.get?_push_size _ rfl⟩, I.hok.fresh hsz, hco, ExtN.refl H, fun _ z => z, hT⟩
  | none =>
    refine PySem.W.kla_makeFunction (mg := X.mg) (c := c) (P := P) (ps := ps) (closure_ok hfree) I.ok.glob (I.mod.glob.keeps I.bk) hcode (TB.code.keeps I.bk) hP' ht hc TB.gP (TB.bm.keeps I.bk) fun c' ctv h' tk hx hge hlt hrec htb => ?_
    obtain ⟨c2, oc, vs, t, e2, hoc, hd, hv⟩ := hrec
    cases e2
    have nC : H c' = none := I.hok.fresh hge
    have nF : H h'.objs.size = none := I.hok.fresh (Nat.le_trans hge (Nat.le_of_lt hlt))
    have keep : ExtN H (upd (upd H P (.tbl (ps ++ #[rawInt pos.line, rawInt pos.col, .ref c']))) c' (CodeO c' (X.env.qual ++ "<lambda>"))) := fun b o e n => by
      rw [upd_ne (ne_of_none e nC), upd_ne (fun z => n ps (Option.some.inj (e.symm.trans (by rw [z]; exact hP))))]
      exact e
    refine h h'.objs.size c' _ _ (inv_table (t' := tk) (more := #[rawInt pos.line, rawInt pos.col, .ref c']) (h' := h'.push _) I hP (fun b o hb e => Heap.get?_push_of_some _ (hx b o hb e)) (Heap.get?_push_of_some _ htb) hge ⟨oc, vs, t, Heap.get?_push_of_some _ hoc, hd, hv⟩)
      ⟨⟨_, ctv, Heap.get?_push_size _ rfl⟩, ?_, upd_same, keep, fun b e => upd_dom (upd_dom e), fun p hp => ?_⟩
    · rw [upd_ne (Nat.ne_of_gt hlt), upd_ne (Nat.ne_of_gt (Nat.lt_of_lt_of_le (Heap.lt_size hP') (Nat.le_trans hge (Nat.le_of_lt hlt))))]
      exact nF
    · by_cases hb : p.1 = P
      · have eL : (ps ++ #[rawInt pos.line, rawInt pos.col, .ref c']).toList = ps.toList ++ [rawInt pos.line, rawInt pos.col, .ref c'] := by simp
        rw [hu p hp hb, hb]
        refine ⟨_, by rw [upd_ne (ne_of_none hP nC), upd_same], by rw [eL]; exact PySem.TriplesOk_snoc _ _ _ _ ht, fun p' cv hcv => ?_⟩
        rw [eL] at hcv
        rcases among_app _ ht hcv with z | z
        · obtain ⟨c0, e1, e2⟩ := ha p' cv z
          exact ⟨c0, e1, keep _ _ e2 codeO_ne⟩
        · exact ⟨c', z, upd_same⟩
      · obtain ⟨ps', a1, a2, a3⟩ := hT p hp
        refine ⟨ps', by rw [upd_ne (ne_of_none a1 nC), upd_ne hb]; exact a1, a2, fun p' cv hcv => ?_⟩
        obtain ⟨c0, e1, e2⟩ := a3 p' cv hcv
        exact ⟨c0, e1, keep _ _ e2 codeO_ne⟩
end
/-! ### arguments, the last one a lambda -/
structure LamE (X : Cx) (L : List (Addr × Str)) (params : Arguments) (scope : Scope) : Prop where
  ex : ∃ c P, TabB X.base X.mg c P ∧ X.env.code = .ref c ∧ (P, X.env.qual ++ "<lambda>") ∈ L ∧ ∀ p ∈ L, p.1 = P → p.2 = X.env.qual ++ "<lambda>"
  dflt : defaultsOf params X.env = ([], [])
  free : ∀ y ∈ scope.names, y.2 = .free → X.env.scope.names.lookup y.1 = some .cell ∨ X.env.scope.names.lookup y.1 = some .free
structure PLam (X : Cx) (L : List (Addr × Str)) (params : Arguments) (body : Expr) (scope : Scope) (as : List Expr) (t : TA) : Prop where
  run : ∀ (pos : Pos) (pins : List (Addr × Obj)) (s : Shared) (σ : L2.St) (H : Hp) (Q : List V → Hp → Prop), Inv X pins σ H s → t σ H (fun vs H' => Tabs L H' ∧ Q vs H') →
    wpAny (model X.prog X.w) X.A (spliced (backTo pos (starEach as X.env))) (fun us s' => ∃ vs us0 f c' H2 H1, us = us0 ++ [.ref f] ∧ Vals vs us0 ∧ Q vs H2 ∧ Inv X pins σ H1 s' ∧ LamAt X L params body scope H2 H1 f c' s') X.xe s
section
variable {X : Cx} {L : List (Addr × Str)} {params : Arguments} {body : Expr} {scope : Scope} {lpos : Pos} {e : Expr} {es : List Expr} {te : TE} {t : TA}
theorem plam_one (E : LamE X L params scope) (hs : starEach [.Lambda params body scope lpos] X.env = [(false, eval (.Lambda params body scope lpos) X.env)] := by rfl) : PLam X L params body scope [.Lambda params body scope lpos] tNil := by
  refine ⟨fun pos pins s σ H Q I h => ?_⟩
  obtain ⟨c, P, TB, hcode, hm, hu⟩ := E.ex
  rw [hs]
  show wpAny _ _ (spliced ((false, eval (.Lambda params body scope lpos) X.env) :: [])) _ _ s
  refine Calls.spliced_cons (lam_mk I TB hcode hm hu h.1 E.dflt (fun y hy z => (E.free y hy z).elim (fun k => I.ok.has _ (.inl k)) fun k => I.ok.has _ (.inr k)) fun f c' H1 s' I1 l => ?_)
  exact Calls.spliced_nil ⟨[], [], f, c', H, H1, rfl, .nil, h.2, I1, l⟩
theorem plam_cons (he : PE X e te) (hr : PLam X L params body scope es t) (hs : starEach (e :: es) X.env = (false, eval e X.env) :: starEach es X.env := by rfl) : PLam X L params body scope (e :: es) (tCons te t) := by
  refine ⟨fun pos pins s σ H Q I h => ?_⟩
  rw [hs]
  show wpAny _ _ (spliced ((false, eval e X.env) :: backTo pos (starEach es X.env))) _ _ s
  refine Calls.spliced_cons (thn (he.run pins s σ H _ I h) fun v s1 ⟨x, H1, I1, r1, q1⟩ => ?_)
  refine thn (hr.run pos pins s1 σ H1 (fun xs H2 => Q (x :: xs) H2) I1 q1) fun us s2 ⟨vs, us0, f, c', H2, H3, e1, r2, q2, I2, l⟩ => ?_
  exact ⟨x :: vs, v :: us0, f, c', H2, H3, by rw [e1]; rfl, .cons r1 r2, q2, I2, l⟩
end
abbrev DL' (B : BP) (X : Cx) (L : List (Addr × Str)) (params : Arguments) (body : Expr) (scope : Scope) (as : List Expr) (ev : EvA) : Prop := PLam X L params body scope as (rdA B ev)
section
variable {B : BP} {X : Cx} {L : List (Addr × Str)} {params : Arguments} {body : Expr} {scope : Scope} {lpos : Pos} {e : Expr} {es : List Expr} {ea : Ev} {A : EvA}
theorem dl_one (E : LamE X L params scope) (hs : starEach [.Lambda params body scope lpos] X.env = [(false, eval (.Lambda params body scope lpos) X.env)] := by rfl) : DL' B X L params body scope [.Lambda params body scope lpos] dNil :=
  ⟨fun pos pins s σ H Q I h => (plam_one E hs).run pos pins s σ H Q I (by
    obtain ⟨env, b, J, w⟩ := h
    exact wpG_ok (x := ([] : List V)) w (Ext.refl H) J.bow J.tab rfl)⟩
theorem dl_cons (ha : DE B X e ea) (hr : DL' B X L params body scope es A) (hs : starEach (e :: es) X.env = (false, eval e X.env) :: starEach es X.env := by rfl) : DL' B X L params body scope (e :: es) (dCons ea A) :=
  ⟨fun pos pins s σ H Q I h => (plam_cons ha hr hs).run pos pins s σ H Q I
    (rd_bind2 (k := fun a1 r _ b2 => .ok (a1.d :: r) b2) staysW staysL h fun env a1 a2 b2 x y H2 I2 x2 r1 r2 w => wpG_ok (x := x :: y) w x2 I2.bow I2.tab (RepL.cons r1.rep r2))⟩
end
/-! ### defs that take a function (their last argument) -/
/-- what is asked at the call, told of the very state -/
def spH (Pg : Program) (w : World) (K : PySem.W.Frag) (mg : Str → Option Value) (base : Heap) (T : List NdefX.NTab) (kc n : Nat) (m : CM → Mir) (s : Shared) (vs : List V) (H : Hp) (Q : VK) (E : XK) : Prop :=
  ∃ (bo : Option Addr) (O : Addr → Prop) (ds : List D) (b : Bw) (f : Addr) (vs0 : List V) (nc : Nat) (mc : Mir), vs = vs0 ++ [.ref f] ∧ ds.length + 1 = n ∧ RepL ⟨K, mg, [], bo⟩ (vis H O) ds vs0 ∧ BwOk bo b H ∧ (∀ a, bo = some a → O a) ∧ (∀ a, O a → ∃ o, H a = some o) ∧ NdefX.TabsN T H ∧
    CloAt Pg w K mg base T kc bo f nc mc O s.heap H ∧ resQ T ⟨K, mg, [], bo⟩ O H Q E (m (nc, mc) (ds ++ [.clo 0]) b)
structure HFn (Pg : Program) (w : World) (K : PySem.W.Frag) (mg : Str → Option Value) (base : Heap) (T : List NdefX.NTab) (k : Nat) (x : Str) (n kc : Nat) (m : CM → Mir) : Prop where
  ex : ∃ (f : Addr), mg x = some (.ref f) ∧ PySem.W.keepIn K (.ref f) = true ∧
    ∀ (A : Around) (outer : List Env) (s : Shared) (H : Hp) (us : List Value) (vs : List V) (Q : VK) (E : XK), Room k A → Env0 Pg w K mg base A outer s H → K.In s.heap → Vals vs us → spH Pg w K mg base T kc n m s vs H Q E →
      codeAny (model Pg w) A (.call (.ref f) ⟨us, []⟩) (CR (L2.CX Pg w) outer Pg w H s Q E) s
theorem RepL.snoc {R : RC} {H : Hp} {ds : List D} {vs : List V} {d : D} {v : V} (h : RepL R H ds vs) (r : Rep R H d v) : RepL R H (ds ++ [d]) (vs ++ [v]) := RepL.append h (RepL.cons r RepL.nil)
section
variable {Pg : Program} {w : World} {K : PySem.W.Frag} {mg : Str → Option Value} {base : Heap} {T : List NdefX.NTab}
theorem hfn_of {x qual : Str} {params : Arguments} {body : List Stmt} {scope : Scope} {f : Addr} {fd : FuncData} {N ps : List Str} {k kc : Nat} {dv : CM → Sv} (F : FunD K x qual params body scope [] [] f fd) (S : FnScope N ps scope) (hm : mg x = some (.ref f)) (hbi : L2.Binds K fd ps [])
    (hb : ∀ (bo : Option Addr) (O : Addr → Prop) (P : Hp) (cdv : Value) (A : Around) (outer : List PySem.Env) (s : Shared) (H : Hp) (E : XK) (f' : Addr) (cm : CM), fd.code = cdv → Pro Pg w K mg base T kc (some cm) ⟨K, mg, [f'], bo⟩ O s.heap H → Room k (A.deeper (envOfC qual scope s.heap.objs.size f cdv)) →
      DSs (bpOf K mg T [f'] bo O H E P) (cxOf (L2.CX Pg w) Pg w K mg base N qual scope f cdv A outer s H E) body (dv cm)) :
    HFn Pg w K mg base T (k + 1) x ps.length kc fun cm ds b => clean (mir (dv cm) ps.length N.length ds b) := by
  obtain ⟨oc, od, dV, kV, doc, pm, an, cdv, ct, osl, efd, lk, hcd, _, _⟩ := F.ex
  subst efd
  refine ⟨f, hm, F.kp, fun A outer s H us vs Q E hr e0 kin rv h => ?_⟩
  obtain ⟨bo, O, ds, b, f', vs0, nc, mc, rfl, hn, h2, h3, h4, h5, h6, hc, hq⟩ := h
  have hN : ps.length ≤ N.length := by
    have q := congrArg List.length S.pre
    rw [List.length_take] at q
    omega
  have h2' : RepL ⟨K, mg, [f'], bo⟩ (vis H O) (ds ++ [.clo 0]) (vs0 ++ [.ref f']) := RepL.snoc (RepL.up0 h2) ⟨f', rfl, rfl⟩
  have hl : (vs0 ++ [V.ref f']).length = ps.length := by rw [← h2'.length, List.length_append]; exact hn
  have bi := hbi s us kin (by rw [List.append_nil, ← rv.length]; exact hl)
  rw [List.append_nil] at bi
  refine run_ofS lk hcd S hr e0 bi rv hl fun hr' => ?_
  refine ⟨_, hb bo O (fun _ => none) cdv A outer s H E f' (nc, mc) rfl ?_ hr', ent N.length (ds ++ [.clo 0]), b, ent_rel (by rw [hl]; exact hN) h2' h3 h4 h5 h6, ?_⟩
  · intro n m e f'' ef
    cases e
    have ef : some f' = some f'' := ef
    cases ef
    exact hc
  · have hq' := resQ_clean (f2 := [f']) hq
    have hq'' : resQ T ⟨K, mg, [f'], bo⟩ O H Q E (mir (dv (nc, mc)) ps.length N.length (ds ++ [.clo 0]) b) := hq'
    unfold mir at hq''
    rw [if_pos (by rw [List.length_append]; exact hn)] at hq''
    exact end_of hq''
/-- a def whose code object is known (it makes lambdas) -/
theorem fn_okC {x qual : Str} {params : Arguments} {body : List Stmt} {scope : Scope} {f : Addr} {fd : FuncData} {N ps : List Str} {k : Nat} {dv : Sv} (F : FunD K x qual params body scope [] [] f fd) (S : FnScope N ps scope)
    (hb : ∀ (fns : List Addr) (bo : Option Addr) (O : Addr → Prop) (P : Hp) (cdv : Value) (A : Around) (outer : List PySem.Env) (s : Shared) (H : Hp) (E : XK), fd.code = cdv → Room k (A.deeper (envOfC qual scope s.heap.objs.size f cdv)) →
      DSs (bpOf K mg T fns bo O H E P) (cxOf (L2.CX Pg w) Pg w K mg base N qual scope f cdv A outer s H E) body dv) :
    FnOk Pg w K mg base (L2.CX Pg w) (k + 1) f fd ps (spD K mg T ps.length (mir dv ps.length N.length)) := by
  obtain ⟨oc, od, dV, kV, doc, pm, an, cdv, ct, osl, efd, lk, hcd, _, _⟩ := F.ex
  subst efd
  have hN : ps.length ≤ N.length := by
    have q := congrArg List.length S.pre
    rw [List.length_take] at q
    omega
  refine fn_of lk hcd S (fun vs H Q E h => ?_) (fun A outer s H vs Q E hr h => ?_)
  · obtain ⟨_, _, _, ds, _, h1, h2, _⟩ := h
    rw [← h2.length]
    exact h1
  · obtain ⟨fns, bo, O, ds, b, h1, h2, h3, h4, h5, h6, h7⟩ := h
    refine ⟨_, hb fns bo O (fun _ => none) cdv A outer s H E rfl hr, ent N.length ds, b, ent_rel (by rw [← h2.length, h1]; exact hN) h2 h3 h4 h5 h6, ?_⟩
    unfold mir at h7
    rw [if_pos h1] at h7
    exact end_of h7
end
end DL

set_option Elab.async false
set_option linter.all false
set_option maxRecDepth 100000
set_option maxHeartbeats 4000000
/-! a def called with a lambda -/
namespace DL
open PySem PySem.Spec PyProof.Rows L2 LamX NdefX
section
variable {Pg : Program} {w : World} {K : PySem.W.Frag} {mg : Str → Option Value} {base : Heap} {T : List NdefX.NTab} {k : Nat} {bo : Option Addr} {f : Addr} {n : Nat} {m : Mir} {O O2 : Addr → Prop} {h h2 : Heap} {H H2 : Hp}
theorem CloAt.held (c : CloAt Pg w K mg base T k bo f n m O h H) (hh : Held c.ex.choose h H2 h2) (x : Ext bo H H2) (vo : ∀ a o, H a = some o → O2 a → O a) : CloAt Pg w K mg base T k bo f n m O2 h2 H2 := by
  obtain ⟨hS, sf, ⟨o, fd, ho, hd⟩, run⟩ := c.ex.choose_spec
  refine ⟨c.ex.choose, fun b sb => ?_, sf, ?_, fun A outer s1 H1 O1 us vs ds b Q E hr e0 hh1 x1 v1 b1 od t bw hl rv rl q => run A outer s1 H1 O1 us vs ds b Q E hr e0 ?_ (x.trans x1) ?_ b1 od t bw hl rv rl q⟩
  · obtain ⟨n1, o1, ho1⟩ := hS b sb
    obtain ⟨sl, z⟩ := (hh b sb).2 o1 ho1
    exact ⟨(hh b sb).1, _, z⟩
  · obtain ⟨sl, z⟩ := (hh f sf).2 o ho
    exact ⟨_, fd, z, hd⟩
  · intro b sb
    refine ⟨(hh1 b sb).1, fun o' ho' => ?_⟩
    obtain ⟨sl, z⟩ := (hh b sb).2 o' ho'
    obtain ⟨sl2, z2⟩ := (hh1 b sb).2 _ z
    exact ⟨sl2, z2⟩
  · intro a o' ha ho1
    obtain ⟨o2, z⟩ := some_of (a := H2 a) (fun z => by
      have := x.dom a z
      rw [ha] at this
      cases this)
    exact vo a o' ha (v1 a o2 z ho1)
end
def capSlot (env : Sls) (j : Nat) : Slot := match env[j]? with
  | some (.val d) => .val d
  | _ => .un
/-- the names of a lambda's body at its entry: parameters, captured ones -/
def lamEnt (n N : Nat) (js : List Nat) (env : Sls) (ds : List D) : Sls := ds.map Slot.val ++ (js.map (capSlot env) ++ List.replicate (N - n - js.length) Slot.un)
def lamM (ev : Ev) (n N : Nat) (js : List Nat) (env : Sls) : Mir := fun ds b => if ds.length = n then clean (ev (lamEnt n N js env ds) b) else .bad
def dCallH (mh : CM → Mir) (A : EvA) (n : Nat) (lm : Sls → Mir) : Ev := fun env b => (A env b).bind fun ds b1 => if noClos ds then mh (n, lm env) (ds ++ [.clo 0]) b1 else .bad
abbrev lamF (X : Cx) (params : Arguments) (scope : Scope) (c' : Addr) : NF := ⟨"<lambda>", X.env.qual ++ "<lambda>", params, [], scope, cloFrom X.env.cells scope.names [], c'⟩
section
variable {B : BP} {X : Cx} {L : List (Addr × Str)} {params : Arguments} {body : Expr} {scope : Scope} {N2 ps2 fr2 : List Str} {js : List Nat} {env : Sls} {b1 : Bw} {σ : L2.St} {H1 : Hp} {s1 : Shared} {pins : List (Addr × Obj)} {ev : Ev} {cm : Option CM} {kp kl kc : Nat}
theorem lamEnt_noown {n N : Nat} {ds : List D} (i : Nat) (d : D) : (lamEnt n N js env ds)[i]? ≠ some (.own d) := fun e => by
  unfold lamEnt at e
  have z := List.mem_of_getElem? e
  rw [List.mem_append, List.mem_append] at z
  rcases z with z | z | z
  · obtain ⟨x, _, q⟩ := List.mem_map.mp z
    cases q
  · obtain ⟨x, _, q⟩ := List.mem_map.mp z
    unfold capSlot at q
    split at q <;> cases q
  · have := List.eq_of_mem_replicate z
    cases this
/-- the promise of a lambda just made -/
theorem clo_made {f c' : Addr} {H2 : Hp} (I : Inv X pins σ H1 s1) (l : LamAt X L params body scope H2 H1 f c' s1) (J : Rel B env b1 σ H1) (hT : B.T = nt L) (hK : B.R.K = X.K) (hM : B.R.mg = X.mg) (S2 : NScope N2 ps2 fr2 scope) (hfree : ∀ y ∈ scope.names, y.2 = .free → X.env.scope.names.lookup y.1 = some .cell ∨ X.env.scope.names.lookup y.1 = some .free)
    (hfr : ∀ y ∈ fr2, (y, NameKind.free) ∈ scope.names) (hjs : js.map (fun j => X.N[j]?) = fr2.map some)
    (hbind : ∀ (q : Str) (cl : List (Str × Addr)) (pm cv ctv : Value) (us : List Value), us.length = ps2.length → bindArgs (PySem.W.kla_fn "<lambda>" q params body scope cl pm cv ctv) ⟨us, []⟩ = pure (ps2.zip us)) (hkl : kl + 1 ≤ kc)
    (hP : Pro X.prog X.w X.K X.mg X.base B.T kp cm B.R (ownO B.O env σ) s1.heap H1)
    (hbody : ∀ (O : Addr → Prop) (P' : Hp) (A : Around) (outer : List Env) (s : Shared) (H : Hp) (E : XK) (f c' : Addr), Pro X.prog X.w X.K X.mg X.base B.T kp cm B.R O s.heap H → Room kl (A.deeper (envF (lamF X params scope c') f s.heap.objs.size)) →
      DE ⟨B.R, B.T, O, H, fun cls d _ H' => E cls d H', P'⟩ (ncx (L2.CX X.prog X.w) X.prog X.w X.K X.mg X.base N2 (lamF X params scope c') f A outer s H E) body ev) :
    CloAt X.prog X.w X.K X.mg X.base B.T kc B.R.bo f ps2.length (lamM ev ps2.length N2.length js env) (ownO B.O env σ) s1.heap H1 := by
  have C := cells_of I (Caps.made I.ok hfree hfr hjs)
  obtain ⟨pm, ctv, hf⟩ := l.obj
  let S0 : Addr → Prop := fun b => ∃ (n : Nat) (m : Mir) (hcm : cm = some (n, m)) (g : Addr) (hg : B.R.fns[0]? = some g), (hP n m hcm g hg).ex.choose b
  refine ⟨fun b => b = f ∨ (∃ y, (cloFrom X.env.cells scope.names []).lookup y = some b) ∨ S0 b, fun b sb => ?_, .inl rfl, ⟨_, _, hf, rfl⟩, fun A outer s2 H3 O1 us vs ds b Q E hr e0 hh x1 v1 bO1 od1 t1 bw1 hl rv rl q => ?_⟩
  · rcases sb with rfl | ⟨y, e⟩ | ⟨n, m, hcm, g, hg, sb⟩
    · exact ⟨l.new, _, hf⟩
    · obtain ⟨z, v, o, ho, _⟩ := C.all y b e
      exact ⟨z, o, ho⟩
    · exact (hP n m hcm g hg).ex.choose_spec.1 b sb
  · obtain ⟨sl, of⟩ := (hh f (.inl rfl)).2 _ hf
    have cN : ∀ y c, (cloFrom X.env.cells scope.names []).lookup y = some c → H3 c = none := fun y c e => (hh c (.inr (.inl ⟨y, e⟩))).1
    have cC : ∀ y c, (cloFrom X.env.cells scope.names []).lookup y = some c → ∀ v, s1.heap.IsCell c v → s2.heap.IsCell c v := fun y c e v ⟨o, ho, hd⟩ => by
      obtain ⟨sl, z⟩ := (hh c (.inr (.inl ⟨y, e⟩))).2 o ho
      exact ⟨_, z, hd⟩
    have C3 : CellsAt (lamF X params scope c').cl fr2 (js.map (slotAt σ)) s2.heap H3 := ⟨C.len, fun y c e => ⟨cN y c e, by
      obtain ⟨_, v, z⟩ := C.all y c e
      exact ⟨v, cC y c e v z⟩⟩, C.inj, fun i y e => by
      obtain ⟨c, hc, hv⟩ := C.has i y e
      refine ⟨c, hc, fun v ev => ?_⟩
      obtain ⟨u, r, z⟩ := hv v ev
      exact ⟨u, r, cC y c hc _ z⟩⟩
    have nbo : B.R.bo ≠ some c' := fun z => by
      have bw := J.bow
      rw [z] at bw
      cases b1 with
      | none => exact bw
      | some l' =>
        have z2 : H1 c' = some (.lst (l'.map V.int)) := bw
        rw [l.co] at z2
        unfold CodeO at z2
        cases z2
    have hco : H3 c' = some (CodeO c' (X.env.qual ++ "<lambda>")) := x1.keep c' _ l.co nbo (fun ps => codeO_ne ps)
    have lim : s2.heap.NoLimit := e0.mod.nolimit.keeps fun b o e => (e0.bs b o e).1
    have hlv : vs.length = ps2.length := by rw [← rl.length, hl]
    have hlu : us.length = ps2.length := by rw [← rv.length, hlv]
    have hr' : Room kl (A.deeper (envF (lamF X params scope c') f s2.heap.objs.size)) := (hr.mono hkl).deeper _
    refine PySem.W.kla_callFunE hr.depth of rfl S2.co S2.gen rfl (codeO_at e0.hok hco) ?_
    rw [hbind _ _ _ _ _ us hlu]
    refine wpAny_pure (wpAny_newFunctionEnv S2.nocell (fun ⟨n, _⟩ hy => S2.par n (List.of_mem_zip hy).1) (fun h₁ hns hsb => ⟨lim.fresh _ hsb, ?_⟩) S2.kind)
    show codeAny _ _ (.expr body (envF (lamF X params scope c') f s2.heap.objs.size)) _ _
    have kpp : ∀ b o, s2.heap.get? b = some o → h₁.get? b = some o := fun b o e => hsb.extBut b o (Nat.ne_of_lt (Heap.lt_size e)) (Heap.get?_push_of_some _ e)
    have J3 : Inv (ncx (L2.CX X.prog X.w) X.prog X.w X.K X.mg X.base N2 (lamF X params scope c') f A outer s2 H3 E) [] (startF N2 vs (js.map (slotAt σ))) H3 { s2 with heap := h₁, toks := s2.toks + (ps2.zip us).length } := inv_startN S2 hr.hd e0 hlv rv C3 hns kpp
    have hP3 : Pro X.prog X.w X.K X.mg X.base B.T kp cm B.R O1 s2.heap H3 := fun n m hcm g hg => (hP n m hcm g hg).held (fun b sb => hh b (.inr (.inr ⟨n, m, hcm, g, hg, sb⟩))) x1 v1
    have hR : B.R = ⟨X.K, X.mg, B.R.fns, B.R.bo⟩ := by rw [← hK, ← hM]
    -- the state at the body's entry
    have noown : ∀ a, ownO O1 (lamEnt ps2.length N2.length js env ds) (startF N2 vs (js.map (slotAt σ))) a → O1 a := fun a h => h.elim id fun ⟨i, d, z, _⟩ => absurd z (lamEnt_noown i d)
    have eO : ownO O1 (lamEnt ps2.length N2.length js env ds) (startF N2 vs (js.map (slotAt σ))) = O1 := funext fun a => propext ⟨noown a, .inl⟩
    have rl' : RepL B.R (vis H3 O1) ds vs := by
      rw [hR]
      exact RepL.up0 rl
    have lens : js.length = fr2.length := by
      have q := congrArg List.length hjs
      rw [List.length_map, List.length_map] at q
      exact q
    have vmore : Sub (vis H1 (ownO B.O env σ)) (vis H3 O1) := vis_more x1 (fun a z => J.bOO z) v1
    have rel : Rel ⟨B.R, B.T, O1, H3, fun cls d _ H' => E cls d H', fun _ => none⟩ (lamEnt ps2.length N2.length js env ds) b (startF N2 vs (js.map (slotAt σ))) H3 := by
      refine ⟨?_, fun i d e => ?_, fun i d e => absurd e (lamEnt_noown i d), fun i j d e a z => absurd z (lamEnt_noown i d), bw1, bO1, od1, t1, Ext.refl H3, fun a o e => by cases e⟩
      · unfold lamEnt startF
        simp only [List.length_append, List.length_map, List.length_replicate]
        rw [rl.length, hlv]
      · show ∃ v, (startF N2 vs (js.map (slotAt σ)))[i]? = some (some v) ∧ Rep B.R (vis H3 (ownO O1 (lamEnt ps2.length N2.length js env ds) (startF N2 vs (js.map (slotAt σ))))) d v
        rw [eO]
        unfold lamEnt at e
        unfold startF
        by_cases hi : i < ds.length
        · rw [List.getElem?_append_left (by rw [List.length_map]; exact hi), List.getElem?_map] at e
          cases z : ds[i]? with
          | none =>
            rw [z] at e
            cases e
          | some d' =>
            rw [z] at e
            cases e
            obtain ⟨v, e1, r1⟩ := rl'.get z
            exact ⟨v, by rw [List.getElem?_append_left (by rw [List.length_map, ← rl.length]; exact hi), List.getElem?_map, e1]; rfl, r1⟩
        · rw [List.getElem?_append_right (by rw [List.length_map]; omega), List.length_map] at e
          by_cases hj : i - ds.length < js.length
          · rw [List.getElem?_append_left (by rw [List.length_map]; exact hj), List.getElem?_map] at e
            cases z : js[i - ds.length]? with
            | none =>
              rw [z] at e
              cases e
            | some j =>
              rw [z] at e
              have e : capSlot env j = .val d := Option.some.inj e
              unfold capSlot at e
              split at e
              · rename_i d' hd'
                cases e
                have el : (List.map some vs).length = ds.length := by rw [List.length_map, ← rl.length]
                obtain ⟨v, e1, r1⟩ := J.val j _ hd'
                refine ⟨v, ?_, r1.mono vmore⟩
                rw [List.getElem?_append_right (by rw [el]; omega), el, List.getElem?_append_left (by rw [List.length_map]; exact hj), List.getElem?_map, z]
                exact congrArg some (slotAt_of e1)
              · cases e
          · rw [List.getElem?_append_right (by rw [List.length_map]; omega)] at e
            have := List.eq_of_mem_replicate (List.mem_of_getElem? e)
            cases this
    refine PySem.W.kla_codeExpr (wpAny_mono ((hbody O1 (fun _ => none) A outer s2 H3 E f c' hP3 hr').run [] _ _ H3 Q J3 ⟨_, b, rel, ?_⟩) (fun v s' hq => ?_) fun e s' hq => hq)
    · rw [eO]
      unfold lamM at q
      rw [if_pos hl] at q
      have q2 := resQ_clean (f2 := B.R.fns) q
      rw [← hR] at q2
      cases z : ev (lamEnt ps2.length N2.length js env ds) b with
      | bad =>
        rw [z] at q2
        exact False.elim q2
      | ok w' b' =>
        rw [z] at q2
        exact q2
      | err c fs b' =>
        rw [z] at q2
        exact q2
    · obtain ⟨w', H', J', rv', q'⟩ := hq
      exact ⟨w', H', J'.os, J'.bare, J'.base, J'.hok, rv', q'⟩
end
end DL

set_option Elab.async false
set_option linter.all false
set_option maxRecDepth 100000
set_option maxHeartbeats 4000000
namespace DL
open PySem PySem.Spec PyProof.Rows L2 LamX NdefX
section
variable {B : BP} {X : Cx} {L : List (Addr × Str)} {params : Arguments} {body : Expr} {scope : Scope} {N2 ps2 fr2 : List Str} {js : List Nat} {ev : Ev} {cm : Option CM} {kp kl kc k n : Nat} {x : Str} {e0 : Expr} {es : List Expr} {p pos : Pos} {A : EvA} {mh : CM → Mir}
/-- what a lambda's words tell -/
structure LamW (X : Cx) (params : Arguments) (body : Expr) (scope : Scope) (N2 ps2 fr2 : List Str) (js : List Nat) : Prop where
  sc : NScope N2 ps2 fr2 scope
  fr : ∀ y ∈ fr2, (y, NameKind.free) ∈ scope.names
  js : js.map (fun j => X.N[j]?) = fr2.map some
  bind : ∀ (q : Str) (cl : List (Str × Addr)) (pm cv ctv : Value) (us : List Value), us.length = ps2.length → bindArgs (PySem.W.kla_fn "<lambda>" q params body scope cl pm cv ctv) ⟨us, []⟩ = pure (ps2.zip us)
theorem de_callH (c : HFn X.prog X.w X.K X.mg X.base B.T k x n kc mh) (hfit : ∀ cm ds b, ds.length ≠ n → mh cm ds b = .bad) (hr : Room k X.A) (tk : Takes X B.W) (hg : Gl X x) (E : LamE X L params scope) (Wd : LamW X params body scope N2 ps2 fr2 js) (ha : DL' B X L params body scope (e0 :: es) A) (hT : B.T = nt L) (hkl : kl + 1 ≤ kc)
    (hP : Pro X.prog X.w X.K X.mg X.base B.T kp cm B.R B.O X.s_0.heap X.H_0)
    (hbody : ∀ (O : Addr → Prop) (P' : Hp) (A : Around) (outer : List Env) (s : Shared) (H : Hp) (E : XK) (f c' : Addr), Pro X.prog X.w X.K X.mg X.base B.T kp cm B.R O s.heap H → Room kl (A.deeper (envF (lamF X params scope c') f s.heap.objs.size)) →
      DE ⟨B.R, B.T, O, H, fun cls d _ H' => E cls d H', P'⟩ (ncx (L2.CX X.prog X.w) X.prog X.w X.K X.mg X.base N2 (lamF X params scope c') f A outer s H E) body ev)
    (hK : B.R.K = X.K := by rfl) (hM : B.R.mg = X.mg := by rfl) (hHe : B.He = X.H_0 := by rfl) (hex : X.ex = [] := by rfl)
    (hdb : (x == ("__debug__" : Str)) = false := by decide) (he : starEach (e0 :: es) X.env = (false, eval e0 X.env) :: starEach es X.env := by rfl) (hpl : (backTo pos (starEach es X.env)).any (·.1) = false := by rfl) :
    DE B X (.Call (.Name x p) (e0 :: es) [] pos) (dCallH mh A ps2.length (lamM ev ps2.length N2.length js)) := by
  refine ⟨fun pins s σ H Q I h => ?_⟩
  obtain ⟨fa, hm, hk, run⟩ := c.ex
  obtain ⟨env, b, J, w⟩ := h
  have w : wpG B RepW (ownO B.O env σ) H ((A env b).bind fun ds b1 => if noClos ds = true then mh (ps2.length, lamM ev ps2.length N2.length js env) (ds ++ [.clo 0]) b1 else .bad) σ Q := w
  refine wpAny_Call_Name_kw (ld_glob I hg hm ?_ hdb)
  refine PySem.W.callWith_K (h₀ := X.base) I.ok.mod.kin hk (thn (ha.run pos pins s σ H (fun vs H2 => ∃ ds b1, Rel B env b1 σ H2 ∧ Ext B.R.bo H H2 ∧ RepL B.R (vis H2 (ownO B.O env σ)) ds vs ∧ wpG B RepW (ownO B.O env σ) H (if noClos ds = true then mh (ps2.length, lamM ev ps2.length N2.length js env) (ds ++ [.clo 0]) b1 else .bad) σ Q) I ?_)
    fun us s1 ⟨vs, us0, f, c', H2, H1, eus, rv, q, I1, l⟩ => ⟨I1.kIn, ?_⟩) he hpl
  · refine ⟨env, b, J, ?_⟩
    cases ea : A env b with
    | bad =>
      rw [ea] at w
      exact False.elim w
    | err c fs b1 =>
      rw [ea] at w
      exact wpG_err (ρ1 := rhoL) w (Ext.refl H)
    | ok ds b1 =>
      rw [ea] at w
      exact fun vs H1 e1 e2 e3 e4 => ⟨nt_tabs.mp (hT ▸ e3), ds, b1, J.go e1 e2 e3, e1, e4, w⟩
  · subst eus
    obtain ⟨ds, b1, J2, x1, rl, q⟩ := q
    by_cases hc : noClos ds = true
    · rw [if_pos hc] at q
      have nbo : ∀ a, B.R.bo = some a → ∃ o, H2 a = some o ∧ ∀ ps, o ≠ .tbl ps := fun a z => by
        have bw := J2.bow
        rw [z] at bw
        cases b1 with
        | none => exact False.elim bw
        | some l' => exact ⟨_, bw, fun _ z => by cases z⟩
      have x2 : Ext B.R.bo H2 H1 := ⟨fun a o e _ n => l.keep a o e n, l.dom⟩
      have bw1 : BwOk B.R.bo b1 H1 := by
        have bw := J2.bow
        cases hbo : B.R.bo with
        | none =>
          rw [hbo] at bw
          cases b1 <;> exact bw
        | some a =>
          rw [hbo] at bw
          cases b1 with
          | none => exact bw
          | some l' => exact l.keep a _ bw fun _ z => by cases z
      have J1 : Rel B env b1 σ H1 := J2.go x2 bw1 (by rw [hT]; exact nt_tabs.mpr l.tabs)
      have un : Un X.fs [] X.H_0 H1 X.s_0.heap s1.heap := by
        have := I1.base
        rw [hex] at this
        exact this
      have hP1 : Pro X.prog X.w X.K X.mg X.base B.T kp cm B.R (ownO B.O env σ) s1.heap H1 := fun n m hcm g hg => (hP n m hcm g hg).later un (hHe ▸ J1.ext) fun a o e h => J1.vo a o (by rw [hHe]; exact e) h
      have clo := clo_made I1 l J1 hT hK hM Wd.sc E.free Wd.fr Wd.js Wd.bind hkl hP1 hbody
      have hR : B.R = ⟨X.K, X.mg, B.R.fns, B.R.bo⟩ := by rw [← hK, ← hM]
      have rl1 : RepL B.R (vis H1 (ownO B.O env σ)) ds vs := rl.mono (vis_ext x2 fun a z => J2.bOO z)
      have hx := L2.passAt tk σ
      have hn : ds.length + 1 = n := by
        by_cases z : (ds ++ [D.clo 0]).length = n
        · rw [List.length_append] at z
          exact z
        · rw [hfit _ _ _ z] at q
          exact False.elim q
      show wpAny _ _ (call (.ref fa) (us0 ++ [.ref f])) _ _ _
      refine wpAny_call (codeAny_mono (run X.A X.stack s1 H1 (us0 ++ [.ref f]) (vs ++ [.ref f]) Q (WE B.W σ) hr I1.env0 I1.kIn (rv.append (.cons (show RelV (V.ref f) (Value.ref f) from rfl) .nil)) ⟨B.R.bo, ownO B.O env σ, ds, b1, f, vs, _, _, rfl, hn, ?_, bw1, (fun a z => J1.bOO z), (fun a z => J1.od z), J1.tab, clo, ?_⟩) fun r s' hq => ?_)
      · rw [hR] at rl1
        exact RepL.fns hc rl1
      · cases z : mh (ps2.length, lamM ev ps2.length N2.length js env) (ds ++ [.clo 0]) b1 with
        | bad =>
          rw [z] at q
          exact q
        | ok w' b2 =>
          rw [z] at q
          intro v H' e1 e2 e3 e4
          refine q v H' ((x1.trans x2).trans e1) e2 e3 (RepW.back ?_ (x1.trans x2).dom)
          rw [hR]
          cases w' with
          | val d => exact Rep.up0 e4
          | own d =>
            obtain ⟨a, z1, z2, z3, z4⟩ := e4
            refine ⟨a, z1, z2, z3, ?_⟩
            cases d with
            | lst l =>
              obtain ⟨us, q1, q2, q3⟩ := z4
              exact ⟨us, q1, RepL.up0 q2, q3⟩
            | dct ks dd =>
              obtain ⟨us, q1, q2⟩ := z4
              exact ⟨us, RepL.up0 q1, q2⟩
            | _ => exact z4.elim
        | err c fs b2 =>
          rw [z] at q
          intro cls d H' e1 e2 e3 e4
          refine q cls d H' ((x1.trans x2).trans e1) e2 e3 ?_
          rw [hR]
          obtain ⟨C, h1, h2, h3⟩ := e4
          refine ⟨C, h1, h2, ?_⟩
          cases fs with
          | nil => exact h3
          | cons f0 r0 =>
            obtain ⟨dd, us, ns, z1, z2, z3, z4⟩ := h3
            exact ⟨dd, us, ns, z1, z2, z3, RepL.up0 z4⟩
      · cases r with
        | error e => exact hx pins H1 s1 e s' I1 hq
        | ok fl =>
          cases fl with
          | ret u => exact I1.after hq
          | next => exact False.elim hq
          | brk => exact False.elim hq
          | cont => exact False.elim hq
    · rw [if_neg hc] at q
      exact False.elim q
/-! ### a name that holds a function, called with nothing -/
theorem de_callV0 (i : Nat) (hP : Pro X.prog X.w X.K X.mg X.base B.T kc cm B.R B.O X.s_0.heap X.H_0) (hr : Room k X.A) (hk : kc ≤ k) (tk : Takes X B.W) (hK : B.R.K = X.K := by rfl) (hM : B.R.mg = X.mg := by rfl) (hHe : B.He = X.H_0 := by rfl) (hex : X.ex = [] := by rfl)
    (hN : X.N[i]? = some x := by rfl) (hv : Vis X.env.scope x := by first | exact Or.inl rfl | exact Or.inr (Or.inl rfl) | exact Or.inr (Or.inr rfl)) (hd : (x == ("__debug__" : Str)) = false := by decide)
    (hcd : (x == ("__classdict__" : Str)) = false := by decide) :
    DE B X (.Call (.Name x p) [] [] pos) (dCallV i (fun _ => none) cm dNil) := by
  refine ⟨fun pins s σ H Q I h => ?_⟩
  obtain ⟨env, b, J, w⟩ := h
  unfold dCallV at w
  cases ei : env[i]? with
  | none =>
    rw [ei] at w
    exact False.elim w
  | some sl =>
    rw [ei] at w
    cases sl with
    | un => exact False.elim w
    | own d => exact False.elim w
    | val d =>
      obtain ⟨v, hs, rv⟩ := J.val i d ei
      cases d with
      | clo j =>
        cases j with
        | succ j => exact False.elim w
        | zero =>
          obtain ⟨f, rfl, hfn⟩ := rv
          have w : wpG B RepW (ownO B.O env σ) H (vClo cm dNil env b) σ Q := w
          cases ec : cm with
          | none =>
            rw [ec] at w
            exact False.elim w
          | some nm =>
            obtain ⟨n, m⟩ := nm
            rw [ec] at w
            have w : wpG B RepW (ownO B.O env σ) H (if (decide (([] : List DL.D).length = n) && noClos []) = true then m [] b else .bad) σ Q := w
            have c := hP n m ec f hfn
            obtain ⟨S, hS, sf, hfo, _⟩ := id c.ex
            refine wpAny_Call_Name_kw (thn ((pe_var (pos := p) hN hv hd hcd).run pins s σ H (fun v H1 => v = .ref f ∧ H1 = H) I ⟨.ref f, hs, rfl, rfl⟩) fun u s1 ⟨v, H1, I1, r1, q1⟩ => ?_)
            obtain ⟨ev, eH⟩ := q1
            subst ev
            rw [eH] at I1
            obtain rfl : u = Value.ref f := r1
            have fnAt : PySem.W.FnAt f s1.heap := by
              obtain ⟨o, fd, ho, hdd⟩ := hfo
              have un : Un X.fs [] X.H_0 H X.s_0.heap s1.heap := by
                have := I1.base
                rw [hex] at this
                exact this
              obtain ⟨sl, z⟩ := un.any ho (hS f sf).1 (by simp)
              obtain ⟨oc, od, odt, osl⟩ := o
              have hdd : odt = .func fd := hdd
              subst hdd
              exact ⟨_, _, _, _, z⟩
            refine PySem.W.callWith_F0 fnAt ?_
            show wpAny _ _ (call (.ref f) []) _ _ _
            by_cases hc : (decide (([] : List DL.D).length = n) && noClos []) = true
            · rw [if_pos hc] at w
              rw [Bool.and_eq_true] at hc
              exact run_clo c hr hk tk hK hM hHe hex I1 J .nil (of_decide_eq_true hc.1) hc.2 RepL.nil (Ext.refl H) w
            · rw [if_neg hc] at w
              exact False.elim w
      | glo g => exact False.elim w
      | _ => exact False.elim w
end
end DL

set_option Elab.async false
set_option linter.all false
set_option maxRecDepth 100000
set_option maxHeartbeats 4000000
/-! chained comparisons, calls by name, a bowl of the body's own -/
namespace DL
open PySem PySem.Spec PyProof.Rows L2
section
variable {B : BP} {X : Cx} {a c e : Expr} {ea eb ec : Ev} {pos p : Pos}
/-! ### a < b < c -/
def dChain (f f' : D → D → Option Wv) (ea eb ec : Ev) : Ev := fun env b => (ea env b).bind fun a1 b1 => (eb env b1).bind fun a2 b2 => match f a1.d a2.d with
  | some (.val (.bl k)) => if k = true then (ec env b2).bind fun a3 b3 => optR (f' a2.d a3.d) b3 else .ok (.val (.bl false)) b2
  | _ => .bad
theorem rd_chain {f f' : D → D → Option Wv} {r r' : R2} (hk : H2ok B.R f r) (hk' : H2ok B.R f' r') {σ : L2.St} {H : Hp} {Q : VK} (h : rdE B (dChain f f' ea eb ec) σ H Q) : tChain r r' (rdE B ea) (rdE B eb) (rdE B ec) σ H Q := by
  refine rd_bind2 (k := fun (a1 a2 : Wv) env b2 => match f a1.d a2.d with | some (.val (.bl k)) => if k = true then (ec env b2).bind fun a3 b3 => optR (f' a2.d a3.d) b3 else .ok (.val (.bl false)) b2 | _ => .bad) staysW staysW h fun env a1 a2 b2 x y H2 I2 x2 r1 r2 w => ?_
  split at w
  · rename_i k e
    refine hk _ _ _ x y H2 _ _ e I2.nod r1.rep r2.rep fun v H3 s3 r3 => ?_
    have ev : v = .bl k := r3
    refine ⟨k, ev, ?_⟩
    have I3 := I2.go (same_ext s3) (bw_same I2.bow s3) (tabs_same I2.tab s3)
    cases k with
    | false =>
      rw [if_neg Bool.false_ne_true]
      exact wpG_ok (x := V.bl false) w (x2.trans (same_ext s3)) I3.bow I3.tab rfl
    | true =>
      have w : wpG B RepW (ownO B.O env σ) H ((ec env b2).bind fun a3 b3 => optR (f' a2.d a3.d) b3) σ Q := w
      refine ⟨env, b2, I3, ?_⟩
      cases z : ec env b2 with
      | bad =>
        rw [z] at w
        exact False.elim w
      | err c fs b3 =>
        rw [z] at w
        exact wpG_err (ρ1 := RepW) w (x2.trans (same_ext s3))
      | ok a3 b3 =>
        rw [z] at w
        intro u H4 e1 e2 e3 e4
        have I4 := I3.go e1 e2 e3
        have w : wpG B RepW (ownO B.O env σ) H (optR (f' a2.d a3.d) b3) σ Q := w
        cases q : f' a2.d a3.d with
        | none =>
          rw [q] at w
          exact False.elim w
        | some v' =>
          rw [q] at w
          have r2' := (RepW.go (RepW.go r2 (same_ext s3) fun a q => I2.bOO q) e1 fun a q => I3.bOO q).rep
          exact hk' _ _ _ y u H4 _ Q q I4.nod r2' e4.rep (nw_of I4 ((x2.trans (same_ext s3)).trans e1) w)
  · exact False.elim w
theorem de_chain {op op' : CmpOp} {f f' : D → D → Option Wv} {r r' : R2} (ho : OpR X (compareOp op) r) (ho' : OpR X (compareOp op') r') (hk : H2ok B.R f r) (hk' : H2ok B.R f' r') (ha : DE B X a ea) (hb : DE B X c eb) (hc : DE B X e ec)
    (hm : lastMarks [op, op'] [c, e] = false := by with_unfolding_all rfl) : DE B X (.Compare a [op, op'] [c, e] pos) (dChain f f' ea eb ec) :=
  imp_PE (pe_chain ho ho' ha hb hc hm) fun σ H Q h => rd_chain hk hk' h
theorem dt_chain {op op' : CmpOp} {f f' : D → D → Option Wv} {r r' : R2} (ho : OpR X (compareOp op) r) (ho' : OpR X (compareOp op') r') (hk : H2ok B.R f r) (hk' : H2ok B.R f' r') (ha : DE B X a ea) (hb : DE B X c eb) (hc : DE B X e ec)
    (hm : lastMarks [op, op'] [c, e] = false := by with_unfolding_all rfl) : DT B X (.Compare a [op, op'] [c, e] pos) (dTst (dChain f f' ea eb ec)) :=
  imp_PT (pt_chain ho ho' ha hb hc hm) fun σ H Q h => rd_chain hk hk' (rd_tst h)
end
/-! ### calls by name -/
def permL {α : Type} (p : List Nat) (l : List α) : List α := p.filterMap (l[·]?)
theorem RepL.perm {R : RC} {H : Hp} {ds : List D} {vs : List V} (h : RepL R H ds vs) : ∀ p : List Nat, RepL R H (permL p ds) (permL p vs)
  | [] => rfl
  | i :: p => by
    have ih := RepL.perm h p
    unfold permL at ih ⊢
    cases e : ds[i]? with
    | none =>
      have e2 : vs[i]? = none := by
        rw [List.getElem?_eq_none_iff] at e ⊢
        rw [← h.length]
        exact e
      rw [List.filterMap_cons_none e, List.filterMap_cons_none e2]
      exact ih
    | some d =>
      obtain ⟨v, e2, r⟩ := h.get e
      rw [List.filterMap_cons_some e, List.filterMap_cons_some e2]
      exact RepL.cons r ih
theorem vals_perm {vs : List V} {us : List Value} (h : Vals vs us) : ∀ p : List Nat, Vals (permL p vs) (permL p us)
  | [] => .nil
  | i :: p => by
    have ih := vals_perm h p
    unfold permL at ih ⊢
    cases e : vs[i]? with
    | none =>
      have e2 : us[i]? = none := by
        rw [List.getElem?_eq_none_iff] at e ⊢
        rw [← h.length]
        exact e
      rw [List.filterMap_cons_none e, List.filterMap_cons_none e2]
      exact ih
    | some v =>
      obtain ⟨u, e2, r⟩ := h.get e
      rw [List.filterMap_cons_some e, List.filterMap_cons_some e2]
      exact .cons r ih
/-- n values by place, the rest by the names ks -/
def KB (K : PySem.W.Frag) (fd : FuncData) (ps : List Str) (n : Nat) (ks : List Str) (p : List Nat) : Prop :=
  ∀ (s : Shared) (us ws : List Value), K.In s.heap → us.length = n → ws.length = ks.length → BindsTo s fd ⟨us, ks.zip ws⟩ (ps.zip (permL p (us ++ ws)))
theorem kb_of {K : PySem.W.Frag} {x qual : Str} {params : Arguments} {body : List Stmt} {scope : Scope} {f : Addr} {fd : FuncData} {ps : List Str} (F : FunD K x qual params body scope [] [] f fd) {n : Nat} {ks : List Str} {p : List Nat}
    (h : ∀ (kV doc pm : Value) (an : Option Addr) (cdv ct : Value) (us ws : List Value), us.length = n → ws.length = ks.length → bindArgs (PySem.W.fnOf x qual params body scope .none kV doc pm an cdv ct) ⟨us, ks.zip ws⟩ = pure (ps.zip (permL p (us ++ ws)))) : KB K fd ps n ks p := by
  obtain ⟨oc, od, dV, kV, doc, pm, an, cdv, ct, osl, rfl, lk, hcd, hD, hK⟩ := F.ex
  rcases hD with ⟨_, rfl⟩ | ⟨e, _⟩
  · exact fun s us ws _ l1 l2 => .of_eq (h kV doc pm an cdv ct us ws l1 l2)
  · exact absurd rfl e
/-- a def of the module, called by name -/
structure CalK (Pg : Program) (w : World) (K : PySem.W.Frag) (mg : Str → Option Value) (base : Heap) (T : List NdefX.NTab) (k : Nat) (x : Str) (nps n : Nat) (ks : List Str) (p : List Nat) (m : Mir) : Prop where
  ex : ∃ (f : Addr) (fd : FuncData) (ps : List Str), ps.length = nps ∧ FnOk Pg w K mg base (L2.CX Pg w) k f fd ps (spD K mg T ps.length m) ∧ mg x = some (.ref f) ∧ PySem.W.keepIn K (.ref f) = true ∧ KB K fd ps n ks p
abbrev DK (B : BP) (X : Cx) (kws : List Keyword) (ev : EvA) : Prop := PK X kws (rdA B ev)
section
variable {B : BP} {X : Cx} {e : Expr} {es : List Expr} {ea : Ev} {A Ak : EvA} {kws : List Keyword} {x : Str} {p pos kpos : Pos} {nm : Option Str} {k n nps : Nat} {ks : List Str} {pm : List Nat} {m : Mir}
theorem dk_nil : DK B X [] dNil := ⟨fun pos pins s σ H Q I h => pk_nil.run pos pins s σ H Q I (by
  obtain ⟨env, b, J, w⟩ := h
  exact wpG_ok (x := ([] : List V)) w (Ext.refl H) J.bow J.tab rfl)⟩
theorem dk_cons (ha : DE B X e ea) (hr : DK B X kws A) : DK B X (⟨nm, e, kpos⟩ :: kws) (dCons ea A) := ⟨fun pos pins s σ H Q I h => (pk_cons ha hr).run pos pins s σ H Q I
  (rd_bind2 (k := fun a1 r _ b2 => .ok (a1.d :: r) b2) staysW staysL h fun env a1 a2 b2 x y H2 I2 x2 r1 r2 w => wpG_ok (x := x :: y) w x2 I2.bow I2.tab (RepL.cons r1.rep r2))⟩
def dCallK (m : Mir) (n nk : Nat) (pm : List Nat) (A Ak : EvA) : Ev := fun env b => (A env b).bind fun ds b1 => (Ak env b1).bind fun es b2 => if ds.length = n ∧ es.length = nk then m (permL pm (ds ++ es)) b2 else .bad
theorem run_fnK {pins : List (Addr × Obj)} {σ : L2.St} {H : Hp} {s : Shared} {Q : VK} {us ws : List Value} {vs zs : List V} {f : Addr} {fd : FuncData} {ps : List Str} {sp : Sp} {E : XK} (F : FnOk X.prog X.w X.K X.mg X.base (L2.CX X.prog X.w) k f fd ps sp) (hr : Room k X.A) (hb : KB X.K fd ps n ks pm)
    (hx : PassesAt (L2.CX X.prog X.w) X σ E) (I : Inv X pins σ H s) (r : Vals vs us) (rz : Vals zs ws) (l1 : vs.length = n) (l2 : zs.length = ks.length) (h : sp (permL pm (vs ++ zs)) H Q E) : wpAny (model X.prog X.w) X.A (call (.ref f) us (ks.zip ws)) (EP X pins σ Q) X.xe s := by
  refine wpAny_call (codeAny_mono (F.run X.A X.stack s H ⟨us, ks.zip ws⟩ (permL pm (us ++ ws)) (permL pm (vs ++ zs)) Q E hr I.env0 (hb s us ws I.kIn (r.length.symm.trans l1) (rz.length.symm.trans l2)) (vals_perm (r.append rz) pm) h) fun r s' hq => ?_)
  cases r with
  | error e => exact hx pins H s e s' I hq
  | ok fl =>
    cases fl with
    | ret u => exact I.after hq
    | next => exact False.elim hq
    | brk => exact False.elim hq
    | cont => exact False.elim hq
theorem callK_sp {σ : L2.St} {H0 H : Hp} {Q : VK} {env : Sls} {b : Bw} {ds es : List D} {vs zs : List V} (hf : Fits nps m) (I : Rel B env b σ H) (x1 : Ext B.R.bo H0 H) (r1 : RepL B.R (vis H (ownO B.O env σ)) ds vs) (r2 : RepL B.R (vis H (ownO B.O env σ)) es zs) {nk : Nat}
    (w : wpG B RepW (ownO B.O env σ) H0 (if ds.length = n ∧ es.length = nk then m (permL pm (ds ++ es)) b else .bad) σ Q) : vs.length = n ∧ zs.length = nk ∧ spD B.R.K B.R.mg B.T nps m (permL pm (vs ++ zs)) H Q (WE B.W σ) := by
  by_cases hc : ds.length = n ∧ es.length = nk
  · rw [if_pos hc] at w
    refine ⟨by rw [← r1.length]; exact hc.1, by rw [← r2.length]; exact hc.2, sp_of ?_ I x1 ((r1.append r2).perm pm) w⟩
    by_cases q : (permL pm (ds ++ es)).length = nps
    · exact .inl q
    · exact .inr (hf _ b q)
  · rw [if_neg hc] at w
    exact False.elim w
/-- f(k = v, ..) -/
theorem de_callK0 (c : CalK X.prog X.w X.K X.mg X.base B.T k x nps 0 ks pm m) (hf : Fits nps m) (hr : Room k X.A) (tk : Takes X B.W) (hg : Gl X x) (hkw : DK B X kws Ak) (hK : B.R.K = X.K := by rfl) (hM : B.R.mg = X.mg := by rfl)
    (hall : (backToKw pos (keywordEach kws X.env)).all (·.1.isSome) = true := by rfl) (hks : (backToKw pos (keywordEach kws X.env)).filterMap (·.1) = ks := by rfl) (hdb : (x == ("__debug__" : Str)) = false := by decide)
    (hpl : ((backTo pos (starEach [] X.env)).any (·.1) || (backToKw pos (keywordEach kws X.env)).any (·.1.isNone)) = false := by rfl) :
    DE B X (.Call (.Name x p) [] kws pos) (dCallK m 0 ks.length pm dNil Ak) := by
  refine ⟨fun pins s σ H Q I h => ?_⟩
  obtain ⟨f, fd, ps, hn, F, hm, hk, hb⟩ := c.ex
  obtain ⟨env, b, J, w⟩ := h
  refine wpAny_Call_Name_kw (ld_glob I hg hm ?_ hdb)
  refine PySem.W.callWith_KW0 (h₀ := X.base) I.ok.mod.kin hk hall ?_ hpl
  have w : wpG B RepW (ownO B.O env σ) H ((Ak env b).bind fun es b2 => if ([] : List D).length = 0 ∧ es.length = ks.length then m (permL pm ([] ++ es)) b2 else .bad) σ Q := w
  refine thn (hkw.run pos pins s σ H (fun zs H2 => zs.length = ks.length ∧ spD X.K X.mg B.T nps m (permL pm ([] ++ zs)) H2 Q (WE B.W σ)) I ?_) fun ws s2 ⟨zs, H2, I2, rz, l2, q2⟩ => ⟨I2.kIn, ?_⟩
  · refine ⟨env, b, J, ?_⟩
    cases z : Ak env b with
    | bad =>
      rw [z] at w
      exact False.elim w
    | err c fs b2 =>
      rw [z] at w
      exact wpG_err (ρ1 := rhoL) w (Ext.refl H)
    | ok es b2 =>
      rw [z] at w
      intro zs H2 e1 e2 e3 e4
      have J2 := J.go e1 e2 e3
      have := callK_sp (vs := []) hf J2 e1 RepL.nil e4 w
      rw [hK, hM] at this
      exact this.2
  · rw [hks]
    exact run_fnK (us := []) (vs := []) F hr hb (L2.passAt tk σ) I2 .nil rz rfl l2 (by rw [hn]; exact q2)
/-- f(e, .., k = v, ..) -/
theorem de_callK (c : CalK X.prog X.w X.K X.mg X.base B.T k x nps n ks pm m) (hf : Fits nps m) (hr : Room k X.A) (tk : Takes X B.W) (hg : Gl X x) (ha : DA B X (e :: es) A) (hkw : DK B X kws Ak) (hK : B.R.K = X.K := by rfl) (hM : B.R.mg = X.mg := by rfl)
    (hall : (backToKw pos (keywordEach kws X.env)).all (·.1.isSome) = true := by rfl) (hks : (backToKw pos (keywordEach kws X.env)).filterMap (·.1) = ks := by rfl) (hdb : (x == ("__debug__" : Str)) = false := by decide) (he : starEach (e :: es) X.env = (false, eval e X.env) :: starEach es X.env := by rfl)
    (hpl : ((backTo pos (starEach (e :: es) X.env)).any (·.1) || (backToKw pos (keywordEach kws X.env)).any (·.1.isNone)) = false := by rfl) :
    DE B X (.Call (.Name x p) (e :: es) kws pos) (dCallK m n ks.length pm A Ak) := by
  refine ⟨fun pins s σ H Q I h => ?_⟩
  obtain ⟨f, fd, ps, hn, F, hm, hk, hb⟩ := c.ex
  refine wpAny_Call_Name_kw (ld_glob I hg hm ?_ hdb)
  have z : rdA B A σ H fun vs H1 => rdA B Ak σ H1 fun zs H2 => vs.length = n ∧ zs.length = ks.length ∧ spD B.R.K B.R.mg B.T nps m (permL pm (vs ++ zs)) H2 Q (WE B.W σ) :=
    rd_bind2 (k := fun (ds es : List D) _ b2 => if ds.length = n ∧ es.length = ks.length then m (permL pm (ds ++ es)) b2 else .bad) staysL staysL h fun env ds es b2 vs zs H2 I2 x2 r1 r2 w => callK_sp hf I2 x2 r1 r2 w
  rw [hK, hM] at z
  refine PySem.W.callWith_KW (h₀ := X.base) I.ok.mod.kin hk hall (thn (ha.run pos pins s σ H _ I z) fun us s1 ⟨vs, H1, I1, r, q⟩ => ?_) hpl he
  refine thn (hkw.run pos pins s1 σ H1 _ I1 q) fun ws s2 ⟨zs, H2, I2, rz, l1, l2, q2⟩ => ⟨I2.kIn, ?_⟩
  rw [hks]
  exact run_fnK F hr hb (L2.passAt tk σ) I2 r rz l1 l2 (by rw [hn]; exact q2)
end
end DL
namespace DL
open PySem PySem.Spec PyProof.Rows L2
theorem CalK.mono {Pg : Program} {w : World} {K : PySem.W.Frag} {mg : Str → Option Value} {base : Heap} {T : List NdefX.NTab} {j k nps n : Nat} {x : Str} {ks : List Str} {p : List Nat} {m : Mir} (c : CalK Pg w K mg base T j x nps n ks p m) (h : j ≤ k) : CalK Pg w K mg base T k x nps n ks p m := by
  obtain ⟨f, fd, ps, hn, F, r⟩ := c.ex
  exact ⟨f, fd, ps, hn, F.mono h, r⟩
end DL

set_option Elab.async false
set_option linter.all false
set_option maxRecDepth 100000
set_option maxHeartbeats 4000000
/-! a new list of ints as the bowl -/
namespace DL
open PySem PySem.Spec PyProof.Rows L2
mutual
def noBow : D → Bool
  | .bowl => false
  | .tup l => noBows l
  | .lst l => noBows l
  | .dct _ vs => noBows vs
  | .obj _ fs => noBows fs
  | _ => true
def noBows : List D → Bool
  | [] => true
  | d :: ds => noBow d && noBows ds
end
section
variable {K : PySem.W.Frag} {mg : Str → Option Value} {fns : List Addr} {b1 b2 : Option Addr} {H : Hp}
mutual
theorem Rep.bw : ∀ {d : D} {v : V}, noBow d = true → Rep ⟨K, mg, fns, b1⟩ H d v → Rep ⟨K, mg, fns, b2⟩ H d v
  | .non, _, _, h => h
  | .bl _, _, _, h => h
  | .int _, _, _, h => h
  | .str _, _, _, h => h
  | .glo _, _, _, h => h
  | .ty _, _, _, h => h
  | .clo _, _, _, h => h
  | .bowl, _, e, _ => by simp [noBow] at e
  | .tup l, v, e, h => by
    obtain ⟨a, vs, e1, h1, h2, h3⟩ := h
    exact ⟨a, vs, e1, h1, RepL.bw (by simpa [noBow] using e) h2, h3⟩
  | .lst l, v, e, h => by
    obtain ⟨a, vs, e1, h1, h2, h3⟩ := h
    exact ⟨a, vs, e1, h1, RepL.bw (by simpa [noBow] using e) h2, h3⟩
  | .dct ks ds, v, e, h => by
    obtain ⟨a, vs, e1, h1, h2, h3⟩ := h
    exact ⟨a, vs, e1, RepL.bw (by simpa [noBow] using e) h1, h2, h3⟩
  | .obj c fs, v, e, h => by
    obtain ⟨a, C, dx, vs, e1, h1, h2, h3, h4⟩ := h
    exact ⟨a, C, dx, vs, e1, h1, h2, RepL.bw (by simpa [noBow] using e) h3, h4⟩
theorem RepL.bw : ∀ {ds : List D} {vs : List V}, noBows ds = true → RepL ⟨K, mg, fns, b1⟩ H ds vs → RepL ⟨K, mg, fns, b2⟩ H ds vs
  | [], _, _, h => h
  | d :: ds, vs, e, h => by
    obtain ⟨v, r, e1, h1, h2⟩ := h
    simp only [noBows, Bool.and_eq_true] at e
    exact ⟨v, r, e1, Rep.bw e.1 h1, RepL.bw e.2 h2⟩
end
mutual
theorem Rep.bw0 : ∀ {d : D} {v : V}, Rep ⟨K, mg, fns, none⟩ H d v → Rep ⟨K, mg, fns, b2⟩ H d v
  | .non, _, h => h
  | .bl _, _, h => h
  | .int _, _, h => h
  | .str _, _, h => h
  | .glo _, _, h => h
  | .ty _, _, h => h
  | .clo _, _, h => h
  | .bowl, _, h => by
    obtain ⟨a, _, z⟩ := h
    cases z
  | .tup l, v, h => by
    obtain ⟨a, vs, e1, h1, h2, h3⟩ := h
    exact ⟨a, vs, e1, h1, RepL.bw0 h2, h3⟩
  | .lst l, v, h => by
    obtain ⟨a, vs, e1, h1, h2, h3⟩ := h
    exact ⟨a, vs, e1, h1, RepL.bw0 h2, h3⟩
  | .dct ks ds, v, h => by
    obtain ⟨a, vs, e1, h1, h2, h3⟩ := h
    exact ⟨a, vs, e1, RepL.bw0 h1, h2, h3⟩
  | .obj c fs, v, h => by
    obtain ⟨a, C, dx, vs, e1, h1, h2, h3, h4⟩ := h
    exact ⟨a, C, dx, vs, e1, h1, h2, RepL.bw0 h3, h4⟩
theorem RepL.bw0 : ∀ {ds : List D} {vs : List V}, RepL ⟨K, mg, fns, none⟩ H ds vs → RepL ⟨K, mg, fns, b2⟩ H ds vs
  | [], _, h => h
  | d :: ds, vs, h => by
    obtain ⟨v, r, e1, h1, h2⟩ := h
    exact ⟨v, r, e1, Rep.bw0 h1, RepL.bw0 h2⟩
end
theorem RepTop.bw {Hv : Hp} {d : D} {a : Addr} (e : noBow d = true) (h : RepTop ⟨K, mg, fns, b1⟩ H Hv d a) : RepTop ⟨K, mg, fns, b2⟩ H Hv d a := by
  cases d with
  | lst l =>
    obtain ⟨vs, h1, h2, h3⟩ := h
    exact ⟨vs, h1, RepL.bw (by simpa [noBow] using e) h2, h3⟩
  | dct ks ds =>
    obtain ⟨vs, h1, h2⟩ := h
    exact ⟨vs, RepL.bw (by simpa [noBow] using e) h1, h2⟩
  | _ => exact h.elim
theorem RepTop.bw0 {Hv : Hp} {d : D} {a : Addr} (h : RepTop ⟨K, mg, fns, none⟩ H Hv d a) : RepTop ⟨K, mg, fns, b2⟩ H Hv d a := by
  cases d with
  | lst l =>
    obtain ⟨vs, h1, h2, h3⟩ := h
    exact ⟨vs, h1, RepL.bw0 h2, h3⟩
  | dct ks ds =>
    obtain ⟨vs, h1, h2⟩ := h
    exact ⟨vs, RepL.bw0 h1, h2⟩
  | _ => exact h.elim
theorem RepW.bw {O : Addr → Prop} {H0 : Hp} {w : Wv} {v : V} (e : noBow w.d = true) (h : RepW ⟨K, mg, fns, b1⟩ O H0 H w v) : RepW ⟨K, mg, fns, b2⟩ O H0 H w v := by
  cases w with
  | val d => exact Rep.bw e h
  | own d =>
    obtain ⟨a, e1, h0, h1, h2⟩ := h
    exact ⟨a, e1, h0, h1, RepTop.bw e h2⟩
theorem RepX.bw {c : Str} {fs : List D} {cls : Value} {d : Option Addr} (e : noBows fs = true) (h : RepX ⟨K, mg, fns, b1⟩ H c fs cls d) : RepX ⟨K, mg, fns, b2⟩ H c fs cls d := by
  obtain ⟨C, h1, h2, h3⟩ := h
  refine ⟨C, h1, h2, ?_⟩
  cases fs with
  | nil => exact h3
  | cons f r =>
    obtain ⟨dd, vs, ns, e1, e2, e3, e4⟩ := h3
    exact ⟨dd, vs, ns, e1, e2, e3, RepL.bw e e4⟩
end
/-- all but the bowl: what a part with a bowl of its own leaves -/
theorem ext_bow {a : Addr} {H0 H H' : Hp} (x0 : Ext none H0 H) (x : Ext (some a) H H') (n : H0 a = none) : Ext none H0 H' := ⟨fun c o e _ m => by
    have ne : c ≠ a := fun z => by
      rw [z, n] at e
      cases e
    exact x.keep c o (x0.keep c o e (fun z => by cases z) m) (fun z => ne (by cases z; rfl)) m, fun c z => x0.dom c (x.dom c z)⟩
theorem RepW.less {R : RC} {O O' : Addr → Prop} {H0 H1 H : Hp} {w : Wv} {v : V} (hO : ∀ a, O' a → O a) (d : ∀ a, H1 a = none → H0 a = none) (h : RepW R O H1 H w v) : RepW R O' H0 H w v := by
  cases w with
  | val d => exact Rep.mono (vis_sub hO) h
  | own d' =>
    obtain ⟨a, e, h0, h1, h2⟩ := h
    exact ⟨a, e, d a h0, fun z => h1 (hO a z), h2.hv (vis_sub fun c q => q.elim (fun z => .inl (hO c z)) .inr)⟩
section
variable {B : BP} {X : Cx} {e : Expr} {ea : Ev} {x : Str} {p pos : Pos} {k : Nat} {m : Mir} {ps : List Str}
/-- f(e), e a new list of ints, f's bowl -/
def bowR (r : Res Wv) (b1 : Bw) : Res Wv := match r with
  | .ok w _ => if noBow w.d then .ok w b1 else .bad
  | .err c fs _ => if noBows fs then .err c fs b1 else .bad
  | .bad => .bad
def bowC (m : Mir) (w : Wv) (b1 : Bw) : Res Wv := match w, b1 with
  | .own (.lst ds), none => match asInts ds with
    | some l => bowR (m [.bowl] (some l)) none
    | none => .bad
  | _, _ => .bad
def dCallB (m : Mir) (ea : Ev) : Ev := fun env b => (ea env b).bind fun w b1 => bowC m w b1
theorem de_callBw (c : Cal X.prog X.w X.K X.mg X.base B.T k x ps m) (hl : ps.length = 1) (hr : Room k X.A) (tk : Takes X B.W) (hg : Gl X x) (ha : DE B X e ea) (hb : B.R.bo = none) (hK : B.R.K = X.K := by rfl) (hM : B.R.mg = X.mg := by rfl)
    (hdb : (x == ("__debug__" : Str)) = false := by decide) (he : starEach [e] X.env = (false, eval e X.env) :: starEach [] X.env := by rfl) (hpl : (backTo pos (starEach [] X.env)).any (·.1) = false := by rfl) :
    DE B X (.Call (.Name x p) [e] [] pos) (dCallB m ea) := by
  obtain ⟨f, fd, F, hm, hk, hbi⟩ := c.ex
  refine imp_PE (pe_callSD F hr hg hm hk hbi .nil (fun σ => passAt tk σ) (pa_cons ha pa_nil he) hdb he hpl) fun σ H Q h => ?_
  show rdE B ea σ H fun y H1 => spD X.K X.mg B.T ps.length m ([y] ++ []) H1 Q (WE B.W σ)
  refine rd_bind (ρ := RepW) (k := fun (w : Wv) _ b1 => bowC m w b1) h fun env w1 b1 y H1 I1 x1 r1 w => ?_
  unfold bowC at w
  split at w
  · rename_i ds
    split at w
    · rename_i l hl2
      obtain ⟨a, rfl, h0, hO, vs, g1, g2, g3⟩ := r1
      obtain ⟨rfl, _⟩ := asInts_rep hl2 g2
      have hR : B.R = ⟨X.K, X.mg, B.R.fns, none⟩ := by rw [← hK, ← hM, ← hb]
      refine ⟨B.R.fns, some a, plus (ownO B.O env σ) a, [.bowl], some l, hl.symm, RepL.cons ⟨a, rfl, rfl⟩ RepL.nil, g1, fun c z => .inr (by cases z; rfl), fun c z => z.elim (fun z => I1.od z) (fun z => ⟨_, z ▸ g1⟩), I1.tab, ?_⟩
      have fin : ∀ {H' : Hp}, Ext (some a) H1 H' → Ext B.R.bo H H' := fun {H'} e1 => by
        rw [hb]
        exact ext_bow (by rw [← hb]; exact x1) e1 h0
      cases z : m [.bowl] (some l) with
      | bad =>
        rw [z] at w
        exact w
      | ok w' b' =>
        rw [z] at w
        unfold bowR at w
        by_cases nb : noBow w'.d = true
        · simp only [nb, if_true] at w
          intro v H' e1 e2 e3 e4
          refine w v H' (fin e1) (by rw [hb]; trivial) e3 ?_
          rw [hR]
          exact RepW.less (fun c z => .inl z) (fun c z => x1.dom c z) (RepW.bw nb e4)
        · simp only [nb] at w
          exact False.elim w
      | err c fs b' =>
        rw [z] at w
        unfold bowR at w
        by_cases nb : noBows fs = true
        · simp only [nb, if_true] at w
          intro cls d H' e1 e2 e3 e4
          refine w cls d H' (fin e1) (by rw [hb]; trivial) e3 ?_
          rw [hR]
          exact RepX.bw nb (e4.mono (vis_sub fun c z => .inl z))
        · simp only [nb] at w
          exact False.elim w
    · exact False.elim w
  · exact False.elim w
/-! ### a name's own list as the bowl of a statement -/
abbrev BP.bw (B : BP) (a : Addr) : BP := { B with R := { B.R with bo := some a }, O := plus B.O a }
def slotNB : Slot → Bool
  | .val d => noBow d
  | .own d => noBow d
  | .un => true
def poolE (i : Nat) (r : RS) : RS := match r with
  | .nx env' (some _) => if (env'.set i .un).all slotNB then .nx (env'.set i .un) none else .bad
  | .rt w _ => if noBow w.d then .rt w none else .bad
  | .err c fs _ => if noBows fs then .err c fs none else .bad
  | _ => .bad
def dPool (i : Nat) (d : Sv) : Sv := fun env b => match b, env[i]? with
  | none, some (.own (.lst ds)) => match asInts ds with
    | some l => poolE i (d (env.set i (.val .bowl)) (some l))
    | none => .bad
  | _, _ => .bad
variable {st : Stmt} {d : Sv} {env : Sls} {σ : L2.St} {H : Hp}
theorem pool_in {i : Nat} {ds : List D} {l : List Int} {a : Addr} (hb : B.R.bo = none) (I : Rel B env none σ H) (e : env[i]? = some (.own (.lst ds))) (hl : asInts ds = some l) (s : σ[i]? = some (some (.ref a))) : Rel (B.bw a) (env.set i (.val .bowl)) (some l) σ H ∧ B.He a = none := by
  obtain ⟨a', s', na, he, vs, g1, g2, g3⟩ := I.own i _ e
  rw [s] at s'
  cases s'
  obtain ⟨rfl, _⟩ := asInts_rep hl g2
  have hi := (List.getElem?_eq_some_iff.mp e).1
  have hR : B.R = ⟨B.R.K, B.R.mg, B.R.fns, none⟩ := by rw [← hb]
  have less : ∀ c, ownO (plus B.O a) (env.set i (.val .bowl)) σ c → ownO B.O env σ c := fun c h => by
    rcases h with (h | h) | ⟨j, x, h1, h2⟩
    · exact .inl h
    · exact .inr ⟨i, _, e, h ▸ s⟩
    · by_cases q : i = j
      · subst q
        rw [List.getElem?_set_self hi] at h1
        cases h1
      · rw [List.getElem?_set_ne q] at h1
        exact .inr ⟨j, x, h1, h2⟩
  have sub : Sub (vis H (ownO B.O env σ)) (vis H (ownO (plus B.O a) (env.set i (.val .bowl)) σ)) := vis_sub less
  refine ⟨⟨by simpa using I.len, fun j x z => ?_, fun j x z => ?_, fun j k x y c h1 h2 h3 h4 => ?_, g1, fun c z => .inr (by cases z; rfl), fun c z => z.elim (fun z => I.odom c z) (fun z => ⟨_, z ▸ g1⟩), I.tab, ?_, I.pin.trans sub⟩, he⟩
  · by_cases q : i = j
    · subst q
      have z : (env.set i (.val .bowl))[i]? = some (.val x) := z
      rw [List.getElem?_set_self hi] at z
      cases z
      exact ⟨.ref a, s, a, rfl, rfl⟩
    · have z : (env.set i (.val .bowl))[j]? = some (.val x) := z
      rw [List.getElem?_set_ne q] at z
      obtain ⟨v, h1, h2⟩ := I.val j x z
      rw [hR] at h2
      exact ⟨v, h1, Rep.mono sub (Rep.bw0 h2)⟩
  · by_cases q : i = j
    · subst q
      have z : (env.set i (.val .bowl))[i]? = some (.own x) := z
      rw [List.getElem?_set_self hi] at z
      cases z
    · have z : (env.set i (.val .bowl))[j]? = some (.own x) := z
      rw [List.getElem?_set_ne q] at z
      obtain ⟨c, h1, h2, h3, h4⟩ := I.own j x z
      have ne : c ≠ a := fun w => q (I.sep i j _ x a e z s (w ▸ h1))
      rw [hR] at h4
      exact ⟨c, h1, fun z => z.elim h2 ne, h3, RepTop.hv sub (RepTop.bw0 h4)⟩
  · have h1 : (env.set i (.val .bowl))[j]? = some (.own x) := h1
    have h2 : (env.set i (.val .bowl))[k]? = some (.own y) := h2
    have back : ∀ (j : Nat) (x : D), (env.set i (.val .bowl))[j]? = some (.own x) → env[j]? = some (.own x) := fun j x z => by
      by_cases q : i = j
      · subst q
        rw [List.getElem?_set_self hi] at z
        cases z
      · rwa [List.getElem?_set_ne q] at z
    exact I.sep j k x y c (back j x h1) (back k y h2) h3 h4
  · have := I.ext
    rw [hb] at this
    exact ⟨fun c o e _ m => this.keep c o e (fun z => by cases z) m, this.dom⟩
theorem pool_out {i : Nat} {a : Addr} {b' : Bw} (hb : B.R.bo = none) (he : B.He a = none) (I : Rel (B.bw a) env b' σ H) (hc : (env.set i .un).all slotNB = true) : Rel B (env.set i .un) none σ H := by
  have hR : B.R = ⟨B.R.K, B.R.mg, B.R.fns, none⟩ := by rw [← hb]
  have back : ∀ (j : Nat) (s : Slot), s ≠ .un → (env.set i .un)[j]? = some s → env[j]? = some s := fun j s n z => by
    by_cases q : i = j
    · subst q
      by_cases hi : i < env.length
      · rw [List.getElem?_set_self hi] at z
        cases z
        exact absurd rfl n
      · rw [List.getElem?_eq_none (by simpa using hi)] at z
        cases z
    · rwa [List.getElem?_set_ne q] at z
  have nb : ∀ (j : Nat) (s : Slot), (env.set i .un)[j]? = some s → slotNB s = true := fun j s z => List.all_eq_true.mp hc s (List.mem_of_getElem? z)
  have less : ∀ c, ownO B.O (env.set i .un) σ c → ownO (plus B.O a) env σ c := fun c h => by
    rcases h with h | ⟨j, x, h1, h2⟩
    · exact .inl (.inl h)
    · exact .inr ⟨j, x, back j _ (by simp) h1, h2⟩
  have sub : Sub (vis H (ownO (plus B.O a) env σ)) (vis H (ownO B.O (env.set i .un) σ)) := vis_sub less
  refine ⟨by simpa using I.len, fun j x z => ?_, fun j x z => ?_, fun j k x y c h1 h2 h3 h4 => I.sep j k x y c (back j _ (by simp) h1) (back k _ (by simp) h2) h3 h4, by rw [hb]; trivial, fun c z => (by rw [hb] at z; cases z), fun c z => I.odom c (.inl z), I.tab, ?_, I.pin.trans sub⟩
  · obtain ⟨v, h1, h2⟩ := I.val j x (back j _ (by simp) z)
    refine ⟨v, h1, ?_⟩
    rw [hR]
    exact Rep.mono sub (Rep.bw (nb j _ z) h2)
  · obtain ⟨c, h1, h2, h3, h4⟩ := I.own j x (back j _ (by simp) z)
    refine ⟨c, h1, fun z => h2 (.inl z), h3, ?_⟩
    rw [hR]
    exact RepTop.hv sub (RepTop.bw (nb j _ z) h4)
  · rw [hb]
    exact ext_bow (Ext.refl _) I.ext he
theorem rd_pool {i : Nat} {D : Ends} (hb : B.R.bo = none) (h : rdS B (dPool i d) D σ H) : ∃ a, rdS (B.bw a) d D σ H := by
  obtain ⟨env, b, I, w⟩ := h
  unfold dPool at w
  split at w
  · rename_i ds e
    split at w
    · rename_i l hl
      obtain ⟨a, s, _⟩ := I.own i _ e
      obtain ⟨J, he⟩ := pool_in hb I e hl s
      have hR : B.R = ⟨B.R.K, B.R.mg, B.R.fns, none⟩ := by rw [← hb]
      refine ⟨a, _, _, J, ?_⟩
      cases z : d (env.set i (.val .bowl)) (some l) with
      | bad =>
        rw [z] at w
        exact w
      | bk e' b' =>
        rw [z] at w
        exact False.elim w
      | ct e' b' =>
        rw [z] at w
        exact False.elim w
      | nx e' b' =>
        rw [z] at w
        cases b' with
        | none => exact False.elim w
        | some l' =>
          unfold poolE at w
          by_cases hc : (e'.set i .un).all slotNB = true
          · simp only [hc, if_true] at w
            exact fun σ' H' I' => w σ' H' (pool_out hb he I' hc)
          · simp only [hc] at w
            exact False.elim w
      | rt w' b' =>
        rw [z] at w
        unfold poolE at w
        by_cases nb : noBow w'.d = true
        · simp only [nb, if_true] at w
          intro v H' e1 e2 e3 e4
          refine w v H' (by rw [hb]; exact ext_bow (Ext.refl _) e1 he) (by rw [hb]; trivial) e3 ?_
          rw [hR]
          exact RepW.less (fun c z => .inl z) (fun c z => z) (RepW.bw nb e4)
        · simp only [nb] at w
          exact False.elim w
      | err c fs b' =>
        rw [z] at w
        unfold poolE at w
        by_cases nb : noBows fs = true
        · simp only [nb, if_true] at w
          intro cls dd σ' H' e1 e2 e3 e4
          refine w cls dd σ' H' (by rw [hb]; exact ext_bow (Ext.refl _) e1 he) (by rw [hb]; trivial) e3 ?_
          rw [hR]
          exact RepX.bw nb (e4.mono (vis_sub fun c z => .inl z))
        · simp only [nb] at w
          exact False.elim w
    · exact False.elim w
  · exact False.elim w
theorem ds_pool (i : Nat) (hb : B.R.bo = none) (h : ∀ a, DS (B.bw a) X st d) : DS B X st (dPool i d) :=
  ⟨fun pins s σ H D I q => by
    obtain ⟨a, w⟩ := rd_pool hb q
    exact (h a).run pins s σ H D I w⟩
end
end DL

set_option Elab.async false
set_option linter.all false
set_option maxRecDepth 100000
set_option maxHeartbeats 4000000
/-! odds and ends of the printed derivations -/
namespace DL
open PySem PySem.Spec PyProof.Rows L2 LamX NdefX
abbrev FnP (K : PySem.W.Frag) (x : Str) (st : Stmt) (f : Addr) (fd : FuncData) : Prop := FunD K x x (defArgs st) (defBody st) (defScope st) [] [] f fd
structure FP (K : PySem.W.Frag) (mg : Str → Option Value) (x : Str) (st : Stmt) : Prop where
  ex : ∃ a fd, FnP K x st a fd ∧ mg x = some (.ref a)
structure FT (K : PySem.W.Frag) (mg : Str → Option Value) (base : Heap) (L : List (Addr × Str)) (x : Str) (st : Stmt) : Prop where
  ex : ∃ a fd, FnP K x st a fd ∧ mg x = some (.ref a) ∧ ∃ c P, TabB base mg c P ∧ fd.code = .ref c ∧ (P, (x ++ ".<locals>." : Str) ++ "<lambda>") ∈ L ∧ ∀ p ∈ L, p.1 = P → p.2 = (x ++ ".<locals>." : Str) ++ "<lambda>"
theorem FP.mg {K : PySem.W.Frag} {mg : Str → Option Value} {x : Str} {st : Stmt} (h : FP K mg x st) : mg x = some (.ref h.ex.choose) := h.ex.choose_spec.choose_spec.2
section
variable {Pg : Program} {w : World} {K : PySem.W.Frag} {mg : Str → Option Value} {base : Heap} {T : List NTab} {k : Nat}
theorem gm_none : GM Pg w K mg base T k (fun _ => none) := fun g n m h => by cases h
theorem pro_none {R : RC} {O : Addr → Prop} {h : Heap} {H : Hp} : Pro Pg w K mg base T k none R O h H := fun n m h => by cases h
theorem u64 {A : Around} (r : Room k A) : A.units + 64 < cLine := by
  have := r.un
  omega
theorem u65 {A : Around} (r : Room k A) : A.units + 65 < cLine := by
  have := r.un
  omega
theorem fn_bad {x qual : Str} {params : Arguments} {body : List Stmt} {scope : Scope} {f : Addr} {fd : FuncData} {N ps : List Str} {n : Nat} (F : FunD K x qual params body scope [] [] f fd) (S : FnScope N ps scope) : FnOk Pg w K mg base (L2.CX Pg w) k f fd ps (spD K mg T n fun _ _ => .bad) :=
  ⟨fun vs H Q E h => by
    obtain ⟨_, _, _, ds, _, _, _, _, _, _, _, h7⟩ := h
    exact h7.elim, fun A outer s H args us vs Q E _ _ _ _ h => by
    obtain ⟨_, _, _, ds, _, _, _, _, _, _, _, h7⟩ := h
    exact h7.elim⟩
/-- .. with no bowl of the caller's (the law itself) -/
def spD0 (K : PySem.W.Frag) (mg : Str → Option Value) (T : List NTab) (n : Nat) (m : Mir) : Sp := fun vs H Q E =>
  ∃ (fns : List Addr) (O : Addr → Prop) (ds : List D), ds.length = n ∧ RepL ⟨K, mg, fns, none⟩ (vis H O) ds vs ∧ (∀ a, O a → ∃ o, H a = some o) ∧ TabsN T H ∧
    match m ds none with
    | .ok w b' => ∀ v H', Ext none H H' → BwOk none b' H' → TabsN T H' → RepW ⟨K, mg, fns, none⟩ O H H' w v → Q v H'
    | .err c fs b' => ∀ cls d H', Ext none H H' → BwOk none b' H' → TabsN T H' → RepX ⟨K, mg, fns, none⟩ (vis H' O) c fs cls d → E cls d H'
    | .bad => False
theorem fn_ok0 {x qual : Str} {params : Arguments} {body : List Stmt} {scope : Scope} {f : Addr} {fd : FuncData} {N ps : List Str} {dv : Sv} (F : FunD K x qual params body scope [] [] f fd) (S : FnScope N ps scope)
    (hb : ∀ (fns : List Addr) (O : Addr → Prop) (P : Hp) (cdv : Value) (A : Around) (outer : List PySem.Env) (s : Shared) (H : Hp) (E : XK), Room k (A.deeper (envOfC qual scope s.heap.objs.size f cdv)) →
      DSs (bpOf K mg T fns none O H E P) (cxOf (L2.CX Pg w) Pg w K mg base N qual scope f cdv A outer s H E) body dv) :
    FnOk Pg w K mg base (L2.CX Pg w) (k + 1) f fd ps (spD0 K mg T ps.length (mir dv ps.length N.length)) := by
  have hN : ps.length ≤ N.length := by
    have q := congrArg List.length S.pre
    rw [List.length_take] at q
    omega
  refine F.ok S (fun vs H Q E h => ?_) (fun cdv A outer s H vs Q E hr h => ?_)
  · obtain ⟨_, _, ds, h1, h2, _⟩ := h
    rw [← h2.length]
    exact h1
  · obtain ⟨fns, O, ds, h1, h2, h5, h6, h7⟩ := h
    refine ⟨_, hb fns O (fun _ => none) cdv A outer s H E hr, ent N.length ds, none, ent_rel (by rw [← h2.length, h1]; exact hN) h2 trivial (fun a z => by cases z) h5 h6, ?_⟩
    unfold mir at h7
    rw [if_pos h1] at h7
    exact end_of h7
end
/-! ### own things given up -/
theorem Rel.frz {B : BP} {env : Sls} {b : Bw} {σ : L2.St} {H : Hp} {i : Nat} {d : D} (I : Rel B env b σ H) (e : env[i]? = some (.own d)) : Rel B (env.set i (.val d)) b σ H := by
  obtain ⟨a, s, na, he, rt⟩ := I.own i d e
  have hi := (List.getElem?_eq_some_iff.mp e).1
  have back : ∀ (j : Nat) (x : D), (env.set i (.val d))[j]? = some (.own x) → i ≠ j ∧ env[j]? = some (.own x) := fun j x z => by
    by_cases q : i = j
    · subst q
      rw [List.getElem?_set_self hi] at z
      cases z
    · rw [List.getElem?_set_ne q] at z
      exact ⟨q, z⟩
  have less : ∀ c, ownO B.O (env.set i (.val d)) σ c → ownO B.O env σ c := fun c h => h.elim .inl fun ⟨j, x, h1, h2⟩ => .inr ⟨j, x, (back j x h1).2, h2⟩
  have sub : Sub (vis H (ownO B.O env σ)) (vis H (ownO B.O (env.set i (.val d)) σ)) := vis_sub less
  have free : ¬ ownO B.O (env.set i (.val d)) σ a := fun h => h.elim na fun ⟨j, x, h1, h2⟩ => (back j x h1).1 (I.sep i j d x a e (back j x h1).2 s h2)
  refine ⟨by simpa using I.len, fun j x z => ?_, fun j x z => ?_, fun j k x y c h1 h2 h3 h4 => I.sep j k x y c (back j x h1).2 (back k y h2).2 h3 h4, I.bow, I.bO, I.odom, I.tab, I.ext, I.pin.trans sub⟩
  · by_cases q : i = j
    · subst q
      rw [List.getElem?_set_self hi] at z
      cases z
      exact ⟨.ref a, s, rt.rep sub (vis_at free)⟩
    · rw [List.getElem?_set_ne q] at z
      obtain ⟨v, h1, h2⟩ := I.val j x z
      exact ⟨v, h1, h2.mono sub⟩
  · obtain ⟨c, h1, h2, h3, h4⟩ := I.own j x (back j x z).2
    exact ⟨c, h1, h2, h3, h4.hv sub⟩
def frzS (i : Nat) (env : Sls) : Sls := match env[i]? with
  | some (.own d) => env.set i (.val d)
  | _ => env
theorem Rel.frzS {B : BP} {env : Sls} {b : Bw} {σ : L2.St} {H : Hp} {i : Nat} (I : Rel B env b σ H) : Rel B (frzS i env) b σ H := by
  unfold DL.frzS
  split
  · rename_i d e
    exact I.frz e
  · exact I
def dFrz (i : Nat) (d : Sv) : Sv := fun env b => d (frzS i env) b
theorem dss_frz {B : BP} {X : Cx} {sts : List Stmt} {d : Sv} (i : Nat) (h : DSs B X sts d) : DSs B X sts (dFrz i d) := imp_PSs h fun D σ H q => by
  obtain ⟨env, b, I, w⟩ := q
  exact ⟨DL.frzS i env, b, I.frzS, w⟩
/-! ### new things as plain values -/
def dVal (ev : Ev) : Ev := fun env b => (ev env b).bind fun w b1 => .ok (.val w.d) b1
section
variable {B : BP} {X : Cx} {e : Expr} {ev : Ev} {σ : L2.St} {H : Hp} {Q : VK}
theorem rd_val (h : rdE B (dVal ev) σ H Q) : rdE B ev σ H Q := by
  obtain ⟨env, b, I, w⟩ := h
  refine ⟨env, b, I, ?_⟩
  have w : wpG B RepW (ownO B.O env σ) H ((ev env b).bind fun w b1 => .ok (.val w.d) b1) σ Q := w
  cases z : ev env b with
  | ok a b1 =>
    rw [z] at w
    exact fun v H' e1 e2 e3 e4 => w v H' e1 e2 e3 e4.rep
  | err c fs b1 =>
    rw [z] at w
    exact w
  | bad =>
    rw [z] at w
    exact w
theorem de_val (h : DE B X e ev) : DE B X e (dVal ev) := imp_PE h fun _ _ _ => rd_val
theorem ds_vl {st : Stmt} {i : Nat} (h : DS B X st (dAsg i ev)) : DS B X st (dAsg i (dVal ev)) := imp_PS h fun D σ H q => by
  obtain ⟨env, b, I, w⟩ := q
  refine ⟨env, b, I, ?_⟩
  unfold dAsg dVal at w
  unfold dAsg
  cases z : ev env b with
  | bad =>
    rw [z] at w
    exact w
  | err c fs b1 =>
    rw [z] at w
    exact w
  | ok v b1 =>
    rw [z] at w
    intro σ' H' J
    cases v with
    | val d => exact w σ' H' J
    | own d =>
      have w : wpS B (.nx (env.set i (.val d)) b1) D := w
      by_cases hi : i < env.length
      · have q := J.frz (i := i) (d := d) (List.getElem?_set_self hi)
        rw [List.set_set] at q
        exact w σ' H' q
      · have J : Rel B (env.set i (.own d)) b1 σ' H' := J
        rw [List.set_eq_of_length_le (by omega)] at J
        refine w σ' H' ?_
        rw [List.set_eq_of_length_le (by omega)]
        exact J
end
end DL
namespace DL
open PySem PySem.Spec PyProof.Rows L2 LamX NdefX
section
variable {B : BP} {X : Cx} {tg iter elt : Expr} {ifs : List Expr} {evi : EvI} {bd : Bd} {is : List Nat} {tt : EvT} {te : Ev} {scope : Scope} {own : List (Str × Nat)} {pos : Pos}
theorem ds_setLcV {i : Nat} {y : Str} {py spos : Pos} (hc : X.calm = true) (hN : X.N.Nodup) (hi : DJ B X tg iter evi) (ok : BlkOk X.N X.env.scope scope own) (his : ∀ j ∈ is, j ∈ own.map (·.2))
    (hg : ∀ (O : Addr → Prop) (P : Hp) (s : Shared) (H : Hp) (C : Addr) (cl : List (Str × Addr)) (fp : List Addr), DG (B.cmp O P) (X.blk s H scope (compEnvC scope cl C X.env) fp) tg is bd)
    (ht : ∀ (O : Addr → Prop) (P : Hp) (s : Shared) (H : Hp) (C : Addr) (cl : List (Str × Addr)) (fp : List Addr), DTs (B.cmp O P) (X.blk s H scope (compEnvC scope cl C X.env) fp) ifs tt)
    (he : ∀ (O : Addr → Prop) (P : Hp) (s : Shared) (H : Hp) (C : Addr) (cl : List (Str × Addr)) (fp : List Addr), DE (B.cmp O P) (X.blk s H scope (compEnvC scope cl C X.env) fp) elt te)
    (hy : X.N[i]? = some y := by rfl) (hyl : X.env.scope.names.lookup y = some .local := by rfl) (hsw : swapsWith (.ListComp elt [⟨tg, iter, ifs, 0⟩] scope pos) (some (.Name y py)) spos.line X.env = pure true := by refine sw_true ?_ ?_ ?_ ?_ <;> rfl)
    (hs : ∀ x, foldedSetIterable iter X.env x = pure x := by intro _; rfl) :
    DS B X (.Assign [.Name y py] (.ListComp elt [⟨tg, iter, ifs, 0⟩] scope pos) spos) (dAsg i (dVal (dComp evi bd tt te (own.map (·.2))))) :=
  ds_vl (ds_setLc hc hN hi ok his hg ht he hy hyl hsw hs)
end
end DL
namespace DL
open PySem PySem.Spec
def freeB (sc scope : Scope) : Bool := scope.names.all fun y => match y.2 with
  | .free => (match sc.names.lookup y.1 with | some .cell => true | some .free => true | _ => false)
  | _ => true
theorem free_by {sc scope : Scope} (h : freeB sc scope = true) : ∀ y ∈ scope.names, y.2 = .free → sc.names.lookup y.1 = some .cell ∨ sc.names.lookup y.1 = some .free := fun y hy e => by
  have q := List.all_eq_true.mp h y hy
  rw [e] at q
  have q : (match sc.names.lookup y.1 with | some .cell => true | some .free => true | _ => false) = true := q
  split at q
  · rename_i z
    exact .inl z
  · rename_i z
    exact .inr z
  · cases q
end DL

set_option Elab.async false
set_option linter.all false
set_option maxRecDepth 100000
set_option maxHeartbeats 4000000
/-! the law's end -/
namespace DL
open PySem PySem.Spec PyProof.Rows L2 LamX NdefX
theorem walk_ofET {l : PySem.W.OpenLaw} {n k : Nat} {q : Program} {loose : List Str} {XP : (Str → Option Value) → Heap → Prop} {YP : World → Heap → Prop} {d : DefRec} {CX : World → CXT} {x : Str}
    (hn : l.most = some n) (hn2 : n ≤ sizeLine) (hdf : d.params.defaults = []) (hr : Room k callerA)
    (F : ∀ (w : World) (mg : Str → Option Value) (fa : Addr) (h : Heap), YP w h → h.Ns mainGlobals mg → mg d.name = some (.ref fa) → ∃ K : PySem.W.Frag, K.In h ∧ LawAtS l w K (CX w) k n x mg fa h)
    (hCX : ∀ (w : World) (H : Hp) (s : Shared) (e : Value) (s' : Shared), CX w [] H s (fun _ _ _ => False) e s' → False) :
    PySem.W.WalkO q loose XP YP l.row.toRowW d [] (fun f vs => PySem.call f vs) := by
  refine Att.attach_callB hn hdf fun w s₀ s₁ mg mb fa o pm cd doc a vs ns G Y ho hd hcd hmg hobj hints hlen hbits hg => ?_
  obtain ⟨K, KX, fd, cs, sp, hT, nT, C, hb, hsp, hF⟩ := F w mg fa _ Y G.T.g hmg
  exact law_callTs KX G.T.g G.T.b G.T.builtins G.T.nolimit hg hT nT C G.T.bmain hobj hints (Nat.le_trans hlen hn2) hr hF hb (fun H hH hS => hsp H a ns hlen hbits hH hS) fun H e s' => hCX w H s₁ e s'
theorem cx_false {P : Program} {w : World} {outer : List Env} {H : Hp} {s : Shared} {u : Value} {s' : Shared} (h : L2.CX P w outer H s (fun _ _ _ => False) u s') : False := by
  obtain ⟨_, _, _, _, _, _, _, _, _, _, _, _, z⟩ := h
  exact z
/-- the law's script as it comes -/
theorem sp_law {K : PySem.W.Frag} {mg : Str → Option Value} {L : List (Addr × Str)} {m : Mir} {H : Hp} {a : Addr} {ns : List Int} (hl : ns.length ≤ 63) (hT : Tabs L H) (hS : SqL K H a (ns.map V.int)) (hm : ∃ b, m [.lst (ns.map D.int)] none = .ok (.val (.bl true)) b) :
    spD0 K mg (nt L) 1 m [.ref a] H (fun v _ => v = .bl true) (fun _ _ _ => False) := by
  have ev : vis H (fun _ => False) = H := funext fun a => vis_at (fun z => z)
  obtain ⟨b, hm⟩ := hm
  refine ⟨[], fun _ => False, [.lst (ns.map D.int)], rfl, ⟨.ref a, [], rfl, ⟨a, ns.map V.int, rfl, by rw [ev]; exact hS, repL_ints, by rw [List.length_map]; exact Nat.le_trans hl (by decide)⟩, rfl⟩, fun a z => z.elim, nt_tabs.mpr hT, ?_⟩
  rw [hm]
  exact fun v H' _ _ _ r => r
theorem code_of {K : PySem.W.Frag} {x : Str} {st : Stmt} {fd : FuncData} (F : FnP K x st (He.fAd K (x, none)) fd) : fd.code = .ref (He.codeOf K (x, none)) := by
  obtain ⟨oc, od, dV, kV, doc, pm, an, cdv, ct, osl, rfl, lk, hcd, _, _⟩ := F.ex
  cases cdv with
  | ref c =>
    rw [He.codeOf_eq lk rfl]
  | _ => cases hcd
end DL

set_option Elab.async false
set_option linter.all false
set_option maxRecDepth 100000
set_option maxHeartbeats 4000000
/-! evaluating denotations -/
namespace DL
open PySem
section
variable {ev ea eb ec : Ev} {t u : EvT} {A : EvA} {env : Sls} {b : Bw} {d : D} {i j l : Nat} {f f' : D → D → Option Wv} {g : D → Option Wv} {h : List D → Option Wv} {m : Mir} {d1 d2 : Sv} {w : Wv} {ds : List D} {bd : Bd} {evi : EvI} {α β : Type} {c : Str} {fs : List D}
@[simp] theorem x_bind_ok (a : α) (k : α → Bw → Res β) : (Res.ok a b).bind k = k a b := rfl
@[simp] theorem x_bind_bad (k : α → Bw → Res β) : (Res.bad : Res α).bind k = .bad := rfl
@[simp] theorem x_bind_err (k : α → Bw → Res β) : (Res.err c fs b : Res α).bind k = .err c fs b := rfl
@[simp] theorem x_toS_ok (k : Wv → Bw → RS) : (Res.ok w b).toS k = k w b := rfl
@[simp] theorem x_toS_bad (k : Wv → Bw → RS) : (Res.bad : Res Wv).toS k = .bad := rfl
@[simp] theorem x_toS_err (k : Wv → Bw → RS) : (Res.err c fs b : Res Wv).toS k = .err c fs b := rfl
@[simp] theorem x_toR_rt : (RS.rt w b).toR = .ok w b := rfl
@[simp] theorem x_toR_nx : (RS.nx env b).toR = .ok (.val .non) b := rfl
@[simp] theorem x_dval : (Wv.val d).d = d := rfl
@[simp] theorem x_down : (Wv.own d).d = d := rfl
@[simp] theorem x_slotv : (Wv.val d).slot = .val d := rfl
@[simp] theorem x_sloto : (Wv.own d).slot = .own d := rfl
@[simp] theorem x_dC : dC d env b = .ok (.val d) b := rfl
@[simp] theorem x_dRet : dRet ev env b = (ev env b).toS fun w b1 => .rt w b1 := rfl
@[simp] theorem x_dOp2 : dOp2 f ea eb env b = (ea env b).bind fun a1 b1 => (eb env b1).bind fun a2 b2 => optR (f a1.d a2.d) b2 := rfl
@[simp] theorem x_dOp1 : dOp1 g ea env b = (ea env b).bind fun a1 b1 => optR (g a1.d) b1 := rfl
@[simp] theorem x_dOpL : dOpL h A env b = (A env b).bind fun a1 b1 => optR (h a1) b1 := rfl
@[simp] theorem x_optS : optR (some w) b = .ok w b := rfl
@[simp] theorem x_optN : optR none b = .bad := rfl
@[simp] theorem x_dNil : dNil env b = .ok [] b := rfl
@[simp] theorem x_dCons : dCons ea A env b = (ea env b).bind fun a1 b1 => (A env b1).bind fun r b2 => .ok (a1.d :: r) b2 := rfl
@[simp] theorem x_dCall : dCall m A env b = (A env b).bind fun ds b1 => m ds b1 := rfl
@[simp] theorem x_dIx : dIx ea eb env b = (ea env b).bind fun a1 b1 => (eb env b1).bind fun a2 b2 => ixB a1.d a2.d b2 := rfl
@[simp] theorem x_dIf : dIf t ea eb env b = (t env b).bind fun c b1 => if c = true then ea env b1 else eb env b1 := rfl
@[simp] theorem x_dTst : dTst ev env b = (ev env b).bind fun w b1 => match w.d with | .bl c => .ok c b1 | _ => .bad := rfl
@[simp] theorem x_dNot : dNot t env b = (t env b).bind fun c b1 => .ok (!c) b1 := rfl
@[simp] theorem x_dAnd : dAnd t u env b = (t env b).bind fun c b1 => if c = true then u env b1 else .ok false b1 := rfl
@[simp] theorem x_dOr : dOr t u env b = (t env b).bind fun c b1 => if c = true then .ok true b1 else u env b1 := rfl
@[simp] theorem x_dAndV : dAndV ea eb env b = (ea env b).bind fun w b1 => match w.d with | .bl c => if c = true then eb env b1 else .ok (.val (.bl false)) b1 | _ => .bad := rfl
@[simp] theorem x_dOrV : dOrV ea eb env b = (ea env b).bind fun w b1 => match w.d with | .bl c => if c = true then .ok (.val (.bl true)) b1 else eb env b1 | _ => .bad := rfl
@[simp] theorem x_dNotV : dNotV ea env b = (ea env b).bind fun a1 b1 => optR (match a1.d with | .bl c => some (.val (.bl (!c))) | _ => none) b1 := rfl
@[simp] theorem x_dVal : dVal ev env b = (ev env b).bind fun w b1 => .ok (.val w.d) b1 := rfl
@[simp] theorem x_dSeq : dSeq d1 d2 env b = (match d1 env b with | .nx e b' => d2 e b' | r => r) := rfl
@[simp] theorem x_dIfS : dIfS t d1 d2 env b = (match t env b with | .ok c b1 => if c = true then d1 env b1 else d2 env b1 | .err c fs b => .err c fs b | .bad => .bad) := rfl
@[simp] theorem x_dNext : dNext env b = .nx env b := rfl
@[simp] theorem x_dAsg : dAsg i ev env b = (ev env b).toS fun w b1 => .nx (env.set i w.slot) b1 := rfl
@[simp] theorem x_dPar2 {e1 e2 : Ev} : dPar2 i j e1 e2 env b = (e1 env b).toS fun w1 b1 => (e2 env b1).toS fun w2 b2 => .nx ((env.set j w2.slot).set i w1.slot) b2 := rfl
@[simp] theorem x_dFor {body : Sv} : dFor evi bd body env b = (match evi env b with | .ok ds b1 => forL bd body ds env b1 | .err c fs b => .err c fs b | .bad => .bad) := rfl
@[simp] theorem x_f1 (d : D) : f1 g [d] = g d := rfl
@[simp] theorem x_f2 (d e : D) : f2 f [d, e] = f d e := rfl
@[simp] theorem x_fI2 {k : Int → Int → Option Wv} (x y : Int) : fI2 k (.int x) (.int y) = k x y := rfl
theorem x_var (h : env[i]? = some (.val d)) : dVar i env b = .ok (.val d) b := by
  unfold dVar
  rw [h]
@[simp] theorem x_var0 (s : Slot) (r : Sls) : dVar 0 (.val d :: r) b = .ok (.val d) b := rfl
@[simp] theorem x_varS (s : Slot) (r : Sls) (n : Nat) : dVar (n + 1) (s :: r) b = dVar n r b := by
  unfold dVar
  rw [List.getElem?_cons_succ]
theorem x_mir {dv : Sv} {n N : Nat} : mir dv n N ds b = if ds.length = n then (dv (ent N ds) b).toR else .bad := rfl
@[simp] theorem x_ixtup (l : List D) (k : Int) : ixB (.tup l) (.int k) b = optR ((L2.atI l k).map .val) b := rfl
@[simp] theorem x_ixlst (l : List D) (k : Int) : ixB (.lst l) (.int k) b = optR ((L2.atI l k).map .val) b := rfl
@[simp] theorem x_at0 (x : D) (l : List D) : L2.atI (x :: l) 0 = some x := by simp [L2.atI, L2.ixN]
@[simp] theorem x_at1 (x y : D) (l : List D) : L2.atI (x :: y :: l) 1 = some y := by
  have h : (1 : Int) < (l.length : Int) + 1 + 1 := by omega
  simp [L2.atI, L2.ixN, h]
@[simp] theorem x_lt (x y : Int) : fLt (.int x) (.int y) = some (.val (.bl (decide (x < y)))) := rfl
@[simp] theorem x_le (x y : Int) : fLe (.int x) (.int y) = some (.val (.bl (decide (x ≤ y)))) := rfl
@[simp] theorem x_gt (x y : Int) : fGt (.int x) (.int y) = some (.val (.bl (decide (y < x)))) := rfl
@[simp] theorem x_ge (x y : Int) : fGe (.int x) (.int y) = some (.val (.bl (decide (y ≤ x)))) := rfl
@[simp] theorem x_add (x y : Int) : fAddG (.int x) (.int y) = some (.val (.int (x + y))) := rfl
@[simp] theorem x_addL (x y : List D) : fAddG (.lst x) (.lst y) = if x.length + y.length ≤ LIM then some (.own (.lst (x ++ y))) else none := rfl
@[simp] theorem x_addT (x y : List D) : fAddG (.tup x) (.tup y) = if x.length + y.length ≤ LIM then some (.val (.tup (x ++ y))) else none := rfl
@[simp] theorem x_sub (x y : Int) : fSub (.int x) (.int y) = some (.val (.int (x - y))) := rfl
@[simp] theorem x_mul (x y : Int) : fMulG (.int x) (.int y) = if mulOk x y then some (.val (.int (x * y))) else none := rfl
@[simp] theorem x_mulT (x : List D) (y : Int) : fMulG (.tup x) (.int y) = if repOk y x.length then some (.val (.tup (List.replicate y.toNat x).flatten)) else none := rfl
@[simp] theorem x_mulL (x : List D) (y : Int) : fMulG (.lst x) (.int y) = if repOk y x.length then some (.own (.lst (List.replicate y.toNat x).flatten)) else none := rfl
@[simp] theorem x_div (x y : Int) : fDiv (.int x) (.int y) = if divOk y then some (.val (.int (x.fdiv y))) else none := rfl
@[simp] theorem x_mod (x y : Int) : fMod (.int x) (.int y) = if y = 0 then none else some (.val (.int (x.fmod y))) := rfl
@[simp] theorem x_neg (x : Int) : fNeg (.int x) = some (.val (.int (-x))) := rfl
@[simp] theorem x_abs (x : Int) : absD (.int x) = some (.val (.int (if x < 0 then -x else x))) := rfl
@[simp] theorem x_int (x : Int) : intD (.int x) = some (.val (.int x)) := rfl
@[simp] theorem x_gcd (x y : Int) : fGcd (.int x) (.int y) = some (.val (.int (Nat.gcd x.natAbs y.natAbs : Nat))) := rfl
@[simp] theorem x_max (x y : Int) : fMax (.int x) (.int y) = some (.val (.int (if y > x then y else x))) := rfl
@[simp] theorem x_min (x y : Int) : fMin (.int x) (.int y) = some (.val (.int (if y < x then y else x))) := rfl
@[simp] theorem x_lenT (x : List D) : lenD (.tup x) = some (.val (.int x.length)) := rfl
@[simp] theorem x_lenL (x : List D) : lenD (.lst x) = some (.val (.int x.length)) := rfl
@[simp] theorem x_tupleL (x : List D) : tupleD (.lst x) = some (.val (.tup x)) := rfl
@[simp] theorem x_tupleT (x : List D) : tupleD (.tup x) = some (.val (.tup x)) := rfl
@[simp] theorem x_fTup (x : List D) : fTup x = if x.length ≤ LIM then some (.val (.tup x)) else none := rfl
@[simp] theorem x_fLst (x : List D) : fLst x = if x.length ≤ LIM then some (.own (.lst x)) else none := rfl
@[simp] theorem x_isiT (d : D) (n : String) : fIsi d (.ty n) = if isTy n then (match tyN d with | some t => vB (isiB t n) | none => none) else none := rfl
@[simp] theorem x_seqL {ev : Ev} : dSeqI ev env b = (ev env b).bind fun w b1 => match w.d with | .lst l => .ok l b1 | .tup l => .ok l b1 | _ => .bad := rfl
@[simp] theorem x_bName : bName i d env = some (env.set i (.val d)) := rfl
@[simp] theorem x_forN {body : Sv} : forL bd body [] env b = .nx env b := rfl
theorem x_forC {body : Sv} {x : D} : forL bd body (x :: ds) env b = (match bd x env with | none => .bad | some e => match body e b with | .nx e' b' => forL bd body ds e' b' | .ct e' b' => forL bd body ds e' b' | .bk e' b' => .nx e' b' | .rt w b' => .rt w b' | .err c fs b' => .err c fs b' | .bad => .bad) := rfl
@[simp] theorem x_dComp {tt : EvT} {te : Ev} {vs : List Nat} : dComp evi bd tt te vs env b = (evi env b).bind fun ds b1 => if noOwn env vs = true then ownL (compL bd tt te (wipeE env vs) ds b1) else .bad := rfl
@[simp] theorem x_ownL {r : List D} : ownL (.ok r b) = .ok (.own (.lst r)) b := rfl
@[simp] theorem x_dApp : dApp i ea env b = (match env[i]? with | some (.own (.lst l)) => (ea env b).toS fun w b1 => if l.length < LIM then .nx (env.set i (.own (.lst (l ++ [w.d])))) b1 else .bad | _ => .bad) := rfl
@[simp] theorem x_dFrz : dFrz i d1 env b = d1 (frzS i env) b := rfl
@[simp] theorem x_dYes : dYes env b = .ok true b := rfl
theorem compL_filter {tt : EvT} {te : Ev} (f : α → D) (P : α → Bool) : ∀ (l : List α), (∀ a ∈ l, ∃ e, bd (f a) env = some e ∧ tt e b = .ok (P a) b ∧ te e b = .ok (.val (f a)) b) → compL bd tt te env (l.map f) b = .ok ((l.filter P).map f) b
  | [], _ => rfl
  | a :: l, h => by
    obtain ⟨e, h1, h2, h3⟩ := h a List.mem_cons_self
    have ih := compL_filter (tt := tt) (te := te) f P l fun x hx => h x (List.mem_cons_of_mem _ hx)
    rw [List.map_cons]
    unfold compL
    simp only [h1, h2, h3, ih]
    by_cases z : P a = true
    · rw [if_pos z, List.filter_cons_of_pos z]
      rfl
    · rw [if_neg z, List.filter_cons_of_neg z]
theorem compL_map {tt : EvT} {te : Ev} (f g : α → D) : ∀ (l : List α), (∀ a ∈ l, ∃ e w, bd (f a) env = some e ∧ tt e b = .ok true b ∧ te e b = .ok w b ∧ w.d = g a) → compL bd tt te env (l.map f) b = .ok (l.map g) b
  | [], _ => rfl
  | a :: l, h => by
    obtain ⟨e, w, h1, h2, h3, h4⟩ := h a List.mem_cons_self
    have ih := compL_map (tt := tt) (te := te) f g l fun x hx => h x (List.mem_cons_of_mem _ hx)
    rw [List.map_cons]
    unfold compL
    simp only [h1, h2, h3, ih, if_true, h4, List.map_cons]
@[simp] theorem x_eqI (x y : Int) : fEq (.int x) (.int y) = some (.val (.bl (x == y))) := by simp [fEq, pureD, eqD, vB, PD]
@[simp] theorem x_neI (x y : Int) : fNe (.int x) (.int y) = some (.val (.bl (!(x == y)))) := by simp [fNe, pureD, eqD, vB, PD]
@[simp] theorem x_neL (x : List D) : fNe (.lst x) (.lst []) = if pureD PD (.lst x) then some (.val (.bl (!(eqD (.lst x) (.lst []))))) else none := by
  unfold fNe vB
  simp [show pureD PD (.lst []) = true by simp [PD, pureD, pureDs]]
@[simp] theorem x_isN (x : D) : fIsN x .non = some (.val (.bl (isNon x))) := rfl
@[simp] theorem x_notN (x : D) : fNotN x .non = some (.val (.bl (!isNon x))) := rfl
@[simp] theorem x_all (x : List D) : allD (.lst x) = (asBls x).bind fun bs => vB (bs.all id) := rfl
@[simp] theorem x_dDrop : dDrop ev env b = (ev env b).toS fun _ b1 => .nx env b1 := rfl
@[simp] theorem x_dChain {e3 : Ev} : dChain f f' ea eb e3 env b = (ea env b).bind fun a1 b1 => (eb env b1).bind fun a2 b2 => match f a1.d a2.d with
  | some (.val (.bl k)) => if k = true then (e3 env b2).bind fun a3 b3 => optR (f' a2.d a3.d) b3 else .ok (.val (.bl false)) b2
  | _ => .bad := rfl
@[simp] theorem x_dCallH {mh : CM → Mir} {n : Nat} {lm : Sls → Mir} : dCallH mh A n lm env b = (A env b).bind fun ds b1 => if noClos ds then mh (n, lm env) (ds ++ [.clo 0]) b1 else .bad := rfl
@[simp] theorem x_dEnum : dEnum ea env b = (ea env b).bind fun w b1 => enum1 w.d b1 := rfl
end
end DL

set_option Elab.async false
set_option linter.all false
set_option maxRecDepth 100000
set_option maxHeartbeats 4000000
namespace W
open PySem PySem.Spec PyProof.Rows L2 DL LamX NdefX
def top (i : Nat) : Stmt := PySem.Challenge.pw_mindmeans_k40_whole_beats_of_near_minds.main.body.getD i (.Pass ⟨0, 0, 0, 0⟩)
abbrev s_is_whole : Stmt := top 2
abbrev s_is_tuple_of : Stmt := top 3
abbrev s_is_pair : Stmt := top 4
abbrev s_wrong_in : Stmt := top 5
abbrev s_wrong_in_all : Stmt := top 6
abbrev s_lowest : Stmt := top 9
abbrev s_is_fraction : Stmt := top 10
abbrev s_plus : Stmt := top 11
abbrev s_minus : Stmt := top 12
abbrev s_over : Stmt := top 13
abbrev s_is_less : Stmt := top 14
abbrev s_lesser : Stmt := top 15
abbrev s_greater : Stmt := top 16
abbrev s_total : Stmt := top 17
abbrev s_is_sum : Stmt := top 20
abbrev s_wrong_in_minds : Stmt := top 21
abbrev s_spread_by : Stmt := top 22
abbrev s_check_lone_minds : Stmt := top 28
abbrev s_are_near : Stmt := top 30
abbrev s_near_beat_by : Stmt := top 31
abbrev s_check_near : Stmt := top 33
abbrev s_near_beat : Stmt := top 34
abbrev s__law_pool : Stmt := top 36
abbrev s__law_below : Stmt := top 37
abbrev s__law_one : Stmt := top 38
abbrev s__law_same : Stmt := top 39
abbrev s__law_fr : Stmt := top 40
abbrev s__law_plus : Stmt := top 41
abbrev s__law_times : Stmt := top 42
abbrev s__law_is_less : Stmt := top 43
abbrev s__law_less : Stmt := top 44
abbrev s__law_total : Stmt := top 45
abbrev s__law_near_beat : Stmt := top 46
abbrev s__law_near_draw : Stmt := top 47
abbrev s__law_right : Stmt := top 48
abbrev s_law : Stmt := top 49
structure En (K : PySem.W.Frag) (mg : Str → Option Value) (base : Heap) (L : List (Addr × Str)) : Prop where
  f_is_whole : FP K mg "is_whole" s_is_whole
  f_is_tuple_of : FP K mg "is_tuple_of" s_is_tuple_of
  f_is_pair : FP K mg "is_pair" s_is_pair
  f_wrong_in : FP K mg "wrong_in" s_wrong_in
  f_wrong_in_all : FT K mg base L "wrong_in_all" s_wrong_in_all
  f_lowest : FP K mg "lowest" s_lowest
  f_is_fraction : FP K mg "is_fraction" s_is_fraction
  f_plus : FP K mg "plus" s_plus
  f_minus : FP K mg "minus" s_minus
  f_over : FP K mg "over" s_over
  f_is_less : FP K mg "is_less" s_is_less
  f_lesser : FP K mg "lesser" s_lesser
  f_greater : FP K mg "greater" s_greater
  f_total : FP K mg "total" s_total
  f_is_sum : FP K mg "is_sum" s_is_sum
  f_wrong_in_minds : FP K mg "wrong_in_minds" s_wrong_in_minds
  f_spread_by : FP K mg "spread_by" s_spread_by
  f_check_lone_minds : FP K mg "check_lone_minds" s_check_lone_minds
  f_are_near : FP K mg "are_near" s_are_near
  f_near_beat_by : FP K mg "near_beat_by" s_near_beat_by
  f_check_near : FP K mg "check_near" s_check_near
  f_near_beat : FP K mg "near_beat" s_near_beat
  f__law_pool : FP K mg "_law_pool" s__law_pool
  f__law_below : FP K mg "_law_below" s__law_below
  f__law_one : FP K mg "_law_one" s__law_one
  f__law_same : FP K mg "_law_same" s__law_same
  f__law_fr : FP K mg "_law_fr" s__law_fr
  f__law_plus : FP K mg "_law_plus" s__law_plus
  f__law_times : FP K mg "_law_times" s__law_times
  f__law_is_less : FP K mg "_law_is_less" s__law_is_less
  f__law_less : FP K mg "_law_less" s__law_less
  f__law_total : FP K mg "_law_total" s__law_total
  f__law_near_beat : FP K mg "_law_near_beat" s__law_near_beat
  f__law_near_draw : FP K mg "_law_near_draw" s__law_near_draw
  f__law_right : FP K mg "_law_right" s__law_right
  b_abs : mg "abs" = none
  b_all : mg "all" = none
  b_bool : mg "bool" = none
  b_divmod : mg "divmod" = none
  b_enumerate : mg "enumerate" = none
  b_int : mg "int" = none
  b_isinstance : mg "isinstance" = none
  b_len : mg "len" = none
  b_list : mg "list" = none
  b_max : mg "max" = none
  b_min : mg "min" = none
  b_range : mg "range" = none
  b_str : mg "str" = none
  b_tuple : mg "tuple" = none
  g_gcd : mg "gcd" = some (.builtin "math.gcd")
  k_NOTHING : ∃ a, mg "NOTHING" = some (.ref a) ∧ ∀ H, SqT K H a [(V.int 0), (V.int 1)]
  k_MOST_PEOPLE : ∃ t, mg "MOST_PEOPLE" = some (.int 5 t)
section
variable {Pg : Program} {w : World} {K : PySem.W.Frag} {mg : Str → Option Value} {base : Heap} {L : List (Addr × Str)}
def c_NOTHING : D := (.tup [(.int 0), (.int 1)])
theorem dk_NOTHING {B : BP} {X : Cx} {p : Pos} (E : En K mg base L) (hK : X.K = K := by rfl) (hm : X.mg = mg := by rfl) (hB : B.R.K = K := by rfl) (hg : Gl X "NOTHING" := by rfl) : DE B X (.Name "NOTHING" p) (dC c_NOTHING) := by
  obtain ⟨a, h1, h2⟩ := E.k_NOTHING
  exact de_gcon (v := .ref a) hg (hm ▸ h1) rfl fun H => ⟨a, _, rfl, hB ▸ h2 H, (RepL.cons rfl (RepL.cons rfl RepL.nil)), by decide⟩
def c_MOST_PEOPLE : D := (.int 5)
theorem dk_MOST_PEOPLE {B : BP} {X : Cx} {p : Pos} (E : En K mg base L) (hK : X.K = K := by rfl) (hm : X.mg = mg := by rfl) (hB : B.R.K = K := by rfl) (hg : Gl X "MOST_PEOPLE" := by rfl) : DE B X (.Name "MOST_PEOPLE" p) (dC c_MOST_PEOPLE) := by
  obtain ⟨t, h1⟩ := E.k_MOST_PEOPLE
  exact de_gcon (v := .int 5) hg (hm ▸ h1) ⟨t, rfl⟩ fun H => rfl
def n_is_whole : List Str := ["value"]
theorem sc_is_whole : FnScope n_is_whole ["value"] (defScope s_is_whole) := ⟨rfl, rfl, rfl, by decide +kernel, rfl, by decide +kernel, by decide +kernel⟩
noncomputable def v_is_whole : Sv := (dRet (dAndV (dOpL (f2 fIsi) (dCons (dVar 0) (dCons (dC (.ty "int")) dNil))) (dNotV (dOpL (f2 fIsi) (dCons (dVar 0) (dCons (dC (.ty "bool")) dNil))))))
noncomputable def m_is_whole : Mir := mir v_is_whole 1 1
theorem fits_is_whole : Fits 1 m_is_whole := mir_fits
theorem o_is_whole (E : En K mg base L) : ∃ a fd, FnP K "is_whole" s_is_whole a fd ∧ mg "is_whole" = some (.ref a) ∧ FnOk Pg w K mg base (L2.CX Pg w) 1 a fd ["value"] (spD K mg (nt L) 1 m_is_whole) := by
  obtain ⟨a, fd, F, hm⟩ := E.f_is_whole.ex
  refine ⟨a, fd, F, hm, fn_okD F sc_is_whole (fun fns bo O P cdv A outer s H Ex hr => ?_)⟩
  have hN : (n_is_whole).Nodup := sc_is_whole.nd
  exact (dss_one (ds_ret (de_and (de_callB call_isi hl_isi rfl E.b_isinstance PyProof.Rows.Boot.«isinstance» (da_cons (de_var 0) (da_cons (de_ty rfl E.b_int PyProof.Rows.Boot.«int») da_nil))) (de_one (de_not (de_callB call_isi hl_isi rfl E.b_isinstance PyProof.Rows.Boot.«isinstance» (da_cons (de_var 0) (da_cons (de_ty rfl E.b_bool PyProof.Rows.Boot.«bool») da_nil))))))))
theorem c_is_whole (E : En K mg base L) : Cal Pg w K mg base (nt L) 1 "is_whole" ["value"] m_is_whole := by
  obtain ⟨a, fd, F, hm, G⟩ := o_is_whole (Pg := Pg) (w := w) E
  exact ⟨a, fd, G, hm, F.kp, F.bindsN fun _ _ _ _ _ _ us hl => match us, hl with | [_], _ => rfl⟩
def n_is_tuple_of : List Str := ["value", "many"]
theorem sc_is_tuple_of : FnScope n_is_tuple_of ["value", "many"] (defScope s_is_tuple_of) := ⟨rfl, rfl, rfl, by decide +kernel, rfl, by decide +kernel, by decide +kernel⟩
noncomputable def v_is_tuple_of : Sv := (dRet (dAndV (dOpL (f2 fIsi) (dCons (dVar 0) (dCons (dC (.ty "tuple")) dNil))) (dOp2 fEq (dOpL (f1 lenD) (dCons (dVar 0) dNil)) (dVar 1))))
noncomputable def m_is_tuple_of : Mir := mir v_is_tuple_of 2 2
theorem fits_is_tuple_of : Fits 2 m_is_tuple_of := mir_fits
theorem o_is_tuple_of (E : En K mg base L) : ∃ a fd, FnP K "is_tuple_of" s_is_tuple_of a fd ∧ mg "is_tuple_of" = some (.ref a) ∧ FnOk Pg w K mg base (L2.CX Pg w) 1 a fd ["value", "many"] (spD K mg (nt L) 2 m_is_tuple_of) := by
  obtain ⟨a, fd, F, hm⟩ := E.f_is_tuple_of.ex
  refine ⟨a, fd, F, hm, fn_okD F sc_is_tuple_of (fun fns bo O P cdv A outer s H Ex hr => ?_)⟩
  have hN : (n_is_tuple_of).Nodup := sc_is_tuple_of.nd
  exact (dss_one (ds_ret (de_and (de_callB call_isi hl_isi rfl E.b_isinstance PyProof.Rows.Boot.«isinstance» (da_cons (de_var 0) (da_cons (de_ty rfl E.b_tuple PyProof.Rows.Boot.«tuple») da_nil))) (de_one (de_cmp (op_eqD (u64 hr)) h_eq (de_callB call_len hl_len rfl E.b_len PyProof.Rows.Boot.«len» (da_cons (de_var 0) da_nil)) (de_var 1))))))
theorem c_is_tuple_of (E : En K mg base L) : Cal Pg w K mg base (nt L) 1 "is_tuple_of" ["value", "many"] m_is_tuple_of := by
  obtain ⟨a, fd, F, hm, G⟩ := o_is_tuple_of (Pg := Pg) (w := w) E
  exact ⟨a, fd, G, hm, F.kp, F.bindsN fun _ _ _ _ _ _ us hl => match us, hl with | [_, _], _ => rfl⟩
def n_wrong_in : List Str := ["value", "least", "most", "is_right", "index", "each"]
theorem sc_wrong_in : FnScope n_wrong_in ["value", "least", "most", "is_right"] (defScope s_wrong_in) := ⟨rfl, rfl, rfl, by decide +kernel, rfl, by decide +kernel, by decide +kernel⟩
noncomputable def v_wrong_in (cm : Option CM) : Sv := (dSeq (dIfS (dOr (dNot (dTst (dOpL (f2 fIsi) (dCons (dVar 0) (dCons (dC (.ty "tuple")) dNil))))) (dTst (dOp2 fLt (dOpL (f1 lenD) (dCons (dVar 0) dNil)) (dVar 1)))) (dRet (dOpL fLst (dCons (dC .non) dNil))) dNext) (dSeq (dFor (dEnum (dVar 0)) (bTup ((bName 4) :: (bName 5) :: [])) (dIfS (dOr (dTst (dOp2 fEq (dVar 4) (dVar 2))) (dNot (dTst (dCallV 3 (fun _ => none) cm (dCons (dSl (dVar 0) dNoPart (dPart (dVar 4))) (dCons (dVar 5) dNil)))))) (dRet (dOpL fLst (dCons (dVar 4) dNil))) dNext)) (dRet (dOpL fLst dNil))))
noncomputable def m_wrong_in (cm : CM) : Mir := fun ds b => clean (mir (v_wrong_in (some cm)) 4 6 ds b)
theorem hfit_wrong_in (n : Nat) (hn : n = 4 := by rfl) : ∀ cm ds b, ds.length ≠ n → m_wrong_in cm ds b = .bad := fun cm ds b h => by
  subst hn
  unfold m_wrong_in mir
  rw [if_neg h]
  rfl
theorem c_wrong_in (E : En K mg base L) (kc : Nat) : HFn Pg w K mg base (nt L) (kc + 1 + 1) "wrong_in" 4 kc m_wrong_in := by
  obtain ⟨a, fd, F, hm⟩ := E.f_wrong_in.ex
  refine hfn_of (dv := fun cm => v_wrong_in (some cm)) F sc_wrong_in hm (F.bindsN fun _ _ _ _ _ _ us hl => match us, hl with | [_, _, _, _], _ => rfl) fun bo O P cdv A outer s H Ex f' cm hcd hP hr => ?_
  have hN : (n_wrong_in).Nodup := sc_wrong_in.nd
  exact (dss_cons (ds_if (PW.pt (dw_or (dt_not (dt_val (de_callB call_isi hl_isi rfl E.b_isinstance PyProof.Rows.Boot.«isinstance» (da_cons (de_var 0) (da_cons (de_ty rfl E.b_tuple PyProof.Rows.Boot.«tuple») da_nil))))) (dw_or1 (dt_cmp op_lt h_lt (de_callB call_len hl_len rfl E.b_len PyProof.Rows.Boot.«len» (da_cons (de_var 0) da_nil)) (de_var 1))))) (dss_one (ds_ret (de_lst (da_cons de_non da_nil)))) dss_nil) (dss_cons (ds_for (passes_of rfl) rfl (di_enum rfl E.b_enumerate (de_var 0)) (fun _ => (dg_tup rfl (dgs_cons (dg_name hN) (dgs_cons (dg_name hN) dgs_nil)))) (fun _ => (dss_one (ds_if (PW.pt (dw_or (dt_cmp (op_eqD (u64 hr)) h_eq (de_var 4) (de_var 2)) (dw_or1 (dt_not (dt_val (de_callV 3 gm_none hP hr (by omega) (takes_of rfl rfl rfl rfl) (da_cons (de_slice (de_var 0) do_none (do_some (de_var 4))) (da_cons (de_var 5) da_nil)))))))) (dss_one (ds_ret (de_lst (da_cons (de_var 4) da_nil)))) dss_nil)))) (dss_one (ds_ret (de_lst da_nil)))))
def n_lowest : List Str := ["one", "two", "common"]
theorem sc_lowest : FnScope n_lowest ["one", "two"] (defScope s_lowest) := ⟨rfl, rfl, rfl, by decide +kernel, rfl, by decide +kernel, by decide +kernel⟩
noncomputable def v_lowest : Sv := (dSeq (dAsg 2 (dVal (dIf (dTst (dOp2 fGt (dVar 1) (dC (.int 0)))) (dOpL (f2 fGcd) (dCons (dVar 0) (dCons (dVar 1) dNil))) (dOp1 fNeg (dOpL (f2 fGcd) (dCons (dVar 0) (dCons (dVar 1) dNil))))))) (dRet (dOpL fTup (dCons (dOp2 fDiv (dVar 0) (dVar 2)) (dCons (dOp2 fDiv (dVar 1) (dVar 2)) dNil)))))
noncomputable def m_lowest : Mir := mir v_lowest 2 3
theorem fits_lowest : Fits 2 m_lowest := mir_fits
theorem o_lowest (E : En K mg base L) : ∃ a fd, FnP K "lowest" s_lowest a fd ∧ mg "lowest" = some (.ref a) ∧ FnOk Pg w K mg base (L2.CX Pg w) 1 a fd ["one", "two"] (spD K mg (nt L) 2 m_lowest) := by
  obtain ⟨a, fd, F, hm⟩ := E.f_lowest.ex
  refine ⟨a, fd, F, hm, fn_okD F sc_lowest (fun fns bo O P cdv A outer s H Ex hr => ?_)⟩
  have hN : (n_lowest).Nodup := sc_lowest.nd
  exact (dss_cons (ds_set (i := 2) hN (de_val (de_ifx (dt_cmp op_gt h_gt (de_var 1) de_int) (de_callF cr_gcd hl_gcd rfl E.g_gcd (da_cons (de_var 0) (da_cons (de_var 1) da_nil))) (de_neg (de_callF cr_gcd hl_gcd rfl E.g_gcd (da_cons (de_var 0) (da_cons (de_var 1) da_nil))))))) (dss_one (ds_ret (de_tup (da_cons (de_div (de_var 0) (de_var 2)) (da_cons (de_div (de_var 1) (de_var 2)) da_nil))))))
theorem c_lowest (E : En K mg base L) : Cal Pg w K mg base (nt L) 1 "lowest" ["one", "two"] m_lowest := by
  obtain ⟨a, fd, F, hm, G⟩ := o_lowest (Pg := Pg) (w := w) E
  exact ⟨a, fd, G, hm, F.kp, F.bindsN fun _ _ _ _ _ _ us hl => match us, hl with | [_, _], _ => rfl⟩
def n_is_less : List Str := ["one", "two"]
theorem sc_is_less : FnScope n_is_less ["one", "two"] (defScope s_is_less) := ⟨rfl, rfl, rfl, by decide +kernel, rfl, by decide +kernel, by decide +kernel⟩
noncomputable def v_is_less : Sv := (dRet (dOp2 fLt (dOp2 fMulG (dIx (dVar 0) (dC (.int 0))) (dIx (dVar 1) (dC (.int 1)))) (dOp2 fMulG (dIx (dVar 1) (dC (.int 0))) (dIx (dVar 0) (dC (.int 1))))))
noncomputable def m_is_less : Mir := mir v_is_less 2 2
theorem fits_is_less : Fits 2 m_is_less := mir_fits
theorem o_is_less (E : En K mg base L) : ∃ a fd, FnP K "is_less" s_is_less a fd ∧ mg "is_less" = some (.ref a) ∧ FnOk Pg w K mg base (L2.CX Pg w) 1 a fd ["one", "two"] (spD K mg (nt L) 2 m_is_less) := by
  obtain ⟨a, fd, F, hm⟩ := E.f_is_less.ex
  refine ⟨a, fd, F, hm, fn_okD F sc_is_less (fun fns bo O P cdv A outer s H Ex hr => ?_)⟩
  have hN : (n_is_less).Nodup := sc_is_less.nd
  exact (dss_one (ds_ret (de_cmp op_lt h_lt (de_mulG (de_sub_ix (de_var 0) de_int) (de_sub_ix (de_var 1) de_int)) (de_mulG (de_sub_ix (de_var 1) de_int) (de_sub_ix (de_var 0) de_int)))))
theorem c_is_less (E : En K mg base L) : Cal Pg w K mg base (nt L) 1 "is_less" ["one", "two"] m_is_less := by
  obtain ⟨a, fd, F, hm, G⟩ := o_is_less (Pg := Pg) (w := w) E
  exact ⟨a, fd, G, hm, F.kp, F.bindsN fun _ _ _ _ _ _ us hl => match us, hl with | [_, _], _ => rfl⟩
def n__law_pool : List Str := ["script", "lap", "cell", "stirred", "each"]
theorem sc__law_pool : FnScope n__law_pool ["script", "lap"] (defScope s__law_pool) := ⟨rfl, rfl, rfl, by decide +kernel, rfl, by decide +kernel, by decide +kernel⟩
noncomputable def v__law_pool : Sv := (dSeq (dAsg 2 (dVal (dIf (dTst (dOp2 fLt (dVar 1) (dOpL (f1 lenD) (dCons (dVar 0) dNil)))) (dOpL (f1 intD) (dCons (dIx (dVar 0) (dVar 1)) dNil)) (dOp2 fAddG (dOp2 fMulG (dC (.int 11863)) (dVar 1)) (dC (.int 1237)))))) (dSeq (dAsg 3 (dVal (dOp2 fAddG (dC (.int 101797)) (dOp2 fMulG (dC (.int 9013)) (dVar 1))))) (dSeq (dFor (dSeqI (dSl (dVar 0) dNoPart (dPart (dC (.int 63))))) (bName 4) (dAsg 3 (dVal (dOp2 fMod (dOpL (f1 intD) (dCons (dOp2 fAddG (dOp2 fAddG (dOp2 fMulG (dVar 3) (dC (.int 40699))) (dOp2 fMod (dOpL (f1 intD) (dCons (dVar 4) dNil)) (dC (.int 2147483587)))) (dC (.int 23))) dNil)) (dC (.int 2147483629)))))) (dSeq (dAsg 3 (dVal (dOp2 fMod (dOpL (f1 intD) (dCons (dOp2 fAddG (dOp2 fAddG (dOp2 fMulG (dVar 3) (dC (.int 97))) (dOp2 fMulG (dOp2 fMod (dOpL (f1 intD) (dCons (dVar 2) dNil)) (dC (.int 2147483587))) (dC (.int 31013)))) (dC (.int 7))) dNil)) (dC (.int 2147483629))))) (dRet (dOpL fLst (dCons (dIf (dOr (dTst (dOp2 fLt (dVar 2) (dC (.int 0)))) (dTst (dOp2 fGe (dVar 2) (dOp2 fPow (dC (.int 10)) (dC (.int 15)))))) (dOpL (f1 absD) (dCons (dVar 2) dNil)) (dC (.int 0))) (dCons (dVar 3) (dCons (dC (.int 0)) dNil)))))))))
noncomputable def m__law_pool : Mir := mir v__law_pool 2 5
theorem fits__law_pool : Fits 2 m__law_pool := mir_fits
theorem o__law_pool (E : En K mg base L) : ∃ a fd, FnP K "_law_pool" s__law_pool a fd ∧ mg "_law_pool" = some (.ref a) ∧ FnOk Pg w K mg base (L2.CX Pg w) 1 a fd ["script", "lap"] (spD K mg (nt L) 2 m__law_pool) := by
  obtain ⟨a, fd, F, hm⟩ := E.f__law_pool.ex
  refine ⟨a, fd, F, hm, fn_okD F sc__law_pool (fun fns bo O P cdv A outer s H Ex hr => ?_)⟩
  have hN : (n__law_pool).Nodup := sc__law_pool.nd
  exact (dss_cons (ds_set (i := 2) hN (de_val (de_ifx (dt_cmp op_lt h_lt (de_var 1) (de_callB call_len hl_len rfl E.b_len PyProof.Rows.Boot.«len» (da_cons (de_var 0) da_nil))) (de_callTy call_int1 hl_int rfl E.b_int PyProof.Rows.Boot.«int» (da_cons (de_sub_ix (de_var 0) (de_var 1)) da_nil)) (de_addG (de_mulG de_int (de_var 1)) de_int)))) (dss_cons (ds_set (i := 3) hN (de_val (de_addG de_int (de_mulG de_int (de_var 1))))) (dss_cons (ds_for (passes_of rfl) rfl (di_seq (de_slice (de_var 0) do_none (do_some de_int))) (fun _ => (dg_name hN)) (fun _ => (dss_one (ds_set (i := 3) hN (de_val (de_mod (de_callTy call_int1 hl_int rfl E.b_int PyProof.Rows.Boot.«int» (da_cons (de_addG (de_addG (de_mulG (de_var 3) de_int) (de_mod (de_callTy call_int1 hl_int rfl E.b_int PyProof.Rows.Boot.«int» (da_cons (de_var 4) da_nil)) de_int)) de_int) da_nil)) de_int)))))) (dss_cons (ds_set (i := 3) hN (de_val (de_mod (de_callTy call_int1 hl_int rfl E.b_int PyProof.Rows.Boot.«int» (da_cons (de_addG (de_addG (de_mulG (de_var 3) de_int) (de_mulG (de_mod (de_callTy call_int1 hl_int rfl E.b_int PyProof.Rows.Boot.«int» (da_cons (de_var 2) da_nil)) de_int) de_int)) de_int) da_nil)) de_int))) (dss_one (ds_ret (de_lst (da_cons (de_ifx (PW.pt (dw_or (dt_cmp op_lt h_lt (de_var 2) de_int) (dw_or1 (dt_cmp op_ge h_ge (de_var 2) (de_pow de_int de_int))))) (de_callB call_abs hl_abs rfl E.b_abs PyProof.Rows.Boot.«abs» (da_cons (de_var 2) da_nil)) de_int) (da_cons (de_var 3) (da_cons de_int da_nil))))))))))
theorem c__law_pool (E : En K mg base L) : Cal Pg w K mg base (nt L) 1 "_law_pool" ["script", "lap"] m__law_pool := by
  obtain ⟨a, fd, F, hm, G⟩ := o__law_pool (Pg := Pg) (w := w) E
  exact ⟨a, fd, G, hm, F.kp, F.bindsN fun _ _ _ _ _ _ us hl => match us, hl with | [_, _], _ => rfl⟩
def n__law_below : List Str := ["pool", "many", "figure", "stirred"]
theorem sc__law_below : FnScope n__law_below ["pool", "many"] (defScope s__law_below) := ⟨rfl, rfl, rfl, by decide +kernel, rfl, by decide +kernel, by decide +kernel⟩
noncomputable def v__law_below : Sv := (dSeq (dIfS (dTst (dOp2 fGt (dIx (dVar 0) (dC (.int 0))) (dC (.int 0)))) (dSeq (dSetIx2 0 2 (dC (.int 0)) (dOpL (f2 fDivmod) (dCons (dIx (dVar 0) (dC (.int 0))) (dCons (dVar 1) dNil)))) (dRet (dVar 2))) dNext) (dSeq (dSetIx 0 (dC (.int 2)) (dOp2 fAddG (dIx (dVar 0) (dC (.int 2))) (dC (.int 1)))) (dSeq (dAsg 3 (dVal (dOp2 fMod (dOpL (f1 intD) (dCons (dOp2 fAddG (dOp2 fAddG (dOp2 fMulG (dIx (dVar 0) (dC (.int 1))) (dC (.int 48677))) (dOp2 fMulG (dC (.int 3413)) (dIx (dVar 0) (dC (.int 2))))) (dC (.int 61))) dNil)) (dC (.int 2147483563))))) (dSeq (dSetIx 0 (dC (.int 1)) (dOp2 fMod (dOpL (f1 intD) (dCons (dOp2 fAddG (dOp2 fMulG (dVar 3) (dOp2 fAddG (dOp2 fMod (dOpL (f1 intD) (dCons (dVar 3) dNil)) (dC (.int 4001))) (dC (.int 17911)))) (dIx (dVar 0) (dC (.int 2)))) dNil)) (dC (.int 2147483563)))) (dRet (dOp2 fMod (dOpL (f1 intD) (dCons (dOp2 fDiv (dIx (dVar 0) (dC (.int 1))) (dC (.int 367))) dNil)) (dVar 1)))))))
noncomputable def m__law_below : Mir := mir v__law_below 2 4
theorem fits__law_below : Fits 2 m__law_below := mir_fits
theorem o__law_below (E : En K mg base L) : ∃ a fd, FnP K "_law_below" s__law_below a fd ∧ mg "_law_below" = some (.ref a) ∧ FnOk Pg w K mg base (L2.CX Pg w) 1 a fd ["pool", "many"] (spD K mg (nt L) 2 m__law_below) := by
  obtain ⟨a, fd, F, hm⟩ := E.f__law_below.ex
  refine ⟨a, fd, F, hm, fn_okD F sc__law_below (fun fns bo O P cdv A outer s H Ex hr => ?_)⟩
  have hN : (n__law_below).Nodup := sc__law_below.nd
  exact (dss_cons (ds_if (dt_cmp op_gt h_gt (de_sub_ix (de_var 0) de_int) de_int) (dss_cons (ds_setIx2 0 2 rfl hN (de_callB call_divmod hl_divmod rfl E.b_divmod PyProof.Rows.Boot.«divmod» (da_cons (de_sub_ix (de_var 0) de_int) (da_cons (de_var 1) da_nil))) de_int) (dss_one (ds_ret (de_var 2)))) dss_nil) (dss_cons (ds_setIx 0 (de_addG (de_sub_ix (de_var 0) de_int) de_int) de_int) (dss_cons (ds_set (i := 3) hN (de_val (de_mod (de_callTy call_int1 hl_int rfl E.b_int PyProof.Rows.Boot.«int» (da_cons (de_addG (de_addG (de_mulG (de_sub_ix (de_var 0) de_int) de_int) (de_mulG de_int (de_sub_ix (de_var 0) de_int))) de_int) da_nil)) de_int))) (dss_cons (ds_setIx 0 (de_mod (de_callTy call_int1 hl_int rfl E.b_int PyProof.Rows.Boot.«int» (da_cons (de_addG (de_mulG (de_var 3) (de_addG (de_mod (de_callTy call_int1 hl_int rfl E.b_int PyProof.Rows.Boot.«int» (da_cons (de_var 3) da_nil)) de_int) de_int)) (de_sub_ix (de_var 0) de_int)) da_nil)) de_int) de_int) (dss_one (ds_ret (de_mod (de_callTy call_int1 hl_int rfl E.b_int PyProof.Rows.Boot.«int» (da_cons (de_div (de_sub_ix (de_var 0) de_int) de_int) da_nil)) (de_var 1))))))))
theorem c__law_below (E : En K mg base L) : Cal Pg w K mg base (nt L) 1 "_law_below" ["pool", "many"] m__law_below := by
  obtain ⟨a, fd, F, hm, G⟩ := o__law_below (Pg := Pg) (w := w) E
  exact ⟨a, fd, G, hm, F.kp, F.bindsN fun _ _ _ _ _ _ us hl => match us, hl with | [_, _], _ => rfl⟩
def n__law_same : List Str := ["told", "due", "fits", "k"]
theorem sc__law_same : FnScope n__law_same ["told", "due"] (defScope s__law_same) := ⟨rfl, rfl, rfl, by decide +kernel, rfl, by decide +kernel, by decide +kernel⟩
noncomputable def v__law_same (self : Mir) : Sv := (dSeq (dIfS (dOr (dTst (dOpL (f2 fIsi) (dCons (dVar 1) (dCons (dC (.ty "tuple")) dNil)))) (dTst (dOpL (f2 fIsi) (dCons (dVar 1) (dCons (dC (.ty "list")) dNil))))) (dSeq (dAsg 2 (dVal (dIf (dTst (dOpL (f2 fIsi) (dCons (dVar 1) (dCons (dC (.ty "tuple")) dNil)))) (dOpL (f2 fIsi) (dCons (dVar 0) (dCons (dC (.ty "tuple")) dNil))) (dOpL (f2 fIsi) (dCons (dVar 0) (dCons (dC (.ty "list")) dNil)))))) (dRet (dAndV (dVar 2) (dAndV (dOp2 fEq (dOpL (f1 lenD) (dCons (dVar 0) dNil)) (dOpL (f1 lenD) (dCons (dVar 1) dNil))) (dOpL (f1 allD) (dCons (dComp (dRng1 (dOpL (f1 lenD) (dCons (dVar 1) dNil))) (bName 3) dYes (dCall self (dCons (dIx (dVar 0) (dVar 3)) (dCons (dIx (dVar 1) (dVar 3)) dNil))) [3]) dNil)))))) dNext) (dSeq (dIfS (dTst (dOp2 fIsN (dVar 1) (dC .non))) (dRet (dOp2 fIsN (dVar 0) (dC .non))) dNext) (dSeq (dIfS (dTst (dOpL (f2 fIsi) (dCons (dVar 1) (dCons (dC (.ty "bool")) dNil)))) (dRet (dAndV (dOpL (f2 fIsi) (dCons (dVar 0) (dCons (dC (.ty "bool")) dNil))) (dOp2 fEq (dVar 0) (dVar 1)))) dNext) (dSeq (dIfS (dTst (dOpL (f2 fIsi) (dCons (dVar 1) (dCons (dC (.ty "int")) dNil)))) (dRet (dAndV (dOpL (f2 fIsi) (dCons (dVar 0) (dCons (dC (.ty "int")) dNil))) (dAndV (dNotV (dOpL (f2 fIsi) (dCons (dVar 0) (dCons (dC (.ty "bool")) dNil)))) (dOp2 fEq (dVar 0) (dVar 1))))) dNext) (dRet (dAndV (dOpL (f2 fIsi) (dCons (dVar 1) (dCons (dC (.ty "str")) dNil))) (dAndV (dOpL (f2 fIsi) (dCons (dVar 0) (dCons (dC (.ty "str")) dNil))) (dOp2 fEq (dVar 0) (dVar 1)))))))))
noncomputable def m__law_same : Nat → Mir
  | 0 => fun _ _ => .bad
  | k + 1 => mir (v__law_same (m__law_same k)) 2 4
theorem fits__law_same0 : ∀ {k : Nat}, Fits 2 (m__law_same k)
  | 0 => fun _ _ _ => rfl
  | k + 1 => mir_fits
theorem fits__law_same : Fits 2 (m__law_same 8) := fits__law_same0
theorem cn__law_same (E : En K mg base L) : ∀ k : Nat, Cal Pg w K mg base (nt L) (1 + k) "_law_same" ["told", "due"] (m__law_same k)
  | 0 => by
    obtain ⟨a, fd, F, hm⟩ := E.f__law_same.ex
    exact ⟨a, fd, fn_bad F sc__law_same, hm, F.kp, F.bindsN fun _ _ _ _ _ _ us hl => match us, hl with | [_, _], _ => rfl⟩
  | k + 1 => by
    have cr := cn__law_same E k
    have mr : Fits 2 (m__law_same k) := fits__law_same0
    obtain ⟨a, fd, F, hm⟩ := E.f__law_same.ex
    refine ⟨a, fd, fn_okD F sc__law_same (fun fns bo O P cdv A outer s H Ex hr => ?_), hm, F.kp, F.bindsN fun _ _ _ _ _ _ us hl => match us, hl with | [_, _], _ => rfl⟩
    have hN : (n__law_same).Nodup := sc__law_same.nd
    generalize hself : m__law_same k = self at cr mr ⊢
    exact (dss_cons (ds_if (PW.pt (dw_or (dt_val (de_callB call_isi hl_isi rfl E.b_isinstance PyProof.Rows.Boot.«isinstance» (da_cons (de_var 1) (da_cons (de_ty rfl E.b_tuple PyProof.Rows.Boot.«tuple») da_nil)))) (dw_or1 (dt_val (de_callB call_isi hl_isi rfl E.b_isinstance PyProof.Rows.Boot.«isinstance» (da_cons (de_var 1) (da_cons (de_ty rfl E.b_list PyProof.Rows.Boot.«list») da_nil))))))) (dss_cons (ds_set (i := 2) hN (de_val (de_ifx (dt_val (de_callB call_isi hl_isi rfl E.b_isinstance PyProof.Rows.Boot.«isinstance» (da_cons (de_var 1) (da_cons (de_ty rfl E.b_tuple PyProof.Rows.Boot.«tuple») da_nil)))) (de_callB call_isi hl_isi rfl E.b_isinstance PyProof.Rows.Boot.«isinstance» (da_cons (de_var 0) (da_cons (de_ty rfl E.b_tuple PyProof.Rows.Boot.«tuple») da_nil))) (de_callB call_isi hl_isi rfl E.b_isinstance PyProof.Rows.Boot.«isinstance» (da_cons (de_var 0) (da_cons (de_ty rfl E.b_list PyProof.Rows.Boot.«list») da_nil)))))) (dss_one (ds_ret (de_and (de_var 2) (de_and (de_cmp (op_eqD (u64 hr)) h_eq (de_callB call_len hl_len rfl E.b_len PyProof.Rows.Boot.«len» (da_cons (de_var 0) da_nil)) (de_callB call_len hl_len rfl E.b_len PyProof.Rows.Boot.«len» (da_cons (de_var 1) da_nil))) (de_one (de_callB (cr_all rfl) hl_all rfl E.b_all PyProof.Rows.Boot.«all» (da_cons (de_lc (own := [("k", 3)]) rfl hN (di_dj (di_rng1 rfl E.b_range (de_callB call_len hl_len rfl E.b_len PyProof.Rows.Boot.«len» (da_cons (de_var 1) da_nil)))) (blkOk_by rfl) (by decide) (fun O P s H C cl fp => (dg_name hN)) (fun O P s H C cl fp => dts_nil) (fun O P s H C cl fp => (de_call cr mr hr L2.takes0 rfl (da_cons (de_sub_ix (de_var 0) (de_var 3)) (da_cons (de_sub_ix (de_var 1) (de_var 3)) da_nil))))) da_nil)))))))) dss_nil) (dss_cons (ds_if (dt_cmp op_isN h_isN (de_var 1) de_non) (dss_one (ds_ret (de_cmp op_isN h_isN (de_var 0) de_non))) dss_nil) (dss_cons (ds_if (dt_val (de_callB call_isi hl_isi rfl E.b_isinstance PyProof.Rows.Boot.«isinstance» (da_cons (de_var 1) (da_cons (de_ty rfl E.b_bool PyProof.Rows.Boot.«bool») da_nil)))) (dss_one (ds_ret (de_and (de_callB call_isi hl_isi rfl E.b_isinstance PyProof.Rows.Boot.«isinstance» (da_cons (de_var 0) (da_cons (de_ty rfl E.b_bool PyProof.Rows.Boot.«bool») da_nil))) (de_one (de_cmp (op_eqD (u64 hr)) h_eq (de_var 0) (de_var 1)))))) dss_nil) (dss_cons (ds_if (dt_val (de_callB call_isi hl_isi rfl E.b_isinstance PyProof.Rows.Boot.«isinstance» (da_cons (de_var 1) (da_cons (de_ty rfl E.b_int PyProof.Rows.Boot.«int») da_nil)))) (dss_one (ds_ret (de_and (de_callB call_isi hl_isi rfl E.b_isinstance PyProof.Rows.Boot.«isinstance» (da_cons (de_var 0) (da_cons (de_ty rfl E.b_int PyProof.Rows.Boot.«int») da_nil))) (de_and (de_not (de_callB call_isi hl_isi rfl E.b_isinstance PyProof.Rows.Boot.«isinstance» (da_cons (de_var 0) (da_cons (de_ty rfl E.b_bool PyProof.Rows.Boot.«bool») da_nil)))) (de_one (de_cmp (op_eqD (u64 hr)) h_eq (de_var 0) (de_var 1))))))) dss_nil) (dss_one (ds_ret (de_and (de_callB call_isi hl_isi rfl E.b_isinstance PyProof.Rows.Boot.«isinstance» (da_cons (de_var 1) (da_cons (de_ty rfl E.b_str PyProof.Rows.Boot.«str») da_nil))) (de_and (de_callB call_isi hl_isi rfl E.b_isinstance PyProof.Rows.Boot.«isinstance» (da_cons (de_var 0) (da_cons (de_ty rfl E.b_str PyProof.Rows.Boot.«str») da_nil))) (de_one (de_cmp (op_eqD (u64 hr)) h_eq (de_var 0) (de_var 1)))))))))))
theorem c__law_same (E : En K mg base L) : Cal Pg w K mg base (nt L) 9 "_law_same" ["told", "due"] (m__law_same 8) := (cn__law_same E 8).mono (by decide)
def n__law_fr : List Str := ["n", "m", "low", "high"]
theorem sc__law_fr : FnScope n__law_fr ["n", "m"] (defScope s__law_fr) := ⟨rfl, rfl, rfl, by decide +kernel, rfl, by decide +kernel, by decide +kernel⟩
noncomputable def v__law_fr : Sv := (dSeq (dPar2 2 3 (dVal (dOpL (f1 absD) (dCons (dVar 1) dNil))) (dVal (dOpL (f1 absD) (dCons (dVar 0) dNil)))) (dSeq (dWhile (dTst (dOp2 fGt (dVar 3) (dC (.int 0)))) (dPar2 2 3 (dVal (dVar 3)) (dVal (dOp2 fMod (dOpL (f1 intD) (dCons (dVar 2) dNil)) (dVar 3))))) (dRet (dIf (dTst (dOp2 fGt (dVar 1) (dC (.int 0)))) (dOpL fTup (dCons (dOp2 fDiv (dVar 0) (dVar 2)) (dCons (dOp2 fDiv (dVar 1) (dVar 2)) dNil))) (dOpL fTup (dCons (dOp2 fDiv (dOp1 fNeg (dVar 0)) (dVar 2)) (dCons (dOp2 fDiv (dOp1 fNeg (dVar 1)) (dVar 2)) dNil)))))))
noncomputable def m__law_fr : Mir := mir v__law_fr 2 4
theorem fits__law_fr : Fits 2 m__law_fr := mir_fits
theorem o__law_fr (E : En K mg base L) : ∃ a fd, FnP K "_law_fr" s__law_fr a fd ∧ mg "_law_fr" = some (.ref a) ∧ FnOk Pg w K mg base (L2.CX Pg w) 1 a fd ["n", "m"] (spD K mg (nt L) 2 m__law_fr) := by
  obtain ⟨a, fd, F, hm⟩ := E.f__law_fr.ex
  refine ⟨a, fd, F, hm, fn_okD F sc__law_fr (fun fns bo O P cdv A outer s H Ex hr => ?_)⟩
  have hN : (n__law_fr).Nodup := sc__law_fr.nd
  exact (dss_cons (ds_par2 2 3 rfl hN (de_val (de_callB call_abs hl_abs rfl E.b_abs PyProof.Rows.Boot.«abs» (da_cons (de_var 1) da_nil))) (fun O => (de_val (de_callB call_abs hl_abs rfl E.b_abs PyProof.Rows.Boot.«abs» (da_cons (de_var 0) da_nil))))) (dss_cons (ds_while (passes_of rfl) (dt_cmp op_gt h_gt (de_var 3) de_int) (dss_one (ds_par2 2 3 rfl hN (de_val (de_var 3)) (fun O => (de_val (de_mod (de_callTy call_int1 hl_int rfl E.b_int PyProof.Rows.Boot.«int» (da_cons (de_var 2) da_nil)) (de_var 3))))))) (dss_one (ds_ret (de_ifx (dt_cmp op_gt h_gt (de_var 1) de_int) (de_tup (da_cons (de_div (de_var 0) (de_var 2)) (da_cons (de_div (de_var 1) (de_var 2)) da_nil))) (de_tup (da_cons (de_div (de_neg (de_var 0)) (de_var 2)) (da_cons (de_div (de_neg (de_var 1)) (de_var 2)) da_nil))))))))
theorem c__law_fr (E : En K mg base L) : Cal Pg w K mg base (nt L) 1 "_law_fr" ["n", "m"] m__law_fr := by
  obtain ⟨a, fd, F, hm, G⟩ := o__law_fr (Pg := Pg) (w := w) E
  exact ⟨a, fd, G, hm, F.kp, F.bindsN fun _ _ _ _ _ _ us hl => match us, hl with | [_, _], _ => rfl⟩
def n__law_is_less : List Str := ["one", "two"]
theorem sc__law_is_less : FnScope n__law_is_less ["one", "two"] (defScope s__law_is_less) := ⟨rfl, rfl, rfl, by decide +kernel, rfl, by decide +kernel, by decide +kernel⟩
noncomputable def v__law_is_less : Sv := (dRet (dOp2 fLt (dOp2 fMulG (dIx (dVar 0) (dC (.int 0))) (dIx (dVar 1) (dC (.int 1)))) (dOp2 fMulG (dIx (dVar 1) (dC (.int 0))) (dIx (dVar 0) (dC (.int 1))))))
noncomputable def m__law_is_less : Mir := mir v__law_is_less 2 2
theorem fits__law_is_less : Fits 2 m__law_is_less := mir_fits
theorem o__law_is_less (E : En K mg base L) : ∃ a fd, FnP K "_law_is_less" s__law_is_less a fd ∧ mg "_law_is_less" = some (.ref a) ∧ FnOk Pg w K mg base (L2.CX Pg w) 1 a fd ["one", "two"] (spD K mg (nt L) 2 m__law_is_less) := by
  obtain ⟨a, fd, F, hm⟩ := E.f__law_is_less.ex
  refine ⟨a, fd, F, hm, fn_okD F sc__law_is_less (fun fns bo O P cdv A outer s H Ex hr => ?_)⟩
  have hN : (n__law_is_less).Nodup := sc__law_is_less.nd
  exact (dss_one (ds_ret (de_cmp op_lt h_lt (de_mulG (de_sub_ix (de_var 0) de_int) (de_sub_ix (de_var 1) de_int)) (de_mulG (de_sub_ix (de_var 1) de_int) (de_sub_ix (de_var 0) de_int)))))
theorem c__law_is_less (E : En K mg base L) : Cal Pg w K mg base (nt L) 1 "_law_is_less" ["one", "two"] m__law_is_less := by
  obtain ⟨a, fd, F, hm, G⟩ := o__law_is_less (Pg := Pg) (w := w) E
  exact ⟨a, fd, G, hm, F.kp, F.bindsN fun _ _ _ _ _ _ us hl => match us, hl with | [_, _], _ => rfl⟩
def n_is_pair : List Str := ["value"]
theorem sc_is_pair : FnScope n_is_pair ["value"] (defScope s_is_pair) := ⟨rfl, rfl, rfl, by decide +kernel, rfl, by decide +kernel, by decide +kernel⟩
noncomputable def v_is_pair : Sv := (dRet (dCall m_is_tuple_of (dCons (dVar 0) (dCons (dC (.int 2)) dNil))))
noncomputable def m_is_pair : Mir := mir v_is_pair 1 1
theorem fits_is_pair : Fits 1 m_is_pair := mir_fits
theorem o_is_pair (E : En K mg base L) : ∃ a fd, FnP K "is_pair" s_is_pair a fd ∧ mg "is_pair" = some (.ref a) ∧ FnOk Pg w K mg base (L2.CX Pg w) 2 a fd ["value"] (spD K mg (nt L) 1 m_is_pair) := by
  obtain ⟨a, fd, F, hm⟩ := E.f_is_pair.ex
  refine ⟨a, fd, F, hm, fn_okD F sc_is_pair (fun fns bo O P cdv A outer s H Ex hr => ?_)⟩
  have hN : (n_is_pair).Nodup := sc_is_pair.nd
  exact (dss_one (ds_ret (de_call ((c_is_tuple_of E).mono (by decide)) fits_is_tuple_of hr (takes_of rfl rfl rfl rfl) rfl (da_cons (de_var 0) (da_cons de_int da_nil)))))
theorem c_is_pair (E : En K mg base L) : Cal Pg w K mg base (nt L) 2 "is_pair" ["value"] m_is_pair := by
  obtain ⟨a, fd, F, hm, G⟩ := o_is_pair (Pg := Pg) (w := w) E
  exact ⟨a, fd, G, hm, F.kp, F.bindsN fun _ _ _ _ _ _ us hl => match us, hl with | [_], _ => rfl⟩
def n_plus : List Str := ["one", "two"]
theorem sc_plus : FnScope n_plus ["one", "two"] (defScope s_plus) := ⟨rfl, rfl, rfl, by decide +kernel, rfl, by decide +kernel, by decide +kernel⟩
noncomputable def v_plus : Sv := (dRet (dCall m_lowest (dCons (dOp2 fAddG (dOp2 fMulG (dIx (dVar 0) (dC (.int 0))) (dIx (dVar 1) (dC (.int 1)))) (dOp2 fMulG (dIx (dVar 1) (dC (.int 0))) (dIx (dVar 0) (dC (.int 1))))) (dCons (dOp2 fMulG (dIx (dVar 0) (dC (.int 1))) (dIx (dVar 1) (dC (.int 1)))) dNil))))
noncomputable def m_plus : Mir := mir v_plus 2 2
theorem fits_plus : Fits 2 m_plus := mir_fits
theorem o_plus (E : En K mg base L) : ∃ a fd, FnP K "plus" s_plus a fd ∧ mg "plus" = some (.ref a) ∧ FnOk Pg w K mg base (L2.CX Pg w) 2 a fd ["one", "two"] (spD K mg (nt L) 2 m_plus) := by
  obtain ⟨a, fd, F, hm⟩ := E.f_plus.ex
  refine ⟨a, fd, F, hm, fn_okD F sc_plus (fun fns bo O P cdv A outer s H Ex hr => ?_)⟩
  have hN : (n_plus).Nodup := sc_plus.nd
  exact (dss_one (ds_ret (de_call ((c_lowest E).mono (by decide)) fits_lowest hr (takes_of rfl rfl rfl rfl) rfl (da_cons (de_addG (de_mulG (de_sub_ix (de_var 0) de_int) (de_sub_ix (de_var 1) de_int)) (de_mulG (de_sub_ix (de_var 1) de_int) (de_sub_ix (de_var 0) de_int))) (da_cons (de_mulG (de_sub_ix (de_var 0) de_int) (de_sub_ix (de_var 1) de_int)) da_nil)))))
theorem c_plus (E : En K mg base L) : Cal Pg w K mg base (nt L) 2 "plus" ["one", "two"] m_plus := by
  obtain ⟨a, fd, F, hm, G⟩ := o_plus (Pg := Pg) (w := w) E
  exact ⟨a, fd, G, hm, F.kp, F.bindsN fun _ _ _ _ _ _ us hl => match us, hl with | [_, _], _ => rfl⟩
def n_minus : List Str := ["one", "two"]
theorem sc_minus : FnScope n_minus ["one", "two"] (defScope s_minus) := ⟨rfl, rfl, rfl, by decide +kernel, rfl, by decide +kernel, by decide +kernel⟩
noncomputable def v_minus : Sv := (dRet (dCall m_lowest (dCons (dOp2 fSub (dOp2 fMulG (dIx (dVar 0) (dC (.int 0))) (dIx (dVar 1) (dC (.int 1)))) (dOp2 fMulG (dIx (dVar 1) (dC (.int 0))) (dIx (dVar 0) (dC (.int 1))))) (dCons (dOp2 fMulG (dIx (dVar 0) (dC (.int 1))) (dIx (dVar 1) (dC (.int 1)))) dNil))))
noncomputable def m_minus : Mir := mir v_minus 2 2
theorem fits_minus : Fits 2 m_minus := mir_fits
theorem o_minus (E : En K mg base L) : ∃ a fd, FnP K "minus" s_minus a fd ∧ mg "minus" = some (.ref a) ∧ FnOk Pg w K mg base (L2.CX Pg w) 2 a fd ["one", "two"] (spD K mg (nt L) 2 m_minus) := by
  obtain ⟨a, fd, F, hm⟩ := E.f_minus.ex
  refine ⟨a, fd, F, hm, fn_okD F sc_minus (fun fns bo O P cdv A outer s H Ex hr => ?_)⟩
  have hN : (n_minus).Nodup := sc_minus.nd
  exact (dss_one (ds_ret (de_call ((c_lowest E).mono (by decide)) fits_lowest hr (takes_of rfl rfl rfl rfl) rfl (da_cons (de_sub (de_mulG (de_sub_ix (de_var 0) de_int) (de_sub_ix (de_var 1) de_int)) (de_mulG (de_sub_ix (de_var 1) de_int) (de_sub_ix (de_var 0) de_int))) (da_cons (de_mulG (de_sub_ix (de_var 0) de_int) (de_sub_ix (de_var 1) de_int)) da_nil)))))
theorem c_minus (E : En K mg base L) : Cal Pg w K mg base (nt L) 2 "minus" ["one", "two"] m_minus := by
  obtain ⟨a, fd, F, hm, G⟩ := o_minus (Pg := Pg) (w := w) E
  exact ⟨a, fd, G, hm, F.kp, F.bindsN fun _ _ _ _ _ _ us hl => match us, hl with | [_, _], _ => rfl⟩
def n_over : List Str := ["one", "two"]
theorem sc_over : FnScope n_over ["one", "two"] (defScope s_over) := ⟨rfl, rfl, rfl, by decide +kernel, rfl, by decide +kernel, by decide +kernel⟩
noncomputable def v_over : Sv := (dRet (dCall m_lowest (dCons (dOp2 fMulG (dIx (dVar 0) (dC (.int 0))) (dIx (dVar 1) (dC (.int 1)))) (dCons (dOp2 fMulG (dIx (dVar 0) (dC (.int 1))) (dIx (dVar 1) (dC (.int 0)))) dNil))))
noncomputable def m_over : Mir := mir v_over 2 2
theorem fits_over : Fits 2 m_over := mir_fits
theorem o_over (E : En K mg base L) : ∃ a fd, FnP K "over" s_over a fd ∧ mg "over" = some (.ref a) ∧ FnOk Pg w K mg base (L2.CX Pg w) 2 a fd ["one", "two"] (spD K mg (nt L) 2 m_over) := by
  obtain ⟨a, fd, F, hm⟩ := E.f_over.ex
  refine ⟨a, fd, F, hm, fn_okD F sc_over (fun fns bo O P cdv A outer s H Ex hr => ?_)⟩
  have hN : (n_over).Nodup := sc_over.nd
  exact (dss_one (ds_ret (de_call ((c_lowest E).mono (by decide)) fits_lowest hr (takes_of rfl rfl rfl rfl) rfl (da_cons (de_mulG (de_sub_ix (de_var 0) de_int) (de_sub_ix (de_var 1) de_int)) (da_cons (de_mulG (de_sub_ix (de_var 0) de_int) (de_sub_ix (de_var 1) de_int)) da_nil)))))
theorem c_over (E : En K mg base L) : Cal Pg w K mg base (nt L) 2 "over" ["one", "two"] m_over := by
  obtain ⟨a, fd, F, hm, G⟩ := o_over (Pg := Pg) (w := w) E
  exact ⟨a, fd, G, hm, F.kp, F.bindsN fun _ _ _ _ _ _ us hl => match us, hl with | [_, _], _ => rfl⟩
def n_lesser : List Str := ["one", "two"]
theorem sc_lesser : FnScope n_lesser ["one", "two"] (defScope s_lesser) := ⟨rfl, rfl, rfl, by decide +kernel, rfl, by decide +kernel, by decide +kernel⟩
noncomputable def v_lesser : Sv := (dRet (dIf (dTst (dCall m_is_less (dCons (dVar 1) (dCons (dVar 0) dNil)))) (dVar 1) (dVar 0)))
noncomputable def m_lesser : Mir := mir v_lesser 2 2
theorem fits_lesser : Fits 2 m_lesser := mir_fits
theorem o_lesser (E : En K mg base L) : ∃ a fd, FnP K "lesser" s_lesser a fd ∧ mg "lesser" = some (.ref a) ∧ FnOk Pg w K mg base (L2.CX Pg w) 2 a fd ["one", "two"] (spD K mg (nt L) 2 m_lesser) := by
  obtain ⟨a, fd, F, hm⟩ := E.f_lesser.ex
  refine ⟨a, fd, F, hm, fn_okD F sc_lesser (fun fns bo O P cdv A outer s H Ex hr => ?_)⟩
  have hN : (n_lesser).Nodup := sc_lesser.nd
  exact (dss_one (ds_ret (de_ifx (dt_val (de_call ((c_is_less E).mono (by decide)) fits_is_less hr (takes_of rfl rfl rfl rfl) rfl (da_cons (de_var 1) (da_cons (de_var 0) da_nil)))) (de_var 1) (de_var 0))))
theorem c_lesser (E : En K mg base L) : Cal Pg w K mg base (nt L) 2 "lesser" ["one", "two"] m_lesser := by
  obtain ⟨a, fd, F, hm, G⟩ := o_lesser (Pg := Pg) (w := w) E
  exact ⟨a, fd, G, hm, F.kp, F.bindsN fun _ _ _ _ _ _ us hl => match us, hl with | [_, _], _ => rfl⟩
def n_greater : List Str := ["one", "two"]
theorem sc_greater : FnScope n_greater ["one", "two"] (defScope s_greater) := ⟨rfl, rfl, rfl, by decide +kernel, rfl, by decide +kernel, by decide +kernel⟩
noncomputable def v_greater : Sv := (dRet (dIf (dTst (dCall m_is_less (dCons (dVar 0) (dCons (dVar 1) dNil)))) (dVar 1) (dVar 0)))
noncomputable def m_greater : Mir := mir v_greater 2 2
theorem fits_greater : Fits 2 m_greater := mir_fits
theorem o_greater (E : En K mg base L) : ∃ a fd, FnP K "greater" s_greater a fd ∧ mg "greater" = some (.ref a) ∧ FnOk Pg w K mg base (L2.CX Pg w) 2 a fd ["one", "two"] (spD K mg (nt L) 2 m_greater) := by
  obtain ⟨a, fd, F, hm⟩ := E.f_greater.ex
  refine ⟨a, fd, F, hm, fn_okD F sc_greater (fun fns bo O P cdv A outer s H Ex hr => ?_)⟩
  have hN : (n_greater).Nodup := sc_greater.nd
  exact (dss_one (ds_ret (de_ifx (dt_val (de_call ((c_is_less E).mono (by decide)) fits_is_less hr (takes_of rfl rfl rfl rfl) rfl (da_cons (de_var 0) (da_cons (de_var 1) da_nil)))) (de_var 1) (de_var 0))))
theorem c_greater (E : En K mg base L) : Cal Pg w K mg base (nt L) 2 "greater" ["one", "two"] m_greater := by
  obtain ⟨a, fd, F, hm, G⟩ := o_greater (Pg := Pg) (w := w) E
  exact ⟨a, fd, G, hm, F.kp, F.bindsN fun _ _ _ _ _ _ us hl => match us, hl with | [_, _], _ => rfl⟩
def n__law_one : List Str := ["pool", "some"]
theorem sc__law_one : FnScope n__law_one ["pool", "some"] (defScope s__law_one) := ⟨rfl, rfl, rfl, by decide +kernel, rfl, by decide +kernel, by decide +kernel⟩
noncomputable def v__law_one : Sv := (dRet (dIx (dVar 1) (dCall m__law_below (dCons (dVar 0) (dCons (dOpL (f1 lenD) (dCons (dVar 1) dNil)) dNil)))))
noncomputable def m__law_one : Mir := mir v__law_one 2 2
theorem fits__law_one : Fits 2 m__law_one := mir_fits
theorem o__law_one (E : En K mg base L) : ∃ a fd, FnP K "_law_one" s__law_one a fd ∧ mg "_law_one" = some (.ref a) ∧ FnOk Pg w K mg base (L2.CX Pg w) 2 a fd ["pool", "some"] (spD K mg (nt L) 2 m__law_one) := by
  obtain ⟨a, fd, F, hm⟩ := E.f__law_one.ex
  refine ⟨a, fd, F, hm, fn_okD F sc__law_one (fun fns bo O P cdv A outer s H Ex hr => ?_)⟩
  have hN : (n__law_one).Nodup := sc__law_one.nd
  exact (dss_one (ds_ret (de_sub_ix (de_var 1) (de_call ((c__law_below E).mono (by decide)) fits__law_below hr (takes_of rfl rfl rfl rfl) rfl (da_cons (de_var 0) (da_cons (de_callB call_len hl_len rfl E.b_len PyProof.Rows.Boot.«len» (da_cons (de_var 1) da_nil)) da_nil))))))
theorem c__law_one (E : En K mg base L) : Cal Pg w K mg base (nt L) 2 "_law_one" ["pool", "some"] m__law_one := by
  obtain ⟨a, fd, F, hm, G⟩ := o__law_one (Pg := Pg) (w := w) E
  exact ⟨a, fd, G, hm, F.kp, F.bindsN fun _ _ _ _ _ _ us hl => match us, hl with | [_, _], _ => rfl⟩
def n__law_plus : List Str := ["one", "two"]
theorem sc__law_plus : FnScope n__law_plus ["one", "two"] (defScope s__law_plus) := ⟨rfl, rfl, rfl, by decide +kernel, rfl, by decide +kernel, by decide +kernel⟩
noncomputable def v__law_plus : Sv := (dRet (dCall m__law_fr (dCons (dOp2 fAddG (dOp2 fMulG (dIx (dVar 0) (dC (.int 0))) (dIx (dVar 1) (dC (.int 1)))) (dOp2 fMulG (dIx (dVar 1) (dC (.int 0))) (dIx (dVar 0) (dC (.int 1))))) (dCons (dOp2 fMulG (dIx (dVar 0) (dC (.int 1))) (dIx (dVar 1) (dC (.int 1)))) dNil))))
noncomputable def m__law_plus : Mir := mir v__law_plus 2 2
theorem fits__law_plus : Fits 2 m__law_plus := mir_fits
theorem o__law_plus (E : En K mg base L) : ∃ a fd, FnP K "_law_plus" s__law_plus a fd ∧ mg "_law_plus" = some (.ref a) ∧ FnOk Pg w K mg base (L2.CX Pg w) 2 a fd ["one", "two"] (spD K mg (nt L) 2 m__law_plus) := by
  obtain ⟨a, fd, F, hm⟩ := E.f__law_plus.ex
  refine ⟨a, fd, F, hm, fn_okD F sc__law_plus (fun fns bo O P cdv A outer s H Ex hr => ?_)⟩
  have hN : (n__law_plus).Nodup := sc__law_plus.nd
  exact (dss_one (ds_ret (de_call ((c__law_fr E).mono (by decide)) fits__law_fr hr (takes_of rfl rfl rfl rfl) rfl (da_cons (de_addG (de_mulG (de_sub_ix (de_var 0) de_int) (de_sub_ix (de_var 1) de_int)) (de_mulG (de_sub_ix (de_var 1) de_int) (de_sub_ix (de_var 0) de_int))) (da_cons (de_mulG (de_sub_ix (de_var 0) de_int) (de_sub_ix (de_var 1) de_int)) da_nil)))))
theorem c__law_plus (E : En K mg base L) : Cal Pg w K mg base (nt L) 2 "_law_plus" ["one", "two"] m__law_plus := by
  obtain ⟨a, fd, F, hm, G⟩ := o__law_plus (Pg := Pg) (w := w) E
  exact ⟨a, fd, G, hm, F.kp, F.bindsN fun _ _ _ _ _ _ us hl => match us, hl with | [_, _], _ => rfl⟩
def n__law_times : List Str := ["one", "two"]
theorem sc__law_times : FnScope n__law_times ["one", "two"] (defScope s__law_times) := ⟨rfl, rfl, rfl, by decide +kernel, rfl, by decide +kernel, by decide +kernel⟩
noncomputable def v__law_times : Sv := (dRet (dCall m__law_fr (dCons (dOp2 fMulG (dIx (dVar 0) (dC (.int 0))) (dIx (dVar 1) (dC (.int 0)))) (dCons (dOp2 fMulG (dIx (dVar 0) (dC (.int 1))) (dIx (dVar 1) (dC (.int 1)))) dNil))))
noncomputable def m__law_times : Mir := mir v__law_times 2 2
theorem fits__law_times : Fits 2 m__law_times := mir_fits
theorem o__law_times (E : En K mg base L) : ∃ a fd, FnP K "_law_times" s__law_times a fd ∧ mg "_law_times" = some (.ref a) ∧ FnOk Pg w K mg base (L2.CX Pg w) 2 a fd ["one", "two"] (spD K mg (nt L) 2 m__law_times) := by
  obtain ⟨a, fd, F, hm⟩ := E.f__law_times.ex
  refine ⟨a, fd, F, hm, fn_okD F sc__law_times (fun fns bo O P cdv A outer s H Ex hr => ?_)⟩
  have hN : (n__law_times).Nodup := sc__law_times.nd
  exact (dss_one (ds_ret (de_call ((c__law_fr E).mono (by decide)) fits__law_fr hr (takes_of rfl rfl rfl rfl) rfl (da_cons (de_mulG (de_sub_ix (de_var 0) de_int) (de_sub_ix (de_var 1) de_int)) (da_cons (de_mulG (de_sub_ix (de_var 0) de_int) (de_sub_ix (de_var 1) de_int)) da_nil)))))
theorem c__law_times (E : En K mg base L) : Cal Pg w K mg base (nt L) 2 "_law_times" ["one", "two"] m__law_times := by
  obtain ⟨a, fd, F, hm, G⟩ := o__law_times (Pg := Pg) (w := w) E
  exact ⟨a, fd, G, hm, F.kp, F.bindsN fun _ _ _ _ _ _ us hl => match us, hl with | [_, _], _ => rfl⟩
def n_is_fraction : List Str := ["value", "each"]
theorem sc_is_fraction : FnScope n_is_fraction ["value"] (defScope s_is_fraction) := ⟨rfl, rfl, rfl, by decide +kernel, rfl, by decide +kernel, by decide +kernel⟩
noncomputable def v_is_fraction : Sv := (dSeq (dIfS (dOr (dNot (dTst (dCall m_is_pair (dCons (dVar 0) dNil)))) (dNot (dTst (dOpL (f1 allD) (dCons (dComp (dSeqI (dVar 0)) (bName 1) dYes (dCall m_is_whole (dCons (dVar 1) dNil)) [1]) dNil))))) (dRet (dC (.bl false))) dNext) (dRet (dAndV (dOp2 fGt (dIx (dVar 0) (dC (.int 1))) (dC (.int 0))) (dOp2 fEq (dOpL (f2 fGcd) (dCons (dIx (dVar 0) (dC (.int 0))) (dCons (dIx (dVar 0) (dC (.int 1))) dNil))) (dC (.int 1))))))
noncomputable def m_is_fraction : Mir := mir v_is_fraction 1 2
theorem fits_is_fraction : Fits 1 m_is_fraction := mir_fits
theorem o_is_fraction (E : En K mg base L) : ∃ a fd, FnP K "is_fraction" s_is_fraction a fd ∧ mg "is_fraction" = some (.ref a) ∧ FnOk Pg w K mg base (L2.CX Pg w) 3 a fd ["value"] (spD K mg (nt L) 1 m_is_fraction) := by
  obtain ⟨a, fd, F, hm⟩ := E.f_is_fraction.ex
  refine ⟨a, fd, F, hm, fn_okD F sc_is_fraction (fun fns bo O P cdv A outer s H Ex hr => ?_)⟩
  have hN : (n_is_fraction).Nodup := sc_is_fraction.nd
  exact (dss_cons (ds_if (PW.pt (dw_or (dt_not (dt_val (de_call ((c_is_pair E).mono (by decide)) fits_is_pair hr (takes_of rfl rfl rfl rfl) rfl (da_cons (de_var 0) da_nil)))) (dw_or1 (dt_not (dt_val (de_callB (cr_all rfl) hl_all rfl E.b_all PyProof.Rows.Boot.«all» (da_cons (de_lc (own := [("each", 1)]) rfl hN (di_dj (di_seq (de_var 0))) (blkOk_by rfl) (by decide) (fun O P s H C cl fp => (dg_name hN)) (fun O P s H C cl fp => dts_nil) (fun O P s H C cl fp => (de_call ((c_is_whole E).mono (by decide)) fits_is_whole hr L2.takes0 rfl (da_cons (de_var 1) da_nil)))) da_nil))))))) (dss_one (ds_ret de_bl)) dss_nil) (dss_one (ds_ret (de_and (de_cmp op_gt h_gt (de_sub_ix (de_var 0) de_int) de_int) (de_one (de_cmp (op_eqD (u64 hr)) h_eq (de_callF cr_gcd hl_gcd rfl E.g_gcd (da_cons (de_sub_ix (de_var 0) de_int) (da_cons (de_sub_ix (de_var 0) de_int) da_nil))) de_int))))))
theorem c_is_fraction (E : En K mg base L) : Cal Pg w K mg base (nt L) 3 "is_fraction" ["value"] m_is_fraction := by
  obtain ⟨a, fd, F, hm, G⟩ := o_is_fraction (Pg := Pg) (w := w) E
  exact ⟨a, fd, G, hm, F.kp, F.bindsN fun _ _ _ _ _ _ us hl => match us, hl with | [_], _ => rfl⟩
def n_total : List Str := ["some", "found", "each"]
theorem sc_total : FnScope n_total ["some"] (defScope s_total) := ⟨rfl, rfl, rfl, by decide +kernel, rfl, by decide +kernel, by decide +kernel⟩
noncomputable def v_total : Sv := (dSeq (dAsg 1 (dVal (dC c_NOTHING))) (dSeq (dFor (dSeqI (dVar 0)) (bName 2) (dAsg 1 (dVal (dCall m_plus (dCons (dVar 1) (dCons (dVar 2) dNil)))))) (dRet (dVar 1))))
noncomputable def m_total : Mir := mir v_total 1 3
theorem fits_total : Fits 1 m_total := mir_fits
theorem o_total (E : En K mg base L) : ∃ a fd, FnP K "total" s_total a fd ∧ mg "total" = some (.ref a) ∧ FnOk Pg w K mg base (L2.CX Pg w) 3 a fd ["some"] (spD K mg (nt L) 1 m_total) := by
  obtain ⟨a, fd, F, hm⟩ := E.f_total.ex
  refine ⟨a, fd, F, hm, fn_okD F sc_total (fun fns bo O P cdv A outer s H Ex hr => ?_)⟩
  have hN : (n_total).Nodup := sc_total.nd
  exact (dss_cons (ds_set (i := 1) hN (de_val (dk_NOTHING E))) (dss_cons (ds_for (passes_of rfl) rfl (di_seq (de_var 0)) (fun _ => (dg_name hN)) (fun _ => (dss_one (ds_set (i := 1) hN (de_val (de_call ((c_plus E).mono (by decide)) fits_plus hr (takes_of rfl rfl rfl rfl) rfl (da_cons (de_var 1) (da_cons (de_var 2) da_nil)))))))) (dss_one (ds_ret (de_var 1)))))
theorem c_total (E : En K mg base L) : Cal Pg w K mg base (nt L) 3 "total" ["some"] m_total := by
  obtain ⟨a, fd, F, hm, G⟩ := o_total (Pg := Pg) (w := w) E
  exact ⟨a, fd, G, hm, F.kp, F.bindsN fun _ _ _ _ _ _ us hl => match us, hl with | [_], _ => rfl⟩
def n_spread_by : List Str := ["minds", "low", "high", "mind"]
theorem sc_spread_by : FnScope n_spread_by ["minds"] (defScope s_spread_by) := ⟨rfl, rfl, rfl, by decide +kernel, rfl, by decide +kernel, by decide +kernel⟩
noncomputable def v_spread_by : Sv := (dSeq (dPar2 1 2 (dVal (dIx (dVar 0) (dC (.int 0)))) (dVal (dIx (dVar 0) (dC (.int 0))))) (dSeq (dFor (dSeqI (dVar 0)) (bName 3) (dPar2 1 2 (dVal (dCall m_lesser (dCons (dVar 1) (dCons (dVar 3) dNil)))) (dVal (dCall m_greater (dCons (dVar 2) (dCons (dVar 3) dNil)))))) (dRet (dCall m_minus (dCons (dVar 2) (dCons (dVar 1) dNil))))))
noncomputable def m_spread_by : Mir := mir v_spread_by 1 4
theorem fits_spread_by : Fits 1 m_spread_by := mir_fits
theorem o_spread_by (E : En K mg base L) : ∃ a fd, FnP K "spread_by" s_spread_by a fd ∧ mg "spread_by" = some (.ref a) ∧ FnOk Pg w K mg base (L2.CX Pg w) 3 a fd ["minds"] (spD K mg (nt L) 1 m_spread_by) := by
  obtain ⟨a, fd, F, hm⟩ := E.f_spread_by.ex
  refine ⟨a, fd, F, hm, fn_okD F sc_spread_by (fun fns bo O P cdv A outer s H Ex hr => ?_)⟩
  have hN : (n_spread_by).Nodup := sc_spread_by.nd
  exact (dss_cons (ds_par2 1 2 rfl hN (de_val (de_sub_ix (de_var 0) de_int)) (fun O => (de_val (de_sub_ix (de_var 0) de_int)))) (dss_cons (ds_for (passes_of rfl) rfl (di_seq (de_var 0)) (fun _ => (dg_name hN)) (fun _ => (dss_one (ds_par2 1 2 rfl hN (de_val (de_call ((c_lesser E).mono (by decide)) fits_lesser hr (takes_of rfl rfl rfl rfl) rfl (da_cons (de_var 1) (da_cons (de_var 3) da_nil)))) (fun O => (de_val (de_call ((c_greater E).mono (by decide)) fits_greater hr (takes_of rfl rfl rfl rfl) rfl (da_cons (de_var 2) (da_cons (de_var 3) da_nil))))))))) (dss_one (ds_ret (de_call ((c_minus E).mono (by decide)) fits_minus hr (takes_of rfl rfl rfl rfl) rfl (da_cons (de_var 2) (da_cons (de_var 1) da_nil)))))))
theorem c_spread_by (E : En K mg base L) : Cal Pg w K mg base (nt L) 3 "spread_by" ["minds"] m_spread_by := by
  obtain ⟨a, fd, F, hm, G⟩ := o_spread_by (Pg := Pg) (w := w) E
  exact ⟨a, fd, G, hm, F.kp, F.bindsN fun _ _ _ _ _ _ us hl => match us, hl with | [_], _ => rfl⟩
def n__law_less : List Str := ["one", "two"]
theorem sc__law_less : FnScope n__law_less ["one", "two"] (defScope s__law_less) := ⟨rfl, rfl, rfl, by decide +kernel, rfl, by decide +kernel, by decide +kernel⟩
noncomputable def v__law_less : Sv := (dRet (dCall m__law_plus (dCons (dVar 0) (dCons (dOpL fTup (dCons (dOp2 fSub (dC (.int 0)) (dIx (dVar 1) (dC (.int 0)))) (dCons (dIx (dVar 1) (dC (.int 1))) dNil))) dNil))))
noncomputable def m__law_less : Mir := mir v__law_less 2 2
theorem fits__law_less : Fits 2 m__law_less := mir_fits
theorem o__law_less (E : En K mg base L) : ∃ a fd, FnP K "_law_less" s__law_less a fd ∧ mg "_law_less" = some (.ref a) ∧ FnOk Pg w K mg base (L2.CX Pg w) 3 a fd ["one", "two"] (spD K mg (nt L) 2 m__law_less) := by
  obtain ⟨a, fd, F, hm⟩ := E.f__law_less.ex
  refine ⟨a, fd, F, hm, fn_okD F sc__law_less (fun fns bo O P cdv A outer s H Ex hr => ?_)⟩
  have hN : (n__law_less).Nodup := sc__law_less.nd
  exact (dss_one (ds_ret (de_call ((c__law_plus E).mono (by decide)) fits__law_plus hr (takes_of rfl rfl rfl rfl) rfl (da_cons (de_var 0) (da_cons (de_tup (da_cons (de_sub de_int (de_sub_ix (de_var 1) de_int)) (da_cons (de_sub_ix (de_var 1) de_int) da_nil))) da_nil)))))
theorem c__law_less (E : En K mg base L) : Cal Pg w K mg base (nt L) 3 "_law_less" ["one", "two"] m__law_less := by
  obtain ⟨a, fd, F, hm, G⟩ := o__law_less (Pg := Pg) (w := w) E
  exact ⟨a, fd, G, hm, F.kp, F.bindsN fun _ _ _ _ _ _ us hl => match us, hl with | [_, _], _ => rfl⟩
def n__law_total : List Str := ["rows", "total_v", "each"]
theorem sc__law_total : FnScope n__law_total ["rows"] (defScope s__law_total) := ⟨rfl, rfl, rfl, by decide +kernel, rfl, by decide +kernel, by decide +kernel⟩
noncomputable def v__law_total : Sv := (dSeq (dAsg 1 (dVal (dOpL fTup (dCons (dC (.int 0)) (dCons (dC (.int 1)) dNil))))) (dSeq (dFor (dSeqI (dVar 0)) (bName 2) (dAsg 1 (dVal (dCall m__law_plus (dCons (dVar 1) (dCons (dVar 2) dNil)))))) (dRet (dVar 1))))
noncomputable def m__law_total : Mir := mir v__law_total 1 3
theorem fits__law_total : Fits 1 m__law_total := mir_fits
theorem o__law_total (E : En K mg base L) : ∃ a fd, FnP K "_law_total" s__law_total a fd ∧ mg "_law_total" = some (.ref a) ∧ FnOk Pg w K mg base (L2.CX Pg w) 3 a fd ["rows"] (spD K mg (nt L) 1 m__law_total) := by
  obtain ⟨a, fd, F, hm⟩ := E.f__law_total.ex
  refine ⟨a, fd, F, hm, fn_okD F sc__law_total (fun fns bo O P cdv A outer s H Ex hr => ?_)⟩
  have hN : (n__law_total).Nodup := sc__law_total.nd
  exact (dss_cons (ds_set (i := 1) hN (de_val (de_tup (da_cons de_int (da_cons de_int da_nil))))) (dss_cons (ds_for (passes_of rfl) rfl (di_seq (de_var 0)) (fun _ => (dg_name hN)) (fun _ => (dss_one (ds_set (i := 1) hN (de_val (de_call ((c__law_plus E).mono (by decide)) fits__law_plus hr (takes_of rfl rfl rfl rfl) rfl (da_cons (de_var 1) (da_cons (de_var 2) da_nil)))))))) (dss_one (ds_ret (de_var 1)))))
theorem c__law_total (E : En K mg base L) : Cal Pg w K mg base (nt L) 3 "_law_total" ["rows"] m__law_total := by
  obtain ⟨a, fd, F, hm, G⟩ := o__law_total (Pg := Pg) (w := w) E
  exact ⟨a, fd, G, hm, F.kp, F.bindsN fun _ _ _ _ _ _ us hl => match us, hl with | [_], _ => rfl⟩
def n__law_near_draw : List Str := ["pool", "step", "minds", "k"]
theorem sc__law_near_draw : FnScope n__law_near_draw ["pool"] (defScope s__law_near_draw) := ⟨rfl, rfl, rfl, by decide +kernel, rfl, by decide +kernel, by decide +kernel⟩
noncomputable def v__law_near_draw : Sv := (dSeq (dAsg 1 (dVal (dCall m__law_one (dCons (dVar 0) (dCons (dOpL fTup (dCons (dOpL fTup (dCons (dC (.int 1)) (dCons (dC (.int 1)) dNil))) (dCons (dOpL fTup (dCons (dC (.int 1)) (dCons (dC (.int 2)) dNil))) (dCons (dOpL fTup (dCons (dC (.int 1)) (dCons (dC (.int 3)) dNil))) dNil)))) dNil))))) (dSeq (dAsg 2 (dVal (dOpL (f1 tupleD) (dCons (dComp (dRng1 (dOp2 fAddG (dC (.int 1)) (dCall m__law_below (dCons (dVar 0) (dCons (dC (.int 5)) dNil))))) (bName 3) dYes (dCall m__law_times (dCons (dOpL fTup (dCons (dCall m__law_below (dCons (dVar 0) (dCons (dC (.int 9)) dNil))) (dCons (dC (.int 1)) dNil))) (dCons (dVar 1) dNil))) [3]) dNil)))) (dRet (dOpL fTup (dCons (dVar 2) (dCons (dCall m__law_times (dCons (dCall m__law_one (dCons (dVar 0) (dCons (dOpL fTup (dCons (dOpL fTup (dCons (dC (.int 1)) (dCons (dC (.int 2)) dNil))) (dCons (dOpL fTup (dCons (dC (.int 1)) (dCons (dC (.int 1)) dNil))) (dCons (dOpL fTup (dCons (dC (.int 2)) (dCons (dC (.int 1)) dNil))) (dCons (dOpL fTup (dCons (dC (.int 3)) (dCons (dC (.int 2)) dNil))) (dCons (dOpL fTup (dCons (dC (.int 5)) (dCons (dC (.int 1)) dNil))) (dCons (dOpL fTup (dCons (dC (.int 3)) (dCons (dC (.int 1)) dNil))) dNil))))))) dNil))) (dCons (dVar 1) dNil))) dNil))))))
noncomputable def m__law_near_draw : Mir := mir v__law_near_draw 1 4
theorem fits__law_near_draw : Fits 1 m__law_near_draw := mir_fits
theorem o__law_near_draw (E : En K mg base L) : ∃ a fd, FnP K "_law_near_draw" s__law_near_draw a fd ∧ mg "_law_near_draw" = some (.ref a) ∧ FnOk Pg w K mg base (L2.CX Pg w) 3 a fd ["pool"] (spD K mg (nt L) 1 m__law_near_draw) := by
  obtain ⟨a, fd, F, hm⟩ := E.f__law_near_draw.ex
  refine ⟨a, fd, F, hm, fn_okD F sc__law_near_draw (fun fns bo O P cdv A outer s H Ex hr => ?_)⟩
  have hN : (n__law_near_draw).Nodup := sc__law_near_draw.nd
  exact (dss_cons (ds_set (i := 1) hN (de_val (de_call ((c__law_one E).mono (by decide)) fits__law_one hr (takes_of rfl rfl rfl rfl) rfl (da_cons (de_var 0) (da_cons (de_tup (da_cons (de_tup (da_cons de_int (da_cons de_int da_nil))) (da_cons (de_tup (da_cons de_int (da_cons de_int da_nil))) (da_cons (de_tup (da_cons de_int (da_cons de_int da_nil))) da_nil)))) da_nil))))) (dss_cons (ds_set (i := 2) hN (de_val (de_callTy call_tuple_of hl_tuple rfl E.b_tuple PyProof.Rows.Boot.«tuple» (da_cons (de_lc (own := [("k", 3)]) rfl hN (di_dj (di_rng1 rfl E.b_range (de_addG de_int (de_call ((c__law_below E).mono (by decide)) fits__law_below hr (takes_of rfl rfl rfl rfl) rfl (da_cons (de_var 0) (da_cons de_int da_nil)))))) (blkOk_by rfl) (by decide) (fun O P s H C cl fp => (dg_name hN)) (fun O P s H C cl fp => dts_nil) (fun O P s H C cl fp => (de_call ((c__law_times E).mono (by decide)) fits__law_times hr L2.takes0 rfl (da_cons (de_tup (da_cons (de_call ((c__law_below E).mono (by decide)) fits__law_below hr L2.takes0 rfl (da_cons (de_var 0) (da_cons de_int da_nil))) (da_cons de_int da_nil))) (da_cons (de_var 1) da_nil))))) da_nil)))) (dss_one (ds_ret (de_tup (da_cons (de_var 2) (da_cons (de_call ((c__law_times E).mono (by decide)) fits__law_times hr (takes_of rfl rfl rfl rfl) rfl (da_cons (de_call ((c__law_one E).mono (by decide)) fits__law_one hr (takes_of rfl rfl rfl rfl) rfl (da_cons (de_var 0) (da_cons (de_tup (da_cons (de_tup (da_cons de_int (da_cons de_int da_nil))) (da_cons (de_tup (da_cons de_int (da_cons de_int da_nil))) (da_cons (de_tup (da_cons de_int (da_cons de_int da_nil))) (da_cons (de_tup (da_cons de_int (da_cons de_int da_nil))) (da_cons (de_tup (da_cons de_int (da_cons de_int da_nil))) (da_cons (de_tup (da_cons de_int (da_cons de_int da_nil))) da_nil))))))) da_nil))) (da_cons (de_var 1) da_nil))) da_nil)))))))
theorem c__law_near_draw (E : En K mg base L) : Cal Pg w K mg base (nt L) 3 "_law_near_draw" ["pool"] m__law_near_draw := by
  obtain ⟨a, fd, F, hm, G⟩ := o__law_near_draw (Pg := Pg) (w := w) E
  exact ⟨a, fd, G, hm, F.kp, F.bindsN fun _ _ _ _ _ _ us hl => match us, hl with | [_], _ => rfl⟩
noncomputable def gm_wrong_in_all : Str → Option CM := fun g => if g = "is_fraction" then some (1, m_is_fraction) else none
theorem hgm_wrong_in_all (E : En K mg base L) : GM Pg w K mg base (nt L) 12 gm_wrong_in_all := fun g n m h => by
  unfold gm_wrong_in_all at h
  by_cases e : g = "is_fraction"
  · simp only [e, if_true] at h
    cases h
    exact e ▸ ⟨_, rfl, (c_is_fraction E).mono (by decide)⟩
  simp only [e, if_false] at h
  cases h
noncomputable def l_wrong_in_all_0 : Ev := (dCallV 2 gm_wrong_in_all none (dCons (dVar 1) dNil))
def n_wrong_in_all : List Str := ["value", "many", "is_right"]
theorem sc_wrong_in_all : FnScope n_wrong_in_all ["value", "many", "is_right"] (defScope s_wrong_in_all) := ⟨rfl, rfl, rfl, by decide +kernel, rfl, by decide +kernel, by decide +kernel⟩
noncomputable def v_wrong_in_all : Sv := (dRet (dIf (dTst (dCall m_is_tuple_of (dCons (dVar 0) (dCons (dVar 1) dNil)))) (dCallH m_wrong_in (dCons (dVar 0) (dCons (dVar 1) (dCons (dVar 1) dNil))) 2 (lamM (l_wrong_in_all_0) 2 3 [2])) (dOpL fLst (dCons (dC .non) dNil))))
noncomputable def m_wrong_in_all : Mir := mir v_wrong_in_all 3 3
theorem fits_wrong_in_all : Fits 3 m_wrong_in_all := mir_fits
theorem o_wrong_in_all (E : En K mg base L) : ∃ a fd, FnP K "wrong_in_all" s_wrong_in_all a fd ∧ mg "wrong_in_all" = some (.ref a) ∧ FnOk Pg w K mg base (L2.CX Pg w) 16 a fd ["value", "many", "is_right"] (spD K mg (nt L) 3 m_wrong_in_all) := by
  obtain ⟨a, fd, F, hm, ht⟩ := E.f_wrong_in_all.ex
  refine ⟨a, fd, F, hm, fn_okC F sc_wrong_in_all (fun fns bo O P cdv A outer s H Ex hcd hr => ?_)⟩
  have hN : (n_wrong_in_all).Nodup := sc_wrong_in_all.nd
  have tab : ∃ c P, TabB base mg c P ∧ cdv = .ref c ∧ (P, (envOfC "wrong_in_all" (defScope s_wrong_in_all) s.heap.objs.size a cdv).qual ++ "<lambda>") ∈ L ∧ ∀ p ∈ L, p.1 = P → p.2 = (envOfC "wrong_in_all" (defScope s_wrong_in_all) s.heap.objs.size a cdv).qual ++ "<lambda>" := by
    obtain ⟨c, P, h1, h2, h3, h4⟩ := ht
    exact ⟨c, P, h1, by rw [← hcd]; exact h2, h3, h4⟩
  exact (dss_one (ds_ret (de_ifx (dt_val (de_call ((c_is_tuple_of E).mono (by decide)) fits_is_tuple_of hr (takes_of rfl rfl rfl rfl) rfl (da_cons (de_var 0) (da_cons (de_var 1) da_nil)))) (de_callH (N2 := ["ahead", "each", "is_right"]) (ps2 := ["ahead", "each"]) (fr2 := ["is_right"]) (js := [2]) (ev := l_wrong_in_all_0) (mh := m_wrong_in) (kp := 0) (kl := 12) (c_wrong_in E 13) (hfit_wrong_in _) (hr.mono (by decide)) (takes_of rfl rfl rfl rfl) rfl ⟨tab, rfl, free_by rfl⟩ ⟨nscope_by (by decide +kernel), by decide +kernel, rfl, fun _ _ _ _ _ us hl => match us, hl with | [_, _], _ => rfl⟩ (dl_cons (de_var 0) (dl_cons (de_var 1) (dl_cons (de_var 1) (dl_one ⟨tab, rfl, free_by rfl⟩)))) rfl (by decide) pro_none (fun O P2 A2 outer2 s2 H2 Ex2 f2 c2 hP2 hr => (de_callV 2 (hgm_wrong_in_all E) hP2 hr (by decide) (takes_of rfl rfl rfl rfl) (da_cons (de_var 1) da_nil)))) (de_lst (da_cons de_non da_nil)))))
theorem c_wrong_in_all (E : En K mg base L) : Cal Pg w K mg base (nt L) 16 "wrong_in_all" ["value", "many", "is_right"] m_wrong_in_all := by
  obtain ⟨a, fd, F, hm, G⟩ := o_wrong_in_all (Pg := Pg) (w := w) E
  exact ⟨a, fd, G, hm, F.kp, F.bindsN fun _ _ _ _ _ _ us hl => match us, hl with | [_, _, _], _ => rfl⟩
def n_is_sum : List Str := ["value"]
theorem sc_is_sum : FnScope n_is_sum ["value"] (defScope s_is_sum) := ⟨rfl, rfl, rfl, by decide +kernel, rfl, by decide +kernel, by decide +kernel⟩
noncomputable def v_is_sum : Sv := (dRet (dAndV (dCall m_is_fraction (dCons (dVar 0) dNil)) (dOp2 fGe (dIx (dVar 0) (dC (.int 0))) (dC (.int 0)))))
noncomputable def m_is_sum : Mir := mir v_is_sum 1 1
theorem fits_is_sum : Fits 1 m_is_sum := mir_fits
theorem o_is_sum (E : En K mg base L) : ∃ a fd, FnP K "is_sum" s_is_sum a fd ∧ mg "is_sum" = some (.ref a) ∧ FnOk Pg w K mg base (L2.CX Pg w) 4 a fd ["value"] (spD K mg (nt L) 1 m_is_sum) := by
  obtain ⟨a, fd, F, hm⟩ := E.f_is_sum.ex
  refine ⟨a, fd, F, hm, fn_okD F sc_is_sum (fun fns bo O P cdv A outer s H Ex hr => ?_)⟩
  have hN : (n_is_sum).Nodup := sc_is_sum.nd
  exact (dss_one (ds_ret (de_and (de_call ((c_is_fraction E).mono (by decide)) fits_is_fraction hr (takes_of rfl rfl rfl rfl) rfl (da_cons (de_var 0) da_nil)) (de_one (de_cmp op_ge h_ge (de_sub_ix (de_var 0) de_int) de_int)))))
theorem c_is_sum (E : En K mg base L) : Cal Pg w K mg base (nt L) 4 "is_sum" ["value"] m_is_sum := by
  obtain ⟨a, fd, F, hm, G⟩ := o_is_sum (Pg := Pg) (w := w) E
  exact ⟨a, fd, G, hm, F.kp, F.bindsN fun _ _ _ _ _ _ us hl => match us, hl with | [_], _ => rfl⟩
def n_are_near : List Str := ["one", "two", "width"]
theorem sc_are_near : FnScope n_are_near ["one", "two", "width"] (defScope s_are_near) := ⟨rfl, rfl, rfl, by decide +kernel, rfl, by decide +kernel, by decide +kernel⟩
noncomputable def v_are_near : Sv := (dRet (dNotV (dCall m_is_less (dCons (dVar 2) (dCons (dCall m_spread_by (dCons (dOpL fTup (dCons (dVar 0) (dCons (dVar 1) dNil))) dNil)) dNil)))))
noncomputable def m_are_near : Mir := mir v_are_near 3 3
theorem fits_are_near : Fits 3 m_are_near := mir_fits
theorem o_are_near (E : En K mg base L) : ∃ a fd, FnP K "are_near" s_are_near a fd ∧ mg "are_near" = some (.ref a) ∧ FnOk Pg w K mg base (L2.CX Pg w) 4 a fd ["one", "two", "width"] (spD K mg (nt L) 3 m_are_near) := by
  obtain ⟨a, fd, F, hm⟩ := E.f_are_near.ex
  refine ⟨a, fd, F, hm, fn_okD F sc_are_near (fun fns bo O P cdv A outer s H Ex hr => ?_)⟩
  have hN : (n_are_near).Nodup := sc_are_near.nd
  exact (dss_one (ds_ret (de_not (de_call ((c_is_less E).mono (by decide)) fits_is_less hr (takes_of rfl rfl rfl rfl) rfl (da_cons (de_var 2) (da_cons (de_call ((c_spread_by E).mono (by decide)) fits_spread_by hr (takes_of rfl rfl rfl rfl) rfl (da_cons (de_tup (da_cons (de_var 0) (da_cons (de_var 1) da_nil))) da_nil)) da_nil))))))
theorem c_are_near (E : En K mg base L) : Cal Pg w K mg base (nt L) 4 "are_near" ["one", "two", "width"] m_are_near := by
  obtain ⟨a, fd, F, hm, G⟩ := o_are_near (Pg := Pg) (w := w) E
  exact ⟨a, fd, G, hm, F.kp, F.bindsN fun _ _ _ _ _ _ us hl => match us, hl with | [_, _, _], _ => rfl⟩
def n__law_near_beat : List Str := ["minds", "width", "found", "mind", "near", "other"]
theorem sc__law_near_beat : FnScope n__law_near_beat ["minds", "width"] (defScope s__law_near_beat) := ⟨rfl, rfl, rfl, by decide +kernel, rfl, by decide +kernel, by decide +kernel⟩
noncomputable def v__law_near_beat : Sv := (dSeq (dAsg 2 (dOpL fLst dNil)) (dSeq (dFor (dSeqI (dVar 0)) (bName 3) (dSeq (dAsg 4 (dVal (dComp (dSeqI (dVar 0)) (bName 5) (dAnd (dNot (dTst (dCall m__law_is_less (dCons (dVar 1) (dCons (dCall m__law_less (dCons (dVar 5) (dCons (dVar 3) dNil))) dNil))))) (dNot (dTst (dCall m__law_is_less (dCons (dVar 1) (dCons (dCall m__law_less (dCons (dVar 3) (dCons (dVar 5) dNil))) dNil)))))) (dVar 5) [5]))) (dApp 2 (dCall m__law_times (dCons (dCall m__law_total (dCons (dVar 4) dNil)) (dCons (dOpL fTup (dCons (dC (.int 1)) (dCons (dOpL (f1 lenD) (dCons (dVar 4) dNil)) dNil))) dNil)))))) (dFrz 2 (dRet (dOpL (f1 tupleD) (dCons (dVar 2) dNil))))))
noncomputable def m__law_near_beat : Mir := mir v__law_near_beat 2 6
theorem fits__law_near_beat : Fits 2 m__law_near_beat := mir_fits
theorem o__law_near_beat (E : En K mg base L) : ∃ a fd, FnP K "_law_near_beat" s__law_near_beat a fd ∧ mg "_law_near_beat" = some (.ref a) ∧ FnOk Pg w K mg base (L2.CX Pg w) 4 a fd ["minds", "width"] (spD K mg (nt L) 2 m__law_near_beat) := by
  obtain ⟨a, fd, F, hm⟩ := E.f__law_near_beat.ex
  refine ⟨a, fd, F, hm, fn_okD F sc__law_near_beat (fun fns bo O P cdv A outer s H Ex hr => ?_)⟩
  have hN : (n__law_near_beat).Nodup := sc__law_near_beat.nd
  exact (dss_cons (ds_set (i := 2) hN (de_lst da_nil)) (dss_cons (ds_for (passes_of rfl) rfl (di_seq (de_var 0)) (fun _ => (dg_name hN)) (fun _ => (dss_cons (ds_setLcV (own := [("other", 5)]) rfl hN (di_dj (di_seq (de_var 0))) (blkOk_by rfl) (by decide) (fun O P s H C cl fp => (dg_name hN)) (fun O P s H C cl fp => (dts_one (PW.pt (dw_and (dt_not (dt_val (de_call ((c__law_is_less E).mono (by decide)) fits__law_is_less hr L2.takes0 rfl (da_cons (de_var 1) (da_cons (de_call ((c__law_less E).mono (by decide)) fits__law_less hr L2.takes0 rfl (da_cons (de_var 5) (da_cons (de_var 3) da_nil))) da_nil))))) (dw_and1 (dt_not (dt_val (de_call ((c__law_is_less E).mono (by decide)) fits__law_is_less hr L2.takes0 rfl (da_cons (de_var 1) (da_cons (de_call ((c__law_less E).mono (by decide)) fits__law_less hr L2.takes0 rfl (da_cons (de_var 3) (da_cons (de_var 5) da_nil))) da_nil)))))))))) (fun O P s H C cl fp => (de_var 5))) (dss_one (ds_app 2 (de_call ((c__law_times E).mono (by decide)) fits__law_times hr (takes_of rfl rfl rfl rfl) rfl (da_cons (de_call ((c__law_total E).mono (by decide)) fits__law_total hr (takes_of rfl rfl rfl rfl) rfl (da_cons (de_var 4) da_nil)) (da_cons (de_tup (da_cons de_int (da_cons (de_callB call_len hl_len rfl E.b_len PyProof.Rows.Boot.«len» (da_cons (de_var 4) da_nil)) da_nil))) da_nil)))))))) (dss_frz 2 (dss_one (ds_ret (de_callTy call_tuple_of hl_tuple rfl E.b_tuple PyProof.Rows.Boot.«tuple» (da_cons (de_var 2) da_nil)))))))
theorem c__law_near_beat (E : En K mg base L) : Cal Pg w K mg base (nt L) 4 "_law_near_beat" ["minds", "width"] m__law_near_beat := by
  obtain ⟨a, fd, F, hm, G⟩ := o__law_near_beat (Pg := Pg) (w := w) E
  exact ⟨a, fd, G, hm, F.kp, F.bindsN fun _ _ _ _ _ _ us hl => match us, hl with | [_, _], _ => rfl⟩
def n_wrong_in_minds : List Str := ["value", "many"]
theorem sc_wrong_in_minds : FnScope n_wrong_in_minds ["value", "many"] (defScope s_wrong_in_minds) := ⟨rfl, rfl, rfl, by decide +kernel, rfl, by decide +kernel, by decide +kernel⟩
noncomputable def v_wrong_in_minds : Sv := (dSeq (dIfS (dTst (dOp2 fNotN (dVar 1) (dC .non))) (dRet (dCall m_wrong_in_all (dCons (dVar 0) (dCons (dVar 1) (dCons (dC (.glo "is_fraction")) dNil))))) dNext) (dSeq (dIfS (dOr (dNot (dTst (dOpL (f2 fIsi) (dCons (dVar 0) (dCons (dC (.ty "tuple")) dNil))))) (dNot (dTst (dChain fLe fLe (dC (.int 1)) (dOpL (f1 lenD) (dCons (dVar 0) dNil)) (dC c_MOST_PEOPLE))))) (dRet (dOpL fLst (dCons (dC .non) dNil))) dNext) (dRet (dCall m_wrong_in_all (dCons (dVar 0) (dCons (dOpL (f1 lenD) (dCons (dVar 0) dNil)) (dCons (dC (.glo "is_fraction")) dNil)))))))
noncomputable def m_wrong_in_minds : Mir := mir v_wrong_in_minds 2 2
theorem fits_wrong_in_minds : Fits 2 m_wrong_in_minds := mir_fits
theorem o_wrong_in_minds (E : En K mg base L) : ∃ a fd, FnP K "wrong_in_minds" s_wrong_in_minds a fd ∧ mg "wrong_in_minds" = some (.ref a) ∧ FnOk Pg w K mg base (L2.CX Pg w) 17 a fd ["value", "many"] (spD K mg (nt L) 2 m_wrong_in_minds) := by
  obtain ⟨a, fd, F, hm⟩ := E.f_wrong_in_minds.ex
  refine ⟨a, fd, F, hm, fn_okD F sc_wrong_in_minds (fun fns bo O P cdv A outer s H Ex hr => ?_)⟩
  have hN : (n_wrong_in_minds).Nodup := sc_wrong_in_minds.nd
  exact (dss_cons (ds_if (dt_cmp op_notN h_notN (de_var 1) de_non) (dss_one (ds_ret (de_call ((c_wrong_in_all E).mono (by decide)) fits_wrong_in_all hr (takes_of rfl rfl rfl rfl) rfl (da_cons (de_var 0) (da_cons (de_var 1) (da_cons (de_glo rfl E.f_is_fraction.mg) da_nil)))))) dss_nil) (dss_cons (ds_if (PW.pt (dw_or (dt_not (dt_val (de_callB call_isi hl_isi rfl E.b_isinstance PyProof.Rows.Boot.«isinstance» (da_cons (de_var 0) (da_cons (de_ty rfl E.b_tuple PyProof.Rows.Boot.«tuple») da_nil))))) (dw_or1 (dt_not (dt_chain op_le op_le h_le h_le de_int (de_callB call_len hl_len rfl E.b_len PyProof.Rows.Boot.«len» (da_cons (de_var 0) da_nil)) (dk_MOST_PEOPLE E)))))) (dss_one (ds_ret (de_lst (da_cons de_non da_nil)))) dss_nil) (dss_one (ds_ret (de_call ((c_wrong_in_all E).mono (by decide)) fits_wrong_in_all hr (takes_of rfl rfl rfl rfl) rfl (da_cons (de_var 0) (da_cons (de_callB call_len hl_len rfl E.b_len PyProof.Rows.Boot.«len» (da_cons (de_var 0) da_nil)) (da_cons (de_glo rfl E.f_is_fraction.mg) da_nil))))))))
theorem c_wrong_in_minds (E : En K mg base L) : Cal Pg w K mg base (nt L) 17 "wrong_in_minds" ["value", "many"] m_wrong_in_minds := by
  obtain ⟨a, fd, F, hm, G⟩ := o_wrong_in_minds (Pg := Pg) (w := w) E
  exact ⟨a, fd, G, hm, F.kp, F.bindsN fun _ _ _ _ _ _ us hl => match us, hl with | [_, _], _ => rfl⟩
def n_near_beat_by : List Str := ["minds", "width", "found", "mind", "near", "other"]
theorem sc_near_beat_by : FnScope n_near_beat_by ["minds", "width"] (defScope s_near_beat_by) := ⟨rfl, rfl, rfl, by decide +kernel, rfl, by decide +kernel, by decide +kernel⟩
noncomputable def v_near_beat_by : Sv := (dSeq (dAsg 2 (dOpL fLst dNil)) (dSeq (dFor (dSeqI (dVar 0)) (bName 3) (dSeq (dAsg 4 (dVal (dComp (dSeqI (dVar 0)) (bName 5) (dTst (dCall m_are_near (dCons (dVar 3) (dCons (dVar 5) (dCons (dVar 1) dNil))))) (dVar 5) [5]))) (dApp 2 (dCall m_over (dCons (dCall m_total (dCons (dVar 4) dNil)) (dCons (dOpL fTup (dCons (dOpL (f1 lenD) (dCons (dVar 4) dNil)) (dCons (dC (.int 1)) dNil))) dNil)))))) (dFrz 2 (dRet (dOpL (f1 tupleD) (dCons (dVar 2) dNil))))))
noncomputable def m_near_beat_by : Mir := mir v_near_beat_by 2 6
theorem fits_near_beat_by : Fits 2 m_near_beat_by := mir_fits
theorem o_near_beat_by (E : En K mg base L) : ∃ a fd, FnP K "near_beat_by" s_near_beat_by a fd ∧ mg "near_beat_by" = some (.ref a) ∧ FnOk Pg w K mg base (L2.CX Pg w) 5 a fd ["minds", "width"] (spD K mg (nt L) 2 m_near_beat_by) := by
  obtain ⟨a, fd, F, hm⟩ := E.f_near_beat_by.ex
  refine ⟨a, fd, F, hm, fn_okD F sc_near_beat_by (fun fns bo O P cdv A outer s H Ex hr => ?_)⟩
  have hN : (n_near_beat_by).Nodup := sc_near_beat_by.nd
  exact (dss_cons (ds_set (i := 2) hN (de_lst da_nil)) (dss_cons (ds_for (passes_of rfl) rfl (di_seq (de_var 0)) (fun _ => (dg_name hN)) (fun _ => (dss_cons (ds_setLcV (own := [("other", 5)]) rfl hN (di_dj (di_seq (de_var 0))) (blkOk_by rfl) (by decide) (fun O P s H C cl fp => (dg_name hN)) (fun O P s H C cl fp => (dts_one (dt_val (de_call ((c_are_near E).mono (by decide)) fits_are_near hr L2.takes0 rfl (da_cons (de_var 3) (da_cons (de_var 5) (da_cons (de_var 1) da_nil))))))) (fun O P s H C cl fp => (de_var 5))) (dss_one (ds_app 2 (de_call ((c_over E).mono (by decide)) fits_over hr (takes_of rfl rfl rfl rfl) rfl (da_cons (de_call ((c_total E).mono (by decide)) fits_total hr (takes_of rfl rfl rfl rfl) rfl (da_cons (de_var 4) da_nil)) (da_cons (de_tup (da_cons (de_callB call_len hl_len rfl E.b_len PyProof.Rows.Boot.«len» (da_cons (de_var 4) da_nil)) (da_cons de_int da_nil))) da_nil)))))))) (dss_frz 2 (dss_one (ds_ret (de_callTy call_tuple_of hl_tuple rfl E.b_tuple PyProof.Rows.Boot.«tuple» (da_cons (de_var 2) da_nil)))))))
theorem c_near_beat_by (E : En K mg base L) : Cal Pg w K mg base (nt L) 5 "near_beat_by" ["minds", "width"] m_near_beat_by := by
  obtain ⟨a, fd, F, hm, G⟩ := o_near_beat_by (Pg := Pg) (w := w) E
  exact ⟨a, fd, G, hm, F.kp, F.bindsN fun _ _ _ _ _ _ us hl => match us, hl with | [_, _], _ => rfl⟩
def n_check_lone_minds : List Str := ["minds", "index"]
theorem sc_check_lone_minds : FnScope n_check_lone_minds ["minds"] (defScope s_check_lone_minds) := ⟨rfl, rfl, rfl, by decide +kernel, rfl, by decide +kernel, by decide +kernel⟩
noncomputable def v_check_lone_minds : Sv := (dFor (dSeqI (dCall m_wrong_in_minds (dCons (dVar 0) (dCons (dC .non) dNil)))) (bName 1) dBad)
noncomputable def m_check_lone_minds : Mir := mir v_check_lone_minds 1 2
theorem fits_check_lone_minds : Fits 1 m_check_lone_minds := mir_fits
theorem o_check_lone_minds (E : En K mg base L) : ∃ a fd, FnP K "check_lone_minds" s_check_lone_minds a fd ∧ mg "check_lone_minds" = some (.ref a) ∧ FnOk Pg w K mg base (L2.CX Pg w) 18 a fd ["minds"] (spD K mg (nt L) 1 m_check_lone_minds) := by
  obtain ⟨a, fd, F, hm⟩ := E.f_check_lone_minds.ex
  refine ⟨a, fd, F, hm, fn_okD F sc_check_lone_minds (fun fns bo O P cdv A outer s H Ex hr => ?_)⟩
  have hN : (n_check_lone_minds).Nodup := sc_check_lone_minds.nd
  exact (dss_one (ds_for (passes_of rfl) rfl (di_seq (de_call ((c_wrong_in_minds E).mono (by decide)) fits_wrong_in_minds hr (takes_of rfl rfl rfl rfl) rfl (da_cons (de_var 0) (da_cons de_non da_nil)))) (fun _ => (dg_name hN)) (fun _ => (dss_one ds_never))))
theorem c_check_lone_minds (E : En K mg base L) : Cal Pg w K mg base (nt L) 18 "check_lone_minds" ["minds"] m_check_lone_minds := by
  obtain ⟨a, fd, F, hm, G⟩ := o_check_lone_minds (Pg := Pg) (w := w) E
  exact ⟨a, fd, G, hm, F.kp, F.bindsN fun _ _ _ _ _ _ us hl => match us, hl with | [_], _ => rfl⟩
def n_check_near : List Str := ["minds", "width"]
theorem sc_check_near : FnScope n_check_near ["minds", "width"] (defScope s_check_near) := ⟨rfl, rfl, rfl, by decide +kernel, rfl, by decide +kernel, by decide +kernel⟩
noncomputable def v_check_near : Sv := (dSeq (dDrop (dCall m_check_lone_minds (dCons (dVar 0) dNil))) (dIfS (dOr (dNot (dTst (dCall m_is_sum (dCons (dVar 1) dNil)))) (dTst (dOp2 fEq (dVar 1) (dC c_NOTHING)))) dBad dNext))
noncomputable def m_check_near : Mir := mir v_check_near 2 2
theorem fits_check_near : Fits 2 m_check_near := mir_fits
theorem o_check_near (E : En K mg base L) : ∃ a fd, FnP K "check_near" s_check_near a fd ∧ mg "check_near" = some (.ref a) ∧ FnOk Pg w K mg base (L2.CX Pg w) 19 a fd ["minds", "width"] (spD K mg (nt L) 2 m_check_near) := by
  obtain ⟨a, fd, F, hm⟩ := E.f_check_near.ex
  refine ⟨a, fd, F, hm, fn_okD F sc_check_near (fun fns bo O P cdv A outer s H Ex hr => ?_)⟩
  have hN : (n_check_near).Nodup := sc_check_near.nd
  exact (dss_cons (ds_expr (de_call ((c_check_lone_minds E).mono (by decide)) fits_check_lone_minds hr (takes_of rfl rfl rfl rfl) rfl (da_cons (de_var 0) da_nil))) (dss_one (ds_if (PW.pt (dw_or (dt_not (dt_val (de_call ((c_is_sum E).mono (by decide)) fits_is_sum hr (takes_of rfl rfl rfl rfl) rfl (da_cons (de_var 1) da_nil)))) (dw_or1 (dt_cmp (op_eqD (u64 hr)) h_eq (de_var 1) (dk_NOTHING E))))) (dss_one ds_never) dss_nil)))
theorem c_check_near (E : En K mg base L) : Cal Pg w K mg base (nt L) 19 "check_near" ["minds", "width"] m_check_near := by
  obtain ⟨a, fd, F, hm, G⟩ := o_check_near (Pg := Pg) (w := w) E
  exact ⟨a, fd, G, hm, F.kp, F.bindsN fun _ _ _ _ _ _ us hl => match us, hl with | [_, _], _ => rfl⟩
def n_near_beat : List Str := ["minds", "width"]
theorem sc_near_beat : FnScope n_near_beat ["minds", "width"] (defScope s_near_beat) := ⟨rfl, rfl, rfl, by decide +kernel, rfl, by decide +kernel, by decide +kernel⟩
noncomputable def v_near_beat : Sv := (dSeq (dDrop (dCall m_check_near (dCons (dVar 0) (dCons (dVar 1) dNil)))) (dRet (dCall m_near_beat_by (dCons (dVar 0) (dCons (dVar 1) dNil)))))
noncomputable def m_near_beat : Mir := mir v_near_beat 2 2
theorem fits_near_beat : Fits 2 m_near_beat := mir_fits
theorem o_near_beat (E : En K mg base L) : ∃ a fd, FnP K "near_beat" s_near_beat a fd ∧ mg "near_beat" = some (.ref a) ∧ FnOk Pg w K mg base (L2.CX Pg w) 20 a fd ["minds", "width"] (spD K mg (nt L) 2 m_near_beat) := by
  obtain ⟨a, fd, F, hm⟩ := E.f_near_beat.ex
  refine ⟨a, fd, F, hm, fn_okD F sc_near_beat (fun fns bo O P cdv A outer s H Ex hr => ?_)⟩
  have hN : (n_near_beat).Nodup := sc_near_beat.nd
  exact (dss_cons (ds_expr (de_call ((c_check_near E).mono (by decide)) fits_check_near hr (takes_of rfl rfl rfl rfl) rfl (da_cons (de_var 0) (da_cons (de_var 1) da_nil)))) (dss_one (ds_ret (de_call ((c_near_beat_by E).mono (by decide)) fits_near_beat_by hr (takes_of rfl rfl rfl rfl) rfl (da_cons (de_var 0) (da_cons (de_var 1) da_nil))))))
theorem c_near_beat (E : En K mg base L) : Cal Pg w K mg base (nt L) 20 "near_beat" ["minds", "width"] m_near_beat := by
  obtain ⟨a, fd, F, hm, G⟩ := o_near_beat (Pg := Pg) (w := w) E
  exact ⟨a, fd, G, hm, F.kp, F.bindsN fun _ _ _ _ _ _ us hl => match us, hl with | [_, _], _ => rfl⟩
theorem ck_near_beat_0 (E : En K mg base L) : CalK Pg w K mg base (nt L) 20 "near_beat" 2 0 ["width", "minds"] [1, 0] m_near_beat := by
  obtain ⟨a, fd, F, hm, G⟩ := o_near_beat (Pg := Pg) (w := w) E
  exact ⟨a, fd, ["minds", "width"], rfl, G, hm, F.kp, kb_of F fun _ _ _ _ _ _ us ws h1 h2 => match us, ws, h1, h2 with | [], [_, _], _, _ => rfl⟩
def n__law_right : List Str := ["pool", "lap", "minds", "width", "due", "j", "k", "mean"]
theorem sc__law_right : FnScope n__law_right ["pool"] (defScope s__law_right) := ⟨rfl, rfl, rfl, by decide +kernel, rfl, by decide +kernel, by decide +kernel⟩
noncomputable def v__law_right : Sv := (dSeq (dFor (dRng1 (dC (.int 5))) (bName 1) (dSeq (dAsgG (bTup ((bName 2) :: (bName 3) :: [])) (dCall m__law_near_draw (dCons (dVar 0) dNil))) (dSeq (dAsg 4 (dVal (dCall m__law_near_beat (dCons (dVar 2) (dCons (dVar 3) dNil))))) (dSeq (dIfS (dNot (dTst (dCall (m__law_same 8) (dCons (dOpL fLst (dCons (dCall m_near_beat (dCons (dVar 2) (dCons (dVar 3) dNil))) (dCons (dCallK m_near_beat 0 2 [1, 0] dNil (dCons (dVar 3) (dCons (dVar 2) dNil))) dNil))) (dCons (dOpL fLst (dCons (dVar 4) (dCons (dVar 4) dNil))) dNil))))) (dRet (dC (.bl false))) dNext) (dSeq (dFor (dRng1 (dOpL (f1 lenD) (dCons (dVar 2) dNil))) (bName 5) (dIfS (dTst (dOp2 fNe (dComp (dRng1 (dOpL (f1 lenD) (dCons (dVar 2) dNil))) (bName 6) (dAnd (dNot (dTst (dCall m__law_is_less (dCons (dIx (dVar 2) (dVar 5)) (dCons (dIx (dVar 2) (dVar 6)) dNil))))) (dTst (dCall m__law_is_less (dCons (dIx (dVar 4) (dVar 5)) (dCons (dIx (dVar 4) (dVar 6)) dNil))))) (dVar 6) [6]) (dOpL fLst dNil))) (dRet (dC (.bl false))) dNext)) (dSeq (dAsg 7 (dVal (dCall m__law_times (dCons (dCall m__law_total (dCons (dVar 2) dNil)) (dCons (dOpL fTup (dCons (dC (.int 1)) (dCons (dOpL (f1 lenD) (dCons (dVar 2) dNil)) dNil))) dNil))))) (dIfS (dNot (dTst (dCall (m__law_same 8) (dCons (dOpL fLst (dCons (dCall m_near_beat (dCons (dVar 2) (dCons (dOpL fTup (dCons (dC (.int 99)) (dCons (dC (.int 1)) dNil))) dNil))) (dCons (dCall m_near_beat (dCons (dVar 2) (dCons (dOpL fTup (dCons (dC (.int 1)) (dCons (dC (.int 9)) dNil))) dNil))) dNil))) (dCons (dOpL fLst (dCons (dOp2 fMulG (dOpL fTup (dCons (dVar 7) dNil)) (dOpL (f1 lenD) (dCons (dVar 2) dNil))) (dCons (dVar 2) dNil))) dNil))))) (dRet (dC (.bl false))) dNext))))))) (dRet (dC (.bl true))))
noncomputable def m__law_right : Mir := mir v__law_right 1 8
theorem fits__law_right : Fits 1 m__law_right := mir_fits
theorem o__law_right (E : En K mg base L) : ∃ a fd, FnP K "_law_right" s__law_right a fd ∧ mg "_law_right" = some (.ref a) ∧ FnOk Pg w K mg base (L2.CX Pg w) 21 a fd ["pool"] (spD K mg (nt L) 1 m__law_right) := by
  obtain ⟨a, fd, F, hm⟩ := E.f__law_right.ex
  refine ⟨a, fd, F, hm, fn_okD F sc__law_right (fun fns bo O P cdv A outer s H Ex hr => ?_)⟩
  have hN : (n__law_right).Nodup := sc__law_right.nd
  exact (dss_cons (ds_for (passes_of rfl) rfl (di_rng1 rfl E.b_range de_int) (fun _ => (dg_name hN)) (fun _ => (dss_cons (ds_asg (de_call ((c__law_near_draw E).mono (by decide)) fits__law_near_draw hr (takes_of rfl rfl rfl rfl) rfl (da_cons (de_var 0) da_nil)) (dg_tup rfl (dgs_cons (dg_name hN) (dgs_cons (dg_name hN) dgs_nil)))) (dss_cons (ds_set (i := 4) hN (de_val (de_call ((c__law_near_beat E).mono (by decide)) fits__law_near_beat hr (takes_of rfl rfl rfl rfl) rfl (da_cons (de_var 2) (da_cons (de_var 3) da_nil))))) (dss_cons (ds_if (dt_not (dt_val (de_call ((c__law_same E).mono (by decide)) fits__law_same hr (takes_of rfl rfl rfl rfl) rfl (da_cons (de_lst (da_cons (de_call ((c_near_beat E).mono (by decide)) fits_near_beat hr (takes_of rfl rfl rfl rfl) rfl (da_cons (de_var 2) (da_cons (de_var 3) da_nil))) (da_cons (de_callK0 (ks := ["width", "minds"]) ((ck_near_beat_0 E).mono (by decide)) fits_near_beat hr (takes_of rfl rfl rfl rfl) rfl (dk_cons (de_var 3) (dk_cons (de_var 2) dk_nil))) da_nil))) (da_cons (de_lst (da_cons (de_var 4) (da_cons (de_var 4) da_nil))) da_nil))))) (dss_one (ds_ret de_bl)) dss_nil) (dss_cons (ds_for (passes_of rfl) rfl (di_rng1 rfl E.b_range (de_callB call_len hl_len rfl E.b_len PyProof.Rows.Boot.«len» (da_cons (de_var 2) da_nil))) (fun _ => (dg_name hN)) (fun _ => (dss_one (ds_if (dt_cmp (op_neD (u64 hr)) h_ne (de_lc (own := [("k", 6)]) rfl hN (di_dj (di_rng1 rfl E.b_range (de_callB call_len hl_len rfl E.b_len PyProof.Rows.Boot.«len» (da_cons (de_var 2) da_nil)))) (blkOk_by rfl) (by decide) (fun O P s H C cl fp => (dg_name hN)) (fun O P s H C cl fp => (dts_one (PW.pt (dw_and (dt_not (dt_val (de_call ((c__law_is_less E).mono (by decide)) fits__law_is_less hr L2.takes0 rfl (da_cons (de_sub_ix (de_var 2) (de_var 5)) (da_cons (de_sub_ix (de_var 2) (de_var 6)) da_nil))))) (dw_and1 (dt_val (de_call ((c__law_is_less E).mono (by decide)) fits__law_is_less hr L2.takes0 rfl (da_cons (de_sub_ix (de_var 4) (de_var 5)) (da_cons (de_sub_ix (de_var 4) (de_var 6)) da_nil))))))))) (fun O P s H C cl fp => (de_var 6))) (de_lst da_nil)) (dss_one (ds_ret de_bl)) dss_nil)))) (dss_cons (ds_set (i := 7) hN (de_val (de_call ((c__law_times E).mono (by decide)) fits__law_times hr (takes_of rfl rfl rfl rfl) rfl (da_cons (de_call ((c__law_total E).mono (by decide)) fits__law_total hr (takes_of rfl rfl rfl rfl) rfl (da_cons (de_var 2) da_nil)) (da_cons (de_tup (da_cons de_int (da_cons (de_callB call_len hl_len rfl E.b_len PyProof.Rows.Boot.«len» (da_cons (de_var 2) da_nil)) da_nil))) da_nil))))) (dss_one (ds_if (dt_not (dt_val (de_call ((c__law_same E).mono (by decide)) fits__law_same hr (takes_of rfl rfl rfl rfl) rfl (da_cons (de_lst (da_cons (de_call ((c_near_beat E).mono (by decide)) fits_near_beat hr (takes_of rfl rfl rfl rfl) rfl (da_cons (de_var 2) (da_cons (de_tup (da_cons de_int (da_cons de_int da_nil))) da_nil))) (da_cons (de_call ((c_near_beat E).mono (by decide)) fits_near_beat hr (takes_of rfl rfl rfl rfl) rfl (da_cons (de_var 2) (da_cons (de_tup (da_cons de_int (da_cons de_int da_nil))) da_nil))) da_nil))) (da_cons (de_lst (da_cons (de_mulG (de_tup (da_cons (de_var 7) da_nil)) (de_callB call_len hl_len rfl E.b_len PyProof.Rows.Boot.«len» (da_cons (de_var 2) da_nil))) (da_cons (de_var 2) da_nil))) da_nil))))) (dss_one (ds_ret de_bl)) dss_nil))))))))) (dss_one (ds_ret de_bl)))
theorem c__law_right (E : En K mg base L) : Cal Pg w K mg base (nt L) 21 "_law_right" ["pool"] m__law_right := by
  obtain ⟨a, fd, F, hm, G⟩ := o__law_right (Pg := Pg) (w := w) E
  exact ⟨a, fd, G, hm, F.kp, F.bindsN fun _ _ _ _ _ _ us hl => match us, hl with | [_], _ => rfl⟩
def n_law : List Str := ["script", "lap", "pool", "again"]
theorem sc_law : FnScope n_law ["script"] (defScope s_law) := ⟨rfl, rfl, rfl, by decide +kernel, rfl, by decide +kernel, by decide +kernel⟩
noncomputable def v_law : Sv := (dSeq (dFor (dRng1 (dOpL (f2 fMax) (dCons (dC (.int 1)) (dCons (dOpL (f2 fMin) (dCons (dOpL (f1 lenD) (dCons (dVar 0) dNil)) (dCons (dC (.int 3)) dNil))) dNil)))) (bName 1) (dSeq (dAsg 2 (dCall m__law_pool (dCons (dVar 0) (dCons (dVar 1) dNil)))) (dPool 2 (dIfS (dNot (dTst (dOpL (f1 allD) (dCons (dComp (dRng1 (dC (.int 4))) (bName 3) dYes (dCall m__law_right (dCons (dVar 2) dNil)) [3]) dNil)))) (dRet (dC (.bl false))) dNext)))) (dRet (dC (.bl true))))
noncomputable def m_law : Mir := mir v_law 1 4
theorem fits_law : Fits 1 m_law := mir_fits
theorem k_law (E : En K mg base L) {a : Addr} {fd : FuncData} (F : FnP K "law" s_law a fd) : ∀ (bo : Option Addr), FnOk Pg w K mg base (L2.CX Pg w) 22 a fd ["script"] (spD0 K mg (nt L) 1 m_law) := by
  intro _
  refine fn_ok0 F sc_law (fun fns O P cdv A outer s H Ex hr => ?_)
  have hN : (n_law).Nodup := sc_law.nd
  have hb : (bpOf K mg (nt L) fns none O H Ex P).R.bo = none := rfl
  exact (dss_cons (ds_for (passes_of rfl) rfl (di_rng1 rfl E.b_range (de_callB (call_max2 rfl) hl_max rfl E.b_max PyProof.Rows.Boot.«max» (da_cons de_int (da_cons (de_callB (call_min2 rfl) hl_min rfl E.b_min PyProof.Rows.Boot.«min» (da_cons (de_callB call_len hl_len rfl E.b_len PyProof.Rows.Boot.«len» (da_cons (de_var 0) da_nil)) (da_cons de_int da_nil))) da_nil)))) (fun _ => (dg_name hN)) (fun _ => (dss_cons (ds_set (i := 2) hN (de_call ((c__law_pool E).mono (by decide)) fits__law_pool hr (takes_of rfl rfl rfl rfl) rfl (da_cons (de_var 0) (da_cons (de_var 1) da_nil)))) (dss_one (ds_pool 2 hb fun a => (ds_if (dt_not (dt_val (de_callB (cr_all rfl) hl_all rfl E.b_all PyProof.Rows.Boot.«all» (da_cons (de_lc (own := [("again", 3)]) rfl hN (di_dj (di_rng1 rfl E.b_range de_int)) (blkOk_by rfl) (by decide) (fun O P s H C cl fp => (dg_name hN)) (fun O P s H C cl fp => dts_nil) (fun O P s H C cl fp => (de_call ((c__law_right E).mono (by decide)) fits__law_right hr L2.takes0 rfl (da_cons (de_var 2) da_nil)))) da_nil)))) (dss_one (ds_ret de_bl)) dss_nil)))))) (dss_one (ds_ret de_bl)))
end
end W

set_option Elab.async false
set_option linter.all false
set_option maxRecDepth 100000
set_option maxHeartbeats 4000000
set_option exponentiation.threshold 20000
namespace P
open PySem DL W
def rq (q : Rat) : D := .tup [.int q.num, .int q.den]
theorem low_num (n m g : Int) (hm : m ≠ 0) (hg : g = (if m > 0 then (Nat.gcd n.natAbs m.natAbs : Int) else -(Nat.gcd n.natAbs m.natAbs : Int))) : n.fdiv g = (Rat.divInt n m).num ∧ m.fdiv g = ((Rat.divInt n m).den : Int) ∧ g ≠ 0 ∧ g.natAbs ≤ m.natAbs := by
  have gp : 0 < Nat.gcd n.natAbs m.natAbs := Nat.gcd_pos_of_pos_right _ (Int.natAbs_pos.mpr hm)
  have gle : Nat.gcd n.natAbs m.natAbs ≤ m.natAbs := Nat.gcd_le_right _ (Int.natAbs_pos.mpr hm)
  obtain ⟨k, hk⟩ : (Nat.gcd n.natAbs m.natAbs : Int) ∣ n := Int.ofNat_dvd_left.mpr (Nat.gcd_dvd_left _ _)
  obtain ⟨l, hl⟩ : (Nat.gcd n.natAbs m.natAbs : Int) ∣ m := Int.ofNat_dvd_left.mpr (Nat.gcd_dvd_right _ _)
  have e : (m.gcd n : Int) = (Nat.gcd n.natAbs m.natAbs : Int) := by rw [show m.gcd n = Nat.gcd m.natAbs n.natAbs from rfl, Nat.gcd_comm]
  have e2 : m.gcd n = Nat.gcd n.natAbs m.natAbs := by rw [show m.gcd n = Nat.gcd m.natAbs n.natAbs from rfl, Nat.gcd_comm]
  rw [Rat.num_divInt, Rat.den_divInt, if_neg hm, e, e2]
  have g0 : (Nat.gcd n.natAbs m.natAbs : Int) ≠ 0 := by omega
  generalize hG : Nat.gcd n.natAbs m.natAbs = G at *
  by_cases hp : m > 0
  · rw [if_pos hp] at hg
    subst hg
    refine ⟨?_, ?_, g0, by omega⟩
    · rw [Int.sign_eq_one_of_pos hp, Int.one_mul, hk, Int.mul_fdiv_cancel_left _ g0, Int.mul_ediv_cancel_left _ g0]
    · have h1 : m.fdiv (G : Int) = l := by rw [hl, Int.mul_fdiv_cancel_left _ g0]
      have h2 : ((m.natAbs / G : Nat) : Int) = l := by
        rw [Int.natCast_ediv, Int.natAbs_of_nonneg (by omega), hl, Int.mul_ediv_cancel_left _ g0]
      rw [h1, h2]
  · rw [if_neg hp] at hg
    subst hg
    have hm2 : m < 0 := by omega
    have g1 : -(G : Int) ≠ 0 := by omega
    refine ⟨?_, ?_, g1, by omega⟩
    · rw [Int.sign_eq_neg_one_of_neg hm2]
      have h1 : n = -(G : Int) * (-k) := by rw [Int.neg_mul_neg]; exact hk
      have h2 : -1 * n = (G : Int) * (-k) := by rw [Int.mul_neg, ← hk]; omega
      rw [h2, Int.mul_ediv_cancel_left _ g0]
      conv => lhs; rw [h1]
      rw [Int.mul_fdiv_cancel_left _ g1]
    · have h1 : m = -(G : Int) * (-l) := by rw [Int.neg_mul_neg]; exact hl
      have h2 : ((m.natAbs / G : Nat) : Int) = -l := by
        have : (m.natAbs : Int) = (G : Int) * (-l) := by
          rw [Int.mul_neg, ← hl]
          omega
        rw [Int.natCast_ediv, this, Int.mul_ediv_cancel_left _ g0]
      rw [h2]
      conv => lhs; rw [h1]
      rw [Int.mul_fdiv_cancel_left _ g1]
theorem div_ok {g m : Int} (h0 : g ≠ 0) (h : g.natAbs ≤ m.natAbs) (hm : m.natAbs < 2 ^ 9000) : divOk g = true := by
  unfold divOk
  rw [Bool.and_eq_true]
  refine ⟨decide_eq_true h0, decide_eq_true ?_⟩
  exact (Nat.log2_lt (by omega)).mpr (by omega)
theorem lowest_ev (n m : Int) (b : Bw) (hm : m ≠ 0) (hs : m.natAbs < 2 ^ 9000) : m_lowest [.int n, .int m] b = .ok (.val (rq (Rat.divInt n m))) b := by
  unfold m_lowest
  by_cases hp : m > 0
  · obtain ⟨h1, h2, h3, h4⟩ := low_num n m _ hm rfl
    rw [if_pos hp] at h1 h2 h3 h4
    simp [x_mir, v_lowest, ent, hp, div_ok h3 h4 hs, h1, h2, LIM, rq]
  · obtain ⟨h1, h2, h3, h4⟩ := low_num n m _ hm rfl
    rw [if_neg hp] at h1 h2 h3 h4
    simp [x_mir, v_lowest, ent, hp, div_ok h3 h4 hs, h1, h2, LIM, rq]
theorem mul_ok {i j : Int} (h1 : i.natAbs < 2 ^ 4000) (h2 : j.natAbs < 2 ^ 4000) : mulOk i j = true := by
  unfold mulOk
  have lg : ∀ n : Nat, n < 2 ^ 4000 → n.log2 < 4000 := fun n h => by
    by_cases z : n = 0
    · rw [z]
      decide
    · exact (Nat.log2_lt z).mpr h
  exact decide_eq_true (by have := lg _ h1; have := lg _ h2; omega)
/-- a fraction of at most k bits above and below -/
def Sm (k : Nat) (q : Rat) : Prop := q.num.natAbs < 2 ^ k ∧ q.den < 2 ^ k
theorem divInt_add (a b : Rat) : Rat.divInt (a.num * b.den + b.num * a.den) (a.den * b.den) = a + b := by
  rw [Rat.add_def', ← Rat.divInt_ofNat, Int.natCast_mul]
theorem divInt_sub (a b : Rat) : Rat.divInt (a.num * b.den - b.num * a.den) (a.den * b.den) = a - b := by
  rw [Rat.sub_def', ← Rat.divInt_ofNat, Int.natCast_mul]
theorem den_ne (q : Rat) : (q.den : Int) ≠ 0 := by have := q.den_nz; omega
theorem nat_mul_lt {a b k : Nat} (h1 : a < 2 ^ k) (h2 : b < 2 ^ k) : a * b < 2 ^ (2 * k) := by
  have h : 2 ^ (2 * k) = 2 ^ k * 2 ^ k := by rw [← Nat.pow_add]; congr 1; omega
  rw [h]
  exact Nat.mul_lt_mul'' h1 h2
theorem plus_ev {k : Nat} (hk : k ≤ 4000) (p q : Rat) (b : Bw) (hp : Sm k p) (hq : Sm k q) : m_plus [rq p, rq q] b = .ok (.val (rq (p + q))) b := by
  have up : ∀ n : Nat, n < 2 ^ k → n < 2 ^ 4000 := fun n h => Nat.lt_of_lt_of_le h (Nat.pow_le_pow_right (by decide) hk)
  have m1 : mulOk p.num q.den = true := mul_ok (up _ hp.1) (up _ hq.2)
  have m2 : mulOk q.num p.den = true := mul_ok (up _ hq.1) (up _ hp.2)
  have m3 : mulOk p.den q.den = true := mul_ok (up _ hp.2) (up _ hq.2)
  have dd : ((p.den : Int) * q.den).natAbs < 2 ^ 9000 := by
    rw [Int.natAbs_mul]
    exact Nat.lt_of_lt_of_le (nat_mul_lt (k := k) hp.2 hq.2) (Nat.pow_le_pow_right (by decide) (by omega))
  have l := lowest_ev (p.num * q.den + q.num * p.den) (p.den * q.den) b (Int.mul_ne_zero (den_ne p) (den_ne q)) dd
  rw [divInt_add] at l
  simp [m_plus, x_mir, v_plus, ent, rq, m1, m2, m3]
  rw [l]
  rfl
theorem minus_ev {k : Nat} (hk : k ≤ 4000) (p q : Rat) (b : Bw) (hp : Sm k p) (hq : Sm k q) : m_minus [rq p, rq q] b = .ok (.val (rq (p - q))) b := by
  have up : ∀ n : Nat, n < 2 ^ k → n < 2 ^ 4000 := fun n h => Nat.lt_of_lt_of_le h (Nat.pow_le_pow_right (by decide) hk)
  have m1 : mulOk p.num q.den = true := mul_ok (up _ hp.1) (up _ hq.2)
  have m2 : mulOk q.num p.den = true := mul_ok (up _ hq.1) (up _ hp.2)
  have m3 : mulOk p.den q.den = true := mul_ok (up _ hp.2) (up _ hq.2)
  have dd : ((p.den : Int) * q.den).natAbs < 2 ^ 9000 := by
    rw [Int.natAbs_mul]
    exact Nat.lt_of_lt_of_le (nat_mul_lt (k := k) hp.2 hq.2) (Nat.pow_le_pow_right (by decide) (by omega))
  have l := lowest_ev (p.num * q.den - q.num * p.den) (p.den * q.den) b (Int.mul_ne_zero (den_ne p) (den_ne q)) dd
  rw [divInt_sub] at l
  simp [m_minus, x_mir, v_minus, ent, rq, m1, m2, m3]
  rw [l]
  rfl
theorem less_ev {k : Nat} (hk : k ≤ 4000) (p q : Rat) (b : Bw) (hp : Sm k p) (hq : Sm k q) : m_is_less [rq p, rq q] b = .ok (.val (.bl (decide (p < q)))) b := by
  have up : ∀ n : Nat, n < 2 ^ k → n < 2 ^ 4000 := fun n h => Nat.lt_of_lt_of_le h (Nat.pow_le_pow_right (by decide) hk)
  have m1 : mulOk p.num q.den = true := mul_ok (up _ hp.1) (up _ hq.2)
  have m2 : mulOk q.num p.den = true := mul_ok (up _ hq.1) (up _ hp.2)
  have e : decide (p < q) = decide (p.num * q.den < q.num * p.den) := by
    rw [decide_eq_decide]
    exact Rat.lt_iff p q
  simp [m_is_less, x_mir, v_is_less, ent, rq, m1, m2, e]
theorem law_less_ev {k : Nat} (hk : k ≤ 4000) (p q : Rat) (b : Bw) (hp : Sm k p) (hq : Sm k q) : m__law_is_less [rq p, rq q] b = .ok (.val (.bl (decide (p < q)))) b := by
  have up : ∀ n : Nat, n < 2 ^ k → n < 2 ^ 4000 := fun n h => Nat.lt_of_lt_of_le h (Nat.pow_le_pow_right (by decide) hk)
  have m1 : mulOk p.num q.den = true := mul_ok (up _ hp.1) (up _ hq.2)
  have m2 : mulOk q.num p.den = true := mul_ok (up _ hq.1) (up _ hp.2)
  have e : decide (p < q) = decide (p.num * q.den < q.num * p.den) := by
    rw [decide_eq_decide]
    exact Rat.lt_iff p q
  simp [m__law_is_less, x_mir, v__law_is_less, ent, rq, m1, m2, e]
/-! ### the law's own fractions -/
abbrev frT : EvT := dTst (dOp2 fGt (dVar 3) (dC (.int 0)))
abbrev frB : Sv := dPar2 2 3 (dVal (dVar 3)) (dVal (dOp2 fMod (dOpL (f1 intD) (dCons (dVar 2) dNil)) (dVar 3)))
theorem gcd_loop (s0 s1 : Slot) (b : Bw) : ∀ (h l : Nat), whN frT frB (h + 1) [s0, s1, .val (.int (l : Nat)), .val (.int (h : Nat))] b = .nx [s0, s1, .val (.int (Nat.gcd l h : Nat)), .val (.int 0)] b := by
  intro h
  induction h using Nat.strongRecOn with
  | ind h ih =>
    intro l
    unfold whN
    by_cases h0 : h = 0
    · subst h0
      simp
    · have hp : (0 : Int) < (h : Int) := by omega
      have lt : l % h < h := Nat.mod_lt _ (by omega)
      have step := ih (l % h) lt h
      have e : (l : Int).fmod (h : Int) = ((l % h : Nat) : Int) := by
        rw [Int.fmod_eq_emod_of_nonneg _ (by omega)]
        omega
      have ne : whN frT frB (l % h + 1) [s0, s1, .val (.int (h : Nat)), .val (.int ((l % h : Nat) : Int))] b ≠ .bad := by
        rw [step]
        exact fun z => by cases z
      have w := whN_le ne (show l % h + 1 ≤ h by omega)
      have g : Nat.gcd h (l % h) = Nat.gcd l h := by rw [Nat.gcd_comm l h, Nat.gcd_rec h l, Nat.gcd_comm]
      rw [step, g] at w
      have hq : 0 < h := by omega
      rw [show ((l % h : Nat) : Int) = (l : Int) % (h : Int) from by omega] at w e
      simp [hp, hq, h0, e]
      exact w
theorem law_fr_ev (n m : Int) (b : Bw) (hm : m ≠ 0) (hs : m.natAbs < 2 ^ 9000) : m__law_fr [.int n, .int m] b = .ok (.val (rq (Rat.divInt n m))) b := by
  have ab : ∀ k : Int, (if k < 0 then -k else k) = ((k.natAbs : Nat) : Int) := fun k => by split <;> omega
  have lp := dWhile_eq (t := frT) (body := frB) (n.natAbs + 1) (gcd_loop (.val (.int n)) (.val (.int m)) b n.natAbs m.natAbs) (fun z => by cases z)
  have e : Nat.gcd m.natAbs n.natAbs = Nat.gcd n.natAbs m.natAbs := Nat.gcd_comm _ _
  rw [e] at lp
  obtain ⟨h1, h2, h3, h4⟩ := low_num n m _ hm rfl
  unfold m__law_fr
  by_cases hp : m > 0
  · rw [if_pos hp] at h1 h2 h3 h4
    simp [x_mir, v__law_fr, ent, ab, lp, hp, div_ok h3 h4 hs, h1, h2, LIM, rq]
  · rw [if_neg hp] at h1 h2 h3 h4
    have g0 : (Nat.gcd n.natAbs m.natAbs : Int) ≠ 0 := by omega
    have h5 : (Nat.gcd n.natAbs m.natAbs : Int).natAbs ≤ m.natAbs := by omega
    have q : ∀ x : Int, (-x).fdiv (Nat.gcd n.natAbs m.natAbs : Int) = x.fdiv (-(Nat.gcd n.natAbs m.natAbs : Int)) := fun x => by
      rw [← Int.neg_fdiv_neg (-x), Int.neg_neg]
    have h6 := q n
    have h7 := q m
    rw [h1] at h6
    rw [h2] at h7
    simp [x_mir, v__law_fr, ent, ab, lp, hp, div_ok g0 h5 hs, h6, h7, LIM, rq]
theorem rq_ix0 (q : Rat) (b : Bw) : ixB (rq q) (.int 0) b = .ok (.val (.int q.num)) b := rfl
theorem rq_ix1 (q : Rat) (b : Bw) : ixB (rq q) (.int 1) b = .ok (.val (.int q.den)) b := rfl
theorem up4 {k : Nat} (hk : k ≤ 4000) {n : Nat} (h : n < 2 ^ k) : n < 2 ^ 4000 := Nat.lt_of_lt_of_le h (Nat.pow_le_pow_right (by decide) hk)
theorem dd9 {k x y : Nat} (hk : k ≤ 4000) (h1 : x < 2 ^ k) (h2 : y < 2 ^ k) : ((x : Int) * y).natAbs < 2 ^ 9000 := by
  rw [Int.natAbs_mul]
  exact Nat.lt_of_lt_of_le (nat_mul_lt (k := k) h1 h2) (Nat.pow_le_pow_right (by decide) (by omega))
theorem law_plus_ev {k : Nat} (hk : k ≤ 4000) (p q : Rat) (b : Bw) (hp : Sm k p) (hq : Sm k q) : m__law_plus [rq p, rq q] b = .ok (.val (rq (p + q))) b := by
  have m1 : mulOk p.num q.den = true := mul_ok (up4 hk hp.1) (up4 hk hq.2)
  have m2 : mulOk q.num p.den = true := mul_ok (up4 hk hq.1) (up4 hk hp.2)
  have m3 : mulOk p.den q.den = true := mul_ok (up4 hk hp.2) (up4 hk hq.2)
  have l := law_fr_ev (p.num * q.den + q.num * p.den) (p.den * q.den) b (Int.mul_ne_zero (den_ne p) (den_ne q)) (dd9 hk hp.2 hq.2)
  rw [divInt_add] at l
  simp [m__law_plus, x_mir, v__law_plus, ent, rq, m1, m2, m3]
  rw [l]
  rfl
theorem law_less2_ev {k : Nat} (hk : k ≤ 4000) (p q : Rat) (b : Bw) (hp : Sm k p) (hq : Sm k q) : m__law_less [rq p, rq q] b = .ok (.val (rq (p - q))) b := by
  have l := law_plus_ev hk p (-q) b hp ⟨by rw [Rat.neg_num, Int.natAbs_neg]; exact hq.1, hq.2⟩
  have e : (0 : Int) - q.num = (-q).num := by rw [Rat.neg_num]; omega
  have e2 : (q.den : Int) = ((-q).den : Int) := rfl
  rw [Rat.sub_eq_add_neg]
  simp [m__law_less, x_mir, v__law_less, ent, rq, LIM]
  have l' : m__law_plus [D.tup [D.int p.num, D.int ↑p.den], D.tup [D.int (-q.num), D.int ↑q.den]] b = Res.ok (Wv.val (rq (p + -q))) b := l
  rw [l']
  rfl
theorem law_times_raw {k : Nat} (hk : k ≤ 4000) (p : Rat) (x : Int) (y : Nat) (b : Bw) (hp : Sm k p) (hx : x.natAbs < 2 ^ k) (hy : y < 2 ^ k) (h0 : y ≠ 0) : m__law_times [rq p, .tup [.int x, .int (y : Nat)]] b = .ok (.val (rq (Rat.divInt (p.num * x) (p.den * y)))) b := by
  have m1 : mulOk p.num x = true := mul_ok (up4 hk hp.1) (up4 hk hx)
  have m2 : mulOk p.den y = true := mul_ok (up4 hk hp.2) (up4 hk hy)
  have l := law_fr_ev (p.num * x) (p.den * y) b (Int.mul_ne_zero (den_ne p) (by omega)) (dd9 hk hp.2 hy)
  simp [m__law_times, x_mir, v__law_times, ent, rq, m1, m2]
  rw [l]
  rfl
theorem over_raw {k : Nat} (hk : k ≤ 4000) (p : Rat) (y : Nat) (b : Bw) (hp : Sm k p) (hy : y < 2 ^ k) (h0 : y ≠ 0) (h1 : 0 < k) : m_over [rq p, .tup [.int (y : Nat), .int 1]] b = .ok (.val (rq (Rat.divInt (p.num * 1) (p.den * y)))) b := by
  have one : (1 : Int).natAbs < 2 ^ k := Nat.one_lt_two_pow (by omega)
  have m1 : mulOk p.num 1 = true := mul_ok (up4 hk hp.1) (up4 hk one)
  have m2 : mulOk p.den y = true := mul_ok (up4 hk hp.2) (up4 hk hy)
  have l := lowest_ev (p.num * 1) (p.den * y) b (Int.mul_ne_zero (den_ne p) (by omega)) (dd9 hk hp.2 hy)
  rw [Int.mul_one] at l ⊢
  simp [m_over, x_mir, v_over, ent, rq, m1, m2]
  rw [l]
  rfl
theorem lesser_ev {k : Nat} (hk : k ≤ 4000) (p q : Rat) (b : Bw) (hp : Sm k p) (hq : Sm k q) : m_lesser [rq p, rq q] b = .ok (.val (rq (if q < p then q else p))) b := by
  have l := less_ev hk q p b hq hp
  simp [m_lesser, x_mir, v_lesser, ent, l]
  by_cases h : q < p <;> simp [h]
theorem greater_ev {k : Nat} (hk : k ≤ 4000) (p q : Rat) (b : Bw) (hp : Sm k p) (hq : Sm k q) : m_greater [rq p, rq q] b = .ok (.val (rq (if p < q then q else p))) b := by
  have l := less_ev hk p q b hp hq
  simp [m_greater, x_mir, v_greater, ent, l]
  by_cases h : p < q <;> simp [h]
theorem Sm.add {k : Nat} {p q : Rat} (hp : Sm k p) (hq : Sm k q) : Sm (2 * k + 1) (p + q) := by
  have n1 := Rat.num_add p q
  have n2 := Rat.den_add p q
  have h2 : p.den * q.den < 2 ^ (2 * k) := nat_mul_lt hp.2 hq.2
  have h3 : 2 ^ (2 * k) * 2 = 2 ^ (2 * k + 1) := (Nat.pow_succ ..).symm
  constructor
  · rw [n1]
    refine Nat.lt_of_le_of_lt (?_ : _ ≤ (p.num * q.den + q.num * p.den).natAbs) ?_
    · exact Int.natAbs_ediv_le_natAbs _ _
    · have a1 := nat_mul_lt hp.1 hq.2
      have a2 := nat_mul_lt hq.1 hp.2
      have a3 : (p.num * q.den + q.num * p.den).natAbs ≤ p.num.natAbs * q.den + q.num.natAbs * p.den := by
        refine Nat.le_trans (Int.natAbs_add_le _ _) ?_
        rw [Int.natAbs_mul, Int.natAbs_mul]
        simp
      omega
  · rw [n2]
    exact Nat.lt_of_le_of_lt (Nat.div_le_self _ _) (by omega)
theorem Sm.neg {k : Nat} {q : Rat} (h : Sm k q) : Sm k (-q) := ⟨by rw [Rat.neg_num, Int.natAbs_neg]; exact h.1, h.2⟩
theorem Sm.sub {k : Nat} {p q : Rat} (hp : Sm k p) (hq : Sm k q) : Sm (2 * k + 1) (p - q) := by
  rw [Rat.sub_eq_add_neg]
  exact hp.add hq.neg
theorem Sm.mono {j k : Nat} {q : Rat} (h : Sm j q) (l : j ≤ k) : Sm k q := ⟨Nat.lt_of_lt_of_le h.1 (Nat.pow_le_pow_right (by decide) l), Nat.lt_of_lt_of_le h.2 (Nat.pow_le_pow_right (by decide) l)⟩
def G (k : Nat) : Nat → Nat
  | 0 => k
  | n + 1 => 2 * G k n + 1
theorem G_le (k : Nat) : ∀ n, k ≤ G k n
  | 0 => Nat.le_refl _
  | n + 1 => by have := G_le k n; unfold G; omega
theorem G_step (k : Nat) : ∀ n i, G (G k i) n = G k (n + i)
  | 0, i => by rw [Nat.zero_add]; rfl
  | n + 1, i => by
    rw [show n + 1 + i = (n + i) + 1 by omega]
    unfold G
    rw [G_step k n i]
theorem G_mono (k : Nat) : ∀ {n m : Nat}, n ≤ m → G k n ≤ G k m := fun {n m} h => by
  induction h with
  | refl => exact Nat.le_refl _
  | step _ ih => exact Nat.le_trans ih (show _ ≤ 2 * G k _ + 1 by omega)
theorem tot_loop {m : Mir} {b : Bw} {s0 : Slot} {k : Nat} (hm : ∀ j p q, j ≤ 4000 → Sm j p → Sm j q → m [rq p, rq q] b = .ok (.val (rq (p + q))) b) : ∀ (l : List Rat) (i : Nat) (s : Rat) (x : Slot), (∀ q ∈ l, Sm k q) → Sm (G k i) s → G k (i + l.length) ≤ 4000 →
    ∃ x', forL (bName 2) (dAsg 1 (dVal (dCall m (dCons (dVar 1) (dCons (dVar 2) dNil))))) (l.map rq) [s0, .val (rq s), x] b = .nx [s0, .val (rq (l.foldl (· + ·) s)), x'] b ∧ Sm (G k (i + l.length)) (l.foldl (· + ·) s)
  | [], i, s, x, _, hs, _ => ⟨x, rfl, hs⟩
  | q :: l, i, s, x, hl, hs, hg => by
    have hq : Sm (G k i) q := (hl q List.mem_cons_self).mono (G_le k i)
    have g1 : G k i ≤ 4000 := Nat.le_trans (G_mono k (by simp)) hg
    have e := hm (G k i) s q g1 hs hq
    have hs2 : Sm (G k (i + 1)) (s + q) := hs.add hq
    have el : i + (q :: l).length = i + 1 + l.length := by rw [List.length_cons]; omega
    rw [el] at hg ⊢
    obtain ⟨x', h1, h2⟩ := tot_loop hm l (i + 1) (s + q) (.val (rq q)) (fun z hz => hl z (List.mem_cons_of_mem _ hz)) hs2 hg
    refine ⟨x', ?_, h2⟩
    rw [List.map_cons, x_forC]
    simp [e]
    exact h1
def sumR (l : List Rat) : Rat := l.foldl (· + ·) 0
theorem zero_rq : rq 0 = .tup [.int 0, .int 1] := rfl
theorem Sm0 (k : Nat) (h : 0 < k) : Sm k 0 := ⟨Nat.pow_pos (by decide), Nat.one_lt_two_pow (by omega)⟩
theorem total_ev {k : Nat} (l : List Rat) (d : D) (b : Bw) (hd : d = .lst (l.map rq) ∨ d = .tup (l.map rq)) (k0 : 0 < k) (hl : ∀ q ∈ l, Sm k q) (hg : G k l.length ≤ 4000) : m_total [d] b = .ok (.val (rq (sumR l))) b ∧ Sm (G k l.length) (sumR l) := by
  obtain ⟨x', h1, h2⟩ := tot_loop (m := m_plus) (b := b) (s0 := .val d) (k := k) (fun j p q hj hp hq => plus_ev hj p q b hp hq) l 0 0 .un hl (Sm0 k k0) (by rw [Nat.zero_add]; exact hg)
  rw [Nat.zero_add] at h2
  refine ⟨?_, h2⟩
  rcases hd with rfl | rfl
  · simp [m_total, x_mir, v_total, ent, c_NOTHING, ← zero_rq, h1, sumR]
  · simp [m_total, x_mir, v_total, ent, c_NOTHING, ← zero_rq, h1, sumR]
theorem law_total_ev {k : Nat} (l : List Rat) (d : D) (b : Bw) (hd : d = .lst (l.map rq) ∨ d = .tup (l.map rq)) (k0 : 0 < k) (hl : ∀ q ∈ l, Sm k q) (hg : G k l.length ≤ 4000) : m__law_total [d] b = .ok (.val (rq (sumR l))) b := by
  obtain ⟨x', h1, h2⟩ := tot_loop (m := m__law_plus) (b := b) (s0 := .val d) (k := k) (fun j p q hj hp hq => law_plus_ev hj p q b hp hq) l 0 0 .un hl (Sm0 k k0) (by rw [Nat.zero_add]; exact hg)
  rcases hd with rfl | rfl
  · simp [m__law_total, x_mir, v__law_total, ent, LIM, ← zero_rq, h1, sumR]
  · simp [m__law_total, x_mir, v__law_total, ent, LIM, ← zero_rq, h1, sumR]
/-! ### near -/
def spr (p q : Rat) : Rat := (if p < q then q else p) - (if q < p then q else p)
theorem spread2_ev {k : Nat} (hk : k ≤ 4000) (p q : Rat) (b : Bw) (hp : Sm k p) (hq : Sm k q) : m_spread_by [.tup [rq p, rq q]] b = .ok (.val (rq (spr p q))) b := by
  have a1 := lesser_ev hk p p b hp hp
  have a2 := greater_ev hk p p b hp hp
  have a3 := lesser_ev hk p q b hp hq
  have a4 := greater_ev hk p q b hp hq
  have ir : ¬ p < p := Rat.lt_irrefl
  rw [if_neg ir] at a1 a2
  have s1 : Sm k (if q < p then q else p) := by split <;> assumption
  have s2 : Sm k (if p < q then q else p) := by split <;> assumption
  have a5 := minus_ev hk _ _ b s2 s1
  simp [m_spread_by, x_mir, v_spread_by, ent, x_forC, a1, a2, a3, a4, a5, spr]
theorem spr_near (p q w : Rat) : (¬ w < spr p q) ↔ (¬ w < q - p ∧ ¬ w < p - q) := by
  unfold spr
  split <;> split <;> grind
theorem are_near_ev {k : Nat} (hk : k ≤ 1900) (p q w : Rat) (b : Bw) (hp : Sm k p) (hq : Sm k q) (hw : Sm k w) : m_are_near [rq p, rq q, rq w] b = .ok (.val (.bl (decide (¬ w < q - p ∧ ¬ w < p - q)))) b := by
  have a1 := spread2_ev (k := k) (by omega) p q b hp hq
  have s : Sm (2 * k + 1) (spr p q) := by
    unfold spr
    split <;> split <;> exact Sm.sub (by assumption) (by assumption)
  have a2 := less_ev (k := 2 * k + 1) (by omega) w (spr p q) b (hw.mono (by omega)) s
  have e : decide (¬ w < q - p ∧ ¬ w < p - q) = !decide (w < spr p q) := by
    rw [← decide_not, decide_eq_decide]
    exact (spr_near p q w).symm
  rw [e]
  simp [m_are_near, x_mir, v_are_near, ent, LIM, a1, a2]
def nearB (w x y : Rat) : Bool := decide (¬ w < y - x ∧ ¬ w < x - y)
def meanR (l : List Rat) : Rat := Rat.divInt ((sumR l).num * 1) ((sumR l).den * (l.length : Nat))
def beatR (l : List Rat) (w : Rat) : List Rat := l.map fun x => meanR (l.filter (nearB w x))
noncomputable abbrev nbB : Sv := (dSeq (dAsg 4 (dVal (dComp (dSeqI (dVar 0)) (bName 5) (dTst (dCall m_are_near (dCons (dVar 3) (dCons (dVar 5) (dCons (dVar 1) dNil))))) (dVar 5) [5]))) (dApp 2 (dCall m_over (dCons (dCall m_total (dCons (dVar 4) dNil)) (dCons (dOpL fTup (dCons (dOpL (f1 lenD) (dCons (dVar 4) dNil)) (dCons (dC (.int 1)) dNil))) dNil)))))
theorem near_self {w x : Rat} (h : 0 ≤ w) : nearB w x x = true := by
  unfold nearB
  rw [decide_eq_true_eq, Rat.sub_self]
  have : ¬ w < 0 := Rat.not_lt.mpr h
  exact ⟨this, this⟩
theorem nb_step {k : Nat} (k0 : 0 < k) (hk : k ≤ 100) (l : List Rat) (w x : Rat) (b : Bw) (acc : List D) (s4 s5 : Slot) (no : ∀ d, s5 ≠ .own d) (hl : ∀ q ∈ l, Sm k q) (hw : Sm k w) (h5 : l.length ≤ 5) (hx : x ∈ l) (w0 : 0 ≤ w) (ha : acc.length < LIM) :
    ∃ s4', nbB [.val (.tup (l.map rq)), .val (rq w), .own (.lst acc), .val (rq x), s4, s5] b = .nx [.val (.tup (l.map rq)), .val (rq w), .own (.lst (acc ++ [rq (meanR (l.filter (nearB w x)))])), .val (rq x), s4', s5] b := by
  have c := compL_filter (bd := bName 5) (tt := dTst (dCall m_are_near (dCons (dVar 3) (dCons (dVar 5) (dCons (dVar 1) dNil))))) (te := dVar 5) (env := wipeE [.val (.tup (l.map rq)), .val (rq w), .own (.lst acc), .val (rq x), s4, s5] [5]) (b := b) rq (nearB w x) l (fun y hy => by
    have a := are_near_ev (k := k) (by omega) x y w b (hl x hx) (hl y hy) hw
    refine ⟨_, rfl, ?_, rfl⟩
    simp [wipeE, a, nearB])
  have fl : (l.filter (nearB w x)).length ≤ 5 := Nat.le_trans (List.length_filter_le _ _) h5
  have fpos : (l.filter (nearB w x)).length ≠ 0 := by
    have : x ∈ l.filter (nearB w x) := List.mem_filter.mpr ⟨hx, near_self w0⟩
    intro z
    rw [List.length_eq_zero_iff.mp z] at this
    cases this
  have g5 : G k 5 ≤ 4000 := by
    show 2 * (2 * (2 * (2 * (2 * k + 1) + 1) + 1) + 1) + 1 ≤ 4000
    omega
  have gl := G_mono k fl
  obtain ⟨t, ts⟩ := total_ev (k := k) (l.filter (nearB w x)) (.lst ((l.filter (nearB w x)).map rq)) b (.inl rfl) k0 (fun q hq => hl q ((List.mem_filter.mp hq).1)) (Nat.le_trans gl g5)
  have K4 : 5 < 2 ^ (G k 5) := Nat.lt_of_lt_of_le (show 5 < 2 ^ 31 by decide) (Nat.pow_le_pow_right (by decide) (by
    show 31 ≤ 2 * (2 * (2 * (2 * (2 * k + 1) + 1) + 1) + 1) + 1
    omega))
  have o := over_raw (k := G k 5) g5 (sumR (l.filter (nearB w x))) (l.filter (nearB w x)).length b (ts.mono gl) (by omega) fpos (by have := G_le k 5; omega)
  have no' : noOwn [.val (.tup (l.map rq)), .val (rq w), .own (.lst acc), .val (rq x), s4, s5] [5] = true := by
    unfold noOwn
    cases s5 with
    | own d => exact absurd rfl (no d)
    | _ => rfl
  refine ⟨.val (.lst ((l.filter (nearB w x)).map rq)), ?_⟩
  simp [no', c, t, o, LIM] at ha ⊢
  simp [ha, meanR]
noncomputable abbrev nbL : Sv := (dSeq (dAsg 4 (dVal (dComp (dSeqI (dVar 0)) (bName 5) (dAnd (dNot (dTst (dCall m__law_is_less (dCons (dVar 1) (dCons (dCall m__law_less (dCons (dVar 5) (dCons (dVar 3) dNil))) dNil))))) (dNot (dTst (dCall m__law_is_less (dCons (dVar 1) (dCons (dCall m__law_less (dCons (dVar 3) (dCons (dVar 5) dNil))) dNil)))))) (dVar 5) [5]))) (dApp 2 (dCall m__law_times (dCons (dCall m__law_total (dCons (dVar 4) dNil)) (dCons (dOpL fTup (dCons (dC (.int 1)) (dCons (dOpL (f1 lenD) (dCons (dVar 4) dNil)) dNil))) dNil)))))
theorem nbL_step {k : Nat} (k0 : 0 < k) (hk : k ≤ 100) (l : List Rat) (w x : Rat) (b : Bw) (acc : List D) (s4 s5 : Slot) (no : ∀ d, s5 ≠ .own d) (hl : ∀ q ∈ l, Sm k q) (hw : Sm k w) (h5 : l.length ≤ 5) (hx : x ∈ l) (w0 : 0 ≤ w) (ha : acc.length < LIM) :
    ∃ s4', nbL [.val (.tup (l.map rq)), .val (rq w), .own (.lst acc), .val (rq x), s4, s5] b = .nx [.val (.tup (l.map rq)), .val (rq w), .own (.lst (acc ++ [rq (meanR (l.filter (nearB w x)))])), .val (rq x), s4', s5] b := by
  have c := compL_filter (bd := bName 5) (tt := (dAnd (dNot (dTst (dCall m__law_is_less (dCons (dVar 1) (dCons (dCall m__law_less (dCons (dVar 5) (dCons (dVar 3) dNil))) dNil))))) (dNot (dTst (dCall m__law_is_less (dCons (dVar 1) (dCons (dCall m__law_less (dCons (dVar 3) (dCons (dVar 5) dNil))) dNil))))))) (te := dVar 5) (env := wipeE [.val (.tup (l.map rq)), .val (rq w), .own (.lst acc), .val (rq x), s4, s5] [5]) (b := b) rq (nearB w x) l (fun y hy => by
    have a1 := law_less2_ev (k := k) (by omega) y x b (hl y hy) (hl x hx)
    have a2 := law_less2_ev (k := k) (by omega) x y b (hl x hx) (hl y hy)
    have a3 := law_less_ev (k := 2 * k + 1) (by omega) w (y - x) b (hw.mono (by omega)) ((hl y hy).sub (hl x hx))
    have a4 := law_less_ev (k := 2 * k + 1) (by omega) w (x - y) b (hw.mono (by omega)) ((hl x hx).sub (hl y hy))
    refine ⟨_, rfl, ?_, rfl⟩
    simp [wipeE, a1, a2, a3, a4, nearB]
    by_cases z : w < y - x <;> simp [z, a4])
  have fl : (l.filter (nearB w x)).length ≤ 5 := Nat.le_trans (List.length_filter_le _ _) h5
  have fpos : (l.filter (nearB w x)).length ≠ 0 := by
    have : x ∈ l.filter (nearB w x) := List.mem_filter.mpr ⟨hx, near_self w0⟩
    intro z
    rw [List.length_eq_zero_iff.mp z] at this
    cases this
  have g5 : G k 5 ≤ 4000 := by
    show 2 * (2 * (2 * (2 * (2 * k + 1) + 1) + 1) + 1) + 1 ≤ 4000
    omega
  have gl := G_mono k fl
  have t := law_total_ev (k := k) (l.filter (nearB w x)) (.lst ((l.filter (nearB w x)).map rq)) b (.inl rfl) k0 (fun q hq => hl q (List.mem_filter.mp hq).1) (Nat.le_trans gl g5)
  obtain ⟨_, ts⟩ := total_ev (k := k) (l.filter (nearB w x)) (.lst ((l.filter (nearB w x)).map rq)) b (.inl rfl) k0 (fun q hq => hl q (List.mem_filter.mp hq).1) (Nat.le_trans gl g5)
  have K4 : 5 < 2 ^ (G k 5) := Nat.lt_of_lt_of_le (show 5 < 2 ^ 31 by decide) (Nat.pow_le_pow_right (by decide) (by
    show 31 ≤ 2 * (2 * (2 * (2 * (2 * k + 1) + 1) + 1) + 1) + 1
    omega))
  have o := law_times_raw (k := G k 5) g5 (sumR (l.filter (nearB w x))) 1 (l.filter (nearB w x)).length b (ts.mono gl) (by
    show 1 < 2 ^ (G k 5)
    omega) (by omega) fpos
  have no' : noOwn [.val (.tup (l.map rq)), .val (rq w), .own (.lst acc), .val (rq x), s4, s5] [5] = true := by
    unfold noOwn
    cases s5 with
    | own d => exact absurd rfl (no d)
    | _ => rfl
  refine ⟨.val (.lst ((l.filter (nearB w x)).map rq)), ?_⟩
  simp [no', c, t, o, LIM] at ha ⊢
  simp [ha, meanR]
theorem app_loop {st : Sv} {v0 v1 s5 : Slot} {b : Bw} (f : Rat → D) : ∀ (r : List Rat) (acc : List D) (s3 s4 : Slot), (∀ x ∈ r, ∀ acc s4, acc.length < 100 → ∃ s4', st [v0, v1, .own (.lst acc), .val (rq x), s4, s5] b = .nx [v0, v1, .own (.lst (acc ++ [f x])), .val (rq x), s4', s5] b) → acc.length + r.length < 100 →
    ∃ s3' s4', forL (bName 3) st (r.map rq) [v0, v1, .own (.lst acc), s3, s4, s5] b = .nx [v0, v1, .own (.lst (acc ++ r.map f)), s3', s4', s5] b
  | [], acc, s3, s4, _, _ => ⟨s3, s4, by rw [List.map_nil, List.map_nil, List.append_nil, x_forN]⟩
  | x :: r, acc, s3, s4, h, hl => by
    rw [List.length_cons] at hl
    obtain ⟨s4', e⟩ := h x List.mem_cons_self acc s4 (by omega)
    obtain ⟨t3, t4, e2⟩ := app_loop f r (acc ++ [f x]) (.val (rq x)) s4' (fun y hy => h y (List.mem_cons_of_mem _ hy)) (by simp; omega)
    refine ⟨t3, t4, ?_⟩
    rw [List.map_cons, x_forC]
    simp [e, e2]
theorem near_beat_by_ev {k : Nat} (k0 : 0 < k) (hk : k ≤ 100) (l : List Rat) (w : Rat) (b : Bw) (hl : ∀ q ∈ l, Sm k q) (hw : Sm k w) (h5 : l.length ≤ 5) (w0 : 0 ≤ w) : m_near_beat_by [.tup (l.map rq), rq w] b = .ok (.val (.tup ((beatR l w).map rq))) b := by
  obtain ⟨s3, s4, e⟩ := app_loop (st := nbB) (v0 := .val (.tup (l.map rq))) (v1 := .val (rq w)) (s5 := .un) (b := b) (fun x => rq (meanR (l.filter (nearB w x)))) l [] .un .un (fun x hx acc s4 ha => nb_step k0 hk l w x b acc s4 .un (by simp) hl hw h5 hx w0 (Nat.lt_of_lt_of_le ha (by decide))) (by simp; omega)
  simp [m_near_beat_by, x_mir, v_near_beat_by, ent, LIM, e, frzS, beatR, List.map_map, Function.comp_def]
theorem law_near_beat_ev {k : Nat} (k0 : 0 < k) (hk : k ≤ 100) (l : List Rat) (w : Rat) (b : Bw) (hl : ∀ q ∈ l, Sm k q) (hw : Sm k w) (h5 : l.length ≤ 5) (w0 : 0 ≤ w) : m__law_near_beat [.tup (l.map rq), rq w] b = .ok (.val (.tup ((beatR l w).map rq))) b := by
  obtain ⟨s3, s4, e⟩ := app_loop (st := nbL) (v0 := .val (.tup (l.map rq))) (v1 := .val (rq w)) (s5 := .un) (b := b) (fun x => rq (meanR (l.filter (nearB w x)))) l [] .un .un (fun x hx acc s4 ha => nbL_step k0 hk l w x b acc s4 .un (by simp) hl hw h5 hx w0 (Nat.lt_of_lt_of_le ha (by decide))) (by simp; omega)
  simp [m__law_near_beat, x_mir, v__law_near_beat, ent, LIM, e, frzS, beatR, List.map_map, Function.comp_def]
/-! ### the checks -/
theorem is_fraction_ev (q : Rat) (b : Bw) : m_is_fraction [rq q] b = .ok (.val (.bl true)) b := by
  have h1 : m_is_pair [rq q] b = .ok (.val (.bl true)) b := by
    simp [m_is_pair, x_mir, v_is_pair, ent, m_is_tuple_of, v_is_tuple_of, rq, tyN, isTy, isiB, vB]
  have h2 : ∀ i : Int, m_is_whole [.int i] b = .ok (.val (.bl true)) b := fun i => by
    simp [m_is_whole, x_mir, v_is_whole, ent, tyN, isTy, isiB, vB]
  have h3 : (0 : Int) < q.den := by have := q.den_nz; omega
  have h4 : Nat.gcd q.num.natAbs q.den = 1 := q.reduced
  simp [m_is_fraction, x_mir, v_is_fraction, ent, h1]
  have h5 : 0 < q.den := by omega
  simp [rq, noOwn, wipeE, compL, h2, asBls, vB, h3, h4, h5]
theorem noClos_of : ∀ {ds : List D}, (∀ d ∈ ds, noClo d = true) → noClos ds = true
  | [], _ => rfl
  | d :: ds, h => by
    simp only [noClos, Bool.and_eq_true]
    exact ⟨h d List.mem_cons_self, noClos_of fun x hx => h x (List.mem_cons_of_mem _ hx)⟩
theorem noClo_rq (q : Rat) : noClo (rq q) = true := rfl
theorem noClo_cut (l : List Rat) (lo hi : Option Int) : noClos (cutD (l.map rq) lo hi) = true := noClos_of fun d hd => by
  unfold cutD at hd
  have h := List.mem_of_mem_drop (List.mem_of_mem_take hd)
  obtain ⟨q, _, rfl⟩ := List.mem_map.mp h
  rfl
theorem lam_ev (s0 s1 : Slot) (x d : D) (q : Rat) (b : Bw) : lamM l_wrong_in_all_0 2 3 [2] [s0, s1, .val (.glo "is_fraction")] [x, rq q] b = .ok (.val (.bl true)) b := by
  have e : lamEnt 2 3 [2] [s0, s1, .val (.glo "is_fraction")] [x, rq q] = [.val x, .val (rq q), .val (.glo "is_fraction")] := rfl
  have u : lamM l_wrong_in_all_0 2 3 [2] [s0, s1, .val (.glo "is_fraction")] [x, rq q] b = clean (l_wrong_in_all_0 (lamEnt 2 3 [2] [s0, s1, .val (.glo "is_fraction")] [x, rq q]) b) := by
    unfold lamM
    rfl
  rw [u, e]
  have g : l_wrong_in_all_0 [.val x, .val (rq q), .val (.glo "is_fraction")] b = .ok (.val (.bl true)) b := by
    unfold l_wrong_in_all_0 dCallV
    simp [vGlo, gm_wrong_in_all, is_fraction_ev]
  rw [g]
  rfl
abbrev wiB (cm : Option CM) : Sv := (dIfS (dOr (dTst (dOp2 fEq (dVar 4) (dVar 2))) (dNot (dTst (dCallV 3 (fun _ => none) cm (dCons (dSl (dVar 0) dNoPart (dPart (dVar 4))) (dCons (dVar 5) dNil)))))) (dRet (dOpL fLst (dCons (dVar 4) dNil))) dNext)
theorem wi_loop (lm : Mir) (l : List Rat) (b : Bw) (hlm : ∀ (x : D) (q : Rat), lm [x, rq q] b = .ok (.val (.bl true)) b) : ∀ (r : List Rat) (i : Nat) (s4 s5 : Slot), i + r.length = l.length →
    ∃ s4' s5', forL (bTup [bName 4, bName 5]) (wiB (some (2, lm))) (enumL i (r.map rq)) [.val (.tup (l.map rq)), .val (.int (l.length : Nat)), .val (.int (l.length : Nat)), .val (.clo 0), s4, s5] b = .nx [.val (.tup (l.map rq)), .val (.int (l.length : Nat)), .val (.int (l.length : Nat)), .val (.clo 0), s4', s5'] b
  | [], i, s4, s5, _ => ⟨s4, s5, rfl⟩
  | q :: r, i, s4, s5, h => by
    rw [List.length_cons] at h
    obtain ⟨t4, t5, e⟩ := wi_loop lm l b hlm r (i + 1) (.val (.int (i : Nat))) (.val (rq q)) (by omega)
    have ne : ((i : Int) == (l.length : Int)) = false := beq_eq_false_iff_ne.mpr (by omega)
    have call : dCallV 3 (fun _ => none) (some (2, lm)) (dCons (dSl (dVar 0) dNoPart (dPart (dVar 4))) (dCons (dVar 5) dNil)) [.val (.tup (l.map rq)), .val (.int (l.length : Nat)), .val (.int (l.length : Nat)), .val (.clo 0), .val (.int (i : Nat)), .val (rq q)] b = .ok (.val (.bl true)) b := by
      unfold dCallV vClo
      simp [dSl, dNoPart, dPart, part1, fSl, noClos, noClo, noClo_cut, noClo_rq, hlm]
    refine ⟨t4, t5, ?_⟩
    rw [List.map_cons]
    unfold enumL
    rw [x_forC]
    simp [bTup, bEach, ne, call, e]
theorem wi_ev (lm : Mir) (l : List Rat) (b : Bw) (hlm : ∀ (x : D) (q : Rat), lm [x, rq q] b = .ok (.val (.bl true)) b) : m_wrong_in (2, lm) [.tup (l.map rq), .int (l.length : Nat), .int (l.length : Nat), .clo 0] b = .ok (.own (.lst [])) b := by
  obtain ⟨t4, t5, e⟩ := wi_loop lm l b hlm l 0 .un .un (by omega)
  have ir : ¬ ((l.length : Int) < (l.length : Int)) := by omega
  unfold m_wrong_in
  simp [x_mir, v_wrong_in, ent, tyN, isTy, isiB, vB, enum1, e, LIM, clean, noClo, noClos]
theorem wia_ev (l : List Rat) (b : Bw) (h5 : l.length ≤ 5) : ∃ w, m_wrong_in_all [.tup (l.map rq), .int (l.length : Nat), .glo "is_fraction"] b = .ok w b ∧ w.d = .lst [] := by
  have a := wi_ev (lamM l_wrong_in_all_0 2 3 [2] [.val (.tup (l.map rq)), .val (.int (l.length : Nat)), .val (.glo "is_fraction")]) l b (fun x q => lam_ev _ _ x x q b)
  have t : m_is_tuple_of [.tup (l.map rq), .int (l.length : Nat)] b = .ok (.val (.bl true)) b := by
    simp [x_mir, m_is_tuple_of, v_is_tuple_of, ent, tyN, isTy, isiB, vB]
  have nc : noClos (l.map rq) = true := noClos_of fun d hd => by
    obtain ⟨q, _, rfl⟩ := List.mem_map.mp hd
    rfl
  refine ⟨.own (.lst []), ?_, rfl⟩
  simp [m_wrong_in_all, x_mir, v_wrong_in_all, ent, t, dCallH, noClos, noClo, nc, a]
theorem wrong_minds_ev (l : List Rat) (b : Bw) (h5 : l.length ≤ 5) (h1 : 1 ≤ l.length) : ∃ w, m_wrong_in_minds [.tup (l.map rq), .non] b = .ok w b ∧ w.d = .lst [] := by
  obtain ⟨w, a, hw⟩ := wia_ev l b h5
  refine ⟨w, ?_, hw⟩
  have g1 : (1 : Int) ≤ (l.length : Int) := by omega
  have g5 : (l.length : Int) ≤ 5 := by omega
  simp [m_wrong_in_minds, x_mir, v_wrong_in_minds, ent, isNon, tyN, isTy, isiB, vB, c_MOST_PEOPLE, g1, g5, a]
theorem check_minds_ev (l : List Rat) (b : Bw) (h5 : l.length ≤ 5) (h1 : 1 ≤ l.length) : m_check_lone_minds [.tup (l.map rq)] b = .ok (.val .non) b := by
  obtain ⟨w, a, hw⟩ := wrong_minds_ev l b h5 h1
  simp [m_check_lone_minds, x_mir, v_check_lone_minds, ent, a, hw]
theorem near_beat_ev {k : Nat} (k0 : 0 < k) (hk : k ≤ 100) (l : List Rat) (w : Rat) (b : Bw) (hl : ∀ q ∈ l, Sm k q) (hw : Sm k w) (h5 : l.length ≤ 5) (h1 : 1 ≤ l.length) (w0 : 0 < w) : m_near_beat [.tup (l.map rq), rq w] b = .ok (.val (.tup ((beatR l w).map rq))) b := by
  have a := near_beat_by_ev k0 hk l w b hl hw h5 (Rat.le_of_lt w0)
  have c := check_minds_ev l b h5 h1
  have f := is_fraction_ev w b
  have n0 : (0 : Int) ≤ w.num := Rat.num_nonneg.mpr (Rat.le_of_lt w0)
  have s : m_is_sum [rq w] b = .ok (.val (.bl true)) b := by
    simp [m_is_sum, x_mir, v_is_sum, ent, f]
    simp [rq, n0]
  have ne : fEq (rq w) c_NOTHING = some (.val (.bl false)) := by
    have z : w.num ≠ 0 := fun z => Rat.ne_of_lt w0 (Rat.num_eq_zero.mp z).symm
    simp [fEq, rq, c_NOTHING, PD, pureD, pureDs, eqD, eqDs, vB, z]
  have cn : m_check_near [.tup (l.map rq), rq w] b = .ok (.val .non) b := by
    simp [m_check_near, x_mir, v_check_near, ent, c, s, ne]
  simp [m_near_beat, x_mir, v_near_beat, ent, cn, a]
end P

set_option Elab.async false
set_option linter.all false
set_option maxRecDepth 100000
set_option maxHeartbeats 4000000
namespace P
open PySem DL W
/-! ### same -/
def sam : Nat → D → Prop
  | 0, _ => False
  | _ + 1, .int _ => True
  | _ + 1, .bl _ => True
  | _ + 1, .non => True
  | k + 1, .tup l => l.length ≤ 500000 ∧ ∀ d ∈ l, sam k d
  | k + 1, .lst l => l.length ≤ 500000 ∧ ∀ d ∈ l, sam k d
  | _ + 1, _ => False
theorem asBls_yes : ∀ (n : Nat) (l : List Nat), l.length = n → asBls (l.map fun _ => D.bl true) = some (List.replicate n true)
  | 0, [], _ => rfl
  | n + 1, x :: l, h => by
    rw [List.map_cons]
    unfold asBls
    rw [asBls_yes n l (by simpa using h)]
    rfl
theorem rngL_eq (n : Nat) : rngL 0 (n : Nat) = (List.range n).map fun (i : Nat) => D.int (i : Nat) := by
  unfold rngL
  simp
theorem rng1_eq (n : Nat) (b : Bw) (h : n ≤ 500000) : rng1 (.int (n : Nat)) b = .ok ((List.range n).map fun (i : Nat) => D.int (i : Nat)) b := by
  have h1 : (n : Int) ≤ 500000 := by omega
  have h2 : (-500000 : Int) ≤ n := by omega
  simp [rng1, rngOk, h1, h2, rngL_eq]
theorem atI_nat (l : List D) (k : Nat) (h : k < l.length) : L2.atI l (k : Int) = some l[k] := by
  have h1 : (k : Int) < (l.length : Int) := by omega
  simp [L2.atI, L2.ixN, h1, h]
theorem same_seq {self : Mir} {b : Bw} {l : List D} (s0 s1 s2 : Slot) (h5 : l.length ≤ 500000) (hs : ∀ d ∈ l, self [d, d] b = .ok (.val (.bl true)) b) (h0 : s0 = .val (.tup l) ∨ s0 = .val (.lst l)) (h1 : s1 = s0) :
    compL (bName 3) dYes (dCall self (dCons (dIx (dVar 0) (dVar 3)) (dCons (dIx (dVar 1) (dVar 3)) dNil))) [s0, s1, s2, .un] ((List.range l.length).map fun (i : Nat) => D.int (i : Nat)) b = .ok ((List.range l.length).map fun _ => D.bl true) b :=
  compL_map (fun (i : Nat) => D.int (i : Nat)) (fun _ => D.bl true) _ fun i hi => by
    have hi := List.mem_range.mp hi
    have e := hs l[i] (List.getElem_mem hi)
    refine ⟨_, .val (.bl true), rfl, rfl, ?_, rfl⟩
    subst h1
    rcases h0 with rfl | rfl
    · simp [atI_nat l i hi, e]
    · simp [atI_nat l i hi, e]
theorem same_ev (b : Bw) : ∀ (k : Nat) (d : D), sam k d → m__law_same k [d, d] b = .ok (.val (.bl true)) b
  | k + 1, .int i, _ => by simp [m__law_same, x_mir, v__law_same, ent, tyN, isTy, isiB, vB, isNon]
  | k + 1, .bl i, _ => by cases i <;> simp [m__law_same, x_mir, v__law_same, ent, tyN, isTy, isiB, vB, isNon, fEq, pureD, eqD, PD]
  | k + 1, .non, _ => by simp [m__law_same, x_mir, v__law_same, ent, tyN, isTy, isiB, vB, isNon]
  | k + 1, .tup l, h => by
    have c := same_seq (self := m__law_same k) (b := b) (.val (.tup l)) _ (.val (.bl true)) h.1 (fun d hd => same_ev b k d (h.2 d hd)) (.inl rfl) rfl
    simp [m__law_same, x_mir, v__law_same, ent, tyN, isTy, isiB, vB, isNon, dRng1, rng1_eq _ _ h.1, noOwn, wipeE, c, asBls_yes l.length _ List.length_range]
  | k + 1, .lst l, h => by
    have c := same_seq (self := m__law_same k) (b := b) (.val (.lst l)) _ (.val (.bl true)) h.1 (fun d hd => same_ev b k d (h.2 d hd)) (.inr rfl) rfl
    simp [m__law_same, x_mir, v__law_same, ent, tyN, isTy, isiB, vB, isNon, dRng1, rng1_eq _ _ h.1, noOwn, wipeE, c, asBls_yes l.length _ List.length_range]
/-! ### the bowl -/
theorem mul_small {i j : Int} (h1 : i.natAbs < 2 ^ 100) (h2 : j.natAbs < 2 ^ 100) : mulOk i j = true := by
  unfold mulOk
  have lg : ∀ n : Nat, n < 2 ^ 100 → n.log2 < 100 := fun n h => by
    by_cases z : n = 0
    · rw [z]
      decide
    · exact (Nat.log2_lt z).mpr h
  exact decide_eq_true (by have := lg _ h1; have := lg _ h2; omega)
def Inv (n : Nat) (b : Bw) : Prop := ∃ o s c : Int, b = some [o, s, c] ∧ 0 ≤ o ∧ 0 ≤ s ∧ s < 2147483629 ∧ 0 ≤ c ∧ c ≤ (n : Int)
theorem Inv.mono {n m : Nat} {b : Bw} (h : Inv n b) (l : n ≤ m) : Inv m b := by
  obtain ⟨o, s, c, h1, h2, h3, h4, h5, h6⟩ := h
  exact ⟨o, s, c, h1, h2, h3, h4, h5, by omega⟩
@[simp] theorem y_ixb (l : List Int) (k : Int) : ixB .bowl (.int k) (some l) = (match L2.atI l k with | some v => .ok (.val (.int v)) (some l) | none => .bad) := rfl
@[simp] theorem y_at0 (x y z : Int) : L2.atI [x, y, z] 0 = some x := rfl
@[simp] theorem y_at1 (x y z : Int) : L2.atI [x, y, z] 1 = some y := rfl
@[simp] theorem y_at2 (x y z : Int) : L2.atI [x, y, z] 2 = some z := rfl
@[simp] theorem y_set0 (r : Sls) (x y z v : Int) : setB 0 (.val .bowl :: r) (.int 0) (.int v) (some [x, y, z]) = .nx (.val .bowl :: r) (some [v, y, z]) := rfl
@[simp] theorem y_set1 (r : Sls) (x y z v : Int) : setB 0 (.val .bowl :: r) (.int 1) (.int v) (some [x, y, z]) = .nx (.val .bowl :: r) (some [x, v, z]) := rfl
@[simp] theorem y_set2 (r : Sls) (x y z v : Int) : setB 0 (.val .bowl :: r) (.int 2) (.int v) (some [x, y, z]) = .nx (.val .bowl :: r) (some [x, y, v]) := rfl
@[simp] theorem y_setIx {i : Nat} {ei ev : Ev} {env : Sls} {b : Bw} : dSetIx i ei ev env b = (ev env b).toS fun w b1 => if isHold env[i]? then (ei env b1).toS fun y b2 => setB i env y.d w.d b2 else .bad := rfl
@[simp] theorem y_setIx2 {i j : Nat} {ei ev : Ev} {env : Sls} {b : Bw} : dSetIx2 i j ei ev env b = (ev env b).toS fun w b1 => match w.d with
  | .tup [d1, d2] => if isHold env[i]? then (ei env b1).toS fun y b2 => match setB i env y.d d1 b2 with
    | .nx env' b3 => .nx (env'.set j (.val d2)) b3
    | _ => .bad
    else .bad
  | _ => .bad := rfl
@[simp] theorem y_hold (s : Sls) : isHold (some (.val .bowl)) = true := rfl
theorem fm_pos (x : Int) {y : Int} (h : 0 < y) : 0 ≤ x.fmod y ∧ x.fmod y < y := ⟨Int.fmod_nonneg_of_pos x h, Int.fmod_lt_of_pos x h⟩
theorem na_lt {x : Int} {k : Int} (h1 : 0 ≤ x) (h2 : x < k) (h3 : k ≤ 2 ^ 90) : x.natAbs < 2 ^ 100 := by
  have : (x.natAbs : Int) < 2 ^ 100 := by
    rw [Int.natAbs_of_nonneg h1]
    exact Int.lt_trans h2 (Int.lt_of_le_of_lt h3 (by decide))
  exact_mod_cast this
theorem below_ev {n : Nat} {b : Bw} (I : Inv n b) (hn : n ≤ 1000000) (m : Nat) (h1 : 0 < m) (h2 : m ≤ 1000000) : ∃ (i : Nat) (b' : Bw), m__law_below [.bowl, .int (m : Nat)] b = .ok (.val (.int (i : Nat))) b' ∧ i < m ∧ Inv (n + 1) b' := by
  obtain ⟨o, s, c, rfl, ho, hs, hs2, hc, hc2⟩ := I
  have m1 : (0 : Int) < (m : Int) := by omega
  have m2 : (m : Int) < 1073741824 := by omega
  by_cases z : 0 < o
  · have q1 := Int.emod_nonneg o (show (m : Int) ≠ 0 by omega)
    have q2 := Int.emod_lt_of_pos o m1
    refine ⟨(o % (m : Int)).toNat, some [o / m, s, c], ?_, by omega, _, _, _, rfl, Int.ediv_nonneg ho (by omega), hs, hs2, hc, by omega⟩
    have e : ((o % (m : Int)).toNat : Int) = o % m := Int.toNat_of_nonneg q1
    rw [e]
    simp [m__law_below, x_mir, v__law_below, ent, z, fDivmod, m1, m2, fI2, isHold, h1]
  · have e1 : mulOk s 48677 = true := mul_small (na_lt hs hs2 (by decide)) (by decide)
    have e2 : mulOk 3413 (c + 1) = true := mul_small (by decide) (na_lt (k := 2000000) (by omega) (by omega) (by decide))
    have p1 := fm_pos (s * 48677 + 3413 * (c + 1) + 61) (y := 2147483563) (by decide)
    have p2 := fm_pos ((s * 48677 + 3413 * (c + 1) + 61).fmod 2147483563) (y := 4001) (by decide)
    have e3 : mulOk ((s * 48677 + 3413 * (c + 1) + 61).fmod 2147483563) (((s * 48677 + 3413 * (c + 1) + 61).fmod 2147483563).fmod 4001 + 17911) = true := mul_small (na_lt p1.1 p1.2 (by decide)) (na_lt (k := 30000) (by omega) (by omega) (by decide))
    have p3 := fm_pos ((s * 48677 + 3413 * (c + 1) + 61).fmod 2147483563 * (((s * 48677 + 3413 * (c + 1) + 61).fmod 2147483563).fmod 4001 + 17911) + (c + 1)) (y := 2147483563) (by decide)
    have p4 := fm_pos (((s * 48677 + 3413 * (c + 1) + 61).fmod 2147483563 * (((s * 48677 + 3413 * (c + 1) + 61).fmod 2147483563).fmod 4001 + 17911) + (c + 1)).fmod 2147483563 |>.fdiv 367) (y := (m : Int)) m1
    have d1 : divOk 367 = true := by decide
    refine ⟨((((s * 48677 + 3413 * (c + 1) + 61).fmod 2147483563 * (((s * 48677 + 3413 * (c + 1) + 61).fmod 2147483563).fmod 4001 + 17911) + (c + 1)).fmod 2147483563 |>.fdiv 367).fmod m).toNat, some [o, ((s * 48677 + 3413 * (c + 1) + 61).fmod 2147483563 * (((s * 48677 + 3413 * (c + 1) + 61).fmod 2147483563).fmod 4001 + 17911) + (c + 1)).fmod 2147483563, c + 1], ?_, ?_, _, _, _, rfl, ho, p3.1, by omega, by omega, by omega⟩
    · rw [Int.toNat_of_nonneg p4.1]
      have m0 : ¬ ((m : Int) = 0) := by omega
      have m0' : ¬ (m = 0) := by omega
      simp [m__law_below, x_mir, v__law_below, ent, z, e1, e2, e3, isHold, d1, m0, m0']
    · omega
theorem one_ev {n : Nat} {b : Bw} (I : Inv n b) (hn : n ≤ 1000000) (l : List D) (h1 : 0 < l.length) (h2 : l.length ≤ 1000000) : ∃ (d : D) (b' : Bw), m__law_one [.bowl, .tup l] b = .ok (.val d) b' ∧ d ∈ l ∧ Inv (n + 1) b' := by
  obtain ⟨i, b', e, hi, I'⟩ := below_ev I hn l.length h1 h2
  refine ⟨l[i], b', ?_, List.getElem_mem hi, I'⟩
  simp [m__law_one, x_mir, v__law_one, ent, e, atI_nat l i hi]
/-! ### the pool -/
theorem cut_ints (ns : List Int) (lo hi : Option Int) : ∃ ms : List Int, cutD (ns.map D.int) lo hi = ms.map D.int := by
  unfold cutD
  refine ⟨(ns.drop (HT.sIx (ns.map D.int).length 0 lo)).take (HT.sIx (ns.map D.int).length (ns.map D.int).length hi - HT.sIx (ns.map D.int).length 0 lo), ?_⟩
  rw [List.map_take, List.map_drop]
theorem pool_loop {b : Bw} {v0 v1 v2 : Slot} : ∀ (ms : List Int) (s : Int) (x : Slot), 0 ≤ s → s < 2147483629 → ∃ s' x', forL (bName 4) (dAsg 3 (dVal (dOp2 fMod (dOpL (f1 intD) (dCons (dOp2 fAddG (dOp2 fAddG (dOp2 fMulG (dVar 3) (dC (.int 40699))) (dOp2 fMod (dOpL (f1 intD) (dCons (dVar 4) dNil)) (dC (.int 2147483587)))) (dC (.int 23))) dNil)) (dC (.int 2147483629))))) (ms.map D.int) [v0, v1, v2, .val (.int s), x] b = .nx [v0, v1, v2, .val (.int s'), x'] b ∧ 0 ≤ s' ∧ s' < 2147483629
  | [], s, x, h1, h2 => ⟨s, x, rfl, h1, h2⟩
  | m :: ms, s, x, h1, h2 => by
    have e1 : mulOk s 40699 = true := mul_small (na_lt h1 h2 (by decide)) (by decide)
    have p := fm_pos (s * 40699 + m.fmod 2147483587 + 23) (y := 2147483629) (by decide)
    obtain ⟨s', x', e, q1, q2⟩ := pool_loop (b := b) (v0 := v0) (v1 := v1) (v2 := v2) ms _ (.val (.int m)) p.1 p.2
    refine ⟨s', x', ?_, q1, q2⟩
    rw [List.map_cons, x_forC]
    simp [e1, e]
theorem pool_ev (ns : List Int) (k : Nat) (hk : k ≤ 3) (b : Bw) : ∃ o s : Int, m__law_pool [.lst (ns.map D.int), .int (k : Nat)] b = .ok (.own (.lst [.int o, .int s, .int 0])) b ∧ 0 ≤ o ∧ 0 ≤ s ∧ s < 2147483629 := by
  have cell : ∃ c : Int, (dIf (dTst (dOp2 fLt (dVar 1) (dOpL (f1 lenD) (dCons (dVar 0) dNil)))) (dOpL (f1 intD) (dCons (dIx (dVar 0) (dVar 1)) dNil)) (dOp2 fAddG (dOp2 fMulG (dC (.int 11863)) (dVar 1)) (dC (.int 1237)))) [.val (.lst (ns.map D.int)), .val (.int (k : Nat)), .un, .un, .un] b = .ok (.val (.int c)) b := by
    by_cases h : k < ns.length
    · refine ⟨ns[k], ?_⟩
      have a := atI_nat (ns.map D.int) k (by simpa using h)
      rw [List.getElem_map] at a
      simp [h, a]
    · have e1 : mulOk 11863 k = true := mul_small (by decide) (na_lt (k := 10) (by omega) (by omega) (by decide))
      exact ⟨_, by simp [h, e1]; rfl⟩
  obtain ⟨c, hc⟩ := cell
  obtain ⟨ms, hms⟩ := cut_ints ns none (some 63)
  have e1 : mulOk 9013 k = true := mul_small (by decide) (na_lt (k := 10) (by omega) (by omega) (by decide))
  obtain ⟨s', x', e2, q1, q2⟩ := pool_loop (b := b) (v0 := .val (.lst (ns.map D.int))) (v1 := .val (.int (k : Nat))) (v2 := .val (.int c)) ms (101797 + 9013 * (k : Nat)) .un (by omega) (by omega)
  have e3 : mulOk s' 97 = true := mul_small (na_lt q1 q2 (by decide)) (by decide)
  have p1 := fm_pos c (y := 2147483587) (by decide)
  have e4 : mulOk (c.fmod 2147483587) 31013 = true := mul_small (na_lt p1.1 p1.2 (by decide)) (by decide)
  have p2 := fm_pos (s' * 97 + c.fmod 2147483587 * 31013 + 7) (y := 2147483629) (by decide)
  have pw : fPow (.int 10) (.int 15) = some (.val (.int 1000000000000000)) := rfl
  simp only [m__law_pool, x_mir, v__law_pool]
  generalize (dIf (dTst (dOp2 fLt (dVar 1) (dOpL (f1 lenD) (dCons (dVar 0) dNil)))) (dOpL (f1 intD) (dCons (dIx (dVar 0) (dVar 1)) dNil)) (dOp2 fAddG (dOp2 fMulG (dC (.int 11863)) (dVar 1)) (dC (.int 1237)))) = E at hc ⊢
  by_cases z : c < 0
  · refine ⟨-c, _, ?_, by omega, p2.1, p2.2⟩
    simp [ent, hc, dSl, dNoPart, dPart, part1, fSl, hms, e1, e2, e3, e4, z, LIM]
  · by_cases z2 : 1000000000000000 ≤ c
    · refine ⟨c, _, ?_, by omega, p2.1, p2.2⟩
      simp [ent, hc, dSl, dNoPart, dPart, part1, fSl, hms, e1, e2, e3, e4, z, z2, LIM, pw]
    · refine ⟨0, _, ?_, by omega, p2.1, p2.2⟩
      simp [ent, hc, dSl, dNoPart, dPart, part1, fSl, hms, e1, e2, e3, e4, z, z2, LIM, pw]
theorem compL_st {bd : Bd} {te : Ev} {env : Sls} {α : Type} (K : Nat) (f : α → D) (Q : D → Prop) : ∀ (l : List α) (n : Nat) (b : Bw), Inv n b → n + K * l.length ≤ 1000000 → (∀ a ∈ l, ∀ n b, Inv n b → n + K ≤ 1000000 → ∃ e w b', bd (f a) env = some e ∧ te e b = .ok w b' ∧ Q w.d ∧ Inv (n + K) b') → ∃ r b', compL bd dYes te env (l.map f) b = .ok r b' ∧ r.length = l.length ∧ (∀ d ∈ r, Q d) ∧ Inv (n + K * l.length) b'
  | [], n, b, I, _, _ => ⟨[], b, rfl, rfl, by simp, I⟩
  | a :: l, n, b, I, hn, h => by
    rw [List.length_cons, Nat.mul_succ] at hn
    obtain ⟨e, w, b1, h1, h2, h3, I1⟩ := h a List.mem_cons_self n b I (by omega)
    obtain ⟨r, b', h4, h5, h6, I2⟩ := compL_st K f Q l (n + K) b1 I1 (by omega) fun x hx => h x (List.mem_cons_of_mem _ hx)
    refine ⟨w.d :: r, b', ?_, by simp [h5], ?_, ?_⟩
    · rw [List.map_cons]
      unfold compL
      simp [h1, h2, h4]
    · intro d hd
      rcases List.mem_cons.mp hd with rfl | hd
      · exact h3
      · exact h6 d hd
    · rw [List.length_cons, Nat.mul_succ]
      rw [show n + (K * l.length + K) = n + K + K * l.length by omega]
      exact I2
end P

set_option Elab.async false
set_option linter.all false
set_option maxRecDepth 100000
set_option maxHeartbeats 4000000
set_option exponentiation.threshold 20000
namespace P
open PySem DL W
theorem fold_add : ∀ (l : List Rat) (s : Rat), l.foldl (· + ·) s = s + l.foldl (· + ·) 0
  | [], s => by simp [Rat.add_zero]
  | x :: l, s => by
    rw [List.foldl_cons, List.foldl_cons, fold_add l (s + x), fold_add l (0 + x)]
    grind
theorem sumR_cons (x : Rat) (l : List Rat) : sumR (x :: l) = x + sumR l := by
  unfold sumR
  rw [List.foldl_cons, fold_add]
  grind
theorem sumR_nil : sumR [] = 0 := rfl
theorem sum_le (p : Rat) : ∀ (l : List Rat), (∀ z ∈ l, z ≤ p) → sumR l ≤ p * (l.length : Rat)
  | [], _ => by rw [sumR_nil]; simp
  | x :: l, h => by
    have a := h x List.mem_cons_self
    have b := sum_le p l fun z hz => h z (List.mem_cons_of_mem _ hz)
    rw [sumR_cons, List.length_cons]
    have c : ((l.length + 1 : Nat) : Rat) = (l.length : Rat) + 1 := by simp
    rw [c]
    grind
theorem le_sum (p : Rat) : ∀ (l : List Rat), (∀ z ∈ l, p ≤ z) → p * (l.length : Rat) ≤ sumR l
  | [], _ => by rw [sumR_nil]; simp
  | x :: l, h => by
    have a := h x List.mem_cons_self
    have b := le_sum p l fun z hz => h z (List.mem_cons_of_mem _ hz)
    rw [sumR_cons, List.length_cons]
    have c : ((l.length + 1 : Nat) : Rat) = (l.length : Rat) + 1 := by simp
    rw [c]
    grind
theorem sum_split (A B : Rat → Bool) : ∀ (l : List Rat), sumR (l.filter A) = sumR (l.filter fun z => A z && !B z) + sumR (l.filter fun z => A z && B z) ∧ (l.filter A).length = (l.filter fun z => A z && !B z).length + (l.filter fun z => A z && B z).length
  | [] => ⟨(Rat.add_zero 0).symm, rfl⟩
  | x :: l => by
    obtain ⟨h1, h2⟩ := sum_split A B l
    cases a : A x <;> cases b : B x <;> simp [a, b, sumR_cons, h1, h2] <;> grind
theorem mean_eq (l : List Rat) : meanR l = sumR l / (l.length : Rat) := by
  unfold meanR
  rw [Int.mul_one]
  generalize sumR l = s
  generalize l.length = n
  rw [Rat.divInt_eq_div]
  have e : s = (s.num : Rat) / ((s.den : Int) : Rat) := by
    rw [← Rat.divInt_eq_div, Rat.num_divInt_den]
  rw [Rat.intCast_mul, Rat.div_def, Rat.inv_mul_rev, ← Rat.mul_assoc, Rat.mul_assoc, Rat.mul_comm _ (((s.den : Int) : Rat)⁻¹), ← Rat.mul_assoc, ← Rat.div_def]
  rw [Rat.div_def] at e
  rw [← e]
  rfl
theorem div_le {a b m n : Rat} (hm : 0 < m) (hn : 0 < n) (h : a * n ≤ b * m) : a / m ≤ b / n := by
  have m0 : m ≠ 0 := fun z => by rw [z] at hm; exact Rat.lt_irrefl hm
  have n0 : n ≠ 0 := fun z => by rw [z] at hn; exact Rat.lt_irrefl hn
  refine Rat.le_of_mul_le_mul_right (c := m * n) ?_ (Rat.mul_pos hm hn)
  have e1 := Rat.mul_inv_cancel m m0
  have e2 := Rat.mul_inv_cancel n n0
  have f1 : a / m * (m * n) = a * n := by rw [Rat.div_def]; grind
  have f2 : b / n * (m * n) = b * m := by rw [Rat.div_def]; grind
  rw [f1, f2]
  exact h
theorem mean_mono (l : List Rat) (w x y : Rat) (w0 : 0 ≤ w) (hx : x ∈ l) (hy : y ∈ l) (h : x ≤ y) : meanR (l.filter (nearB w x)) ≤ meanR (l.filter (nearB w y)) := by
  have nb : ∀ u z, nearB w u z = true ↔ (z - u ≤ w ∧ u - z ≤ w) := fun u z => by
    unfold nearB
    rw [decide_eq_true_eq, Rat.not_lt, Rat.not_lt]
  obtain ⟨a1, a2⟩ := sum_split (nearB w x) (nearB w y) l
  obtain ⟨b1, b2⟩ := sum_split (nearB w y) (nearB w x) l
  have cc : (l.filter fun z => nearB w y z && nearB w x z) = (l.filter fun z => nearB w x z && nearB w y z) := by
    congr 1
    funext z
    exact Bool.and_comm _ _
  rw [cc] at b1 b2
  have e1 := sum_le (y - w) (l.filter fun z => nearB w x z && !nearB w y z) fun z hz => by
    have q := (List.mem_filter.mp hz).2
    simp only [Bool.and_eq_true, Bool.not_eq_true', nb] at q
    have q2 : ¬ (z - y ≤ w ∧ y - z ≤ w) := fun c => by
      have := (nb y z).mpr c
      rw [this] at q
      exact absurd q.2 (by decide)
    grind
  have e2 := le_sum (x + w) (l.filter fun z => nearB w y z && !nearB w x z) fun z hz => by
    have q := (List.mem_filter.mp hz).2
    simp only [Bool.and_eq_true, Bool.not_eq_true', nb] at q
    have q2 : ¬ (z - x ≤ w ∧ x - z ≤ w) := fun c => by
      have := (nb x z).mpr c
      rw [this] at q
      exact absurd q.2 (by decide)
    grind
  have e2' := le_sum (y - w) (l.filter fun z => nearB w y z && !nearB w x z) fun z hz => by
    have q := (List.mem_filter.mp hz).2
    simp only [Bool.and_eq_true, Bool.not_eq_true', nb] at q
    grind
  have e3 := sum_le (x + w) (l.filter fun z => nearB w x z && nearB w y z) fun z hz => by
    have q := (List.mem_filter.mp hz).2
    simp only [Bool.and_eq_true, nb] at q
    grind
  have e4 := le_sum (y - w) (l.filter fun z => nearB w x z && nearB w y z) fun z hz => by
    have q := (List.mem_filter.mp hz).2
    simp only [Bool.and_eq_true, nb] at q
    grind
  have pos : ∀ u ∈ l, (0 : Rat) < ((l.filter (nearB w u)).length : Rat) := fun u hu => by
    have m : u ∈ l.filter (nearB w u) := List.mem_filter.mpr ⟨hu, near_self w0⟩
    have := List.length_pos_of_mem m
    exact_mod_cast this
  have px := pos x hx
  have py := pos y hy
  rw [mean_eq, mean_eq]
  have key : sumR (l.filter (nearB w x)) * ((l.filter (nearB w y)).length : Rat) ≤ sumR (l.filter (nearB w y)) * ((l.filter (nearB w x)).length : Rat) := by
    rw [a1, a2, b1, b2]
    generalize sumR (l.filter fun z => nearB w x z && !nearB w y z) = s1 at *
    generalize sumR (l.filter fun z => nearB w y z && !nearB w x z) = s2 at *
    generalize sumR (l.filter fun z => nearB w x z && nearB w y z) = s3 at *
    generalize (l.filter fun z => nearB w x z && !nearB w y z).length = n1 at *
    generalize (l.filter fun z => nearB w y z && !nearB w x z).length = n2 at *
    generalize (l.filter fun z => nearB w x z && nearB w y z).length = n3 at *
    have p1 : (0 : Rat) ≤ (n1 : Rat) := by exact_mod_cast Nat.zero_le n1
    have p2 : (0 : Rat) ≤ (n2 : Rat) := by exact_mod_cast Nat.zero_le n2
    have p3 : (0 : Rat) ≤ (n3 : Rat) := by exact_mod_cast Nat.zero_le n3
    have k1 := Rat.mul_le_mul_of_nonneg_right e1 p2
    have k2 := Rat.mul_le_mul_of_nonneg_right e2' p1
    have k3 := Rat.mul_le_mul_of_nonneg_right e1 p3
    have k4 := Rat.mul_le_mul_of_nonneg_right e4 p1
    have k5 := Rat.mul_le_mul_of_nonneg_right e3 p2
    have k6 := Rat.mul_le_mul_of_nonneg_right e2 p3
    simp only [Rat.natCast_add]
    grind
  exact div_le px py key
end P

set_option Elab.async false
set_option linter.all false
set_option maxRecDepth 100000
set_option maxHeartbeats 4000000
set_option exponentiation.threshold 20000
namespace P
open PySem DL W
structure Draw (l : List Rat) (w : Rat) : Prop where
  one : 1 ≤ l.length
  five : l.length ≤ 5
  els : ∃ k : Nat, 1 ≤ k ∧ k ≤ 3 ∧ ∀ q ∈ l, ∃ a : Nat, a ≤ 8 ∧ q = Rat.divInt (a : Nat) (k : Nat)
  pos : 0 < w
  sm : Sm 31 w
theorem els_sm : ∀ k < 4, ∀ a < 9, k ≠ 0 → (Rat.divInt (a : Nat) (k : Nat)).num.natAbs < 2 ^ 31 ∧ (Rat.divInt (a : Nat) (k : Nat)).den < 2 ^ 31 := by decide +kernel
theorem Draw.sml {l : List Rat} {w : Rat} (h : Draw l w) : ∀ q ∈ l, Sm 31 q := fun q hq => by
  obtain ⟨k, h1, h2, h3⟩ := h.els
  obtain ⟨a, h4, rfl⟩ := h3 q hq
  exact els_sm k (by omega) a (by omega) (by omega)
set_option synthInstance.maxSize 2000 in
set_option synthInstance.maxHeartbeats 400000 in
theorem wid_sm : ∀ x < 6, ∀ y < 3, ∀ k < 4, x ≠ 0 → y ≠ 0 → k ≠ 0 → Rat.blt 0 (Rat.divInt ((x : Nat) * 1) ((y : Nat) * (k : Nat))) = true ∧ (Rat.divInt ((x : Nat) * 1) ((y : Nat) * (k : Nat))).num.natAbs < 2 ^ 31 ∧ (Rat.divInt ((x : Nat) * 1) ((y : Nat) * (k : Nat))).den < 2 ^ 31 := by decide +kernel
theorem mapQ {P : Rat → Prop} : ∀ (r : List D), (∀ d ∈ r, ∃ q, d = rq q ∧ P q) → ∃ l : List Rat, r = l.map rq ∧ ∀ q ∈ l, P q
  | [], _ => ⟨[], rfl, by simp⟩
  | d :: r, h => by
    obtain ⟨q, rfl, hq⟩ := h d List.mem_cons_self
    obtain ⟨l, rfl, hl⟩ := mapQ r fun x hx => h x (List.mem_cons_of_mem _ hx)
    refine ⟨q :: l, rfl, fun z hz => ?_⟩
    rcases List.mem_cons.mp hz with rfl | hz
    · exact hq
    · exact hl z hz
theorem nat_rq (a : Nat) : D.tup [.int (a : Nat), .int 1] = rq (a : Rat) := rfl
theorem times_ev (a k : Nat) (ha : a ≤ 8) (h1 : 1 ≤ k) (h2 : k ≤ 3) (b : Bw) : m__law_times [.tup [.int (a : Nat), .int 1], .tup [.int 1, .int (k : Nat)]] b = .ok (.val (rq (Rat.divInt (a : Nat) (k : Nat)))) b := by
  have e := law_times_raw (k := 31) (by decide) (a : Rat) 1 k b ⟨show a < 2 ^ 31 by omega, show 1 < 2 ^ 31 by decide⟩ (by decide) (by omega) (by omega)
  rw [nat_rq, e]
  have e2 : ((a : Rat).num * 1) = (a : Int) := Int.mul_one _
  have e3 : (((a : Rat).den : Int) * (k : Nat)) = (k : Int) := Int.one_mul _
  rw [e2, e3]
theorem near_draw_ev {n : Nat} {b : Bw} (I : Inv n b) (hn : n + 20 ≤ 1000000) : ∃ l w b', m__law_near_draw [.bowl] b = .ok (.val (.tup [.tup (l.map rq), rq w])) b' ∧ Draw l w ∧ Inv (n + 20) b' := by
  obtain ⟨d, b1, e1, hd, I1⟩ := one_ev I (by omega) [.tup [.int 1, .int 1], .tup [.int 1, .int 2], .tup [.int 1, .int 3]] (by decide) (by decide)
  obtain ⟨k, k1, k2, rfl⟩ : ∃ k : Nat, 1 ≤ k ∧ k ≤ 3 ∧ d = .tup [.int 1, .int (k : Nat)] := by
    simp only [List.mem_cons, List.not_mem_nil, or_false] at hd
    rcases hd with rfl | rfl | rfl
    · exact ⟨1, by decide, by decide, rfl⟩
    · exact ⟨2, by decide, by decide, rfl⟩
    · exact ⟨3, by decide, by decide, rfl⟩
  obtain ⟨i, b2, e2, hi, I2⟩ := below_ev I1 (by omega) 5 (by decide) (by decide)
  have e2 : m__law_below [.bowl, .int 5] b1 = .ok (.val (.int (i : Nat))) b2 := e2
  have rg : rng1 (.int (1 + (i : Int))) b2 = .ok ((List.range (i + 1)).map fun (i : Nat) => D.int (i : Nat)) b2 := by
    rw [show 1 + (i : Int) = ((i + 1 : Nat) : Int) by omega]
    exact rng1_eq _ _ (by omega)
  obtain ⟨r, b3, e3, lr, qr, I3⟩ := compL_st (bd := bName 3) (te := dCall m__law_times (dCons (dOpL fTup (dCons (dCall m__law_below (dCons (dVar 0) (dCons (dC (.int 9)) dNil))) (dCons (dC (.int 1)) dNil))) (dCons (dVar 1) dNil))) (env := [.val .bowl, .val (.tup [.int 1, .int (k : Nat)]), .un, .un]) 1 (fun (i : Nat) => D.int (i : Nat)) (fun d => ∃ q, d = rq q ∧ ∃ a : Nat, a ≤ 8 ∧ q = Rat.divInt (a : Nat) (k : Nat)) (List.range (i + 1)) (n + 1 + 1) b2 I2 (by simp; omega) (fun a _ n' b' I' hn' => by
    obtain ⟨j, b5, e5, hj, I5⟩ := below_ev I' (by omega) 9 (by decide) (by decide)
    have e5 : m__law_below [.bowl, .int 9] b' = .ok (.val (.int (j : Nat))) b5 := e5
    refine ⟨_, .val (rq (Rat.divInt (j : Nat) (k : Nat))), b5, rfl, ?_, ⟨_, rfl, j, by omega, rfl⟩, I5⟩
    have t := times_ev j k (by omega) k1 k2 b5
    simp [e5, t, LIM])
  obtain ⟨l, rfl, hl⟩ := mapQ r qr
  rw [List.length_map, List.length_range] at lr
  rw [List.length_range] at I3
  obtain ⟨d, b4, e4, hd, I4⟩ := one_ev I3 (by omega) [.tup [.int 1, .int 2], .tup [.int 1, .int 1], .tup [.int 2, .int 1], .tup [.int 3, .int 2], .tup [.int 5, .int 1], .tup [.int 3, .int 1]] (by decide) (by decide)
  obtain ⟨x, y, p, x1, x2, y1, y2, rfl, px, py⟩ : ∃ (x y : Nat) (p : Rat), x ≠ 0 ∧ x ≤ 5 ∧ y ≠ 0 ∧ y ≤ 2 ∧ d = rq p ∧ p.num = (x : Nat) ∧ p.den = y := by
    simp only [List.mem_cons, List.not_mem_nil, or_false] at hd
    rcases hd with rfl | rfl | rfl | rfl | rfl | rfl
    · exact ⟨1, 2, ⟨1, 2, by decide, by decide⟩, by decide, by decide, by decide, by decide, rfl, rfl, rfl⟩
    · exact ⟨1, 1, ⟨1, 1, by decide, by decide⟩, by decide, by decide, by decide, by decide, rfl, rfl, rfl⟩
    · exact ⟨2, 1, ⟨2, 1, by decide, by decide⟩, by decide, by decide, by decide, by decide, rfl, rfl, rfl⟩
    · exact ⟨3, 2, ⟨3, 2, by decide, by decide⟩, by decide, by decide, by decide, by decide, rfl, rfl, rfl⟩
    · exact ⟨5, 1, ⟨5, 1, by decide, by decide⟩, by decide, by decide, by decide, by decide, rfl, rfl, rfl⟩
    · exact ⟨3, 1, ⟨3, 1, by decide, by decide⟩, by decide, by decide, by decide, by decide, rfl, rfl, rfl⟩
  have e6 := law_times_raw (k := 31) (by decide) p 1 k b4 ⟨by rw [px]; omega, by rw [py]; omega⟩ (by decide) (by omega) (by omega)
  rw [px, py] at e6
  have ws := wid_sm x (by omega) y (by omega) k (by omega) x1 y1 (by omega)
  refine ⟨l, _, b4, ?_, ⟨by omega, by omega, ⟨k, k1, k2, hl⟩, ws.1, ws.2⟩, I4.mono (by omega)⟩
  simp [m__law_near_draw, x_mir, v__law_near_draw, ent, LIM, e1, e2, dRng1, rg, noOwn, wipeE, e3, e4, e6]
end P

set_option Elab.async false
set_option linter.all false
set_option maxRecDepth 100000
set_option maxHeartbeats 4000000
set_option exponentiation.threshold 20000
namespace P
open PySem DL W
theorem divInt_sm {k : Nat} (x y : Int) (hy : y ≠ 0) (h1 : x.natAbs < 2 ^ k) (h2 : y.natAbs < 2 ^ k) : Sm k (Rat.divInt x y) := by
  obtain ⟨a, b, c, d⟩ := low_num x y _ hy rfl
  generalize (if y > 0 then (Nat.gcd x.natAbs y.natAbs : Int) else -(Nat.gcd x.natAbs y.natAbs : Int)) = g at *
  constructor
  · rw [← a]
    exact Nat.lt_of_le_of_lt (Int.natAbs_fdiv_le_natAbs _ _) h1
  · have : ((Rat.divInt x y).den : Int).natAbs < 2 ^ k := by
      rw [← b]
      exact Nat.lt_of_le_of_lt (Int.natAbs_fdiv_le_natAbs _ _) h2
    exact this
theorem sam_rqs (k : Nat) (l : List Rat) (h : l.length ≤ 500000) : sam (k + 3) (.tup (l.map rq)) := by
  refine ⟨by simpa using h, fun d hd => ?_⟩
  obtain ⟨q, _, rfl⟩ := List.mem_map.mp hd
  refine ⟨show 2 ≤ 500000 by decide, fun d hd => ?_⟩
  simp only [List.mem_cons, List.not_mem_nil, or_false] at hd
  rcases hd with rfl | rfl <;> trivial
theorem same2 (a c : List Rat) (b : Bw) (ha : a.length ≤ 500000) (hc : c.length ≤ 500000) : m__law_same 8 [.lst [.tup (a.map rq), .tup (c.map rq)], .lst [.tup (a.map rq), .tup (c.map rq)]] b = .ok (.val (.bl true)) b :=
  same_ev b 8 _ ⟨show 2 ≤ 500000 by decide, fun d hd => by
    simp only [List.mem_cons, List.not_mem_nil, or_false] at hd
    rcases hd with rfl | rfl
    · exact sam_rqs 4 a ha
    · exact sam_rqs 4 c hc⟩
theorem beat_len (l : List Rat) (w : Rat) : (beatR l w).length = l.length := List.length_map _
theorem beat_sm {l : List Rat} {w : Rat} (h : Draw l w) : ∀ x ∈ l, Sm 1100 (meanR (l.filter (nearB w x))) := fun x hx => by
  have fl : (l.filter (nearB w x)).length ≤ 5 := Nat.le_trans (List.length_filter_le _ _) h.five
  have fp : 0 < (l.filter (nearB w x)).length := List.length_pos_of_mem (List.mem_filter.mpr ⟨hx, near_self (Rat.le_of_lt h.pos)⟩)
  have g5 : G 31 5 = 1023 := by decide
  obtain ⟨_, t0⟩ := total_ev (k := 31) (l.filter (nearB w x)) (.lst ((l.filter (nearB w x)).map rq)) none (.inl rfl) (by decide) (fun q hq => h.sml q (List.mem_filter.mp hq).1) (Nat.le_trans (G_mono 31 fl) (by rw [g5]; decide))
  have ts := t0.mono (Nat.le_trans (G_mono 31 fl) (Nat.le_of_eq g5))
  clear t0
  unfold meanR
  generalize sumR (l.filter (nearB w x)) = s at *
  generalize (l.filter (nearB w x)).length = n at *
  have dp := s.den_nz
  have hd : s.den * n < 2 ^ 1100 := by
    have h3 : s.den * n < 2 ^ (2 * 1023) := nat_mul_lt ts.2 (Nat.lt_of_le_of_lt fl (Nat.lt_of_lt_of_le (show 5 < 2 ^ 3 by decide) (Nat.pow_le_pow_right (by decide) (by decide))))
    have h4 : s.den * n ≤ 2 ^ 1023 * 5 := Nat.mul_le_mul (Nat.le_of_lt ts.2) fl
    exact Nat.lt_of_le_of_lt h4 (by
      have : 2 ^ 1100 = 2 ^ 1023 * 2 ^ 77 := by rw [← Nat.pow_add]
      rw [this]
      exact Nat.mul_lt_mul_of_pos_left (by decide) (Nat.pow_pos (by decide)))
  refine divInt_sm _ _ ?_ ?_ ?_
  · exact Int.mul_ne_zero (by omega) (by omega)
  · rw [Int.mul_one]
    exact Nat.lt_of_lt_of_le ts.1 (Nat.pow_le_pow_right (by decide) (by decide))
  · rw [Int.natAbs_mul]
    simpa using hd
noncomputable abbrev jB : Sv := (dIfS (dTst (dOp2 fNe (dComp (dRng1 (dOpL (f1 lenD) (dCons (dVar 2) dNil))) (bName 6) (dAnd (dNot (dTst (dCall m__law_is_less (dCons (dIx (dVar 2) (dVar 5)) (dCons (dIx (dVar 2) (dVar 6)) dNil))))) (dTst (dCall m__law_is_less (dCons (dIx (dVar 4) (dVar 5)) (dCons (dIx (dVar 4) (dVar 6)) dNil))))) (dVar 6) [6]) (dOpL fLst dNil))) (dRet (dC (.bl false))) dNext)
theorem j_step {l : List Rat} {w : Rat} (h : Draw l w) (b : Bw) (v0 v1 v3 s5 s7 : Slot) (j : Nat) (hj : j < l.length) : jB [v0, v1, .val (.tup (l.map rq)), v3, .val (.tup ((beatR l w).map rq)), .val (.int (j : Nat)), .un, s7] b = .nx [v0, v1, .val (.tup (l.map rq)), v3, .val (.tup ((beatR l w).map rq)), .val (.int (j : Nat)), .un, s7] b := by
  have c := compL_filter (bd := bName 6) (tt := (dAnd (dNot (dTst (dCall m__law_is_less (dCons (dIx (dVar 2) (dVar 5)) (dCons (dIx (dVar 2) (dVar 6)) dNil))))) (dTst (dCall m__law_is_less (dCons (dIx (dVar 4) (dVar 5)) (dCons (dIx (dVar 4) (dVar 6)) dNil)))))) (te := dVar 6) (env := [v0, v1, .val (.tup (l.map rq)), v3, .val (.tup ((beatR l w).map rq)), .val (.int (j : Nat)), .un, s7]) (b := b) (fun (i : Nat) => D.int (i : Nat)) (fun _ => false) (List.range l.length) (fun i hi => by
    have hi := List.mem_range.mp hi
    have a1 := atI_nat (l.map rq) j (by simpa using hj)
    have a2 := atI_nat (l.map rq) i (by simpa using hi)
    have a3 := atI_nat ((beatR l w).map rq) j (by simpa [beat_len] using hj)
    have a4 := atI_nat ((beatR l w).map rq) i (by simpa [beat_len] using hi)
    have mj := List.getElem_mem hj
    have mi := List.getElem_mem hi
    rw [List.getElem_map] at a1 a2 a3 a4
    have e3 : (beatR l w)[j]'(by rw [beat_len]; exact hj) = meanR (l.filter (nearB w l[j])) := List.getElem_map ..
    have e4 : (beatR l w)[i]'(by rw [beat_len]; exact hi) = meanR (l.filter (nearB w l[i])) := List.getElem_map ..
    rw [e3] at a3
    rw [e4] at a4
    have q1 := law_less_ev (k := 31) (by decide) l[j] l[i] b (h.sml _ mj) (h.sml _ mi)
    have q2 := law_less_ev (k := 1100) (by decide) _ _ b (beat_sm h _ mj) (beat_sm h _ mi)
    refine ⟨_, rfl, ?_, rfl⟩
    by_cases z : l[j] < l[i]
    · simp [a1, a2, q1, z]
    · have mm := mean_mono l w l[i] l[j] (Rat.le_of_lt h.pos) mi mj (Rat.not_lt.mp z)
      have mm := Rat.not_lt.mpr mm
      simp [a1, a2, q1, z, a3, a4, q2, mm])
  have rg := rng1_eq l.length b (by have := h.five; omega)
  have ff : (List.range l.length).filter (fun _ => false) = [] := List.filter_eq_nil_iff.mpr (by simp)
  rw [ff] at c
  simp [dRng1, rg, noOwn, wipeE, c, LIM, pureD, pureDs, eqD, eqDs, PD]
theorem j_loop {l : List Rat} {w : Rat} (h : Draw l w) (b : Bw) (v0 v1 v3 s7 : Slot) : ∀ (js : List Nat) (s5 : Slot), (∀ j ∈ js, j < l.length) → ∃ s5', forL (bName 5) jB (js.map fun (i : Nat) => D.int (i : Nat)) [v0, v1, .val (.tup (l.map rq)), v3, .val (.tup ((beatR l w).map rq)), s5, .un, s7] b = .nx [v0, v1, .val (.tup (l.map rq)), v3, .val (.tup ((beatR l w).map rq)), s5', .un, s7] b
  | [], s5, _ => ⟨s5, rfl⟩
  | j :: js, s5, hj => by
    obtain ⟨s5', e⟩ := j_loop h b v0 v1 v3 s7 js (.val (.int (j : Nat))) fun x hx => hj x (List.mem_cons_of_mem _ hx)
    refine ⟨s5', ?_⟩
    have st := j_step h b v0 v1 v3 s5 s7 j (hj j List.mem_cons_self)
    rw [List.map_cons, x_forC]
    simp only [x_bName, List.set_cons_succ, List.set_cons_zero]
    rw [st]
    exact e
end P

set_option Elab.async false
set_option linter.all false
set_option maxRecDepth 100000
set_option maxHeartbeats 4000000
set_option exponentiation.threshold 20000
namespace P
open PySem DL W
def w99 : Rat := ⟨99, 1, by decide, by decide⟩
def w19 : Rat := ⟨1, 9, by decide, by decide⟩
theorem rq99 : D.tup [.int 99, .int 1] = rq w99 := rfl
theorem rq19 : D.tup [.int 1, .int 9] = rq w19 := rfl
def ltB (x y : Rat) : Bool := Rat.blt x y
theorem lt_ltB (x y : Rat) : (x < y) ↔ ltB x y = true := Iff.rfl
theorem far_all : ∀ k < 4, ∀ a < 9, ∀ c < 9, (k == 0 || !(ltB w99 (Rat.divInt (a : Nat) (k : Nat) - Rat.divInt (c : Nat) (k : Nat)))) = true := by decide +kernel
theorem near_none : ∀ k < 4, ∀ a < 9, ∀ c < 9, (k == 0 || a == c || (ltB w19 (Rat.divInt (a : Nat) (k : Nat) - Rat.divInt (c : Nat) (k : Nat)) || ltB w19 (Rat.divInt (c : Nat) (k : Nat) - Rat.divInt (a : Nat) (k : Nat)))) = true := by decide +kernel
theorem beat99 {l : List Rat} {w : Rat} (h : Draw l w) : beatR l w99 = List.replicate l.length (meanR l) := by
  unfold beatR
  refine List.eq_replicate_iff.mpr ⟨List.length_map _, fun x hx => ?_⟩
  obtain ⟨q, hq, rfl⟩ := List.mem_map.mp hx
  have e : l.filter (nearB w99 q) = l := List.filter_eq_self.mpr fun z hz => by
    obtain ⟨k, k1, k2, h3⟩ := h.els
    obtain ⟨a, a1, rfl⟩ := h3 q hq
    obtain ⟨c, c1, rfl⟩ := h3 z hz
    have p1 := far_all k (by omega) a (by omega) c (by omega)
    have p2 := far_all k (by omega) c (by omega) a (by omega)
    have k0 : (k == 0) = false := beq_eq_false_iff_ne.mpr (by omega)
    rw [k0, Bool.false_or, Bool.not_eq_true'] at p1 p2
    unfold nearB
    rw [decide_eq_true_eq, lt_ltB, lt_ltB, p1, p2]
    exact ⟨Bool.false_ne_true, Bool.false_ne_true⟩
  rw [e]
theorem sum_same (q : Rat) : ∀ (l : List Rat), (∀ z ∈ l, z = q) → sumR l = q * (l.length : Rat)
  | [], _ => by rw [sumR_nil]; simp
  | x :: l, h => by
    have a := h x List.mem_cons_self
    have b := sum_same q l fun z hz => h z (List.mem_cons_of_mem _ hz)
    rw [sumR_cons, List.length_cons, a, b]
    have c : ((l.length + 1 : Nat) : Rat) = (l.length : Rat) + 1 := by simp
    rw [c]
    grind
theorem beat19 {l : List Rat} {w : Rat} (h : Draw l w) : beatR l w19 = l := by
  unfold beatR
  refine (List.map_congr_left fun q hq => ?_).trans (List.map_id l)
  have al : ∀ z ∈ l.filter (nearB w19 q), z = q := fun z hz => by
    obtain ⟨hz2, nz⟩ := List.mem_filter.mp hz
    clear hz
    obtain ⟨k, k1, k2, h3⟩ := h.els
    obtain ⟨a, a1, rfl⟩ := h3 q hq
    obtain ⟨c, c1, rfl⟩ := h3 z hz2
    have p1 := near_none k (by omega) a (by omega) c (by omega)
    have k0 : (k == 0) = false := beq_eq_false_iff_ne.mpr (by omega)
    unfold nearB at nz
    rw [decide_eq_true_eq, lt_ltB, lt_ltB, Bool.not_eq_true, Bool.not_eq_true] at nz
    rw [k0, nz.1, nz.2, Bool.false_or, Bool.or_false, Bool.or_false] at p1
    rw [eq_of_beq p1]
  have fp : 0 < (l.filter (nearB w19 q)).length := List.length_pos_of_mem (List.mem_filter.mpr ⟨hq, near_self (show (0 : Rat) ≤ w19 by decide +kernel)⟩)
  rw [mean_eq, sum_same q _ al]
  generalize (l.filter (nearB w19 q)).length = n at *
  have n0 : (n : Rat) ≠ 0 := by
    have : (0 : Rat) < (n : Rat) := by exact_mod_cast fp
    exact fun z => by rw [z] at this; exact Rat.lt_irrefl this
  have := Rat.mul_inv_cancel (n : Rat) n0
  rw [Rat.div_def]
  show _ = q
  grind
noncomputable abbrev rtB : Sv := (dSeq (dAsgG (bTup ((bName 2) :: (bName 3) :: [])) (dCall m__law_near_draw (dCons (dVar 0) dNil))) (dSeq (dAsg 4 (dVal (dCall m__law_near_beat (dCons (dVar 2) (dCons (dVar 3) dNil))))) (dSeq (dIfS (dNot (dTst (dCall (m__law_same 8) (dCons (dOpL fLst (dCons (dCall m_near_beat (dCons (dVar 2) (dCons (dVar 3) dNil))) (dCons (dCallK m_near_beat 0 2 [1, 0] dNil (dCons (dVar 3) (dCons (dVar 2) dNil))) dNil))) (dCons (dOpL fLst (dCons (dVar 4) (dCons (dVar 4) dNil))) dNil))))) (dRet (dC (.bl false))) dNext) (dSeq (dFor (dRng1 (dOpL (f1 lenD) (dCons (dVar 2) dNil))) (bName 5) (dIfS (dTst (dOp2 fNe (dComp (dRng1 (dOpL (f1 lenD) (dCons (dVar 2) dNil))) (bName 6) (dAnd (dNot (dTst (dCall m__law_is_less (dCons (dIx (dVar 2) (dVar 5)) (dCons (dIx (dVar 2) (dVar 6)) dNil))))) (dTst (dCall m__law_is_less (dCons (dIx (dVar 4) (dVar 5)) (dCons (dIx (dVar 4) (dVar 6)) dNil))))) (dVar 6) [6]) (dOpL fLst dNil))) (dRet (dC (.bl false))) dNext)) (dSeq (dAsg 7 (dVal (dCall m__law_times (dCons (dCall m__law_total (dCons (dVar 2) dNil)) (dCons (dOpL fTup (dCons (dC (.int 1)) (dCons (dOpL (f1 lenD) (dCons (dVar 2) dNil)) dNil))) dNil))))) (dIfS (dNot (dTst (dCall (m__law_same 8) (dCons (dOpL fLst (dCons (dCall m_near_beat (dCons (dVar 2) (dCons (dOpL fTup (dCons (dC (.int 99)) (dCons (dC (.int 1)) dNil))) dNil))) (dCons (dCall m_near_beat (dCons (dVar 2) (dCons (dOpL fTup (dCons (dC (.int 1)) (dCons (dC (.int 9)) dNil))) dNil))) dNil))) (dCons (dOpL fLst (dCons (dOp2 fMulG (dOpL fTup (dCons (dVar 7) dNil)) (dOpL (f1 lenD) (dCons (dVar 2) dNil))) (dCons (dVar 2) dNil))) dNil))))) (dRet (dC (.bl false))) dNext))))))
theorem rt_step {n : Nat} {b : Bw} (I : Inv n b) (hn : n + 20 ≤ 1000000) (s1 s2 s3 s4 s5 s7 : Slot) : ∃ s2' s3' s4' s5' s7' b', rtB [.val .bowl, s1, s2, s3, s4, s5, .un, s7] b = .nx [.val .bowl, s1, s2', s3', s4', s5', .un, s7'] b' ∧ Inv (n + 20) b' := by
  obtain ⟨l, w, b1, e1, h, I1⟩ := near_draw_ev I hn
  have e2 := law_near_beat_ev (k := 31) (by decide) (by decide) l w b1 h.sml h.sm h.five (Rat.le_of_lt h.pos)
  have e3 := near_beat_ev (k := 31) (by decide) (by decide) l w b1 h.sml h.sm h.five h.one h.pos
  have l5 := h.five
  have bl := beat_len l w
  have e4 := same2 (beatR l w) (beatR l w) b1 (by omega) (by omega)
  have rg := rng1_eq l.length b1 (by omega)
  obtain ⟨s5', e5⟩ := j_loop h b1 (.val .bowl) s1 (.val (rq w)) s7 (List.range l.length) s5 fun j hj => List.mem_range.mp hj
  have g5 : G 31 5 = 1023 := by decide
  have e6 := law_total_ev (k := 31) l (.tup (l.map rq)) b1 (.inr rfl) (by decide) h.sml (Nat.le_trans (G_mono 31 l5) (by rw [g5]; decide))
  obtain ⟨_, ts⟩ := total_ev (k := 31) l (.tup (l.map rq)) b1 (.inr rfl) (by decide) h.sml (Nat.le_trans (G_mono 31 l5) (by rw [g5]; decide))
  have ts := ts.mono (Nat.le_trans (G_mono 31 l5) (Nat.le_of_eq g5))
  have l1 := h.one
  have e7 := law_times_raw (k := 1023) (by decide) (sumR l) 1 l.length b1 ts (Nat.one_lt_two_pow (by decide)) (Nat.lt_of_le_of_lt l5 (Nat.lt_of_lt_of_le (show 5 < 2 ^ 3 by decide) (Nat.pow_le_pow_right (by decide) (by decide)))) (by omega)
  have e7 : m__law_times [rq (sumR l), .tup [.int 1, .int (l.length : Nat)]] b1 = .ok (.val (rq (meanR l))) b1 := e7
  have e8 := near_beat_ev (k := 31) (by decide) (by decide) l w99 b1 h.sml ⟨by decide, by decide⟩ l5 h.one (by decide +kernel)
  have e9 := near_beat_ev (k := 31) (by decide) (by decide) l w19 b1 h.sml ⟨by decide, by decide⟩ l5 h.one (by decide +kernel)
  rw [beat99 h] at e8
  rw [beat19 h] at e9
  have e10 := same2 (List.replicate l.length (meanR l)) l b1 (by simp; omega) (by omega)
  rw [List.map_replicate] at e8 e10
  have rp : repOk (l.length : Int) 1 = true := by
    have : (l.length : Int) ≤ 1000 := by omega
    have : (-1000 : Int) ≤ (l.length : Int) := by omega
    simp [repOk, *]
  have fl : (List.replicate l.length [rq (meanR l)]).flatten = List.replicate l.length (rq (meanR l)) := List.flatten_replicate_singleton
  refine ⟨.val (.tup (l.map rq)), .val (rq w), .val (.tup ((beatR l w).map rq)), s5', .val (rq (meanR l)), b1, ?_, I1⟩
  simp [dAsgG, bTup, bEach, e1, e2, e3, dCallK, permL, LIM, e4, dRng1, rg, e5, e6, e7, rq99, rq19, e8, e9, rp, fl, e10]
theorem rt_loop : ∀ (ds : List D) (n : Nat) (b : Bw) (s1 s2 s3 s4 s5 s7 : Slot), Inv n b → n + 20 * ds.length ≤ 1000000 → ∃ s1' s2' s3' s4' s5' s7' b', forL (bName 1) rtB ds [.val .bowl, s1, s2, s3, s4, s5, .un, s7] b = .nx [.val .bowl, s1', s2', s3', s4', s5', .un, s7'] b' ∧ Inv (n + 20 * ds.length) b'
  | [], n, b, s1, s2, s3, s4, s5, s7, I, _ => ⟨s1, s2, s3, s4, s5, s7, b, rfl, I⟩
  | d :: ds, n, b, s1, s2, s3, s4, s5, s7, I, hn => by
    rw [List.length_cons, Nat.mul_succ] at hn
    obtain ⟨t2, t3, t4, t5, t7, b1, e1, I1⟩ := rt_step I (by omega) (.val d) s2 s3 s4 s5 s7
    obtain ⟨u1, u2, u3, u4, u5, u7, b2, e2, I2⟩ := rt_loop ds (n + 20) b1 (.val d) t2 t3 t4 t5 t7 I1 (by omega)
    refine ⟨u1, u2, u3, u4, u5, u7, b2, ?_, ?_⟩
    · rw [x_forC]
      simp only [x_bName, List.set_cons_succ, List.set_cons_zero]
      rw [e1]
      exact e2
    · rw [List.length_cons, Nat.mul_succ, show n + (20 * ds.length + 20) = n + 20 + 20 * ds.length by omega]
      exact I2
theorem right_ev {n : Nat} {b : Bw} (I : Inv n b) (hn : n + 100 ≤ 1000000) : ∃ b', m__law_right [.bowl] b = .ok (.val (.bl true)) b' ∧ Inv (n + 100) b' := by
  have rg := rng1_eq 5 b (by decide)
  have rg : rng1 (.int 5) b = .ok ((List.range 5).map fun (i : Nat) => D.int (i : Nat)) b := rg
  obtain ⟨u1, u2, u3, u4, u5, u7, b2, e2, I2⟩ := rt_loop ((List.range 5).map fun (i : Nat) => D.int (i : Nat)) n b .un .un .un .un .un .un I (by simpa using hn)
  refine ⟨b2, ?_, by simpa using I2⟩
  unfold m__law_right v__law_right
  rw [x_mir]
  simp only [x_dSeq, x_dFor, ent, dRng1, x_dC, x_bind_ok, x_dval, rg]
  have e2 : forL (bName 1) rtB ((List.range 5).map fun (i : Nat) => D.int (i : Nat)) [.val .bowl, .un, .un, .un, .un, .un, .un, .un] b = _ := e2
  simp [e2]
end P

set_option Elab.async false
set_option linter.all false
set_option maxRecDepth 100000
set_option maxHeartbeats 4000000
set_option exponentiation.threshold 20000
namespace P
open PySem DL W
theorem noBows_ints : ∀ ns : List Int, noBows (ns.map D.int) = true
  | [] => rfl
  | n :: ns => by
    rw [List.map_cons]
    unfold noBows
    rw [noBows_ints ns]
    rfl
theorem asBls_all : ∀ r : List D, (∀ d ∈ r, d = .bl true) → asBls r = some (List.replicate r.length true)
  | [], _ => rfl
  | d :: r, h => by
    have e := h d List.mem_cons_self
    subst e
    unfold asBls
    rw [asBls_all r fun x hx => h x (List.mem_cons_of_mem _ hx)]
    rfl
noncomputable abbrev lapB : Sv := (dSeq (dAsg 2 (dCall m__law_pool (dCons (dVar 0) (dCons (dVar 1) dNil)))) (dPool 2 (dIfS (dNot (dTst (dOpL (f1 allD) (dCons (dComp (dRng1 (dC (.int 4))) (bName 3) dYes (dCall m__law_right (dCons (dVar 2) dNil)) [3]) dNil)))) (dRet (dC (.bl false))) dNext)))
theorem lap_step (ns : List Int) (k : Nat) (hk : k ≤ 3) : lapB [.val (.lst (ns.map D.int)), .val (.int (k : Nat)), .un, .un] none = .nx [.val (.lst (ns.map D.int)), .val (.int (k : Nat)), .un, .un] none := by
  obtain ⟨o, s, e1, ho, hs, hs2⟩ := pool_ev ns k hk none
  have I : Inv 0 (some [o, s, 0]) := ⟨o, s, 0, rfl, ho, hs, hs2, by decide, by decide⟩
  have rg := rng1_eq 4 (some [o, s, 0]) (by decide)
  have rg : rng1 (.int 4) (some [o, s, 0]) = .ok ((List.range 4).map fun (i : Nat) => D.int (i : Nat)) (some [o, s, 0]) := rg
  obtain ⟨r, b', e2, lr, qr, I2⟩ := compL_st (bd := bName 3) (te := dCall m__law_right (dCons (dVar 2) dNil)) (env := [.val (.lst (ns.map D.int)), .val (.int (k : Nat)), .val .bowl, .un]) 100 (fun (i : Nat) => D.int (i : Nat)) (fun d => d = .bl true) (List.range 4) 0 _ I (by decide) (fun a _ n b I hn => by
    obtain ⟨b1, e, I1⟩ := right_ev I hn
    exact ⟨_, .val (.bl true), b1, rfl, by simp [e], rfl, I1⟩)
  have ab := asBls_all r qr
  obtain ⟨o', s', c', rfl, _⟩ := I2
  have nb := noBows_ints ns
  simp [e1, dPool, asInts, dRng1, rg, noOwn, wipeE, e2, ab, vB, poolE, slotNB, noBow, nb]
theorem lap_loop (ns : List Int) : ∀ (ks : List Nat) (s1 : Slot), (∀ k ∈ ks, k ≤ 3) → ∃ s1', forL (bName 1) lapB (ks.map fun (i : Nat) => D.int (i : Nat)) [.val (.lst (ns.map D.int)), s1, .un, .un] none = .nx [.val (.lst (ns.map D.int)), s1', .un, .un] none
  | [], s1, _ => ⟨s1, rfl⟩
  | k :: ks, s1, h => by
    obtain ⟨s1', e⟩ := lap_loop ns ks (.val (.int (k : Nat))) fun x hx => h x (List.mem_cons_of_mem _ hx)
    refine ⟨s1', ?_⟩
    rw [List.map_cons, x_forC]
    simp only [x_bName, List.set_cons_succ, List.set_cons_zero]
    rw [lap_step ns k (h k List.mem_cons_self)]
    exact e
theorem law_ok (ns : List Int) : m_law [.lst (ns.map D.int)] none = .ok (.val (.bl true)) none := by
  obtain ⟨m, m3, e0⟩ : ∃ m : Nat, m ≤ 3 ∧ (dOpL (f2 fMax) (dCons (dC (.int 1)) (dCons (dOpL (f2 fMin) (dCons (dOpL (f1 lenD) (dCons (dVar 0) dNil)) (dCons (dC (.int 3)) dNil))) dNil))) [.val (.lst (ns.map D.int)), .un, .un, .un] none = .ok (.val (.int (m : Nat))) none := by
    refine ⟨max 1 (min ns.length 3), by omega, ?_⟩
    have z : (if (if (3 : Int) < (ns.length : Int) then (3 : Int) else (ns.length : Int)) > 1 then (if (3 : Int) < (ns.length : Int) then (3 : Int) else (ns.length : Int)) else 1) = ((max 1 (min ns.length 3) : Nat) : Int) := by
      split <;> split at * <;> omega
    rw [← z]
    simp
  have rg := rng1_eq m none (by omega)
  obtain ⟨s1', e⟩ := lap_loop ns (List.range m) .un fun k hk => by
    have := List.mem_range.mp hk
    omega
  unfold m_law v_law
  rw [x_mir]
  simp only [x_dSeq, x_dFor, ent, dRng1]
  have e0 := e0
  generalize (dOpL (f2 fMax) (dCons (dC (.int 1)) (dCons (dOpL (f2 fMin) (dCons (dOpL (f1 lenD) (dCons (dVar 0) dNil)) (dCons (dC (.int 3)) dNil))) dNil))) = E at e0 ⊢
  have e : forL (bName 1) lapB ((List.range m).map fun (i : Nat) => D.int (i : Nat)) [.val (.lst (ns.map D.int)), .un, .un, .un] none = _ := e
  simp [ent, e0, rg, e]
end P

set_option Elab.async false
set_option linter.all false
set_option maxRecDepth 100000
set_option maxHeartbeats 0
namespace HH
open PySem PySem.Spec PyProof.Rows L2 DL LamX NdefX W
abbrev R : PySem.W.OpenRow := PySem.W.OpenLaw.row PySem.Challenge.rw_mindmeans_k40_whole_beats_of_near_minds
def d_is_whole : He.DefD := ⟨("is_whole", none), "is_whole", "is_whole", defArgs s_is_whole, defBody s_is_whole, defScope s_is_whole, [], []⟩
def d_is_tuple_of : He.DefD := ⟨("is_tuple_of", none), "is_tuple_of", "is_tuple_of", defArgs s_is_tuple_of, defBody s_is_tuple_of, defScope s_is_tuple_of, [], []⟩
def d_is_pair : He.DefD := ⟨("is_pair", none), "is_pair", "is_pair", defArgs s_is_pair, defBody s_is_pair, defScope s_is_pair, [], []⟩
def d_wrong_in : He.DefD := ⟨("wrong_in", none), "wrong_in", "wrong_in", defArgs s_wrong_in, defBody s_wrong_in, defScope s_wrong_in, [], []⟩
def d_wrong_in_all : He.DefD := ⟨("wrong_in_all", none), "wrong_in_all", "wrong_in_all", defArgs s_wrong_in_all, defBody s_wrong_in_all, defScope s_wrong_in_all, [], []⟩
def d_lowest : He.DefD := ⟨("lowest", none), "lowest", "lowest", defArgs s_lowest, defBody s_lowest, defScope s_lowest, [], []⟩
def d_is_fraction : He.DefD := ⟨("is_fraction", none), "is_fraction", "is_fraction", defArgs s_is_fraction, defBody s_is_fraction, defScope s_is_fraction, [], []⟩
def d_plus : He.DefD := ⟨("plus", none), "plus", "plus", defArgs s_plus, defBody s_plus, defScope s_plus, [], []⟩
def d_minus : He.DefD := ⟨("minus", none), "minus", "minus", defArgs s_minus, defBody s_minus, defScope s_minus, [], []⟩
def d_over : He.DefD := ⟨("over", none), "over", "over", defArgs s_over, defBody s_over, defScope s_over, [], []⟩
def d_is_less : He.DefD := ⟨("is_less", none), "is_less", "is_less", defArgs s_is_less, defBody s_is_less, defScope s_is_less, [], []⟩
def d_lesser : He.DefD := ⟨("lesser", none), "lesser", "lesser", defArgs s_lesser, defBody s_lesser, defScope s_lesser, [], []⟩
def d_greater : He.DefD := ⟨("greater", none), "greater", "greater", defArgs s_greater, defBody s_greater, defScope s_greater, [], []⟩
def d_total : He.DefD := ⟨("total", none), "total", "total", defArgs s_total, defBody s_total, defScope s_total, [], []⟩
def d_is_sum : He.DefD := ⟨("is_sum", none), "is_sum", "is_sum", defArgs s_is_sum, defBody s_is_sum, defScope s_is_sum, [], []⟩
def d_wrong_in_minds : He.DefD := ⟨("wrong_in_minds", none), "wrong_in_minds", "wrong_in_minds", defArgs s_wrong_in_minds, defBody s_wrong_in_minds, defScope s_wrong_in_minds, [], []⟩
def d_spread_by : He.DefD := ⟨("spread_by", none), "spread_by", "spread_by", defArgs s_spread_by, defBody s_spread_by, defScope s_spread_by, [], []⟩
def d_check_lone_minds : He.DefD := ⟨("check_lone_minds", none), "check_lone_minds", "check_lone_minds", defArgs s_check_lone_minds, defBody s_check_lone_minds, defScope s_check_lone_minds, [], []⟩
def d_are_near : He.DefD := ⟨("are_near", none), "are_near", "are_near", defArgs s_are_near, defBody s_are_near, defScope s_are_near, [], []⟩
def d_near_beat_by : He.DefD := ⟨("near_beat_by", none), "near_beat_by", "near_beat_by", defArgs s_near_beat_by, defBody s_near_beat_by, defScope s_near_beat_by, [], []⟩
def d_check_near : He.DefD := ⟨("check_near", none), "check_near", "check_near", defArgs s_check_near, defBody s_check_near, defScope s_check_near, [], []⟩
def d_near_beat : He.DefD := ⟨("near_beat", none), "near_beat", "near_beat", defArgs s_near_beat, defBody s_near_beat, defScope s_near_beat, [], []⟩
def d__law_pool : He.DefD := ⟨("_law_pool", none), "_law_pool", "_law_pool", defArgs s__law_pool, defBody s__law_pool, defScope s__law_pool, [], []⟩
def d__law_below : He.DefD := ⟨("_law_below", none), "_law_below", "_law_below", defArgs s__law_below, defBody s__law_below, defScope s__law_below, [], []⟩
def d__law_one : He.DefD := ⟨("_law_one", none), "_law_one", "_law_one", defArgs s__law_one, defBody s__law_one, defScope s__law_one, [], []⟩
def d__law_same : He.DefD := ⟨("_law_same", none), "_law_same", "_law_same", defArgs s__law_same, defBody s__law_same, defScope s__law_same, [], []⟩
def d__law_fr : He.DefD := ⟨("_law_fr", none), "_law_fr", "_law_fr", defArgs s__law_fr, defBody s__law_fr, defScope s__law_fr, [], []⟩
def d__law_plus : He.DefD := ⟨("_law_plus", none), "_law_plus", "_law_plus", defArgs s__law_plus, defBody s__law_plus, defScope s__law_plus, [], []⟩
def d__law_times : He.DefD := ⟨("_law_times", none), "_law_times", "_law_times", defArgs s__law_times, defBody s__law_times, defScope s__law_times, [], []⟩
def d__law_is_less : He.DefD := ⟨("_law_is_less", none), "_law_is_less", "_law_is_less", defArgs s__law_is_less, defBody s__law_is_less, defScope s__law_is_less, [], []⟩
def d__law_less : He.DefD := ⟨("_law_less", none), "_law_less", "_law_less", defArgs s__law_less, defBody s__law_less, defScope s__law_less, [], []⟩
def d__law_total : He.DefD := ⟨("_law_total", none), "_law_total", "_law_total", defArgs s__law_total, defBody s__law_total, defScope s__law_total, [], []⟩
def d__law_near_beat : He.DefD := ⟨("_law_near_beat", none), "_law_near_beat", "_law_near_beat", defArgs s__law_near_beat, defBody s__law_near_beat, defScope s__law_near_beat, [], []⟩
def d__law_near_draw : He.DefD := ⟨("_law_near_draw", none), "_law_near_draw", "_law_near_draw", defArgs s__law_near_draw, defBody s__law_near_draw, defScope s__law_near_draw, [], []⟩
def d__law_right : He.DefD := ⟨("_law_right", none), "_law_right", "_law_right", defArgs s__law_right, defBody s__law_right, defScope s__law_right, [], []⟩
def d_law : He.DefD := ⟨("law", none), "law", "law", defArgs s_law, defBody s_law, defScope s_law, [], []⟩
def fn : List He.DefD := [d_is_whole, d_is_tuple_of, d_is_pair, d_wrong_in, d_wrong_in_all, d_lowest, d_is_fraction, d_plus, d_minus, d_over, d_is_less, d_lesser, d_greater, d_total, d_is_sum, d_wrong_in_minds, d_spread_by, d_check_lone_minds, d_are_near, d_near_beat_by, d_check_near, d_near_beat, d__law_pool, d__law_below, d__law_one, d__law_same, d__law_fr, d__law_plus, d__law_times, d__law_is_less, d__law_less, d__law_total, d__law_near_beat, d__law_near_draw, d__law_right, d_law]
def fa : List He.Fa := [.glo "is_whole", .glo "is_tuple_of", .glo "is_pair", .glo "wrong_in", .glo "wrong_in_all", .glo "lowest", .glo "is_fraction", .glo "plus", .glo "minus", .glo "over", .glo "is_less", .glo "lesser", .glo "greater", .glo "total", .glo "is_sum", .glo "wrong_in_minds", .glo "spread_by", .glo "check_lone_minds", .glo "are_near", .glo "near_beat_by", .glo "check_near", .glo "near_beat", .glo "_law_pool", .glo "_law_below", .glo "_law_one", .glo "_law_same", .glo "_law_fr", .glo "_law_plus", .glo "_law_times", .glo "_law_is_less", .glo "_law_less", .glo "_law_total", .glo "_law_near_beat", .glo "_law_near_draw", .glo "_law_right", .glo "law", .free "abs", .free "all", .free "bool", .free "divmod", .free "enumerate", .free "int", .free "isinstance", .free "len", .free "list", .free "max", .free "min", .free "range", .free "str", .free "tuple", .glo "NOTHING", .int "MOST_PEOPLE" 5]
def tf : List He.Defn := [("wrong_in_all", none)]
def ex (K : PySem.W.Frag) : Bool := (He.eqO (PySem.W.nsIn K mainGlobals "gcd") (some (some (.builtin "math.gcd")))) && ((He.tupB K "NOTHING" [.int 0, .int 1]) && (true))
def names0 : List Str := ["is_whole", "is_tuple_of", "is_pair", "wrong_in", "wrong_in_all", "NOTHING", "lowest", "is_fraction", "plus", "minus", "over", "is_less", "lesser", "greater", "total", "MOST_PEOPLE", "is_sum", "wrong_in_minds", "spread_by", "MindError", "InvalidFraction", "InvalidMinds", "check_lone_minds", "are_near", "near_beat_by", "check_near", "near_beat", "_law_pool", "_law_below", "_law_one"]
def names1 : List Str := ["_law_same", "_law_fr", "_law_plus", "_law_times", "_law_is_less", "_law_less", "_law_total", "_law_near_beat", "_law_near_draw", "_law_right"]
def names : List Str := names0 ++ (names1)
abbrev hk : PySem.W.Hook := He.hookX 5 fa fn [] tf ex
def ob (s : PySem.W.SharedT) : He.AlX := He.obsX 5 fa fn [] tf ex (HandSHeadRun.getT s)
theorem ob_eq (s : PySem.W.SharedT) : ob s = hk.obs s.abs := He.obsX_eq (HandSHeadRun.getT_eq s)
theorem run (w : World) : HandSHeadRun.RunEqI R (PySem.W.view R.prog [0, 49]) hk ob 4000 names w := by
  unfold HandSHeadRun.RunEqI
  kernel_rfl
abbrev tb (K : PySem.W.Frag) : List (Addr × Str) := [((He.cT K ("wrong_in_all", none)).2, ("wrong_in_all" ++ ".<locals>." : Str) ++ "<lambda>")]
theorem en {w : World} {h : Heap} {K : PySem.W.Frag} {mg : Str → Option Value} (X : K.In h) (G : h.Ns mainGlobals mg) (c : He.SaysX fa fn [] tf ex w h K) (base : Heap) (TB : ∀ p ∈ tf, TabB base mg (He.cT K p).1 (He.cT K p).2) : En K mg base (tb K) where
  f_is_whole := ⟨by
    obtain ⟨fd, F⟩ := c.t.d.def_ 0 (d := d_is_whole) rfl
    exact ⟨_, fd, F, He.glo_ok X G (c.t.d.fact 0 (f := .glo "is_whole") rfl)⟩⟩
  f_is_tuple_of := ⟨by
    obtain ⟨fd, F⟩ := c.t.d.def_ 1 (d := d_is_tuple_of) rfl
    exact ⟨_, fd, F, He.glo_ok X G (c.t.d.fact 1 (f := .glo "is_tuple_of") rfl)⟩⟩
  f_is_pair := ⟨by
    obtain ⟨fd, F⟩ := c.t.d.def_ 2 (d := d_is_pair) rfl
    exact ⟨_, fd, F, He.glo_ok X G (c.t.d.fact 2 (f := .glo "is_pair") rfl)⟩⟩
  f_wrong_in := ⟨by
    obtain ⟨fd, F⟩ := c.t.d.def_ 3 (d := d_wrong_in) rfl
    exact ⟨_, fd, F, He.glo_ok X G (c.t.d.fact 3 (f := .glo "wrong_in") rfl)⟩⟩
  f_wrong_in_all := ⟨by
    obtain ⟨fd, F⟩ := c.t.d.def_ 4 (d := d_wrong_in_all) rfl
    exact ⟨_, fd, F, He.glo_ok X G (c.t.d.fact 4 (f := .glo "wrong_in_all") rfl), _, _, TB ("wrong_in_all", none) (by simp [tf]), code_of (x := "wrong_in_all") (st := s_wrong_in_all) F, List.mem_singleton.mpr rfl, fun p hp _ => by
      have e : p = _ := List.mem_singleton.mp hp
      rw [e]⟩⟩
  f_lowest := ⟨by
    obtain ⟨fd, F⟩ := c.t.d.def_ 5 (d := d_lowest) rfl
    exact ⟨_, fd, F, He.glo_ok X G (c.t.d.fact 5 (f := .glo "lowest") rfl)⟩⟩
  f_is_fraction := ⟨by
    obtain ⟨fd, F⟩ := c.t.d.def_ 6 (d := d_is_fraction) rfl
    exact ⟨_, fd, F, He.glo_ok X G (c.t.d.fact 6 (f := .glo "is_fraction") rfl)⟩⟩
  f_plus := ⟨by
    obtain ⟨fd, F⟩ := c.t.d.def_ 7 (d := d_plus) rfl
    exact ⟨_, fd, F, He.glo_ok X G (c.t.d.fact 7 (f := .glo "plus") rfl)⟩⟩
  f_minus := ⟨by
    obtain ⟨fd, F⟩ := c.t.d.def_ 8 (d := d_minus) rfl
    exact ⟨_, fd, F, He.glo_ok X G (c.t.d.fact 8 (f := .glo "minus") rfl)⟩⟩
  f_over := ⟨by
    obtain ⟨fd, F⟩ := c.t.d.def_ 9 (d := d_over) rfl
    exact ⟨_, fd, F, He.glo_ok X G (c.t.d.fact 9 (f := .glo "over") rfl)⟩⟩
  f_is_less := ⟨by
    obtain ⟨fd, F⟩ := c.t.d.def_ 10 (d := d_is_less) rfl
    exact ⟨_, fd, F, He.glo_ok X G (c.t.d.fact 10 (f := .glo "is_less") rfl)⟩⟩
  f_lesser := ⟨by
    obtain ⟨fd, F⟩ := c.t.d.def_ 11 (d := d_lesser) rfl
    exact ⟨_, fd, F, He.glo_ok X G (c.t.d.fact 11 (f := .glo "lesser") rfl)⟩⟩
  f_greater := ⟨by
    obtain ⟨fd, F⟩ := c.t.d.def_ 12 (d := d_greater) rfl
    exact ⟨_, fd, F, He.glo_ok X G (c.t.d.fact 12 (f := .glo "greater") rfl)⟩⟩
  f_total := ⟨by
    obtain ⟨fd, F⟩ := c.t.d.def_ 13 (d := d_total) rfl
    exact ⟨_, fd, F, He.glo_ok X G (c.t.d.fact 13 (f := .glo "total") rfl)⟩⟩
  f_is_sum := ⟨by
    obtain ⟨fd, F⟩ := c.t.d.def_ 14 (d := d_is_sum) rfl
    exact ⟨_, fd, F, He.glo_ok X G (c.t.d.fact 14 (f := .glo "is_sum") rfl)⟩⟩
  f_wrong_in_minds := ⟨by
    obtain ⟨fd, F⟩ := c.t.d.def_ 15 (d := d_wrong_in_minds) rfl
    exact ⟨_, fd, F, He.glo_ok X G (c.t.d.fact 15 (f := .glo "wrong_in_minds") rfl)⟩⟩
  f_spread_by := ⟨by
    obtain ⟨fd, F⟩ := c.t.d.def_ 16 (d := d_spread_by) rfl
    exact ⟨_, fd, F, He.glo_ok X G (c.t.d.fact 16 (f := .glo "spread_by") rfl)⟩⟩
  f_check_lone_minds := ⟨by
    obtain ⟨fd, F⟩ := c.t.d.def_ 17 (d := d_check_lone_minds) rfl
    exact ⟨_, fd, F, He.glo_ok X G (c.t.d.fact 17 (f := .glo "check_lone_minds") rfl)⟩⟩
  f_are_near := ⟨by
    obtain ⟨fd, F⟩ := c.t.d.def_ 18 (d := d_are_near) rfl
    exact ⟨_, fd, F, He.glo_ok X G (c.t.d.fact 18 (f := .glo "are_near") rfl)⟩⟩
  f_near_beat_by := ⟨by
    obtain ⟨fd, F⟩ := c.t.d.def_ 19 (d := d_near_beat_by) rfl
    exact ⟨_, fd, F, He.glo_ok X G (c.t.d.fact 19 (f := .glo "near_beat_by") rfl)⟩⟩
  f_check_near := ⟨by
    obtain ⟨fd, F⟩ := c.t.d.def_ 20 (d := d_check_near) rfl
    exact ⟨_, fd, F, He.glo_ok X G (c.t.d.fact 20 (f := .glo "check_near") rfl)⟩⟩
  f_near_beat := ⟨by
    obtain ⟨fd, F⟩ := c.t.d.def_ 21 (d := d_near_beat) rfl
    exact ⟨_, fd, F, He.glo_ok X G (c.t.d.fact 21 (f := .glo "near_beat") rfl)⟩⟩
  f__law_pool := ⟨by
    obtain ⟨fd, F⟩ := c.t.d.def_ 22 (d := d__law_pool) rfl
    exact ⟨_, fd, F, He.glo_ok X G (c.t.d.fact 22 (f := .glo "_law_pool") rfl)⟩⟩
  f__law_below := ⟨by
    obtain ⟨fd, F⟩ := c.t.d.def_ 23 (d := d__law_below) rfl
    exact ⟨_, fd, F, He.glo_ok X G (c.t.d.fact 23 (f := .glo "_law_below") rfl)⟩⟩
  f__law_one := ⟨by
    obtain ⟨fd, F⟩ := c.t.d.def_ 24 (d := d__law_one) rfl
    exact ⟨_, fd, F, He.glo_ok X G (c.t.d.fact 24 (f := .glo "_law_one") rfl)⟩⟩
  f__law_same := ⟨by
    obtain ⟨fd, F⟩ := c.t.d.def_ 25 (d := d__law_same) rfl
    exact ⟨_, fd, F, He.glo_ok X G (c.t.d.fact 25 (f := .glo "_law_same") rfl)⟩⟩
  f__law_fr := ⟨by
    obtain ⟨fd, F⟩ := c.t.d.def_ 26 (d := d__law_fr) rfl
    exact ⟨_, fd, F, He.glo_ok X G (c.t.d.fact 26 (f := .glo "_law_fr") rfl)⟩⟩
  f__law_plus := ⟨by
    obtain ⟨fd, F⟩ := c.t.d.def_ 27 (d := d__law_plus) rfl
    exact ⟨_, fd, F, He.glo_ok X G (c.t.d.fact 27 (f := .glo "_law_plus") rfl)⟩⟩
  f__law_times := ⟨by
    obtain ⟨fd, F⟩ := c.t.d.def_ 28 (d := d__law_times) rfl
    exact ⟨_, fd, F, He.glo_ok X G (c.t.d.fact 28 (f := .glo "_law_times") rfl)⟩⟩
  f__law_is_less := ⟨by
    obtain ⟨fd, F⟩ := c.t.d.def_ 29 (d := d__law_is_less) rfl
    exact ⟨_, fd, F, He.glo_ok X G (c.t.d.fact 29 (f := .glo "_law_is_less") rfl)⟩⟩
  f__law_less := ⟨by
    obtain ⟨fd, F⟩ := c.t.d.def_ 30 (d := d__law_less) rfl
    exact ⟨_, fd, F, He.glo_ok X G (c.t.d.fact 30 (f := .glo "_law_less") rfl)⟩⟩
  f__law_total := ⟨by
    obtain ⟨fd, F⟩ := c.t.d.def_ 31 (d := d__law_total) rfl
    exact ⟨_, fd, F, He.glo_ok X G (c.t.d.fact 31 (f := .glo "_law_total") rfl)⟩⟩
  f__law_near_beat := ⟨by
    obtain ⟨fd, F⟩ := c.t.d.def_ 32 (d := d__law_near_beat) rfl
    exact ⟨_, fd, F, He.glo_ok X G (c.t.d.fact 32 (f := .glo "_law_near_beat") rfl)⟩⟩
  f__law_near_draw := ⟨by
    obtain ⟨fd, F⟩ := c.t.d.def_ 33 (d := d__law_near_draw) rfl
    exact ⟨_, fd, F, He.glo_ok X G (c.t.d.fact 33 (f := .glo "_law_near_draw") rfl)⟩⟩
  f__law_right := ⟨by
    obtain ⟨fd, F⟩ := c.t.d.def_ 34 (d := d__law_right) rfl
    exact ⟨_, fd, F, He.glo_ok X G (c.t.d.fact 34 (f := .glo "_law_right") rfl)⟩⟩
  b_abs := He.free_ok X G (c.t.d.fact 36 (f := .free "abs") rfl)
  b_all := He.free_ok X G (c.t.d.fact 37 (f := .free "all") rfl)
  b_bool := He.free_ok X G (c.t.d.fact 38 (f := .free "bool") rfl)
  b_divmod := He.free_ok X G (c.t.d.fact 39 (f := .free "divmod") rfl)
  b_enumerate := He.free_ok X G (c.t.d.fact 40 (f := .free "enumerate") rfl)
  b_int := He.free_ok X G (c.t.d.fact 41 (f := .free "int") rfl)
  b_isinstance := He.free_ok X G (c.t.d.fact 42 (f := .free "isinstance") rfl)
  b_len := He.free_ok X G (c.t.d.fact 43 (f := .free "len") rfl)
  b_list := He.free_ok X G (c.t.d.fact 44 (f := .free "list") rfl)
  b_max := He.free_ok X G (c.t.d.fact 45 (f := .free "max") rfl)
  b_min := He.free_ok X G (c.t.d.fact 46 (f := .free "min") rfl)
  b_range := He.free_ok X G (c.t.d.fact 47 (f := .free "range") rfl)
  b_str := He.free_ok X G (c.t.d.fact 48 (f := .free "str") rfl)
  b_tuple := He.free_ok X G (c.t.d.fact 49 (f := .free "tuple") rfl)
  g_gcd := PySem.W.mg_of X G (He.eqO_ok (Bool.and_eq_true_iff.mp c.more).1)
  k_NOTHING := ⟨_, He.glo_ok X G (c.t.d.fact 50 (f := .glo "NOTHING") rfl), fun H => He.tupB_ok (Bool.and_eq_true_iff.mp (Bool.and_eq_true_iff.mp c.more).2).1 H⟩
  k_MOST_PEOPLE := He.int_ok X G (c.t.d.fact 51 (f := .int "MOST_PEOPLE" 5) rfl)
theorem law_ok (ns : List Int) (hl : ns.length ≤ 63) (hb : ∀ z ∈ ns, Builtin.Int.intBits z ≤ 1048576) : ∃ b, m_law [.lst (ns.map D.int)] none = .ok (.val (.bl true)) b := ⟨none, P.law_ok ns⟩
theorem facts {w : World} {h : Heap} {K : PySem.W.Frag} {mg : Str → Option Value} {f : Addr} (X : K.In h) (G : h.Ns mainGlobals mg) (hfa : mg ("law" : Str) = some (.ref f)) (c : He.SaysX fa fn [] tf ex w h K) : LawAtS PySem.Challenge.rw_mindmeans_k40_whole_beats_of_near_minds w K (L2.CX (PySem.Challenge.rw_mindmeans_k40_whole_beats_of_near_minds).prog w) 22 63 "script" mg f h := by
  obtain ⟨fd, F⟩ := c.t.d.def_ 35 (d := d_law) rfl
  have e := hfa.symm.trans (He.glo_ok X G (c.t.d.fact 35 (f := .glo "law") rfl))
  cases e
  have b := FunD.bindsA (ps := ["script"]) F fun _ _ _ _ _ _ us hl => match us, hl with | [_], _ => rfl
  refine ⟨fd, tf.map (He.cT K), spD0 K mg (nt (tb K)) 1 m_law, fun p hp => ?_, fun p hp => ?_, fun p hp => ?_, fun s u => b s [u] rfl, fun H a ns hl hbits hH hS => ?_, fun base _ _ TB => ?_⟩
  · obtain ⟨q, hq, rfl⟩ := List.mem_map.mp hp
    exact c.empty q hq
  · obtain ⟨q, hq, rfl⟩ := List.mem_map.mp hp
    exact c.out q hq
  · obtain ⟨q, hq, rfl⟩ := List.mem_map.mp hp
    exact PySem.W.codeHd_of_K X (c.hd q hq)
  · refine sp_law hl (fun p hp => ?_) hS (law_ok ns hl hbits)
    have hz : ∃ q ∈ tf, p.1 = (He.cT K q).2 := by
      simp only [tb, List.mem_cons, List.not_mem_nil, or_false] at hp
      simp only [tf, List.mem_cons, List.not_mem_nil, or_false]
      first
        | exact ⟨_, rfl, by rw [hp]⟩
        | (rcases hp with rfl <;> exact ⟨_, by simp, rfl⟩)
    obtain ⟨q, hq, e⟩ := hz
    exact TabS.nil (by rw [e]; exact hH _ (List.mem_map.mpr ⟨q, hq, rfl⟩))
  · exact k_law (en X G c base fun p hp => TB _ (List.mem_map.mpr ⟨p, hp, rfl⟩)) F none
end HH
open PySem PySem.W PySem.Calls PyProof.Rows
theorem PySem.Challenge.cw_mindmeans_k40_whole_beats_of_near_minds_holds : PySem.Challenge.rw_mindmeans_k40_whole_beats_of_near_minds.Holds := by
  w_on; o_law
  refine HandSHeadRun.head_imp (r := OpenLaw.row PySem.Challenge.rw_mindmeans_k40_whole_beats_of_near_minds) (q := view (OpenLaw.row PySem.Challenge.rw_mindmeans_k40_whole_beats_of_near_minds).prog [0, 49]) (H := HH.hk) (ob := HH.ob) (M := 4000) (loose := HH.names) (d := HandSHeadRun.topDef (OpenLaw.row PySem.Challenge.rw_mindmeans_k40_whole_beats_of_near_minds).prog 49) (kwd := []) HH.ob_eq HH.run
    (by kernel_rfl) (by kernel_rfl) (by kernel_rfl) (by rfl) (by first | assumption | decide +kernel) (by decide +kernel) ⟨rfl, rfl, rfl, rfl, rfl, by decide +kernel⟩ ?hw ?hc
  case hw => w_witness2
  case hc =>
    refine DL.walk_ofET (l := PySem.Challenge.rw_mindmeans_k40_whole_beats_of_near_minds) (n := 63) (k := 22) (x := "script") (CX := fun w => L2.CX (PySem.Challenge.rw_mindmeans_k40_whole_beats_of_near_minds).prog w) rfl (by decide) (by kernel_rfl) ⟨rfl, by decide, by decide⟩ ?F (fun _ _ _ _ _ z => DL.cx_false z)
    intro w mg fa h Y G hmg0
    obtain ⟨K, KX, c⟩ := Y
    have hmg : mg ("law" : PySem.Str) = some (.ref fa) := by
      have e : (HandSHeadRun.topDef (OpenLaw.row PySem.Challenge.rw_mindmeans_k40_whole_beats_of_near_minds).prog 49).name = ("law" : PySem.Str) := by kernel_rfl
      rw [← e]
      exact hmg0
    exact ⟨K, KX, HH.facts KX G hmg c⟩

