import PyProof.Rows.All
import Wide.All
import OpenK.AllK
import Wide.FinOn
import HandS.ForMost
import HandS.ForExc
import HandS.Flow
import HandS.Deep
import HandS.IsInst
import HandS.CallSlots
import HandS.Wide
import HandS.Zip
import HandS.TupAny
import HandS.TupMul
import HandS.Defaults
import HandS.MakeKwOnly
import HandS.Codes
import PySem.Challenge.RW_coarseonce_k02_names_and_numbers
set_option Elab.async false
set_option linter.all false
set_option autoImplicit false
set_option maxRecDepth 100000
set_option maxHeartbeats 4000000
/-! Si: a plain-data reading laid over the hand layer. D: values as plain data; cells of w: the things that change; each rule says of a construct which plain function it reckons. -/
namespace Si
open PySem L2

inductive D where
  | non | bl (b : Bool) | int (i : Int) | str (s : Str) | lst (xs : List D) | tup (xs : List D) | obj (n : Nat) | scr (ns : List Int)
inductive MO where
  | dead | lst (xs : List D) | ins (c : Str) (fs : List (Str × D))
abbrev Wd := List MO
abbrev En := List (Option D)
inductive R (α : Type) where
  | ok (a : α) (w : Wd)
  | err (c : Str) (fs : List (Str × D)) (w : Wd)
  | stuck
def R.bind {α β : Type} (r : R α) (k : α → Wd → R β) : R β := match r with
  | .ok a w => k a w
  | .err c fs w => .err c fs w
  | .stuck => .stuck

/-- where things stand: what never changes any more, the cells' addresses, the cells, the heap -/
structure S where
  F : Addr → Prop
  ρ : List Addr
  w : Wd
  H : Hp

/-- a list, a tuple of the written part: for good -/
def LK (K : PySem.W.Frag) (a : Addr) (xs : List V) : Prop :=
  ∃ (o : Obj) (its : Array Value) (n : Nat), K.lookup a = some o ∧ o.cls = .type "list" ∧ o.dict = none ∧ o.data = .seq its n ∧ its.size ≤ sizeLine ∧ Vals xs its.toList
def TK (K : PySem.W.Frag) (a : Addr) (xs : List V) : Prop :=
  ∃ (o : Obj) (its : Array Value) (n : Nat), K.lookup a = some o ∧ o.cls = .type "tuple" ∧ o.data = .seq its n ∧ its.size ≤ sizeLine ∧ Vals xs its.toList

mutual
inductive Rep (K : PySem.W.Frag) (s : S) : V → D → Prop
  | non : Rep K s .non .non
  | bl (b : Bool) : Rep K s (.bl b) (.bl b)
  | int (i : Int) : Rep K s (.int i) (.int i)
  | str (x : Str) : Rep K s (.str x) (.str x)
  | lst {a : Addr} {vs : List V} {ds : List D} (hF : s.F a) (h : s.H a = some (.lst vs)) (r : RepA K s vs ds) : Rep K s (.ref a) (.lst ds)
  | tup {a : Addr} {vs : List V} {ds : List D} (h : (s.F a ∧ s.H a = some (.tup vs)) ∨ TK K a vs) (r : RepA K s vs ds) : Rep K s (.ref a) (.tup ds)
  | obj {a : Addr} {n : Nat} (h : s.ρ[n]? = some a) : Rep K s (.ref a) (.obj n)
  | scr {a : Addr} {ns : List Int} (h : (s.F a ∧ ∃ o, s.H a = some (.frz o (.lst (ns.map V.int)))) ∨ LK K a (ns.map V.int)) : Rep K s (.ref a) (.scr ns)
inductive RepA (K : PySem.W.Frag) (s : S) : List V → List D → Prop
  | nil : RepA K s [] []
  | cons {v : V} {vs : List V} {d : D} {ds : List D} (h : Rep K s v d) (r : RepA K s vs ds) : RepA K s (v :: vs) (d :: ds)
end

def RepF (K : PySem.W.Frag) (s : S) : List (Str × V) → List (Str × D) → Prop
  | [], [] => True
  | p :: ps, q :: qs => p.1 = q.1 ∧ Rep K s p.2 q.2 ∧ RepF K s ps qs
  | _, _ => False

/-- a cell that still changes stands at a -/
def live (s : S) (a : Addr) : Prop := ∃ n : Nat, s.ρ[n]? = some a ∧ s.w[n]? ≠ some MO.dead

def RepO (K : PySem.W.Frag) (cl : Str → Option Addr) (s : S) (a : Addr) : MO → Prop
  | .dead => True
  | .lst xs => ∃ vs, s.H a = some (.lst vs) ∧ RepA K s vs xs
  | .ins c fs => ∃ C dx vfs, cl c = some C ∧ s.H a = some (.ins C dx vfs) ∧ RepF K s vfs fs

structure Ok (K : PySem.W.Frag) (cl : Str → Option Addr) (s : S) : Prop where
  len : s.ρ.length = s.w.length
  nd : s.ρ.Nodup
  trk : ∀ a, a ∈ s.ρ → s.H a ≠ none
  frz : ∀ a, s.F a → s.H a ≠ none
  cell : ∀ (n : Nat) (a : Addr) (o : MO), s.ρ[n]? = some a → s.w[n]? = some o → RepO K cl s a o
  dead : ∀ a, live s a → ¬ s.F a

structure Ext (s s' : S) : Prop where
  F : ∀ a, s.F a → s'.F a
  ρ : ∃ e, s'.ρ = s.ρ ++ e ∧ ∀ a, a ∈ e → s.H a = none
  w : ∀ (n : Nat), s.w[n]? = some MO.dead → s'.w[n]? = some MO.dead
  keep : ∀ a o, s.H a = some o → ¬ live s a → s'.H a = some o
  there : ∀ a, s.H a ≠ none → s'.H a ≠ none
  fnew : ∀ a, s'.F a → s.F a ∨ s.H a = none ∨ a ∈ s.ρ


section
variable {K : PySem.W.Frag} {cl : Str → Option Addr} {s s1 s2 : S}
theorem SqT.ofR {a : Addr} {vs : List V} (h : (s.F a ∧ s.H a = some (.tup vs)) ∨ TK K a vs) : SqT K s.H a vs := by
  rcases h with h | h
  · exact .inl (.inl h.2)
  · exact .inr h
theorem SqL.ofS {a : Addr} {ns : List Int} (h : (s.F a ∧ ∃ o, s.H a = some (.frz o (.lst (ns.map V.int)))) ∨ LK K a (ns.map V.int)) : SqL K s.H a (ns.map V.int) := by
  rcases h with ⟨_, o, h⟩ | h
  · exact .inl (.inr ⟨o, h⟩)
  · exact .inr h
theorem Ext.refl (s : S) : Ext s s := ⟨fun _ h => h, ⟨[], by simp, by simp⟩, fun _ h => h, fun _ _ h _ => h, fun _ h => h, fun _ h => .inl h⟩
theorem Ext.trans (a : Ext s s1) (b : Ext s1 s2) : Ext s s2 := by
  obtain ⟨e1, q1, n1⟩ := a.ρ
  obtain ⟨e2, q2, n2⟩ := b.ρ
  have back : ∀ x, s1.H x = none → s.H x = none := fun x h => by
    cases q : s.H x with
    | none => rfl
    | some o => exact absurd h (a.there x (by rw [q]; simp))
  refine ⟨fun x h => b.F x (a.F x h), ⟨e1 ++ e2, by rw [q2, q1, List.append_assoc], fun x hx => ?_⟩, fun n h => b.w n (a.w n h), fun x o h nl => ?_, fun x h => b.there x (a.there x h), fun x h => ?_⟩
  · rcases List.mem_append.mp hx with hx | hx
    · exact n1 x hx
    · exact back x (n2 x hx)
  · refine b.keep x o (a.keep x o h nl) fun ⟨n, hn, hd⟩ => ?_
    rw [q1] at hn
    by_cases hl : n < s.ρ.length
    · rw [List.getElem?_append_left hl] at hn
      exact nl ⟨n, hn, fun z => hd (a.w n z)⟩
    · rw [List.getElem?_append_right (Nat.le_of_not_lt hl)] at hn
      have q := n1 x (List.mem_of_getElem? hn)
      rw [h] at q
      cases q
  · rcases b.fnew x h with h | h | h
    · exact a.fnew x h
    · exact .inr (.inl (back x h))
    · rw [q1] at h
      rcases List.mem_append.mp h with h | h
      · exact .inr (.inr h)
      · exact .inr (.inl (n1 x h))
theorem Ext.ρget (e : Ext s s1) {n : Nat} {a : Addr} (h : s.ρ[n]? = some a) : s1.ρ[n]? = some a := by
  obtain ⟨l, q, _⟩ := e.ρ
  rw [q, List.getElem?_append_left (List.getElem?_eq_some_iff.mp h).1]
  exact h
theorem Ext.fr (ok : Ok K cl s) (e : Ext s s1) {a : Addr} {u : HO} (hF : s.F a) (h : s.H a = some u) : s1.H a = some u := e.keep a _ h fun l => ok.dead a l hF
mutual
theorem Rep.mono (ok : Ok K cl s) (e : Ext s s1) : ∀ {v : V} {d : D}, Rep K s v d → Rep K s1 v d
  | _, _, .non => .non
  | _, _, .bl b => .bl b
  | _, _, .int i => .int i
  | _, _, .str x => .str x
  | _, _, .lst h q r => .lst (e.F _ h) (e.fr ok h q) (RepA.mono ok e r)
  | _, _, .tup h r => .tup (h.imp (fun q => ⟨e.F _ q.1, e.fr ok q.1 q.2⟩) id) (RepA.mono ok e r)
  | _, _, .obj h => .obj (e.ρget h)
  | _, _, .scr h => .scr (h.imp (fun q => ⟨e.F _ q.1, q.2.imp fun _ z => e.fr ok q.1 z⟩) id)
theorem RepA.mono (ok : Ok K cl s) (e : Ext s s1) : ∀ {vs : List V} {ds : List D}, RepA K s vs ds → RepA K s1 vs ds
  | _, _, .nil => .nil
  | _, _, .cons h r => .cons (Rep.mono ok e h) (RepA.mono ok e r)
end
theorem RepF.mono (ok : Ok K cl s) (e : Ext s s1) : ∀ {ps : List (Str × V)} {qs : List (Str × D)}, RepF K s ps qs → RepF K s1 ps qs
  | [], [], _ => trivial
  | _ :: _, _ :: _, h => ⟨h.1, h.2.1.mono ok e, RepF.mono ok e h.2.2⟩
  | [], _ :: _, h => h.elim
  | _ :: _, [], h => h.elim
theorem RepA.length : ∀ {vs : List V} {ds : List D}, RepA K s vs ds → vs.length = ds.length
  | _, _, .nil => rfl
  | _, _, .cons _ r => congrArg (· + 1) (RepA.length r)
theorem RepA.append : ∀ {vs us : List V} {ds es : List D}, RepA K s vs ds → RepA K s us es → RepA K s (vs ++ us) (ds ++ es)
  | _, _, _, _, .nil, q => q
  | _, _, _, _, .cons h r, q => .cons h (RepA.append r q)
theorem RepA.get : ∀ {vs : List V} {ds : List D} {i : Nat} {d : D}, RepA K s vs ds → ds[i]? = some d → ∃ v, vs[i]? = some v ∧ Rep K s v d
  | _, _, _, _, .nil, e => by simp at e
  | _, _, 0, _, .cons h _, e => by simp at e; subst e; exact ⟨_, rfl, h⟩
  | _, _, i + 1, _, .cons _ r, e => by
    obtain ⟨v, h1, h2⟩ := RepA.get (i := i) r (by simpa using e)
    exact ⟨v, by simpa using h1, h2⟩
theorem RepA.take : ∀ {vs : List V} {ds : List D} (n : Nat), RepA K s vs ds → RepA K s (vs.take n) (ds.take n)
  | _, _, 0, _ => .nil
  | _, _, _ + 1, .nil => .nil
  | _, _, n + 1, .cons h r => .cons h (RepA.take n r)
theorem RepA.drop : ∀ {vs : List V} {ds : List D} (n : Nat), RepA K s vs ds → RepA K s (vs.drop n) (ds.drop n)
  | _, _, 0, r => r
  | _, _, _ + 1, .nil => .nil
  | _, _, n + 1, .cons _ r => RepA.drop n r
theorem RepA.set : ∀ {vs : List V} {ds : List D} (i : Nat) {v : V} {d : D}, Rep K s v d → RepA K s vs ds → RepA K s (vs.set i v) (ds.set i d)
  | _, _, _, _, _, _, .nil => .nil
  | _, _, 0, _, _, q, .cons _ r => .cons q r
  | _, _, i + 1, _, _, q, .cons h r => .cons h (RepA.set i q r)

/-! ### the frame's values -/
def RepE (K : PySem.W.Frag) (s : S) (σ : L2.St) (σd : En) : Prop := σ.length = σd.length ∧ ∀ (i : Nat) (d : D), σd[i]? = some (some d) → ∃ v, σ[i]? = some (some v) ∧ Rep K s v d
theorem RepE.mono {σ : L2.St} {σd : En} (ok : Ok K cl s) (e : Ext s s1) (h : RepE K s σ σd) : RepE K s1 σ σd :=
  ⟨h.1, fun i d q => let ⟨v, a, b⟩ := h.2 i d q; ⟨v, a, b.mono ok e⟩⟩
theorem RepE.set {σ : L2.St} {σd : En} {v : V} {d : D} (h : RepE K s σ σd) (i : Nat) (r : Rep K s v d) : RepE K s (σ.set i (some v)) (σd.set i (some d)) := by
  refine ⟨by simpa using h.1, fun j d' q => ?_⟩
  by_cases e : j = i
  · subst e
    by_cases hl : j < σd.length
    · rw [List.getElem?_set_self hl] at q
      cases q
      exact ⟨v, List.getElem?_set_self (by rw [h.1]; exact hl), r⟩
    · rw [List.getElem?_eq_none_iff.mpr (by simpa using Nat.le_of_not_lt hl)] at q
      cases q
  · rw [List.getElem?_set_ne (Ne.symm e)] at q
    obtain ⟨v', a, b⟩ := h.2 j d' q
    exact ⟨v', by rw [List.getElem?_set_ne (Ne.symm e)]; exact a, b⟩
def wipeD (σd : En) : List Nat → En
  | [] => σd
  | v :: vs => (wipeD σd vs).set v none
theorem RepE.wipe {σ : L2.St} {σd : En} (h : RepE K s σ σd) : ∀ vs : List Nat, RepE K s (L2.wipe σ vs) (wipeD σd vs)
  | [] => h
  | v :: vs => by
    have ih := RepE.wipe h vs
    refine ⟨by simpa [L2.wipe, wipeD] using ih.1, fun j d q => ?_⟩
    show ∃ v', ((L2.wipe σ vs).set v none)[j]? = some (some v') ∧ _
    change ((wipeD σd vs).set v none)[j]? = some (some d) at q
    by_cases e : v = j
    · subst e
      by_cases hl : v < (wipeD σd vs).length
      · rw [List.getElem?_set_self hl] at q
        cases q
      · rw [List.getElem?_eq_none_iff.mpr (by simpa using Nat.le_of_not_lt hl)] at q
        cases q
    · rw [List.getElem?_set_ne e] at q
      obtain ⟨v', a, b⟩ := ih.2 j d q
      exact ⟨v', by rw [List.getElem?_set_ne e]; exact a, b⟩

/-! ### what follows -/
/-- an exception of the class named c, its attributes -/
def RepX (K : PySem.W.Frag) (cl : Str → Option Addr) (s : S) (cls : Value) (dd : Option Addr) (c : Str) (fs : List (Str × D)) : Prop :=
  ∃ C a vfs, cl c = some C ∧ cls = .ref C ∧ dd = some a ∧ s.F a ∧ s.H a = some (.xd vfs) ∧ RepF K s vfs fs
def Post {α β : Type} (K : PySem.W.Frag) (cl : Str → Option Addr) (rep : S → β → α → Prop) (EK : XK) (s : S) (r : R α) (Q : β → Hp → Prop) : Prop := match r with
  | .ok d w => ∀ s' v, Ext s s' → Ok K cl s' → s'.w = w → rep s' v d → Q v s'.H
  | .err c fs w => ∀ s' cls dd, Ext s s' → Ok K cl s' → s'.w = w → RepX K cl s' cls dd c fs → EK cls dd s'.H
  | .stuck => False
theorem Post.ext {α β : Type} {rep : S → β → α → Prop} {EK : XK} {r : R α} {Q : β → Hp → Prop} (e : Ext s s1) (h : Post K cl rep EK s r Q) : Post K cl rep EK s1 r Q := by
  cases r with
  | ok d w => exact fun s' v e' o q rp => h s' v (e.trans e') o q rp
  | err c fs w => exact fun s' x dd e' o q rp => h s' x dd (e.trans e') o q rp
  | stuck => exact h
theorem Post.imp {α β : Type} {rep : S → β → α → Prop} {EK : XK} {r : R α} {Q Q' : β → Hp → Prop} (h : Post K cl rep EK s r Q) (i : ∀ v H, Q v H → Q' v H) : Post K cl rep EK s r Q' := by
  cases r with
  | ok d w => exact fun s' v e' o q rp => i _ _ (h s' v e' o q rp)
  | err c fs w => exact h
  | stuck => exact h
abbrev repB : S → Bool → Bool → Prop := fun _ b b' => b = b'
/-- the reading of a thing that reckons m -/
def tG {α β : Type} (K : PySem.W.Frag) (cl : Str → Option Addr) (rep : S → β → α → Prop) (EK : XK) (m : En → Wd → R α) : L2.St → Hp → (β → Hp → Prop) → Prop :=
  fun σ H Q => ∃ s σd, s.H = H ∧ Ok K cl s ∧ RepE K s σ σd ∧ Post K cl rep EK s (m σd s.w) Q
/-- what is left to reckon from a value -/
def tK {α β α' β' : Type} (K : PySem.W.Frag) (cl : Str → Option Addr) (rep : S → β → α → Prop) (rep' : S → β' → α' → Prop) (EK : XK) (k : α → En → Wd → R α') : β → L2.St → Hp → (β' → Hp → Prop) → Prop :=
  fun x σ H Q => ∃ s σd a, s.H = H ∧ Ok K cl s ∧ RepE K s σ σd ∧ rep s x a ∧ Post K cl rep' EK s (k a σd s.w) Q
theorem tG_bind {α β α' β' : Type} {rep : S → β → α → Prop} {rep' : S → β' → α' → Prop} {EK : XK} {m : En → Wd → R α} {k : α → En → Wd → R α'} {σ : L2.St} {H : Hp} {Q : β' → Hp → Prop}
    (h : tG K cl rep' EK (fun σd w => (m σd w).bind fun a w' => k a σd w') σ H Q) : tG K cl rep EK m σ H (fun x H1 => tK K cl rep rep' EK k x σ H1 Q) := by
  obtain ⟨s, σd, rfl, ok, re, p⟩ := h
  refine ⟨s, σd, rfl, ok, re, ?_⟩
  cases e : m σd s.w with
  | ok a w =>
    simp only [e, R.bind] at p
    intro s' x ex ok' hw rx
    refine ⟨s', σd, a, rfl, ok', re.mono ok ex, rx, ?_⟩
    rw [hw]
    exact Post.ext ex p
  | err c fs w => simp only [e, R.bind] at p; exact p
  | stuck => simp only [e, R.bind] at p; exact p
theorem tG_imp {α β : Type} {rep : S → β → α → Prop} {EK : XK} {m : En → Wd → R α} {σ : L2.St} {H : Hp} {Q Q' : β → Hp → Prop} (h : tG K cl rep EK m σ H Q) (i : ∀ v H, Q v H → Q' v H) : tG K cl rep EK m σ H Q' := by
  obtain ⟨s, σd, a, b, c, p⟩ := h
  exact ⟨s, σd, a, b, c, p.imp i⟩
/-- a value with the state it stands in, behind m: the next one is reckoned there -/
theorem tK_bind {α β α' β' α'' β'' : Type} {rep : S → β → α → Prop} {rep' : S → β' → α' → Prop} {rep'' : S → β'' → α'' → Prop} {EK : XK} {m : En → Wd → R α'} {k : α → α' → En → Wd → R α''} {x : β} {σ : L2.St} {H : Hp} {Q : β'' → Hp → Prop}
    (mono : ∀ s s' x a, Ok K cl s → Ext s s' → rep s x a → rep s' x a)
    (h : tK K cl rep rep'' EK (fun a σd w => (m σd w).bind fun b w' => k a b σd w') x σ H Q) : tG K cl rep' EK m σ H (fun y H1 => ∃ s σd a b, s.H = H1 ∧ Ok K cl s ∧ RepE K s σ σd ∧ rep s x a ∧ rep' s y b ∧ Post K cl rep'' EK s (k a b σd s.w) Q) := by
  obtain ⟨s, σd, a, rfl, ok, re, ra, p⟩ := h
  refine ⟨s, σd, rfl, ok, re, ?_⟩
  cases e : m σd s.w with
  | ok b w =>
    simp only [e, R.bind] at p
    intro s' y ex ok' hw ry
    refine ⟨s', σd, a, b, rfl, ok', re.mono ok ex, mono s s' x a ok ex ra, ry, ?_⟩
    rw [hw]
    exact Post.ext ex p
  | err c fs w => simp only [e, R.bind] at p; exact p
  | stuck => simp only [e, R.bind] at p; exact p
end

/-! ### the judgements -/
section
variable {X : Cx} {cl : Str → Option Addr} {EK : XK}
def SE (X : Cx) (cl : Str → Option Addr) (EK : XK) (e : Expr) (m : En → Wd → R D) : Prop := PE X e (tG X.K cl (Rep X.K) EK m)
def ST (X : Cx) (cl : Str → Option Addr) (EK : XK) (e : Expr) (m : En → Wd → R Bool) : Prop := PT X e (tG X.K cl repB EK m)
def SA (X : Cx) (cl : Str → Option Addr) (EK : XK) (es : List Expr) (m : En → Wd → R (List D)) : Prop := PA X es (tG X.K cl (RepA X.K) EK m)
theorem PE.weak {e : Expr} {t t' : TE} (h : PE X e t) (i : ∀ σ H Q, t' σ H Q → t σ H Q) : PE X e t' := ⟨fun pins s σ H Q I q => h.run pins s σ H Q I (i σ H Q q)⟩
theorem PT.weak {e : Expr} {t t' : TT} (h : PT X e t) (i : ∀ σ H Q, t' σ H Q → t σ H Q) : PT X e t' := ⟨fun pins s σ H Q I q => h.run pins s σ H Q I (i σ H Q q)⟩
theorem PA.weak {es : List Expr} {t t' : TA} (h : PA X es t) (i : ∀ σ H Q, t' σ H Q → t σ H Q) : PA X es t' := ⟨fun pos pins s σ H Q I q => h.run pos pins s σ H Q I (i σ H Q q)⟩

/-! ### names, constants -/
def mVar (i : Nat) : En → Wd → R D := fun σd w => match σd[i]? with
  | some (some d) => .ok d w
  | _ => .stuck
theorem se_var {e : Expr} {i : Nat} (h : PE X e (tVar i)) : SE X cl EK e (mVar i) := by
  refine PE.weak h fun σ H Q => ?_
  rintro ⟨s, σd, rfl, ok, re, p⟩
  unfold mVar at p
  split at p
  · rename_i d hd
    obtain ⟨v, hv, r⟩ := re.2 i d hd
    exact ⟨v, hv, p s v (Ext.refl s) ok rfl r⟩
  · exact p.elim
def mC (d : D) : En → Wd → R D := fun _ w => .ok d w
theorem se_c {e : Expr} {v : V} {d : D} (h : PE X e (tC v)) (r : ∀ s, Rep X.K s v d) : SE X cl EK e (mC d) := by
  refine PE.weak h fun σ H Q => ?_
  rintro ⟨s, σd, rfl, ok, re, p⟩
  exact p s v (Ext.refl s) ok rfl (r s)
theorem se_int {i j pos} : SE X cl EK (.Constant (.int i) j pos) (mC (.int i)) := se_c pe_int fun _ => .int i
theorem se_bl {b j pos} : SE X cl EK (.Constant (.bool b) j pos) (mC (.bl b)) := se_c pe_bl fun _ => .bl b
theorem se_non {j pos} : SE X cl EK (.Constant .none j pos) (mC .non) := se_c pe_non fun _ => .non
theorem se_str {x j pos} : SE X cl EK (.Constant (.str x) j pos) (mC (.str x)) := se_c pe_str fun _ => .str x
end
end Si

set_option Elab.async false
set_option linter.all false
set_option autoImplicit false
set_option maxRecDepth 100000
set_option maxHeartbeats 4000000
/-! Si2: steps of the heap; operators. -/
namespace Si
open PySem L2
section
variable {K : PySem.W.Frag} {cl : Str → Option Addr} {s s1 : S}
/-! ### the steps: a new thing that never changes, a new cell, a cell written, a cell that changes no more -/
def S.frz (s : S) (p : Addr) (o : HO) : S := ⟨fun a => s.F a ∨ a = p, s.ρ, s.w, upd s.H p o⟩
def S.cell (s : S) (p : Addr) (o : HO) (m : MO) : S := ⟨s.F, s.ρ ++ [p], s.w ++ [m], upd s.H p o⟩
def S.wr (s : S) (n : Nat) (p : Addr) (o : HO) (m : MO) : S := ⟨s.F, s.ρ, s.w.set n m, upd s.H p o⟩
def S.die (s : S) (n : Nat) (p : Addr) : S := ⟨fun a => s.F a ∨ a = p, s.ρ, s.w.set n .dead, s.H⟩
theorem RepO.at {a : Addr} {o : MO} (ok : Ok K cl s) (e : Ext s s1) (h : s1.H a = s.H a) (r : RepO K cl s a o) : RepO K cl s1 a o := by
  cases o with
  | dead => trivial
  | lst xs => obtain ⟨vs, e1, r⟩ := r; exact ⟨vs, h.trans e1, r.mono ok e⟩
  | ins c fs => obtain ⟨C, dx, vfs, e0, e1, r⟩ := r; exact ⟨C, dx, vfs, e0, h.trans e1, r.mono ok e⟩
theorem upd_there {H : Hp} {p a : Addr} {o : HO} (h : H a ≠ none) : upd H p o a ≠ none := by
  by_cases e : a = p
  · subst e; rw [upd_same]; simp
  · rw [upd_ne e]; exact h
theorem S.frz_ext {p : Addr} {o : HO} (hp : s.H p = none) : Ext s (s.frz p o) :=
  ⟨fun _ h => .inl h, ⟨[], (List.append_nil _).symm, fun _ h => nomatch h⟩, fun _ h => h, fun a u h _ => by
    show upd s.H p o a = some u
    rw [upd_ne (ne_of_none h hp)]; exact h, fun _ h => upd_there h, fun a h => by
    rcases h with h | h
    · exact .inl h
    · subst h; exact .inr (.inl hp)⟩
theorem S.frz_ok {p : Addr} {o : HO} (ok : Ok K cl s) (hp : s.H p = none) : Ok K cl (s.frz p o) := by
  have ne : ∀ a, a ∈ s.ρ → a ≠ p := fun a ha z => ok.trk a ha (by rw [z]; exact hp)
  refine ⟨ok.len, ok.nd, fun a ha => upd_there (ok.trk a ha), fun a ha => ?_, fun n a m hn hm => ?_, fun a hl ha => ?_⟩
  · rcases ha with ha | ha
    · exact upd_there (ok.frz a ha)
    · subst ha; show upd s.H a o a ≠ none; rw [upd_same]; simp
  · refine RepO.at ok (S.frz_ext hp) ?_ (ok.cell n a m hn hm)
    exact upd_ne (ne a (List.mem_of_getElem? hn))
  · rcases ha with ha | ha
    · exact ok.dead a hl ha
    · obtain ⟨n, hn, _⟩ := hl
      exact ne a (List.mem_of_getElem? hn) ha
theorem S.cell_ext {p : Addr} {o : HO} {m : MO} (ok : Ok K cl s) (hp : s.H p = none) : Ext s (s.cell p o m) :=
  ⟨fun _ h => h, ⟨[p], rfl, fun a h => by rw [List.mem_singleton.mp h]; exact hp⟩, fun n h => by
    show (s.w ++ [m])[n]? = some MO.dead
    rw [List.getElem?_append_left (List.getElem?_eq_some_iff.mp h).1]; exact h, fun a u h _ => by
    show upd s.H p o a = some u
    rw [upd_ne (ne_of_none h hp)]; exact h, fun _ h => upd_there h, fun a h => .inl h⟩
theorem S.cell_ok {p : Addr} {o : HO} {m : MO} (ok : Ok K cl s) (hp : s.H p = none) (r : RepO K cl (s.cell p o m) p m) : Ok K cl (s.cell p o m) := by
  have ne : ∀ a, a ∈ s.ρ → a ≠ p := fun a ha z => ok.trk a ha (by rw [z]; exact hp)
  have split : ∀ (n : Nat) (a : Addr), (s.ρ ++ [p])[n]? = some a → (s.ρ[n]? = some a ∧ (s.w ++ [m])[n]? = s.w[n]?) ∨ (n = s.ρ.length ∧ a = p ∧ (s.w ++ [m])[n]? = some m) := fun n a hn => by
    by_cases hl : n < s.ρ.length
    · rw [List.getElem?_append_left hl] at hn
      exact .inl ⟨hn, List.getElem?_append_left (by rw [← ok.len]; exact hl)⟩
    · have e : n = s.ρ.length := by
        have := (List.getElem?_eq_some_iff.mp hn).1
        rw [List.length_append, List.length_singleton] at this
        omega
      subst e
      rw [List.getElem?_append_right (Nat.le_refl _), Nat.sub_self] at hn
      have e2 : p = a := Option.some.inj hn
      refine .inr ⟨rfl, e2.symm, ?_⟩
      rw [List.getElem?_append_right (by rw [ok.len]; exact Nat.le_refl _), ok.len, Nat.sub_self]
      rfl
  refine ⟨?_, ?_, fun a ha => ?_, fun a ha => upd_there (ok.frz a ha), fun n a m' hn hm => ?_, fun a hl ha => ?_⟩
  · show (s.ρ ++ [p]).length = (s.w ++ [m]).length
    rw [List.length_append, List.length_append, ok.len]
    rfl
  · refine List.nodup_append.mpr ⟨ok.nd, by simp, fun a ha b hb => ?_⟩
    rw [List.mem_singleton.mp hb]
    exact ne a ha
  · rcases List.mem_append.mp ha with ha | ha
    · exact upd_there (ok.trk a ha)
    · rw [List.mem_singleton.mp ha]; show upd s.H p o p ≠ none; rw [upd_same]; simp
  · rcases split n a hn with ⟨h1, h2⟩ | ⟨_, rfl, h2⟩
    · refine RepO.at ok (S.cell_ext ok hp) (upd_ne (ne a (List.mem_of_getElem? h1))) (ok.cell n a m' h1 ?_)
      rw [← h2]; exact hm
    · have e : m' = m := by
        change (s.w ++ [m])[n]? = some m' at hm
        rw [h2] at hm; exact (Option.some.inj hm).symm
      subst e
      exact r
  · obtain ⟨n, hn, hd⟩ := hl
    rcases split n a hn with ⟨h1, h2⟩ | ⟨_, rfl, _⟩
    · refine ok.dead a ⟨n, h1, fun z => hd ?_⟩ ha
      show (s.w ++ [m])[n]? = some MO.dead
      rw [h2]; exact z
    · exact ok.frz a ha hp
theorem S.wr_ext {n : Nat} {p : Addr} {o : HO} {m : MO} (ok : Ok K cl s) (hn : s.ρ[n]? = some p) (hl : s.w[n]? ≠ some MO.dead) : Ext s (s.wr n p o m) :=
  ⟨fun _ h => h, ⟨[], (List.append_nil _).symm, fun _ h => nomatch h⟩, fun j h => by
    show (s.w.set n m)[j]? = some MO.dead
    rw [List.getElem?_set_ne (fun z => hl (by rw [z]; exact h))]; exact h, fun a u h nl => by
    show upd s.H p o a = some u
    rw [upd_ne (fun z => nl ⟨n, by rw [z]; exact hn, hl⟩)]; exact h, fun _ h => upd_there h, fun a h => .inl h⟩
theorem S.wr_ok {n : Nat} {p : Addr} {o : HO} {m : MO} (ok : Ok K cl s) (hn : s.ρ[n]? = some p) (hl : s.w[n]? ≠ some MO.dead) (r : RepO K cl (s.wr n p o m) p m) : Ok K cl (s.wr n p o m) := by
  refine ⟨by show s.ρ.length = (s.w.set n m).length; rw [List.length_set]; exact ok.len, ok.nd, fun a ha => upd_there (ok.trk a ha), fun a ha => upd_there (ok.frz a ha), fun j a m' hj hm => ?_, fun a hv ha => ?_⟩
  · change s.ρ[j]? = some a at hj
    change (s.w.set n m)[j]? = some m' at hm
    by_cases e : j = n
    · subst e
      rw [hn] at hj
      cases hj
      have hlt : j < s.w.length := by rw [← ok.len]; exact (List.getElem?_eq_some_iff.mp hn).1
      rw [List.getElem?_set_self hlt] at hm
      cases hm
      exact r
    · rw [List.getElem?_set_ne (Ne.symm e)] at hm
      refine RepO.at ok (S.wr_ext ok hn hl) (upd_ne fun z => e ?_) (ok.cell j a m' hj hm)
      subst z
      exact nd_ix ok.nd hj hn
  · obtain ⟨j, hj, hd⟩ := hv
    change s.ρ[j]? = some a at hj
    by_cases e : j = n
    · subst e
      exact ok.dead a ⟨j, hj, hl⟩ ha
    · refine ok.dead a ⟨j, hj, fun z => hd ?_⟩ ha
      show (s.w.set n m)[j]? = some MO.dead
      rw [List.getElem?_set_ne (Ne.symm e)]; exact z
theorem S.die_ext {n : Nat} {p : Addr} (hn : s.ρ[n]? = some p) : Ext s (s.die n p) :=
  ⟨fun _ h => .inl h, ⟨[], (List.append_nil _).symm, fun _ h => nomatch h⟩, fun j h => by
    show (s.w.set n MO.dead)[j]? = some MO.dead
    by_cases e : j = n
    · subst e; rw [List.getElem?_set_self (List.getElem?_eq_some_iff.mp h).1]
    · rw [List.getElem?_set_ne (Ne.symm e)]; exact h, fun a u h nl => h, fun _ h => h, fun a h => by
    rcases h with h | h
    · exact .inl h
    · subst h; exact .inr (.inr (List.mem_of_getElem? hn))⟩
theorem S.die_ok {n : Nat} {p : Addr} (ok : Ok K cl s) (hn : s.ρ[n]? = some p) : Ok K cl (s.die n p) := by
  refine ⟨by show s.ρ.length = (s.w.set n MO.dead).length; rw [List.length_set]; exact ok.len, ok.nd, ok.trk, fun a ha => ?_, fun j a m' hj hm => ?_, fun a hv ha => ?_⟩
  · rcases ha with ha | ha
    · exact ok.frz a ha
    · subst ha; exact ok.trk a (List.mem_of_getElem? hn)
  · change s.ρ[j]? = some a at hj
    change (s.w.set n MO.dead)[j]? = some m' at hm
    by_cases e : j = n
    · subst e
      rw [List.getElem?_set_self (by rw [← ok.len]; exact (List.getElem?_eq_some_iff.mp hn).1)] at hm
      cases hm
      trivial
    · rw [List.getElem?_set_ne (Ne.symm e)] at hm
      exact RepO.at ok (S.die_ext hn) rfl (ok.cell j a m' hj hm)
  · obtain ⟨j, hj, hd⟩ := hv
    change s.ρ[j]? = some a at hj
    by_cases e : j = n
    · subst e
      refine hd ?_
      show (s.w.set j MO.dead)[j]? = some MO.dead
      rw [List.getElem?_set_self (by rw [← ok.len]; exact (List.getElem?_eq_some_iff.mp hn).1)]
    · have hv' : live s a := ⟨j, hj, fun z => hd (by
        show (s.w.set n MO.dead)[j]? = some MO.dead
        rw [List.getElem?_set_ne (Ne.symm e)]; exact z)⟩
      rcases ha with ha | ha
      · exact ok.dead a hv' ha
      · subst ha
        exact e (nd_ix ok.nd hj hn)
/-- a new list, a new tuple that never changes -/
theorem rep_newL {p : Addr} {vs : List V} {ds : List D} (ok : Ok K cl s) (hp : s.H p = none) (r : RepA K s vs ds) : Rep K (s.frz p (.lst vs)) (.ref p) (.lst ds) :=
  .lst (.inr rfl) upd_same (r.mono ok (S.frz_ext hp))
theorem rep_newT {p : Addr} {vs : List V} {ds : List D} (ok : Ok K cl s) (hp : s.H p = none) (r : RepA K s vs ds) : Rep K (s.frz p (.tup vs)) (.ref p) (.tup ds) :=
  .tup (.inl ⟨.inr rfl, upd_same⟩) (r.mono ok (S.frz_ext hp))
/-- what follows a value that is there -/
theorem post_here {rep : S → V → D → Prop} {EK : XK} {d : D} {Q : VK} {v : V} (ok : Ok K cl s) (p : Post K cl rep EK s (.ok d s.w) Q) (r : rep s v d) : Q v s.H := p s v (Ext.refl s) ok rfl r
theorem post_newL {EK : XK} {ds : List D} {Q : VK} {vs : List V} (ok : Ok K cl s) (p : Post K cl (Rep K) EK s (.ok (.lst ds) s.w) Q) (r : RepA K s vs ds) : ∀ a, s.H a = none → Q (.ref a) (upd s.H a (.lst vs)) :=
  fun a ha => p (s.frz a (.lst vs)) _ (S.frz_ext ha) (S.frz_ok ok ha) rfl (rep_newL ok ha r)
theorem post_newT {EK : XK} {ds : List D} {Q : VK} {vs : List V} (ok : Ok K cl s) (p : Post K cl (Rep K) EK s (.ok (.tup ds) s.w) Q) (r : RepA K s vs ds) : ∀ a, s.H a = none → Q (.ref a) (upd s.H a (.tup vs)) :=
  fun a ha => p (s.frz a (.tup vs)) _ (S.frz_ext ha) (S.frz_ok ok ha) rfl (rep_newT ok ha r)
end

/-! ### operators -/
/-- the rule r does what g says -/
def GR (K : PySem.W.Frag) (cl : Str → Option Addr) (g : D → D → Wd → R D) (r : R2) : Prop :=
  ∀ (EK : XK) (s : S) (x y : V) (u v : D) (Q : VK), Ok K cl s → Rep K s x u → Rep K s y v → Post K cl (Rep K) EK s (g u v s.w) Q → r x y s.H Q
def mOp (g : D → D → Wd → R D) (ma mb : En → Wd → R D) : En → Wd → R D := fun σd w => (ma σd w).bind fun u w1 => (mb σd w1).bind fun v w2 => g u v w2
theorem rep_mono {K : PySem.W.Frag} {cl : Str → Option Addr} : ∀ (s s' : S) (x : V) (a : D), Ok K cl s → Ext s s' → Rep K s x a → Rep K s' x a := fun _ _ _ _ ok e r => r.mono ok e
theorem repA_mono {K : PySem.W.Frag} {cl : Str → Option Addr} : ∀ (s s' : S) (x : List V) (a : List D), Ok K cl s → Ext s s' → RepA K s x a → RepA K s' x a := fun _ _ _ _ ok e r => r.mono ok e
section
variable {X : Cx} {cl : Str → Option Addr} {EK : XK} {a b c : Expr} {ma mb mc : En → Wd → R D} {pos : Pos} {g g' : D → D → Wd → R D} {r r' : R2}
theorem op_core (hr : GR X.K cl g r) {σ : L2.St} {H : Hp} {Q : VK} (h : tG X.K cl (Rep X.K) EK (mOp g ma mb) σ H Q) : tOp r (tG X.K cl (Rep X.K) EK ma) (tG X.K cl (Rep X.K) EK mb) σ H Q :=
  tG_imp (tG_bind h) fun x H1 hk => tG_imp (tK_bind rep_mono hk) fun y H2 ⟨s, σd, u, v, e, ok, re, ru, rv, p⟩ => by
    subst e
    exact hr EK s x y u v Q ok ru rv p
theorem se_op {op : Operator} (ho : OpR X (binaryOp op) r) (hr : GR X.K cl g r) (ha : SE X cl EK a ma) (hb : SE X cl EK b mb) : SE X cl EK (.BinOp a op b pos) (mOp g ma mb) := PE.weak (pe_op ho ha hb) fun σ H Q h => op_core hr h
theorem se_cmp {op : CmpOp} (ho : OpR X (compareOp op) r) (hr : GR X.K cl g r) (ha : SE X cl EK a ma) (hb : SE X cl EK b mb) (hm : behindInMarks op b = false) : SE X cl EK (.Compare a [op] [b] pos) (mOp g ma mb) :=
  PE.weak (pe_cmpR ho ha hb hm) fun σ H Q h => op_core hr h
/-- a bool that is asked -/
def asB (m : En → Wd → R D) : En → Wd → R Bool := fun σd w => (m σd w).bind fun d w1 => match d with | .bl b => .ok b w1 | _ => .stuck
theorem asB_core {m : En → Wd → R D} {t : TE} (i : ∀ σ H Q, tG X.K cl (Rep X.K) EK m σ H Q → t σ H Q) (mono : ∀ σ H (Q Q' : VK), (∀ v H, Q v H → Q' v H) → t σ H Q → t σ H Q') {σ : L2.St} {H : Hp} {Q : Bool → Hp → Prop}
    (h : tG X.K cl repB EK (asB m) σ H Q) : t σ H fun x H' => ∃ k, x = .bl k ∧ Q k H' := by
  refine mono _ _ _ _ (fun v H q => ?_) (i _ _ _ (tG_bind h))
  obtain ⟨s, σd, d, rfl, ok, re, r, p⟩ := q
  cases r with
  | bl b => exact ⟨b, rfl, p s b (Ext.refl s) ok rfl rfl⟩
  | _ => exact p.elim
theorem tOp_mono {σ : L2.St} {H : Hp} {Q Q' : VK} (hm : ∀ x y H Q Q', (∀ v H, Q v H → Q' v H) → r x y H Q → r x y H Q') (i : ∀ v H, Q v H → Q' v H)
    (h : tOp r (tG X.K cl (Rep X.K) EK ma) (tG X.K cl (Rep X.K) EK mb) σ H Q) : tOp r (tG X.K cl (Rep X.K) EK ma) (tG X.K cl (Rep X.K) EK mb) σ H Q' :=
  tG_imp h fun x H1 h1 => tG_imp h1 fun y H2 h2 => hm x y H2 Q Q' i h2
theorem st_cmp {op : CmpOp} (ho : OpR X (compareOp op) r) (hr : GR X.K cl g r) (ha : SE X cl EK a ma) (hb : SE X cl EK b mb) (hm : behindInMarks op b = false) : ST X cl EK (.Compare a [op] [b] pos) (asB (mOp g ma mb)) := by
  refine PT.weak (pt_cmpR ho ha hb hm) fun σ H Q h => ?_
  have h2 := tG_bind (rep := Rep X.K) h
  refine tG_imp (tG_bind h2) fun x H1 hk => tG_imp (tK_bind rep_mono hk) fun y H2 ⟨s, σd, u, v, e, ok, re, ru, rv, p⟩ => ?_
  subst e
  refine hr EK s x y u v _ ok ru rv (p.imp fun v H q => ?_)
  obtain ⟨s, σd, d, rfl, ok, re, r, p⟩ := q
  cases r with
  | bl b => exact ⟨b, rfl, p s b (Ext.refl s) ok rfl rfl⟩
  | _ => exact p.elim
end
end Si

set_option Elab.async false
set_option linter.all false
set_option autoImplicit false
set_option maxRecDepth 100000
set_option maxHeartbeats 4000000
/-! Si3: what the operators reckon. -/
namespace Si
open PySem L2 PyProof.Rows
section
variable {X : Cx} {K : PySem.W.Frag} {cl : Str → Option Addr}
theorem rep_int {s : S} {v : V} {i : Int} (h : Rep K s v (.int i)) : v = .int i := by cases h; rfl
theorem rep_str {s : S} {v : V} {i : Str} (h : Rep K s v (.str i)) : v = .str i := by cases h; rfl
theorem rep_bl {s : S} {v : V} {i : Bool} (h : Rep K s v (.bl i)) : v = .bl i := by cases h; rfl
theorem rep_lst {s : S} {v : V} {ds : List D} (h : Rep K s v (.lst ds)) : ∃ a vs, v = .ref a ∧ s.F a ∧ s.H a = some (.lst vs) ∧ RepA K s vs ds := by
  cases h with
  | lst hF h r => exact ⟨_, _, rfl, hF, h, r⟩
theorem rep_tup {s : S} {v : V} {ds : List D} (h : Rep K s v (.tup ds)) : ∃ a vs, v = .ref a ∧ SqT K s.H a vs ∧ RepA K s vs ds := by
  cases h with
  | tup h r => exact ⟨_, _, rfl, SqT.ofR h, r⟩
/-! ### + - * // % ** -/
def gAdd : D → D → Wd → R D := fun u v w => match u, v with
  | .int i, .int j => .ok (.int (i + j)) w
  | .str a, .str b => if a.length + b.length ≤ 16777216 then .ok (.str (a ++ b)) w else .stuck
  | .lst a, .lst b => if a.length + b.length ≤ 16777216 then .ok (.lst (a ++ b)) w else .stuck
  | .tup a, .tup b => if a.length + b.length ≤ 16777216 then .ok (.tup (a ++ b)) w else .stuck
  | _, _ => .stuck
def rAddI : R2 := rI0 fun i j => .int (i + j)
def rAddT : R2 := fun x y H Q => ∃ i j, x = .str i ∧ y = .str j ∧ i.length + j.length ≤ sizeLine ∧ Q (.str (i ++ j)) H
theorem op_addA : OpR X (binaryOp .Add) (fun x y H Q => rAddI x y H Q ∨ (rAddT x y H Q ∨ (rCat x y H Q ∨ rCatA X.K x y H Q))) := OpR.or op_add (OpR.or op_add_str (OpR.or op_cat op_catA))
theorem gr_add : GR K cl gAdd (fun x y H Q => rAddI x y H Q ∨ (rAddT x y H Q ∨ (rCat x y H Q ∨ rCatA K x y H Q))) := by
  intro EK s x y u v Q ok ru rv p
  unfold gAdd at p
  split at p
  · rename_i i j
    rw [rep_int ru, rep_int rv]
    exact .inl ⟨i, j, rfl, rfl, post_here ok p (.int _)⟩
  · rename_i a b
    rw [rep_str ru, rep_str rv]
    split at p
    · exact .inr (.inl ⟨a, b, rfl, rfl, (by rw [sizeLine_eq]; assumption), post_here ok p (.str _)⟩)
    · exact p.elim
  · rename_i a b
    obtain ⟨l, vs, rfl, _, h1, r1⟩ := rep_lst ru
    obtain ⟨l2, vs2, rfl, _, h2, r2⟩ := rep_lst rv
    split at p
    · rename_i hl
      exact .inr (.inr (.inl ⟨l, l2, vs, vs2, rfl, rfl, h1, h2, by rw [r1.length, r2.length, sizeLine_eq]; exact hl, post_newL ok p (r1.append r2)⟩))
    · exact p.elim
  · rename_i a b
    have ru' := ru
    have rv' := rv
    obtain ⟨l, vs, rfl, h1, r1⟩ := rep_tup ru
    obtain ⟨l2, vs2, rfl, h2, r2⟩ := rep_tup rv
    split at p
    · rename_i hl
      refine .inr (.inr (.inr ⟨l, l2, vs, vs2, rfl, rfl, h1, h2, by rw [r1.length, r2.length, sizeLine_eq]; exact hl, fun e => ?_, fun _ e => ?_, fun _ _ => post_newT ok p (r1.append r2)⟩))
      · subst e
        cases r1
        exact post_here ok p rv'
      · subst e
        cases r2
        rw [List.append_nil] at p
        exact post_here ok p ru'
    · exact p.elim
  · exact p.elim
def gSub : D → D → Wd → R D := fun u v w => match u, v with
  | .int i, .int j => .ok (.int (i - j)) w
  | _, _ => .stuck
def rSubI : R2 := rI0 fun i j => .int (i - j)
theorem gr_sub : GR K cl gSub rSubI := by
  intro EK s x y u v Q ok ru rv p
  unfold gSub at p
  split at p
  · rename_i i j
    rw [rep_int ru, rep_int rv]
    exact ⟨i, j, rfl, rfl, post_here ok p (.int _)⟩
  · exact p.elim
/-- a text taken n times -/
def strMul (x : Str) (n : Int) : Str := ⟨(List.replicate n.toNat x.cps.toList).flatten.toArray⟩
def rMulT : R2 := fun x y H Q => ∃ (i : Str) (n : Int), x = .str i ∧ y = .int n ∧ 0 ≤ n ∧ n ≤ 1000 ∧ i.length ≤ 1000 ∧ Q (.str (strMul i n)) H
theorem txt_mul {x : Str} {n : Int} (h0 : 0 ≤ n) : Txt.mul x n = strMul x n := by
  have fold : ∀ (k : Nat) (acc : Array Nat), (List.replicate k x.cps).foldl (· ++ ·) acc = (acc.toList ++ (List.replicate k x.cps.toList).flatten).toArray := by
    intro k
    induction k with
    | zero => intro acc; simp
    | succ k ih =>
      intro acc
      rw [List.replicate_succ, List.foldl_cons, ih, List.replicate_succ, List.flatten_cons]
      simp
  unfold Txt.mul strMul
  by_cases h1 : n < 1
  · have e : n = 0 := by omega
    subst e
    rfl
  · rw [if_neg h1]
    split
    · rename_i h
      rw [Bool.or_eq_true] at h
      rcases h with h | h
      · have e : n = 1 := by simpa using h
        subst e
        obtain ⟨c⟩ := x
        show _ = (⟨(List.replicate 1 c.toList).flatten.toArray⟩ : Str)
        simp
      · have e : x.cps = #[] := by
          have : x.cps.size = 0 := by simpa [Str.length] using h
          exact Array.eq_empty_of_size_eq_zero this
        obtain ⟨c⟩ := x
        simp only at e
        subst e
        have z : ∀ k : Nat, (List.replicate k ([] : List Nat)).flatten = [] := by
          intro k; induction k with
          | zero => rfl
          | succ k ih => rw [List.replicate_succ, List.flatten_cons, ih]; rfl
        show _ = (⟨(List.replicate n.toNat ([] : List Nat)).flatten.toArray⟩ : Str)
        rw [z]
    · rw [fold]
      simp
theorem op_mulT : OpR X (binaryOp .Mult) rMulT := by
  intro pins s σ H x y v u Q I rx ry h
  obtain ⟨i, n, rfl, rfl, h0, h1, h2, q⟩ := h
  obtain ⟨t, rfl⟩ := rx
  obtain ⟨t2, rfl⟩ := ry
  refine SB.mul ⟨?_, fun hn _ z => ?_, fun _ _ => ?_⟩ fun t' k => ?_
  · rw [Bool.or_eq_false_iff]
    exact ⟨decide_eq_false (by omega), decide_eq_false (by omega)⟩
  ·
    have a1 : (1000 : Int) ≤ (2 ^ 63 - 1 : Int) / n := by
      rw [Int.le_ediv_iff_mul_le (by omega)]
      omega
    omega
  · have : i.length * n.toNat ≤ 1000 * 1000 := Nat.mul_le_mul h2 (by omega)
    unfold Builtin.Str.tooLong
    exact decide_eq_false (by have e := sizeLine_eq; omega)
  · rw [txt_mul h0]
    exact ⟨.str _, H, I.tok _, ⟨_, rfl⟩, q⟩
def gMul : D → D → Wd → R D := fun u v w => match u, v with
  | .int i, .int j => if ((-(2 ^ 64) < i ∧ i < 2 ^ 64) ∨ (-(2 ^ 64) < j ∧ j < 2 ^ 64)) ∨ i.natAbs.log2 + j.natAbs.log2 < 1000000 then .ok (.int (i * j)) w else .stuck
  | .str a, .int n => if 0 ≤ n ∧ n ≤ 1000 ∧ a.length ≤ 1000 then .ok (.str (strMul a n)) w else .stuck
  | .lst a, .int n => if 0 ≤ n ∧ n ≤ 1000 ∧ a.length ≤ 1000 then .ok (.lst (List.replicate n.toNat a).flatten) w else .stuck
  | .tup a, .int n => if 2 ≤ n ∧ n ≤ 1000 ∧ (a.length ≤ 1000 ∧ 1 ≤ a.length) then .ok (.tup (List.replicate n.toNat a).flatten) w else .stuck
  | _, _ => .stuck
theorem RepA.rep {s : S} {vs : List V} {ds : List D} (h : RepA K s vs ds) : ∀ n : Nat, RepA K s (List.replicate n vs).flatten (List.replicate n ds).flatten
  | 0 => .nil
  | n + 1 => by
    rw [List.replicate_succ, List.replicate_succ, List.flatten_cons, List.flatten_cons]
    exact h.append (RepA.rep h n)
theorem rep_lt {l : Nat} {n : Int} (h0 : 0 ≤ n) (h : n ≤ 1000) (hl : l ≤ 1000) : l * n.toNat ≤ sizeLine := by
  have : l * n.toNat ≤ 1000 * 1000 := Nat.mul_le_mul hl (by omega)
  have e := sizeLine_eq
  omega
def rMulI : R2 := rI (fun i j => CMul i j ∨ CMulW i j) fun i j => .int (i * j)
theorem op_mulB : OpR X (binaryOp .Mult) rMulI := opI fun _ _ _ _ _ _ _ hc q => mul_int q (hc.elim CMul.ok CMulW.ok)
theorem op_mulA : OpR X (binaryOp .Mult) (fun x y H Q => rMulI x y H Q ∨ (rMulT x y H Q ∨ (rRep x y H Q ∨ rRepT X.K x y H Q))) := OpR.or op_mulB (OpR.or op_mulT (OpR.or op_rep op_repT))
theorem gr_mul : GR K cl gMul (fun x y H Q => rMulI x y H Q ∨ (rMulT x y H Q ∨ (rRep x y H Q ∨ rRepT K x y H Q))) := by
  intro EK s x y u v Q ok ru rv p
  unfold gMul at p
  split at p
  · rename_i i j
    rw [rep_int ru, rep_int rv]
    split at p
    · rename_i h
      exact .inl ⟨i, j, rfl, rfl, h, post_here ok p (.int _)⟩
    · exact p.elim
  · rename_i i j
    rw [rep_str ru, rep_int rv]
    split at p
    · rename_i h
      exact .inr (.inl ⟨i, j, rfl, rfl, h.1, h.2.1, h.2.2, post_here ok p (.str _)⟩)
    · exact p.elim
  · rename_i a j
    obtain ⟨l, vs, rfl, _, h1, r1⟩ := rep_lst ru
    rw [rep_int rv]
    split at p
    · rename_i h
      exact .inr (.inr (.inl ⟨l, j, vs, rfl, rfl, h1, by omega, by omega, by rw [r1.length]; exact rep_lt h.1 h.2.1 h.2.2, post_newL ok p (r1.rep _)⟩))
    · exact p.elim
  · rename_i a j
    obtain ⟨l, vs, rfl, h1, r1⟩ := rep_tup ru
    rw [rep_int rv]
    split at p
    · rename_i h
      refine .inr (.inr (.inr ⟨l, j, vs, rfl, rfl, h1, fun e => ?_, h.1, h.2.1, by rw [r1.length]; exact h.2.2.1, post_newT ok p (r1.rep _)⟩))
      have := r1.length
      rw [e] at this
      have := h.2.2.2
      simp only [List.length_nil] at *
      omega
    · exact p.elim
  · exact p.elim
def gDiv : D → D → Wd → R D := fun u v w => match u, v with
  | .int i, .int j => if 0 < j ∧ j.natAbs.log2 < 9000 then .ok (.int (i / j)) w else .stuck
  | _, _ => .stuck
theorem gr_div : GR K cl gDiv (rI CDivW fun i j => .int (i / j)) := by
  intro EK s x y u v Q ok ru rv p
  unfold gDiv at p
  split at p
  · rename_i i j
    rw [rep_int ru, rep_int rv]
    split at p
    · rename_i h
      exact ⟨i, j, rfl, rfl, h, post_here ok p (.int _)⟩
    · exact p.elim
  · exact p.elim
def gMod : D → D → Wd → R D := fun u v w => match u, v with
  | .int i, .int j => if 0 < j then .ok (.int (i % j)) w else .stuck
  | _, _ => .stuck
theorem gr_mod : GR K cl gMod (rI (fun _ j => 0 < j) fun i j => .int (i % j)) := by
  intro EK s x y u v Q ok ru rv p
  unfold gMod at p
  split at p
  · rename_i i j
    rw [rep_int ru, rep_int rv]
    split at p
    · rename_i h
      exact ⟨i, j, rfl, rfl, h, post_here ok p (.int _)⟩
    · exact p.elim
  · exact p.elim
def gPow : D → D → Wd → R D := fun u v w => match u, v with
  | .int i, .int j => if 0 ≤ j ∧ j ≤ 1000000 ∧ i.natAbs < 2 ^ 64 then .ok (.int (i ^ j.toNat)) w else .stuck
  | _, _ => .stuck
theorem gr_pow : GR K cl gPow (rI CPow fun i j => .int (i ^ j.toNat)) := by
  intro EK s x y u v Q ok ru rv p
  unfold gPow at p
  split at p
  · rename_i i j
    rw [rep_int ru, rep_int rv]
    split at p
    · rename_i h
      exact ⟨i, j, rfl, rfl, h, post_here ok p (.int _)⟩
    · exact p.elim
  · exact p.elim
/-! ### order of numbers -/
def gOrd (f : Int → Int → Bool) : D → D → Wd → R D := fun u v w => match u, v with
  | .int i, .int j => .ok (.bl (f i j)) w
  | _, _ => .stuck
theorem gr_ord (f : Int → Int → Bool) : GR K cl (gOrd f) (rI0 fun i j => .bl (f i j)) := by
  intro EK s x y u v Q ok ru rv p
  unfold gOrd at p
  split at p
  · rename_i i j
    rw [rep_int ru, rep_int rv]
    exact ⟨i, j, rfl, rfl, post_here ok p (.bl _)⟩
  · exact p.elim
def gLt := gOrd fun i j => decide (i < j)
def gLe := gOrd fun i j => decide (i ≤ j)
def gGt := gOrd fun i j => decide (j < i)
def gGe := gOrd fun i j => decide (j ≤ i)
theorem gr_lt : GR K cl gLt (rI0 fun i j => .bl (decide (i < j))) := gr_ord _
theorem gr_le : GR K cl gLe (rI0 fun i j => .bl (decide (i ≤ j))) := gr_ord _
theorem gr_gt : GR K cl gGt (rI0 fun i j => .bl (decide (j < i))) := gr_ord _
theorem gr_ge : GR K cl gGe (rI0 fun i j => .bl (decide (j ≤ i))) := gr_ord _
/-! ### None -/
def isNon : D → Bool
  | .non => true
  | _ => false
def gIsN : D → D → Wd → R D := fun u v w => match v with
  | .non => .ok (.bl (isNon u)) w
  | _ => .stuck
def gNotN : D → D → Wd → R D := fun u v w => match v with
  | .non => .ok (.bl (!isNon u)) w
  | _ => .stuck
theorem rep_isN {s : S} {x : V} {u : D} (ru : Rep K s x u) : decide (x = V.non) = isNon u := by
  cases ru <;> first | rfl | exact decide_eq_false (fun z => nomatch z)
def rIsNN : R2 := fun x y H Q => y = .non ∧ Q (.bl (decide (x = .non))) H
def rNotNN : R2 := fun x y H Q => y = .non ∧ Q (.bl (!decide (x = .non))) H
theorem gr_isN : GR K cl gIsN rIsNN := by
  intro EK s x y u v Q ok ru rv p
  unfold gIsN at p
  split at p
  · cases rv
    refine ⟨rfl, ?_⟩
    rw [rep_isN ru]
    exact post_here ok p (.bl _)
  · exact p.elim
theorem gr_notN : GR K cl gNotN rNotNN := by
  intro EK s x y u v Q ok ru rv p
  unfold gNotN at p
  split at p
  · cases rv
    refine ⟨rfl, ?_⟩
    rw [rep_isN ru]
    exact post_here ok p (.bl _)
  · exact p.elim
/-! ### equal, in -/
mutual
def D.py : D → PyData
  | .non => .none
  | .bl b => .bool b
  | .int i => .int i
  | .str s => .str s
  | .lst xs => .list (pyA xs)
  | .tup xs => .tuple (pyA xs)
  | .obj _ => .none
  | .scr _ => .none
def pyA : List D → List PyData
  | [] => []
  | x :: r => x.py :: pyA r
end
mutual
/-- no cell within -/
def D.pure : D → Bool
  | .non | .bl _ | .int _ | .str _ => true
  | .lst xs => pureA xs
  | .tup xs => pureA xs
  | .obj _ => false
  | .scr _ => false
def pureA : List D → Bool
  | [] => true
  | x :: r => x.pure && pureA r
end
mutual
theorem Rep.dp {s : S} : ∀ {v : V} {d : D}, Rep K s v d → d.pure = true → Dp K s.H v d.py
  | _, _, .non, _ => .non
  | _, _, .bl b, _ => .bl b
  | _, _, .int i, _ => .int i
  | _, _, .str x, _ => .str x
  | _, _, .lst _ h r, p => by rw [D.py]; rw [D.pure] at p; exact .lst (.inl (.inl h)) (RepA.dp r p)
  | _, _, .tup h r, p => by rw [D.py]; rw [D.pure] at p; exact .tup (SqT.ofR h) (RepA.dp r p)
  | _, _, .obj _, p => by rw [D.pure] at p; cases p
  | _, _, .scr _, p => by rw [D.pure] at p; cases p
theorem RepA.dp {s : S} : ∀ {vs : List V} {ds : List D}, RepA K s vs ds → pureA ds = true → DpAll K s.H vs (pyA ds)
  | _, _, .nil, _ => .nil
  | _, _, .cons h r, p => by rw [pureA, Bool.and_eq_true] at p; rw [pyA]; exact .cons (h.dp p.1) (RepA.dp r p.2)
end
def okD (d : D) : Bool := d.pure && SeqAt.shaped d.py
/-- two scalars of kinds that are compared at once -/
def scEq : D → D → Option Bool
  | .non, .non => some true
  | .int i, .int j => some (decide (i = j))
  | .bl i, .bl j => some (decide (i = j))
  | .str i, .str j => some (decide (i = j))
  | .non, .int _ | .int _, .non | .non, .bl _ | .bl _, .non | .non, .str _ | .str _, .non => some false
  | .int _, .str _ | .str _, .int _ | .bl _, .str _ | .str _, .bl _ => some false
  | _, _ => none
def gEq : D → D → Wd → R D := fun u v w => match scEq u v with
  | some b => .ok (.bl b) w
  | none => if okD u && okD v then .ok (.bl (PyData.eqv u.py v.py)) w else .stuck
def gNe : D → D → Wd → R D := fun u v w => match scEq u v with
  | some b => .ok (.bl (!b)) w
  | none => if okD u && okD v then .ok (.bl (!PyData.eqv u.py v.py)) w else .stuck
theorem scEq_of {s : S} {x y : V} {u v : D} {b : Bool} (ru : Rep K s x u) (rv : Rep K s y v) (h : scEq u v = some b) : scal x y = true ∧ decide (x = y) = b := by
  unfold scEq at h
  split at h <;> first | (cases h) | skip
  all_goals (cases ru; cases rv)
  all_goals (refine ⟨rfl, ?_⟩)
  all_goals first
    | rfl
    | exact decide_eq_false (fun z => nomatch z)
    | (rename_i i j; by_cases e : i = j
       · rw [decide_eq_true e, decide_eq_true (by rw [e])]
       · rw [decide_eq_false e, decide_eq_false (fun z => e (by injection z))])
theorem op_eqA (hu : X.A.units + 64 < cLine) : OpR X (compareOp .Eq) (fun x y H Q => rEq x y H Q ∨ rEqD X.K x y H Q) := OpR.or op_eq (op_eqD hu)
theorem op_neA (hu : X.A.units + 64 < cLine) : OpR X (compareOp .NotEq) (fun x y H Q => rNe x y H Q ∨ rNeD X.K x y H Q) := OpR.or op_ne (op_neD hu)
theorem okD_of {d : D} (h : okD d = true) : d.pure = true ∧ SeqAt.shaped d.py = true := (Bool.and_eq_true _ _).mp h
theorem gr_eq : GR K cl gEq (fun x y H Q => rEq x y H Q ∨ rEqD K x y H Q) := by
  intro EK s x y u v Q ok ru rv p
  unfold gEq at p
  split at p
  · rename_i b hb
    obtain ⟨h1, h2⟩ := scEq_of ru rv hb
    exact .inl ⟨h1, by rw [h2]; exact post_here ok p (.bl _)⟩
  · split at p
    · rename_i h
      obtain ⟨h1, h2⟩ := (Bool.and_eq_true _ _).mp h
      obtain ⟨a1, a2⟩ := okD_of h1
      obtain ⟨b1, b2⟩ := okD_of h2
      exact .inr ⟨_, _, ru.dp a1, rv.dp b1, a2, b2, post_here ok p (.bl _)⟩
    · exact p.elim
theorem gr_ne : GR K cl gNe (fun x y H Q => rNe x y H Q ∨ rNeD K x y H Q) := by
  intro EK s x y u v Q ok ru rv p
  unfold gNe at p
  split at p
  · rename_i b hb
    obtain ⟨h1, h2⟩ := scEq_of ru rv hb
    exact .inl ⟨h1, by rw [h2]; exact post_here ok p (.bl _)⟩
  · split at p
    · rename_i h
      obtain ⟨h1, h2⟩ := (Bool.and_eq_true _ _).mp h
      obtain ⟨a1, a2⟩ := okD_of h1
      obtain ⟨b1, b2⟩ := okD_of h2
      exact .inr ⟨_, _, ru.dp a1, rv.dp b1, a2, b2, post_here ok p (.bl _)⟩
    · exact p.elim
def flatD : D → Bool
  | .non | .bl _ | .int _ | .str _ => true
  | _ => false
def eqF : D → D → Bool
  | .non, .non => true
  | .bl a, .bl b => a == b
  | .bl a, .int b => (if a then 1 else 0) == b
  | .int a, .bl b => a == (if b then 1 else 0)
  | .int a, .int b => a == b
  | .str a, .str b => a == b
  | _, _ => false
theorem flat_of {s : S} {v : V} {d : D} (r : Rep K s v d) (h : flatD d = true) : flatV v = true := by
  cases r <;> first | rfl | (exact absurd (show false = true from h) Bool.false_ne_true)
theorem eqF_of {s : S} {v x : V} {d e : D} (r : Rep K s v d) (q : Rep K s x e) (h1 : flatD d = true) (h2 : flatD e = true) : eqV v x = eqF d e := by
  cases r <;> first | skip | (exact absurd (show false = true from h1) Bool.false_ne_true)
  all_goals (cases q <;> first | rfl | (exact absurd (show false = true from h2) Bool.false_ne_true))
theorem flatA_of {s : S} : ∀ {vs : List V} {ds : List D}, RepA K s vs ds → ds.all flatD = true → vs.all flatV = true
  | _, _, .nil, _ => rfl
  | _, _, .cons h r, p => by
    rw [List.all_cons, Bool.and_eq_true] at p
    rw [List.all_cons, flat_of h p.1, flatA_of r p.2]
    rfl
theorem inF_of {s : S} {x : V} {u : D} (q : Rep K s x u) (h2 : flatD u = true) : ∀ {vs : List V} {ds : List D}, RepA K s vs ds → ds.all flatD = true → inV x vs = ds.any fun d => eqF d u
  | _, _, .nil, _ => rfl
  | _, _, .cons h r, p => by
    rw [List.all_cons, Bool.and_eq_true] at p
    have ih := inF_of q h2 r p.2
    unfold inV at ih ⊢
    rw [List.any_cons, List.any_cons, eqF_of h q p.1 h2, ih]
/-- u in v -/
def inD : D → D → Option Bool := fun u v => match v with
  | .str z => match u with
    | .str a => if a.cps.size = 1 then some (decide (a.cps.getD 0 0 ∈ z.cps.toList)) else none
    | _ => none
  | .tup ds => if flatD u && ds.all flatD then some (ds.any fun d => eqF d u) else none
  | .lst ds => if flatD u && ds.all flatD then some (ds.any fun d => eqF d u) else if okD u && okD (.lst ds) then some (ds.any fun d => PyData.eqv d.py u.py) else none
  | _ => none
def gIn : D → D → Wd → R D := fun u v w => match inD u v with
  | some b => .ok (.bl b) w
  | none => .stuck
def gNotIn : D → D → Wd → R D := fun u v w => match inD u v with
  | some b => .ok (.bl (!b)) w
  | none => .stuck
def rInS (neg : Bool) : R2 := fun x y H Q => ∃ (c : Nat) (z : Str), x = .str ⟨#[c]⟩ ∧ y = .str z ∧ Q (.bl (if neg then !decide (c ∈ z.cps.toList) else decide (c ∈ z.cps.toList))) H
def rInDD (K : PySem.W.Frag) (neg : Bool) : R2 := fun x y H Q => ∃ d ds, Dp K H x d ∧ Dp K H y (.list ds) ∧ SeqAt.shaped d = true ∧ SeqAt.shaped (.list ds) = true ∧ Q (.bl (if neg then !(ds.any fun z => PyData.eqv z d) else ds.any fun z => PyData.eqv z d)) H
theorem op_inA (hu : X.A.units + 65 < cLine) : OpR X (compareOp .In) (fun x y H Q => rInS false x y H Q ∨ (rIn X.K false x y H Q ∨ rInDD X.K false x y H Q)) := OpR.or op_in_sign (OpR.or op_in_seq (op_inD hu))
theorem op_notInA (hu : X.A.units + 65 < cLine) : OpR X (compareOp .NotIn) (fun x y H Q => rInS true x y H Q ∨ (rIn X.K true x y H Q ∨ rInDD X.K true x y H Q)) := OpR.or op_notIn_sign (OpR.or op_notIn_seq (op_notInD hu))
theorem any_py (u : PyData) : ∀ ds : List D, (pyA ds).any (fun z => PyData.eqv z u) = ds.any fun d => PyData.eqv d.py u
  | [] => by rw [pyA]; rfl
  | d :: r => by rw [pyA, List.any_cons, List.any_cons, any_py u r]
theorem in_core {s : S} {x y : V} {u v : D} {b : Bool} {Q : VK} (neg : Bool) (ru : Rep K s x u) (rv : Rep K s y v) (h : inD u v = some b) (q : Q (.bl (if neg then !b else b)) s.H) :
    rInS neg x y s.H Q ∨ (rIn K neg x y s.H Q ∨ rInDD K neg x y s.H Q) := by
  have fl : ∀ {ds : List D} {p : Addr} {vs : List V}, RepA K s vs ds → (SqL K s.H p vs ∨ SqT K s.H p vs) → flatD u = true → ds.all flatD = true → b = (ds.any fun d => eqF d u) → rIn K neg x (.ref p) s.H Q := by
    intro ds p vs r hp f1 f2 e
    refine ⟨p, vs, rfl, hp, flat_of ru f1, flatA_of r f2, ?_⟩
    rw [inF_of ru f1 r f2, ← e]
    exact q
  unfold inD at h
  split at h
  · rename_i z
    split at h
    · rename_i a
      split at h
      · rename_i h1
        rw [rep_str ru, rep_str rv]
        have ea : a = ⟨#[a.cps.getD 0 0]⟩ := by
          obtain ⟨c⟩ := a
          obtain ⟨l⟩ := c
          match l, h1 with
          | [k], _ => rfl
        refine .inl ⟨a.cps.getD 0 0, z, congrArg V.str ea, rfl, ?_⟩
        cases h
        exact q
      · cases h
    · cases h
  · rename_i ds
    split at h
    · rename_i h1
      obtain ⟨f1, f2⟩ := (Bool.and_eq_true _ _).mp h1
      obtain ⟨a, vs, rfl, ht, r⟩ := rep_tup rv
      exact .inr (.inl (fl r (.inr ht) f1 f2 (Option.some.inj h).symm))
    · cases h
  · rename_i ds
    split at h
    · rename_i h1
      obtain ⟨f1, f2⟩ := (Bool.and_eq_true _ _).mp h1
      obtain ⟨a, vs, rfl, _, ht, r⟩ := rep_lst rv
      exact .inr (.inl (fl r (.inl (SqL.of ht)) f1 f2 (Option.some.inj h).symm))
    · split at h
      · rename_i h1
        obtain ⟨h2, h3⟩ := (Bool.and_eq_true _ _).mp h1
        obtain ⟨a1, a2⟩ := okD_of h2
        obtain ⟨b1, b2⟩ := okD_of h3
        have d2 := rv.dp b1
        rw [D.py] at d2 b2
        refine .inr (.inr ⟨_, _, ru.dp a1, d2, a2, b2, ?_⟩)
        rw [any_py, Option.some.inj h]
        exact q
      · cases h
  · cases h
theorem gr_in : GR K cl gIn (fun x y H Q => rInS false x y H Q ∨ (rIn K false x y H Q ∨ rInDD K false x y H Q)) := by
  intro EK s x y u v Q ok ru rv p
  unfold gIn at p
  split at p
  · rename_i b hb
    exact in_core false ru rv hb (post_here ok p (.bl _))
  · exact p.elim
theorem gr_notIn : GR K cl gNotIn (fun x y H Q => rInS true x y H Q ∨ (rIn K true x y H Q ∨ rInDD K true x y H Q)) := by
  intro EK s x y u v Q ok ru rv p
  unfold gNotIn at p
  split at p
  · rename_i b hb
    exact in_core true ru rv hb (post_here ok p (.bl _))
  · exact p.elim
end
end Si

set_option Elab.async false
set_option linter.all false
set_option autoImplicit false
set_option maxRecDepth 100000
set_option maxHeartbeats 4000000
/-! Si4: chains, tests, displays, subscripts, built-ins, calls of own defs. -/
namespace Si
open PySem L2
section
variable {K : PySem.W.Frag} {cl : Str → Option Addr} {s s1 : S} {EK : XK}
/-- what follows, cut in two -/
theorem post_bind {α β α' β' : Type} {rep : S → β → α → Prop} {rep' : S → β' → α' → Prop} {r : R α} {k : α → Wd → R α'} {Q : β' → Hp → Prop} {Q1 : β → Hp → Prop} (p : Post K cl rep' EK s (r.bind k) Q)
    (h : ∀ s' v a, Ext s s' → Ok K cl s' → rep s' v a → Post K cl rep' EK s' (k a s'.w) Q → Q1 v s'.H) : Post K cl rep EK s r Q1 := by
  cases r with
  | ok a w =>
    intro s' v e ok' hw rv
    refine h s' v a e ok' rv ?_
    rw [hw]
    exact Post.ext e p
  | err c fs w => exact p
  | stuck => exact p
theorem tG_of {α β : Type} {rep : S → β → α → Prop} {m : En → Wd → R α} {σ : L2.St} {σd : En} {Q : β → Hp → Prop} (ok : Ok K cl s) (re : RepE K s σ σd) (p : Post K cl rep EK s (m σd s.w) Q) : tG K cl rep EK m σ s.H Q := ⟨s, σd, rfl, ok, re, p⟩
/-- the list that a value is or that stands in its cell -/
def derefL (u : D) (w : Wd) : Option (List D) := match u with
  | .lst ds => some ds
  | .obj n => match w[n]? with
    | some (.lst ds) => some ds
    | _ => none
  | _ => none
theorem deref_of {v : V} {u : D} {ds : List D} (ok : Ok K cl s) (r : Rep K s v u) (h : derefL u s.w = some ds) : ∃ a vs, v = .ref a ∧ s.H a = some (.lst vs) ∧ RepA K s vs ds := by
  unfold derefL at h
  split at h
  · cases h
    obtain ⟨a, vs, e, _, h1, h2⟩ := rep_lst r
    exact ⟨a, vs, e, h1, h2⟩
  · rename_i n
    split at h
    · rename_i ds' hw
      cases h
      cases r with
      | obj hn =>
        obtain ⟨vs, h1, h2⟩ := ok.cell n _ _ hn hw
        exact ⟨_, vs, rfl, h1, h2⟩
    · cases h
  · cases h
/-! ### truth -/
def truD (u : D) (w : Wd) : Option Bool := match u with
  | .non => some false
  | .bl b => some b
  | .int i => some (i != 0)
  | .str z => if z.length ≤ 16777216 then some ((z.length : Int) != 0) else none
  | .lst ds => some (!ds.isEmpty)
  | .tup ds => some (!ds.isEmpty)
  | .obj n => match w[n]? with
    | some (.lst ds) => some (!ds.isEmpty)
    | _ => none
  | .scr _ => none
theorem empty_of {vs : List V} {ds : List D} (r : RepA K s vs ds) : (!vs.isEmpty) = !ds.isEmpty := by cases r <;> rfl
theorem tru_of {v : V} {u : D} {k : Bool} (ok : Ok K cl s) (r : Rep K s v u) (h : truD u s.w = some k) : TruV K v s.H k := by
  cases r with
  | non => exact (Option.some.inj h).symm
  | bl b => exact (Option.some.inj h).symm
  | int i => exact (Option.some.inj h).symm
  | str z =>
    unfold truD at h
    dsimp only at h
    split at h
    · rename_i hz
      exact ⟨by rw [sizeLine_eq]; exact hz, (Option.some.inj h).symm⟩
    · cases h
  | lst hF hH rr => exact .inl ⟨_, SqL.of hH, by rw [empty_of rr]; exact (Option.some.inj h).symm⟩
  | tup hH rr => exact .inr (.inl ⟨_, SqT.ofR hH, by rw [empty_of rr]; exact (Option.some.inj h).symm⟩)
  | obj hn =>
    rename_i a n
    unfold truD at h
    dsimp only at h
    split at h
    · rename_i ds hw
      obtain ⟨vs, h1, h2⟩ := ok.cell n _ _ hn hw
      exact .inl ⟨_, SqL.of h1, by rw [empty_of h2]; exact (Option.some.inj h).symm⟩
    · cases h
  | scr _ => cases h
end
def mChain (g g' : D → D → Wd → R D) (ma mb mc : En → Wd → R D) : En → Wd → R D := fun σd w => (ma σd w).bind fun u w1 => (mb σd w1).bind fun v w2 => (g u v w2).bind fun z w3 => match z with
  | .bl true => (mc σd w3).bind fun x w4 => g' v x w4
  | .bl false => .ok (.bl false) w3
  | _ => .stuck
def mAnd (ma mb : En → Wd → R D) : En → Wd → R D := fun σd w => (ma σd w).bind fun u w1 => match truD u w1 with
  | some true => mb σd w1
  | some false => .ok u w1
  | none => .stuck
def mOr (ma mb : En → Wd → R D) : En → Wd → R D := fun σd w => (ma σd w).bind fun u w1 => match truD u w1 with
  | some true => .ok u w1
  | some false => mb σd w1
  | none => .stuck
def mNot (ma : En → Wd → R D) : En → Wd → R D := fun σd w => (ma σd w).bind fun u w1 => match truD u w1 with
  | some b => .ok (.bl (!b)) w1
  | none => .stuck
def mTru (ma : En → Wd → R D) : En → Wd → R Bool := fun σd w => (ma σd w).bind fun u w1 => match truD u w1 with
  | some b => .ok b w1
  | none => .stuck
def bAnd (ma mb : En → Wd → R Bool) : En → Wd → R Bool := fun σd w => (ma σd w).bind fun b w1 => match b with | true => mb σd w1 | false => .ok false w1
def bOr (ma mb : En → Wd → R Bool) : En → Wd → R Bool := fun σd w => (ma σd w).bind fun b w1 => match b with | true => .ok true w1 | false => mb σd w1
def bNot (ma : En → Wd → R Bool) : En → Wd → R Bool := fun σd w => (ma σd w).bind fun b w1 => .ok (!b) w1
def mIf (mc : En → Wd → R Bool) (ma mb : En → Wd → R D) : En → Wd → R D := fun σd w => (mc σd w).bind fun b w1 => match b with | true => ma σd w1 | false => mb σd w1
def mNeg (ma : En → Wd → R D) : En → Wd → R D := fun σd w => (ma σd w).bind fun u w1 => match u with | .int i => .ok (.int (-i)) w1 | _ => .stuck
def aNil : En → Wd → R (List D) := fun _ w => .ok [] w
def aCons (ma : En → Wd → R D) (mr : En → Wd → R (List D)) : En → Wd → R (List D) := fun σd w => (ma σd w).bind fun u w1 => (mr σd w1).bind fun us w2 => .ok (u :: us) w2
def mTup (ma : En → Wd → R (List D)) : En → Wd → R D := fun σd w => (ma σd w).bind fun us w1 => if us.length ≤ 16777216 then .ok (.tup us) w1 else .stuck
def mLst (ma : En → Wd → R (List D)) : En → Wd → R D := fun σd w => (ma σd w).bind fun us w1 => if us.length ≤ 16777216 then .ok (.lst us) w1 else .stuck
/-- a list that will change: a cell -/
def mLstM (ma : En → Wd → R (List D)) : En → Wd → R D := fun σd w => (ma σd w).bind fun us w1 => if us.length ≤ 16777216 then .ok (.obj w1.length) (w1 ++ [.lst us]) else .stuck
section
variable {X : Cx} {cl : Str → Option Addr} {EK : XK} {a b c : Expr} {ma mb mc : En → Wd → R D} {na nb nc : En → Wd → R Bool} {pos : Pos} {g g' : D → D → Wd → R D} {r r' : R2} {rest es : List Expr}
theorem chain_core (hr : GR X.K cl g r) (hr' : GR X.K cl g' r') {σ : L2.St} {H : Hp} {Q : VK} (h : tG X.K cl (Rep X.K) EK (mChain g g' ma mb mc) σ H Q) :
    tChain r r' (tG X.K cl (Rep X.K) EK ma) (tG X.K cl (Rep X.K) EK mb) (tG X.K cl (Rep X.K) EK mc) σ H Q :=
  tG_imp (tG_bind h) fun x H1 hk => tG_imp (tK_bind rep_mono hk) fun y H2 ⟨s, σd, u, v, e, ok, re, ru, rv, p⟩ => by
    subst e
    refine hr EK s x y u v _ ok ru rv (post_bind p fun s' z d ex ok' rz p' => ?_)
    cases rz with
    | bl k =>
      refine ⟨k, rfl, ?_⟩
      cases k with
      | true =>
        exact iteT (tG_imp (tK_bind (k := fun v x σd w => g' v x w) (m := mc) rep_mono ⟨s', σd, v, rfl, ok', re.mono ok ex, rv.mono ok ex, p'⟩) fun z' H4 ⟨s2, σ2, v2, x2, e2, ok2, _, r2, r3, p2⟩ => by
          subst e2
          exact hr' EK s2 y z' v2 x2 Q ok2 r2 r3 p2)
      | false => exact iteF (post_here ok' p' (.bl false))
    | _ => exact p'.elim
theorem se_chain {op op' : CmpOp} (ho : OpR X (compareOp op) r) (ho' : OpR X (compareOp op') r') (hr : GR X.K cl g r) (hr' : GR X.K cl g' r') (ha : SE X cl EK a ma) (hb : SE X cl EK b mb) (hc : SE X cl EK c mc)
    (hm : lastMarks [op, op'] [b, c] = false := by with_unfolding_all rfl) : SE X cl EK (.Compare a [op, op'] [b, c] pos) (mChain g g' ma mb mc) :=
  PE.weak (pe_chain ho ho' ha hb hc hm) fun σ H Q h => chain_core hr hr' h
theorem post_asB {s : S} {r : R D} {Q : Bool → Hp → Prop} (p : Post X.K cl repB EK s (r.bind fun d w1 => match d with | .bl b => .ok b w1 | _ => .stuck) Q) : Post X.K cl (Rep X.K) EK s r fun x H' => ∃ k, x = .bl k ∧ Q k H' :=
  post_bind p fun s' v d ex ok' rd p' => by
    cases rd with
    | bl k => exact ⟨k, rfl, p' s' k (Ext.refl s') ok' rfl rfl⟩
    | _ => exact p'.elim
theorem st_chain {op op' : CmpOp} (ho : OpR X (compareOp op) r) (ho' : OpR X (compareOp op') r') (hr : GR X.K cl g r) (hr' : GR X.K cl g' r') (ha : SE X cl EK a ma) (hb : SE X cl EK b mb) (hc : SE X cl EK c mc)
    (hm : lastMarks [op, op'] [b, c] = false := by with_unfolding_all rfl) : ST X cl EK (.Compare a [op, op'] [b, c] pos) (asB (mChain g g' ma mb mc)) :=
  PT.weak (pt_chain ho ho' ha hb hc hm) fun σ H Q ⟨s, σd, e, ok, re, p⟩ => by
    subst e
    exact chain_core hr hr' ⟨s, σd, rfl, ok, re, post_asB p⟩
theorem se_one {op} (ha : SE X cl EK a ma) : SE X cl EK (.BoolOp op [a] pos) ma := pe_one ha
theorem se_and (ha : SE X cl EK a ma) (hb : SE X cl EK (.BoolOp .And (b :: rest) pos) mb) : SE X cl EK (.BoolOp .And (a :: b :: rest) pos) (mAnd ma mb) :=
  PE.weak (pe_andT ha hb) fun σ H Q h => tG_imp (tG_bind h) fun x H1 ⟨s, σd, u, e, ok, re, ru, p⟩ => by
    subst e
    dsimp only at p
    split at p
    · rename_i e2
      exact ⟨true, tru_of ok ru e2, iteT (tG_of ok re p)⟩
    · rename_i e2
      exact ⟨false, tru_of ok ru e2, iteF (post_here ok p ru)⟩
    · exact p.elim
theorem se_or (ha : SE X cl EK a ma) (hb : SE X cl EK (.BoolOp .Or (b :: rest) pos) mb) : SE X cl EK (.BoolOp .Or (a :: b :: rest) pos) (mOr ma mb) :=
  PE.weak (pe_orT ha hb) fun σ H Q h => tG_imp (tG_bind h) fun x H1 ⟨s, σd, u, e, ok, re, ru, p⟩ => by
    subst e
    dsimp only at p
    split at p
    · rename_i e2
      exact ⟨true, tru_of ok ru e2, iteT (post_here ok p ru)⟩
    · rename_i e2
      exact ⟨false, tru_of ok ru e2, iteF (tG_of ok re p)⟩
    · exact p.elim
theorem se_not (ha : SE X cl EK a ma) : SE X cl EK (.UnaryOp .Not a pos) (mNot ma) :=
  PE.weak (pe_notT ha) fun σ H Q h => tG_imp (tG_bind h) fun x H1 ⟨s, σd, u, e, ok, re, ru, p⟩ => by
    subst e
    dsimp only at p
    split at p
    · rename_i k e2
      exact ⟨k, tru_of ok ru e2, post_here ok p (.bl _)⟩
    · exact p.elim
theorem se_neg (ha : SE X cl EK a ma) : SE X cl EK (.UnaryOp .USub a pos) (mNeg ma) :=
  PE.weak (pe_un un_neg ha) fun σ H Q h => tG_imp (tG_bind h) fun x H1 ⟨s, σd, u, e, ok, re, ru, p⟩ => by
    subst e
    dsimp only at p
    split at p
    · rename_i i
      rw [rep_int ru]
      exact ⟨i, rfl, post_here ok p (.int _)⟩
    · exact p.elim
theorem st_truth (ha : SE X cl EK a ma) (he : ∀ whole, isTrue a X.env whole = (do let v ← whole; standAt a.pos; holding [v] (truthy v))) : ST X cl EK a (mTru ma) :=
  PT.weak (pt_truth ha he) fun σ H Q h => tG_imp (tG_bind h) fun x H1 ⟨s, σd, u, e, ok, re, ru, p⟩ => by
    subst e
    dsimp only at p
    split at p
    · rename_i k e2
      exact ⟨k, tru_of ok ru e2, p s k (Ext.refl s) ok rfl rfl⟩
    · exact p.elim
/-- a test within and, or -/
def SW (X : Cx) (cl : Str → Option Addr) (EK : XK) (e : Expr) (m : En → Wd → R Bool) : Prop := PW X e (tG X.K cl repB EK m)
theorem PW.weak {e : Expr} {t t' : TT} (h : PW X e t) (i : ∀ σ H Q, t' σ H Q → t σ H Q) : PW X e t' := ⟨fun wh pins s σ H Q I q => h.run wh pins s σ H Q I (i σ H Q q)⟩
theorem st_of {e : Expr} (h : SW X cl EK e na) : ST X cl EK e na := PW.pt h
theorem sw_and1 (ha : ST X cl EK a na) : SW X cl EK (.BoolOp .And [a] pos) na := pw_and1 ha
theorem sw_or1 (ha : ST X cl EK a na) : SW X cl EK (.BoolOp .Or [a] pos) na := pw_or1 ha
theorem tB_core {σ : L2.St} {H : Hp} {Q : Bool → Hp → Prop} {k : Bool → En → Wd → R Bool} {T : Bool → L2.St → Hp → Prop} (h : tG X.K cl repB EK (fun σd w => (na σd w).bind fun b w1 => k b σd w1) σ H Q)
    (i : ∀ b s σd, Ok X.K cl s → RepE X.K s σ σd → Post X.K cl repB EK s (k b σd s.w) Q → T b σ s.H) : tG X.K cl repB EK na σ H fun b H1 => T b σ H1 :=
  tG_imp (tG_bind h) fun x H1 ⟨s, σd, u, e, ok, re, ru, p⟩ => by
    subst e
    cases ru
    exact i x s σd ok re p
theorem sw_and (ha : ST X cl EK a na) (hb : SW X cl EK (.BoolOp .And (b :: rest) pos) nb) : SW X cl EK (.BoolOp .And (a :: b :: rest) pos) (bAnd na nb) :=
  PW.weak (pw_and ha hb) fun σ H Q h => tB_core (k := fun b σd w => match b with | true => nb σd w | false => .ok false w) (T := fun c σ H1 => if c = true then tG X.K cl repB EK nb σ H1 Q else Q false H1) h fun k s σd ok re p => by
    cases k with
    | true => exact iteT (tG_of ok re p)
    | false => exact iteF (p s false (Ext.refl s) ok rfl rfl)
theorem sw_or (ha : ST X cl EK a na) (hb : SW X cl EK (.BoolOp .Or (b :: rest) pos) nb) : SW X cl EK (.BoolOp .Or (a :: b :: rest) pos) (bOr na nb) :=
  PW.weak (pw_or ha hb) fun σ H Q h => tB_core (k := fun b σd w => match b with | true => .ok true w | false => nb σd w) (T := fun c σ H1 => if c = true then Q true H1 else tG X.K cl repB EK nb σ H1 Q) h fun k s σd ok re p => by
    cases k with
    | true => exact iteT (p s true (Ext.refl s) ok rfl rfl)
    | false => exact iteF (tG_of ok re p)
theorem st_not (ha : ST X cl EK a na) : ST X cl EK (.UnaryOp .Not a pos) (bNot na) :=
  PT.weak (pt_not ha) fun σ H Q h => tB_core (k := fun b σd w => .ok (!b) w) (T := fun c σ H1 => Q (!c) H1) h fun k s σd ok re p => p s (!k) (Ext.refl s) ok rfl rfl
theorem se_if (hc : ST X cl EK c nc) (ha : SE X cl EK a ma) (hb : SE X cl EK b mb) : SE X cl EK (.IfExp c a b pos) (mIf nc ma mb) :=
  PE.weak (pe_ifExp hc ha hb) fun σ H Q h => tG_imp (tG_bind (rep := repB) h) fun x H1 ⟨s, σd, u, e, ok, re, ru, p⟩ => by
    subst e
    cases ru
    cases x with
    | true => exact iteT (tG_of ok re p)
    | false => exact iteF (tG_of ok re p)
/-! ### argument lists, displays -/
variable {mas : En → Wd → R (List D)}
theorem sa_nil : SA X cl EK [] aNil := PA.weak pa_nil fun σ H Q h => by
  obtain ⟨s, σd, e, ok, re, p⟩ := h
  subst e
  exact p s [] (Ext.refl s) ok rfl .nil
theorem sa_cons (ha : SE X cl EK a ma) (hr : SA X cl EK es mas) (hs : starEach (a :: es) X.env = (false, eval a X.env) :: starEach es X.env := by rfl) : SA X cl EK (a :: es) (aCons ma mas) :=
  PA.weak (pa_cons ha hr hs) fun σ H Q h => tG_imp (tG_bind h) fun x H1 hk => tG_imp (tK_bind rep_mono hk) fun y H2 ⟨s, σd, u, v, e, ok, re, ru, rv, p⟩ => by
    subst e
    exact p s (x :: y) (Ext.refl s) ok rfl (.cons ru rv)
theorem se_tup {k : Nat} (h : SA X cl EK es mas) : SE X cl EK (.Tuple es k pos) (mTup mas) :=
  PE.weak (pe_tup h) fun σ H Q h => tG_imp (tG_bind h) fun x H1 ⟨s, σd, u, e, ok, re, ru, p⟩ => by
    subst e
    dsimp only at p
    split at p
    · rename_i hl
      exact ⟨by rw [ru.length, sizeLine_eq]; exact hl, post_newT ok p ru⟩
    · exact p.elim
theorem se_lst (h : SA X cl EK es mas) : SE X cl EK (.List es pos) (mLst mas) :=
  PE.weak (pe_lst h) fun σ H Q h => tG_imp (tG_bind h) fun x H1 ⟨s, σd, u, e, ok, re, ru, p⟩ => by
    subst e
    dsimp only at p
    split at p
    · rename_i hl
      exact ⟨by rw [ru.length, sizeLine_eq]; exact hl, post_newL ok p ru⟩
    · exact p.elim
theorem rep_cell {s : S} {q : Addr} {o : HO} {m : MO} (ok : Ok X.K cl s) : Rep X.K (s.cell q o m) (.ref q) (.obj s.w.length) := .obj (by
  show (s.ρ ++ [q])[s.w.length]? = some q
  rw [← ok.len, List.getElem?_append_right (Nat.le_refl _), Nat.sub_self]
  rfl)
theorem post_cellL {s : S} {vs : List V} {ds : List D} {Q : VK} (ok : Ok X.K cl s) (p : Post X.K cl (Rep X.K) EK s (.ok (.obj s.w.length) (s.w ++ [.lst ds])) Q) (r : RepA X.K s vs ds) : ∀ q, s.H q = none → Q (.ref q) (upd s.H q (.lst vs)) := fun q hq => by
  have ex : Ext s (s.cell q (.lst vs) (.lst ds)) := S.cell_ext ok hq
  exact p (s.cell q (.lst vs) (.lst ds)) _ ex (S.cell_ok ok hq ⟨vs, upd_same, r.mono ok ex⟩) rfl (rep_cell ok)
theorem se_lstM (h : SA X cl EK es mas) : SE X cl EK (.List es pos) (mLstM mas) :=
  PE.weak (pe_lst h) fun σ H Q h => tG_imp (tG_bind h) fun x H1 ⟨s, σd, u, e, ok, re, ru, p⟩ => by
    subst e
    dsimp only at p
    split at p
    · rename_i hl
      exact ⟨by rw [ru.length, sizeLine_eq]; exact hl, post_cellL ok p ru⟩
    · exact p.elim
end
end Si

set_option Elab.async false
set_option linter.all false
set_option autoImplicit false
set_option maxRecDepth 100000
set_option maxHeartbeats 4000000
/-! Si5: subscripts, slices, built-ins, isinstance. -/
namespace Si
open PySem L2
section
variable {K : PySem.W.Frag} {cl : Str → Option Addr} {s : S} {EK : XK}
/-! ### a[i] -/
def gIx : D → D → Wd → R D := fun u v w => match v with
  | .int i => match u with
    | .str z => if z.length ≤ 16777216 then (match atI z.cps.toList i with | some c => .ok (.str ⟨#[c]⟩) w | none => .stuck) else .stuck
    | .tup ds => match atI ds i with | some d => .ok d w | none => .stuck
    | u => match derefL u w with
      | some ds => match atI ds i with | some d => .ok d w | none => .stuck
      | none => .stuck
  | _ => .stuck
theorem atI_rep {vs : List V} {ds : List D} {i : Int} {d : D} (r : RepA K s vs ds) (h : atI ds i = some d) : ∃ v, atI vs i = some v ∧ Rep K s v d := by
  unfold atI at h ⊢
  rw [r.length]
  cases e : ixN ds.length i with
  | none => rw [e] at h; cases h
  | some j =>
    rw [e] at h
    obtain ⟨v, a, b⟩ := r.get (i := j) h
    exact ⟨v, a, b⟩
theorem gr_ix : GR K cl gIx (rIx K) := by
  intro EK s x y u v Q ok ru rv p
  unfold gIx at p
  split at p
  · rename_i i
    rw [rep_int rv]
    split at p
    · rename_i z
      rw [rep_str ru]
      split at p
      · rename_i hz
        split at p
        · rename_i c hc
          exact .inr (.inr ⟨z, i, c, rfl, rfl, by rw [sizeLine_eq]; exact hz, hc, post_here ok p (.str _)⟩)
        · exact p.elim
      · exact p.elim
    · rename_i ds
      obtain ⟨a, vs, rfl, h1, r⟩ := rep_tup ru
      split at p
      · rename_i d hd
        obtain ⟨w, h2, h3⟩ := atI_rep r hd
        exact .inr (.inl ⟨a, vs, i, w, rfl, rfl, h1, h2, post_here ok p h3⟩)
      · exact p.elim
    · split at p
      · rename_i ds hl
        obtain ⟨a, vs, rfl, h1, r⟩ := deref_of ok ru hl
        split at p
        · rename_i d hd
          obtain ⟨w, h2, h3⟩ := atI_rep r hd
          exact .inl ⟨a, vs, i, w, rfl, rfl, SqL.of h1, h2, post_here ok p h3⟩
        · exact p.elim
      · exact p.elim
  · exact p.elim
/-! ### a[i:j] -/
def cutD {α : Type} (xs : List α) (lo hi : Option Int) : List α := (xs.drop (HT.sIx xs.length 0 lo)).take (HT.sIx xs.length xs.length hi - HT.sIx xs.length 0 lo)
theorem cut_rep {vs : List V} {ds : List D} (r : RepA K s vs ds) (lo hi : Option Int) : RepA K s (cutV vs lo hi) (cutD ds lo hi) := by
  unfold cutV cutD
  rw [r.length]
  exact (r.drop _).take _
def gSl : D → Option Int → Option Int → Wd → R D := fun u lo hi w => match u with
  | .str z => if z.length ≤ 16777216 then .ok (.str (cutS z lo hi)) w else .stuck
  | .tup ds => .ok (.tup (cutD ds lo hi)) w
  | .scr ns => .ok (.lst ((cutD ns lo hi).map D.int)) w
  | u => match derefL u w with
    | some ds => .ok (.lst (cutD ds lo hi)) w
    | none => .stuck
def rSl (K : PySem.W.Frag) : V → Option Int → Option Int → Hp → VK → Prop := fun x lo hi H Q => rSlL K x lo hi H Q ∨ (rSlA K x lo hi H Q ∨ rSlS x lo hi H Q)
theorem repA_ints (ns : List Int) : RepA K s (ns.map V.int) (ns.map D.int) := by
  induction ns with
  | nil => exact .nil
  | cons n r ih => exact .cons (.int n) ih
theorem cut_all {α : Type} {xs : List α} {lo hi : Option Int} (h : HT.sIx xs.length 0 lo = 0 ∧ HT.sIx xs.length xs.length hi = xs.length) : cutD xs lo hi = xs := by
  unfold cutD
  rw [h.1, h.2, List.drop_zero, Nat.sub_zero, List.take_length]
theorem sl_core {x : V} {u : D} {lo hi : Option Int} {Q : VK} (ok : Ok K cl s) (ru : Rep K s x u) (p : Post K cl (Rep K) EK s (gSl u lo hi s.w) Q) : rSl K x lo hi s.H Q := by
  unfold gSl at p
  split at p
  · rename_i z
    rw [rep_str ru]
    split at p
    · rename_i hz
      exact .inr (.inr ⟨z, rfl, by rw [sizeLine_eq]; exact hz, post_here ok p (.str _)⟩)
    · exact p.elim
  · rename_i ds
    have ru' := ru
    obtain ⟨a, vs, rfl, h1, r⟩ := rep_tup ru
    refine .inr (.inl ⟨a, vs, rfl, h1, fun hw => ?_, fun _ => post_newT ok p (cut_rep r lo hi)⟩)
    rw [r.length] at hw
    rw [cut_all hw] at p
    exact post_here ok p ru'
  · rename_i ns
    cases ru with
    | scr hH =>
      refine .inl ⟨_, ns.map V.int, rfl, SqL.ofS hH, ?_⟩
      have e : cutV (ns.map V.int) lo hi = (cutD ns lo hi).map V.int := by
        unfold cutV cutD
        rw [List.length_map, ← List.map_drop, ← List.map_take]
      rw [e]
      exact post_newL ok p (repA_ints _)
  · split at p
    · rename_i ds hl
      obtain ⟨a, vs, rfl, h1, r⟩ := deref_of ok ru hl
      exact .inl ⟨a, vs, rfl, SqL.of h1, post_newL ok p (cut_rep r lo hi)⟩
    · exact p.elim
/-! ### built-ins -/
def GC (K : PySem.W.Frag) (cl : Str → Option Addr) (g : List D → Wd → R D) (r : List V → Hp → VK → Prop) : Prop :=
  ∀ (EK : XK) (s : S) (xs : List V) (us : List D) (Q : VK), Ok K cl s → RepA K s xs us → Post K cl (Rep K) EK s (g us s.w) Q → r xs s.H Q
theorem repA1 {xs : List V} {u : D} (r : RepA K s xs [u]) : ∃ x, xs = [x] ∧ Rep K s x u := by
  cases r with
  | cons h r => cases r; exact ⟨_, rfl, h⟩
theorem repA2 {xs : List V} {u v : D} (r : RepA K s xs [u, v]) : ∃ x y, xs = [x, y] ∧ Rep K s x u ∧ Rep K s y v := by
  cases r with
  | cons h r =>
    obtain ⟨y, rfl, h2⟩ := repA1 r
    exact ⟨_, y, rfl, h, h2⟩
def gLen : List D → Wd → R D := fun us w => match us with
  | [.str z] => if z.length ≤ 16777216 then .ok (.int z.length) w else .stuck
  | [.tup ds] => .ok (.int ds.length) w
  | [u] => match derefL u w with
    | some ds => .ok (.int ds.length) w
    | none => .stuck
  | _ => .stuck
def rLn (K : PySem.W.Frag) : List V → Hp → VK → Prop := fun xs H Q => ∃ x n, xs = [x] ∧ LenV K x H n ∧ Q (.int n) H
theorem gc_len : GC K cl gLen (rLn K) := by
  intro EK s xs us Q ok r p
  unfold gLen at p
  split at p
  · rename_i z
    obtain ⟨x, rfl, h⟩ := repA1 r
    rw [rep_str h]
    split at p
    · rename_i hz
      exact ⟨_, _, rfl, ⟨by rw [sizeLine_eq]; exact hz, rfl⟩, post_here ok p (.int _)⟩
    · exact p.elim
  · rename_i ds
    obtain ⟨x, rfl, h⟩ := repA1 r
    obtain ⟨a, vs, rfl, h1, r1⟩ := rep_tup h
    exact ⟨_, ds.length, rfl, .inr ⟨vs, h1, r1.length.symm⟩, post_here ok p (.int _)⟩
  · rename_i u _ _
    obtain ⟨x, rfl, h⟩ := repA1 r
    split at p
    · rename_i ds hl
      obtain ⟨a, vs, rfl, h1, r1⟩ := deref_of ok h hl
      exact ⟨_, ds.length, rfl, .inl ⟨vs, SqL.of h1, r1.length.symm⟩, post_here ok p (.int _)⟩
    · exact p.elim
  · exact p.elim
def gInt : List D → Wd → R D := fun us w => match us with
  | [.int i] => .ok (.int i) w
  | [.bl k] => .ok (.int (if k then 1 else 0)) w
  | _ => .stuck
def rInt1 : List V → Hp → VK → Prop := fun xs H Q => (∃ i, xs = [.int i] ∧ Q (.int i) H) ∨ ∃ k, xs = [.bl k] ∧ Q (.int (if k then 1 else 0)) H
theorem gc_int : GC K cl gInt rInt1 := by
  intro EK s xs us Q ok r p
  unfold gInt at p
  split at p
  · obtain ⟨x, rfl, h⟩ := repA1 r
    rw [rep_int h]
    exact .inl ⟨_, rfl, post_here ok p (.int _)⟩
  · obtain ⟨x, rfl, h⟩ := repA1 r
    rw [rep_bl h]
    exact .inr ⟨_, rfl, post_here ok p (.int _)⟩
  · exact p.elim
def gAbs : List D → Wd → R D := fun us w => match us with
  | [.int i] => .ok (.int (if i < 0 then -i else i)) w
  | _ => .stuck
def rAbs1 : List V → Hp → VK → Prop := fun xs H Q => ∃ i, xs = [.int i] ∧ Q (.int (if i < 0 then -i else i)) H
theorem gc_abs : GC K cl gAbs rAbs1 := by
  intro EK s xs us Q ok r p
  unfold gAbs at p
  split at p
  · obtain ⟨x, rfl, h⟩ := repA1 r
    rw [rep_int h]
    exact ⟨_, rfl, post_here ok p (.int _)⟩
  · exact p.elim
def gMax2 : List D → Wd → R D := fun us w => match us with
  | [.int i, .int j] => .ok (.int (if j > i then j else i)) w
  | _ => .stuck
def gMin2 : List D → Wd → R D := fun us w => match us with
  | [.int i, .int j] => .ok (.int (if j < i then j else i)) w
  | _ => .stuck
def rMx2 : List V → Hp → VK → Prop := fun xs H Q => ∃ i j, xs = [.int i, .int j] ∧ Q (.int (if j > i then j else i)) H
def rMn2 : List V → Hp → VK → Prop := fun xs H Q => ∃ i j, xs = [.int i, .int j] ∧ Q (.int (if j < i then j else i)) H
theorem gc_max2 : GC K cl gMax2 rMx2 := by
  intro EK s xs us Q ok r p
  unfold gMax2 at p
  split at p
  · obtain ⟨x, y, rfl, h, h2⟩ := repA2 r
    rw [rep_int h, rep_int h2]
    exact ⟨_, _, rfl, post_here ok p (.int _)⟩
  · exact p.elim
theorem gc_min2 : GC K cl gMin2 rMn2 := by
  intro EK s xs us Q ok r p
  unfold gMin2 at p
  split at p
  · obtain ⟨x, y, rfl, h, h2⟩ := repA2 r
    rw [rep_int h, rep_int h2]
    exact ⟨_, _, rfl, post_here ok p (.int _)⟩
  · exact p.elim
/-- list(..), tuple(..) of a list or tuple: new ones -/
def gTupOf : List D → Wd → R D := fun us w => match us with
  | [.tup ds] => .ok (.tup ds) w
  | [u] => match derefL u w with
    | some ds => .ok (.tup ds) w
    | none => .stuck
  | _ => .stuck
def rTupOf (K : PySem.W.Frag) : List V → Hp → VK → Prop := fun xs H Q => ∃ p ys, xs = [.ref p] ∧ ((SqL K H p ys ∧ ∀ l, H l = none → Q (.ref l) (upd H l (.tup ys))) ∨ (SqT K H p ys ∧ Q (.ref p) H))
theorem gc_tupOf : GC K cl gTupOf (rTupOf K) := by
  intro EK s xs us Q ok r p
  unfold gTupOf at p
  split at p
  · obtain ⟨x, rfl, h⟩ := repA1 r
    have h' := h
    obtain ⟨a, vs, rfl, h1, r1⟩ := rep_tup h
    exact ⟨a, vs, rfl, .inr ⟨h1, post_here ok p h'⟩⟩
  · obtain ⟨x, rfl, h⟩ := repA1 r
    split at p
    · rename_i ds hl
      obtain ⟨a, vs, rfl, h1, r1⟩ := deref_of ok h hl
      exact ⟨a, vs, rfl, .inl ⟨SqL.of h1, post_newT ok p r1⟩⟩
    · exact p.elim
  · exact p.elim
def seqD (u : D) (w : Wd) : Option (List D) := match u with
  | .tup ds => some ds
  | u => derefL u w
theorem seq_of {v : V} {u : D} {ds : List D} (ok : Ok K cl s) (r : Rep K s v u) (h : seqD u s.w = some ds) : ∃ a vs, v = .ref a ∧ (SqL K s.H a vs ∨ SqT K s.H a vs) ∧ RepA K s vs ds := by
  unfold seqD at h
  split at h
  · cases h
    obtain ⟨a, vs, e, h1, h2⟩ := rep_tup r
    exact ⟨a, vs, e, .inr h1, h2⟩
  · obtain ⟨a, vs, e, h1, h2⟩ := deref_of ok r h
    exact ⟨a, vs, e, .inl (SqL.of h1), h2⟩
def gLstOf : List D → Wd → R D := fun us w => match us with
  | [u] => match seqD u w with
    | some ds => .ok (.lst ds) w
    | none => .stuck
  | _ => .stuck
def gLstOfM : List D → Wd → R D := fun us w => match us with
  | [u] => match seqD u w with
    | some ds => .ok (.obj w.length) (w ++ [.lst ds])
    | none => .stuck
  | _ => .stuck
def rLstOf (K : PySem.W.Frag) : List V → Hp → VK → Prop := fun xs H Q => ∃ p ys, xs = [.ref p] ∧ (SqL K H p ys ∨ SqT K H p ys) ∧ ∀ l, H l = none → Q (.ref l) (upd H l (.lst ys))
theorem gc_lstOf : GC K cl gLstOf (rLstOf K) := by
  intro EK s xs us Q ok r p
  unfold gLstOf at p
  split at p
  · obtain ⟨x, rfl, h⟩ := repA1 r
    split at p
    · rename_i ds hl
      obtain ⟨a, vs, rfl, h1, r1⟩ := seq_of ok h hl
      exact ⟨a, vs, rfl, h1, post_newL ok p r1⟩
    · exact p.elim
  · exact p.elim
/-- all, any of a list of bools; sum of a list of ints -/
def blA : List D → Option (List Bool)
  | [] => some []
  | .bl b :: r => (blA r).map (b :: ·)
  | _ :: _ => none
def inA : List D → Option (List Int)
  | [] => some []
  | .int b :: r => (inA r).map (b :: ·)
  | _ :: _ => none
theorem blA_of : ∀ {vs : List V} {ds : List D} {bs : List Bool}, RepA K s vs ds → blA ds = some bs → vs = bs.map V.bl
  | _, _, _, .nil, h => by cases h; rfl
  | _, _, bs, .cons (d := d) h r, e => by
    cases h with
    | bl b =>
      rw [blA] at e
      cases q : blA _ with
      | none => rw [q] at e; cases e
      | some l =>
        rw [q] at e
        cases e
        rw [blA_of r q]
        rfl
    | _ => cases e
theorem inA_of : ∀ {vs : List V} {ds : List D} {bs : List Int}, RepA K s vs ds → inA ds = some bs → vs = bs.map V.int
  | _, _, _, .nil, h => by cases h; rfl
  | _, _, bs, .cons (d := d) h r, e => by
    cases h with
    | int b =>
      rw [inA] at e
      cases q : inA _ with
      | none => rw [q] at e; cases e
      | some l =>
        rw [q] at e
        cases e
        rw [inA_of r q]
        rfl
    | _ => cases e
def gAll : List D → Wd → R D := fun us w => match us with
  | [u] => match (derefL u w).bind blA with
    | some bs => .ok (.bl (bs.all id)) w
    | none => .stuck
  | _ => .stuck
def gAny : List D → Wd → R D := fun us w => match us with
  | [u] => match (derefL u w).bind blA with
    | some bs => .ok (.bl (bs.any id)) w
    | none => .stuck
  | _ => .stuck
def gSum : List D → Wd → R D := fun us w => match us with
  | [u] => match (derefL u w).bind inA with
    | some ns => .ok (.int ns.sum) w
    | none => .stuck
  | _ => .stuck
theorem bl_deref {v : V} {u : D} {bs : List Bool} (ok : Ok K cl s) (r : Rep K s v u) (h : (derefL u s.w).bind blA = some bs) : ∃ a, v = .ref a ∧ SqL K s.H a (bs.map V.bl) := by
  cases q : derefL u s.w with
  | none => rw [q] at h; cases h
  | some ds =>
    rw [q] at h
    obtain ⟨a, vs, e, h1, r1⟩ := deref_of ok r q
    rw [blA_of r1 h] at h1
    exact ⟨a, e, SqL.of h1⟩
theorem in_deref {v : V} {u : D} {bs : List Int} (ok : Ok K cl s) (r : Rep K s v u) (h : (derefL u s.w).bind inA = some bs) : ∃ a, v = .ref a ∧ SqL K s.H a (bs.map V.int) := by
  cases q : derefL u s.w with
  | none => rw [q] at h; cases h
  | some ds =>
    rw [q] at h
    obtain ⟨a, vs, e, h1, r1⟩ := deref_of ok r q
    rw [inA_of r1 h] at h1
    exact ⟨a, e, SqL.of h1⟩
theorem gc_all : GC K cl gAll (rAll K) := by
  intro EK s xs us Q ok r p
  unfold gAll at p
  split at p
  · obtain ⟨x, rfl, h⟩ := repA1 r
    split at p
    · rename_i bs hl
      obtain ⟨a, rfl, h1⟩ := bl_deref ok h hl
      exact ⟨a, bs, rfl, h1, post_here ok p (.bl _)⟩
    · exact p.elim
  · exact p.elim
theorem gc_any : GC K cl gAny (rAny K) := by
  intro EK s xs us Q ok r p
  unfold gAny at p
  split at p
  · obtain ⟨x, rfl, h⟩ := repA1 r
    split at p
    · rename_i bs hl
      obtain ⟨a, rfl, h1⟩ := bl_deref ok h hl
      exact ⟨a, bs, rfl, h1, post_here ok p (.bl _)⟩
    · exact p.elim
  · exact p.elim
theorem gc_sum : GC K cl gSum (rSum K) := by
  intro EK s xs us Q ok r p
  unfold gSum at p
  split at p
  · obtain ⟨x, rfl, h⟩ := repA1 r
    split at p
    · rename_i bs hl
      obtain ⟨a, rfl, h1⟩ := in_deref ok h hl
      exact ⟨a, bs, rfl, h1, post_here ok p (.int _)⟩
    · exact p.elim
  · exact p.elim
/-! ### isinstance with built-in types -/
def tyD (u : D) (w : Wd) : Option String := match u with
  | .non => some "NoneType"
  | .bl _ => some "bool"
  | .int _ => some "int"
  | .str _ => some "str"
  | .lst _ => some "list"
  | .tup _ => some "tuple"
  | .scr _ => some "list"
  | .obj n => match w[n]? with
    | some (.lst _) => some "list"
    | _ => none
def isB (t T : String) : Bool := t == T || (t == "bool" && T == "int")
theorem tyD_of {v : V} {u : D} {t : String} (ok : Ok K cl s) (r : Rep K s v u) (h : tyD u s.w = some t) : TyX K s.H v (.type t) := by
  cases r with
  | non => cases h; exact .base .non
  | bl b => cases h; exact .base (.bl b)
  | int i => cases h; exact .base (.int i)
  | str z => cases h; exact .base (.str z)
  | lst hF hH rr => cases h; exact .base (.lst hH)
  | tup hH rr =>
    cases h
    rcases hH with ⟨_, hH⟩ | ⟨o, its, n, h1, h2, _⟩
    · exact .base (.tup hH)
    · exact .kTuple h1 h2
  | obj hn =>
    rename_i a n
    unfold tyD at h
    dsimp only at h
    split at h
    · rename_i ds hw
      cases h
      obtain ⟨vs, h1, h2⟩ := ok.cell n _ _ hn hw
      exact .base (.lst h1)
    · cases h
  | scr hH =>
    cases h
    rcases hH with ⟨_, o, hH⟩ | ⟨o, its, n, h1, h2, _⟩
    · exact .base (.frz hH)
    · exact .kList h1 h2
theorem kit_isB {t : String} {u : D} {w : Wd} (h : tyD u w = some t) {T : String} (hT : T = "int" ∨ T = "bool" ∨ T = "str" ∨ T = "list" ∨ T = "tuple") : kitB t T = some (isB t T) := by
  have ht : t = "NoneType" ∨ t = "bool" ∨ t = "int" ∨ t = "str" ∨ t = "list" ∨ t = "tuple" := by
    unfold tyD at h
    split at h
    all_goals first
      | (cases h; simp; done)
      | (split at h <;> first | (cases h; simp; done) | (cases h; done))
  rcases ht with rfl | rfl | rfl | rfl | rfl | rfl <;> rcases hT with rfl | rfl | rfl | rfl | rfl <;> decide +kernel
end
def mIsi (T : String) (ma : En → Wd → R D) : En → Wd → R D := fun σd w => (ma σd w).bind fun u w1 => match tyD u w1 with
  | some t => .ok (.bl (isB t T)) w1
  | none => .stuck
def mIsi2 (T T2 : String) (ma : En → Wd → R D) : En → Wd → R D := fun σd w => (ma σd w).bind fun u w1 => match tyD u w1 with
  | some t => .ok (.bl (isB t T || isB t T2)) w1
  | none => .stuck
def mCall (g : List D → Wd → R D) (ma : En → Wd → R (List D)) : En → Wd → R D := fun σd w => (ma σd w).bind fun us w1 => g us w1
section
variable {X : Cx} {cl : Str → Option Addr} {EK : XK} {a b c : Expr} {ma mb mc : En → Wd → R D} {mas : En → Wd → R (List D)} {pos p : Pos} {es : List Expr} {g : List D → Wd → R D} {r : List V → Hp → VK → Prop} {x : Str} {id : String}
theorem se_ix (ha : SE X cl EK a ma) (hb : SE X cl EK b mb) (hs : PlainIx b) : SE X cl EK (.Subscript a b pos) (mOp gIx ma mb) := PE.weak (pe_ix ix_seq ha hb hs) fun σ H Q h => op_core gr_ix h
/-! the parts of a slice -/
abbrev repI : S → Option Int → Option Int → Prop := fun _ a b => a = b
def SO (X : Cx) (cl : Str → Option Addr) (EK : XK) (e : Option Expr) (m : En → Wd → R (Option Int)) : Prop := PO X e (tG X.K cl repI EK m)
theorem PO.weak {e : Option Expr} {t t' : TO} (h : PO X e t) (i : ∀ σ H Q, t' σ H Q → t σ H Q) : PO X e t' := ⟨fun pins s σ H Q I q => h.run pins s σ H Q I (i σ H Q q)⟩
def oNone : En → Wd → R (Option Int) := fun _ w => .ok none w
def oSome (ma : En → Wd → R D) : En → Wd → R (Option Int) := fun σd w => (ma σd w).bind fun u w1 => match u with | .int i => .ok (some i) w1 | _ => .stuck
theorem so_none : SO X cl EK none oNone := PO.weak po_none fun σ H Q h => by
  obtain ⟨s, σd, e, ok, re, p⟩ := h
  subst e
  exact p s none (Ext.refl s) ok rfl rfl
theorem so_some (ha : SE X cl EK a ma) : SO X cl EK (some a) (oSome ma) := PO.weak (po_some ha) fun σ H Q h => tG_imp (tG_bind h) fun x H1 ⟨s, σd, u, e, ok, re, ru, p⟩ => by
  subst e
  dsimp only at p
  split at p
  · rename_i i
    rw [rep_int ru]
    exact ⟨i, rfl, p s (some i) (Ext.refl s) ok rfl rfl⟩
  · exact p.elim
def mSl (ma : En → Wd → R D) (ml mh : En → Wd → R (Option Int)) : En → Wd → R D := fun σd w => (ma σd w).bind fun u w1 => (ml σd w1).bind fun lo w2 => (mh σd w2).bind fun hi w3 => gSl u lo hi w3
theorem sl_all : SlR X (rSl X.K) := SlR.or sl_list (SlR.or sl_tupA sl_str)
theorem se_slice {lo hi : Option Expr} {ml mh : En → Wd → R (Option Int)} {p2 : Pos} (ha : SE X cl EK a ma) (hl : SO X cl EK lo ml) (hh : SO X cl EK hi mh) : SE X cl EK (.Subscript a (.Slice lo hi none p2) pos) (mSl ma ml mh) :=
  PE.weak (pe_slice sl_all ha hl hh) fun σ H Q h => tG_imp (tG_bind h) fun x H1 hk => tG_imp (tK_bind (rep' := repI) rep_mono hk) fun l H2 ⟨s, σd, u, lo', e, ok, re, ru, rl, p⟩ => by
    subst e
    cases rl
    obtain ⟨s0, σ0, e0, ok0, re0, p0⟩ := tK_bind (rep := Rep X.K) (rep' := repI) (rep'' := Rep X.K) (k := fun u hi _ w => gSl u l hi w) (m := mh) rep_mono ⟨s, σd, u, rfl, ok, re, ru, p⟩
    refine ⟨s0, σ0, e0, ok0, re0, p0.imp fun h3 H3 ⟨s2, σ2, u2, hi2, e2, ok2, _, r2, r3, p2⟩ => ?_⟩
    subst e2
    cases r3
    exact sl_core ok2 r2 p2
/-! calls of built-ins -/
theorem se_call (hc : CallR X (.builtin id) r) (hr : GC X.K cl g r) (hg : Gl X x) (hm : X.mg x = none) (hv : bootBuiltins x = some (.builtin id)) (ha : SA X cl EK (a :: es) mas) (hn : x ≠ "__name__" := by decide) (hdb : (x == ("__debug__" : Str)) = false := by decide) (he : starEach (a :: es) X.env = (false, eval a X.env) :: starEach es X.env := by rfl) (hpl : (backTo pos (starEach es X.env)).any (·.1) = false := by rfl)
    : SE X cl EK (.Call (.Name x p) (a :: es) [] pos) (mCall g mas) :=
  PE.weak (pe_callB hc hg hm hv ha hn hdb he hpl) fun σ H Q h => tG_imp (tG_bind h) fun xs H1 ⟨s, σd, u, e, ok, re, ru, p⟩ => by
    subst e
    exact hr EK s xs u Q ok ru p
theorem se_callT (hc : CallR X (.type id) r) (hr : GC X.K cl g r) (hg : Gl X x) (hm : X.mg x = none) (hv : bootBuiltins x = some (.type id)) (ha : SA X cl EK (a :: es) mas) (hn : x ≠ "__name__" := by decide) (hdb : (x == ("__debug__" : Str)) = false := by decide) (he : starEach (a :: es) X.env = (false, eval a X.env) :: starEach es X.env := by rfl) (hpl : (backTo pos (starEach es X.env)).any (·.1) = false := by rfl)
    : SE X cl EK (.Call (.Name x p) (a :: es) [] pos) (mCall g mas) :=
  PE.weak (pe_callTy hc hg hm hv ha hn hdb he hpl) fun σ H Q h => tG_imp (tG_bind h) fun xs H1 ⟨s, σd, u, e, ok, re, ru, p⟩ => by
    subst e
    exact hr EK s xs u Q ok ru p
theorem se_len (hg : Gl X "len") (hm : X.mg "len" = none) (ha : SA X cl EK (a :: es) mas) (he : starEach (a :: es) X.env = (false, eval a X.env) :: starEach es X.env := by rfl) (hpl : (backTo pos (starEach es X.env)).any (·.1) = false := by rfl) : SE X cl EK (.Call (.Name "len" p) (a :: es) [] pos) (mCall gLen mas) := se_call call_len gc_len hg hm (by decide +kernel) ha (by decide) (by decide) he hpl
theorem se_all (hc : X.calm = true) (hg : Gl X "all") (hm : X.mg "all" = none) (ha : SA X cl EK (a :: es) mas) (he : starEach (a :: es) X.env = (false, eval a X.env) :: starEach es X.env := by rfl) (hpl : (backTo pos (starEach es X.env)).any (·.1) = false := by rfl) : SE X cl EK (.Call (.Name "all" p) (a :: es) [] pos) (mCall gAll mas) := se_call (cr_all hc) gc_all hg hm (by decide +kernel) ha (by decide) (by decide) he hpl
theorem se_any (hc : X.calm = true) (hg : Gl X "any") (hm : X.mg "any" = none) (ha : SA X cl EK (a :: es) mas) (he : starEach (a :: es) X.env = (false, eval a X.env) :: starEach es X.env := by rfl) (hpl : (backTo pos (starEach es X.env)).any (·.1) = false := by rfl) : SE X cl EK (.Call (.Name "any" p) (a :: es) [] pos) (mCall gAny mas) := se_call (cr_any hc) gc_any hg hm (by decide +kernel) ha (by decide) (by decide) he hpl
theorem se_sum (hc : X.calm = true) (hg : Gl X "sum") (hm : X.mg "sum" = none) (ha : SA X cl EK (a :: es) mas) (he : starEach (a :: es) X.env = (false, eval a X.env) :: starEach es X.env := by rfl) (hpl : (backTo pos (starEach es X.env)).any (·.1) = false := by rfl) : SE X cl EK (.Call (.Name "sum" p) (a :: es) [] pos) (mCall gSum mas) := se_call (cr_sum hc) gc_sum hg hm (by decide +kernel) ha (by decide) (by decide) he hpl
theorem se_absC (hg : Gl X "abs") (hm : X.mg "abs" = none) (ha : SA X cl EK (a :: es) mas) (he : starEach (a :: es) X.env = (false, eval a X.env) :: starEach es X.env := by rfl) (hpl : (backTo pos (starEach es X.env)).any (·.1) = false := by rfl) : SE X cl EK (.Call (.Name "abs" p) (a :: es) [] pos) (mCall gAbs mas) := se_call call_abs gc_abs hg hm (by decide +kernel) ha (by decide) (by decide) he hpl
theorem se_max2 (hc : X.calm = true) (hg : Gl X "max") (hm : X.mg "max" = none) (ha : SA X cl EK (a :: es) mas) (he : starEach (a :: es) X.env = (false, eval a X.env) :: starEach es X.env := by rfl) (hpl : (backTo pos (starEach es X.env)).any (·.1) = false := by rfl) : SE X cl EK (.Call (.Name "max" p) (a :: es) [] pos) (mCall gMax2 mas) := se_call (call_max2 hc) gc_max2 hg hm (by decide +kernel) ha (by decide) (by decide) he hpl
theorem se_min2 (hc : X.calm = true) (hg : Gl X "min") (hm : X.mg "min" = none) (ha : SA X cl EK (a :: es) mas) (he : starEach (a :: es) X.env = (false, eval a X.env) :: starEach es X.env := by rfl) (hpl : (backTo pos (starEach es X.env)).any (·.1) = false := by rfl) : SE X cl EK (.Call (.Name "min" p) (a :: es) [] pos) (mCall gMin2 mas) := se_call (call_min2 hc) gc_min2 hg hm (by decide +kernel) ha (by decide) (by decide) he hpl
theorem se_intC (hg : Gl X "int") (hm : X.mg "int" = none) (ha : SA X cl EK (a :: es) mas) (he : starEach (a :: es) X.env = (false, eval a X.env) :: starEach es X.env := by rfl) (hpl : (backTo pos (starEach es X.env)).any (·.1) = false := by rfl) : SE X cl EK (.Call (.Name "int" p) (a :: es) [] pos) (mCall gInt mas) := se_callT call_int1 gc_int hg hm (by decide +kernel) ha (by decide) (by decide) he hpl
theorem se_listC (hg : Gl X "list") (hm : X.mg "list" = none) (ha : SA X cl EK (a :: es) mas) (he : starEach (a :: es) X.env = (false, eval a X.env) :: starEach es X.env := by rfl) (hpl : (backTo pos (starEach es X.env)).any (·.1) = false := by rfl) : SE X cl EK (.Call (.Name "list" p) (a :: es) [] pos) (mCall gLstOf mas) := se_callT call_list_of gc_lstOf hg hm (by decide +kernel) ha (by decide) (by decide) he hpl
theorem se_tupleC (hg : Gl X "tuple") (hm : X.mg "tuple" = none) (ha : SA X cl EK (a :: es) mas) (he : starEach (a :: es) X.env = (false, eval a X.env) :: starEach es X.env := by rfl) (hpl : (backTo pos (starEach es X.env)).any (·.1) = false := by rfl) : SE X cl EK (.Call (.Name "tuple" p) (a :: es) [] pos) (mCall gTupOf mas) := se_callT call_tuple_of gc_tupOf hg hm (by decide +kernel) ha (by decide) (by decide) he hpl
theorem gc_lstOfM : GC X.K cl gLstOfM (rLstOf X.K) := by
  intro EK s xs us Q ok r p
  unfold gLstOfM at p
  split at p
  · obtain ⟨x, rfl, h⟩ := repA1 r
    split at p
    · rename_i ds hl
      obtain ⟨a, vs, rfl, h1, r1⟩ := seq_of ok h hl
      exact ⟨a, vs, rfl, h1, post_cellL ok p r1⟩
    · exact p.elim
  · exact p.elim
theorem se_listCM (hg : Gl X "list") (hm : X.mg "list" = none) (ha : SA X cl EK (a :: es) mas) (he : starEach (a :: es) X.env = (false, eval a X.env) :: starEach es X.env := by rfl) (hpl : (backTo pos (starEach es X.env)).any (·.1) = false := by rfl) : SE X cl EK (.Call (.Name "list" p) (a :: es) [] pos) (mCall gLstOfM mas) := se_callT call_list_of gc_lstOfM hg hm (by decide +kernel) ha (by decide) (by decide) he hpl
/-! isinstance -/
theorem se_isi {T : Str} {T' : String} {pT : Pos} (ha : SE X cl EK a ma) (hg : Gl X "isinstance") (hm : X.mg "isinstance" = none) (hgT : Gl X T) (hmT : X.mg T = none) (hv : bootBuiltins T = some (.type T')) (hT : T' = "int" ∨ T' = "bool" ∨ T' = "str" ∨ T' = "list" ∨ T' = "tuple")
    (hn : T ≠ "__name__" := by decide) (hd : (T == ("__debug__" : Str)) = false := by decide) (hs1 : starEach [a, .Name T pT] X.env = (false, eval a X.env) :: starEach [.Name T pT] X.env := by rfl) (hs2 : starEach [.Name T pT] X.env = (false, eval (.Name T pT) X.env) :: starEach [] X.env := by rfl) (hpl : (backTo pos (starEach [.Name T pT] X.env)).any (·.1) = false := by rfl) :
    SE X cl EK (.Call (.Name "isinstance" p) [a, .Name T pT] [] pos) (mIsi T' ma) :=
  PE.weak (pe_callB call_isi hg hm (by decide +kernel) (pa_cons ha (pa_cons (pe_bltn (v := .ty T') hgT hmT hv rfl hn hd) pa_nil hs2) hs1) (by decide) (by decide) hs1 hpl) fun σ H Q h => tG_imp (tG_bind h) fun xs H1 ⟨s, σd, u, e, ok, re, ru, p⟩ => by
    subst e
    dsimp only at p
    split at p
    · rename_i t ht
      exact ⟨xs, .ty T', .type t, .type T', _, rfl, .ty T', tyD_of ok ru ht, kit_ty (kit_isB ht hT), post_here ok p (.bl _)⟩
    · exact p.elim
theorem se_isi2 {T U : Str} {T' U' : String} {pT pU pp : Pos} {kk : Nat} (ha : SE X cl EK a ma) (hg : Gl X "isinstance") (hm : X.mg "isinstance" = none) (hgT : Gl X T) (hmT : X.mg T = none) (hv : bootBuiltins T = some (.type T')) (hT : T' = "int" ∨ T' = "bool" ∨ T' = "str" ∨ T' = "list" ∨ T' = "tuple")
    (hgU : Gl X U) (hmU : X.mg U = none) (hvU : bootBuiltins U = some (.type U')) (hU : U' = "int" ∨ U' = "bool" ∨ U' = "str" ∨ U' = "list" ∨ U' = "tuple")
    (hn : T ≠ "__name__" := by decide) (hd : (T == ("__debug__" : Str)) = false := by decide) (hnU : U ≠ "__name__" := by decide) (hdU : (U == ("__debug__" : Str)) = false := by decide)
    (hs1 : starEach [a, .Tuple [.Name T pT, .Name U pU] kk pp] X.env = (false, eval a X.env) :: starEach [.Tuple [.Name T pT, .Name U pU] kk pp] X.env := by rfl) (hs2 : starEach [.Tuple [.Name T pT, .Name U pU] kk pp] X.env = (false, eval (.Tuple [.Name T pT, .Name U pU] kk pp) X.env) :: starEach [] X.env := by rfl)
    (hs3 : starEach [.Name T pT, .Name U pU] X.env = (false, eval (.Name T pT) X.env) :: starEach [.Name U pU] X.env := by rfl) (hs4 : starEach [.Name U pU] X.env = (false, eval (.Name U pU) X.env) :: starEach [] X.env := by rfl) (hpl : (backTo pos (starEach [.Tuple [.Name T pT, .Name U pU] kk pp] X.env)).any (·.1) = false := by rfl) :
    SE X cl EK (.Call (.Name "isinstance" p) [a, .Tuple [.Name T pT, .Name U pU] kk pp] [] pos) (mIsi2 T' U' ma) :=
  PE.weak (pe_callB call_isiT hg hm (by decide +kernel) (pa_cons ha (pa_cons (pe_tup (pa_cons (pe_bltn (v := .ty T') hgT hmT hv rfl hn hd) (pa_cons (pe_bltn (v := .ty U') hgU hmU hvU rfl hnU hdU) pa_nil hs4) hs3)) pa_nil hs2) hs1) (by decide) (by decide) hs1 hpl) fun σ H Q h => tG_imp (tG_bind h) fun xs H1 ⟨s, σd, u, e, ok, re, ru, p⟩ => by
    subst e
    dsimp only at p
    split at p
    · rename_i t ht
      refine ⟨by rw [sizeLine_eq]; show 2 ≤ 16777216; decide, fun q hq => ?_⟩
      have ex : Ext s (s.frz q (.tup [.ty T', .ty U'])) := S.frz_ext hq
      have ok2 := S.frz_ok (o := .tup [.ty T', .ty U']) ok hq
      refine ⟨xs, q, [.ty T', .ty U'], .type t, [.type T', .type U'], (isB t T' || isB t U'), rfl, upd_same, .cons (.ty T') (.cons (.ty U') .nil), ?_, ?_, ?_⟩
      · exact tyD_of (s := s.frz q (.tup [.ty T', .ty U'])) ok2 (ru.mono ok ex) ht
      · refine kitAny_cons (kit_ty (kit_isB ht hT)) (fun h1 => kitAny_cons (kit_ty (kit_isB ht hU)) (fun h2 => ?_) fun h2 => ?_) fun h1 => ?_
        · rw [h1, h2]; rfl
        · rw [h1, h2]; rfl
        · rw [h1]; rfl
      · exact p _ _ ex ok2 rfl (.bl _)
    · exact p.elim
end
end Si

set_option Elab.async false
set_option linter.all false
set_option autoImplicit false
set_option maxRecDepth 100000
set_option maxHeartbeats 4000000
/-! Si6: statements, loops, comprehensions, defs. -/
namespace Si
open PySem L2
inductive SR where
  | next (σ : En) (w : Wd) | ret (d : D) (w : Wd) | brk (σ : En) (w : Wd) | cnt (σ : En) (w : Wd)
  | err (c : Str) (fs : List (Str × D)) (w : Wd) | stuck
def PostS (K : PySem.W.Frag) (cl : Str → Option Addr) (EK : XK) (s : S) (r : SR) (Dn : Ends) : Prop := match r with
  | .next σd w => ∀ s' σ', Ext s s' → Ok K cl s' → s'.w = w → RepE K s' σ' σd → Dn.nx σ' s'.H
  | .ret d w => ∀ s' v, Ext s s' → Ok K cl s' → s'.w = w → Rep K s' v d → Dn.rt v s'.H
  | .brk σd w => ∀ s' σ', Ext s s' → Ok K cl s' → s'.w = w → RepE K s' σ' σd → Dn.bk σ' s'.H
  | .cnt σd w => ∀ s' σ', Ext s s' → Ok K cl s' → s'.w = w → RepE K s' σ' σd → Dn.ct σ' s'.H
  | .err c fs w => ∀ s' cls dd, Ext s s' → Ok K cl s' → s'.w = w → RepX K cl s' cls dd c fs → EK cls dd s'.H
  | .stuck => False
def R.toS {α : Type} (r : R α) (k : α → Wd → SR) : SR := match r with
  | .ok a w => k a w
  | .err c fs w => .err c fs w
  | .stuck => .stuck
section
variable {K : PySem.W.Frag} {cl : Str → Option Addr} {s s1 : S} {EK : XK}
theorem PostS.ext {r : SR} {Dn : Ends} (e : Ext s s1) (h : PostS K cl EK s r Dn) : PostS K cl EK s1 r Dn := by
  cases r with
  | next σd w => exact fun s' v e' o q rp => h s' v (e.trans e') o q rp
  | ret σd w => exact fun s' v e' o q rp => h s' v (e.trans e') o q rp
  | brk σd w => exact fun s' v e' o q rp => h s' v (e.trans e') o q rp
  | cnt σd w => exact fun s' v e' o q rp => h s' v (e.trans e') o q rp
  | err c fs w => exact fun s' x dd e' o q rp => h s' x dd (e.trans e') o q rp
  | stuck => exact h
/-- a value, then a statement's rest -/
theorem posts_bind {α β : Type} {rep : S → β → α → Prop} {r : R α} {k : α → Wd → SR} {Dn : Ends} {Q1 : β → Hp → Prop} (p : PostS K cl EK s (r.toS k) Dn)
    (h : ∀ s' v a, Ext s s' → Ok K cl s' → rep s' v a → PostS K cl EK s' (k a s'.w) Dn → Q1 v s'.H) : Post K cl rep EK s r Q1 := by
  cases r with
  | ok a w =>
    intro s' v e ok' hw rv
    refine h s' v a e ok' rv ?_
    rw [hw]
    exact PostS.ext e p
  | err c fs w => exact p
  | stuck => exact p
end
def tSt (K : PySem.W.Frag) (cl : Str → Option Addr) (EK : XK) (m : En → Wd → SR) : TS := fun Dn σ H => ∃ s σd, s.H = H ∧ Ok K cl s ∧ RepE K s σ σd ∧ PostS K cl EK s (m σd s.w) Dn
def SS (X : Cx) (cl : Str → Option Addr) (EK : XK) (st : Stmt) (m : En → Wd → SR) : Prop := PS X st (tSt X.K cl EK m)
def SB (X : Cx) (cl : Str → Option Addr) (EK : XK) (sts : List Stmt) (m : En → Wd → SR) : Prop := PSs X sts (tSt X.K cl EK m)
/-- a target: the places that it may store in, what it makes of the frame's values -/
def tTg (K : PySem.W.Frag) (cl : Str → Option Addr) (sl : List Nat) (f : D → En → Wd → Option En) : TG := fun v σ H Q => ∃ s σd d, s.H = H ∧ Ok K cl s ∧ RepE K s σ σd ∧ Rep K s v d ∧
  match f d σd s.w with
  | some σ1 => ∀ σ', RepE K s σ' σ1 → σ'.length = σ.length → (∀ j, j ∉ sl → σ'[j]? = σ[j]?) → Q σ' s.H
  | none => False
def SG (X : Cx) (cl : Str → Option Addr) (e : Expr) (sl : List Nat) (f : D → En → Wd → Option En) : Prop := PG X e (tTg X.K cl sl f)
def tTgs (K : PySem.W.Frag) (cl : Str → Option Addr) (sl : List Nat) (f : List D → En → Wd → Option En) : TGs := fun vs σ H Q => ∃ s σd ds, s.H = H ∧ Ok K cl s ∧ RepE K s σ σd ∧ RepA K s vs ds ∧
  match f ds σd s.w with
  | some σ1 => ∀ σ', RepE K s σ' σ1 → σ'.length = σ.length → (∀ j, j ∉ sl → σ'[j]? = σ[j]?) → Q σ' s.H
  | none => False
def SGs (X : Cx) (cl : Str → Option Addr) (es : List Expr) (sl : List Nat) (f : List D → En → Wd → Option En) : Prop := PGs X es (tTgs X.K cl sl f)
section
variable {X : Cx} {cl : Str → Option Addr} {EK : XK} {a b c e : Expr} {ma mb mc : En → Wd → R D} {na nb : En → Wd → R Bool} {pos : Pos} {st : Stmt} {sts rest : List Stmt} {m m1 m2 : En → Wd → SR}
theorem PS.weak {t t' : TS} (h : PS X st t) (i : ∀ D σ H, t' D σ H → t D σ H) : PS X st t' := ⟨fun pins s σ H D I q => h.run pins s σ H D I (i D σ H q)⟩
theorem PSs.weak {t t' : TS} (h : PSs X sts t) (i : ∀ D σ H, t' D σ H → t D σ H) : PSs X sts t' := ⟨fun pins s σ H D I q => h.run pins s σ H D I (i D σ H q)⟩
theorem PG.weak {t t' : TG} (h : PG X e t) (i : ∀ v σ H Q, t' v σ H Q → t v σ H Q) : PG X e t' := ⟨fun pins s σ H v u Q I r q => h.run pins s σ H v u Q I r (i v σ H Q q)⟩
theorem PGs.weak {es : List Expr} {t t' : TGs} (h : PGs X es t) (i : ∀ v σ H Q, t' v σ H Q → t v σ H Q) : PGs X es t' := ⟨fun pins s σ H v u Q I r q => h.run pins s σ H v u Q I r (i v σ H Q q)⟩
def mNext : En → Wd → SR := fun σd w => .next σd w
def mSeq (m1 m2 : En → Wd → SR) : En → Wd → SR := fun σd w => match m1 σd w with
  | .next σ1 w1 => m2 σ1 w1
  | r => r
def mRet (ma : En → Wd → R D) : En → Wd → SR := fun σd w => (ma σd w).toS .ret
def mRetN : En → Wd → SR := fun _ w => .ret .non w
def mExpr (ma : En → Wd → R D) : En → Wd → SR := fun σd w => (ma σd w).toS fun _ w1 => .next σd w1
def mIfS (mc : En → Wd → R Bool) (m1 m2 : En → Wd → SR) : En → Wd → SR := fun σd w => (mc σd w).toS fun b w1 => match b with | true => m1 σd w1 | false => m2 σd w1
def mBrk : En → Wd → SR := fun σd w => .brk σd w
def mCnt : En → Wd → SR := fun σd w => .cnt σd w
def mAsg (ma : En → Wd → R D) (f : D → En → Wd → Option En) : En → Wd → SR := fun σd w => (ma σd w).toS fun d w1 => match f d σd w1 with
  | some σ1 => .next σ1 w1
  | none => .stuck
theorem sb_nil : SB X cl EK [] mNext := PSs.weak pss_nil fun D σ H h => by
  obtain ⟨s, σd, e, ok, re, p⟩ := h
  subst e
  exact p s σ (Ext.refl s) ok rfl re
theorem sb_cons (h1 : SS X cl EK st m1) (h2 : SB X cl EK rest m2) : SB X cl EK (st :: rest) (mSeq m1 m2) := PSs.weak (pss_cons h1 h2) fun D σ H h => by
  obtain ⟨s, σd, e, ok, re, p⟩ := h
  subst e
  refine ⟨s, σd, rfl, ok, re, ?_⟩
  unfold mSeq at p
  cases q : m1 σd s.w with
  | next σ1 w1 =>
    rw [q] at p
    intro s' σ' ex ok' hw re'
    refine ⟨s', σ1, rfl, ok', re', ?_⟩
    rw [hw]
    exact PostS.ext ex p
  | ret d w => rw [q] at p; exact p
  | brk d w => rw [q] at p; exact p
  | cnt d w => rw [q] at p; exact p
  | err c fs w => rw [q] at p; exact p
  | stuck => rw [q] at p; exact p
theorem sb_one (h1 : SS X cl EK st m1) : SB X cl EK [st] m1 := pss_one h1
theorem ss_pass : SS X cl EK (.Pass pos) mNext := PS.weak ps_pass fun D σ H h => by
  obtain ⟨s, σd, e, ok, re, p⟩ := h
  subst e
  exact p s σ (Ext.refl s) ok rfl re
theorem ss_brk : SS X cl EK (.Break pos) mBrk := PS.weak ps_break fun D σ H h => by
  obtain ⟨s, σd, e, ok, re, p⟩ := h
  subst e
  exact p s σ (Ext.refl s) ok rfl re
theorem ss_cnt : SS X cl EK (.Continue pos) mCnt := PS.weak ps_continue fun D σ H h => by
  obtain ⟨s, σd, e, ok, re, p⟩ := h
  subst e
  exact p s σ (Ext.refl s) ok rfl re
theorem ss_ret (ha : SE X cl EK a ma) : SS X cl EK (.Return (some a) pos) (mRet ma) := PS.weak (ps_ret ha) fun D σ H h => by
  obtain ⟨s, σd, e, ok, re, p⟩ := h
  subst e
  exact tG_of ok re (posts_bind p fun s' v d ex ok' r p' => p' s' v (Ext.refl s') ok' rfl r)
theorem ss_retN : SS X cl EK (.Return none pos) mRetN := PS.weak ps_retN fun D σ H h => by
  obtain ⟨s, σd, e, ok, re, p⟩ := h
  subst e
  exact p s .non (Ext.refl s) ok rfl .non
theorem ss_expr (ha : SE X cl EK a ma) (hs : swapsWith a none pos.line X.env = pure false := by rfl) : SS X cl EK (.Expr a pos) (mExpr ma) := PS.weak (ps_expr ha hs) fun D σ H h => by
  obtain ⟨s, σd, e, ok, re, p⟩ := h
  subst e
  exact tG_of ok re (posts_bind p fun s' v d ex ok' r p' => p' s' σ (Ext.refl s') ok' rfl (re.mono ok ex))
theorem ss_if (hc : ST X cl EK c na) (h1 : SB X cl EK sts m1) (h2 : SB X cl EK rest m2) : SS X cl EK (.If c sts rest pos) (mIfS na m1 m2) := PS.weak (ps_if hc h1 h2) fun D σ H h => by
  obtain ⟨s, σd, e, ok, re, p⟩ := h
  subst e
  refine tG_of ok re (posts_bind p fun s' v d ex ok' r p' => ?_)
  cases r
  cases v with
  | true => exact iteT ⟨s', σd, rfl, ok', re.mono ok ex, p'⟩
  | false => exact iteF ⟨s', σd, rfl, ok', re.mono ok ex, p'⟩
/-! ### targets -/
def gNm (i : Nat) : D → En → Wd → Option En := fun d σd _ => some (σd.set i (some d))
theorem sg_name {i : Nat} (h : PG X e (gName i)) : SG X cl e [i] (gNm i) := PG.weak h fun v σ H Q hh => by
  obtain ⟨s, σd, d, e, ok, re, r, p⟩ := hh
  subst e
  refine p (σ.set i (some v)) (re.set i r) (by simp) fun j hj => ?_
  rw [List.getElem?_set_ne (fun z => hj (by rw [z]; exact List.mem_singleton.mpr rfl))]
def gNilD : List D → En → Wd → Option En := fun ds σd _ => match ds with | [] => some σd | _ => none
def gConsD (f : D → En → Wd → Option En) (g : List D → En → Wd → Option En) : List D → En → Wd → Option En := fun ds σd w => match ds with
  | d :: r => (f d σd w).bind fun σ1 => g r σ1 w
  | [] => none
def gTupD (n : Nat) (f : List D → En → Wd → Option En) : D → En → Wd → Option En := fun d σd w => match d with
  | .tup ds => if ds.length = n then f ds σd w else none
  | _ => none
def gLstD (n : Nat) (f : List D → En → Wd → Option En) : D → En → Wd → Option En := fun d σd w => match derefL d w with
  | some ds => if ds.length = n then f ds σd w else none
  | none => none
theorem sgs_nil : SGs X cl [] [] gNilD := PGs.weak pgs_nil fun v σ H Q hh => by
  obtain ⟨s, σd, ds, e, ok, re, r, p⟩ := hh
  subst e
  cases r with
  | nil => exact ⟨rfl, p σ re rfl fun _ _ => rfl⟩
  | cons _ _ => exact p.elim
theorem sgs_cons {es : List Expr} {sl sl' : List Nat} {f : D → En → Wd → Option En} {g : List D → En → Wd → Option En} (h1 : SG X cl e sl f) (h2 : SGs X cl es sl' g)
    (hs : (assignEach (e :: es) X.env).map (·.2) = assign e X.env :: (assignEach es X.env).map (·.2) := by rfl) : SGs X cl (e :: es) (sl ++ sl') (gConsD f g) := PGs.weak (pgs_cons h1 h2 hs) fun v σ H Q hh => by
  obtain ⟨s, σd, ds, e, ok, re, r, p⟩ := hh
  subst e
  cases r with
  | nil => exact p.elim
  | cons h r =>
    unfold gConsD at p
    dsimp only at p
    rename_i v0 vr d0 dr
    refine ⟨v0, vr, rfl, s, σd, d0, rfl, ok, re, h, ?_⟩
    cases q : f d0 σd s.w with
    | none => rw [q] at p; exact p
    | some σ1 =>
      rw [q] at p
      dsimp only [Option.bind] at p ⊢
      intro σ' re' hl' hk'
      refine ⟨s, σ1, dr, rfl, ok, re', r, ?_⟩
      cases q2 : g dr σ1 s.w with
      | none => rw [q2] at p; exact p
      | some σ2 =>
        rw [q2] at p
        dsimp only at p ⊢
        intro σ'' re'' hl'' hk''
        exact p σ'' re'' (hl''.trans hl') fun j hj => by
          rw [List.mem_append] at hj
          exact (hk'' j fun z => hj (.inr z)).trans (hk' j fun z => hj (.inl z))
theorem sg_tup {es : List Expr} {k n : Nat} {sl : List Nat} {f : List D → En → Wd → Option En} (hc : X.calm = true) (h : SGs X cl es sl f) (hn : (assignEach es X.env).length = n := by rfl) (hst : (assignEach es X.env).findIdx? (·.1) = none := by rfl) :
    SG X cl (.Tuple es k pos) sl (gTupD n f) := PG.weak (pg_tup hc h hn hst) fun v σ H Q hh => by
  obtain ⟨s, σd, d, e, ok, re, r, p⟩ := hh
  subst e
  unfold gTupD at p
  cases d with
  | tup ds =>
    dsimp only at p
    obtain ⟨a, vs, rfl, h1, h2⟩ := rep_tup r
    by_cases hl : ds.length = n
    · rw [if_pos hl] at p
      exact ⟨a, vs, rfl, h1, h2.length.trans hl, s, σd, ds, rfl, ok, re, h2, p⟩
    · rw [if_neg hl] at p; exact p.elim
  | _ => exact p.elim
theorem sg_lst {es : List Expr} {k n : Nat} {sl : List Nat} {f : List D → En → Wd → Option En} (hc : X.calm = true) (h : SGs X cl es sl f) (hn : (assignEach es X.env).length = n := by rfl) (hst : (assignEach es X.env).findIdx? (·.1) = none := by rfl) :
    SG X cl (.Tuple es k pos) sl (gLstD n f) := PG.weak (pg_lst hc h hn hst) fun v σ H Q hh => by
  obtain ⟨s, σd, d, e, ok, re, r, p⟩ := hh
  subst e
  unfold gLstD at p
  cases q : derefL d s.w with
  | some ds =>
    rw [q] at p
    dsimp only at p
    obtain ⟨a, vs, rfl, h1, h2⟩ := deref_of ok r q
    by_cases hl : ds.length = n
    · rw [if_pos hl] at p
      exact ⟨a, vs, rfl, SqL.of h1, h2.length.trans hl, s, σd, ds, rfl, ok, re, h2, p⟩
    · rw [if_neg hl] at p; exact p.elim
  | none => rw [q] at p; exact p.elim
theorem ss_asg {sl : List Nat} {f : D → En → Wd → Option En} (ha : SE X cl EK a ma) (hg : SG X cl e sl f) (hs : swapsWithSole [e] a pos.line X.env = pure false := by rfl) (hw : swappedStores [e] a X.env = pure none := by rfl)
    (h1 : (assignEach [e] X.env).map (·.2) = [assign e X.env] := by rfl) : SS X cl EK (.Assign [e] a pos) (mAsg ma f) := PS.weak (ps_asg ha hg hs hw h1) fun D σ H h => by
  obtain ⟨s, σd, e, ok, re, p⟩ := h
  subst e
  refine tG_of ok re (posts_bind p fun s' v d ex ok' r p' => ⟨s', σd, d, rfl, ok', re.mono ok ex, r, ?_⟩)
  cases q : f d σd s'.w with
  | none => rw [q] at p'; exact p'.elim
  | some σ1 =>
    rw [q] at p'
    dsimp only
    exact fun σ' re' _ _ => p' s' σ' (Ext.refl s') ok' rfl re'
/-- x = e -/
theorem ss_set {i : Nat} {x : Str} {pos' : Pos} (hN : X.N.Nodup) (hi : X.N[i]? = some x) (hx : Loc X.env.scope x) (ha : SE X cl EK a ma) (hs : swapsWithSole [.Name x pos'] a pos.line X.env = pure false := by rfl) (hw : swappedStores [.Name x pos'] a X.env = pure none := by rfl)
    (h1 : (assignEach [.Name x pos'] X.env).map (·.2) = [assign (.Name x pos') X.env] := by rfl) (hf : X.fn x = true ∨ X.env.scope.names.lookup x = some .local := by first | exact .inl rfl | exact .inr rfl | assumption) :
    SS X cl EK (.Assign [.Name x pos'] a pos) (mAsg ma (gNm i)) := ss_asg ha (sg_name (pg_name hN hi hx hf)) hs hw h1
/-- a, b = e1, e2 -/
def mPar (i j : Nat) (mas : En → Wd → R (List D)) : En → Wd → SR := fun σd w => (mas σd w).toS fun ds w1 => match ds with
  | [d, e] => .next ((σd.set i (some d)).set j (some e)) w1
  | _ => .stuck
theorem ss_par {i j : Nat} {x y : Str} {a b : Expr} {px py pt : Pos} {kt k2 pt2} {mas : En → Wd → R (List D)} (hc : X.calm = true) (hN : X.N.Nodup) (hi : X.N[i]? = some x) (hj : X.N[j]? = some y) (hij : i ≠ j)
    (hx : X.env.scope.names.lookup x = some .local) (hy : X.env.scope.names.lookup y = some .local) (ha : SA X cl EK [a, b] mas)
    (hw : swappedStores [.Tuple [.Name x px, .Name y py] kt pt] (.Tuple [a, b] k2 pt2) X.env = pure (some [x, y]))
    (hs : swapsWithSole [.Tuple [.Name x px, .Name y py] kt pt] (.Tuple [a, b] k2 pt2) pos.line X.env = pure false := by rfl) :
    SS X cl EK (.Assign [.Tuple [.Name x px, .Name y py] kt pt] (.Tuple [a, b] k2 pt2) pos) (mPar i j mas) := PS.weak (ps_par hc hN hi hj hij hx hy ha hw hs) fun D σ H h => by
  obtain ⟨s, σd, e, ok, re, p⟩ := h
  subst e
  refine tG_of ok re (posts_bind p fun s' v d ex ok' r p' => ?_)
  split at p'
  · obtain ⟨v1, v2, rfl, r1, r2⟩ := repA2 r
    exact ⟨v1, v2, rfl, p' s' _ (Ext.refl s') ok' rfl (((re.mono ok ex).set i r1).set j r2)⟩
  · exact p'.elim
/-- x += e of ints -/
def mAugI (f : Int → Int → Int) (i : Nat) (ma : En → Wd → R D) : En → Wd → SR := fun σd w => match σd[i]? with
  | some (some (.int z)) => (ma σd w).toS fun d w1 => match d with
    | .int y => .next (σd.set i (some (.int (f z y)))) w1
    | _ => .stuck
  | _ => .stuck
theorem ss_augI {i : Nat} {x : Str} {op : Operator} {f : Int → Int → Int} {pos' : Pos} (hN : X.N.Nodup) (hi : X.N[i]? = some x) (hx : Loc X.env.scope x) (ha : SE X cl EK a ma) (ho : PIp X op (ipI f))
    (hf : X.fn x = true ∨ X.env.scope.names.lookup x = some .local := by first | exact .inl rfl | exact .inr rfl | assumption) :
    SS X cl EK (.AugAssign (.Name x pos') op a pos) (mAugI f i ma) := PS.weak (ps_aug hN hi hx ha ho hf) fun D σ H h => by
  obtain ⟨s, σd, e, ok, re, p⟩ := h
  subst e
  unfold mAugI at p
  split at p
  · rename_i z hz
    obtain ⟨v, hv, r⟩ := re.2 i _ hz
    refine ⟨v, hv, tG_of ok re (posts_bind p fun s' u d ex ok' ru p' => ?_)⟩
    split at p'
    · rename_i y
      rw [rep_int r, rep_int ru]
      exact ⟨z, y, rfl, rfl, p' s' _ (Ext.refl s') ok' rfl ((re.mono ok ex).set i (.int _))⟩
    · exact p'.elim
  · exact p.elim
/-! ### what a loop walks -/
def repIt (K : PySem.W.Frag) (cl : Str → Option Addr) (s : S) (J : It) (ds : List D) : Prop := ∀ s1, Ext s s1 → Ok K cl s1 →
  (∀ i, i < ds.length → J.go i s1.H) ∧ (∀ i x H' d, J.yld i s1.H x H' → ds[i]? = some d → ∃ s2, s2.H = H' ∧ Ext s1 s2 ∧ Ok K cl s2 ∧ s2.w = s1.w ∧ Rep K s2 x d) ∧ J.stop ds.length s1.H
def SI (X : Cx) (cl : Str → Option Addr) (EK : XK) (tg iter : Expr) (m : En → Wd → R (List D)) : Prop := PI X tg iter (tG X.K cl (repIt X.K cl) EK m)
theorem PI.weak {tg iter : Expr} {t t' : TI} (h : PI X tg iter t) (i : ∀ σ H Q, t' σ H Q → t σ H Q) : PI X tg iter t' := ⟨fun pins s σ H Q I q => h.run pins s σ H Q I (i σ H Q q)⟩
theorem PI.or {tg iter : Expr} {t t' : TI} (h : PI X tg iter t) (h' : PI X tg iter t') : PI X tg iter (fun σ H R => t σ H R ∨ t' σ H R) := ⟨fun pins s σ H Q I q => q.elim (h.run pins s σ H Q I) (h'.run pins s σ H Q I)⟩
def signs (z : Str) : List D := z.cps.toList.map fun c => .str ⟨#[c]⟩
def itemsD : D → Option (List D)
  | .lst ds => some ds
  | .tup ds => some ds
  | .str z => some (signs z)
  | .scr ns => some (ns.map D.int)
  | _ => none
def mIter (ma : En → Wd → R D) : En → Wd → R (List D) := fun σd w => (ma σd w).bind fun u w1 => match itemsD u with
  | some ds => .ok ds w1
  | none => .stuck
theorem repIt_L {s : S} {a : Addr} {vs : List V} {ds : List D} (h : ∀ s1, Ext s s1 → Ok X.K cl s1 → SqL X.K s1.H a vs ∧ RepA X.K s1 vs ds) : repIt X.K cl s (Itl X.K a) ds := by
  intro s1 e ok
  obtain ⟨h1, r⟩ := h s1 e ok
  refine ⟨fun i hi => ?_, fun i x H' d hy hd => ?_, vs, h1, by rw [r.length]; exact Nat.le_refl _⟩
  · obtain ⟨v, hv, _⟩ := r.get (i := i) (List.getElem?_eq_getElem hi)
    exact ⟨vs, v, h1, hv⟩
  · obtain ⟨rfl, hx⟩ := hy
    obtain ⟨v, hv, rv⟩ := r.get hd
    have e := hx vs h1
    rw [hv] at e
    cases e
    exact ⟨s1, rfl, Ext.refl s1, ok, rfl, rv⟩
theorem repIt_T {s : S} {a : Addr} {vs : List V} {ds : List D} (h : ∀ s1, Ext s s1 → Ok X.K cl s1 → SqT X.K s1.H a vs ∧ RepA X.K s1 vs ds) : repIt X.K cl s (Itt X.K a) ds := by
  intro s1 e ok
  obtain ⟨h1, r⟩ := h s1 e ok
  refine ⟨fun i hi => ?_, fun i x H' d hy hd => ?_, vs, h1, by rw [r.length]; exact Nat.le_refl _⟩
  · obtain ⟨v, hv, _⟩ := r.get (i := i) (List.getElem?_eq_getElem hi)
    exact ⟨vs, v, h1, hv⟩
  · obtain ⟨rfl, hx⟩ := hy
    obtain ⟨v, hv, rv⟩ := r.get hd
    have e := hx vs h1
    rw [hv] at e
    cases e
    exact ⟨s1, rfl, Ext.refl s1, ok, rfl, rv⟩
theorem repIt_S {s : S} {z : Str} : repIt X.K cl s (Its z) (signs z) := by
  intro s1 e ok
  have hl : (signs z).length = z.cps.size := by unfold signs; rw [List.length_map, Array.length_toList]
  refine ⟨fun i hi => by rw [hl] at hi; exact hi, fun i x H' d hy hd => ?_, by show z.cps.size ≤ _; rw [hl]; exact Nat.le_refl _⟩
  obtain ⟨rfl, c, hc, rfl⟩ := hy
  unfold signs at hd
  rw [List.getElem?_map, Array.getElem?_toList, hc] at hd
  cases hd
  exact ⟨s1, rfl, Ext.refl s1, ok, rfl, .str _⟩
theorem si_seq {tg : Expr} (ha : SE X cl EK a ma) : SI X cl EK tg a (mIter ma) :=
  PI.weak (PI.or (pi_list ha) (PI.or (pi_tup ha) (pi_str ha))) fun σ H Q h => by
    obtain ⟨s, σd, e, ok, re, p⟩ := h
    subst e
    unfold mIter at p
    have go : ∀ (Q1 : V → Hp → Prop), (∀ s' v u ds, Ext s s' → Ok X.K cl s' → Rep X.K s' v u → itemsD u = some ds → (∀ J, repIt X.K cl s' J ds → Q J s'.H) → (∃ w, ma σd s.w = .ok u w) → Q1 v s'.H) → tG X.K cl (Rep X.K) EK ma σ s.H Q1 := by
      intro Q1 hQ
      refine ⟨s, σd, rfl, ok, re, ?_⟩
      cases q : ma σd s.w with
      | ok u w =>
        rw [q] at p
        dsimp only [R.bind] at p
        intro s' v ex ok' hw r
        cases q2 : itemsD u with
        | none => rw [q2] at p; exact p.elim
        | some ds =>
          rw [q2] at p
          exact hQ s' v u ds ex ok' r q2 (fun J hJ => p s' J ex ok' hw hJ) ⟨w, q⟩
      | err c fs w => rw [q] at p; exact p
      | stuck => rw [q] at p; exact p
    cases q : ma σd s.w with
    | ok u w =>
      cases u with
      | lst ds0 =>
        refine .inl (go _ fun s' v u ds ex ok' r hi hJ hu => ?_)
        obtain ⟨w', hu⟩ := hu
        rw [q] at hu
        cases hu
        cases hi
        obtain ⟨a, vs, rfl, hF, h1, h2⟩ := rep_lst r
        exact ⟨a, rfl, ⟨vs, SqL.of h1⟩, hJ _ (repIt_L fun s1 e1 ok1 => ⟨SqL.of (e1.fr ok' hF h1), h2.mono ok' e1⟩)⟩
      | scr ns =>
        refine .inl (go _ fun s' v u ds ex ok' r hi hJ hu => ?_)
        obtain ⟨w', hu⟩ := hu
        rw [q] at hu
        cases hu
        cases hi
        cases r with
        | scr h1 =>
          refine ⟨_, rfl, ⟨_, SqL.ofS h1⟩, hJ _ (repIt_L (vs := ns.map V.int) fun s1 e1 ok1 => ⟨SqL.ofS (h1.imp (fun q => ⟨e1.F _ q.1, q.2.imp fun _ z => e1.fr ok' q.1 z⟩) id), repA_ints ns⟩)⟩
      | tup ds0 =>
        refine .inr (.inl (go _ fun s' v u ds ex ok' r hi hJ hu => ?_))
        obtain ⟨w', hu⟩ := hu
        rw [q] at hu
        cases hu
        cases hi
        cases r with
        | tup hH h2 =>
          refine ⟨_, rfl, ⟨_, SqT.ofR hH⟩, hJ _ (repIt_T fun s1 e1 ok1 => ⟨?_, h2.mono ok' e1⟩)⟩
          rcases hH with ⟨f1, f2⟩ | f
          · exact .inl (.inl (e1.fr ok' f1 f2))
          · exact .inr f
      | str z =>
        refine .inr (.inr (go _ fun s' v u ds ex ok' r hi hJ hu => ?_))
        obtain ⟨w', hu⟩ := hu
        rw [q] at hu
        cases hu
        cases hi
        rw [rep_str r]
        exact ⟨z, rfl, hJ _ repIt_S⟩
      | _ => rw [q] at p; exact p.elim
    | err c fs w => exact .inl (go _ fun s' v u ds ex ok' r hi hJ hu => by obtain ⟨w', hu⟩ := hu; rw [q] at hu; cases hu)
    | stuck => rw [q] at p; exact p.elim
end
end Si

set_option Elab.async false
set_option linter.all false
set_option autoImplicit false
set_option maxRecDepth 100000
set_option maxHeartbeats 4000000
/-! Si7: ranges, zip, enumerate; for, while, comprehensions; calls of own defs, defs. -/
namespace Si
open PySem L2 RZ
section
variable {X : Cx} {cl : Str → Option Addr} {EK : XK} {a b c e : Expr} {ma mb mc : En → Wd → R D} {na nb : En → Wd → R Bool} {mas : En → Wd → R (List D)} {pos p : Pos} {st : Stmt} {sts rest : List Stmt} {m m1 m2 : En → Wd → SR} {tg iter : Expr}
def rangeD (lo : Int) (n : Nat) : List D := (List.range n).map fun i => .int (lo + (i : Nat))
theorem repIt_R {s : S} {lo : Int} {n : Nat} : repIt X.K cl s (Itr lo n) (rangeD lo n) := by
  intro s1 e ok
  have hl : (rangeD lo n).length = n := by unfold rangeD; rw [List.length_map, List.length_range]
  refine ⟨fun i hi => by rw [hl] at hi; exact hi, fun i x H' d hy hd => ?_, by rw [hl]; exact Nat.le_refl _⟩
  obtain ⟨rfl, rfl⟩ := hy
  unfold rangeD at hd
  rw [List.getElem?_map] at hd
  cases q : (List.range n)[i]? with
  | none => rw [q] at hd; cases hd
  | some j =>
    rw [q] at hd
    have hj : j = i := by
      obtain ⟨h1, h2⟩ := List.getElem?_eq_some_iff.mp q
      rw [List.getElem_range] at h2
      exact h2.symm
    subst hj
    cases hd
    exact ⟨s1, rfl, Ext.refl s1, ok, rfl, .int _⟩
def mRng (mas : En → Wd → R (List D)) : En → Wd → R (List D) := fun σd w => (mas σd w).bind fun us w1 => match us with
  | [.int j] => if -(2 ^ 62) ≤ j ∧ j < 2 ^ 62 then .ok (rangeD 0 j.toNat) w1 else .stuck
  | [.int i, .int j] => if -(2 ^ 62) ≤ i ∧ i < 2 ^ 62 ∧ -(2 ^ 62) ≤ j ∧ j < 2 ^ 62 then .ok (rangeD i (j - i).toNat) w1 else .stuck
  | _ => .stuck
theorem si_range1 (hg : Gl X "range") (hm : X.mg "range" = none) (ha : SA X cl EK [a] mas) (hs : starEach [a] X.env = [(false, eval a X.env)] := by rfl) (hlen : ∀ σd w us w', mas σd w = .ok us w' → us.length = 1) : SI X cl EK tg (.Call (.Name "range" p) [a] [] pos) (mRng mas) :=
  PI.weak (pi_range1 hg hm ha hs) fun σ H Q h => by
    obtain ⟨s, σd, e, ok, re, p⟩ := h
    subst e
    refine tG_of ok re ?_
    cases q : mas σd s.w with
    | ok us w =>
      unfold mRng at p
      rw [q] at p
      dsimp only [R.bind] at p
      have hl := hlen _ _ _ _ q
      intro s' xs ex ok' hw r
      match us, hl, p, r with
      | [.int j], _, p, r =>
        dsimp only at p
        obtain ⟨x, rfl, rx⟩ := repA1 r
        rw [rep_int rx]
        by_cases hb : -(2 ^ 62) ≤ j ∧ j < 2 ^ 62
        · rw [if_pos hb] at p
          exact ⟨j, rfl, hb.1, hb.2, p s' _ ex ok' hw repIt_R⟩
        · rw [if_neg hb] at p
          exact p.elim
      | [.non], _, p, _ => exact p.elim
      | [.bl _], _, p, _ => exact p.elim
      | [.str _], _, p, _ => exact p.elim
      | [.lst _], _, p, _ => exact p.elim
      | [.tup _], _, p, _ => exact p.elim
      | [.obj _], _, p, _ => exact p.elim
      | [.scr _], _, p, _ => exact p.elim
    | err c fs w => unfold mRng at p; rw [q] at p; exact p
    | stuck => unfold mRng at p; rw [q] at p; exact p.elim
theorem aCons1_len {σd : En} {w : Wd} {us : List D} {w' : Wd} (h : aCons ma aNil σd w = .ok us w') : us.length = 1 := by
  unfold aCons aNil at h
  cases q : ma σd w with
  | ok d w1 => rw [q] at h; dsimp only [R.bind] at h; cases h; rfl
  | err c fs w1 => rw [q] at h; cases h
  | stuck => rw [q] at h; cases h
theorem aCons2_len {σd : En} {w : Wd} {us : List D} {w' : Wd} (h : aCons ma (aCons mb aNil) σd w = .ok us w') : us.length = 2 := by
  unfold aCons aNil at h
  cases q : ma σd w with
  | ok d w1 =>
    rw [q] at h; dsimp only [R.bind] at h
    cases q2 : mb σd w1 with
    | ok d2 w2 => rw [q2] at h; dsimp only [R.bind] at h; cases h; rfl
    | err c fs w1 => rw [q2] at h; cases h
    | stuck => rw [q2] at h; cases h
  | err c fs w1 => rw [q] at h; cases h
  | stuck => rw [q] at h; cases h
theorem si_rng1 (hg : Gl X "range") (hm : X.mg "range" = none) (ha : SE X cl EK a ma) (hs : starEach [a] X.env = [(false, eval a X.env)] := by rfl) : SI X cl EK tg (.Call (.Name "range" p) [a] [] pos) (mRng (aCons ma aNil)) :=
  si_range1 hg hm (sa_cons ha sa_nil hs) hs fun _ _ _ _ => aCons1_len
theorem si_rng2 (hg : Gl X "range") (hm : X.mg "range" = none) (ha : SE X cl EK a ma) (hb : SE X cl EK b mb) (hs : starEach [a, b] X.env = [(false, eval a X.env), (false, eval b X.env)] := by rfl) (hs2 : starEach [b] X.env = [(false, eval b X.env)] := by rfl) :
    SI X cl EK tg (.Call (.Name "range" p) [a, b] [] pos) (mRng (aCons ma (aCons mb aNil))) :=
  PI.weak (pi_range2 hg hm (sa_cons (EK := EK) (cl := cl) ha (sa_cons hb sa_nil hs2) (by rw [hs, hs2])) hs hs2) fun σ H Q h => by
    obtain ⟨s, σd, e, ok, re, p⟩ := h
    subst e
    refine tG_of ok re ?_
    cases q : aCons ma (aCons mb aNil) σd s.w with
    | ok us w =>
      unfold mRng at p
      rw [q] at p
      dsimp only [R.bind] at p
      have hl := aCons2_len q
      intro s' xs ex ok' hw r
      split at p
      · cases hl
      · rename_i i j
        obtain ⟨x, y, rfl, rx, ry⟩ := repA2 r
        rw [rep_int rx, rep_int ry]
        split at p
        · rename_i hb
          exact ⟨i, j, rfl, hb, p s' _ ex ok' hw repIt_R⟩
        · exact p.elim
      · exact p.elim
    | err c fs w => unfold mRng at p; rw [q] at p; exact p
    | stuck => unfold mRng at p; rw [q] at p; exact p.elim
/-- enumerate of a list that stands still -/
def enumD : Nat → List D → List D
  | _, [] => []
  | i, d :: r => .tup [.int (i : Nat), d] :: enumD (i + 1) r
theorem enumD_get : ∀ (ds : List D) (k i : Nat), (enumD k ds)[i]? = (ds[i]?).map fun d => .tup [.int ((k + i : Nat) : Int), d]
  | [], _, _ => by simp [enumD]
  | d :: r, k, 0 => by simp [enumD]
  | d :: r, k, i + 1 => by
    have h := enumD_get r (k + 1) i
    simp only [enumD, List.getElem?_cons_succ]
    rw [h, show k + 1 + i = k + (i + 1) by omega]
theorem enumD_len : ∀ (ds : List D) (k : Nat), (enumD k ds).length = ds.length
  | [], _ => rfl
  | _ :: r, k => congrArg (· + 1) (enumD_len r (k + 1))
def mEnum (mas : En → Wd → R (List D)) : En → Wd → R (List D) := fun σd w => (mas σd w).bind fun us w1 => match us with
  | [.lst ds] => .ok (enumD 0 ds) w1
  | _ => .stuck
theorem si_enum {elts : List Expr} {kk : Nat} {tpos : Pos} (hg : Gl X "enumerate") (hm : X.mg "enumerate" = none) (ha : SA X cl EK [a] mas) (hs : starEach [a] X.env = [(false, eval a X.env)] := by rfl) :
    SI X cl EK (.Tuple elts kk tpos) (.Call (.Name "enumerate" p) [a] [] pos) (mEnum mas) :=
  PI.weak (pi_enum hg hm ha hs) fun σ H Q h => tG_imp (tG_bind h) fun xs H1 ⟨s, σd, u, e, ok, re, ru, p⟩ => by
    subst e
    dsimp only at p
    split at p
    · rename_i ds
      obtain ⟨x, rfl, rx⟩ := repA1 ru
      obtain ⟨q, vs, rfl, hF, h1, r1⟩ := rep_lst rx
      refine ⟨q, vs, rfl, SqL.of h1, p s _ (Ext.refl s) ok rfl ?_⟩
      intro s1 e1 ok1
      have h1' := e1.fr ok hF h1
      have r1' := r1.mono ok e1
      refine ⟨fun i hi => ?_, fun i x H' d hy hd => ?_, vs, SqL.of h1', by rw [enumD_len, r1.length]; exact Nat.le_refl _⟩
      · rw [enumD_len] at hi
        obtain ⟨v, hv, _⟩ := r1.get (i := i) (List.getElem?_eq_getElem hi)
        exact ⟨vs, v, SqL.of h1', hv⟩
      · obtain ⟨T, y, rfl, hT, rfl, hx⟩ := hy
        have hy := hx vs (SqL.of h1')
        rw [enumD_get, Nat.zero_add] at hd
        cases q2 : ds[i]? with
        | none => rw [q2] at hd; cases hd
        | some d0 =>
          rw [q2] at hd
          cases hd
          obtain ⟨v, hv, rv⟩ := r1'.get q2
          rw [hy] at hv
          cases hv
          exact ⟨s1.frz T _, rfl, S.frz_ext hT, S.frz_ok ok1 hT, rfl, rep_newT ok1 hT (.cons (.int _) (.cons rv .nil))⟩
    · exact p.elim
/-- zip of two lists, two tuples -/
def zipD : List D → List D → List D
  | d :: r, e :: q => .tup [d, e] :: zipD r q
  | _, _ => []
theorem zipD_get : ∀ (ds es : List D) (i : Nat), (zipD ds es)[i]? = match ds[i]?, es[i]? with | some d, some e => some (.tup [d, e]) | _, _ => none
  | [], _, _ => by simp [zipD]
  | d :: r, [], i => by
    simp only [zipD, List.getElem?_nil]
    cases (d :: r)[i]? <;> rfl
  | d :: r, e :: q, 0 => by simp [zipD]
  | d :: r, e :: q, i + 1 => by
    simp only [zipD, List.getElem?_cons_succ]
    exact zipD_get r q i
theorem zipD_len : ∀ (ds es : List D), (zipD ds es).length = min ds.length es.length
  | [], _ => by simp [zipD]
  | d :: r, [] => by simp [zipD]
  | d :: r, e :: q => by simp [zipD, zipD_len r q]
def mZip (mas : En → Wd → R (List D)) : En → Wd → R (List D) := fun σd w => (mas σd w).bind fun us w1 => match us with
  | [.lst ds, .lst es] => .ok (zipD ds es) w1
  | [.tup ds, .tup es] => .ok (zipD ds es) w1
  | _ => .stuck
theorem zip_yld {s1 : S} {vs us : List V} {ds es : List D} {i : Nat} {T : Addr} {x y : V} {d : D} (ok1 : Ok X.K cl s1) (r1 : RepA X.K s1 vs ds) (r2 : RepA X.K s1 us es) (hT : s1.H T = none) (hx : vs[i]? = some x) (hy : us[i]? = some y) (hd : (zipD ds es)[i]? = some d) :
    ∃ s2, s2.H = upd s1.H T (.tup [x, y]) ∧ Ext s1 s2 ∧ Ok X.K cl s2 ∧ s2.w = s1.w ∧ Rep X.K s2 (.ref T) d := by
  rw [zipD_get] at hd
  cases q1 : ds[i]? with
  | none => rw [q1] at hd; cases hd
  | some d0 =>
    cases q2 : es[i]? with
    | none => rw [q1, q2] at hd; cases hd
    | some e0 =>
      rw [q1, q2] at hd
      cases hd
      obtain ⟨v, hv, rv⟩ := r1.get q1
      obtain ⟨u, hu, ru⟩ := r2.get q2
      rw [hx] at hv
      rw [hy] at hu
      cases hv
      cases hu
      exact ⟨s1.frz T _, rfl, S.frz_ext hT, S.frz_ok ok1 hT, rfl, rep_newT ok1 hT (.cons rv (.cons ru .nil))⟩
theorem si_zip {elts : List Expr} {kk : Nat} {tpos : Pos} (hg : Gl X "zip") (hm : X.mg "zip" = none) (ha : SA X cl EK [a, b] mas)
    (hs : starEach [a, b] X.env = (false, eval a X.env) :: starEach [b] X.env := by rfl) (hpl : (backTo pos (starEach [b] X.env)).any (·.1) = false := by rfl) :
    SI X cl EK (.Tuple elts kk tpos) (.Call (.Name "zip" p) [a, b] [] pos) (mZip mas) :=
  PI.weak (pi_zipA hg hm ha hs hpl) fun σ H Q h => tG_imp (tG_bind h) fun xs H1 ⟨s, σd, u, e, ok, re, ru, p⟩ => by
    subst e
    dsimp only at p
    split at p
    · rename_i ds es
      obtain ⟨x, y, rfl, rx, ry⟩ := repA2 ru
      obtain ⟨q, vs, rfl, hF, h1, r1⟩ := rep_lst rx
      obtain ⟨q2, us, rfl, hF2, h2, r2⟩ := rep_lst ry
      refine ⟨q, q2, vs, us, rfl, .inl ⟨SqL.of h1, SqL.of h2, p s _ (Ext.refl s) ok rfl ?_⟩⟩
      intro s1 e1 ok1
      have h1' := e1.fr ok hF h1
      have h2' := e1.fr ok hF2 h2
      have r1' := r1.mono ok e1
      have r2' := r2.mono ok e1
      refine ⟨fun i hi => ?_, fun i x H' d hy hd => ?_, vs, us, SqL.of h1', SqL.of h2', ?_⟩
      · rw [zipD_len] at hi
        obtain ⟨v, hv, _⟩ := r1.get (i := i) (List.getElem?_eq_getElem (by omega))
        obtain ⟨v2, hv2, _⟩ := r2.get (i := i) (List.getElem?_eq_getElem (by omega))
        exact ⟨vs, us, v, v2, SqL.of h1', SqL.of h2', hv, hv2⟩
      · obtain ⟨T, y1, y2, rfl, hT, rfl, hx, hy⟩ := hy
        exact zip_yld ok1 r1' r2' hT (hx vs (SqL.of h1')) (hy us (SqL.of h2')) hd
      · rw [zipD_len, r1.length, r2.length]; omega
    · rename_i ds es
      obtain ⟨x, y, rfl, rx, ry⟩ := repA2 ru
      obtain ⟨q, vs, rfl, hH, r1⟩ : ∃ q vs, x = .ref q ∧ ((s.F q ∧ s.H q = some (.tup vs)) ∨ TK X.K q vs) ∧ RepA X.K s vs ds := by
        cases rx with
        | tup hH r1 => exact ⟨_, _, rfl, hH, r1⟩
      obtain ⟨q2, us, rfl, hH2, r2⟩ : ∃ q vs, y = .ref q ∧ ((s.F q ∧ s.H q = some (.tup vs)) ∨ TK X.K q vs) ∧ RepA X.K s vs es := by
        cases ry with
        | tup hH r1 => exact ⟨_, _, rfl, hH, r1⟩
      refine ⟨q, q2, vs, us, rfl, .inr ⟨SqT.ofR hH, SqT.ofR hH2, p s _ (Ext.refl s) ok rfl ?_⟩⟩
      intro s1 e1 ok1
      have h1' : SqT X.K s1.H q vs := by
        rcases hH with ⟨f1, f2⟩ | f
        · exact .inl (.inl (e1.fr ok f1 f2))
        · exact .inr f
      have h2' : SqT X.K s1.H q2 us := by
        rcases hH2 with ⟨f1, f2⟩ | f
        · exact .inl (.inl (e1.fr ok f1 f2))
        · exact .inr f
      have r1' := r1.mono ok e1
      have r2' := r2.mono ok e1
      refine ⟨fun i hi => ?_, fun i x H' d hy hd => ?_, vs, us, h1', h2', ?_⟩
      · rw [zipD_len] at hi
        obtain ⟨v, hv, _⟩ := r1.get (i := i) (List.getElem?_eq_getElem (by omega))
        obtain ⟨v2, hv2, _⟩ := r2.get (i := i) (List.getElem?_eq_getElem (by omega))
        exact ⟨vs, us, v, v2, h1', h2', hv, hv2⟩
      · obtain ⟨T, y1, y2, rfl, hT, rfl, hx, hy⟩ := hy
        exact zip_yld ok1 r1' r2' hT (hx vs h1') (hy us h2') hd
      · rw [zipD_len, r1.length, r2.length]; omega
    · exact p.elim
/-! ### for -/
def forL (f : D → En → Wd → Option En) (body : En → Wd → SR) : List D → En → Wd → SR
  | [], σd, w => .next σd w
  | d :: r, σd, w => match f d σd w with
    | none => .stuck
    | some σ1 => match body σ1 w with
      | .next σ2 w2 => forL f body r σ2 w2
      | .cnt σ2 w2 => forL f body r σ2 w2
      | .brk σ2 w2 => .next σ2 w2
      | .ret d w2 => .ret d w2
      | .err c fs w2 => .err c fs w2
      | .stuck => .stuck
def mFor (it : En → Wd → R (List D)) (f : D → En → Wd → Option En) (body : En → Wd → SR) : En → Wd → SR := fun σd w => (it σd w).toS fun ds w1 => forL f body ds σd w1
theorem ss_for {sl : List Nat} {mi : En → Wd → R (List D)} {f : D → En → Wd → Option En} (hp : PassesOwn (model X.prog X.w) X.A X.env X.xe) (hc : X.calm = true) (hi : SI X cl EK tg iter mi) (hg : SG X cl tg sl f) (hb : SB X cl EK sts m)
    (hs : ∀ x, foldedSetIterable iter X.env x = pure x := by intro _; rfl) : SS X cl EK (.For tg iter sts [] pos) (mFor mi f m) := PS.weak (ps_for hp hc hi hg hb hs) fun D σ H h => by
  obtain ⟨s, σd, e, ok, re, p⟩ := h
  subst e
  refine tG_of ok re (posts_bind p fun s0 J ds ex0 ok0 rJ p0 => ?_)
  refine ⟨fun i mm σ H => ∃ s1 σ1, mm = ds.length - i ∧ i ≤ ds.length ∧ s1.H = H ∧ Ext s0 s1 ∧ Ok X.K cl s1 ∧ RepE X.K s1 σ σ1 ∧ PostS X.K cl EK s1 (forL f m (ds.drop i) σ1 s1.w) D,
    ⟨ds.length, s0, σd, by simp, Nat.zero_le _, rfl, Ext.refl s0, ok0, re.mono ok ex0, p0⟩, ?_⟩
  rintro i mm σ1 H1 ⟨s1, τ, rfl, hle, rfl, e1, ok1, re1, p1⟩
  obtain ⟨go, yl, stop⟩ := rJ s1 e1 ok1
  by_cases hlt : i < ds.length
  · have hd : ds.drop i = ds[i] :: ds.drop (i + 1) := List.drop_eq_getElem_cons hlt
    rw [hd] at p1
    refine .inr ⟨go i hlt, fun σ' H' => ∃ s2 σ2, s2.H = H' ∧ Ext s0 s2 ∧ Ok X.K cl s2 ∧ RepE X.K s2 σ' σ2 ∧ PostS X.K cl EK s2 (forL f m (ds.drop (i + 1)) σ2 s2.w) D, fun σ' H' ⟨s2, σ2, a1, a2, a3, a4, a5⟩ => ⟨ds.length - (i + 1), by omega, s2, σ2, rfl, hlt, a1, a2, a3, a4, a5⟩, fun x H' hy => ?_⟩
    obtain ⟨s2, rfl, e2, ok2, w2, r2⟩ := yl i x H' ds[i] hy (List.getElem?_eq_getElem hlt)
    refine ⟨s2, τ, ds[i], rfl, ok2, re1.mono ok1 e2, r2, ?_⟩
    rw [w2]
    unfold forL at p1
    cases q : f ds[i] τ s1.w with
    | none => rw [q] at p1; exact p1.elim
    | some τ1 =>
      rw [q] at p1
      dsimp only at p1 ⊢
      intro σ' re' _ _
      refine ⟨s2, τ1, rfl, ok2, re', ?_⟩
      rw [w2]
      have ee : Ext s0 s2 := e1.trans e2
      cases q2 : m τ1 s1.w with
      | next τ2 w3 =>
        rw [q2] at p1
        intro s3 σ3 e3 ok3 hw re3
        exact ⟨s3, τ2, rfl, ee.trans e3, ok3, re3, by rw [hw]; exact PostS.ext (e2.trans e3) p1⟩
      | cnt τ2 w3 =>
        rw [q2] at p1
        intro s3 σ3 e3 ok3 hw re3
        exact ⟨s3, τ2, rfl, ee.trans e3, ok3, re3, by rw [hw]; exact PostS.ext (e2.trans e3) p1⟩
      | brk τ2 w3 =>
        rw [q2] at p1
        exact fun s3 σ3 e3 ok3 hw re3 => p1 s3 σ3 (e2.trans e3) ok3 hw re3
      | ret d w3 =>
        rw [q2] at p1
        exact fun s3 σ3 e3 ok3 hw re3 => p1 s3 σ3 (e2.trans e3) ok3 hw re3
      | err c fs w3 =>
        rw [q2] at p1
        exact fun s3 σ3 dd e3 ok3 hw re3 => p1 s3 σ3 dd (e2.trans e3) ok3 hw re3
      | stuck => rw [q2] at p1; exact p1.elim
  · have hi' : i = ds.length := by omega
    subst hi'
    rw [List.drop_length] at p1
    exact .inl ⟨stop, p1 s1 σ1 (Ext.refl s1) ok1 rfl re1⟩
/-! ### while: at most so many turns -/
def whileL (c : En → Wd → R Bool) (body : En → Wd → SR) : Nat → En → Wd → SR
  | 0, _, _ => .stuck
  | n + 1, σd, w => (c σd w).toS fun b w1 => match b with
    | false => .next σd w1
    | true => match body σd w1 with
      | .next σ2 w2 => whileL c body n σ2 w2
      | .cnt σ2 w2 => whileL c body n σ2 w2
      | .brk σ2 w2 => .next σ2 w2
      | .ret d w2 => .ret d w2
      | .err c fs w2 => .err c fs w2
      | .stuck => .stuck
def mWhile (fuel : En → Wd → Nat) (c : En → Wd → R Bool) (body : En → Wd → SR) : En → Wd → SR := fun σd w => whileL c body (fuel σd w) σd w
theorem ss_while (fuel : En → Wd → Nat) (hp : PassesOwn (model X.prog X.w) X.A X.env X.xe) (hc : ST X cl EK c na) (hb : SB X cl EK sts m) : SS X cl EK (.While c sts [] pos) (mWhile fuel na m) := PS.weak (ps_while hp hc hb) fun D σ H h => by
  obtain ⟨s, σd, e, ok, re, p⟩ := h
  subst e
  refine ⟨fun n σ H => ∃ s1 σ1, s1.H = H ∧ Ok X.K cl s1 ∧ RepE X.K s1 σ σ1 ∧ PostS X.K cl EK s1 (whileL na m n σ1 s1.w) D, ⟨_, s, σd, rfl, ok, re, p⟩, ?_⟩
  rintro n σ1 H1 ⟨s1, τ, rfl, ok1, re1, p1⟩
  cases n with
  | zero => exact p1.elim
  | succ n =>
    refine tG_of ok1 re1 (posts_bind p1 fun s2 b b' e2 ok2 rb p2 => ?_)
    cases rb
    cases b with
    | false => exact iteF (p2 s2 σ1 (Ext.refl s2) ok2 rfl (re1.mono ok1 e2))
    | true =>
      refine iteT ⟨fun σ' H' => ∃ s3 σ3, s3.H = H' ∧ Ok X.K cl s3 ∧ RepE X.K s3 σ' σ3 ∧ PostS X.K cl EK s3 (whileL na m n σ3 s3.w) D, fun σ' H' q => ⟨n, Nat.lt_succ_self n, q⟩, s2, τ, rfl, ok2, re1.mono ok1 e2, ?_⟩
      dsimp only at p2
      cases q2 : m τ s2.w with
      | next τ2 w3 =>
        rw [q2] at p2
        exact fun s3 σ3 e3 ok3 hw re3 => ⟨s3, τ2, rfl, ok3, re3, by rw [hw]; exact PostS.ext e3 p2⟩
      | cnt τ2 w3 =>
        rw [q2] at p2
        exact fun s3 σ3 e3 ok3 hw re3 => ⟨s3, τ2, rfl, ok3, re3, by rw [hw]; exact PostS.ext e3 p2⟩
      | brk τ2 w3 => rw [q2] at p2; exact p2
      | ret d w3 => rw [q2] at p2; exact p2
      | err c fs w3 => rw [q2] at p2; exact p2
      | stuck => rw [q2] at p2; exact p2.elim
end
end Si

set_option Elab.async false
set_option linter.all false
set_option autoImplicit false
set_option maxRecDepth 100000
set_option maxHeartbeats 4000000
/-! Si8: comprehensions; own defs; lists that change; join. -/
namespace Si
open PySem L2 PyProof.Rows
/-! ### comprehensions -/
def lcL (own : List Nat) (f : D → En → Wd → Option En) (mt : En → Wd → R Bool) (me : En → Wd → R D) (σd : En) : List D → List D → Wd → R (List D)
  | [], acc, w => .ok acc w
  | d :: r, acc, w => match f d (wipeD σd own) w with
    | none => .stuck
    | some σ1 => match mt σ1 w with
      | .ok true w1 => match me σ1 w1 with
        | .ok y w2 => if acc.length < 16777216 then lcL own f mt me σd r (acc ++ [y]) w2 else .stuck
        | _ => .stuck
      | .ok false w1 => lcL own f mt me σd r acc w1
      | _ => .stuck
def mLc (it : En → Wd → R (List D)) (own : List Nat) (f : D → En → Wd → Option En) (mt : En → Wd → R Bool) (me : En → Wd → R D) : En → Wd → R D := fun σd w => (it σd w).bind fun ds w1 => (lcL own f mt me σd ds [] w1).bind fun xs w2 => .ok (.lst xs) w2
def mLcM (it : En → Wd → R (List D)) (own : List Nat) (f : D → En → Wd → Option En) (mt : En → Wd → R Bool) (me : En → Wd → R D) : En → Wd → R D := fun σd w => (it σd w).bind fun ds w1 => (lcL own f mt me σd ds [] w1).bind fun xs w2 => .ok (.obj w2.length) (w2 ++ [.lst xs])
def bYes : En → Wd → R Bool := fun _ w => .ok true w
theorem wipe_get (σ : L2.St) : ∀ (vs : List Nat) (j : Nat), (L2.wipe σ vs)[j]? = if j ∈ vs ∧ j < σ.length then some none else σ[j]?
  | [], j => by simp [L2.wipe]
  | v :: vs, j => by
    have ih := wipe_get σ vs j
    show ((L2.wipe σ vs).set v none)[j]? = _
    by_cases e : v = j
    · subst e
      by_cases hl : v < σ.length
      · rw [List.getElem?_set_self (by rw [L2.wipe_length]; exact hl), if_pos ⟨List.mem_cons_self, hl⟩]
      · rw [List.getElem?_eq_none_iff.mpr (by rw [List.length_set, L2.wipe_length]; omega), if_neg (fun z => hl z.2), List.getElem?_eq_none_iff.mpr (by omega)]
    · rw [List.getElem?_set_ne e, ih]
      by_cases hm : j ∈ vs ∧ j < σ.length
      · rw [if_pos hm, if_pos ⟨List.mem_cons_of_mem _ hm.1, hm.2⟩]
      · rw [if_neg hm, if_neg (fun z => hm ⟨(List.mem_cons.mp z.1).resolve_left (Ne.symm e), z.2⟩)]
theorem wipe_of {σ σ2 : L2.St} {vs sl : List Nat} (hl : σ2.length = (L2.wipe σ vs).length) (h : ∀ j, j ∉ sl → σ2[j]? = (L2.wipe σ vs)[j]?) (hs : ∀ j ∈ sl, j ∈ vs) : L2.wipe σ2 vs = L2.wipe σ vs := by
  rw [L2.wipe_length] at hl
  apply List.ext_getElem?
  intro j
  rw [wipe_get, wipe_get, hl]
  by_cases hm : j ∈ vs ∧ j < σ.length
  · rw [if_pos hm, if_pos hm]
  · rw [if_neg hm, if_neg hm]
    by_cases hj : j ∈ vs
    · have hn : σ.length ≤ j := Nat.le_of_not_lt fun z => hm ⟨hj, z⟩
      rw [List.getElem?_eq_none_iff.mpr (by omega), List.getElem?_eq_none_iff.mpr hn]
    · rw [h j fun z => hj (hs j z), wipe_get, if_neg (fun z => hj z.1)]
section
variable {K : PySem.W.Frag} {cl : Str → Option Addr} {s s0 s1 : S}
/-- a thing of one's own that no one else sees is changed -/
def S.prv (s : S) (q : Addr) (o : HO) : S := ⟨s.F, s.ρ, s.w, upd s.H q o⟩
mutual
theorem Rep.prv {q : Addr} {o : HO} (hF : ¬ s.F q) : ∀ {v : V} {d : D}, Rep K s v d → Rep K (s.prv q o) v d
  | _, _, .non => .non
  | _, _, .bl b => .bl b
  | _, _, .int i => .int i
  | _, _, .str x => .str x
  | _, _, .lst hF1 h r => .lst hF1 ((upd_ne fun z => hF (by rw [← z]; exact hF1)).trans h) (RepA.prv hF r)
  | _, _, .tup h r => .tup (h.imp (fun x => ⟨x.1, (upd_ne fun z => hF (by rw [← z]; exact x.1)).trans x.2⟩) id) (RepA.prv hF r)
  | _, _, .obj h => .obj h
  | _, _, .scr h => .scr (h.imp (fun x => ⟨x.1, x.2.imp fun _ y => (upd_ne fun z => hF (by rw [← z]; exact x.1)).trans y⟩) id)
theorem RepA.prv {q : Addr} {o : HO} (hF : ¬ s.F q) : ∀ {vs : List V} {ds : List D}, RepA K s vs ds → RepA K (s.prv q o) vs ds
  | _, _, .nil => .nil
  | _, _, .cons h r => .cons (Rep.prv hF h) (RepA.prv hF r)
end
theorem RepF.prv {q : Addr} {o : HO} (hF : ¬ s.F q) : ∀ {ps : List (Str × V)} {qs : List (Str × D)}, RepF K s ps qs → RepF K (s.prv q o) ps qs
  | [], [], _ => trivial
  | _ :: _, _ :: _, h => ⟨h.1, h.2.1.prv hF, RepF.prv hF h.2.2⟩
  | [], _ :: _, h => h.elim
  | _ :: _, [], h => h.elim
theorem S.prv_ok {q : Addr} {o : HO} (ok : Ok K cl s) (hF : ¬ s.F q) (hρ : q ∉ s.ρ) : Ok K cl (s.prv q o) := by
  refine ⟨ok.len, ok.nd, fun a ha => upd_there (ok.trk a ha), fun a ha => upd_there (ok.frz a ha), fun n a m hn hm => ?_, fun a hl ha => ok.dead a hl ha⟩
  have r := ok.cell n a m hn hm
  have ne : a ≠ q := fun z => hρ (by rw [← z]; exact List.mem_of_getElem? hn)
  cases m with
  | dead => trivial
  | lst xs => obtain ⟨vs, h1, h2⟩ := r; exact ⟨vs, (upd_ne ne).trans h1, h2.prv hF⟩
  | ins c fs => obtain ⟨C, dx, vfs, h0, h1, h2⟩ := r; exact ⟨C, dx, vfs, h0, (upd_ne ne).trans h1, h2.prv hF⟩
theorem S.prv_ext {q : Addr} {o : HO} (e : Ext s0 s) (h0 : s0.H q = none) : Ext s0 (s.prv q o) :=
  ⟨e.F, e.ρ, e.w, fun a u h nl => by
    show upd s.H q o a = some u
    rw [upd_ne (ne_of_none h h0)]; exact e.keep a u h nl, fun a h => upd_there (e.there a h), e.fnew⟩
theorem Ext.notF (e : Ext s s1) {q : Addr} (hF : ¬ s.F q) (hρ : q ∉ s.ρ) (hH : s.H q ≠ none) : ¬ s1.F q ∧ q ∉ s1.ρ := by
  refine ⟨fun h => ?_, fun h => ?_⟩
  · rcases e.fnew q h with h | h | h
    · exact hF h
    · exact hH h
    · exact hρ h
  · obtain ⟨l, h1, h2⟩ := e.ρ
    rw [h1] at h
    rcases List.mem_append.mp h with h | h
    · exact hρ h
    · exact hH (h2 q h)
/-- a thing of one's own is now for all to see, for good; or as a cell -/
def S.own (s : S) (q : Addr) : S := ⟨fun a => s.F a ∨ a = q, s.ρ, s.w, s.H⟩
theorem S.own_ext {q : Addr} (e : Ext s0 s) (h0 : s0.H q = none) : Ext s0 (s.own q) :=
  ⟨fun a h => .inl (e.F a h), e.ρ, e.w, e.keep, e.there, fun a h => by
    rcases h with h | h
    · exact e.fnew a h
    · subst h; exact .inr (.inl h0)⟩
mutual
theorem Rep.own {q : Addr} : ∀ {v : V} {d : D}, Rep K s v d → Rep K (s.own q) v d
  | _, _, .non => .non
  | _, _, .bl b => .bl b
  | _, _, .int i => .int i
  | _, _, .str x => .str x
  | _, _, .lst hF1 h r => .lst (.inl hF1) h (RepA.own r)
  | _, _, .tup h r => .tup (h.imp (fun x => ⟨.inl x.1, x.2⟩) id) (RepA.own r)
  | _, _, .obj h => .obj h
  | _, _, .scr h => .scr (h.imp (fun x => ⟨.inl x.1, x.2⟩) id)
theorem RepA.own {q : Addr} : ∀ {vs : List V} {ds : List D}, RepA K s vs ds → RepA K (s.own q) vs ds
  | _, _, .nil => .nil
  | _, _, .cons h r => .cons (Rep.own h) (RepA.own r)
end
theorem RepF.own {q : Addr} : ∀ {ps : List (Str × V)} {qs : List (Str × D)}, RepF K s ps qs → RepF K (s.own q) ps qs
  | [], [], _ => trivial
  | _ :: _, _ :: _, h => ⟨h.1, h.2.1.own, RepF.own h.2.2⟩
  | [], _ :: _, h => h.elim
  | _ :: _, [], h => h.elim
theorem S.own_ok {q : Addr} (ok : Ok K cl s) (hH : s.H q ≠ none) (hρ : q ∉ s.ρ) : Ok K cl (s.own q) := by
  refine ⟨ok.len, ok.nd, ok.trk, fun a ha => ?_, fun n a m hn hm => ?_, fun a hl ha => ?_⟩
  · rcases ha with ha | ha
    · exact ok.frz a ha
    · subst ha; exact hH
  · have r := ok.cell n a m hn hm
    cases m with
    | dead => trivial
    | lst xs => obtain ⟨vs, h1, h2⟩ := r; exact ⟨vs, h1, h2.own⟩
    | ins c fs => obtain ⟨C, dx, vfs, h0, h1, h2⟩ := r; exact ⟨C, dx, vfs, h0, h1, h2.own⟩
  · rcases ha with ha | ha
    · exact ok.dead a hl ha
    · subst ha
      obtain ⟨n, hn, _⟩ := hl
      exact hρ (List.mem_of_getElem? hn)
end
section
variable {X : Cx} {cl : Str → Option Addr} {EK : XK} {a b c e elt tg iter : Expr} {ma mb mc : En → Wd → R D} {na nb : En → Wd → R Bool} {mas : En → Wd → R (List D)} {pos p : Pos}
abbrev E00 : XK := fun _ _ _ => False
def STs (X : Cx) (cl : Str → Option Addr) (EK : XK) (ifs : List Expr) (m : En → Wd → R Bool) : Prop := PTs X ifs (tG X.K cl repB EK m)
theorem PTs.weak {ifs : List Expr} {t t' : TT} (h : PTs X ifs t) (i : ∀ σ H Q, t' σ H Q → t σ H Q) : PTs X ifs t' := ⟨fun pins s σ H Q I q => h.run pins s σ H Q I (i σ H Q q)⟩
theorem sts_nil : STs X cl EK [] bYes := PTs.weak pts_nil fun σ H Q h => by
  obtain ⟨s, σd, e, ok, re, p⟩ := h
  subst e
  exact p s true (Ext.refl s) ok rfl rfl
theorem sts_one (h : ST X cl EK c na) : STs X cl EK [c] na := pts_one h
/-- the loop of a comprehension: Qf what is wanted of the list made -/
theorem lc_core {K : PySem.W.Frag} {sl : List Nat} {own : List (Str × Nat)} {mi : En → Wd → R (List D)} {f : D → En → Wd → Option En} {mt : En → Wd → R Bool} {me : En → Wd → R D} (hsl : ∀ j ∈ sl, j ∈ own.map (·.2)) {σ : L2.St} {σd : En} {s : S} {Q : VK} (ok : Ok K cl s) (re : RepE K s σ σd)
    (Fin : List D → Wd → R D) (p : Post K cl (Rep K) EK s ((mi σd s.w).bind fun ds w1 => (lcL (own.map (·.2)) f mt me σd ds [] w1).bind Fin) Q)
    (fin : ∀ s0 s1 q vs xs, Ext s0 s1 → Ok K cl s1 → s0.H q = none → ¬ s1.F q → q ∉ s1.ρ → s1.H q = some (.lst vs) → RepA K s1 vs xs → Post K cl (Rep K) EK s0 (Fin xs s1.w) Q → Q (.ref q) s1.H) :
    tLc (tG K cl (repIt K cl) EK mi) (tTg K cl sl f) (tG K cl repB E00 mt) (tG K cl (Rep K) E00 me) (own.map (·.2)) σ s.H Q := by
  refine tG_of ok re (post_bind p fun s0 J ds ex0 ok0 rJ p0 => ?_)
  intro q hq
  have hF0 : ¬ s0.F q := fun z => ok0.frz q z hq
  have hρ0 : q ∉ s0.ρ := fun z => ok0.trk q z hq
  have re0 := re.mono ok ex0
  refine ⟨fun i mm H => ∃ s1 acc vs, mm = ds.length - i ∧ i ≤ ds.length ∧ s1.H = H ∧ Ext s0 s1 ∧ Ok K cl s1 ∧ ¬ s1.F q ∧ q ∉ s1.ρ ∧ s1.H q = some (.lst vs) ∧ RepA K s1 vs acc ∧ Post K cl (Rep K) EK s0 ((lcL (own.map (·.2)) f mt me σd (ds.drop i) acc s1.w).bind Fin) Q,
    ⟨ds.length, s0.prv q (.lst []), [], [], by simp, Nat.zero_le _, rfl, S.prv_ext (Ext.refl s0) hq, S.prv_ok ok0 hF0 hρ0, hF0, hρ0, upd_same, .nil, p0⟩, ?_⟩
  rintro i mm H1 ⟨s1, acc, vs, rfl, hle, rfl, e1, ok1, hF1, hρ1, hq1, ra, p1⟩
  obtain ⟨go, yl, stop⟩ := rJ s1 e1 ok1
  by_cases hlt : i < ds.length
  · have hd : ds.drop i = ds[i] :: ds.drop (i + 1) := List.drop_eq_getElem_cons hlt
    rw [hd] at p1
    refine .inr ⟨go i hlt, fun H' => ∃ s2 acc2 vs2, s2.H = H' ∧ Ext s0 s2 ∧ Ok K cl s2 ∧ ¬ s2.F q ∧ q ∉ s2.ρ ∧ s2.H q = some (.lst vs2) ∧ RepA K s2 vs2 acc2 ∧ Post K cl (Rep K) EK s0 ((lcL (own.map (·.2)) f mt me σd (ds.drop (i + 1)) acc2 s2.w).bind Fin) Q,
      fun H' ⟨s2, acc2, vs2, b1, b2, b3, b4, b5, b6, b7, b8⟩ => ⟨ds.length - (i + 1), by omega, s2, acc2, vs2, rfl, hlt, b1, b2, b3, b4, b5, b6, b7, b8⟩, fun x H' hy => ?_⟩
    obtain ⟨s2, rfl, e2, ok2, w2, r2⟩ := yl i x H' ds[i] hy (List.getElem?_eq_getElem hlt)
    have nl : ¬ live s1 q := fun ⟨n, hn, _⟩ => hρ1 (List.mem_of_getElem? hn)
    have k2 := e2.notF hF1 hρ1 (by rw [hq1]; simp)
    have re2 : RepE K s2 (L2.wipe σ (own.map (·.2))) (wipeD σd (own.map (·.2))) := (re0.mono ok0 (e1.trans e2)).wipe _
    refine ⟨s2, _, ds[i], rfl, ok2, re2, r2, ?_⟩
    rw [w2]
    unfold lcL at p1
    cases q1 : f ds[i] (wipeD σd (own.map (·.2))) s1.w with
    | none => rw [q1] at p1; exact p1.elim
    | some τ1 =>
      rw [q1] at p1
      dsimp only at p1 ⊢
      intro σ' re' hl' hk'
      refine ⟨wipe_of hl' hk' hsl, s2, τ1, rfl, ok2, re', ?_⟩
      rw [w2]
      cases q2 : mt τ1 s1.w with
      | ok bb w3 =>
        rw [q2] at p1
        intro s3 b3 e3 ok3 hw rb
        subst rb
        have nl2 : ¬ live s2 q := fun ⟨n, hn, _⟩ => k2.2 (List.mem_of_getElem? hn)
        have k3 := e3.notF k2.1 k2.2 (by rw [e2.keep q _ hq1 nl]; simp)
        have nl3 : ¬ live s3 q := fun ⟨n, hn, _⟩ => k3.2 (List.mem_of_getElem? hn)
        have hq3 := e3.keep q _ (e2.keep q _ hq1 nl) nl2
        have ra3 := (ra.mono ok1 e2).mono ok2 e3
        cases b3 with
        | false => exact iteF ⟨s3, acc, vs, rfl, (e1.trans e2).trans e3, ok3, k3.1, k3.2, hq3, ra3, by rw [hw]; exact p1⟩
        | true =>
          refine iteT ⟨s3, τ1, rfl, ok3, re'.mono ok2 e3, ?_⟩
          rw [hw]
          dsimp only at p1
          cases q3 : me τ1 w3 with
          | ok y w4 =>
            rw [q3] at p1
            dsimp only at p1
            split at p1
            · rename_i hlen
              intro s4 v4 e4 ok4 hw4 r4
              have k4 := e4.notF k3.1 k3.2 (by rw [hq3]; simp)
              have hq4 := e4.keep q _ hq3 nl3
              have ra4 := ra3.mono ok3 e4
              refine ⟨vs, hq4, by rw [ra.length, sizeLine_eq]; exact hlen, s4.prv q (.lst (vs ++ [v4])), acc ++ [y], vs ++ [v4], rfl, S.prv_ext (((e1.trans e2).trans e3).trans e4) hq, S.prv_ok ok4 k4.1 k4.2, k4.1, k4.2, upd_same, (ra4.append (.cons r4 .nil)).prv k4.1, ?_⟩
              show Post K cl (Rep K) EK s0 ((lcL (own.map (·.2)) f mt me σd (ds.drop (i + 1)) (acc ++ [y]) s4.w).bind Fin) Q
              rw [hw4]
              exact p1
            · exact p1.elim
          | err c fs w4 => rw [q3] at p1; exact p1.elim
          | stuck => rw [q3] at p1; exact p1.elim
      | err c fs w3 => rw [q2] at p1; exact p1.elim
      | stuck => rw [q2] at p1; exact p1.elim
  · have hi' : i = ds.length := by omega
    subst hi'
    rw [List.drop_length] at p1
    exact .inl ⟨stop, fin s0 s1 q vs acc e1 ok1 hq hF1 hρ1 hq1 ra p1⟩
theorem lc_finL {K : PySem.W.Frag} {Q : VK} : ∀ (s0 s1 : S) (q : Addr) (vs : List V) (xs : List D), Ext s0 s1 → Ok K cl s1 → s0.H q = none → ¬ s1.F q → q ∉ s1.ρ → s1.H q = some (.lst vs) → RepA K s1 vs xs → Post K cl (Rep K) EK s0 (.ok (.lst xs) s1.w) Q → Q (.ref q) s1.H :=
  fun s0 s1 q vs xs e ok h0 hF hρ hq ra p => p (s1.own q) _ (S.own_ext e h0) (S.own_ok ok (by rw [hq]; simp) hρ) rfl (.lst (.inr rfl) hq ra.own)
/-- .. the new list as a cell -/
def S.ownC (s : S) (q : Addr) (m : MO) : S := ⟨s.F, s.ρ ++ [q], s.w ++ [m], s.H⟩
mutual
theorem Rep.ownC {K : PySem.W.Frag} {s : S} {q : Addr} {m : MO} : ∀ {v : V} {d : D}, Rep K s v d → Rep K (s.ownC q m) v d
  | _, _, .non => .non
  | _, _, .bl b => .bl b
  | _, _, .int i => .int i
  | _, _, .str x => .str x
  | _, _, .lst hF1 h r => .lst hF1 h (RepA.ownC r)
  | _, _, .tup h r => .tup h (RepA.ownC r)
  | _, _, .obj h => .obj (by show (s.ρ ++ [q])[_]? = _; rw [List.getElem?_append_left (List.getElem?_eq_some_iff.mp h).1]; exact h)
  | _, _, .scr h => .scr h
theorem RepA.ownC {K : PySem.W.Frag} {s : S} {q : Addr} {m : MO} : ∀ {vs : List V} {ds : List D}, RepA K s vs ds → RepA K (s.ownC q m) vs ds
  | _, _, .nil => .nil
  | _, _, .cons h r => .cons (Rep.ownC h) (RepA.ownC r)
end
theorem lc_finM {K : PySem.W.Frag} {Q : VK} : ∀ (s0 s1 : S) (q : Addr) (vs : List V) (xs : List D), Ext s0 s1 → Ok K cl s1 → s0.H q = none → ¬ s1.F q → q ∉ s1.ρ → s1.H q = some (.lst vs) → RepA K s1 vs xs → Post K cl (Rep K) EK s0 (.ok (.obj s1.w.length) (s1.w ++ [.lst xs])) Q → Q (.ref q) s1.H := by
  intro s0 s1 q vs xs e ok h0 hF hρ hq ra p
  obtain ⟨l, hl, hn⟩ := e.ρ
  have up : ∀ {v : V} {d : D}, Rep K s1 v d → Rep K (s1.ownC q (.lst xs)) v d := Rep.ownC
  have upA : ∀ {vs : List V} {ds : List D}, RepA K s1 vs ds → RepA K (s1.ownC q (.lst xs)) vs ds := RepA.ownC
  have upF : ∀ (ps : List (Str × V)) (qs : List (Str × D)), RepF K s1 ps qs → RepF K (s1.ownC q (.lst xs)) ps qs := by
    intro ps
    induction ps with
    | nil => intro qs h; cases qs with | nil => trivial | cons _ _ => exact h.elim
    | cons x t ih => intro qs h; cases qs with | nil => exact h.elim | cons y u => exact ⟨h.1, up h.2.1, ih u h.2.2⟩
  have split : ∀ (n : Nat) (a : Addr), (s1.ρ ++ [q])[n]? = some a → (s1.ρ[n]? = some a ∧ (s1.w ++ [MO.lst xs])[n]? = s1.w[n]?) ∨ (n = s1.ρ.length ∧ a = q ∧ (s1.w ++ [MO.lst xs])[n]? = some (MO.lst xs)) := fun n a hn => by
    by_cases hl : n < s1.ρ.length
    · rw [List.getElem?_append_left hl] at hn
      exact .inl ⟨hn, List.getElem?_append_left (by rw [← ok.len]; exact hl)⟩
    · have e : n = s1.ρ.length := by
        have := (List.getElem?_eq_some_iff.mp hn).1
        rw [List.length_append, List.length_singleton] at this
        omega
      subst e
      rw [List.getElem?_append_right (Nat.le_refl _), Nat.sub_self] at hn
      have e2 : q = a := Option.some.inj hn
      refine .inr ⟨rfl, e2.symm, ?_⟩
      rw [List.getElem?_append_right (by rw [ok.len]; exact Nat.le_refl _), ok.len, Nat.sub_self]
      rfl
  refine p (s1.ownC q (.lst xs)) _ ?_ ?_ rfl (.obj ?_)
  · refine ⟨e.F, ⟨l ++ [q], by show s1.ρ ++ [q] = _; rw [hl, List.append_assoc], fun a ha => ?_⟩, fun n h => ?_, e.keep, e.there, e.fnew⟩
    · rcases List.mem_append.mp ha with ha | ha
      · exact hn a ha
      · rw [List.mem_singleton.mp ha]; exact h0
    · have := e.w n h
      show (s1.w ++ [MO.lst xs])[n]? = some MO.dead
      rw [List.getElem?_append_left (List.getElem?_eq_some_iff.mp this).1]; exact this
  · refine ⟨?_, ?_, fun a ha => ?_, ok.frz, fun n a m hn hm => ?_, fun a hv ha => ?_⟩
    · show (s1.ρ ++ [q]).length = (s1.w ++ [MO.lst xs]).length
      rw [List.length_append, List.length_append, ok.len]; rfl
    · refine List.nodup_append.mpr ⟨ok.nd, by simp, fun a ha b hb => ?_⟩
      rw [List.mem_singleton.mp hb]
      exact fun z => hρ (by rw [← z]; exact ha)
    · rcases List.mem_append.mp ha with ha | ha
      · exact ok.trk a ha
      · rw [List.mem_singleton.mp ha]; show s1.H q ≠ none; rw [hq]; simp
    · rcases split n a hn with ⟨h1, h2⟩ | ⟨_, rfl, h2⟩
      · have hm' : s1.w[n]? = some m := by rw [← h2]; exact hm
        have r := ok.cell n a m h1 hm'
        cases m with
        | dead => trivial
        | lst ys => obtain ⟨us, g1, g2⟩ := r; exact ⟨us, g1, upA g2⟩
        | ins c fs => obtain ⟨C, dx, vfs, g0, g1, g2⟩ := r; exact ⟨C, dx, vfs, g0, g1, upF _ _ g2⟩
      · have em : m = .lst xs := by
          change (s1.w ++ [MO.lst xs])[n]? = some m at hm
          rw [h2] at hm; exact (Option.some.inj hm).symm
        subst em
        exact ⟨vs, hq, upA ra⟩
    · obtain ⟨n, hn, hd⟩ := hv
      rcases split n a hn with ⟨h1, h2⟩ | ⟨_, rfl, _⟩
      · exact ok.dead a ⟨n, h1, fun z => hd (by
          show (s1.w ++ [MO.lst xs])[n]? = some MO.dead
          rw [h2]; exact z)⟩ ha
      · exact hF ha
  · show (s1.ρ ++ [q])[s1.w.length]? = some q
    rw [← ok.len, List.getElem?_append_right (Nat.le_refl _), Nat.sub_self]
    rfl
theorem se_lc {sl : List Nat} {ifs : List Expr} {scope : Scope} {own : List (Str × Nat)} {mi : En → Wd → R (List D)} {f : D → En → Wd → Option En} {mt : En → Wd → R Bool} {me : En → Wd → R D} (hc : X.calm = true) (hN : X.N.Nodup) (hi : SI X cl EK tg iter mi) (ok : BlkOk X.N X.env.scope scope own)
    (hg : ∀ (s : Shared) (H : Hp) (C : Addr) (cc : List (Str × Addr)) (fp : List Addr), SG (X.blk s H scope (compEnvC scope cc C X.env) fp) cl tg sl f) (ht : ∀ (s : Shared) (H : Hp) (C : Addr) (cc : List (Str × Addr)) (fp : List Addr), STs (X.blk s H scope (compEnvC scope cc C X.env) fp) cl E00 ifs mt)
    (he : ∀ (s : Shared) (H : Hp) (C : Addr) (cc : List (Str × Addr)) (fp : List Addr), SE (X.blk s H scope (compEnvC scope cc C X.env) fp) cl E00 elt me) (hsl : ∀ j ∈ sl, j ∈ own.map (·.2) := by decide) (hs : ∀ x, foldedSetIterable iter X.env x = pure x := by intro _; rfl) :
    SE X cl EK (.ListComp elt [⟨tg, iter, ifs, 0⟩] scope pos) (mLc mi (own.map (·.2)) f mt me) :=
  PE.weak (pe_lc (g := tTg X.K cl sl f) (tt := tG X.K cl repB E00 mt) (te := tG X.K cl (Rep X.K) E00 me) hc hN hi ok hg ht he hs) fun σ H Q ⟨s, σd, e, ok, re, p⟩ => by
    subst e
    exact lc_core hsl ok re (fun xs w2 => .ok (.lst xs) w2) p lc_finL
theorem se_lcM {sl : List Nat} {ifs : List Expr} {scope : Scope} {own : List (Str × Nat)} {mi : En → Wd → R (List D)} {f : D → En → Wd → Option En} {mt : En → Wd → R Bool} {me : En → Wd → R D} (hc : X.calm = true) (hN : X.N.Nodup) (hi : SI X cl EK tg iter mi) (ok : BlkOk X.N X.env.scope scope own)
    (hg : ∀ (s : Shared) (H : Hp) (C : Addr) (cc : List (Str × Addr)) (fp : List Addr), SG (X.blk s H scope (compEnvC scope cc C X.env) fp) cl tg sl f) (ht : ∀ (s : Shared) (H : Hp) (C : Addr) (cc : List (Str × Addr)) (fp : List Addr), STs (X.blk s H scope (compEnvC scope cc C X.env) fp) cl E00 ifs mt)
    (he : ∀ (s : Shared) (H : Hp) (C : Addr) (cc : List (Str × Addr)) (fp : List Addr), SE (X.blk s H scope (compEnvC scope cc C X.env) fp) cl E00 elt me) (hsl : ∀ j ∈ sl, j ∈ own.map (·.2) := by decide) (hs : ∀ x, foldedSetIterable iter X.env x = pure x := by intro _; rfl) :
    SE X cl EK (.ListComp elt [⟨tg, iter, ifs, 0⟩] scope pos) (mLcM mi (own.map (·.2)) f mt me) :=
  PE.weak (pe_lc (g := tTg X.K cl sl f) (tt := tG X.K cl repB E00 mt) (te := tG X.K cl (Rep X.K) E00 me) hc hN hi ok hg ht he hs) fun σ H Q ⟨s, σd, e, ok, re, p⟩ => by
    subst e
    exact lc_core hsl ok re (fun xs w2 => .ok (.obj w2.length) (w2 ++ [MO.lst xs])) p lc_finM
/-- name = [..] -/
theorem ss_setLc {i : Nat} {y : Str} {py spos : Pos} {sl : List Nat} {ifs : List Expr} {scope : Scope} {own : List (Str × Nat)} {mi : En → Wd → R (List D)} {f : D → En → Wd → Option En} {mt : En → Wd → R Bool} {me : En → Wd → R D} (hc : X.calm = true) (hN : X.N.Nodup) (hy : X.N[i]? = some y) (hyl : X.env.scope.names.lookup y = some .local)
    (hsw : swapsWith (.ListComp elt [⟨tg, iter, ifs, 0⟩] scope pos) (some (.Name y py)) spos.line X.env = pure true) (hi : SI X cl EK tg iter mi) (ok : BlkOk X.N X.env.scope scope own)
    (hg : ∀ (s : Shared) (H : Hp) (C : Addr) (cc : List (Str × Addr)) (fp : List Addr), SG (X.blk s H scope (compEnvC scope cc C X.env) fp) cl tg sl f) (ht : ∀ (s : Shared) (H : Hp) (C : Addr) (cc : List (Str × Addr)) (fp : List Addr), STs (X.blk s H scope (compEnvC scope cc C X.env) fp) cl E00 ifs mt)
    (he : ∀ (s : Shared) (H : Hp) (C : Addr) (cc : List (Str × Addr)) (fp : List Addr), SE (X.blk s H scope (compEnvC scope cc C X.env) fp) cl E00 elt me) (hsl : ∀ j ∈ sl, j ∈ own.map (·.2) := by decide) (hs : ∀ x, foldedSetIterable iter X.env x = pure x := by intro _; rfl) :
    SS X cl EK (.Assign [.Name y py] (.ListComp elt [⟨tg, iter, ifs, 0⟩] scope pos) spos) (mAsg (mLc mi (own.map (·.2)) f mt me) (gNm i)) :=
  PS.weak (ps_setLc (g := tTg X.K cl sl f) (tt := tG X.K cl repB E00 mt) (te := tG X.K cl (Rep X.K) E00 me) hc hN hy hyl hsw hi ok hg ht he hs) fun D σ H ⟨s, σd, e, ok, re, p⟩ => by
    subst e
    refine lc_core (EK := EK) (cl := cl) hsl ok re (fun xs w2 => .ok (.lst xs) w2) (Q := fun x H1 => D.nx (σ.set i (some x)) H1) ?_ lc_finL
    exact posts_bind (rep := Rep X.K) p fun s' v d ex ok' r p' => p' s' _ (Ext.refl s') ok' rfl ((re.mono ok ex).set i r)
theorem ss_setLcM {i : Nat} {y : Str} {py spos : Pos} {sl : List Nat} {ifs : List Expr} {scope : Scope} {own : List (Str × Nat)} {mi : En → Wd → R (List D)} {f : D → En → Wd → Option En} {mt : En → Wd → R Bool} {me : En → Wd → R D} (hc : X.calm = true) (hN : X.N.Nodup) (hy : X.N[i]? = some y) (hyl : X.env.scope.names.lookup y = some .local)
    (hsw : swapsWith (.ListComp elt [⟨tg, iter, ifs, 0⟩] scope pos) (some (.Name y py)) spos.line X.env = pure true) (hi : SI X cl EK tg iter mi) (ok : BlkOk X.N X.env.scope scope own)
    (hg : ∀ (s : Shared) (H : Hp) (C : Addr) (cc : List (Str × Addr)) (fp : List Addr), SG (X.blk s H scope (compEnvC scope cc C X.env) fp) cl tg sl f) (ht : ∀ (s : Shared) (H : Hp) (C : Addr) (cc : List (Str × Addr)) (fp : List Addr), STs (X.blk s H scope (compEnvC scope cc C X.env) fp) cl E00 ifs mt)
    (he : ∀ (s : Shared) (H : Hp) (C : Addr) (cc : List (Str × Addr)) (fp : List Addr), SE (X.blk s H scope (compEnvC scope cc C X.env) fp) cl E00 elt me) (hsl : ∀ j ∈ sl, j ∈ own.map (·.2) := by decide) (hs : ∀ x, foldedSetIterable iter X.env x = pure x := by intro _; rfl) :
    SS X cl EK (.Assign [.Name y py] (.ListComp elt [⟨tg, iter, ifs, 0⟩] scope pos) spos) (mAsg (mLcM mi (own.map (·.2)) f mt me) (gNm i)) :=
  PS.weak (ps_setLc (g := tTg X.K cl sl f) (tt := tG X.K cl repB E00 mt) (te := tG X.K cl (Rep X.K) E00 me) hc hN hy hyl hsw hi ok hg ht he hs) fun D σ H ⟨s, σd, e, ok, re, p⟩ => by
    subst e
    refine lc_core (EK := EK) (cl := cl) hsl ok re (fun xs w2 => .ok (.obj w2.length) (w2 ++ [MO.lst xs])) (Q := fun x H1 => D.nx (σ.set i (some x)) H1) ?_ lc_finM
    exact posts_bind (rep := Rep X.K) p fun s' v d ex ok' r p' => p' s' _ (Ext.refl s') ok' rfl ((re.mono ok ex).set i r)
/-! ### own defs -/
def spOf (K : PySem.W.Frag) (cl : Str → Option Addr) (G : List D → Wd → R D) : Sp := fun vs H Q E => ∃ s ds, s.H = H ∧ Ok K cl s ∧ RepA K s vs ds ∧ Post K cl (Rep K) E s (G ds s.w) Q
/-- the def f of the text does what G says -/
abbrev SF (P : Program) (w : World) (K : PySem.W.Frag) (cl : Str → Option Addr) (mg : Str → Option Value) (base : Heap) (k : Nat) (f : Addr) (fd : FuncData) (ps : List Str) (G : List D → Wd → R D) : Prop := FnOk P w K mg base (L2.CX P w) k f fd ps (spOf K cl G)
theorem SF.imp {P : Program} {w : World} {K : PySem.W.Frag} {mg : Str → Option Value} {base : Heap} {k : Nat} {f : Addr} {fd : FuncData} {ps : List Str} {G G' : List D → Wd → R D} (F : SF P w K cl mg base k f fd ps G) (h : ∀ ds w, G' ds w = .stuck ∨ G' ds w = G ds w) : SF P w K cl mg base k f fd ps G' :=
  FnOk.imp F fun vs H Q E ⟨s, ds, a, b, c, p⟩ => ⟨s, ds, a, b, c, by
    rcases h ds s.w with e | e
    · rw [e] at p; exact p.elim
    · rw [e] at p; exact p⟩
theorem se_fn {k : Nat} {f : Addr} {fd : FuncData} {ps : List Str} {G : List D → Wd → R D} {x : Str} {es : List Expr} (F : SF X.prog X.w X.K cl X.mg X.base k f fd ps G) (hr : Room k X.A) (hg : Gl X x) (hm : X.mg x = some (.ref f)) (hk : PySem.W.keepIn X.K (.ref f) = true) (hb : Binds X.K fd ps []) (hx : Passes (L2.CX X.prog X.w) X EK)
    (ha : SA X cl EK (a :: es) mas) (hdb : (x == ("__debug__" : Str)) = false := by decide) (he : starEach (a :: es) X.env = (false, eval a X.env) :: starEach es X.env := by rfl) (hpl : (backTo pos (starEach es X.env)).any (·.1) = false := by rfl) :
    SE X cl EK (.Call (.Name x p) (a :: es) [] pos) (mCall G mas) :=
  PE.weak (pe_call F hr hg hm hk hb .nil hx ha hdb he hpl) fun σ H Q h => tG_imp (tG_bind h) fun xs H1 ⟨s, σd, u, e, ok, re, ru, p⟩ => by
    subst e
    exact ⟨s, u, rfl, ok, by rw [List.append_nil]; exact ru, p⟩
def startD (n : Nat) (ds : List D) : En := ds.map some ++ List.replicate (n - ds.length) none
/-- what a def's body makes of its arguments: n names, k of them parameters -/
def fnD (n k : Nat) (m : En → Wd → SR) : List D → Wd → R D := fun ds w => if ds.length = k then (match m (startD n ds) w with
  | .next _ w1 => .ok .non w1
  | .ret d w1 => .ok d w1
  | .err c fs w1 => .err c fs w1
  | _ => .stuck) else .stuck
theorem start_rep {K : PySem.W.Frag} {s : S} {vs : List V} {ds : List D} (r : RepA K s vs ds) (N : List Str) : RepE K s (L2.start N vs) (startD N.length ds) := by
  refine ⟨by unfold L2.start startD; rw [List.length_append, List.length_append, List.length_map, List.length_map, List.length_replicate, List.length_replicate, r.length], fun i d h => ?_⟩
  unfold startD at h
  by_cases hi : i < ds.length
  · rw [List.getElem?_append_left (by rw [List.length_map]; exact hi), List.getElem?_map] at h
    cases q : ds[i]? with
    | none => rw [q] at h; cases h
    | some d0 =>
      rw [q] at h
      cases h
      obtain ⟨v, hv, rv⟩ := r.get q
      refine ⟨v, ?_, rv⟩
      unfold L2.start
      rw [List.getElem?_append_left (by rw [List.length_map, r.length]; exact hi), List.getElem?_map, hv]
      rfl
  · rw [List.getElem?_append_right (by rw [List.length_map]; omega), List.getElem?_replicate] at h
    split at h <;> cases h
theorem sf_mk {P : Program} {w : World} {K : PySem.W.Frag} {mg : Str → Option Value} {base : Heap} {x qual : Str} {st : Stmt} {f : Addr} {fd : FuncData} {N ps : List Str} {k n j : Nat} {m : En → Wd → SR} (F : Fun K x qual st f fd) (S : FnScope N ps (defScope st)) (hn : N.length = n) (hj : ps.length = j)
    (body : ∀ (cdv : Value) (A : Around) (outer : List Env) (s : Shared) (H : Hp) (E : XK), Room k (A.deeper (envOfC qual (defScope st) s.heap.objs.size f cdv)) → SB (cxOf (L2.CX P w) P w K mg base N qual (defScope st) f cdv A outer s H E) cl E (defBody st) m) : SF P w K cl mg base (k + 1) f fd ps (fnD n j m) := by
  refine F.okX S (fun vs H Q E ⟨s, ds, _, _, r, p⟩ => ?_) (fun cdv A outer s H vs Q E hr h => ⟨_, body cdv A outer s H E hr, ?_⟩)
  · rw [r.length]
    by_cases e : ds.length = j
    · rw [e, hj]
    · unfold fnD at p; rw [if_neg e] at p; exact p.elim
  · obtain ⟨s0, ds, e0, ok, r, p⟩ := h
    subst e0
    unfold fnD at p
    by_cases e : ds.length = j
    · rw [if_pos e] at p
      refine ⟨s0, startD n ds, rfl, ok, by rw [← hn]; exact start_rep r N, ?_⟩
      cases q : m (startD n ds) s0.w with
      | next σ1 w1 => rw [q] at p; exact fun s' σ' ex ok' hw re' => p s' .non ex ok' hw .non
      | ret d w1 => rw [q] at p; exact p
      | brk σ1 w1 => rw [q] at p; exact p.elim
      | cnt σ1 w1 => rw [q] at p; exact p.elim
      | err c fs w1 => rw [q] at p; exact p
      | stuck => rw [q] at p; exact p.elim
    · rw [if_neg e] at p; exact p.elim
end
end Si

set_option Elab.async false
set_option linter.all false
set_option autoImplicit false
set_option maxRecDepth 100000
set_option maxHeartbeats 4000000
/-! Si9: lists that change in their cells; join. -/
namespace Si
open PySem L2 PyProof.Rows
section
variable {K : PySem.W.Frag} {cl : Str → Option Addr} {s : S} {EK : XK}
/-- the list in a cell -/
def cellL (u : D) (w : Wd) : Option (Nat × List D) := match u with
  | .obj n => match w[n]? with
    | some (.lst ds) => some (n, ds)
    | _ => none
  | _ => none
theorem cell_of {v : V} {u : D} {n : Nat} {ds : List D} (ok : Ok K cl s) (r : Rep K s v u) (h : cellL u s.w = some (n, ds)) : ∃ a vs, v = .ref a ∧ s.ρ[n]? = some a ∧ s.H a = some (.lst vs) ∧ RepA K s vs ds ∧ s.w[n]? ≠ some MO.dead := by
  unfold cellL at h
  split at h
  · rename_i m
    split at h
    · rename_i ds' hw
      cases h
      cases r with
      | obj hn =>
        obtain ⟨vs, h1, h2⟩ := ok.cell _ _ _ hn hw
        exact ⟨_, vs, rfl, hn, h1, h2, by rw [hw]; simp⟩
    · cases h
  · cases h
theorem post_wr {rep : S → V → D → Prop} {Q : VK} {n : Nat} {a : Addr} {vs : List V} {ds : List D} {d : D} {v : V} (ok : Ok K cl s) (hn : s.ρ[n]? = some a) (hd : s.w[n]? ≠ some MO.dead) (r : RepA K s vs ds) (p : Post K cl rep EK s (.ok d (s.w.set n (.lst ds))) Q) (rv : rep (s.wr n a (.lst vs) (.lst ds)) v d) : Q v (upd s.H a (.lst vs)) := by
  have ex : Ext s (s.wr n a (.lst vs) (.lst ds)) := S.wr_ext ok hn hd
  exact p (s.wr n a (.lst vs) (.lst ds)) v ex (S.wr_ok ok hn hd ⟨vs, upd_same, r.mono ok ex⟩) rfl rv
end
section
variable {X : Cx} {cl : Str → Option Addr} {EK : XK} {a b c o i e : Expr} {ma mb mo mi me : En → Wd → R D} {mas : En → Wd → R (List D)} {pos p apos cpos spos : Pos} {es : List Expr}
/-- o[i] = e -/
def mSetI (me mo mi : En → Wd → R D) : En → Wd → SR := fun σd w => (me σd w).toS fun d w1 => (mo σd w1).toS fun u w2 => (mi σd w2).toS fun j w3 => match cellL u w3, j with
  | some (n, ds), .int k => match ixN ds.length k with
    | some j => .next σd (w3.set n (.lst (ds.set j d)))
    | none => .stuck
  | _, _ => .stuck
theorem ss_setI (he : SE X cl EK e me) (ho : SE X cl EK o mo) (hi : SE X cl EK i mi) (hs : swapsWithSole [.Subscript o i spos] e pos.line X.env = pure false := by rfl) (hw : swappedStores [.Subscript o i spos] e X.env = pure none := by rfl)
    (h1 : (assignEach [.Subscript o i spos] X.env).map (·.2) = [assign (.Subscript o i spos) X.env] := by rfl) (ha : ∀ v, assign (.Subscript o i spos) X.env v = (do
      let ov ← holding [v] (eval o X.env)
      let iv ← holding [v, ov] (eval i X.env)
      standAt spos
      holding [v, ov, iv] (setItem ov iv v)
      release [v, ov, iv] []) := by intro _; rfl) : SS X cl EK (.Assign [.Subscript o i spos] e pos) (mSetI me mo mi) := PS.weak (ps_asg he (pg_sub ho hi set_list ha) hs hw h1) fun D σ H ⟨s, σd, e, ok, re, p⟩ => by
  subst e
  refine tG_of ok re (posts_bind p fun s1 v d ex1 ok1 r1 p1 => ?_)
  refine tG_of ok1 (re.mono ok ex1) (posts_bind p1 fun s2 x u ex2 ok2 r2 p2 => ?_)
  refine tG_of ok2 ((re.mono ok ex1).mono ok1 ex2) (posts_bind p2 fun s3 y j ex3 ok3 r3 p3 => ?_)
  split at p3
  · rename_i n ds k hc
    rw [rep_int r3]
    obtain ⟨q, vs, rfl, hn, hH, ra, hd⟩ := cell_of ok3 (r2.mono ok2 ex3) hc
    split at p3
    · rename_i j hj
      have rd := (r1.mono ok1 ex2).mono ok2 ex3
      refine ⟨q, vs, k, j, rfl, rfl, hH, by rw [ra.length]; exact hj, ?_⟩
      have ex : Ext s3 (s3.wr n q (.lst (vs.set j v)) (.lst (ds.set j d))) := S.wr_ext ok3 hn hd
      exact p3 _ σ ex (S.wr_ok ok3 hn hd ⟨_, upd_same, (ra.set j rd).mono ok3 ex⟩) rfl ((((re.mono ok ex1).mono ok1 ex2).mono ok2 ex3).mono ok3 ex)
    · exact p3.elim
  · exact p3.elim
/-- o.append(e) -/
def mApp (mo me : En → Wd → R D) : En → Wd → R D := fun σd w => (mo σd w).bind fun u w1 => match cellL u w1 with
  | none => .stuck
  | some _ => (me σd w1).bind fun d w2 => match cellL u w2 with
    | some (n, ds) => if ds.length < 16777216 then .ok .non (w2.set n (.lst (ds ++ [d]))) else .stuck
    | none => .stuck
theorem se_append (ho : SE X cl EK o mo) (he : SE X cl EK e me) (hbase : attributeBase o "append" X.env (eval o X.env) = eval o X.env := by rfl)
    (hfew : ((backTo cpos (starEach [e] X.env)).all (fun x => !x.1) && (backToKw cpos (keywordEach [] X.env)).all (fun x => x.1.isSome)
      && decide ([e].length + ([] : List Keyword).length + (if ([] : List Keyword).isEmpty then 0 else 1) < 30)) = true := by rfl)
    (hline : (apos.endLine == cpos.line) = true := by rfl) (hs : starEach [e] X.env = (false, eval e X.env) :: starEach [] X.env := by rfl) (hplain : (backTo cpos (starEach [] X.env)).any (·.1) = false := by rfl) :
    SE X cl EK (.Call (.Attribute o "append" apos) [e] [] cpos) (mApp mo me) :=
  PE.weak (pe_bm PySem.F.plainAttrs_list PySem.F.slot_list_append PySem.F.type_list_append mt_append ho (pa_cons he pa_nil hs) hbase hfew hline hs hplain) fun σ H Q h => tG_imp (tG_bind h) fun x H1 ⟨s, σd, u, e, ok, re, ru, p⟩ => by
    subst e
    dsimp only at p
    split at p
    · exact p.elim
    · rename_i nd hc
      obtain ⟨n, ds⟩ := nd
      obtain ⟨q, vs, rfl, hn, hH, ra, hd⟩ := cell_of ok ru hc
      refine ⟨.inl ⟨rfl, _, SqL.of hH⟩, tG_of ok re (post_bind p fun s2 v d ex2 ok2 r2 p2 => ?_)⟩
      split at p2
      · rename_i n2 ds2 hc2
        obtain ⟨q2, vs2, e2, hn2, hH2, ra2, hd2⟩ := cell_of ok2 (ru.mono ok ex2) hc2
        cases e2
        split at p2
        · rename_i hl
          exact ⟨q, vs2, v, rfl, rfl, hH2, by rw [ra2.length, sizeLine_eq]; exact hl, post_wr ok2 hn2 hd2 (ra2.append (.cons r2 .nil)) p2 .non⟩
        · exact p2.elim
      · exact p2.elim
/-- o.pop(i) -/
def mPopAt (mo mi : En → Wd → R D) : En → Wd → R D := fun σd w => (mo σd w).bind fun u w1 => match cellL u w1 with
  | none => .stuck
  | some _ => (mi σd w1).bind fun d w2 => match cellL u w2, d with
    | some (n, ds), .int k => if -(2 ^ 63) ≤ k ∧ k < 2 ^ 63 then (match ixN ds.length k with
      | some j => match ds[j]? with
        | some y => .ok y (w2.set n (.lst (ds.eraseIdx j)))
        | none => .stuck
      | none => .stuck) else .stuck
    | _, _ => .stuck
theorem RepA.eraseIdx {K : PySem.W.Frag} {s : S} : ∀ {vs : List V} {ds : List D} (i : Nat), RepA K s vs ds → RepA K s (vs.eraseIdx i) (ds.eraseIdx i)
  | _, _, _, .nil => .nil
  | _, _, 0, .cons _ r => r
  | _, _, i + 1, .cons h r => .cons h (RepA.eraseIdx i r)
theorem se_popAt (ho : SE X cl EK o mo) (he : SE X cl EK e me) (hbase : attributeBase o "pop" X.env (eval o X.env) = eval o X.env := by rfl)
    (hfew : ((backTo cpos (starEach [e] X.env)).all (fun x => !x.1) && (backToKw cpos (keywordEach [] X.env)).all (fun x => x.1.isSome)
      && decide ([e].length + ([] : List Keyword).length + (if ([] : List Keyword).isEmpty then 0 else 1) < 30)) = true := by rfl)
    (hline : (apos.endLine == cpos.line) = true := by rfl) (hs : starEach [e] X.env = (false, eval e X.env) :: starEach [] X.env := by rfl) (hplain : (backTo cpos (starEach [] X.env)).any (·.1) = false := by rfl) :
    SE X cl EK (.Call (.Attribute o "pop" apos) [e] [] cpos) (mPopAt mo me) :=
  PE.weak (pe_bm PySem.F.plainAttrs_list PySem.F.slot_list_pop PySem.F.type_list_pop mt_popAt ho (pa_cons he pa_nil hs) hbase hfew hline hs hplain) fun σ H Q h => tG_imp (tG_bind h) fun x H1 ⟨s, σd, u, e, ok, re, ru, p⟩ => by
    subst e
    dsimp only at p
    split at p
    · exact p.elim
    · rename_i nd hc
      obtain ⟨n, ds⟩ := nd
      obtain ⟨q, vs, rfl, hn, hH, ra, hd⟩ := cell_of ok ru hc
      refine ⟨.inl ⟨rfl, _, SqL.of hH⟩, tG_of ok re (post_bind p fun s2 v d ex2 ok2 r2 p2 => ?_)⟩
      split at p2
      · rename_i n2 ds2 k hc2
        rw [rep_int r2]
        obtain ⟨q2, vs2, e2, hn2, hH2, ra2, hd2⟩ := cell_of ok2 (ru.mono ok ex2) hc2
        cases e2
        split at p2
        · rename_i hb
          split at p2
          · rename_i j hj
            split at p2
            · rename_i y hy
              obtain ⟨v0, hv0, rv0⟩ := ra2.get hy
              refine ⟨q, vs2, k, j, v0, rfl, rfl, hH2, hb.1, hb.2, by rw [ra2.length]; exact (ixN_seq hj).1, hv0, post_wr ok2 hn2 hd2 (ra2.eraseIdx j) p2 ?_⟩
              exact rv0.mono ok2 (S.wr_ext ok2 hn2 hd2)
            · exact p2.elim
          · exact p2.elim
        · exact p2.elim
      · exact p2.elim
/-- sep.join(xs) -/
def stA : List D → Option (List Str)
  | [] => some []
  | .str b :: r => (stA r).map (b :: ·)
  | _ :: _ => none
theorem stA_of {K : PySem.W.Frag} {s : S} : ∀ {vs : List V} {ds : List D} {bs : List Str}, RepA K s vs ds → stA ds = some bs → vs = bs.map V.str
  | _, _, _, .nil, h => by cases h; rfl
  | _, _, bs, .cons (d := d) h r, e => by
    cases h with
    | str b =>
      rw [stA] at e
      cases q : stA _ with
      | none => rw [q] at e; cases e
      | some l =>
        rw [q] at e
        cases e
        rw [stA_of r q]
        rfl
    | _ => cases e
def gJoin : D → D → Wd → R D := fun u v w => match u with
  | .str a => match (seqD v w).bind stA with
    | some ys => if (ys.map (·.length)).sum + ys.length * a.length ≤ 16777216 then .ok (.str (Txt.join a ys)) w else .stuck
    | none => .stuck
  | _ => .stuck
def mJoin (mo me : En → Wd → R D) : En → Wd → R D := fun σd w => (mo σd w).bind fun u w1 => match u with
  | .str a => (me σd w1).bind fun v w2 => gJoin (.str a) v w2
  | _ => .stuck
theorem se_join (ho : SE X cl EK o mo) (he : SE X cl EK e me) (hs : starEach [e] X.env = [(false, eval e X.env)] := by rfl) (hbase : attributeBase o "join" X.env (eval o X.env) = eval o X.env := by rfl) (hline : (apos.endLine == pos.line) = true := by rfl) :
    SE X cl EK (.Call (.Attribute o "join" apos) [e] [] pos) (mJoin mo me) :=
  PE.weak (pe_join ho he hs hbase hline) fun σ H Q h => tG_imp (tG_bind h) fun x H1 ⟨s, σd, u, e, ok, re, ru, p⟩ => by
    subst e
    dsimp only at p
    split at p
    · rename_i a
      rw [rep_str ru]
      refine ⟨⟨a, rfl⟩, tG_of ok re (post_bind p fun s2 v d ex2 ok2 r2 p2 => ?_)⟩
      unfold gJoin at p2
      dsimp only at p2
      split at p2
      · rename_i ys hys
        split at p2
        · rename_i hl
          cases q : seqD d s2.w with
          | none => rw [q] at hys; cases hys
          | some ds =>
            rw [q] at hys
            obtain ⟨l, vs, rfl, h1, ra⟩ := seq_of ok2 r2 q
            rw [stA_of ra hys] at h1
            exact ⟨a, l, ys, rfl, rfl, h1, hl, post_here ok2 p2 (.str _)⟩
        · exact p2.elim
      · exact p2.elim
    · exact p.elim
/-- a name of the module that holds a written value -/
theorem se_glob {x : Str} {v : V} {d : D} {u : Value} (hg : Gl X x) (hm : X.mg x = some u) (r : RelV v u) (rd : ∀ s, Rep X.K s v d) (hdb : (x == ("__debug__" : Str)) = false := by decide) : SE X cl EK (.Name x pos) (mC d) := se_c (pe_glob hg hm r hdb) rd
end
end Si

set_option Elab.async false
set_option linter.all false
set_option autoImplicit false
set_option maxRecDepth 100000
set_option maxHeartbeats 4000000
/-! Si10: a def as it stands, constants of the module, calls with keywords. -/
namespace Si
open PySem L2 PyProof.Rows
theorem hu64 {k : Nat} {A : Around} (r : Room k A) : A.units + 64 < cLine := r.units
theorem hu65 {k : Nat} {A : Around} (r : Room k A) : A.units + 65 < cLine := by have := r.un; omega
/-- the module's name x holds the written value d -/
def CN (K : PySem.W.Frag) (mg : Str → Option Value) (x : Str) (d : D) : Prop := ∃ u v, mg x = some u ∧ RelV v u ∧ ∀ s, Rep K s v d
/-- a def of the text, what it does -/
structure At (P : Program) (w : World) (K : PySem.W.Frag) (cl : Str → Option Addr) (mg : Str → Option Value) (base : Heap) (k : Nat) (x : Str) (st : Stmt) (ps : List Str) (f : Addr) (fd : FuncData) (G : List D → Wd → R D) : Prop where
  F : Fun K x x st f fd
  g : mg x = some (.ref f)
  b : Binds K fd ps []
  ok : SF P w K cl mg base k f fd ps G
section
variable {X : Cx} {cl : Str → Option Addr} {EK : XK} {a : Expr} {ma : En → Wd → R D} {mas mks : En → Wd → R (List D)} {pos p kpos : Pos} {es : List Expr} {x : Str} {kws : List Keyword} {nm : Option Str}
theorem se_cn {d : D} (hg : Gl X x) (h : CN X.K X.mg x d) (hdb : (x == ("__debug__" : Str)) = false := by decide) : SE X cl EK (.Name x pos) (mC d) := by
  obtain ⟨u, v, h1, h2, h3⟩ := h
  exact se_glob hg h1 h2 h3 hdb
def SK (X : Cx) (cl : Str → Option Addr) (EK : XK) (kws : List Keyword) (m : En → Wd → R (List D)) : Prop := PK X kws (tG X.K cl (RepA X.K) EK m)
theorem PK.weak {kws : List Keyword} {t t' : TA} (h : PK X kws t) (i : ∀ σ H Q, t' σ H Q → t σ H Q) : PK X kws t' := ⟨fun pos pins s σ H Q I q => h.run pos pins s σ H Q I (i σ H Q q)⟩
theorem sk_nil : SK X cl EK [] aNil := PK.weak pk_nil fun σ H Q h => by
  obtain ⟨s, σd, e, ok, re, p⟩ := h
  subst e
  exact p s [] (Ext.refl s) ok rfl .nil
theorem sk_cons (ha : SE X cl EK a ma) (hr : SK X cl EK kws mas) : SK X cl EK (⟨nm, a, kpos⟩ :: kws) (aCons ma mas) :=
  PK.weak (pk_cons ha hr) fun σ H Q h => tG_imp (tG_bind h) fun x H1 hk => tG_imp (tK_bind rep_mono hk) fun y H2 ⟨s, σd, u, v, e, ok, re, ru, rv, p⟩ => by
    subst e
    exact p s (x :: y) (Ext.refl s) ok rfl (.cons ru rv)
/-- the parameters' order -/
def permL {α : Type} (pm : List Nat) (xs : List α) : List α := pm.filterMap fun i => xs[i]?
theorem permL_vals {vs : List V} {us : List Value} (r : Vals vs us) : ∀ pm : List Nat, Vals (permL pm vs) (permL pm us)
  | [] => .nil
  | i :: pm => by
    have ih := permL_vals r pm
    unfold permL at ih ⊢
    rw [List.filterMap_cons, List.filterMap_cons]
    cases q : vs[i]? with
    | none =>
      have q2 : us[i]? = none := List.getElem?_eq_none_iff.mpr (by rw [← r.length]; exact List.getElem?_eq_none_iff.mp q)
      rw [q2]; exact ih
    | some v =>
      obtain ⟨u, hu, ru⟩ := r.get q
      rw [hu]; exact .cons ru ih
theorem permL_rep {K : PySem.W.Frag} {s : S} {vs : List V} {us : List D} (r : RepA K s vs us) : ∀ pm : List Nat, RepA K s (permL pm vs) (permL pm us)
  | [] => .nil
  | i :: pm => by
    have ih := permL_rep r pm
    unfold permL at ih ⊢
    rw [List.filterMap_cons, List.filterMap_cons]
    cases q : us[i]? with
    | none =>
      have q2 : vs[i]? = none := List.getElem?_eq_none_iff.mpr (by rw [r.length]; exact List.getElem?_eq_none_iff.mp q)
      rw [q2]; exact ih
    | some v =>
      obtain ⟨u, hu, ru⟩ := r.get q
      rw [hu]; exact .cons ru ih
def mCallK (G : List D → Wd → R D) (pm : List Nat) (mas mks : En → Wd → R (List D)) : En → Wd → R D := fun σd w => (mas σd w).bind fun us w1 => (mks σd w1).bind fun zs w2 => G (permL pm (us ++ zs)) w2
/-- how n values by place and the keywords ks come to the parameters -/
abbrev KBp (K : PySem.W.Frag) (fd : FuncData) (ps : List Str) (n : Nat) (ks : List Str) (pm : List Nat) : Prop := KBn K fd ps n ks (fun us ws => permL pm (us ++ ws)) (fun vs zs => permL pm (vs ++ zs))
theorem kb_mk {K : PySem.W.Frag} {x qual : Str} {st : Stmt} {f : Addr} {fd : FuncData} {ps ks : List Str} {n : Nat} {pm : List Nat} (F : Fun K x qual st f fd)
    (h : ∀ (kV doc pmv : Value) (an : Option Addr) (cdv ct : Value) (us ws : List Value), us.length = n → ws.length = ks.length → bindArgs (PySem.W.fnOf x qual (defArgs st) (defBody st) (defScope st) .none kV doc pmv an cdv ct) ⟨us, ks.zip ws⟩ = pure (ps.zip (permL pm (us ++ ws)))) : KBp K fd ps n ks pm := by
  obtain ⟨oc, od, kV, doc, pmv, an, cdv, ct, osl, rfl, lk, hcd⟩ := F.ex
  exact ⟨fun s us ws _ l1 l2 => .of_eq (h kV doc pmv an cdv ct us ws l1 l2), fun r1 r2 => permL_vals (r1.append r2) pm⟩
theorem callN_core {G : List D → Wd → R D} {pm : List Nat} {n : Nat} {ks : List Str} (h1 : ∀ σd w us w', mas σd w = .ok us w' → us.length = n) (h2 : ∀ σd w us w', mks σd w = .ok us w' → us.length = ks.length) {σ : L2.St} {H : Hp} {Q : VK} (h : tG X.K cl (Rep X.K) EK (mCallK G pm mas mks) σ H Q) :
    tCallN n ks.length (spOf X.K cl G) (fun vs zs => permL pm (vs ++ zs)) EK (tG X.K cl (RepA X.K) EK mas) (tG X.K cl (RepA X.K) EK mks) σ H Q := by
  obtain ⟨s, σd, e, ok, re, p⟩ := h
  subst e
  unfold mCallK at p
  refine tG_of ok re ?_
  cases q : mas σd s.w with
  | ok us w1 =>
    rw [q] at p
    dsimp only [R.bind] at p
    intro s1 vs ex1 ok1 hw1 r1
    refine tG_of ok1 (re.mono ok ex1) ?_
    rw [hw1]
    cases q2 : mks σd w1 with
    | ok zs w2 =>
      change Post X.K cl (Rep X.K) EK s (R.bind (mks σd w1) fun zs w2 => G (permL pm (us ++ zs)) w2) Q at p
      rw [q2] at p
      dsimp only [R.bind] at p
      intro s2 vz ex2 ok2 hw2 r2
      refine ⟨r1.length.trans (h1 _ _ _ _ q), r2.length.trans (h2 _ _ _ _ q2), s2, permL pm (us ++ zs), rfl, ok2, permL_rep ((r1.mono ok1 ex2).append r2) pm, ?_⟩
      rw [hw2]
      exact Post.ext (ex1.trans ex2) p
    | err c fs w2 =>
      change Post X.K cl (Rep X.K) EK s (R.bind (mks σd w1) fun zs w2 => G (permL pm (us ++ zs)) w2) Q at p
      rw [q2] at p
      exact Post.ext ex1 p
    | stuck =>
      change Post X.K cl (Rep X.K) EK s (R.bind (mks σd w1) fun zs w2 => G (permL pm (us ++ zs)) w2) Q at p
      rw [q2] at p
      exact p.elim
  | err c fs w1 => rw [q] at p; exact p
  | stuck => rw [q] at p; exact p.elim
theorem pe_callN0 {CX : CXT} {k : Nat} {f : Addr} {fd : FuncData} {ps ks : List Str} {sp : Sp} {E : XK} {g : List Value → List Value → List Value} {gV : List V → List V → List V} {tk : TA} (F : FnOk X.prog X.w X.K X.mg X.base CX k f fd ps sp) (hr : Room k X.A) (hg : Gl X x) (hm : X.mg x = some (.ref f)) (hk : PySem.W.keepIn X.K (.ref f) = true) (hb : KBn X.K fd ps 0 ks g gV) (hx : Passes CX X E)
    (hkw : PK X kws tk) (hall : (backToKw pos (keywordEach kws X.env)).all (·.1.isSome) = true := by rfl) (hks : (backToKw pos (keywordEach kws X.env)).filterMap (·.1) = ks := by rfl) (hdb : (x == ("__debug__" : Str)) = false := by decide)
    (hpl : ((backTo pos (starEach [] X.env)).any (·.1) || (backToKw pos (keywordEach kws X.env)).any (·.1.isNone)) = false := by rfl) :
    PE X (.Call (.Name x p) [] kws pos) (tCallN 0 ks.length sp gV E tNil tk) := by
  refine ⟨fun pins s σ H Q I h => ?_⟩
  refine wpAny_Call_Name_kw (ld_glob I hg hm ?_ hdb)
  refine PySem.W.callWith_KW0 (h₀ := X.base) I.ok.mod.kin hk hall ?_ hpl
  refine thn (hkw.run pos pins s σ H _ I h) fun ws s2 ⟨zs, H2, I2, rz, l1, l2, q2⟩ => ⟨I2.kIn, ?_⟩
  rw [hks]
  exact run_fnN (us := []) (vs := []) F hr hb hx I2 .nil rz rfl l2 q2
theorem aNil_len {σd : En} {w : Wd} {us : List D} {w' : Wd} (h : aNil σd w = .ok us w') : us.length = 0 := by cases h; rfl
theorem aCons_len {n : Nat} (hr : ∀ σd w us w', mas σd w = .ok us w' → us.length = n) : ∀ σd w us w', aCons ma mas σd w = .ok us w' → us.length = n + 1 := by
  intro σd w us w' h
  unfold aCons at h
  cases q : ma σd w with
  | ok d w1 =>
    rw [q] at h; dsimp only [R.bind] at h
    cases q2 : mas σd w1 with
    | ok d2 w2 => rw [q2] at h; dsimp only [R.bind] at h; cases h; exact congrArg (· + 1) (hr _ _ _ _ q2)
    | err c fs w1 => rw [q2] at h; cases h
    | stuck => rw [q2] at h; cases h
  | err c fs w1 => rw [q] at h; cases h
  | stuck => rw [q] at h; cases h
theorem se_fnK {k n : Nat} {f : Addr} {fd : FuncData} {ps ks : List Str} {pm : List Nat} {G : List D → Wd → R D} (F : SF X.prog X.w X.K cl X.mg X.base k f fd ps G) (hr : Room k X.A) (hg : Gl X x) (hm : X.mg x = some (.ref f)) (hk : PySem.W.keepIn X.K (.ref f) = true) (hb : KBp X.K fd ps n ks pm) (hx : Passes (L2.CX X.prog X.w) X EK)
    (ha : SA X cl EK (a :: es) mas) (hkw : SK X cl EK kws mks) (h1 : ∀ σd w us w', mas σd w = .ok us w' → us.length = n) (h2 : ∀ σd w us w', mks σd w = .ok us w' → us.length = ks.length) (hall : (backToKw pos (keywordEach kws X.env)).all (·.1.isSome) = true := by rfl) (hks : (backToKw pos (keywordEach kws X.env)).filterMap (·.1) = ks := by rfl)
    (hdb : (x == ("__debug__" : Str)) = false := by decide) (he : starEach (a :: es) X.env = (false, eval a X.env) :: starEach es X.env := by rfl)
    (hpl : ((backTo pos (starEach (a :: es) X.env)).any (·.1) || (backToKw pos (keywordEach kws X.env)).any (·.1.isNone)) = false := by rfl) :
    SE X cl EK (.Call (.Name x p) (a :: es) kws pos) (mCallK G pm mas mks) := PE.weak (pe_callN F hr hg hm hk hb hx ha hkw hall hks hdb he hpl) fun σ H Q h => callN_core h1 h2 h
theorem se_fnK0 {k : Nat} {f : Addr} {fd : FuncData} {ps ks : List Str} {pm : List Nat} {G : List D → Wd → R D} (F : SF X.prog X.w X.K cl X.mg X.base k f fd ps G) (hr : Room k X.A) (hg : Gl X x) (hm : X.mg x = some (.ref f)) (hk : PySem.W.keepIn X.K (.ref f) = true) (hb : KBp X.K fd ps 0 ks pm) (hx : Passes (L2.CX X.prog X.w) X EK)
    (hkw : SK X cl EK kws mks) (h2 : ∀ σd w us w', mks σd w = .ok us w' → us.length = ks.length) (hall : (backToKw pos (keywordEach kws X.env)).all (·.1.isSome) = true := by rfl) (hks : (backToKw pos (keywordEach kws X.env)).filterMap (·.1) = ks := by rfl)
    (hdb : (x == ("__debug__" : Str)) = false := by decide) (hpl : ((backTo pos (starEach [] X.env)).any (·.1) || (backToKw pos (keywordEach kws X.env)).any (·.1.isNone)) = false := by rfl) :
    SE X cl EK (.Call (.Name x p) [] kws pos) (mCallK G pm aNil mks) := PE.weak (pe_callN0 F hr hg hm hk hb hx hkw hall hks hdb hpl) fun σ H Q h => by
  have z := callN_core (mas := aNil) (n := 0) (fun _ _ _ _ => aNil_len) h2 h
  obtain ⟨s, σd, e, ok, re, p⟩ := z
  subst e
  exact p s [] (Ext.refl s) ok rfl .nil
end
end Si

set_option Elab.async false
set_option linter.all false
set_option autoImplicit false
set_option maxRecDepth 100000
set_option maxHeartbeats 4000000
/-! Si11: the law's own call. -/
namespace Si
open PySem L2 PyProof.Rows
def spLaw (K : PySem.W.Frag) : Sp := fun vs H Q _ => ∃ (a : Addr) (ns : List Int), vs = [.ref a] ∧ ns.length ≤ 63 ∧ Only H ∧ SqL K H a (ns.map V.int) ∧ ∀ H', Q (.bl true) H'
/-- the law says True of every script -/
theorem law_sp {K : PySem.W.Frag} {cl : Str → Option Addr} {G : List D → Wd → R D} (h : ∀ ns : List Int, ns.length ≤ 63 → ∃ w, G [.scr ns] [] = .ok (.bl true) w) : ∀ vs H Q E, spLaw K vs H Q E → spOf K cl G vs H Q E := by
  rintro vs H Q E ⟨a, ns, rfl, hl, hO, hS, q⟩
  obtain ⟨w, e⟩ := h ns hl
  have r : Rep K ⟨fun b => H b ≠ none, [], [], H⟩ (.ref a) (.scr ns) := by
    refine .scr ?_
    rcases hS with (hS | ⟨o, hS⟩) | hS
    · rcases hO a with z | ⟨o, xs, z⟩
      · rw [hS] at z; cases z
      · rw [hS] at z; cases z
    · exact .inl ⟨by show H a ≠ none; rw [hS]; simp, o, hS⟩
    · exact .inr hS
  refine ⟨⟨fun b => H b ≠ none, [], [], H⟩, [.scr ns], rfl, ?_, .cons r .nil, ?_⟩
  · exact ⟨rfl, List.nodup_nil, fun _ h => (nomatch h), fun _ h => h, fun _ _ _ h => by simp at h, fun b ⟨n, h, _⟩ => by simp at h⟩
  · rw [e]
    intro s' v _ _ _ rv
    cases rv
    exact q _
theorem cx_false {P : Program} {w : World} {H : Hp} {s : Shared} {e : Value} {s' : Shared} (h : L2.CX P w [] H s (fun _ _ _ => False) e s') : False := by
  obtain ⟨_, _, _, _, _, _, _, _, _, _, _, _, z⟩ := h
  exact z
theorem walk_law {l : PySem.W.OpenLaw} {q : Program} {loose : List Str} {XP : (Str → Option Value) → Heap → Prop} {YP : World → Heap → Prop} {d : DefRec} {K : Params → PySem.W.Frag} {k : Nat} {cl : PySem.W.Frag → Str → Option Addr} {x : Str} {G : List D → Wd → R D}
    (hn : l.most = some 63) (hdf : d.params.defaults = []) (hr : Room k callerA)
    (hY : ∀ (w : World) (h : Heap), YP w h → (K w.params).In h)
    (F : ∀ (w : World) (mg : Str → Option Value) (fa : Addr) (h : Heap), (K w.params).In h → h.Ns mainGlobals mg → mg d.name = some (.ref fa) →
      ∃ fd : FuncData, (∀ (s : Shared) (u : Value), BindsTo s fd ⟨[u], []⟩ [(x, u)]) ∧ ∀ base : Heap, (K w.params).In base → base.Ns mainGlobals mg → SF l.prog w (K w.params) (cl (K w.params)) mg base k fa fd [x] G)
    (h : ∀ ns : List Int, ns.length ≤ 63 → ∃ w, G [.scr ns] [] = .ok (.bl true) w) :
    PySem.W.WalkO q loose XP YP l.row.toRowW d [] (fun f vs => PySem.call f vs) :=
  L2.walk_of (n := 63) (k := k) (x := x) (CX := fun w => L2.CX l.prog w) (sp := fun w => spLaw (K w.params)) hn (by decide) hdf hr hY (fun w mg fa hp X G mgf => by
    obtain ⟨fd, hb, hF⟩ := F w mg fa hp X G mgf
    exact ⟨fd, hb, fun base X2 G2 => FnOk.imp (hF base X2 G2) (law_sp h)⟩) (fun _ _ a ns hl hO hS => ⟨a, ns, rfl, hl, hO, hS, fun _ => rfl⟩) fun _ _ _ _ _ z => cx_false z
end Si

set_option Elab.async false
set_option linter.all false
set_option autoImplicit false
set_option maxRecDepth 100000
set_option maxHeartbeats 4000000
/-! Si12: plain laws about what is reckoned; the draws. -/
namespace Si
open PySem
theorem ix20 (a b : D) : L2.atI [a, b] 0 = some a := rfl
theorem ix21 (a b : D) : L2.atI [a, b] 1 = some b := rfl
theorem ix30 (a b c : D) : L2.atI [a, b, c] 0 = some a := rfl
theorem ix31 (a b c : D) : L2.atI [a, b, c] 1 = some b := rfl
theorem ix32 (a b c : D) : L2.atI [a, b, c] 2 = some c := rfl
theorem ix40 (a b c d : D) : L2.atI [a, b, c, d] 0 = some a := rfl
theorem ix41 (a b c d : D) : L2.atI [a, b, c, d] 1 = some b := rfl
theorem ix42 (a b c d : D) : L2.atI [a, b, c, d] 2 = some c := rfl
theorem ix43 (a b c d : D) : L2.atI [a, b, c, d] 3 = some d := rfl
theorem ixN40 : L2.ixN 4 0 = some 0 := rfl
theorem ixN41 : L2.ixN 4 1 = some 1 := rfl
theorem ixN42 : L2.ixN 4 2 = some 2 := rfl
theorem ixN43 : L2.ixN 4 3 = some 3 := rfl
theorem der_set {w : Wd} {n : Nat} (hn : n < w.length) (ds : List D) : derefL (.obj n) (w.set n (.lst ds)) = some ds := by simp [derefL, List.getElem?_set_self hn]
theorem cel_set {w : Wd} {n : Nat} (hn : n < w.length) (ds : List D) : cellL (.obj n) (w.set n (.lst ds)) = some (n, ds) := by simp [cellL, List.getElem?_set_self hn]
theorem der_of {w : Wd} {n : Nat} {ds : List D} (h : w[n]? = some (.lst ds)) : derefL (.obj n) w = some ds := by simp [derefL, h]
theorem cel_of {w : Wd} {n : Nat} {ds : List D} (h : w[n]? = some (.lst ds)) : cellL (.obj n) w = some (n, ds) := by simp [cellL, h]
theorem der_lst {w : Wd} {ds : List D} : derefL (.lst ds) w = some ds := rfl
theorem addI {i j : Int} {w : Wd} : gAdd (.int i) (.int j) w = .ok (.int (i + j)) w := rfl
theorem subI {i j : Int} {w : Wd} : Si.gSub (.int i) (.int j) w = .ok (.int (i - j)) w := rfl
theorem mulC {i j : Int} {w : Wd} (h : -(2 ^ 64) < j ∧ j < 2 ^ 64) : gMul (.int i) (.int j) w = .ok (.int (i * j)) w := by
  simp only [gMul]
  rw [if_pos (.inl (.inr h))]
theorem mulL {i j : Int} {w : Wd} (h : -(2 ^ 64) < i ∧ i < 2 ^ 64) : gMul (.int i) (.int j) w = .ok (.int (i * j)) w := by
  simp only [gMul]
  rw [if_pos (.inl (.inl h))]
theorem mulM {i y m : Int} {w : Wd} (h : 0 < m ∧ m < 2 ^ 64) : gMul (.int i) (.int (y % m)) w = .ok (.int (i * (y % m))) w :=
  mulC ⟨Int.lt_of_lt_of_le (by decide) (Int.emod_nonneg y (by omega)), Int.lt_trans (Int.emod_lt_of_pos y h.1) h.2⟩
theorem divC {i j : Int} {w : Wd} (h : 0 < j ∧ j.natAbs.log2 < 9000) : gDiv (.int i) (.int j) w = .ok (.int (i / j)) w := by
  simp only [gDiv]
  rw [if_pos h]
theorem log2_small {j : Int} (h0 : 0 < j) (h : j < 2 ^ 200) : 0 < j ∧ j.natAbs.log2 < 9000 := ⟨h0, Nat.lt_of_lt_of_le (PySem.Flt.log2_lt_of (by decide) (show j.natAbs < 2 ^ 200 by omega)) (by decide)⟩
theorem modC {i j : Int} {w : Wd} (h : 0 < j) : gMod (.int i) (.int j) w = .ok (.int (i % j)) w := by
  simp only [gMod]
  rw [if_pos h]
theorem gIxI {u : D} {i : Int} {w : Wd} : gIx u (.int i) w = match u with
    | .str z => if z.length ≤ 16777216 then (match L2.atI z.cps.toList i with | some c => .ok (.str ⟨#[c]⟩) w | none => .stuck) else .stuck
    | .tup ds => match L2.atI ds i with | some d => .ok d w | none => .stuck
    | u => match derefL u w with
      | some ds => match L2.atI ds i with | some d => .ok d w | none => .stuck
      | none => .stuck := rfl
/-- a list of numbers -/
theorem atI_ints {cells : List Int} {k : Int} (h0 : 0 ≤ k) (h1 : k < cells.length) : ∃ c, L2.atI (cells.map D.int) k = some (.int c) := by
  unfold L2.atI L2.ixN
  rw [List.length_map, if_pos h0, if_pos h1]
  have hk : k.toNat < cells.length := by omega
  exact ⟨cells[k.toNat], by simp [List.getElem?_eq_getElem hk]⟩
/-! ### the draws: as the laws write them -/
def M_bag : En → Wd → SR :=
  (mSeq (mAsg (mLc (mIter (mSl (mVar 0) oNone (oSome (mC (.int 63))))) [3] (gNm 3) bYes (mCall gInt (aCons (mVar 3) aNil))) (gNm 1))
  (mSeq (mAsg (mOp gAdd (mC (.int 100110)) (mOp gMul (mC (.int 73)) (mCall gLen (aCons (mVar 1) aNil)))) (gNm 2))
  (mSeq (mFor (mIter (mVar 1)) (gNm 3) (mAsg (mOp gMod (mCall gInt (aCons (mOp gAdd (mOp gMul (mVar 2) (mC (.int 7351))) (mVar 3)) aNil)) (mC (.int 2147483477))) (gNm 2)))
  (mRet (mLstM (aCons (mVar 1) (aCons (mC (.int 0)) (aCons (mC (.int 0)) (aCons (mVar 2) aNil)))))))))
def M_draw : En → Wd → SR :=
  (mSeq (mIfS (asB (mOp gLt (mOp gIx (mVar 0) (mC (.int 2))) (mC (.int 2)))) (mSeq (mSetI (mOp gAdd (mOp gIx (mVar 0) (mC (.int 1))) (mC (.int 1))) (mVar 0) (mC (.int 1)))
  (mSeq (mAsg (mOp gAdd (mOp gIx (mVar 0) (mC (.int 3))) (mOp gMul (mOp gIx (mVar 0) (mC (.int 1))) (mC (.int 8693)))) (gNm 2))
  (mSeq (mIfS (asB (mOp gLe (mOp gIx (mVar 0) (mC (.int 1))) (mCall gLen (aCons (mOp gIx (mVar 0) (mC (.int 0))) aNil)))) (mAsg (mOp gIx (mOp gIx (mVar 0) (mC (.int 0))) (mOp Si.gSub (mOp gIx (mVar 0) (mC (.int 1))) (mC (.int 1)))) (gNm 2)) mNext)
  (mSeq (mIfS (bOr (asB (mOp gGt (mOp gIx (mVar 0) (mC (.int 1))) (mCall gLen (aCons (mOp gIx (mVar 0) (mC (.int 0))) aNil)))) (asB (mOp gLt (mVar 2) (mOp gPow (mC (.int 10)) (mC (.int 18)))))) (mSeq (mAsg (mOp gMod (mCall gInt (aCons (mOp gAdd (mOp gAdd (mOp gMul (mVar 2) (mC (.int 42061))) (mOp gMul (mOp gIx (mVar 0) (mC (.int 1))) (mC (.int 37021)))) (mOp gIx (mVar 0) (mC (.int 3)))) aNil)) (mC (.int 2147483629))) (gNm 3))
  (mSeq (mAsg (mOp gMod (mCall gInt (aCons (mOp gAdd (mOp gMul (mVar 3) (mVar 3)) (mOp gMul (mOp gIx (mVar 0) (mC (.int 1))) (mC (.int 50551)))) aNil)) (mC (.int 998244353))) (gNm 4))
  (mRet (mOp gMod (mOp gDiv (mOp gMod (mCall gInt (aCons (mOp gAdd (mOp gMul (mVar 4) (mC (.int 46819))) (mVar 3)) aNil)) (mC (.int 2147483587))) (mC (.int 23))) (mVar 1))))) mNext)
  (mSetI (mVar 2) (mVar 0) (mC (.int 2))))))) mNext)
  (mSeq (mAsg (mOp gMod (mCall gInt (aCons (mOp gIx (mVar 0) (mC (.int 2))) aNil)) (mVar 1)) (gNm 5))
  (mSeq (mSetI (mOp gDiv (mCall gInt (aCons (mOp gIx (mVar 0) (mC (.int 2))) aNil)) (mVar 1)) (mVar 0) (mC (.int 2)))
  (mRet (mVar 5)))))
def bagF : List D → Wd → R D := fnD 4 1 M_bag
def drawF : List D → Wd → R D := fnD 6 2 M_draw
def BagAt (w : Wd) (n : Nat) : Prop := ∃ (cells : List Int) (i acc mark : Int), w[n]? = some (.lst [.lst (cells.map D.int), .int i, .int acc, .int mark]) ∧ 0 ≤ i
theorem draw_spec {w : Wd} {n : Nat} {many : Int} (hb : BagAt w n) (h0 : 0 < many) (h1 : many < 2 ^ 200) : ∃ r b, 0 ≤ r ∧ r < many ∧ drawF [.obj n, .int many] w = .ok (.int r) (w.set n b) ∧ BagAt (w.set n b) n := by
  obtain ⟨cells, i, acc, mark, hw, hi⟩ := hb
  have hn : n < w.length := (List.getElem?_eq_some_iff.mp hw).1
  have d0 := der_of hw
  have c0 := cel_of hw
  have ds := der_set hn
  have cs := cel_set hn
  have gl : ∀ {w : Wd}, gLen [D.lst (cells.map D.int)] w = .ok (.int cells.length) w := by
    intro w; simp only [gLen, der_lst, List.length_map]
  have dm := fun (i : Int) (w : Wd) => divC (i := i) (w := w) (log2_small h0 h1)
  have mm := fun (i : Int) (w : Wd) => modC (i := i) (w := w) h0
  have pw : ∀ {w : Wd}, gPow (.int 10) (.int 18) w = .ok (.int (10 ^ 18)) w := by
    intro w; simp only [gPow]; rw [if_pos (by decide)]; rfl
  have keep : ∀ (i acc : Int), 0 ≤ i → BagAt (w.set n (.lst [.lst (cells.map D.int), .int i, .int acc, .int mark])) n := fun i acc h => ⟨cells, i, acc, mark, List.getElem?_set_self hn, h⟩
  have nn : ∀ x : Int, 0 ≤ x % many ∧ x % many < many := fun x => ⟨Int.emod_nonneg x (by omega), Int.emod_lt_of_pos x h0⟩
  unfold drawF M_draw
  by_cases ha : acc < 2
  · by_cases hc : i + 1 ≤ (cells.length : Int)
    · obtain ⟨c, hcell⟩ := atI_ints (cells := cells) (k := i + 1 - 1) (by omega) (by omega)
      have hng : ¬ (cells.length : Int) < i + 1 := by omega
      by_cases hs : c < 10 ^ 18
      · simp only [fnD, startD, mSeq, mIfS, mRet, mRetN, mExpr, mAsg, mSetI, mNext, mOp, mVar, mC, mCall, aCons, aNil, asB, mAnd, mOr, mNot, mTru, bAnd, bOr, bNot, bYes, mIf, mNeg, mTup, mLst, mLstM, mSl, oNone, oSome, mIsi, mIsi2, mChain, mPar, mAugI, mIter, mRng, mZip, mEnum, mApp, mPopAt, mJoin, mCallK, mBrk, mCnt, R.bind, R.toS, gNm, gNilD, gConsD, gTupD, gLstD, addI, subI, Si.gLt, Si.gLe, Si.gGt, Si.gGe, Si.gOrd, gIxI, gInt, gIsN, gNotN, isNon, der_lst, ix20, ix21, ix30, ix31, ix32, ix40, ix41, ix42, ix43, ixN40, ixN41, ixN42, ixN43, List.set_set, List.length_cons, List.length_nil, List.map_cons, List.map_nil, List.cons_append, List.nil_append, List.replicate, List.set_cons_zero, List.set_cons_succ, List.getElem?_cons_zero, List.getElem?_cons_succ, List.getElem?_nil, decide_true, decide_false, List.length_map, if_true, Nat.reduceAdd, Nat.reduceSub, Option.bind, mulC (j := 8693) (by decide), mulC (j := 42061) (by decide), mulC (j := 37021) (by decide), mulC (j := 50551) (by decide), mulC (j := 46819) (by decide), mulM (m := 2147483629) (by decide), divC (j := 23) (log2_small (by decide) (by decide)), modC (j := 2147483629) (by decide), modC (j := 998244353) (by decide), modC (j := 2147483587) (by decide), d0, c0, ds, cs, gl, dm, mm, pw, ha, hc, hcell, hng, hs]
        exact ⟨_, _, (nn _).1, (nn _).2, rfl, keep _ _ (by omega)⟩
      · simp only [fnD, startD, mSeq, mIfS, mRet, mRetN, mExpr, mAsg, mSetI, mNext, mOp, mVar, mC, mCall, aCons, aNil, asB, mAnd, mOr, mNot, mTru, bAnd, bOr, bNot, bYes, mIf, mNeg, mTup, mLst, mLstM, mSl, oNone, oSome, mIsi, mIsi2, mChain, mPar, mAugI, mIter, mRng, mZip, mEnum, mApp, mPopAt, mJoin, mCallK, mBrk, mCnt, R.bind, R.toS, gNm, gNilD, gConsD, gTupD, gLstD, addI, subI, Si.gLt, Si.gLe, Si.gGt, Si.gGe, Si.gOrd, gIxI, gInt, gIsN, gNotN, isNon, der_lst, ix20, ix21, ix30, ix31, ix32, ix40, ix41, ix42, ix43, ixN40, ixN41, ixN42, ixN43, List.set_set, List.length_cons, List.length_nil, List.map_cons, List.map_nil, List.cons_append, List.nil_append, List.replicate, List.set_cons_zero, List.set_cons_succ, List.getElem?_cons_zero, List.getElem?_cons_succ, List.getElem?_nil, decide_true, decide_false, List.length_map, if_true, Nat.reduceAdd, Nat.reduceSub, Option.bind, mulC (j := 8693) (by decide), mulC (j := 42061) (by decide), mulC (j := 37021) (by decide), mulC (j := 50551) (by decide), mulC (j := 46819) (by decide), mulM (m := 2147483629) (by decide), divC (j := 23) (log2_small (by decide) (by decide)), modC (j := 2147483629) (by decide), modC (j := 998244353) (by decide), modC (j := 2147483587) (by decide), d0, c0, ds, cs, gl, dm, mm, pw, ha, hc, hcell, hng, hs]
        exact ⟨_, _, (nn _).1, (nn _).2, rfl, keep _ _ (by omega)⟩
    · have hg : (cells.length : Int) < i + 1 := by omega
      simp only [fnD, startD, mSeq, mIfS, mRet, mRetN, mExpr, mAsg, mSetI, mNext, mOp, mVar, mC, mCall, aCons, aNil, asB, mAnd, mOr, mNot, mTru, bAnd, bOr, bNot, bYes, mIf, mNeg, mTup, mLst, mLstM, mSl, oNone, oSome, mIsi, mIsi2, mChain, mPar, mAugI, mIter, mRng, mZip, mEnum, mApp, mPopAt, mJoin, mCallK, mBrk, mCnt, R.bind, R.toS, gNm, gNilD, gConsD, gTupD, gLstD, addI, subI, Si.gLt, Si.gLe, Si.gGt, Si.gGe, Si.gOrd, gIxI, gInt, gIsN, gNotN, isNon, der_lst, ix20, ix21, ix30, ix31, ix32, ix40, ix41, ix42, ix43, ixN40, ixN41, ixN42, ixN43, List.set_set, List.length_cons, List.length_nil, List.map_cons, List.map_nil, List.cons_append, List.nil_append, List.replicate, List.set_cons_zero, List.set_cons_succ, List.getElem?_cons_zero, List.getElem?_cons_succ, List.getElem?_nil, decide_true, decide_false, List.length_map, if_true, Nat.reduceAdd, Nat.reduceSub, Option.bind, mulC (j := 8693) (by decide), mulC (j := 42061) (by decide), mulC (j := 37021) (by decide), mulC (j := 50551) (by decide), mulC (j := 46819) (by decide), mulM (m := 2147483629) (by decide), divC (j := 23) (log2_small (by decide) (by decide)), modC (j := 2147483629) (by decide), modC (j := 998244353) (by decide), modC (j := 2147483587) (by decide), d0, c0, ds, cs, gl, dm, mm, pw, ha, hc, hg]
      exact ⟨_, _, (nn _).1, (nn _).2, rfl, keep _ _ (by omega)⟩
  · simp only [fnD, startD, mSeq, mIfS, mRet, mRetN, mExpr, mAsg, mSetI, mNext, mOp, mVar, mC, mCall, aCons, aNil, asB, mAnd, mOr, mNot, mTru, bAnd, bOr, bNot, bYes, mIf, mNeg, mTup, mLst, mLstM, mSl, oNone, oSome, mIsi, mIsi2, mChain, mPar, mAugI, mIter, mRng, mZip, mEnum, mApp, mPopAt, mJoin, mCallK, mBrk, mCnt, R.bind, R.toS, gNm, gNilD, gConsD, gTupD, gLstD, addI, subI, Si.gLt, Si.gLe, Si.gGt, Si.gGe, Si.gOrd, gIxI, gInt, gIsN, gNotN, isNon, der_lst, ix20, ix21, ix30, ix31, ix32, ix40, ix41, ix42, ix43, ixN40, ixN41, ixN42, ixN43, List.set_set, List.length_cons, List.length_nil, List.map_cons, List.map_nil, List.cons_append, List.nil_append, List.replicate, List.set_cons_zero, List.set_cons_succ, List.getElem?_cons_zero, List.getElem?_cons_succ, List.getElem?_nil, decide_true, decide_false, List.length_map, if_true, Nat.reduceAdd, Nat.reduceSub, Option.bind, mulC (j := 8693) (by decide), mulC (j := 42061) (by decide), mulC (j := 37021) (by decide), mulC (j := 50551) (by decide), mulC (j := 46819) (by decide), mulM (m := 2147483629) (by decide), divC (j := 23) (log2_small (by decide) (by decide)), modC (j := 2147483629) (by decide), modC (j := 998244353) (by decide), modC (j := 2147483587) (by decide), d0, c0, ds, cs, gl, dm, mm, pw, ha]
    exact ⟨_, _, (nn _).1, (nn _).2, rfl, keep _ _ (by omega)⟩
end Si

set_option Elab.async false
set_option linter.all false
set_option autoImplicit false
set_option maxRecDepth 100000
set_option maxHeartbeats 4000000
/-! Si13: the bag, a drawn item, the laws' own comparison. -/
namespace Si
open PySem
theorem intsL_get : ∀ (own : List Nat) (f : D → En → Wd → Option En) (me : En → Wd → R D) (σd : En) (w : Wd) (g : D → D) (ds acc : List D), (∀ d ∈ ds, ∃ σ1, f d (wipeD σd own) w = some σ1 ∧ me σ1 w = .ok (g d) w) → acc.length + ds.length ≤ 16777216 → lcL own f bYes me σd ds acc w = .ok (acc ++ ds.map g) w
  | own, f, me, σd, w, g, [], acc, _, _ => by simp [lcL]
  | own, f, me, σd, w, g, d :: r, acc, h, hl => by
    obtain ⟨σ1, h1, h2⟩ := h d List.mem_cons_self
    simp only [List.length_cons] at hl
    have hlt : acc.length < 16777216 := by omega
    simp only [lcL, h1, bYes, h2, hlt, if_true]
    rw [intsL_get own f me σd w g r (acc ++ [g d]) (fun x hx => h x (List.mem_cons_of_mem _ hx)) (by simp; omega)]
    simp
theorem bag_loop (mark0 : Int) (w : Wd) (rest : D → D → List (Option D)) : True := trivial
theorem bag_spec (ns : List Int) (w : Wd) (hl : ns.length ≤ 63) : ∃ b, bagF [.scr ns] w = .ok (.obj w.length) (w ++ [b]) ∧ BagAt (w ++ [b]) w.length := by
  have hcut : cutD ns none (some 63) = ns.take 63 := by
    unfold cutD
    rw [HT.sIx_none, List.drop_zero, Nat.sub_zero]
    show ns.take (min (63 : Int).toNat ns.length) = _
    rw [show (63 : Int).toNat = 63 from rfl]
    rcases Nat.le_total 63 ns.length with h | h
    · rw [Nat.min_eq_left h]
    · rw [Nat.min_eq_right h, List.take_length, List.take_of_length_le h]
  have hlc : ∀ (σd : En) (w : Wd), lcL [3] (gNm 3) bYes (mCall gInt (aCons (mVar 3) aNil)) σd ((ns.take 63).map D.int) [] w = .ok ((ns.take 63).map D.int) w ∨ σd.length ≤ 3 := by
    intro σd w
    by_cases h3 : σd.length ≤ 3
    · exact .inr h3
    refine .inl ?_
    rw [intsL_get [3] (gNm 3) _ σd w id _ []]
    · simp
    · intro d hd
      obtain ⟨z, _, rfl⟩ := List.mem_map.mp hd
      refine ⟨_, rfl, ?_⟩
      have hw : (wipeD σd [3]).length = σd.length := by simp [wipeD]
      simp only [mCall, aCons, mVar, aNil]
      rw [List.getElem?_set_self (by rw [hw]; omega)]
      rfl
    · simp; omega
  have loop : ∀ (l : List Int) (σ0 σ1 : D) (m : Int) (o : Option D) (w : Wd), ∃ (m' : Int) (o' : Option D), forL (gNm 3) (mAsg (mOp gMod (mCall gInt (aCons (mOp gAdd (mOp gMul (mVar 2) (mC (.int 7351))) (mVar 3)) aNil)) (mC (.int 2147483477))) (gNm 2)) (l.map D.int) [some σ0, some σ1, some (.int m), o] w = .next [some σ0, some σ1, some (.int m'), o'] w := by
    intro l
    induction l with
    | nil => intro σ0 σ1 m o w; exact ⟨m, o, rfl⟩
    | cons z r ih =>
      intro σ0 σ1 m o w
      obtain ⟨m', o', h⟩ := ih σ0 σ1 ((m * 7351 + z) % 2147483477) (some (.int z)) w
      refine ⟨m', o', ?_⟩
      rw [List.map_cons, forL]
      simp only [gNm, mAsg, mOp, mVar, mC, mCall, aCons, aNil, R.bind, R.toS, addI, gInt, List.set_cons_succ, List.set_cons_zero, List.getElem?_cons_succ, List.getElem?_cons_zero, mulC (j := 7351) (by decide), modC (j := 2147483477) (by decide)]
      exact h
  unfold bagF M_bag
  rcases hlc [some (.scr ns), none, none, none] w with h | h
  · have hmul : ∀ w : Wd, gMul (.int 73) (.int ((ns.take 63).length : Int)) w = .ok (.int (73 * ((ns.take 63).length : Int))) w := fun w => mulL (by decide)
    obtain ⟨m', o', hL⟩ := loop (ns.take 63) (.scr ns) (.lst ((ns.take 63).map D.int)) (100110 + 73 * ((ns.take 63).length : Int)) none w
    have gl : ∀ w : Wd, gLen [D.lst ((ns.take 63).map D.int)] w = .ok (.int ((ns.take 63).length : Nat)) w := by
      intro w; simp only [gLen, der_lst, List.length_map]
    simp only [fnD, startD, mSeq, mAsg, mLc, mIter, mSl, mVar, mC, oNone, oSome, R.bind, R.toS, gSl, hcut, itemsD, List.length_cons, List.length_nil, List.map_cons, List.map_nil, List.cons_append, List.nil_append, List.replicate, List.getElem?_cons_zero, List.getElem?_cons_succ, Nat.reduceAdd, Nat.reduceSub, if_true, h, gNm, List.set_cons_zero, List.set_cons_succ, mOp, mCall, aCons, aNil, gl, hmul, addI, mFor, mRet, mLstM]
    rw [hL]
    simp only [mRet, mLstM, aCons, aNil, mVar, mC, R.bind, R.toS, List.getElem?_cons_zero, List.getElem?_cons_succ, List.length_cons, List.length_nil, Nat.reduceAdd, Nat.reduceLeDiff, if_true]
    refine ⟨_, rfl, ns.take 63, 0, 0, m', ?_, Int.le_refl _⟩
    rw [List.getElem?_append_right (Nat.le_refl _), Nat.sub_self]
    rfl
  · exact absurd h (by simp)
/-! an item drawn -/
def M_of : En → Wd → SR := (mRet (mOp gIx (mVar 1) (mCall drawF (aCons (mVar 0) (aCons (mCall gLen (aCons (mVar 1) aNil)) aNil)))))
def ofF : List D → Wd → R D := fnD 2 2 M_of
theorem at_mem {ds : List D} {r : Int} (h0 : 0 ≤ r) (h1 : r < ds.length) : ∃ d, L2.atI ds r = some d ∧ d ∈ ds := by
  unfold L2.atI L2.ixN
  rw [if_pos h0, if_pos h1]
  have hk : r.toNat < ds.length := by omega
  exact ⟨ds[r.toNat], by simp [List.getElem?_eq_getElem hk], List.getElem_mem hk⟩
theorem of_lst {w : Wd} {n : Nat} {ds : List D} (hb : BagAt w n) (h0 : 0 < ds.length) (h1 : ds.length < 2 ^ 190) : ∃ d b, d ∈ ds ∧ ofF [.obj n, .lst ds] w = .ok d (w.set n b) ∧ BagAt (w.set n b) n := by
  obtain ⟨r, b, r0, r1, e, hb'⟩ := draw_spec (many := (ds.length : Int)) hb (by omega) (by omega)
  obtain ⟨d, hd, hm⟩ := at_mem r0 r1
  refine ⟨d, b, hm, ?_, hb'⟩
  have gl : ∀ {w : Wd}, gLen [D.lst ds] w = .ok (.int ds.length) w := by
    intro w; simp only [gLen, der_lst]
  simp only [ofF, M_of, fnD, startD, mRet, mOp, mVar, mCall, aCons, aNil, R.bind, R.toS, List.length_cons, List.length_nil, List.map_cons, List.map_nil, List.cons_append, List.nil_append, List.replicate, List.getElem?_cons_zero, List.getElem?_cons_succ, Nat.reduceAdd, Nat.reduceSub, if_true, gl, e, gIxI, der_lst, hd]
theorem of_tup {w : Wd} {n : Nat} {ds : List D} (hb : BagAt w n) (h0 : 0 < ds.length) (h1 : ds.length < 2 ^ 190) : ∃ d b, d ∈ ds ∧ ofF [.obj n, .tup ds] w = .ok d (w.set n b) ∧ BagAt (w.set n b) n := by
  obtain ⟨r, b, r0, r1, e, hb'⟩ := draw_spec (many := (ds.length : Int)) hb (by omega) (by omega)
  obtain ⟨d, hd, hm⟩ := at_mem r0 r1
  refine ⟨d, b, hm, ?_, hb'⟩
  have gl : ∀ {w : Wd}, gLen [D.tup ds] w = .ok (.int ds.length) w := by
    intro w; simp only [gLen]
  simp only [ofF, M_of, fnD, startD, mRet, mOp, mVar, mCall, aCons, aNil, R.bind, R.toS, List.length_cons, List.length_nil, List.map_cons, List.map_nil, List.cons_append, List.nil_append, List.replicate, List.getElem?_cons_zero, List.getElem?_cons_succ, Nat.reduceAdd, Nat.reduceSub, if_true, gl, e, gIxI, hd]
theorem of_str {w : Wd} {n : Nat} {z : Str} (hb : BagAt w n) (h0 : 0 < z.length) (h1 : z.length ≤ 16777216) : ∃ c b, c ∈ z.cps.toList ∧ ofF [.obj n, .str z] w = .ok (.str ⟨#[c]⟩) (w.set n b) ∧ BagAt (w.set n b) n := by
  obtain ⟨r, b, r0, r1, e, hb'⟩ := draw_spec (many := (z.length : Int)) hb (by omega) (by omega)
  have hz : z.length = z.cps.toList.length := by simp [Str.length]
  obtain ⟨c, hc, hm⟩ : ∃ c, L2.atI z.cps.toList r = some c ∧ c ∈ z.cps.toList := by
    unfold L2.atI L2.ixN
    rw [if_pos r0, ← hz, if_pos r1]
    have hk : r.toNat < z.cps.toList.length := by omega
    exact ⟨z.cps.toList[r.toNat], by simp [List.getElem?_eq_getElem hk], List.getElem_mem hk⟩
  refine ⟨c, b, hm, ?_, hb'⟩
  have gl : ∀ {w : Wd}, gLen [D.str z] w = .ok (.int z.length) w := by
    intro w; simp only [gLen, h1, if_true]
  simp only [ofF, M_of, fnD, startD, mRet, mOp, mVar, mCall, aCons, aNil, R.bind, R.toS, List.length_cons, List.length_nil, List.map_cons, List.map_nil, List.cons_append, List.nil_append, List.replicate, List.getElem?_cons_zero, List.getElem?_cons_succ, Nat.reduceAdd, Nat.reduceSub, if_true, gl, e, gIxI, h1, hc]
/-! the comparison -/
def M_same (G : List D → Wd → R D) : En → Wd → SR :=
  (mSeq (mIfS (asB (mOp gIsN (mVar 1) (mC .non))) (mRet (mOp gIsN (mVar 0) (mC .non))) mNext)
  (mSeq (mIfS (bOr (mTru (mIsi "bool" (mVar 1))) (mTru (mIsi "bool" (mVar 0)))) (mRet (mAnd (mIsi "bool" (mVar 1)) (mAnd (mIsi "bool" (mVar 0)) (mOp gEq (mVar 0) (mVar 1))))) mNext)
  (mSeq (mIfS (mTru (mIsi2 "int" "str" (mVar 1))) (mRet (mAnd (mIsi2 "int" "str" (mVar 0)) (mAnd (mOp gEq (mIsi "int" (mVar 0)) (mIsi "int" (mVar 1))) (mOp gEq (mVar 0) (mVar 1))))) mNext)
  (mSeq (mIfS (bOr (asB (mOp gNe (mIsi "list" (mVar 1)) (mIsi "list" (mVar 0)))) (asB (mOp gNe (mIsi "tuple" (mVar 1)) (mIsi "tuple" (mVar 0))))) (mRet (mC (.bl false))) mNext)
  (mSeq (mIfS (bNot (mTru (mIsi2 "list" "tuple" (mVar 0)))) (mRet (mC (.bl false))) mNext)
  (mRet (mAnd (mOp gEq (mCall gLen (aCons (mVar 0) aNil)) (mCall gLen (aCons (mVar 1) aNil))) (mCall gAll (aCons (mLc (mZip (aCons (mVar 0) (aCons (mVar 1) aNil))) [2, 3] (gTupD 2 (gConsD (gNm 2) (gConsD (gNm 3) gNilD))) bYes (mCall G (aCons (mVar 2) (aCons (mVar 3) aNil)))) aNil)))))))))
def sameF : Nat → List D → Wd → R D
  | 0 => fun _ _ => .stuck
  | n + 1 => fnD 4 2 (M_same (sameF n))
mutual
/-- no cells, so deep at most, lists not too long -/
def D.fine : Nat → D → Bool
  | _, .non | _, .bl _ | _, .int _ | _, .str _ => true
  | 0, .lst _ | 0, .tup _ => false
  | n + 1, .lst xs => decide (xs.length ≤ 16777216) && fineA n xs
  | n + 1, .tup xs => decide (xs.length ≤ 16777216) && fineA n xs
  | _, .obj _ | _, .scr _ => false
def fineA : Nat → List D → Bool
  | _, [] => true
  | n, x :: r => x.fine n && fineA n r
end
theorem fineA_mem {n : Nat} : ∀ {xs : List D}, fineA n xs = true → ∀ x ∈ xs, x.fine n = true
  | [], _, x, h => by cases h
  | y :: r, h, x, hx => by
    rw [fineA, Bool.and_eq_true] at h
    rcases List.mem_cons.mp hx with e | hx
    · rw [e]; exact h.1
    · exact fineA_mem h.2 x hx
theorem blA_all : ∀ (ds : List D), blA (ds.map fun _ => D.bl true) = some (ds.map fun _ => true)
  | [] => rfl
  | d :: r => by rw [List.map_cons, blA, blA_all r]; rfl
theorem zip_self : ∀ (ds : List D), zipD ds ds = ds.map fun d => .tup [d, d]
  | [] => rfl
  | d :: r => by rw [zipD, zip_self r]; rfl
theorem same_seq (G : List D → Wd → R D) (ds : List D) (w : Wd) (h : ∀ d ∈ ds, G [d, d] w = .ok (.bl true) w) (hl : ds.length ≤ 16777216) (a b : D) (o2 o3 : Option D) :
    lcL [2, 3] (gTupD 2 (gConsD (gNm 2) (gConsD (gNm 3) gNilD))) bYes (mCall G (aCons (mVar 2) (aCons (mVar 3) aNil))) [some a, some b, o2, o3] (zipD ds ds) [] w = .ok (ds.map fun _ => .bl true) w := by
  rw [zip_self]
  rw [intsL_get _ _ _ _ w (fun _ => .bl true) _ []]
  · simp
  · intro x hx
    obtain ⟨d, hd, rfl⟩ := List.mem_map.mp hx
    refine ⟨[some a, some b, some d, some d], rfl, ?_⟩
    simp only [mCall, aCons, aNil, mVar, R.bind, List.getElem?_cons_zero, List.getElem?_cons_succ]
    exact h d hd
  · simp only [List.length_nil, List.length_map]; omega
theorem all_true : ∀ (ds : List D), (ds.map fun _ => true).all id = true
  | [] => rfl
  | d :: r => by rw [List.map_cons, List.all_cons, all_true r]; rfl
theorem same_refl : ∀ (n : Nat) (d : D) (w : Wd), d.fine n = true → sameF (n + 1) [d, d] w = .ok (.bl true) w := by
  intro n
  induction n with
  | zero =>
    intro d w h
    cases d with
    | non => rfl
    | bl b => cases b <;> rfl
    | int i =>
      simp only [sameF, fnD, startD, M_same, mSeq, mIfS, asB, mOp, mVar, mC, mRet, mNext, mTru, mIsi, mIsi2, bOr, mAnd, R.bind, R.toS, gIsN, isNon, tyD, isB, List.length_cons, List.length_nil, List.map_cons, List.map_nil, List.cons_append, List.nil_append, List.replicate, List.getElem?_cons_zero, List.getElem?_cons_succ, Nat.reduceAdd, Nat.reduceSub, if_true, truD, gEq, scEq]
      simp
    | str z =>
      simp only [sameF, fnD, startD, M_same, mSeq, mIfS, asB, mOp, mVar, mC, mRet, mNext, mTru, mIsi, mIsi2, bOr, mAnd, R.bind, R.toS, gIsN, isNon, tyD, isB, List.length_cons, List.length_nil, List.map_cons, List.map_nil, List.cons_append, List.nil_append, List.replicate, List.getElem?_cons_zero, List.getElem?_cons_succ, Nat.reduceAdd, Nat.reduceSub, if_true, truD, gEq, scEq]
      simp
    | _ => cases h
  | succ n ih =>
    intro d w h
    cases d with
    | non => rfl
    | bl b => cases b <;> rfl
    | int i =>
      simp only [sameF, fnD, startD, M_same, mSeq, mIfS, asB, mOp, mVar, mC, mRet, mNext, mTru, mIsi, mIsi2, bOr, mAnd, R.bind, R.toS, gIsN, isNon, tyD, isB, List.length_cons, List.length_nil, List.map_cons, List.map_nil, List.cons_append, List.nil_append, List.replicate, List.getElem?_cons_zero, List.getElem?_cons_succ, Nat.reduceAdd, Nat.reduceSub, if_true, truD, gEq, scEq]
      simp
    | str z =>
      simp only [sameF, fnD, startD, M_same, mSeq, mIfS, asB, mOp, mVar, mC, mRet, mNext, mTru, mIsi, mIsi2, bOr, mAnd, R.bind, R.toS, gIsN, isNon, tyD, isB, List.length_cons, List.length_nil, List.map_cons, List.map_nil, List.cons_append, List.nil_append, List.replicate, List.getElem?_cons_zero, List.getElem?_cons_succ, Nat.reduceAdd, Nat.reduceSub, if_true, truD, gEq, scEq]
      simp
    | lst ds =>
      rw [D.fine, Bool.and_eq_true] at h
      have hl := of_decide_eq_true h.1
      have hs := same_seq (sameF (n + 1)) ds w (fun d hd => ih d w (fineA_mem h.2 d hd)) hl (.lst ds) (.lst ds) none none
      rw [sameF]
      simp only [fnD, startD, M_same, mSeq, mIfS, asB, mOp, mVar, mC, mRet, mNext, mTru, mIsi, mIsi2, bOr, bNot, mAnd, mCall, mLc, mZip, aCons, aNil, R.bind, R.toS, gIsN, isNon, tyD, isB, List.length_cons, List.length_nil, List.map_cons, List.map_nil, List.cons_append, List.nil_append, List.replicate, List.getElem?_cons_zero, List.getElem?_cons_succ, Nat.reduceAdd, Nat.reduceSub, if_true, truD, gEq, gNe, scEq, gLen, der_lst, hs, gAll, Option.bind, blA_all, all_true]
      simp [hs, gAll, der_lst, blA_all, all_true]
    | tup ds =>
      rw [D.fine, Bool.and_eq_true] at h
      have hl := of_decide_eq_true h.1
      have hs := same_seq (sameF (n + 1)) ds w (fun d hd => ih d w (fineA_mem h.2 d hd)) hl (.tup ds) (.tup ds) none none
      rw [sameF]
      simp only [fnD, startD, M_same, mSeq, mIfS, asB, mOp, mVar, mC, mRet, mNext, mTru, mIsi, mIsi2, bOr, bNot, mAnd, mCall, mLc, mZip, aCons, aNil, R.bind, R.toS, gIsN, isNon, tyD, isB, List.length_cons, List.length_nil, List.map_cons, List.map_nil, List.cons_append, List.nil_append, List.replicate, List.getElem?_cons_zero, List.getElem?_cons_succ, Nat.reduceAdd, Nat.reduceSub, if_true, truD, gEq, gNe, scEq, gLen, der_lst, hs, gAll, Option.bind, blA_all, all_true]
      simp [hs, gAll, der_lst, blA_all, all_true]
    | _ => cases h
theorem sf_stuck {P : Program} {w : World} {K : PySem.W.Frag} {cl : Str → Option Addr} {mg : Str → Option Value} {base : Heap} {k : Nat} {f : Addr} {fd : FuncData} {ps : List Str} : SF P w K cl mg base k f fd ps (fun _ _ => .stuck) :=
  ⟨fun _ _ _ _ ⟨_, _, _, _, _, p⟩ => p.elim, fun _ _ _ _ _ _ _ _ _ _ _ _ _ ⟨_, _, _, _, _, p⟩ => p.elim⟩
theorem sf_same {P : Program} {w : World} {K : PySem.W.Frag} {cl : Str → Option Addr} {mg : Str → Option Value} {base : Heap} {f : Addr} {fd : FuncData} {ps : List Str} (h : ∀ (k : Nat) (G : List D → Wd → R D), SF P w K cl mg base k f fd ps G → SF P w K cl mg base (k + 1) f fd ps (fnD 4 2 (M_same G))) : ∀ n, SF P w K cl mg base n f fd ps (sameF n)
  | 0 => sf_stuck
  | n + 1 => h n _ (sf_same h n)
end Si

set_option Elab.async false
set_option linter.all false
set_option autoImplicit false
set_option maxRecDepth 100000
set_option maxHeartbeats 4000000
/-! Si14: a calculus to reckon with what is reckoned: Go (an expression answers so that Q), Gd (a statement). -/
namespace Si
open PySem
abbrev EX := Str → List (Str × D) → Wd → Prop
def Go {α : Type} (X : EX) (r : R α) (Q : α → Wd → Prop) : Prop := match r with
  | .ok a w => Q a w
  | .err c fs w => X c fs w
  | .stuck => False
def Gd (X : EX) (N : En → Wd → Prop) (T : D → Wd → Prop) (B C : En → Wd → Prop) (r : SR) : Prop := match r with
  | .next σ w => N σ w
  | .ret d w => T d w
  | .brk σ w => B σ w
  | .cnt σ w => C σ w
  | .err c fs w => X c fs w
  | .stuck => False
def Br (b : Bool) (P Q : Prop) : Prop := match b with | true => P | false => Q
section
variable {α β : Type} {X : EX} {Q : D → Wd → Prop} {QB : Bool → Wd → Prop} {QA : List D → Wd → Prop} {QO : Option Int → Wd → Prop} {σ : En} {w : Wd} {N B C : En → Wd → Prop} {T : D → Wd → Prop} {P P' : Prop} {b : Bool} {p : Prop}
theorem br_t (h : P) : Br true P P' := h
theorem br_f (h : P') : Br false P P' := h
theorem br_is (e : b = true) (h : P) : Br b P P' := by subst e; exact h
theorem br_isnt (e : b = false) (h : P') : Br b P P' := by subst e; exact h
theorem br_both (h : b = true → P) (h' : b = false → P') : Br b P P' := by cases b; exact h' rfl; exact h rfl
theorem br_dec [Decidable p] (h : p → P) (h' : ¬ p → P') : Br (decide p) P P' := by
  by_cases e : p
  · rw [decide_eq_true e]; exact h e
  · rw [decide_eq_false e]; exact h' e
theorem br_not (h : Br b P' P) : Br (!b) P P' := by cases b <;> exact h
theorem go_ok {r : R α} {a : α} {w' : Wd} {Q : α → Wd → Prop} (e : r = .ok a w') (q : Q a w') : Go X r Q := by rw [e]; exact q
theorem go_weak {r : R α} {Q Q' : α → Wd → Prop} (h : Go X r Q) (i : ∀ a w, Q a w → Q' a w) : Go X r Q' := by
  cases r with
  | ok a w => exact i a w h
  | err => exact h
  | stuck => exact h.elim
theorem go_get {r : R α} {Q : α → Wd → Prop} (h : Go (fun _ _ _ => False) r Q) : ∃ a w, r = .ok a w ∧ Q a w := by
  cases r with
  | ok a w => exact ⟨a, w, rfl, h⟩
  | err => exact h.elim
  | stuck => exact h.elim
theorem go_bind {r : R α} {k : α → Wd → R β} {Q : β → Wd → Prop} (h : Go X r fun a w => Go X (k a w) Q) : Go X (r.bind k) Q := by cases r <;> exact h
theorem gd_toS {r : R α} {k : α → Wd → SR} (h : Go X r fun a w => Gd X N T B C (k a w)) : Gd X N T B C (r.toS k) := by cases r <;> exact h
/-! expressions -/
theorem go_var {i : Nat} {d : D} (h : σ[i]? = some (some d)) (q : Q d w) : Go X (mVar i σ w) Q := by
  unfold mVar
  rw [h]
  exact q
theorem go_c {d : D} (q : Q d w) : Go X (mC d σ w) Q := q
theorem go_op {g : D → D → Wd → R D} {ma mb : En → Wd → R D} (h : Go X (ma σ w) fun u w1 => Go X (mb σ w1) fun v w2 => Go X (g u v w2) Q) : Go X (mOp g ma mb σ w) Q :=
  go_bind (go_weak h fun _ _ h => go_bind h)
theorem go_asB {m : En → Wd → R D} (h : Go X (m σ w) fun d w1 => ∃ b, d = .bl b ∧ QB b w1) : Go X (asB m σ w) QB :=
  go_bind (go_weak h fun _ _ ⟨_, e, h⟩ => by subst e; exact h)
theorem go_call {g : List D → Wd → R D} {ma : En → Wd → R (List D)} (h : Go X (ma σ w) fun us w1 => Go X (g us w1) Q) : Go X (mCall g ma σ w) Q := go_bind h
theorem go_callK {g : List D → Wd → R D} {pm : List Nat} {mas mks : En → Wd → R (List D)} (h : Go X (mas σ w) fun us w1 => Go X (mks σ w1) fun zs w2 => Go X (g (permL pm (us ++ zs)) w2) Q) : Go X (mCallK g pm mas mks σ w) Q :=
  go_bind (go_weak h fun _ _ h => go_bind h)
theorem go_nil (q : QA [] w) : Go X (aNil σ w) QA := q
theorem go_cons {ma : En → Wd → R D} {mr : En → Wd → R (List D)} (h : Go X (ma σ w) fun u w1 => Go X (mr σ w1) fun us w2 => QA (u :: us) w2) : Go X (aCons ma mr σ w) QA :=
  go_bind (go_weak h fun _ _ h => go_bind h)
theorem go_tup {ma : En → Wd → R (List D)} (h : Go X (ma σ w) fun us w1 => us.length ≤ 16777216 ∧ Q (.tup us) w1) : Go X (mTup ma σ w) Q :=
  go_bind (go_weak h fun _ _ h => by rw [if_pos h.1]; exact h.2)
theorem go_lst {ma : En → Wd → R (List D)} (h : Go X (ma σ w) fun us w1 => us.length ≤ 16777216 ∧ Q (.lst us) w1) : Go X (mLst ma σ w) Q :=
  go_bind (go_weak h fun _ _ h => by rw [if_pos h.1]; exact h.2)
theorem go_lstM {ma : En → Wd → R (List D)} (h : Go X (ma σ w) fun us w1 => us.length ≤ 16777216 ∧ Q (.obj w1.length) (w1 ++ [.lst us])) : Go X (mLstM ma σ w) Q :=
  go_bind (go_weak h fun _ _ h => by rw [if_pos h.1]; exact h.2)
theorem go_chain {g g' : D → D → Wd → R D} {ma mb mc : En → Wd → R D} (h : Go X (ma σ w) fun u w1 => Go X (mb σ w1) fun v w2 => Go X (g u v w2) fun z w3 => ∃ b, z = .bl b ∧ Br b (Go X (mc σ w3) fun x w4 => Go X (g' v x w4) Q) (Q (.bl false) w3)) : Go X (mChain g g' ma mb mc σ w) Q :=
  go_bind (go_weak h fun _ _ h => go_bind (go_weak h fun _ _ h => go_bind (go_weak h fun _ _ ⟨b, e, h⟩ => by subst e; cases b; exact h; exact go_bind h)))
theorem go_and {ma mb : En → Wd → R D} (h : Go X (ma σ w) fun u w1 => ∃ b, truD u w1 = some b ∧ Br b (Go X (mb σ w1) Q) (Q u w1)) : Go X (mAnd ma mb σ w) Q :=
  go_bind (go_weak h fun _ _ ⟨b, e, h⟩ => by rw [e]; cases b <;> exact h)
theorem go_or {ma mb : En → Wd → R D} (h : Go X (ma σ w) fun u w1 => ∃ b, truD u w1 = some b ∧ Br b (Q u w1) (Go X (mb σ w1) Q)) : Go X (mOr ma mb σ w) Q :=
  go_bind (go_weak h fun _ _ ⟨b, e, h⟩ => by rw [e]; cases b <;> exact h)
theorem go_not {ma : En → Wd → R D} (h : Go X (ma σ w) fun u w1 => ∃ b, truD u w1 = some b ∧ Q (.bl (!b)) w1) : Go X (mNot ma σ w) Q :=
  go_bind (go_weak h fun _ _ ⟨b, e, h⟩ => by rw [e]; cases b <;> exact h)
theorem go_tru {ma : En → Wd → R D} (h : Go X (ma σ w) fun u w1 => ∃ b, truD u w1 = some b ∧ QB b w1) : Go X (mTru ma σ w) QB :=
  go_bind (go_weak h fun _ _ ⟨b, e, h⟩ => by rw [e]; exact h)
theorem go_bAnd {ma mb : En → Wd → R Bool} (h : Go X (ma σ w) fun b w1 => Br b (Go X (mb σ w1) QB) (QB false w1)) : Go X (bAnd ma mb σ w) QB :=
  go_bind (go_weak h fun b _ h => by cases b <;> exact h)
theorem go_bOr {ma mb : En → Wd → R Bool} (h : Go X (ma σ w) fun b w1 => Br b (QB true w1) (Go X (mb σ w1) QB)) : Go X (bOr ma mb σ w) QB :=
  go_bind (go_weak h fun b _ h => by cases b <;> exact h)
theorem go_bNot {ma : En → Wd → R Bool} (h : Go X (ma σ w) fun b w1 => QB (!b) w1) : Go X (bNot ma σ w) QB := go_bind h
theorem go_bYes (h : QB true w) : Go X (bYes σ w) QB := h
theorem go_if {mc : En → Wd → R Bool} {ma mb : En → Wd → R D} (h : Go X (mc σ w) fun b w1 => Br b (Go X (ma σ w1) Q) (Go X (mb σ w1) Q)) : Go X (mIf mc ma mb σ w) Q :=
  go_bind (go_weak h fun b _ h => by cases b <;> exact h)
theorem go_neg {ma : En → Wd → R D} (h : Go X (ma σ w) fun u w1 => ∃ i, u = .int i ∧ Q (.int (-i)) w1) : Go X (mNeg ma σ w) Q :=
  go_bind (go_weak h fun _ _ ⟨_, e, h⟩ => by subst e; exact h)
theorem go_oNone (h : QO none w) : Go X (oNone σ w) QO := h
theorem go_oSome {ma : En → Wd → R D} (h : Go X (ma σ w) fun u w1 => ∃ i, u = .int i ∧ QO (some i) w1) : Go X (oSome ma σ w) QO :=
  go_bind (go_weak h fun _ _ ⟨_, e, h⟩ => by subst e; exact h)
theorem go_sl {ma : En → Wd → R D} {ml mh : En → Wd → R (Option Int)} (h : Go X (ma σ w) fun u w1 => Go X (ml σ w1) fun lo w2 => Go X (mh σ w2) fun hi w3 => Go X (gSl u lo hi w3) Q) : Go X (mSl ma ml mh σ w) Q :=
  go_bind (go_weak h fun _ _ h => go_bind (go_weak h fun _ _ h => go_bind h))
theorem go_isi {S : String} {ma : En → Wd → R D} (h : Go X (ma σ w) fun u w1 => ∃ t, tyD u w1 = some t ∧ Q (.bl (isB t S)) w1) : Go X (mIsi S ma σ w) Q :=
  go_bind (go_weak h fun _ _ ⟨_, e, h⟩ => by rw [e]; exact h)
theorem go_isi2 {S S' : String} {ma : En → Wd → R D} (h : Go X (ma σ w) fun u w1 => ∃ t, tyD u w1 = some t ∧ Q (.bl (isB t S || isB t S')) w1) : Go X (mIsi2 S S' ma σ w) Q :=
  go_bind (go_weak h fun _ _ ⟨_, e, h⟩ => by rw [e]; exact h)
theorem go_join {mo me : En → Wd → R D} (h : Go X (mo σ w) fun u w1 => ∃ a, u = .str a ∧ Go X (me σ w1) fun v w2 => Go X (gJoin (.str a) v w2) Q) : Go X (mJoin mo me σ w) Q :=
  go_bind (go_weak h fun _ _ ⟨_, e, h⟩ => by subst e; exact go_bind h)
theorem go_app {mo me : En → Wd → R D} (h : Go X (mo σ w) fun u w1 => (cellL u w1).isSome = true ∧ Go X (me σ w1) fun d w2 => ∃ n ds, cellL u w2 = some (n, ds) ∧ ds.length < 16777216 ∧ Q .non (w2.set n (.lst (ds ++ [d])))) : Go X (mApp mo me σ w) Q :=
  go_bind (go_weak h fun _ _ ⟨e, h⟩ => by
    obtain ⟨c, e⟩ := Option.isSome_iff_exists.mp e
    rw [e]
    exact go_bind (go_weak h fun _ _ ⟨_, _, e, l, h⟩ => by rw [e]; dsimp only; rw [if_pos l]; exact h))
/-! what is walked -/
theorem go_iter {ma : En → Wd → R D} (h : Go X (ma σ w) fun u w1 => ∃ ds, itemsD u = some ds ∧ QA ds w1) : Go X (mIter ma σ w) QA :=
  go_bind (go_weak h fun _ _ ⟨_, e, h⟩ => by rw [e]; exact h)
theorem go_rng1 {ma : En → Wd → R D} (h : Go X (ma σ w) fun u w1 => ∃ j, u = .int j ∧ (-(2 ^ 62) ≤ j ∧ j < 2 ^ 62) ∧ QA (rangeD 0 j.toNat) w1) : Go X (mRng (aCons ma aNil) σ w) QA :=
  go_bind (go_cons (go_weak h fun _ _ ⟨_, e, hb, h⟩ => by subst e; show Go X (if _ then _ else _) QA; rw [if_pos hb]; exact h))
theorem go_rng2 {ma mb : En → Wd → R D} (h : Go X (ma σ w) fun u w1 => Go X (mb σ w1) fun v w2 => ∃ i j, u = .int i ∧ v = .int j ∧ (-(2 ^ 62) ≤ i ∧ i < 2 ^ 62 ∧ -(2 ^ 62) ≤ j ∧ j < 2 ^ 62) ∧ QA (rangeD i (j - i).toNat) w2) : Go X (mRng (aCons ma (aCons mb aNil)) σ w) QA :=
  go_bind (go_cons (go_weak h fun _ _ h1 => go_cons (go_weak h1 fun _ _ ⟨_, _, e, e', hb, h2⟩ => by subst e; subst e'; show Go X (if _ then _ else _) QA; rw [if_pos hb]; exact h2)))
theorem go_lc {it : En → Wd → R (List D)} {own : List Nat} {f : D → En → Wd → Option En} {mt : En → Wd → R Bool} {me : En → Wd → R D} (h : Go X (it σ w) fun ds w1 => Go X (lcL own f mt me σ ds [] w1) fun xs w2 => Q (.lst xs) w2) : Go X (mLc it own f mt me σ w) Q :=
  go_bind (go_weak h fun _ _ h => go_bind h)
theorem go_lcM {it : En → Wd → R (List D)} {own : List Nat} {f : D → En → Wd → Option En} {mt : En → Wd → R Bool} {me : En → Wd → R D} (h : Go X (it σ w) fun ds w1 => Go X (lcL own f mt me σ ds [] w1) fun xs w2 => Q (.obj w2.length) (w2 ++ [.lst xs])) : Go X (mLcM it own f mt me σ w) Q :=
  go_bind (go_weak h fun _ _ h => go_bind h)
abbrev EX0 : EX := fun _ _ _ => False
/-- a comprehension, by what holds of (what is gathered, what is left, the cells) -/
theorem go_lcL {own : List Nat} {f : D → En → Wd → Option En} {mt : En → Wd → R Bool} {me : En → Wd → R D} (I : List D → List D → Wd → Prop)
    (hs : ∀ acc d r w, I acc (d :: r) w → ∃ σ1, f d (wipeD σ own) w = some σ1 ∧ Go EX0 (mt σ1 w) fun b w1 => Br b (Go EX0 (me σ1 w1) fun y w2 => acc.length < 16777216 ∧ I (acc ++ [y]) r w2) (I acc r w1))
    (he : ∀ acc w, I acc [] w → QA acc w) : ∀ (ds acc : List D) (w : Wd), I acc ds w → Go X (lcL own f mt me σ ds acc w) QA
  | [], acc, w, h => he acc w h
  | d :: r, acc, w, h => by
    obtain ⟨σ1, e, h1⟩ := hs acc d r w h
    rw [lcL]
    simp only [e]
    obtain ⟨b, w1, e1, h2⟩ := go_get h1
    rw [e1]
    cases b with
    | false => exact go_lcL I hs he r acc w1 h2
    | true =>
      obtain ⟨y, w2, e2, h3⟩ := go_get h2
      simp only [e2]
      rw [if_pos h3.1]
      exact go_lcL I hs he r _ w2 h3.2
/-! statements -/
theorem gd_next (h : N σ w) : Gd X N T B C (mNext σ w) := h
theorem gd_brk (h : B σ w) : Gd X N T B C (mBrk σ w) := h
theorem gd_cnt (h : C σ w) : Gd X N T B C (mCnt σ w) := h
theorem gd_seq {m1 m2 : En → Wd → SR} (h : Gd X (fun σ1 w1 => Gd X N T B C (m2 σ1 w1)) T B C (m1 σ w)) : Gd X N T B C (mSeq m1 m2 σ w) := by
  unfold mSeq
  cases e : m1 σ w <;> (rw [e] at h; exact h)
theorem gd_ret {ma : En → Wd → R D} (h : Go X (ma σ w) T) : Gd X N T B C (mRet ma σ w) := gd_toS h
theorem gd_retN (h : T .non w) : Gd X N T B C (mRetN σ w) := h
theorem gd_expr {ma : En → Wd → R D} (h : Go X (ma σ w) fun _ w1 => N σ w1) : Gd X N T B C (mExpr ma σ w) := gd_toS h
theorem gd_if {mc : En → Wd → R Bool} {m1 m2 : En → Wd → SR} (h : Go X (mc σ w) fun b w1 => Br b (Gd X N T B C (m1 σ w1)) (Gd X N T B C (m2 σ w1))) : Gd X N T B C (mIfS mc m1 m2 σ w) :=
  gd_toS (go_weak h fun b _ h => by cases b <;> exact h)
theorem gd_asg {ma : En → Wd → R D} {f : D → En → Wd → Option En} (h : Go X (ma σ w) fun d w1 => ∃ σ1, f d σ w1 = some σ1 ∧ N σ1 w1) : Gd X N T B C (mAsg ma f σ w) :=
  gd_toS (go_weak h fun _ _ ⟨_, e, h⟩ => by rw [e]; exact h)
theorem gd_nm {ma : En → Wd → R D} {i : Nat} (h : Go X (ma σ w) fun d w1 => N (σ.set i (some d)) w1) : Gd X N T B C (mAsg ma (gNm i) σ w) := gd_toS h
theorem gd_par {i j : Nat} {ma mb : En → Wd → R D} (h : Go X (ma σ w) fun d w1 => Go X (mb σ w1) fun e w2 => N ((σ.set i (some d)).set j (some e)) w2) : Gd X N T B C (mPar i j (aCons ma (aCons mb aNil)) σ w) :=
  gd_toS (go_cons (go_weak h fun _ _ h => go_cons (go_weak h fun _ _ h => h)))
theorem gd_augI {f : Int → Int → Int} {i : Nat} {ma : En → Wd → R D} {z : Int} (e : σ[i]? = some (some (.int z))) (h : Go X (ma σ w) fun d w1 => ∃ y, d = .int y ∧ N (σ.set i (some (.int (f z y)))) w1) : Gd X N T B C (mAugI f i ma σ w) := by
  unfold mAugI
  rw [e]
  exact gd_toS (go_weak h fun _ _ ⟨_, e, h⟩ => by subst e; exact h)
/-- a for, by what holds of (what is left, the frame, the cells) -/
theorem gd_forL {f : D → En → Wd → Option En} {body : En → Wd → SR} (I : List D → En → Wd → Prop)
    (hs : ∀ d r σ w, I (d :: r) σ w → ∃ σ1, f d σ w = some σ1 ∧ Gd X (I r) T N (I r) (body σ1 w))
    (he : ∀ σ w, I [] σ w → N σ w) : ∀ (ds : List D) (σ : En) (w : Wd), I ds σ w → Gd X N T B C (forL f body ds σ w)
  | [], σ, w, h => he σ w h
  | d :: r, σ, w, h => by
    obtain ⟨σ1, e, h1⟩ := hs d r σ w h
    rw [forL]
    simp only [e]
    cases e1 : body σ1 w <;> rw [e1] at h1
    · exact gd_forL I hs he r _ _ h1
    · exact h1
    · exact h1
    · exact gd_forL I hs he r _ _ h1
    · exact h1
    · exact h1
theorem gd_for {it : En → Wd → R (List D)} {f : D → En → Wd → Option En} {body : En → Wd → SR} (h : Go X (it σ w) fun ds w1 => Gd X N T B C (forL f body ds σ w1)) : Gd X N T B C (mFor it f body σ w) := gd_toS h
theorem go_fn {n k : Nat} {m : En → Wd → SR} {ds : List D} (hl : ds.length = k) (h : Gd X (fun _ w1 => Q .non w1) Q (fun _ _ => False) (fun _ _ => False) (m (startD n ds) w)) : Go X (fnD n k m ds w) Q := by
  unfold fnD
  rw [if_pos hl]
  cases e : m (startD n ds) w <;> (rw [e] at h; exact h)
/-! what the model's own operations answer -/
theorem go_addI {i j : Int} (q : Q (.int (i + j)) w) : Go X (gAdd (.int i) (.int j) w) Q := q
theorem go_addS {i j : Str} (hl : i.length + j.length ≤ 16777216) (q : Q (.str (i ++ j)) w) : Go X (gAdd (.str i) (.str j) w) Q := by
  unfold gAdd
  dsimp only
  rw [if_pos hl]
  exact q
theorem go_addL {i j : List D} (hl : i.length + j.length ≤ 16777216) (q : Q (.lst (i ++ j)) w) : Go X (gAdd (.lst i) (.lst j) w) Q := by
  unfold gAdd
  dsimp only
  rw [if_pos hl]
  exact q
theorem go_addT {i j : List D} (hl : i.length + j.length ≤ 16777216) (q : Q (.tup (i ++ j)) w) : Go X (gAdd (.tup i) (.tup j) w) Q := by
  unfold gAdd
  dsimp only
  rw [if_pos hl]
  exact q
theorem go_subI {i j : Int} (q : Q (.int (i - j)) w) : Go X (gSub (.int i) (.int j) w) Q := q
theorem go_mulR {i j : Int} (h : -(2 ^ 64) < j ∧ j < 2 ^ 64) (q : Q (.int (i * j)) w) : Go X (gMul (.int i) (.int j) w) Q := go_ok (mulC h) q
theorem go_mulL {i j : Int} (h : -(2 ^ 64) < i ∧ i < 2 ^ 64) (q : Q (.int (i * j)) w) : Go X (gMul (.int i) (.int j) w) Q := go_ok (mulL h) q
theorem go_mulS {a : Str} {n : Int} (h : 0 ≤ n ∧ n ≤ 1000 ∧ a.length ≤ 1000) (q : Q (.str (strMul a n)) w) : Go X (gMul (.str a) (.int n) w) Q := by
  unfold gMul
  dsimp only
  rw [if_pos h]
  exact q
theorem go_mulLs {a : List D} {n : Int} (h : 0 ≤ n ∧ n ≤ 1000 ∧ a.length ≤ 1000) (q : Q (.lst (List.replicate n.toNat a).flatten) w) : Go X (gMul (.lst a) (.int n) w) Q := by
  unfold gMul
  dsimp only
  rw [if_pos h]
  exact q
theorem go_div {i j : Int} (h0 : 0 < j) (h : j < 2 ^ 200) (q : Q (.int (i / j)) w) : Go X (gDiv (.int i) (.int j) w) Q := go_ok (divC (log2_small h0 h)) q
theorem go_mod {i j : Int} (h : 0 < j) (q : Q (.int (i % j)) w) : Go X (gMod (.int i) (.int j) w) Q := go_ok (modC h) q
theorem go_lt {i j : Int} (q : Q (.bl (decide (i < j))) w) : Go X (gLt (.int i) (.int j) w) Q := q
theorem go_le {i j : Int} (q : Q (.bl (decide (i ≤ j))) w) : Go X (gLe (.int i) (.int j) w) Q := q
theorem go_gt {i j : Int} (q : Q (.bl (decide (j < i))) w) : Go X (gGt (.int i) (.int j) w) Q := q
theorem go_ge {i j : Int} (q : Q (.bl (decide (j ≤ i))) w) : Go X (gGe (.int i) (.int j) w) Q := q
theorem go_eqI {i j : Int} (q : Q (.bl (decide (i = j))) w) : Go X (gEq (.int i) (.int j) w) Q := q
theorem go_neI {i j : Int} (q : Q (.bl (!decide (i = j))) w) : Go X (gNe (.int i) (.int j) w) Q := q
theorem go_eqS {i j : Str} (q : Q (.bl (decide (i = j))) w) : Go X (gEq (.str i) (.str j) w) Q := q
theorem go_neS {i j : Str} (q : Q (.bl (!decide (i = j))) w) : Go X (gNe (.str i) (.str j) w) Q := q
theorem go_lenL {ds : List D} (q : Q (.int ds.length) w) : Go X (gLen [.lst ds] w) Q := q
theorem go_lenT {ds : List D} (q : Q (.int ds.length) w) : Go X (gLen [.tup ds] w) Q := q
theorem go_lenS {z : Str} (h : z.length ≤ 16777216) (q : Q (.int z.length) w) : Go X (gLen [.str z] w) Q := by
  unfold gLen
  dsimp only
  rw [if_pos h]
  exact q
/-! small side facts -/
theorem ex_rfl {α : Type} {a : α} {R : α → Prop} (h : R a) : ∃ b, a = b ∧ R b := ⟨a, rfl, h⟩
theorem ex_bl {b : Bool} {R : Bool → Prop} (h : R b) : ∃ c, D.bl b = .bl c ∧ R c := ⟨b, rfl, h⟩
theorem ex_int {b : Int} {R : Int → Prop} (h : R b) : ∃ c, D.int b = .int c ∧ R c := ⟨b, rfl, h⟩
theorem ex_str {b : Str} {R : Str → Prop} (h : R b) : ∃ c, D.str b = .str c ∧ R c := ⟨b, rfl, h⟩
theorem ex_bl2 {b : Bool} {R : D → Bool → Prop} (h : R (.bl b) b) : ∃ c, D.bl b = .bl c ∧ R (.bl b) c := ⟨b, rfl, h⟩
theorem ex_tru {u : D} {b : Bool} {R : Bool → Prop} (e : truD u w = some b) (h : R b) : ∃ b, truD u w = some b ∧ R b := ⟨b, e, h⟩
theorem ex_ty {u : D} {b : String} {R : String → Prop} (e : tyD u w = some b) (h : R b) : ∃ b, tyD u w = some b ∧ R b := ⟨b, e, h⟩
theorem ex_it {u : D} {b : List D} {R : List D → Prop} (e : itemsD u = some b) (h : R b) : ∃ b, itemsD u = some b ∧ R b := ⟨b, e, h⟩
theorem ex_nm {i : Nat} {d : D} {R : En → Prop} (h : R (σ.set i (some d))) : ∃ σ1, gNm i d σ w = some σ1 ∧ R σ1 := ⟨_, rfl, h⟩
theorem an_le {n : Nat} (e : n ≤ 16777216) (h : P) : n ≤ 16777216 ∧ P := ⟨e, h⟩
/-! draws -/
theorem go_draw {n : Nat} {many : Int} (hb : BagAt w n) (h0 : 0 < many) (h1 : many < 2 ^ 200) (q : ∀ r b, 0 ≤ r → r < many → BagAt (w.set n b) n → Q (.int r) (w.set n b)) : Go X (drawF [.obj n, .int many] w) Q := by
  obtain ⟨r, b, r0, r1, e, hb'⟩ := draw_spec hb h0 h1
  exact go_ok e (q r b r0 r1 hb')
theorem go_ofL {n : Nat} {ds : List D} (hb : BagAt w n) (h0 : 0 < ds.length) (h1 : ds.length < 2 ^ 190) (q : ∀ d b, d ∈ ds → BagAt (w.set n b) n → Q d (w.set n b)) : Go X (ofF [.obj n, .lst ds] w) Q := by
  obtain ⟨d, b, hm, e, hb'⟩ := of_lst hb h0 h1
  exact go_ok e (q d b hm hb')
theorem go_ofT {n : Nat} {ds : List D} (hb : BagAt w n) (h0 : 0 < ds.length) (h1 : ds.length < 2 ^ 190) (q : ∀ d b, d ∈ ds → BagAt (w.set n b) n → Q d (w.set n b)) : Go X (ofF [.obj n, .tup ds] w) Q := by
  obtain ⟨d, b, hm, e, hb'⟩ := of_tup hb h0 h1
  exact go_ok e (q d b hm hb')
theorem go_ofS {n : Nat} {z : Str} (hb : BagAt w n) (h0 : 0 < z.length) (h1 : z.length ≤ 16777216) (q : ∀ c b, c ∈ z.cps.toList → BagAt (w.set n b) n → Q (.str ⟨#[c]⟩) (w.set n b)) : Go X (ofF [.obj n, .str z] w) Q := by
  obtain ⟨c, b, hm, e, hb'⟩ := of_str hb h0 h1
  exact go_ok e (q c b hm hb')
theorem an_rng {j : Int} (e : -(2 ^ 62) ≤ j ∧ j < 2 ^ 62) (h : P) : (-(2 ^ 62) ≤ j ∧ j < 2 ^ 62) ∧ P := ⟨e, h⟩
theorem an_rng2 {i j : Int} (e : -(2 ^ 62) ≤ i ∧ i < 2 ^ 62 ∧ -(2 ^ 62) ≤ j ∧ j < 2 ^ 62) (h : P) : (-(2 ^ 62) ≤ i ∧ i < 2 ^ 62 ∧ -(2 ^ 62) ≤ j ∧ j < 2 ^ 62) ∧ P := ⟨e, h⟩
/-- the other cells are as they were -/
def Oth (n : Nat) (w w' : Wd) : Prop := w'.length = w.length ∧ ∀ k, k ≠ n → w'[k]? = w[k]?
theorem oth_set {n : Nat} {b : MO} : Oth n w (w.set n b) := ⟨by simp, fun k h => by rw [List.getElem?_set_ne (fun e => h e.symm)]⟩
theorem dr {n : Nat} {many : Int} (hb : BagAt w n) (h0 : 0 < many) (h1 : many < 2 ^ 200) (q : ∀ r w', 0 ≤ r → r < many → BagAt w' n → Oth n w w' → Q (.int r) w') : Go X (drawF [.obj n, .int many] w) Q :=
  go_draw hb h0 h1 fun r b r0 r1 hb' => q r _ r0 r1 hb' oth_set
theorem ofl {n : Nat} {ds : List D} (hb : BagAt w n) (h0 : 0 < ds.length) (h1 : ds.length < 2 ^ 190) (q : ∀ d w', d ∈ ds → BagAt w' n → Oth n w w' → Q d w') : Go X (ofF [.obj n, .lst ds] w) Q :=
  go_ofL hb h0 h1 fun d b hm hb' => q d _ hm hb' oth_set
theorem oft {n : Nat} {ds : List D} (hb : BagAt w n) (h0 : 0 < ds.length) (h1 : ds.length < 2 ^ 190) (q : ∀ d w', d ∈ ds → BagAt w' n → Oth n w w' → Q d w') : Go X (ofF [.obj n, .tup ds] w) Q :=
  go_ofT hb h0 h1 fun d b hm hb' => q d _ hm hb' oth_set
theorem ofs {n : Nat} {z : Str} (hb : BagAt w n) (h0 : 0 < z.length) (h1 : z.length ≤ 16777216) (q : ∀ c w', c ∈ z.cps.toList → BagAt w' n → Oth n w w' → Q (.str ⟨#[c]⟩) w') : Go X (ofF [.obj n, .str z] w) Q :=
  go_ofS hb h0 h1 fun c b hm hb' => q c _ hm hb' oth_set
theorem go_bag {ns : List Int} (hl : ns.length ≤ 63) (q : ∀ b, BagAt (w ++ [b]) w.length → Q (.obj w.length) (w ++ [b])) : Go X (bagF [.scr ns] w) Q := by
  obtain ⟨b, e, hb⟩ := bag_spec ns w hl
  exact go_ok e (q b hb)
theorem go_same {n : Nat} {d e : D} (h : d = e) (hf : d.fine n = true) (q : Q (.bl true) w) : Go X (sameF (n + 1) [d, e] w) Q := by
  subst h
  exact go_ok (same_refl n d w hf) q
end
/-! texts -/
def mkS (cs : List Nat) : Str := ⟨cs.toArray⟩
theorem mkS_len {cs : List Nat} : (mkS cs).length = cs.length := by simp [mkS, Str.length]
theorem mkS_cps {cs : List Nat} : (mkS cs).cps.toList = cs := by simp [mkS]
theorem mkS_inj {a b : List Nat} (h : mkS a = mkS b) : a = b := by
  have := congrArg (fun z : Str => z.cps.toList) h
  simpa [mkS] using this
theorem mkS_add {a b : List Nat} : mkS a ++ mkS b = mkS (a ++ b) := by
  show (⟨a.toArray ++ b.toArray⟩ : Str) = ⟨(a ++ b).toArray⟩
  simp
theorem mkS_mul {a : List Nat} {n : Int} : strMul (mkS a) n = mkS (List.replicate n.toNat a).flatten := by
  simp [strMul, mkS]
theorem joinL_ones : ∀ cs : List Nat, TL.joinL [] (cs.map fun c => [c]) = cs
  | [] => rfl
  | [c] => rfl
  | c :: d :: r => by
    have ih := joinL_ones (d :: r)
    simp only [List.map_cons] at ih ⊢
    rw [TL.joinL, ih]
    rfl
theorem stA_ones : ∀ cs : List Nat, stA (cs.map fun c => .str ⟨#[c]⟩) = some (cs.map fun c => ⟨#[c]⟩)
  | [] => rfl
  | c :: r => by rw [List.map_cons, stA, stA_ones r]; rfl
theorem sum_ones : ∀ cs : List Nat, ((cs.map fun c => (⟨#[c]⟩ : Str)).map (·.length)).sum = cs.length
  | [] => rfl
  | c :: r => by
    rw [List.map_cons, List.map_cons, List.sum_cons, sum_ones r, List.length_cons, Nat.add_comm]
    rfl
theorem go_joinO {X : EX} {Q : D → Wd → Prop} {w : Wd} {cs : List Nat} (hl : cs.length ≤ 16777216) (q : Q (.str (mkS cs)) w) : Go X (gJoin (.str "") (.lst (cs.map fun c => .str ⟨#[c]⟩)) w) Q := by
  refine go_ok (a := D.str (mkS cs)) (w' := w) ?_ q
  have e : Txt.join "" (cs.map fun c => (⟨#[c]⟩ : Str)) = mkS cs := by
    have := SX.join_S [] (cs.map fun c => [c])
    rw [joinL_ones, List.map_map] at this
    exact this
  unfold gJoin
  simp only [seqD, der_lst, Option.bind, stA_ones]
  rw [sum_ones, if_pos (by show cs.length + _ * 0 ≤ _; omega), e]
end Si

set_option Elab.async false
set_option linter.all false
set_option autoImplicit false
set_option maxRecDepth 100000
set_option maxHeartbeats 4000000
namespace K02
open PySem L2 PyProof.Rows Si
/-! ### what the module holds -/
def top (i : Nat) : Stmt := PySem.Challenge.pw_coarseonce_k02_names_and_numbers.main.body.getD i (.Pass ⟨0, 0, 0, 0⟩)
structure Bl (mg : Str → Option Value) : Prop where
  b_isinstance : mg "isinstance" = none
  b_str : mg "str" = none
  b_len : mg "len" = none
  b_all : mg "all" = none
  b_int : mg "int" = none
  b_bool : mg "bool" = none
  b_list : mg "list" = none
  b_tuple : mg "tuple" = none
  b_zip : mg "zip" = none
  b_range : mg "range" = none
def c_LETTERS : D := (.str "abcdefghijklmnopqrstuvwxyz")
def c_RESERVED : D := (.tup [(.str "age"), (.str "young"), (.str "none"), (.str "learn"), (.str "any")])
def c_MOST_WAIT : D := (.int 6)
structure Cn (K : PySem.W.Frag) (mg : Str → Option Value) : Prop where
  c_LETTERS : CN K mg "LETTERS" c_LETTERS
  c_RESERVED : CN K mg "RESERVED" c_RESERVED
  c_MOST_WAIT : CN K mg "MOST_WAIT" c_MOST_WAIT
section
variable {P : Program} {w : World} {K : PySem.W.Frag} {mg : Str → Option Value} {base : Heap} {cl : Str → Option Addr}

/-! ### is_word -/
abbrev st_is_word : Stmt := top 4
def N_is_word : List Str := ["value", "sign"]
theorem sc_is_word : FnScope N_is_word ["value"] (defScope st_is_word) := ⟨rfl, rfl, rfl, by decide +kernel, rfl, by decide +kernel, by decide +kernel⟩
def M_is_word : En → Wd → SR :=
  (mRet (mAnd (mIsi "str" (mVar 0)) (mAnd (mChain gLe gLe (mC (.int 1)) (mCall gLen (aCons (mVar 0) aNil)) (mC (.int 6))) (mCall gAll (aCons (mLc (mIter (mVar 0)) [1] (gNm 1) bYes (mOp gIn (mVar 1) (mC c_LETTERS))) aNil)))))
def F_is_word : List D → Wd → R D := fnD 2 1 M_is_word
theorem ok_is_word (B : Bl mg) (C : Cn K mg)  {f : Addr} {fd : FuncData} (F_ : Fun K "is_word" "is_word" st_is_word f fd) : SF P w K cl mg base 2 f fd ["value"] F_is_word := by
  refine sf_mk F_ sc_is_word rfl rfl fun cdv A outer s H E hr => ?_
  have hu := hu64 hr
  have hu5 := hu65 hr
  have tk : Takes (cxOf (L2.CX P w) P w K mg base N_is_word "is_word" (defScope st_is_word) f cdv A outer s H E) (fun cls d _ H => E cls d H) := takes_of rfl rfl rfl rfl
  have hx : Passes (L2.CX P w) (cxOf (L2.CX P w) P w K mg base N_is_word "is_word" (defScope st_is_word) f cdv A outer s H E) E := passes_call tk fun _ _ _ _ h => h
  have hpo := passes_of (X := cxOf (L2.CX P w) P w K mg base N_is_word "is_word" (defScope st_is_word) f cdv A outer s H E) rfl
  exact (sb_one (ss_ret (se_and (se_isi (T' := "str") (se_var (pv 0)) rfl B.b_isinstance rfl B.b_str (by decide +kernel) (by decide)) (se_and (se_chain op_le op_le gr_le gr_le se_int (se_len rfl B.b_len (sa_cons (se_var (pv 0)) sa_nil)) se_int) (se_one (se_all rfl rfl B.b_all (sa_cons (se_lc (own := [("sign", 1)]) rfl (sc_is_word).nd (si_seq (se_var (pv 0))) (blkOk_by (own := [("sign", 1)]) (N := N_is_word) (sc := defScope st_is_word) (by decide +kernel)) (fun _ _ _ _ _ => (sg_name (pg_name (i := 1) (sc_is_word).nd rfl (by first | exact Or.inl rfl | exact Or.inr rfl)))) (fun _ _ _ _ _ => sts_nil) (fun _ _ _ _ _ => (se_cmp (op_inA hu5) gr_in (se_var (pv 1)) (se_cn rfl C.c_LETTERS) (by rfl)))) sa_nil)))))))
abbrev G_is_word := F_is_word
/-! ### is_name -/
abbrev st_is_name : Stmt := top 5
def N_is_name : List Str := ["value"]
theorem sc_is_name : FnScope N_is_name ["value"] (defScope st_is_name) := ⟨rfl, rfl, rfl, by decide +kernel, rfl, by decide +kernel, by decide +kernel⟩
def M_is_name : En → Wd → SR :=
  (mRet (mAnd (mCall G_is_word (aCons (mVar 0) aNil)) (mOp gNotIn (mVar 0) (mC c_RESERVED))))
def F_is_name : List D → Wd → R D := fnD 1 1 M_is_name
theorem ok_is_name (B : Bl mg) (C : Cn K mg) {f_is_word : Addr} {fd_is_word : FuncData} (h_is_word : At P w K cl mg base 2 "is_word" st_is_word ["value"] f_is_word fd_is_word G_is_word) {f : Addr} {fd : FuncData} (F_ : Fun K "is_name" "is_name" st_is_name f fd) : SF P w K cl mg base 4 f fd ["value"] F_is_name := by
  refine sf_mk F_ sc_is_name rfl rfl fun cdv A outer s H E hr => ?_
  have hu := hu64 hr
  have hu5 := hu65 hr
  have tk : Takes (cxOf (L2.CX P w) P w K mg base N_is_name "is_name" (defScope st_is_name) f cdv A outer s H E) (fun cls d _ H => E cls d H) := takes_of rfl rfl rfl rfl
  have hx : Passes (L2.CX P w) (cxOf (L2.CX P w) P w K mg base N_is_name "is_name" (defScope st_is_name) f cdv A outer s H E) E := passes_call tk fun _ _ _ _ h => h
  have hpo := passes_of (X := cxOf (L2.CX P w) P w K mg base N_is_name "is_name" (defScope st_is_name) f cdv A outer s H E) rfl
  exact (sb_one (ss_ret (se_and (se_fn h_is_word.ok (hr.mono (by decide)) rfl h_is_word.g h_is_word.F.kp h_is_word.b hx (sa_cons (se_var (pv 0)) sa_nil)) (se_one (se_cmp (op_notInA hu5) gr_notIn (se_var (pv 0)) (se_cn rfl C.c_RESERVED) (by rfl))))))
abbrev G_is_name := F_is_name
/-! ### is_number -/
abbrev st_is_number : Stmt := top 6
def N_is_number : List Str := ["value", "least", "most"]
theorem sc_is_number : FnScope N_is_number ["value", "least", "most"] (defScope st_is_number) := ⟨rfl, rfl, rfl, by decide +kernel, rfl, by decide +kernel, by decide +kernel⟩
def M_is_number : En → Wd → SR :=
  (mRet (mAnd (mIsi "int" (mVar 0)) (mAnd (mNot (mIsi "bool" (mVar 0))) (mChain gLe gLe (mVar 1) (mVar 0) (mVar 2)))))
def F_is_number : List D → Wd → R D := fnD 3 3 M_is_number
theorem ok_is_number (B : Bl mg) (C : Cn K mg)  {f : Addr} {fd : FuncData} (F_ : Fun K "is_number" "is_number" st_is_number f fd) : SF P w K cl mg base 2 f fd ["value", "least", "most"] F_is_number := by
  refine sf_mk F_ sc_is_number rfl rfl fun cdv A outer s H E hr => ?_
  have hu := hu64 hr
  have hu5 := hu65 hr
  have tk : Takes (cxOf (L2.CX P w) P w K mg base N_is_number "is_number" (defScope st_is_number) f cdv A outer s H E) (fun cls d _ H => E cls d H) := takes_of rfl rfl rfl rfl
  have hx : Passes (L2.CX P w) (cxOf (L2.CX P w) P w K mg base N_is_number "is_number" (defScope st_is_number) f cdv A outer s H E) E := passes_call tk fun _ _ _ _ h => h
  have hpo := passes_of (X := cxOf (L2.CX P w) P w K mg base N_is_number "is_number" (defScope st_is_number) f cdv A outer s H E) rfl
  exact (sb_one (ss_ret (se_and (se_isi (T' := "int") (se_var (pv 0)) rfl B.b_isinstance rfl B.b_int (by decide +kernel) (by decide)) (se_and (se_not (se_isi (T' := "bool") (se_var (pv 0)) rfl B.b_isinstance rfl B.b_bool (by decide +kernel) (by decide))) (se_one (se_chain op_le op_le gr_le gr_le (se_var (pv 1)) (se_var (pv 0)) (se_var (pv 2))))))))
abbrev G_is_number := F_is_number
/-! ### _law_bag -/
abbrev st__law_bag : Stmt := top 8
def N__law_bag : List Str := ["_law_script", "_law_cells", "_law_mark", "_law_cell"]
theorem sc__law_bag : FnScope N__law_bag ["_law_script"] (defScope st__law_bag) := ⟨rfl, rfl, rfl, by decide +kernel, rfl, by decide +kernel, by decide +kernel⟩
def M__law_bag : En → Wd → SR :=
  (mSeq (mAsg (mLc (mIter (mSl (mVar 0) oNone (oSome (mC (.int 63))))) [3] (gNm 3) bYes (mCall gInt (aCons (mVar 3) aNil))) (gNm 1))
  (mSeq (mAsg (mOp gAdd (mC (.int 100110)) (mOp gMul (mC (.int 73)) (mCall gLen (aCons (mVar 1) aNil)))) (gNm 2))
  (mSeq (mFor (mIter (mVar 1)) (gNm 3) (mAsg (mOp gMod (mCall gInt (aCons (mOp gAdd (mOp gMul (mVar 2) (mC (.int 7351))) (mVar 3)) aNil)) (mC (.int 2147483477))) (gNm 2)))
  (mRet (mLstM (aCons (mVar 1) (aCons (mC (.int 0)) (aCons (mC (.int 0)) (aCons (mVar 2) aNil)))))))))
def F__law_bag : List D → Wd → R D := fnD 4 1 M__law_bag
theorem ok__law_bag (B : Bl mg) (C : Cn K mg)  {f : Addr} {fd : FuncData} (F_ : Fun K "_law_bag" "_law_bag" st__law_bag f fd) : SF P w K cl mg base 2 f fd ["_law_script"] F__law_bag := by
  refine sf_mk F_ sc__law_bag rfl rfl fun cdv A outer s H E hr => ?_
  have hu := hu64 hr
  have hu5 := hu65 hr
  have tk : Takes (cxOf (L2.CX P w) P w K mg base N__law_bag "_law_bag" (defScope st__law_bag) f cdv A outer s H E) (fun cls d _ H => E cls d H) := takes_of rfl rfl rfl rfl
  have hx : Passes (L2.CX P w) (cxOf (L2.CX P w) P w K mg base N__law_bag "_law_bag" (defScope st__law_bag) f cdv A outer s H E) E := passes_call tk fun _ _ _ _ h => h
  have hpo := passes_of (X := cxOf (L2.CX P w) P w K mg base N__law_bag "_law_bag" (defScope st__law_bag) f cdv A outer s H E) rfl
  exact (sb_cons (ss_setLc (i := 1) (own := [("_law_cell", 3)]) rfl (sc__law_bag).nd rfl rfl (sw_true rfl rfl rfl (by decide +kernel)) (si_seq (se_slice (se_var (pv 0)) so_none (so_some se_int))) (blkOk_by (own := [("_law_cell", 3)]) (N := N__law_bag) (sc := defScope st__law_bag) (by decide +kernel)) (fun _ _ _ _ _ => (sg_name (pg_name (i := 3) (sc__law_bag).nd rfl (by first | exact Or.inl rfl | exact Or.inr rfl)))) (fun _ _ _ _ _ => sts_nil) (fun _ _ _ _ _ => (se_intC rfl B.b_int (sa_cons (se_var (pv 3)) sa_nil))))
  (sb_cons (ss_set (i := 2) (sc__law_bag).nd rfl (by first | exact Or.inl rfl | exact Or.inr rfl) (se_op op_addA gr_add se_int (se_op op_mulA gr_mul se_int (se_len rfl B.b_len (sa_cons (se_var (pv 1)) sa_nil)))))
  (sb_cons (ss_for hpo rfl (si_seq (se_var (pv 1))) (sg_name (pg_name (i := 3) (sc__law_bag).nd rfl (by first | exact Or.inl rfl | exact Or.inr rfl))) (sb_one (ss_set (i := 2) (sc__law_bag).nd rfl (by first | exact Or.inl rfl | exact Or.inr rfl) (se_op op_mod gr_mod (se_intC rfl B.b_int (sa_cons (se_op op_addA gr_add (se_op op_mulA gr_mul (se_var (pv 2)) se_int) (se_var (pv 3))) sa_nil)) se_int))))
  (sb_one (ss_ret (se_lstM (sa_cons (se_var (pv 1)) (sa_cons se_int (sa_cons se_int (sa_cons (se_var (pv 2)) sa_nil))))))))))
abbrev G__law_bag := bagF
/-! ### _law_draw -/
abbrev st__law_draw : Stmt := top 9
def N__law_draw : List Str := ["_law_bag_here", "_law_many", "_law_cell", "_law_first", "_law_second", "_law_digit"]
theorem sc__law_draw : FnScope N__law_draw ["_law_bag_here", "_law_many"] (defScope st__law_draw) := ⟨rfl, rfl, rfl, by decide +kernel, rfl, by decide +kernel, by decide +kernel⟩
def M__law_draw : En → Wd → SR :=
  (mSeq (mIfS (asB (mOp gLt (mOp gIx (mVar 0) (mC (.int 2))) (mC (.int 2)))) (mSeq (mSetI (mOp gAdd (mOp gIx (mVar 0) (mC (.int 1))) (mC (.int 1))) (mVar 0) (mC (.int 1)))
  (mSeq (mAsg (mOp gAdd (mOp gIx (mVar 0) (mC (.int 3))) (mOp gMul (mOp gIx (mVar 0) (mC (.int 1))) (mC (.int 8693)))) (gNm 2))
  (mSeq (mIfS (asB (mOp gLe (mOp gIx (mVar 0) (mC (.int 1))) (mCall gLen (aCons (mOp gIx (mVar 0) (mC (.int 0))) aNil)))) (mAsg (mOp gIx (mOp gIx (mVar 0) (mC (.int 0))) (mOp gSub (mOp gIx (mVar 0) (mC (.int 1))) (mC (.int 1)))) (gNm 2)) mNext)
  (mSeq (mIfS (bOr (asB (mOp gGt (mOp gIx (mVar 0) (mC (.int 1))) (mCall gLen (aCons (mOp gIx (mVar 0) (mC (.int 0))) aNil)))) (asB (mOp gLt (mVar 2) (mOp gPow (mC (.int 10)) (mC (.int 18)))))) (mSeq (mAsg (mOp gMod (mCall gInt (aCons (mOp gAdd (mOp gAdd (mOp gMul (mVar 2) (mC (.int 42061))) (mOp gMul (mOp gIx (mVar 0) (mC (.int 1))) (mC (.int 37021)))) (mOp gIx (mVar 0) (mC (.int 3)))) aNil)) (mC (.int 2147483629))) (gNm 3))
  (mSeq (mAsg (mOp gMod (mCall gInt (aCons (mOp gAdd (mOp gMul (mVar 3) (mVar 3)) (mOp gMul (mOp gIx (mVar 0) (mC (.int 1))) (mC (.int 50551)))) aNil)) (mC (.int 998244353))) (gNm 4))
  (mRet (mOp gMod (mOp gDiv (mOp gMod (mCall gInt (aCons (mOp gAdd (mOp gMul (mVar 4) (mC (.int 46819))) (mVar 3)) aNil)) (mC (.int 2147483587))) (mC (.int 23))) (mVar 1))))) mNext)
  (mSetI (mVar 2) (mVar 0) (mC (.int 2))))))) mNext)
  (mSeq (mAsg (mOp gMod (mCall gInt (aCons (mOp gIx (mVar 0) (mC (.int 2))) aNil)) (mVar 1)) (gNm 5))
  (mSeq (mSetI (mOp gDiv (mCall gInt (aCons (mOp gIx (mVar 0) (mC (.int 2))) aNil)) (mVar 1)) (mVar 0) (mC (.int 2)))
  (mRet (mVar 5)))))
def F__law_draw : List D → Wd → R D := fnD 6 2 M__law_draw
theorem ok__law_draw (B : Bl mg) (C : Cn K mg)  {f : Addr} {fd : FuncData} (F_ : Fun K "_law_draw" "_law_draw" st__law_draw f fd) : SF P w K cl mg base 2 f fd ["_law_bag_here", "_law_many"] F__law_draw := by
  refine sf_mk F_ sc__law_draw rfl rfl fun cdv A outer s H E hr => ?_
  have hu := hu64 hr
  have hu5 := hu65 hr
  have tk : Takes (cxOf (L2.CX P w) P w K mg base N__law_draw "_law_draw" (defScope st__law_draw) f cdv A outer s H E) (fun cls d _ H => E cls d H) := takes_of rfl rfl rfl rfl
  have hx : Passes (L2.CX P w) (cxOf (L2.CX P w) P w K mg base N__law_draw "_law_draw" (defScope st__law_draw) f cdv A outer s H E) E := passes_call tk fun _ _ _ _ h => h
  have hpo := passes_of (X := cxOf (L2.CX P w) P w K mg base N__law_draw "_law_draw" (defScope st__law_draw) f cdv A outer s H E) rfl
  exact (sb_cons (ss_if (st_cmp op_lt gr_lt (se_ix (se_var (pv 0)) se_int (fun _ _ => rfl)) se_int (nomark _)) (sb_cons (ss_setI (se_op op_addA gr_add (se_ix (se_var (pv 0)) se_int (fun _ _ => rfl)) se_int) (se_var (pv 0)) se_int)
  (sb_cons (ss_set (i := 2) (sc__law_draw).nd rfl (by first | exact Or.inl rfl | exact Or.inr rfl) (se_op op_addA gr_add (se_ix (se_var (pv 0)) se_int (fun _ _ => rfl)) (se_op op_mulA gr_mul (se_ix (se_var (pv 0)) se_int (fun _ _ => rfl)) se_int)))
  (sb_cons (ss_if (st_cmp op_le gr_le (se_ix (se_var (pv 0)) se_int (fun _ _ => rfl)) (se_len rfl B.b_len (sa_cons (se_ix (se_var (pv 0)) se_int (fun _ _ => rfl)) sa_nil)) (nomark _)) (sb_one (ss_set (i := 2) (sc__law_draw).nd rfl (by first | exact Or.inl rfl | exact Or.inr rfl) (se_ix (se_ix (se_var (pv 0)) se_int (fun _ _ => rfl)) (se_op op_sub gr_sub (se_ix (se_var (pv 0)) se_int (fun _ _ => rfl)) se_int) (fun _ _ => rfl)))) sb_nil)
  (sb_cons (ss_if (st_of (sw_or (st_cmp op_gt gr_gt (se_ix (se_var (pv 0)) se_int (fun _ _ => rfl)) (se_len rfl B.b_len (sa_cons (se_ix (se_var (pv 0)) se_int (fun _ _ => rfl)) sa_nil)) (nomark _)) (sw_or1 (st_cmp op_lt gr_lt (se_var (pv 2)) (se_op op_pow gr_pow se_int se_int) (nomark _))))) (sb_cons (ss_set (i := 3) (sc__law_draw).nd rfl (by first | exact Or.inl rfl | exact Or.inr rfl) (se_op op_mod gr_mod (se_intC rfl B.b_int (sa_cons (se_op op_addA gr_add (se_op op_addA gr_add (se_op op_mulA gr_mul (se_var (pv 2)) se_int) (se_op op_mulA gr_mul (se_ix (se_var (pv 0)) se_int (fun _ _ => rfl)) se_int)) (se_ix (se_var (pv 0)) se_int (fun _ _ => rfl))) sa_nil)) se_int))
  (sb_cons (ss_set (i := 4) (sc__law_draw).nd rfl (by first | exact Or.inl rfl | exact Or.inr rfl) (se_op op_mod gr_mod (se_intC rfl B.b_int (sa_cons (se_op op_addA gr_add (se_op op_mulA gr_mul (se_var (pv 3)) (se_var (pv 3))) (se_op op_mulA gr_mul (se_ix (se_var (pv 0)) se_int (fun _ _ => rfl)) se_int)) sa_nil)) se_int))
  (sb_one (ss_ret (se_op op_mod gr_mod (se_op op_fdivW gr_div (se_op op_mod gr_mod (se_intC rfl B.b_int (sa_cons (se_op op_addA gr_add (se_op op_mulA gr_mul (se_var (pv 4)) se_int) (se_var (pv 3))) sa_nil)) se_int) se_int) (se_var (pv 1))))))) sb_nil)
  (sb_one (ss_setI (se_var (pv 2)) (se_var (pv 0)) se_int)))))) sb_nil)
  (sb_cons (ss_set (i := 5) (sc__law_draw).nd rfl (by first | exact Or.inl rfl | exact Or.inr rfl) (se_op op_mod gr_mod (se_intC rfl B.b_int (sa_cons (se_ix (se_var (pv 0)) se_int (fun _ _ => rfl)) sa_nil)) (se_var (pv 1))))
  (sb_cons (ss_setI (se_op op_fdivW gr_div (se_intC rfl B.b_int (sa_cons (se_ix (se_var (pv 0)) se_int (fun _ _ => rfl)) sa_nil)) (se_var (pv 1))) (se_var (pv 0)) se_int)
  (sb_one (ss_ret (se_var (pv 5)))))))
abbrev G__law_draw := drawF
/-! ### _law_of -/
abbrev st__law_of : Stmt := top 10
def N__law_of : List Str := ["_law_bag_here", "_law_some"]
theorem sc__law_of : FnScope N__law_of ["_law_bag_here", "_law_some"] (defScope st__law_of) := ⟨rfl, rfl, rfl, by decide +kernel, rfl, by decide +kernel, by decide +kernel⟩
def M__law_of : En → Wd → SR :=
  (mRet (mOp gIx (mVar 1) (mCall G__law_draw (aCons (mVar 0) (aCons (mCall gLen (aCons (mVar 1) aNil)) aNil)))))
def F__law_of : List D → Wd → R D := fnD 2 2 M__law_of
theorem ok__law_of (B : Bl mg) (C : Cn K mg) {f__law_draw : Addr} {fd__law_draw : FuncData} (h__law_draw : At P w K cl mg base 2 "_law_draw" st__law_draw ["_law_bag_here", "_law_many"] f__law_draw fd__law_draw G__law_draw) {f : Addr} {fd : FuncData} (F_ : Fun K "_law_of" "_law_of" st__law_of f fd) : SF P w K cl mg base 4 f fd ["_law_bag_here", "_law_some"] F__law_of := by
  refine sf_mk F_ sc__law_of rfl rfl fun cdv A outer s H E hr => ?_
  have hu := hu64 hr
  have hu5 := hu65 hr
  have tk : Takes (cxOf (L2.CX P w) P w K mg base N__law_of "_law_of" (defScope st__law_of) f cdv A outer s H E) (fun cls d _ H => E cls d H) := takes_of rfl rfl rfl rfl
  have hx : Passes (L2.CX P w) (cxOf (L2.CX P w) P w K mg base N__law_of "_law_of" (defScope st__law_of) f cdv A outer s H E) E := passes_call tk fun _ _ _ _ h => h
  have hpo := passes_of (X := cxOf (L2.CX P w) P w K mg base N__law_of "_law_of" (defScope st__law_of) f cdv A outer s H E) rfl
  exact (sb_one (ss_ret (se_ix (se_var (pv 1)) (se_fn h__law_draw.ok (hr.mono (by decide)) rfl h__law_draw.g h__law_draw.F.kp h__law_draw.b hx (sa_cons (se_var (pv 0)) (sa_cons (se_len rfl B.b_len (sa_cons (se_var (pv 1)) sa_nil)) sa_nil))) (fun _ _ => rfl))))
abbrev G__law_of := ofF
/-! ### _law_same -/
abbrev st__law_same : Stmt := top 11
def N__law_same : List Str := ["_law_found", "_law_due", "_law_one", "_law_two"]
theorem sc__law_same : FnScope N__law_same ["_law_found", "_law_due"] (defScope st__law_same) := ⟨rfl, rfl, rfl, by decide +kernel, rfl, by decide +kernel, by decide +kernel⟩
def M__law_same (G__law_same : List D → Wd → R D) : En → Wd → SR :=
  (mSeq (mIfS (asB (mOp gIsN (mVar 1) (mC .non))) (mRet (mOp gIsN (mVar 0) (mC .non))) mNext)
  (mSeq (mIfS (bOr (mTru (mIsi "bool" (mVar 1))) (mTru (mIsi "bool" (mVar 0)))) (mRet (mAnd (mIsi "bool" (mVar 1)) (mAnd (mIsi "bool" (mVar 0)) (mOp gEq (mVar 0) (mVar 1))))) mNext)
  (mSeq (mIfS (mTru (mIsi2 "int" "str" (mVar 1))) (mRet (mAnd (mIsi2 "int" "str" (mVar 0)) (mAnd (mOp gEq (mIsi "int" (mVar 0)) (mIsi "int" (mVar 1))) (mOp gEq (mVar 0) (mVar 1))))) mNext)
  (mSeq (mIfS (bOr (asB (mOp gNe (mIsi "list" (mVar 1)) (mIsi "list" (mVar 0)))) (asB (mOp gNe (mIsi "tuple" (mVar 1)) (mIsi "tuple" (mVar 0))))) (mRet (mC (.bl false))) mNext)
  (mSeq (mIfS (bNot (mTru (mIsi2 "list" "tuple" (mVar 0)))) (mRet (mC (.bl false))) mNext)
  (mRet (mAnd (mOp gEq (mCall gLen (aCons (mVar 0) aNil)) (mCall gLen (aCons (mVar 1) aNil))) (mCall gAll (aCons (mLc (mZip (aCons (mVar 0) (aCons (mVar 1) aNil))) [2, 3] (gTupD 2 (gConsD (gNm 2) (gConsD (gNm 3) gNilD))) bYes (mCall G__law_same (aCons (mVar 2) (aCons (mVar 3) aNil)))) aNil)))))))))
def F__law_same (G__law_same : List D → Wd → R D) : List D → Wd → R D := fnD 4 2 (M__law_same G__law_same)
theorem ok__law_same (B : Bl mg) (C : Cn K mg)  {f : Addr} {fd : FuncData} {k : Nat} (F_ : Fun K "_law_same" "_law_same" st__law_same f fd) (g__law_same : mg "_law_same" = some (.ref f)) (b_ : Binds K fd ["_law_found", "_law_due"] []) {G__law_same : List D → Wd → R D} (h__law_same : SF P w K cl mg base k f fd ["_law_found", "_law_due"] G__law_same) : SF P w K cl mg base (k + 1) f fd ["_law_found", "_law_due"] (F__law_same G__law_same) := by
  refine sf_mk F_ sc__law_same rfl rfl fun cdv A outer s H E hr => ?_
  have hu := hu64 hr
  have hu5 := hu65 hr
  have tk : Takes (cxOf (L2.CX P w) P w K mg base N__law_same "_law_same" (defScope st__law_same) f cdv A outer s H E) (fun cls d _ H => E cls d H) := takes_of rfl rfl rfl rfl
  have hx : Passes (L2.CX P w) (cxOf (L2.CX P w) P w K mg base N__law_same "_law_same" (defScope st__law_same) f cdv A outer s H E) E := passes_call tk fun _ _ _ _ h => h
  have hpo := passes_of (X := cxOf (L2.CX P w) P w K mg base N__law_same "_law_same" (defScope st__law_same) f cdv A outer s H E) rfl
  exact (sb_cons (ss_if (st_cmp op_isN gr_isN (se_var (pv 1)) se_non (nomark _)) (sb_one (ss_ret (se_cmp op_isN gr_isN (se_var (pv 0)) se_non (nomark _)))) sb_nil)
  (sb_cons (ss_if (st_of (sw_or (st_truth (se_isi (T' := "bool") (se_var (pv 1)) rfl B.b_isinstance rfl B.b_bool (by decide +kernel) (by decide)) (fun _ => rfl)) (sw_or1 (st_truth (se_isi (T' := "bool") (se_var (pv 0)) rfl B.b_isinstance rfl B.b_bool (by decide +kernel) (by decide)) (fun _ => rfl))))) (sb_one (ss_ret (se_and (se_isi (T' := "bool") (se_var (pv 1)) rfl B.b_isinstance rfl B.b_bool (by decide +kernel) (by decide)) (se_and (se_isi (T' := "bool") (se_var (pv 0)) rfl B.b_isinstance rfl B.b_bool (by decide +kernel) (by decide)) (se_one (se_cmp (op_eqA hu) gr_eq (se_var (pv 0)) (se_var (pv 1)) (nomark _))))))) sb_nil)
  (sb_cons (ss_if (st_truth (se_isi2 (T' := "int") (U' := "str") (se_var (pv 1)) rfl B.b_isinstance rfl B.b_int (by decide +kernel) (by decide) rfl B.b_str (by decide +kernel) (by decide)) (fun _ => rfl)) (sb_one (ss_ret (se_and (se_isi2 (T' := "int") (U' := "str") (se_var (pv 0)) rfl B.b_isinstance rfl B.b_int (by decide +kernel) (by decide) rfl B.b_str (by decide +kernel) (by decide)) (se_and (se_cmp (op_eqA hu) gr_eq (se_isi (T' := "int") (se_var (pv 0)) rfl B.b_isinstance rfl B.b_int (by decide +kernel) (by decide)) (se_isi (T' := "int") (se_var (pv 1)) rfl B.b_isinstance rfl B.b_int (by decide +kernel) (by decide)) (nomark _)) (se_one (se_cmp (op_eqA hu) gr_eq (se_var (pv 0)) (se_var (pv 1)) (nomark _))))))) sb_nil)
  (sb_cons (ss_if (st_of (sw_or (st_cmp (op_neA hu) gr_ne (se_isi (T' := "list") (se_var (pv 1)) rfl B.b_isinstance rfl B.b_list (by decide +kernel) (by decide)) (se_isi (T' := "list") (se_var (pv 0)) rfl B.b_isinstance rfl B.b_list (by decide +kernel) (by decide)) (nomark _)) (sw_or1 (st_cmp (op_neA hu) gr_ne (se_isi (T' := "tuple") (se_var (pv 1)) rfl B.b_isinstance rfl B.b_tuple (by decide +kernel) (by decide)) (se_isi (T' := "tuple") (se_var (pv 0)) rfl B.b_isinstance rfl B.b_tuple (by decide +kernel) (by decide)) (nomark _))))) (sb_one (ss_ret se_bl)) sb_nil)
  (sb_cons (ss_if (st_not (st_truth (se_isi2 (T' := "list") (U' := "tuple") (se_var (pv 0)) rfl B.b_isinstance rfl B.b_list (by decide +kernel) (by decide) rfl B.b_tuple (by decide +kernel) (by decide)) (fun _ => rfl))) (sb_one (ss_ret se_bl)) sb_nil)
  (sb_one (ss_ret (se_and (se_cmp (op_eqA hu) gr_eq (se_len rfl B.b_len (sa_cons (se_var (pv 0)) sa_nil)) (se_len rfl B.b_len (sa_cons (se_var (pv 1)) sa_nil)) (nomark _)) (se_one (se_all rfl rfl B.b_all (sa_cons (se_lc (own := [("_law_one", 2), ("_law_two", 3)]) rfl (sc__law_same).nd (si_zip rfl B.b_zip (sa_cons (se_var (pv 0)) (sa_cons (se_var (pv 1)) sa_nil))) (blkOk_by (own := [("_law_one", 2), ("_law_two", 3)]) (N := N__law_same) (sc := defScope st__law_same) (by decide +kernel)) (fun _ _ _ _ _ => (sg_tup rfl (sgs_cons (sg_name (pg_name (i := 2) (sc__law_same).nd rfl (by first | exact Or.inl rfl | exact Or.inr rfl))) (sgs_cons (sg_name (pg_name (i := 3) (sc__law_same).nd rfl (by first | exact Or.inl rfl | exact Or.inr rfl))) sgs_nil)))) (fun _ _ _ _ _ => sts_nil) (fun _ _ _ _ _ => (se_fn h__law_same hr rfl g__law_same F_.kp b_ passL (sa_cons (se_var (pv 2)) (sa_cons (se_var (pv 3)) sa_nil))))) sa_nil)))))))))))
abbrev G__law_same := sameF 6
theorem rec__law_same {P : Program} {w : World} {K : PySem.W.Frag} {mg : Str → Option Value} {base : Heap} {cl : Str → Option Addr} {f : Addr} {fd : FuncData} {ps : List Str} (h : ∀ (k : Nat) (G : List D → Wd → R D), SF P w K cl mg base k f fd ps G → SF P w K cl mg base (k + 1) f fd ps (fnD 4 2 (M_same G))) : SF P w K cl mg base 6 f fd ps (sameF 6) := sf_same h 6
/-! ### law -/
abbrev st_law : Stmt := top 12
def N_law : List Str := ["_law_script", "_law_bag_here", "_law_letters", "_law_turn", "_law_word", "_law_odd", "_law_lone", "_law_low", "_law_high", "_law_many", "_law_far", "_law_words", "_law_k"]
theorem sc_law : FnScope N_law ["_law_script"] (defScope st_law) := ⟨rfl, rfl, rfl, by decide +kernel, rfl, by decide +kernel, by decide +kernel⟩
def M_law : En → Wd → SR :=
  (mSeq (mAsg (mCall G__law_bag (aCons (mVar 0) aNil)) (gNm 1))
  (mSeq (mAsg (mC (.str "abcdefghijklmnopqrstuvwxyz")) (gNm 2))
  (mSeq (mFor (mRng (aCons (mC (.int 6)) aNil)) (gNm 3) (mSeq (mAsg (mJoin (mC (.str "")) (mLc (mRng (aCons (mCall G__law_draw (aCons (mVar 1) (aCons (mC (.int 9)) aNil))) aNil)) [12] (gNm 12) bYes (mCall G__law_of (aCons (mVar 1) (aCons (mVar 2) aNil))))) (gNm 4))
  (mSeq (mAsg (mCall G__law_of (aCons (mVar 1) (aCons (mLst (aCons (mC (.str "")) (aCons (mC (.str "A")) (aCons (mC (.str "a1")) (aCons (mC (.str "a b")) (aCons (mC (.str "abC")) (aCons (mC (.str "a=")) (aCons (mC (.str " a")) (aCons (mC (.str "a\n")) aNil))))))))) aNil))) (gNm 5))
  (mSeq (mIfS (bNot (mTru (mCall G__law_same (aCons (mLst (aCons (mCall G_is_name (aCons (mOp gAdd (mVar 4) (mC (.str "q"))) aNil)) (aCons (mCall G_is_name (aCons (mVar 5) aNil)) aNil))) (aCons (mLst (aCons (mOp gLt (mCall gLen (aCons (mVar 4) aNil)) (mC (.int 6))) (aCons (mC (.bl false)) aNil))) aNil))))) (mRet (mC (.bl false))) mNext)
  (mSeq (mAsg (mOp gMul (mCall G__law_of (aCons (mVar 1) (aCons (mVar 2) aNil))) (mOp gAdd (mC (.int 1)) (mCall G__law_draw (aCons (mVar 1) (aCons (mC (.int 8)) aNil))))) (gNm 6))
  (mSeq (mIfS (bNot (mTru (mCall G__law_same (aCons (mCallK G_is_name [0] aNil (aCons (mVar 6) aNil)) (aCons (mOp gLt (mCall gLen (aCons (mVar 6) aNil)) (mC (.int 7))) aNil))))) (mRet (mC (.bl false))) mNext)
  (mSeq (mPar 7 8 (aCons (mOp gSub (mCall G__law_draw (aCons (mVar 1) (aCons (mC (.int 20)) aNil))) (mC (.int 10))) (aCons (mOp gSub (mCall G__law_draw (aCons (mVar 1) (aCons (mC (.int 20)) aNil))) (mC (.int 10))) aNil)))
  (mSeq (mAsg (mCall G__law_of (aCons (mVar 1) (aCons (mLst (aCons (mVar 7) (aCons (mVar 8) (aCons (mOp gSub (mVar 7) (mC (.int 1))) (aCons (mOp gAdd (mVar 8) (mC (.int 1))) (aCons (mC (.int 0)) (aCons (mOp gSub (mCall G__law_draw (aCons (mVar 1) (aCons (mC (.int 40)) aNil))) (mC (.int 20))) (aCons (mOp gPow (mC (.int 10)) (mC (.int 29))) aNil)))))))) aNil))) (gNm 9))
  (mSeq (mIfS (bNot (mTru (mCall G__law_same (aCons (mCall G_is_number (aCons (mVar 9) (aCons (mVar 7) (aCons (mVar 8) aNil)))) (aCons (mAnd (mOp gLe (mVar 7) (mVar 9)) (mOp gLe (mVar 9) (mVar 8))) aNil))))) (mRet (mC (.bl false))) mNext)
  (mSeq (mAsg (mCall G__law_of (aCons (mVar 1) (aCons (mLst (aCons (mC .non) (aCons (mC (.bl true)) (aCons (mC (.bl false)) (aCons (mC (.str "0")) (aCons (mTup aNil) (aCons (mLst (aCons (mC (.int 1)) aNil)) aNil))))))) aNil))) (gNm 10))
  (mIfS (bNot (mTru (mCall G__law_same (aCons (mLst (aCons (mCallK G_is_number [0, 1, 2] aNil (aCons (mVar 10) (aCons (mC (.int 0)) (aCons (mOp gPow (mC (.int 10)) (mC (.int 20))) aNil)))) (aCons (mCall G_is_name (aCons (mCall G__law_of (aCons (mVar 1) (aCons (mLst (aCons (mC .non) (aCons (mC (.int 3)) (aCons (mC (.bl true)) (aCons (mTup (aCons (mC (.str "a")) aNil)) (aCons (mLst (aCons (mC (.str "a")) aNil)) aNil)))))) aNil))) aNil)) aNil))) (aCons (mLst (aCons (mC (.bl false)) (aCons (mC (.bl false)) aNil))) aNil))))) (mRet (mC (.bl false))) mNext)))))))))))
  (mSeq (mAsg (mLst (aCons (mC (.str "age")) (aCons (mC (.str "young")) (aCons (mC (.str "none")) (aCons (mC (.str "learn")) (aCons (mC (.str "any")) (aCons (mC (.str "ages")) (aCons (mC (.str "put")) (aCons (mC (.str "fine")) (aCons (mC (.str "no")) aNil)))))))))) (gNm 11))
  (mRet (mAnd (mCall G__law_same (aCons (mLc (mIter (mVar 11)) [4] (gNm 4) bYes (mCall G_is_name (aCons (mVar 4) aNil))) (aCons (mOp gAdd (mOp gMul (mLst (aCons (mC (.bl false)) aNil)) (mC (.int 5))) (mOp gMul (mLst (aCons (mC (.bl true)) aNil)) (mC (.int 4)))) aNil))) (mCall G__law_same (aCons (mC c_MOST_WAIT) (aCons (mC (.int 6)) aNil)))))))))
def F_law : List D → Wd → R D := fnD 13 1 M_law
theorem ok_law (B : Bl mg) (C : Cn K mg) {f__law_bag : Addr} {fd__law_bag : FuncData} (h__law_bag : At P w K cl mg base 2 "_law_bag" st__law_bag ["_law_script"] f__law_bag fd__law_bag G__law_bag) {f__law_draw : Addr} {fd__law_draw : FuncData} (h__law_draw : At P w K cl mg base 2 "_law_draw" st__law_draw ["_law_bag_here", "_law_many"] f__law_draw fd__law_draw G__law_draw) {f__law_of : Addr} {fd__law_of : FuncData} (h__law_of : At P w K cl mg base 4 "_law_of" st__law_of ["_law_bag_here", "_law_some"] f__law_of fd__law_of G__law_of) {f_is_name : Addr} {fd_is_name : FuncData} (h_is_name : At P w K cl mg base 4 "is_name" st_is_name ["value"] f_is_name fd_is_name G_is_name) {f__law_same : Addr} {fd__law_same : FuncData} (h__law_same : At P w K cl mg base 6 "_law_same" st__law_same ["_law_found", "_law_due"] f__law_same fd__law_same G__law_same) {f_is_number : Addr} {fd_is_number : FuncData} (h_is_number : At P w K cl mg base 2 "is_number" st_is_number ["value", "least", "most"] f_is_number fd_is_number G_is_number) {f : Addr} {fd : FuncData} (F_ : Fun K "law" "law" st_law f fd) : SF P w K cl mg base 8 f fd ["_law_script"] F_law := by
  refine sf_mk F_ sc_law rfl rfl fun cdv A outer s H E hr => ?_
  have hu := hu64 hr
  have hu5 := hu65 hr
  have tk : Takes (cxOf (L2.CX P w) P w K mg base N_law "law" (defScope st_law) f cdv A outer s H E) (fun cls d _ H => E cls d H) := takes_of rfl rfl rfl rfl
  have hx : Passes (L2.CX P w) (cxOf (L2.CX P w) P w K mg base N_law "law" (defScope st_law) f cdv A outer s H E) E := passes_call tk fun _ _ _ _ h => h
  have hpo := passes_of (X := cxOf (L2.CX P w) P w K mg base N_law "law" (defScope st_law) f cdv A outer s H E) rfl
  exact (sb_cons (ss_set (i := 1) (sc_law).nd rfl (by first | exact Or.inl rfl | exact Or.inr rfl) (se_fn h__law_bag.ok (hr.mono (by decide)) rfl h__law_bag.g h__law_bag.F.kp h__law_bag.b hx (sa_cons (se_var (pv 0)) sa_nil)))
  (sb_cons (ss_set (i := 2) (sc_law).nd rfl (by first | exact Or.inl rfl | exact Or.inr rfl) se_str)
  (sb_cons (ss_for hpo rfl (si_rng1 rfl B.b_range se_int) (sg_name (pg_name (i := 3) (sc_law).nd rfl (by first | exact Or.inl rfl | exact Or.inr rfl))) (sb_cons (ss_set (i := 4) (sc_law).nd rfl (by first | exact Or.inl rfl | exact Or.inr rfl) (se_join se_str (se_lc (own := [("_law_k", 12)]) rfl (sc_law).nd (si_rng1 rfl B.b_range (se_fn h__law_draw.ok (hr.mono (by decide)) rfl h__law_draw.g h__law_draw.F.kp h__law_draw.b hx (sa_cons (se_var (pv 1)) (sa_cons se_int sa_nil)))) (blkOk_by (own := [("_law_k", 12)]) (N := N_law) (sc := defScope st_law) (by decide +kernel)) (fun _ _ _ _ _ => (sg_name (pg_name (i := 12) (sc_law).nd rfl (by first | exact Or.inl rfl | exact Or.inr rfl)))) (fun _ _ _ _ _ => sts_nil) (fun _ _ _ _ _ => (se_fn h__law_of.ok (hr.mono (by decide)) rfl h__law_of.g h__law_of.F.kp h__law_of.b passL (sa_cons (se_var (pv 1)) (sa_cons (se_var (pv 2)) sa_nil)))))))
  (sb_cons (ss_set (i := 5) (sc_law).nd rfl (by first | exact Or.inl rfl | exact Or.inr rfl) (se_fn h__law_of.ok (hr.mono (by decide)) rfl h__law_of.g h__law_of.F.kp h__law_of.b hx (sa_cons (se_var (pv 1)) (sa_cons (se_lst (sa_cons se_str (sa_cons se_str (sa_cons se_str (sa_cons se_str (sa_cons se_str (sa_cons se_str (sa_cons se_str (sa_cons se_str sa_nil))))))))) sa_nil))))
  (sb_cons (ss_if (st_not (st_truth (se_fn h__law_same.ok (hr.mono (by decide)) rfl h__law_same.g h__law_same.F.kp h__law_same.b hx (sa_cons (se_lst (sa_cons (se_fn h_is_name.ok (hr.mono (by decide)) rfl h_is_name.g h_is_name.F.kp h_is_name.b hx (sa_cons (se_op op_addA gr_add (se_var (pv 4)) se_str) sa_nil)) (sa_cons (se_fn h_is_name.ok (hr.mono (by decide)) rfl h_is_name.g h_is_name.F.kp h_is_name.b hx (sa_cons (se_var (pv 5)) sa_nil)) sa_nil))) (sa_cons (se_lst (sa_cons (se_cmp op_lt gr_lt (se_len rfl B.b_len (sa_cons (se_var (pv 4)) sa_nil)) se_int (nomark _)) (sa_cons se_bl sa_nil))) sa_nil))) (fun _ => rfl))) (sb_one (ss_ret se_bl)) sb_nil)
  (sb_cons (ss_set (i := 6) (sc_law).nd rfl (by first | exact Or.inl rfl | exact Or.inr rfl) (se_op op_mulA gr_mul (se_fn h__law_of.ok (hr.mono (by decide)) rfl h__law_of.g h__law_of.F.kp h__law_of.b hx (sa_cons (se_var (pv 1)) (sa_cons (se_var (pv 2)) sa_nil))) (se_op op_addA gr_add se_int (se_fn h__law_draw.ok (hr.mono (by decide)) rfl h__law_draw.g h__law_draw.F.kp h__law_draw.b hx (sa_cons (se_var (pv 1)) (sa_cons se_int sa_nil))))))
  (sb_cons (ss_if (st_not (st_truth (se_fn h__law_same.ok (hr.mono (by decide)) rfl h__law_same.g h__law_same.F.kp h__law_same.b hx (sa_cons (se_fnK0 h_is_name.ok (hr.mono (by decide)) rfl h_is_name.g h_is_name.F.kp (kb_mk h_is_name.F (n := 0) (ks := ["value"]) (pm := [0]) fun _ _ _ _ _ _ us ws h1 h2 => match us, ws, h1, h2 with | [], [_], _, _ => rfl) hx (sk_cons (se_var (pv 6)) sk_nil) (aCons_len (fun _ _ _ _ => aNil_len))) (sa_cons (se_cmp op_lt gr_lt (se_len rfl B.b_len (sa_cons (se_var (pv 6)) sa_nil)) se_int (nomark _)) sa_nil))) (fun _ => rfl))) (sb_one (ss_ret se_bl)) sb_nil)
  (sb_cons (ss_par (i := 7) (j := 8) rfl (sc_law).nd rfl rfl (by decide) rfl rfl (sa_cons (se_op op_sub gr_sub (se_fn h__law_draw.ok (hr.mono (by decide)) rfl h__law_draw.g h__law_draw.F.kp h__law_draw.b hx (sa_cons (se_var (pv 1)) (sa_cons se_int sa_nil))) se_int) (sa_cons (se_op op_sub gr_sub (se_fn h__law_draw.ok (hr.mono (by decide)) rfl h__law_draw.g h__law_draw.F.kp h__law_draw.b hx (sa_cons (se_var (pv 1)) (sa_cons se_int sa_nil))) se_int) sa_nil)) (by rfl))
  (sb_cons (ss_set (i := 9) (sc_law).nd rfl (by first | exact Or.inl rfl | exact Or.inr rfl) (se_fn h__law_of.ok (hr.mono (by decide)) rfl h__law_of.g h__law_of.F.kp h__law_of.b hx (sa_cons (se_var (pv 1)) (sa_cons (se_lst (sa_cons (se_var (pv 7)) (sa_cons (se_var (pv 8)) (sa_cons (se_op op_sub gr_sub (se_var (pv 7)) se_int) (sa_cons (se_op op_addA gr_add (se_var (pv 8)) se_int) (sa_cons se_int (sa_cons (se_op op_sub gr_sub (se_fn h__law_draw.ok (hr.mono (by decide)) rfl h__law_draw.g h__law_draw.F.kp h__law_draw.b hx (sa_cons (se_var (pv 1)) (sa_cons se_int sa_nil))) se_int) (sa_cons (se_op op_pow gr_pow se_int se_int) sa_nil)))))))) sa_nil))))
  (sb_cons (ss_if (st_not (st_truth (se_fn h__law_same.ok (hr.mono (by decide)) rfl h__law_same.g h__law_same.F.kp h__law_same.b hx (sa_cons (se_fn h_is_number.ok (hr.mono (by decide)) rfl h_is_number.g h_is_number.F.kp h_is_number.b hx (sa_cons (se_var (pv 9)) (sa_cons (se_var (pv 7)) (sa_cons (se_var (pv 8)) sa_nil)))) (sa_cons (se_and (se_cmp op_le gr_le (se_var (pv 7)) (se_var (pv 9)) (nomark _)) (se_one (se_cmp op_le gr_le (se_var (pv 9)) (se_var (pv 8)) (nomark _)))) sa_nil))) (fun _ => rfl))) (sb_one (ss_ret se_bl)) sb_nil)
  (sb_cons (ss_set (i := 10) (sc_law).nd rfl (by first | exact Or.inl rfl | exact Or.inr rfl) (se_fn h__law_of.ok (hr.mono (by decide)) rfl h__law_of.g h__law_of.F.kp h__law_of.b hx (sa_cons (se_var (pv 1)) (sa_cons (se_lst (sa_cons se_non (sa_cons se_bl (sa_cons se_bl (sa_cons se_str (sa_cons (se_tup sa_nil) (sa_cons (se_lst (sa_cons se_int sa_nil)) sa_nil))))))) sa_nil))))
  (sb_one (ss_if (st_not (st_truth (se_fn h__law_same.ok (hr.mono (by decide)) rfl h__law_same.g h__law_same.F.kp h__law_same.b hx (sa_cons (se_lst (sa_cons (se_fnK0 h_is_number.ok (hr.mono (by decide)) rfl h_is_number.g h_is_number.F.kp (kb_mk h_is_number.F (n := 0) (ks := ["value", "least", "most"]) (pm := [0, 1, 2]) fun _ _ _ _ _ _ us ws h1 h2 => match us, ws, h1, h2 with | [], [_, _, _], _, _ => rfl) hx (sk_cons (se_var (pv 10)) (sk_cons se_int (sk_cons (se_op op_pow gr_pow se_int se_int) sk_nil))) (aCons_len (aCons_len (aCons_len (fun _ _ _ _ => aNil_len))))) (sa_cons (se_fn h_is_name.ok (hr.mono (by decide)) rfl h_is_name.g h_is_name.F.kp h_is_name.b hx (sa_cons (se_fn h__law_of.ok (hr.mono (by decide)) rfl h__law_of.g h__law_of.F.kp h__law_of.b hx (sa_cons (se_var (pv 1)) (sa_cons (se_lst (sa_cons se_non (sa_cons se_int (sa_cons se_bl (sa_cons (se_tup (sa_cons se_str sa_nil)) (sa_cons (se_lst (sa_cons se_str sa_nil)) sa_nil)))))) sa_nil))) sa_nil)) sa_nil))) (sa_cons (se_lst (sa_cons se_bl (sa_cons se_bl sa_nil))) sa_nil))) (fun _ => rfl))) (sb_one (ss_ret se_bl)) sb_nil))))))))))))
  (sb_cons (ss_set (i := 11) (sc_law).nd rfl (by first | exact Or.inl rfl | exact Or.inr rfl) (se_lst (sa_cons se_str (sa_cons se_str (sa_cons se_str (sa_cons se_str (sa_cons se_str (sa_cons se_str (sa_cons se_str (sa_cons se_str (sa_cons se_str sa_nil)))))))))))
  (sb_one (ss_ret (se_and (se_fn h__law_same.ok (hr.mono (by decide)) rfl h__law_same.g h__law_same.F.kp h__law_same.b hx (sa_cons (se_lc (own := [("_law_word", 4)]) rfl (sc_law).nd (si_seq (se_var (pv 11))) (blkOk_by (own := [("_law_word", 4)]) (N := N_law) (sc := defScope st_law) (by decide +kernel)) (fun _ _ _ _ _ => (sg_name (pg_name (i := 4) (sc_law).nd rfl (by first | exact Or.inl rfl | exact Or.inr rfl)))) (fun _ _ _ _ _ => sts_nil) (fun _ _ _ _ _ => (se_fn h_is_name.ok (hr.mono (by decide)) rfl h_is_name.g h_is_name.F.kp h_is_name.b passL (sa_cons (se_var (pv 4)) sa_nil)))) (sa_cons (se_op op_addA gr_add (se_op op_mulA gr_mul (se_lst (sa_cons se_bl sa_nil)) se_int) (se_op op_mulA gr_mul (se_lst (sa_cons se_bl sa_nil)) se_int)) sa_nil))) (se_one (se_fn h__law_same.ok (hr.mono (by decide)) rfl h__law_same.g h__law_same.F.kp h__law_same.b hx (sa_cons (se_cn rfl C.c_MOST_WAIT) (sa_cons se_int sa_nil)))))))))))
abbrev G_law := F_law
end
end K02

set_option Elab.async false
set_option linter.all false
set_option autoImplicit false
set_option maxRecDepth 100000
set_option maxHeartbeats 4000000
namespace K02
open PySem L2 PyProof.Rows Si
/-- one step by the form of the code -/
local macro_rules | `(tactic| walk_at "g1") => `(tactic| with_reducible first
  | refine gd_seq ?_ | refine gd_nm ?_ | refine gd_asg ?_ | refine gd_ret ?_ | refine gd_if ?_ | refine gd_next ?_ | refine gd_expr ?_ | refine gd_par ?_ | refine gd_retN ?_ | refine gd_brk ?_ | refine gd_cnt ?_ | refine gd_for ?_
  | refine go_var rfl ?_ | refine go_c ?_ | refine go_op ?_ | refine go_call ?_ | refine go_callK ?_ | refine go_nil ?_ | refine go_cons ?_ | refine go_tup ?_ | refine go_lst ?_ | refine go_lstM ?_ | refine go_chain ?_ | refine go_and ?_ | refine go_or ?_ | refine go_not ?_
  | refine go_tru ?_ | refine go_asB ?_ | refine go_bAnd ?_ | refine go_bOr ?_ | refine go_bNot ?_ | refine go_bYes ?_ | refine go_if ?_ | refine go_neg ?_ | refine go_oNone ?_ | refine go_oSome ?_ | refine go_sl ?_ | refine go_isi ?_ | refine go_isi2 ?_
  | refine go_join ?_ | refine go_app ?_ | refine go_iter ?_ | refine go_rng1 ?_ | refine go_rng2 ?_ | refine go_lc ?_ | refine go_lcM ?_
  | refine go_addI ?_ | refine go_subI ?_ | refine go_lt ?_ | refine go_le ?_ | refine go_gt ?_ | refine go_ge ?_ | refine go_eqI ?_ | refine go_neI ?_ | refine go_eqS ?_ | refine go_neS ?_ | refine go_lenL ?_ | refine go_lenT ?_ | refine go_lenS (by assumption) ?_
  | refine br_t ?_ | refine br_f ?_ | refine br_not ?_)
local macro_rules | `(tactic| walk_at "g2") => `(tactic| first
  | with_reducible refine ex_bl ?_ | with_reducible refine ex_int ?_ | with_reducible refine ex_str ?_ | with_reducible refine ex_nm ?_
  | with_reducible refine ex_tru (by with_unfolding_all exact rfl) ?_
  | with_reducible refine ex_ty (by with_unfolding_all exact rfl) ?_
  | with_reducible refine ex_it (by with_unfolding_all exact rfl) ?_
  | with_reducible refine br_is (b := isB _ _) (by with_unfolding_all decide) ?_ | with_reducible refine br_isnt (b := isB _ _) (by with_unfolding_all decide) ?_
  | with_reducible refine br_is (b := isB _ _ || isB _ _) (by with_unfolding_all decide) ?_ | with_reducible refine br_isnt (b := isB _ _ || isB _ _) (by with_unfolding_all decide) ?_
  | (with_reducible refine an_rng ?hh ?_; case hh => (first | decide | omega))
  | (with_reducible refine an_rng2 ?hh ?_; case hh => (first | decide | omega))
  | (with_reducible refine an_le ?hh ?_; case hh => (first | decide | (simp only [List.length_cons, List.length_nil]; omega))))
local macro_rules | `(tactic| walk_at "gg") => `(tactic| repeat' (first | walk_at "g1" | walk_at "g2"))
def low (z : Str) : Prop := ∀ c ∈ z.cps.toList, 97 ≤ c ∧ c ≤ 122
theorem letter_in {c : Nat} (h : 97 ≤ c ∧ c ≤ 122) {w : Wd} : gIn (.str ⟨#[c]⟩) c_LETTERS w = .ok (.bl true) w := by
  have e : (Str.cps ("abcdefghijklmnopqrstuvwxyz" : Str)).toList = (List.range 26).map (97 + ·) := by decide +kernel
  show (match inD (.str ⟨#[c]⟩) c_LETTERS with | some b => R.ok (D.bl b) w | none => .stuck) = _
  have : inD (.str ⟨#[c]⟩) c_LETTERS = some (decide (c ∈ (Str.cps ("abcdefghijklmnopqrstuvwxyz" : Str)).toList)) := rfl
  rw [this, e, decide_eq_true]
  rw [List.mem_map]
  exact ⟨c - 97, List.mem_range.mpr (by omega), by omega⟩
section
variable {X : EX} {Q : D → Wd → Prop} {w : Wd}
theorem all_bl {acc : List D} (h : ∀ d ∈ acc, d = .bl true) : blA acc = some (acc.map fun _ => true) := by
  induction acc with
  | nil => rfl
  | cons d r ih =>
    rw [h d List.mem_cons_self, blA, ih fun x hx => h x (List.mem_cons_of_mem _ hx)]
    rfl
theorem word_low {z : Str} (h : low z) (hl : z.length ≤ 16777216) (q : Q (.bl (decide (1 ≤ z.length ∧ z.length ≤ 6))) w) : Go X (F_is_word [.str z] w) Q := by
  refine go_fn rfl ?_
  unfold M_is_word
  walk_at "gg"
  refine br_dec (fun h1 => ?_) fun h1 => ?_
  · walk_at "gg"
    refine br_dec (fun h2 => ?_) fun h2 => ?_
    · walk_at "gg"
      refine go_lcL (fun acc ds w' => w' = w ∧ (∀ d ∈ acc, d = .bl true) ∧ acc.length + ds.length = z.length ∧ ∀ d ∈ ds, ∃ c, (97 ≤ c ∧ c ≤ 122) ∧ d = .str ⟨#[c]⟩) ?_ ?_ _ _ _ ?_
      · intro acc d r w1 ⟨e, ha, hn, hd⟩
        subst e
        obtain ⟨c, c0, rfl⟩ := hd d List.mem_cons_self
        walk_at "gg"
        refine go_ok (letter_in c0) ?_
        simp only [List.length_cons] at hn
        refine ⟨by omega, rfl, ?_, by simp only [List.length_append, List.length_cons, List.length_nil]; omega, fun d hd' => hd d (List.mem_cons_of_mem _ hd')⟩
        intro d hd
        rcases List.mem_append.mp hd with hd | hd
        · exact ha d hd
        · exact List.mem_singleton.mp hd
      · intro acc w1 ⟨e, ha, hn, _⟩
        subst e
        refine go_ok (a := D.bl true) (w' := w1) ?_ ?_
        · simp only [gAll, der_lst, Option.bind, all_bl ha, all_true]
        · rw [decide_eq_true (by omega)] at q
          exact q
      · refine ⟨rfl, (fun d hd => by cases hd), by simp [Si.signs, Str.length], ?_⟩
        intro d hd
        obtain ⟨c, hc, rfl⟩ := List.mem_map.mp hd
        exact ⟨c, h c hc, rfl⟩
    · walk_at "gg"
      rw [decide_eq_false (by omega)] at q
      rw [decide_eq_false h2]
      exact q
  · walk_at "gg"
    rw [decide_eq_false (by omega)] at q
    exact q
/-- a word of small letters that is not kept for something else -/
theorem name_low {z : Str} (h : low z) (hl : z.length ≤ 16777216) (hn : ∀ y ∈ (["age", "young", "none", "learn", "any"] : List Str), y ≠ z) (q : Q (.bl (decide (1 ≤ z.length ∧ z.length ≤ 6))) w) : Go X (F_is_name [.str z] w) Q := by
  refine go_fn rfl ?_
  unfold M_is_name
  walk_at "gg"
  refine word_low h hl ?_
  walk_at "gg"
  refine br_dec (fun h1 => ?_) fun h1 => ?_
  · walk_at "gg"
    refine go_ok (a := D.bl true) (w' := w) ?_ ?_
    · have n : ∀ y ∈ (["age", "young", "none", "learn", "any"] : List Str), (y == z) = false := fun y hy => beq_eq_false_iff_ne.mpr (hn y hy)
      have e : inD (.str z) c_RESERVED = some false := by
        show (if (flatD (.str z) && [D.str "age", D.str "young", D.str "none", D.str "learn", D.str "any"].all flatD) = true then some ([D.str "age", D.str "young", D.str "none", D.str "learn", D.str "any"].any fun d => eqF d (.str z)) else none) = _
        refine (if_pos rfl).trans ?_
        simp only [List.any_cons, List.any_nil, eqF]
        rw [n _ (by decide), n _ (by decide), n _ (by decide), n _ (by decide), n _ (by decide)]
        rfl
      unfold gNotIn
      rw [e]
      rfl
    · rw [decide_eq_true h1] at q
      exact q
  · walk_at "gg"
    exact q
end
theorem odd1 {X : EX} {Q : D → Wd → Prop} {w : Wd} {d : D} (hd : d ∈ ([.str "", .str "A", .str "a1", .str "a b", .str "abC", .str "a=", .str " a", .str "a\n"] : List D)) (q : Q (.bl false) w) : Go X (F_is_name [d] w) Q := by
  simp only [List.mem_cons, List.not_mem_nil, or_false] at hd
  rcases hd with rfl | rfl | rfl | rfl | rfl | rfl | rfl | rfl <;> exact go_ok (a := D.bl false) (w' := w) rfl q
theorem odd2 {X : EX} {Q : D → Wd → Prop} {w : Wd} {d : D} (hd : d ∈ ([.non, .int 3, .bl true, .tup [.str "a"], .lst [.str "a"]] : List D)) (q : Q (.bl false) w) : Go X (F_is_name [d] w) Q := by
  simp only [List.mem_cons, List.not_mem_nil, or_false] at hd
  rcases hd with rfl | rfl | rfl | rfl | rfl <;> exact go_ok (a := D.bl false) (w' := w) rfl q
theorem odd3 {X : EX} {Q : D → Wd → Prop} {w : Wd} {d : D} {i j : Int} (hd : d ∈ ([.non, .bl true, .bl false, .str "0", .tup [], .lst [.int 1]] : List D)) (q : Q (.bl false) w) : Go X (F_is_number [d, .int i, .int j] w) Q := by
  simp only [List.mem_cons, List.not_mem_nil, or_false] at hd
  rcases hd with rfl | rfl | rfl | rfl | rfl | rfl <;> exact go_ok (a := D.bl false) (w' := w) rfl q
theorem number {X : EX} {Q : D → Wd → Prop} {w : Wd} {k i j : Int} (q : Q (.bl (decide (i ≤ k ∧ k ≤ j))) w) : Go X (F_is_number [.int k, .int i, .int j] w) Q := by
  refine go_fn rfl ?_
  unfold M_is_number
  walk_at "gg"
  refine br_dec (fun h1 => ?_) fun h1 => ?_
  · walk_at "gg"
    by_cases h2 : k ≤ j
    · rw [decide_eq_true ⟨h1, h2⟩] at q
      rw [decide_eq_true h2]
      exact q
    · rw [decide_eq_false fun h => h2 h.2] at q
      rw [decide_eq_false h2]
      exact q
  · walk_at "gg"
    rw [decide_eq_false fun h => h1 h.1] at q
    exact q
abbrev abc : Str := "abcdefghijklmnopqrstuvwxyz"
theorem abc_low {c : Nat} (h : c ∈ abc.cps.toList) : 97 ≤ c ∧ c ≤ 122 := by
  have e : abc.cps.toList = (List.range 26).map (97 + ·) := by decide +kernel
  rw [e, List.mem_map] at h
  obtain ⟨i, hi, rfl⟩ := h
  have := List.mem_range.mp hi
  omega
def In1 (ns : List Int) (n : Nat) (σ : En) (w : Wd) : Prop := BagAt w n ∧ ∃ o3 o4 o5 o6 o7 o8 o9 o10 o11 o12, σ = [some (.scr ns), some (.obj n), some (.str abc), o3, o4, o5, o6, o7, o8, o9, o10, o11, o12]
/-- a word drawn -/
theorem draw_word {X : EX} {QA : List D → Wd → Prop} {n : Nat} {σ : En} {w : Wd} {ds : List D} (hb : BagAt w n) (h1 : σ[1]? = some (some (.obj n))) (h2 : σ[2]? = some (some (.str abc))) (hl : ds.length ≤ 16777216)
    (q : ∀ (cs : List Nat) w', (∀ c ∈ cs, 97 ≤ c ∧ c ≤ 122) → cs.length = ds.length → BagAt w' n → QA (cs.map fun c => .str ⟨#[c]⟩) w') : Go X (lcL [12] (gNm 12) bYes (mCall ofF (aCons (mVar 1) (aCons (mVar 2) aNil))) σ ds [] w) QA := by
  refine go_lcL (fun acc r w' => BagAt w' n ∧ acc.length + r.length = ds.length ∧ ∃ cs : List Nat, acc = (cs.map fun c => .str ⟨#[c]⟩) ∧ ∀ c ∈ cs, 97 ≤ c ∧ c ≤ 122) ?_ ?_ _ _ _ ⟨hb, by simp, [], rfl, fun c h => by cases h⟩
  · rintro acc d r w ⟨hb, hn, cs, rfl, hc⟩
    have e1 : ((wipeD σ [12]).set 12 (some d))[1]? = some (some (.obj n)) := by
      simp only [wipeD]
      rw [List.getElem?_set_ne (by decide), List.getElem?_set_ne (by decide)]
      exact h1
    have e2 : ((wipeD σ [12]).set 12 (some d))[2]? = some (some (.str abc)) := by
      simp only [wipeD]
      rw [List.getElem?_set_ne (by decide), List.getElem?_set_ne (by decide)]
      exact h2
    refine ex_nm (go_bYes (br_t (go_call (go_cons (go_var e1 (go_cons (go_var e2 (go_nil ?_))))))))
    refine ofs hb (by decide +kernel) (by decide +kernel) fun c w' hm hb' _ => ?_
    simp only [List.length_map, List.length_cons] at hn
    refine ⟨by simp only [List.length_map]; omega, hb', by simp only [List.length_append, List.length_map, List.length_cons, List.length_nil]; omega, cs ++ [c], by simp, fun x hx => ?_⟩
    rcases List.mem_append.mp hx with hx | hx
    · exact hc x hx
    · rw [List.mem_singleton.mp hx]
      exact abc_low hm
  · rintro acc w ⟨hb, hn, cs, rfl, hc⟩
    exact q cs w hc (by simpa using hn) hb
theorem q_not {cs : List Nat} : ∀ y ∈ (["age", "young", "none", "learn", "any"] : List Str), y ≠ mkS cs ++ "q" := by
  intro y hy e
  have h : (mkS cs ++ ("q" : Str)) = mkS (cs ++ [113]) := mkS_add (b := [113])
  rw [h] at e
  have e2 := congrArg (fun z : Str => z.cps.toList.getLast?) e
  simp only [mkS_cps, List.getLast?_append, List.getLast?_singleton, Option.some_or] at e2
  simp only [List.mem_cons, List.not_mem_nil, or_false] at hy
  rcases hy with rfl | rfl | rfl | rfl | rfl <;> exact absurd e2 (by decide +kernel)
theorem rep_not {n : Nat} {c : Nat} : ∀ y ∈ (["age", "young", "none", "learn", "any"] : List Str), y ≠ mkS (List.replicate n c) := by
  intro y hy e
  have e2 := congrArg (fun z : Str => z.cps.toList) e
  simp only [mkS_cps] at e2
  have e3 : ∀ x ∈ y.cps.toList, x = c := fun x hx => by
    rw [e2] at hx
    exact (List.mem_replicate.mp hx).2
  simp only [List.mem_cons, List.not_mem_nil, or_false] at hy
  have two : ∀ a b : Nat, a ∈ y.cps.toList → b ∈ y.cps.toList → a = b := fun a b ha hb => (e3 a ha).trans (e3 b hb).symm
  rcases hy with rfl | rfl | rfl | rfl | rfl
  · exact absurd (two 97 103 (by decide +kernel) (by decide +kernel)) (by decide)
  · exact absurd (two 121 111 (by decide +kernel) (by decide +kernel)) (by decide)
  · exact absurd (two 110 111 (by decide +kernel) (by decide +kernel)) (by decide)
  · exact absurd (two 108 101 (by decide +kernel) (by decide +kernel)) (by decide)
  · exact absurd (two 97 110 (by decide +kernel) (by decide +kernel)) (by decide)
theorem law_go (ns : List Int) (hl : ns.length ≤ 63) : Go EX0 (F_law [.scr ns] []) fun d _ => d = .bl true := by
  refine go_fn rfl ?_
  unfold M_law
  walk_at "gg"
  refine go_bag hl fun b hb => ?_
  walk_at "gg"
  refine gd_forL (fun _ => In1 ns 0) ?_ ?_ _ _ _ ⟨hb, _, _, _, _, _, _, _, _, _, _, rfl⟩
  · rintro d r σ w ⟨hb, o3, o4, o5, o6, o7, o8, o9, o10, o11, o12, rfl⟩
    walk_at "gg"
    refine dr hb (by decide) (by decide) fun k w r0 r1 hb _ => ?_
    walk_at "gg"
    refine draw_word hb rfl rfl (by simp only [rangeD, List.length_map, List.length_range]; omega) fun cs w hc hn hb => ?_
    simp only [rangeD, List.length_map, List.length_range] at hn
    refine go_joinO (by omega) ?_
    have hw : (mkS cs).length ≤ 16777216 := by rw [mkS_len]; omega
    walk_at "gg"
    refine ofl hb (by decide) (by decide) fun odd w hm hb _ => ?_
    walk_at "gg"
    refine go_addS (by rw [mkS_len]; show _ + 1 ≤ _; omega) ?_
    walk_at "gg"
    have hq : (mkS cs ++ ("q" : Str)).length = cs.length + 1 := by
      show (mkS cs ++ mkS [113]).length = _
      rw [mkS_add, mkS_len]; simp
    refine name_low (fun x hx => ?_) (by rw [hq]; omega) q_not ?_
    · rw [show (mkS cs ++ ("q" : Str)) = mkS (cs ++ [113]) from mkS_add (b := [113]), mkS_cps] at hx
      rcases List.mem_append.mp hx with hx | hx
      · exact hc x hx
      · rw [List.mem_singleton.mp hx]; decide
    walk_at "gg"
    refine odd1 hm ?_
    walk_at "gg"
    refine go_same ?_ rfl ?_
    · have : (decide (1 ≤ (mkS cs ++ ("q" : Str)).length ∧ (mkS cs ++ ("q" : Str)).length ≤ 6)) = decide (((mkS cs).length : Int) < 6) := by
        rw [hq, mkS_len]
        exact decide_eq_decide.mpr (by omega)
      rw [this]
    walk_at "gg"
    refine ofs hb (by decide +kernel) (by decide +kernel) fun c w hcc hb _ => ?_
    walk_at "gg"
    refine dr hb (by decide) (by decide) fun m w m0 m1 hb _ => ?_
    walk_at "gg"
    refine go_mulS ⟨by omega, by omega, by show 1 ≤ 1000; decide⟩ ?_
    have hr : strMul (⟨#[c]⟩ : Str) (1 + m) = mkS (List.replicate (1 + m).toNat c) := by
      have := mkS_mul (a := [c]) (n := 1 + m)
      rw [List.flatten_replicate_singleton] at this
      exact this
    rw [hr]
    have hw2 : (mkS (List.replicate (1 + m).toNat c)).length = (1 + m).toNat := by rw [mkS_len, List.length_replicate]
    have hw3 : (mkS (List.replicate (1 + m).toNat c)).length ≤ 16777216 := by rw [hw2]; omega
    walk_at "gg"
    refine name_low (fun x hx => ?_) hw3 rep_not ?_
    · rw [mkS_cps] at hx
      rw [(List.mem_replicate.mp hx).2]
      exact abc_low hcc
    walk_at "gg"
    refine go_same ?_ rfl ?_
    · have : (decide (1 ≤ (mkS (List.replicate (1 + m).toNat c)).length ∧ (mkS (List.replicate (1 + m).toNat c)).length ≤ 6)) = decide (((mkS (List.replicate (1 + m).toNat c)).length : Int) < 7) := by
        rw [hw2]
        exact decide_eq_decide.mpr (by omega)
      rw [this]
    walk_at "gg"
    refine dr hb (by decide) (by decide) fun a w a0 a1 hb _ => ?_
    walk_at "gg"
    refine dr hb (by decide) (by decide) fun e w e0 e1 hb _ => ?_
    walk_at "gg"
    refine dr hb (by decide) (by decide) fun f w f0 f1 hb _ => ?_
    walk_at "gg"
    refine go_ok (a := D.int (10 ^ 29)) (w' := w) (by simp only [gPow]; rw [if_pos (by decide)]; rfl) ?_
    walk_at "gg"
    refine ofl hb (by simp only [List.length_cons, List.length_nil]; decide) (by simp only [List.length_cons, List.length_nil]; decide) fun x w hx hb _ => ?_
    obtain ⟨v, rfl⟩ : ∃ v, x = .int v := by
      simp only [List.mem_cons, List.not_mem_nil, or_false] at hx
      rcases hx with rfl | rfl | rfl | rfl | rfl | rfl | rfl <;> exact ⟨_, rfl⟩
    walk_at "gg"
    refine number ?_
    refine go_cons (go_weak (Q := fun u w1 => u = .bl (decide (a - 10 ≤ v ∧ v ≤ e - 10)) ∧ w1 = w) ?_ ?_)
    · walk_at "gg"
      refine br_dec (fun h1 => ?_) fun h1 => ?_
      · walk_at "gg"
        exact ⟨by rw [decide_eq_decide.mpr (show (a - 10 ≤ v ∧ v ≤ e - 10) ↔ v ≤ e - 10 by omega)], rfl⟩
      · walk_at "gg"
        exact ⟨congrArg D.bl (decide_eq_decide.mpr ⟨fun h => absurd h h1, fun h => h.1⟩), rfl⟩
    rintro u w1 ⟨rfl, rfl⟩
    walk_at "gg"
    refine go_same rfl rfl ?_
    walk_at "gg"
    refine ofl hb (by decide) (by decide) fun y w hy hb _ => ?_
    walk_at "gg"
    refine go_ok (a := D.int (10 ^ 20)) (w' := w) (by simp only [gPow]; rw [if_pos (by decide)]; rfl) ?_
    walk_at "gg"
    refine odd3 hy ?_
    walk_at "gg"
    refine ofl hb (by decide) (by decide) fun z w hz hb _ => ?_
    walk_at "gg"
    refine odd2 hz ?_
    walk_at "gg"
    refine go_same rfl rfl ?_
    walk_at "gg"
    exact ⟨hb, _, _, _, _, _, _, _, _, _, _, rfl⟩
  · rintro σ w ⟨hb, o3, o4, o5, o6, o7, o8, o9, o10, o11, o12, rfl⟩
    walk_at "gg"
    refine go_ok rfl ?_
    walk_at "gg"
    refine go_mulLs (by decide) ?_
    walk_at "gg"
    refine go_mulLs (by decide) ?_
    walk_at "gg"
    refine go_addL (by decide) ?_
    walk_at "gg"
    refine go_same rfl rfl ?_
    walk_at "gg"
    refine go_same rfl rfl ?_
    rfl
theorem law_true : ∀ ns : List Int, ns.length ≤ 63 → ∃ w, F_law [.scr ns] [] = .ok (.bl true) w := fun ns hl => by
  obtain ⟨d, w, e, h⟩ := go_get (law_go ns hl)
  subst h
  exact ⟨w, e⟩
end K02

set_option Elab.async false
set_option linter.all false
set_option autoImplicit false
set_option maxRecDepth 100000
set_option maxHeartbeats 4000000
namespace K02
open PySem L2 PyProof.Rows Si
theorem all_mk {l : PySem.W.OpenLaw} {w : World} {K : PySem.W.Frag} {cl : Str → Option Addr} {h : Heap} {mg : Str → Option Value} {fa : Addr} (X : K.In h) (G : h.Ns mainGlobals mg) (hfa : mg "law" = some (.ref fa))
    {f_is_word : Addr} {od_is_word an_is_word : Option Addr} {sl_is_word : Array (Option Value)} {oc_is_word kV_is_word dc_is_word pm_is_word cd_is_word ct_is_word : Value}
    {f_is_name : Addr} {od_is_name an_is_name : Option Addr} {sl_is_name : Array (Option Value)} {oc_is_name kV_is_name dc_is_name pm_is_name cd_is_name ct_is_name : Value}
    {f_is_number : Addr} {od_is_number an_is_number : Option Addr} {sl_is_number : Array (Option Value)} {oc_is_number kV_is_number dc_is_number pm_is_number cd_is_number ct_is_number : Value}
    {f__law_bag : Addr} {od__law_bag an__law_bag : Option Addr} {sl__law_bag : Array (Option Value)} {oc__law_bag kV__law_bag dc__law_bag pm__law_bag cd__law_bag ct__law_bag : Value}
    {f__law_draw : Addr} {od__law_draw an__law_draw : Option Addr} {sl__law_draw : Array (Option Value)} {oc__law_draw kV__law_draw dc__law_draw pm__law_draw cd__law_draw ct__law_draw : Value}
    {f__law_of : Addr} {od__law_of an__law_of : Option Addr} {sl__law_of : Array (Option Value)} {oc__law_of kV__law_of dc__law_of pm__law_of cd__law_of ct__law_of : Value}
    {f__law_same : Addr} {od__law_same an__law_same : Option Addr} {sl__law_same : Array (Option Value)} {oc__law_same kV__law_same dc__law_same pm__law_same cd__law_same ct__law_same : Value}
    {f_law : Addr} {od_law an_law : Option Addr} {sl_law : Array (Option Value)} {oc_law kV_law dc_law pm_law cd_law ct_law : Value}
    {t_LETTERS : Tok}
    {r_RESERVED : Addr} {rd_RESERVED : Option Addr} {its_RESERVED : Array Value} {rn_RESERVED : Nat} {rs_RESERVED : Array (Option Value)}
    {t_MOST_WAIT : Tok}
    (a_is_word : PySem.W.nsIn K mainGlobals "is_word" = some (some (.ref f_is_word))) (l_is_word : K.lookup f_is_word = some ⟨oc_is_word, od_is_word, .func (PySem.W.fnOf "is_word" "is_word" (defArgs st_is_word) (defBody st_is_word) (defScope st_is_word) .none kV_is_word dc_is_word pm_is_word an_is_word cd_is_word ct_is_word), sl_is_word⟩) (c_is_word : PySem.W.codeIn K cd_is_word "is_word" = true) (k_is_word : PySem.W.keepIn K (.ref f_is_word) = true)
    (a_is_name : PySem.W.nsIn K mainGlobals "is_name" = some (some (.ref f_is_name))) (l_is_name : K.lookup f_is_name = some ⟨oc_is_name, od_is_name, .func (PySem.W.fnOf "is_name" "is_name" (defArgs st_is_name) (defBody st_is_name) (defScope st_is_name) .none kV_is_name dc_is_name pm_is_name an_is_name cd_is_name ct_is_name), sl_is_name⟩) (c_is_name : PySem.W.codeIn K cd_is_name "is_name" = true) (k_is_name : PySem.W.keepIn K (.ref f_is_name) = true)
    (a_is_number : PySem.W.nsIn K mainGlobals "is_number" = some (some (.ref f_is_number))) (l_is_number : K.lookup f_is_number = some ⟨oc_is_number, od_is_number, .func (PySem.W.fnOf "is_number" "is_number" (defArgs st_is_number) (defBody st_is_number) (defScope st_is_number) .none kV_is_number dc_is_number pm_is_number an_is_number cd_is_number ct_is_number), sl_is_number⟩) (c_is_number : PySem.W.codeIn K cd_is_number "is_number" = true) (k_is_number : PySem.W.keepIn K (.ref f_is_number) = true)
    (a__law_bag : PySem.W.nsIn K mainGlobals "_law_bag" = some (some (.ref f__law_bag))) (l__law_bag : K.lookup f__law_bag = some ⟨oc__law_bag, od__law_bag, .func (PySem.W.fnOf "_law_bag" "_law_bag" (defArgs st__law_bag) (defBody st__law_bag) (defScope st__law_bag) .none kV__law_bag dc__law_bag pm__law_bag an__law_bag cd__law_bag ct__law_bag), sl__law_bag⟩) (c__law_bag : PySem.W.codeIn K cd__law_bag "_law_bag" = true) (k__law_bag : PySem.W.keepIn K (.ref f__law_bag) = true)
    (a__law_draw : PySem.W.nsIn K mainGlobals "_law_draw" = some (some (.ref f__law_draw))) (l__law_draw : K.lookup f__law_draw = some ⟨oc__law_draw, od__law_draw, .func (PySem.W.fnOf "_law_draw" "_law_draw" (defArgs st__law_draw) (defBody st__law_draw) (defScope st__law_draw) .none kV__law_draw dc__law_draw pm__law_draw an__law_draw cd__law_draw ct__law_draw), sl__law_draw⟩) (c__law_draw : PySem.W.codeIn K cd__law_draw "_law_draw" = true) (k__law_draw : PySem.W.keepIn K (.ref f__law_draw) = true)
    (a__law_of : PySem.W.nsIn K mainGlobals "_law_of" = some (some (.ref f__law_of))) (l__law_of : K.lookup f__law_of = some ⟨oc__law_of, od__law_of, .func (PySem.W.fnOf "_law_of" "_law_of" (defArgs st__law_of) (defBody st__law_of) (defScope st__law_of) .none kV__law_of dc__law_of pm__law_of an__law_of cd__law_of ct__law_of), sl__law_of⟩) (c__law_of : PySem.W.codeIn K cd__law_of "_law_of" = true) (k__law_of : PySem.W.keepIn K (.ref f__law_of) = true)
    (a__law_same : PySem.W.nsIn K mainGlobals "_law_same" = some (some (.ref f__law_same))) (l__law_same : K.lookup f__law_same = some ⟨oc__law_same, od__law_same, .func (PySem.W.fnOf "_law_same" "_law_same" (defArgs st__law_same) (defBody st__law_same) (defScope st__law_same) .none kV__law_same dc__law_same pm__law_same an__law_same cd__law_same ct__law_same), sl__law_same⟩) (c__law_same : PySem.W.codeIn K cd__law_same "_law_same" = true) (k__law_same : PySem.W.keepIn K (.ref f__law_same) = true)
    (a_law : PySem.W.nsIn K mainGlobals "law" = some (some (.ref f_law))) (l_law : K.lookup f_law = some ⟨oc_law, od_law, .func (PySem.W.fnOf "law" "law" (defArgs st_law) (defBody st_law) (defScope st_law) .none kV_law dc_law pm_law an_law cd_law ct_law), sl_law⟩) (c_law : PySem.W.codeIn K cd_law "law" = true) (k_law : PySem.W.keepIn K (.ref f_law) = true)
    (n_isinstance : PySem.W.nsIn K mainGlobals "isinstance" = some none)
    (n_str : PySem.W.nsIn K mainGlobals "str" = some none)
    (n_len : PySem.W.nsIn K mainGlobals "len" = some none)
    (n_all : PySem.W.nsIn K mainGlobals "all" = some none)
    (n_int : PySem.W.nsIn K mainGlobals "int" = some none)
    (n_bool : PySem.W.nsIn K mainGlobals "bool" = some none)
    (n_list : PySem.W.nsIn K mainGlobals "list" = some none)
    (n_tuple : PySem.W.nsIn K mainGlobals "tuple" = some none)
    (n_zip : PySem.W.nsIn K mainGlobals "zip" = some none)
    (n_range : PySem.W.nsIn K mainGlobals "range" = some none)
    (q_LETTERS : PySem.W.nsIn K mainGlobals "LETTERS" = some (some (.str "abcdefghijklmnopqrstuvwxyz" t_LETTERS)))
    (q_RESERVED : PySem.W.nsIn K mainGlobals "RESERVED" = some (some (.ref r_RESERVED))) (w_RESERVED : K.lookup r_RESERVED = some ⟨.type "tuple", rd_RESERVED, .seq its_RESERVED rn_RESERVED, rs_RESERVED⟩) (z_RESERVED : its_RESERVED.size ≤ sizeLine) (v_RESERVED : Vals [V.str "age", V.str "young", V.str "none", V.str "learn", V.str "any"] its_RESERVED.toList)
    (q_MOST_WAIT : PySem.W.nsIn K mainGlobals "MOST_WAIT" = some (some (.int (6) t_MOST_WAIT)))
    : ∃ fd : FuncData, (∀ (s : Shared) (v : Value), BindsTo s fd ⟨[v], []⟩ [("_law_script", v)]) ∧ ∀ base : Heap, K.In base → base.Ns mainGlobals mg → SF l.prog w K cl mg base 8 fa fd ["_law_script"] F_law := by
  have C_LETTERS : CN K mg "LETTERS" c_LETTERS := ⟨_, .str "abcdefghijklmnopqrstuvwxyz", PySem.W.mg_of X G q_LETTERS, ⟨_, rfl⟩, fun _ => .str _⟩
  have C_RESERVED : CN K mg "RESERVED" c_RESERVED := ⟨_, .ref r_RESERVED, PySem.W.mg_of X G q_RESERVED, rfl, fun _ => .tup (.inr ⟨_, _, _, w_RESERVED, rfl, rfl, z_RESERVED, v_RESERVED⟩) (.cons (.str _) (.cons (.str _) (.cons (.str _) (.cons (.str _) (.cons (.str _) (.nil))))))⟩
  have C_MOST_WAIT : CN K mg "MOST_WAIT" c_MOST_WAIT := ⟨_, .int (6), PySem.W.mg_of X G q_MOST_WAIT, ⟨_, rfl⟩, fun _ => .int _⟩
  have B : Bl mg := ⟨PySem.W.mg_none_of X G n_isinstance, PySem.W.mg_none_of X G n_str, PySem.W.mg_none_of X G n_len, PySem.W.mg_none_of X G n_all, PySem.W.mg_none_of X G n_int, PySem.W.mg_none_of X G n_bool, PySem.W.mg_none_of X G n_list, PySem.W.mg_none_of X G n_tuple, PySem.W.mg_none_of X G n_zip, PySem.W.mg_none_of X G n_range⟩
  have C : Cn K mg := ⟨C_LETTERS, C_RESERVED, C_MOST_WAIT⟩
  have F_is_word := fun_mk (st := st_is_word) l_is_word c_is_word k_is_word
  have b_is_word := F_is_word.binds (ps := ["value"]) fun _ _ _ _ _ _ us hl => match us, hl with | [_], _ => rfl
  have F_is_name := fun_mk (st := st_is_name) l_is_name c_is_name k_is_name
  have b_is_name := F_is_name.binds (ps := ["value"]) fun _ _ _ _ _ _ us hl => match us, hl with | [_], _ => rfl
  have F_is_number := fun_mk (st := st_is_number) l_is_number c_is_number k_is_number
  have b_is_number := F_is_number.binds (ps := ["value", "least", "most"]) fun _ _ _ _ _ _ us hl => match us, hl with | [_, _, _], _ => rfl
  have F__law_bag := fun_mk (st := st__law_bag) l__law_bag c__law_bag k__law_bag
  have b__law_bag := F__law_bag.binds (ps := ["_law_script"]) fun _ _ _ _ _ _ us hl => match us, hl with | [_], _ => rfl
  have F__law_draw := fun_mk (st := st__law_draw) l__law_draw c__law_draw k__law_draw
  have b__law_draw := F__law_draw.binds (ps := ["_law_bag_here", "_law_many"]) fun _ _ _ _ _ _ us hl => match us, hl with | [_, _], _ => rfl
  have F__law_of := fun_mk (st := st__law_of) l__law_of c__law_of k__law_of
  have b__law_of := F__law_of.binds (ps := ["_law_bag_here", "_law_some"]) fun _ _ _ _ _ _ us hl => match us, hl with | [_, _], _ => rfl
  have F__law_same := fun_mk (st := st__law_same) l__law_same c__law_same k__law_same
  have b__law_same := F__law_same.binds (ps := ["_law_found", "_law_due"]) fun _ _ _ _ _ _ us hl => match us, hl with | [_, _], _ => rfl
  have F_law := fun_mk (st := st_law) l_law c_law k_law
  have e := hfa.symm.trans (PySem.W.mg_of X G a_law)
  cases e
  refine ⟨(PySem.W.fnOf "law" "law" (defArgs st_law) (defBody st_law) (defScope st_law) .none kV_law dc_law pm_law an_law cd_law ct_law), fun s v => .of_eq rfl, fun base _ _ => ?_⟩
  have h_is_word : At l.prog w K cl mg base 2 "is_word" st_is_word ["value"] _ _ G_is_word := ⟨F_is_word, PySem.W.mg_of X G a_is_word, b_is_word, ok_is_word B C  F_is_word⟩
  have h_is_name : At l.prog w K cl mg base 4 "is_name" st_is_name ["value"] _ _ G_is_name := ⟨F_is_name, PySem.W.mg_of X G a_is_name, b_is_name, ok_is_name B C h_is_word F_is_name⟩
  have h_is_number : At l.prog w K cl mg base 2 "is_number" st_is_number ["value", "least", "most"] _ _ G_is_number := ⟨F_is_number, PySem.W.mg_of X G a_is_number, b_is_number, ok_is_number B C  F_is_number⟩
  have h__law_bag : At l.prog w K cl mg base 2 "_law_bag" st__law_bag ["_law_script"] _ _ G__law_bag := ⟨F__law_bag, PySem.W.mg_of X G a__law_bag, b__law_bag, ok__law_bag B C  F__law_bag⟩
  have h__law_draw : At l.prog w K cl mg base 2 "_law_draw" st__law_draw ["_law_bag_here", "_law_many"] _ _ G__law_draw := ⟨F__law_draw, PySem.W.mg_of X G a__law_draw, b__law_draw, ok__law_draw B C  F__law_draw⟩
  have h__law_of : At l.prog w K cl mg base 4 "_law_of" st__law_of ["_law_bag_here", "_law_some"] _ _ G__law_of := ⟨F__law_of, PySem.W.mg_of X G a__law_of, b__law_of, ok__law_of B C h__law_draw F__law_of⟩
  have h__law_same : At l.prog w K cl mg base 6 "_law_same" st__law_same ["_law_found", "_law_due"] _ _ G__law_same := ⟨F__law_same, PySem.W.mg_of X G a__law_same, b__law_same, rec__law_same fun k GG hG => ok__law_same B C  F__law_same (PySem.W.mg_of X G a__law_same) b__law_same hG⟩
  exact ok_law B C h__law_bag h__law_draw h__law_of h_is_name h__law_same h_is_number F_law
end K02
open PySem PySem.W PyProof.Rows
set_option maxRecDepth 100000 in
set_option maxHeartbeats 0 in
theorem PySem.Challenge.cw_coarseonce_k02_names_and_numbers_holds : PySem.Challenge.rw_coarseonce_k02_names_and_numbers.Holds := by
  w_on; o_law; k_head; (case hw => w_witness2)
  k_fill
  refine Si.walk_law (l := PySem.Challenge.rw_coarseonce_k02_names_and_numbers) (k := 8) (x := "_law_script") (cl := fun _ _ => none) (G := K02.F_law) rfl rfl ⟨rfl, by decide, by decide⟩ (fun w h Y => PySem.W.kIn_of Y) ?F K02.law_true
  case F =>
    intro w mg fa h KX G hmg
    refine' K02.all_mk KX G hmg ?a_is_word ?l_is_word ?c_is_word ?k_is_word ?a_is_name ?l_is_name ?c_is_name ?k_is_name ?a_is_number ?l_is_number ?c_is_number ?k_is_number ?a__law_bag ?l__law_bag ?c__law_bag ?k__law_bag ?a__law_draw ?l__law_draw ?c__law_draw ?k__law_draw ?a__law_of ?l__law_of ?c__law_of ?k__law_of ?a__law_same ?l__law_same ?c__law_same ?k__law_same ?a_law ?l_law ?c_law ?k_law ?n_isinstance ?n_str ?n_len ?n_all ?n_int ?n_bool ?n_list ?n_tuple ?n_zip ?n_range ?q_LETTERS ?q_RESERVED ?w_RESERVED ?z_RESERVED ?v_RESERVED ?q_MOST_WAIT
    (case a_is_word => k_is)
    (case l_is_word => k_is)
    (case c_is_word => k_is)
    (case k_is_word => k_is)
    (case a_is_name => k_is)
    (case l_is_name => k_is)
    (case c_is_name => k_is)
    (case k_is_name => k_is)
    (case a_is_number => k_is)
    (case l_is_number => k_is)
    (case c_is_number => k_is)
    (case k_is_number => k_is)
    (case a__law_bag => k_is)
    (case l__law_bag => k_is)
    (case c__law_bag => k_is)
    (case k__law_bag => k_is)
    (case a__law_draw => k_is)
    (case l__law_draw => k_is)
    (case c__law_draw => k_is)
    (case k__law_draw => k_is)
    (case a__law_of => k_is)
    (case l__law_of => k_is)
    (case c__law_of => k_is)
    (case k__law_of => k_is)
    (case a__law_same => k_is)
    (case l__law_same => k_is)
    (case c__law_same => k_is)
    (case k__law_same => k_is)
    (case a_law => k_is)
    (case l_law => k_is)
    (case c_law => k_is)
    (case k_law => k_is)
    (case n_isinstance => k_is)
    (case n_str => k_is)
    (case n_len => k_is)
    (case n_all => k_is)
    (case n_int => k_is)
    (case n_bool => k_is)
    (case n_list => k_is)
    (case n_tuple => k_is)
    (case n_zip => k_is)
    (case n_range => k_is)
    (case q_LETTERS => k_is)
    (case q_RESERVED => k_is)
    (case w_RESERVED => k_is)
    (case z_RESERVED => first | exact (by decide +kernel) | (show _ ≤ _; decide +kernel))
    (case v_RESERVED => exact .cons ⟨_, rfl⟩ (.cons ⟨_, rfl⟩ (.cons ⟨_, rfl⟩ (.cons ⟨_, rfl⟩ (.cons ⟨_, rfl⟩ (.nil))))))
    (case q_MOST_WAIT => k_is)

