import PyProof.Rows.All
import Wide.All
import OpenK.AllK
import Wide.FinOn
import HandS.ForMost
import HandS.ForExc
import HandS.Flow
import HandS.Deep
import HandS.IsInst
import HandS.CallSlots
import HandS.Wide
import HandS.Zip
import HandS.TupAny
import HandS.TupMul
import HandS.Defaults
import HandS.MakeKwOnly
import HandS.Codes
import HandS.Property
import HandS.Dict
import HandS.DictComp
import HandS.More
import HandS.Star
import HandS.Strs
import HandS.Small
import KE.KStateDown
import HandS.Ends
import HandS.Head0
import HandS.Head1
import HandS.Head2
import HandS.HeadHook1
import HandS.HeadHook2
import PySem.Challenge.RW_coarseonce_k10_rules_that_apply
set_option Elab.async false
set_option linter.all false
set_option autoImplicit false
set_option maxRecDepth 100000
set_option maxHeartbeats 4000000
/-! Si: a plain-data reading laid over the hand layer. D: values as plain data; cells of w: the things that change; each rule says of a construct which plain function it reckons. -/
namespace Si
open PySem L2

inductive D where
  | non | bl (b : Bool) | int (i : Int) | str (s : Str) | lst (xs : List D) | tup (xs : List D) | obj (n : Nat) | scr (ns : List Int)
inductive MO where
  | dead | lst (xs : List D) | ins (c : Str) (fs : List (Str × D)) | dct (kvs : List (Key × D))
abbrev Wd := List MO
abbrev En := List (Option D)
inductive R (α : Type) where
  | ok (a : α) (w : Wd)
  | err (c : Str) (fs : List (Str × D)) (w : Wd)
  | stuck
def R.bind {α β : Type} (r : R α) (k : α → Wd → R β) : R β := match r with
  | .ok a w => k a w
  | .err c fs w => .err c fs w
  | .stuck => .stuck

/-- where things stand: what never changes any more, the cells' addresses, the cells, the heap -/
structure S where
  F : Addr → Prop
  ρ : List Addr
  w : Wd
  H : Hp

/-- a list, a tuple of the written part: for good -/
def LK (K : PySem.W.Frag) (a : Addr) (xs : List V) : Prop :=
  ∃ (o : Obj) (its : Array Value) (n : Nat), K.lookup a = some o ∧ o.cls = .type "list" ∧ o.dict = none ∧ o.data = .seq its n ∧ its.size ≤ sizeLine ∧ Vals xs its.toList
def TK (K : PySem.W.Frag) (a : Addr) (xs : List V) : Prop :=
  ∃ (o : Obj) (its : Array Value) (n : Nat), K.lookup a = some o ∧ o.cls = .type "tuple" ∧ o.data = .seq its n ∧ its.size ≤ sizeLine ∧ Vals xs its.toList

mutual
inductive Rep (K : PySem.W.Frag) (s : S) : V → D → Prop
  | non : Rep K s .non .non
  | bl (b : Bool) : Rep K s (.bl b) (.bl b)
  | int (i : Int) : Rep K s (.int i) (.int i)
  | str (x : Str) : Rep K s (.str x) (.str x)
  | lst {a : Addr} {vs : List V} {ds : List D} (hF : s.F a) (h : s.H a = some (.lst vs)) (r : RepA K s vs ds) : Rep K s (.ref a) (.lst ds)
  | tup {a : Addr} {vs : List V} {ds : List D} (h : (s.F a ∧ s.H a = some (.tup vs)) ∨ TK K a vs) (r : RepA K s vs ds) : Rep K s (.ref a) (.tup ds)
  | obj {a : Addr} {n : Nat} (h : s.ρ[n]? = some a) : Rep K s (.ref a) (.obj n)
  | scr {a : Addr} {ns : List Int} (h : (s.F a ∧ ∃ o, s.H a = some (.frz o (.lst (ns.map V.int)))) ∨ LK K a (ns.map V.int)) : Rep K s (.ref a) (.scr ns)
inductive RepA (K : PySem.W.Frag) (s : S) : List V → List D → Prop
  | nil : RepA K s [] []
  | cons {v : V} {vs : List V} {d : D} {ds : List D} (h : Rep K s v d) (r : RepA K s vs ds) : RepA K s (v :: vs) (d :: ds)
end

def RepF {κ : Type} (K : PySem.W.Frag) (s : S) : List (κ × V) → List (κ × D) → Prop
  | [], [] => True
  | p :: ps, q :: qs => p.1 = q.1 ∧ Rep K s p.2 q.2 ∧ RepF K s ps qs
  | _, _ => False

/-- a cell that still changes stands at a -/
def live (s : S) (a : Addr) : Prop := ∃ n : Nat, s.ρ[n]? = some a ∧ s.w[n]? ≠ some MO.dead

def RepO (K : PySem.W.Frag) (cl : Str → Option Addr) (s : S) (a : Addr) : MO → Prop
  | .dead => True
  | .lst xs => ∃ vs, s.H a = some (.lst vs) ∧ RepA K s vs xs
  | .ins c fs => ∃ C dx vfs, cl c = some C ∧ s.H a = some (.ins C dx vfs) ∧ RepF K s vfs fs
  | .dct kvs => ∃ vks, s.H a = some (.dK vks) ∧ RepF K s vks kvs

structure Ok (K : PySem.W.Frag) (cl : Str → Option Addr) (s : S) : Prop where
  len : s.ρ.length = s.w.length
  nd : s.ρ.Nodup
  trk : ∀ a, a ∈ s.ρ → s.H a ≠ none
  frz : ∀ a, s.F a → s.H a ≠ none
  cell : ∀ (n : Nat) (a : Addr) (o : MO), s.ρ[n]? = some a → s.w[n]? = some o → RepO K cl s a o
  dead : ∀ a, live s a → ¬ s.F a

structure Ext (s s' : S) : Prop where
  F : ∀ a, s.F a → s'.F a
  ρ : ∃ e, s'.ρ = s.ρ ++ e ∧ ∀ a, a ∈ e → s.H a = none
  w : ∀ (n : Nat), s.w[n]? = some MO.dead → s'.w[n]? = some MO.dead
  keep : ∀ a o, s.H a = some o → ¬ live s a → s'.H a = some o
  there : ∀ a, s.H a ≠ none → s'.H a ≠ none
  fnew : ∀ a, s'.F a → s.F a ∨ s.H a = none ∨ a ∈ s.ρ


section
variable {K : PySem.W.Frag} {cl : Str → Option Addr} {s s1 s2 : S}
theorem SqT.ofR {a : Addr} {vs : List V} (h : (s.F a ∧ s.H a = some (.tup vs)) ∨ TK K a vs) : SqT K s.H a vs := by
  rcases h with h | h
  · exact .inl (.inl h.2)
  · exact .inr h
theorem SqL.ofS {a : Addr} {ns : List Int} (h : (s.F a ∧ ∃ o, s.H a = some (.frz o (.lst (ns.map V.int)))) ∨ LK K a (ns.map V.int)) : SqL K s.H a (ns.map V.int) := by
  rcases h with ⟨_, o, h⟩ | h
  · exact .inl (.inr ⟨o, h⟩)
  · exact .inr h
theorem Ext.refl (s : S) : Ext s s := ⟨fun _ h => h, ⟨[], by simp, by simp⟩, fun _ h => h, fun _ _ h _ => h, fun _ h => h, fun _ h => .inl h⟩
theorem Ext.trans (a : Ext s s1) (b : Ext s1 s2) : Ext s s2 := by
  obtain ⟨e1, q1, n1⟩ := a.ρ
  obtain ⟨e2, q2, n2⟩ := b.ρ
  have back : ∀ x, s1.H x = none → s.H x = none := fun x h => by
    cases q : s.H x with
    | none => rfl
    | some o => exact absurd h (a.there x (by rw [q]; simp))
  refine ⟨fun x h => b.F x (a.F x h), ⟨e1 ++ e2, by rw [q2, q1, List.append_assoc], fun x hx => ?_⟩, fun n h => b.w n (a.w n h), fun x o h nl => ?_, fun x h => b.there x (a.there x h), fun x h => ?_⟩
  · rcases List.mem_append.mp hx with hx | hx
    · exact n1 x hx
    · exact back x (n2 x hx)
  · refine b.keep x o (a.keep x o h nl) fun ⟨n, hn, hd⟩ => ?_
    rw [q1] at hn
    by_cases hl : n < s.ρ.length
    · rw [List.getElem?_append_left hl] at hn
      exact nl ⟨n, hn, fun z => hd (a.w n z)⟩
    · rw [List.getElem?_append_right (Nat.le_of_not_lt hl)] at hn
      have q := n1 x (List.mem_of_getElem? hn)
      rw [h] at q
      cases q
  · rcases b.fnew x h with h | h | h
    · exact a.fnew x h
    · exact .inr (.inl (back x h))
    · rw [q1] at h
      rcases List.mem_append.mp h with h | h
      · exact .inr (.inr h)
      · exact .inr (.inl (n1 x h))
theorem Ext.ρget (e : Ext s s1) {n : Nat} {a : Addr} (h : s.ρ[n]? = some a) : s1.ρ[n]? = some a := by
  obtain ⟨l, q, _⟩ := e.ρ
  rw [q, List.getElem?_append_left (List.getElem?_eq_some_iff.mp h).1]
  exact h
theorem Ext.fr (ok : Ok K cl s) (e : Ext s s1) {a : Addr} {u : HO} (hF : s.F a) (h : s.H a = some u) : s1.H a = some u := e.keep a _ h fun l => ok.dead a l hF
mutual
theorem Rep.mono (ok : Ok K cl s) (e : Ext s s1) : ∀ {v : V} {d : D}, Rep K s v d → Rep K s1 v d
  | _, _, .non => .non
  | _, _, .bl b => .bl b
  | _, _, .int i => .int i
  | _, _, .str x => .str x
  | _, _, .lst h q r => .lst (e.F _ h) (e.fr ok h q) (RepA.mono ok e r)
  | _, _, .tup h r => .tup (h.imp (fun q => ⟨e.F _ q.1, e.fr ok q.1 q.2⟩) id) (RepA.mono ok e r)
  | _, _, .obj h => .obj (e.ρget h)
  | _, _, .scr h => .scr (h.imp (fun q => ⟨e.F _ q.1, q.2.imp fun _ z => e.fr ok q.1 z⟩) id)
theorem RepA.mono (ok : Ok K cl s) (e : Ext s s1) : ∀ {vs : List V} {ds : List D}, RepA K s vs ds → RepA K s1 vs ds
  | _, _, .nil => .nil
  | _, _, .cons h r => .cons (Rep.mono ok e h) (RepA.mono ok e r)
end
/-- less than Ext: what never changes stays as it is -/
structure ExtF (s s' : S) : Prop where
  F : ∀ a, s.F a → s'.F a
  ρ : ∃ e, s'.ρ = s.ρ ++ e
  fr : ∀ a u, s.F a → s.H a = some u → s'.H a = some u
theorem Ext.toF (ok : Ok K cl s) (e : Ext s s1) : ExtF s s1 := ⟨e.F, let ⟨l, q, _⟩ := e.ρ; ⟨l, q⟩, fun _ _ h q => e.fr ok h q⟩
theorem ExtF.trans (e : ExtF s s1) (e2 : ExtF s1 s2) : ExtF s s2 :=
  ⟨fun a h => e2.F a (e.F a h), let ⟨l, q⟩ := e.ρ; let ⟨l2, q2⟩ := e2.ρ; ⟨l ++ l2, by rw [q2, q, List.append_assoc]⟩, fun a u h q => e2.fr a u (e.F a h) (e.fr a u h q)⟩
theorem ExtF.ρget (e : ExtF s s1) {n : Nat} {a : Addr} (h : s.ρ[n]? = some a) : s1.ρ[n]? = some a := by
  obtain ⟨l, q⟩ := e.ρ
  rw [q, List.getElem?_append_left (List.getElem?_eq_some_iff.mp h).1]
  exact h
mutual
theorem Rep.monoF (e : ExtF s s1) : ∀ {v : V} {d : D}, Rep K s v d → Rep K s1 v d
  | _, _, .non => .non
  | _, _, .bl b => .bl b
  | _, _, .int i => .int i
  | _, _, .str x => .str x
  | _, _, .lst h q r => .lst (e.F _ h) (e.fr _ _ h q) (RepA.monoF e r)
  | _, _, .tup h r => .tup (h.imp (fun q => ⟨e.F _ q.1, e.fr _ _ q.1 q.2⟩) id) (RepA.monoF e r)
  | _, _, .obj h => .obj (e.ρget h)
  | _, _, .scr h => .scr (h.imp (fun q => ⟨e.F _ q.1, q.2.imp fun _ z => e.fr _ _ q.1 z⟩) id)
theorem RepA.monoF (e : ExtF s s1) : ∀ {vs : List V} {ds : List D}, RepA K s vs ds → RepA K s1 vs ds
  | _, _, .nil => .nil
  | _, _, .cons h r => .cons (Rep.monoF e h) (RepA.monoF e r)
end
theorem RepF.mono {κ : Type} (ok : Ok K cl s) (e : Ext s s1) : ∀ {ps : List (κ × V)} {qs : List (κ × D)}, RepF K s ps qs → RepF K s1 ps qs
  | [], [], _ => trivial
  | _ :: _, _ :: _, h => ⟨h.1, h.2.1.mono ok e, RepF.mono ok e h.2.2⟩
  | [], _ :: _, h => h.elim
  | _ :: _, [], h => h.elim
theorem RepA.length : ∀ {vs : List V} {ds : List D}, RepA K s vs ds → vs.length = ds.length
  | _, _, .nil => rfl
  | _, _, .cons _ r => congrArg (· + 1) (RepA.length r)
theorem RepA.append : ∀ {vs us : List V} {ds es : List D}, RepA K s vs ds → RepA K s us es → RepA K s (vs ++ us) (ds ++ es)
  | _, _, _, _, .nil, q => q
  | _, _, _, _, .cons h r, q => .cons h (RepA.append r q)
theorem RepA.get : ∀ {vs : List V} {ds : List D} {i : Nat} {d : D}, RepA K s vs ds → ds[i]? = some d → ∃ v, vs[i]? = some v ∧ Rep K s v d
  | _, _, _, _, .nil, e => by simp at e
  | _, _, 0, _, .cons h _, e => by simp at e; subst e; exact ⟨_, rfl, h⟩
  | _, _, i + 1, _, .cons _ r, e => by
    obtain ⟨v, h1, h2⟩ := RepA.get (i := i) r (by simpa using e)
    exact ⟨v, by simpa using h1, h2⟩
theorem RepA.take : ∀ {vs : List V} {ds : List D} (n : Nat), RepA K s vs ds → RepA K s (vs.take n) (ds.take n)
  | _, _, 0, _ => .nil
  | _, _, _ + 1, .nil => .nil
  | _, _, n + 1, .cons h r => .cons h (RepA.take n r)
theorem RepA.drop : ∀ {vs : List V} {ds : List D} (n : Nat), RepA K s vs ds → RepA K s (vs.drop n) (ds.drop n)
  | _, _, 0, r => r
  | _, _, _ + 1, .nil => .nil
  | _, _, n + 1, .cons _ r => RepA.drop n r
theorem RepA.set : ∀ {vs : List V} {ds : List D} (i : Nat) {v : V} {d : D}, Rep K s v d → RepA K s vs ds → RepA K s (vs.set i v) (ds.set i d)
  | _, _, _, _, _, _, .nil => .nil
  | _, _, 0, _, _, q, .cons _ r => .cons q r
  | _, _, i + 1, _, _, q, .cons h r => .cons h (RepA.set i q r)

/-! ### the frame's values -/
def RepE (K : PySem.W.Frag) (s : S) (σ : L2.St) (σd : En) : Prop := σ.length = σd.length ∧ ∀ (i : Nat) (d : D), σd[i]? = some (some d) → ∃ v, σ[i]? = some (some v) ∧ Rep K s v d
theorem RepE.mono {σ : L2.St} {σd : En} (ok : Ok K cl s) (e : Ext s s1) (h : RepE K s σ σd) : RepE K s1 σ σd :=
  ⟨h.1, fun i d q => let ⟨v, a, b⟩ := h.2 i d q; ⟨v, a, b.mono ok e⟩⟩
theorem RepE.set {σ : L2.St} {σd : En} {v : V} {d : D} (h : RepE K s σ σd) (i : Nat) (r : Rep K s v d) : RepE K s (σ.set i (some v)) (σd.set i (some d)) := by
  refine ⟨by simpa using h.1, fun j d' q => ?_⟩
  by_cases e : j = i
  · subst e
    by_cases hl : j < σd.length
    · rw [List.getElem?_set_self hl] at q
      cases q
      exact ⟨v, List.getElem?_set_self (by rw [h.1]; exact hl), r⟩
    · rw [List.getElem?_eq_none_iff.mpr (by simpa using Nat.le_of_not_lt hl)] at q
      cases q
  · rw [List.getElem?_set_ne (Ne.symm e)] at q
    obtain ⟨v', a, b⟩ := h.2 j d' q
    exact ⟨v', by rw [List.getElem?_set_ne (Ne.symm e)]; exact a, b⟩
def wipeD (σd : En) : List Nat → En
  | [] => σd
  | v :: vs => (wipeD σd vs).set v none
theorem RepE.wipe {σ : L2.St} {σd : En} (h : RepE K s σ σd) : ∀ vs : List Nat, RepE K s (L2.wipe σ vs) (wipeD σd vs)
  | [] => h
  | v :: vs => by
    have ih := RepE.wipe h vs
    refine ⟨by simpa [L2.wipe, wipeD] using ih.1, fun j d q => ?_⟩
    show ∃ v', ((L2.wipe σ vs).set v none)[j]? = some (some v') ∧ _
    change ((wipeD σd vs).set v none)[j]? = some (some d) at q
    by_cases e : v = j
    · subst e
      by_cases hl : v < (wipeD σd vs).length
      · rw [List.getElem?_set_self hl] at q
        cases q
      · rw [List.getElem?_eq_none_iff.mpr (by simpa using Nat.le_of_not_lt hl)] at q
        cases q
    · rw [List.getElem?_set_ne e] at q
      obtain ⟨v', a, b⟩ := ih.2 j d q
      exact ⟨v', by rw [List.getElem?_set_ne e]; exact a, b⟩

/-! ### what follows -/
/-- an exception of the class named c, its attributes -/
def RepX (K : PySem.W.Frag) (cl : Str → Option Addr) (s : S) (cls : Value) (dd : Option Addr) (c : Str) (fs : List (Str × D)) : Prop :=
  ∃ C a vfs, cl c = some C ∧ cls = .ref C ∧ dd = some a ∧ s.F a ∧ s.H a = some (.xd vfs) ∧ RepF K s vfs fs
def Post {α β : Type} (K : PySem.W.Frag) (cl : Str → Option Addr) (rep : S → β → α → Prop) (EK : XK) (s : S) (r : R α) (Q : β → Hp → Prop) : Prop := match r with
  | .ok d w => ∀ s' v, Ext s s' → Ok K cl s' → s'.w = w → rep s' v d → Q v s'.H
  | .err c fs w => ∀ s' cls dd, Ext s s' → Ok K cl s' → s'.w = w → RepX K cl s' cls dd c fs → EK cls dd s'.H
  | .stuck => False
theorem Post.ext {α β : Type} {rep : S → β → α → Prop} {EK : XK} {r : R α} {Q : β → Hp → Prop} (e : Ext s s1) (h : Post K cl rep EK s r Q) : Post K cl rep EK s1 r Q := by
  cases r with
  | ok d w => exact fun s' v e' o q rp => h s' v (e.trans e') o q rp
  | err c fs w => exact fun s' x dd e' o q rp => h s' x dd (e.trans e') o q rp
  | stuck => exact h
theorem Post.imp {α β : Type} {rep : S → β → α → Prop} {EK : XK} {r : R α} {Q Q' : β → Hp → Prop} (h : Post K cl rep EK s r Q) (i : ∀ v H, Q v H → Q' v H) : Post K cl rep EK s r Q' := by
  cases r with
  | ok d w => exact fun s' v e' o q rp => i _ _ (h s' v e' o q rp)
  | err c fs w => exact h
  | stuck => exact h
abbrev repB : S → Bool → Bool → Prop := fun _ b b' => b = b'
/-- the reading of a thing that reckons m -/
def tG {α β : Type} (K : PySem.W.Frag) (cl : Str → Option Addr) (rep : S → β → α → Prop) (EK : XK) (m : En → Wd → R α) : L2.St → Hp → (β → Hp → Prop) → Prop :=
  fun σ H Q => ∃ s σd, s.H = H ∧ Ok K cl s ∧ RepE K s σ σd ∧ Post K cl rep EK s (m σd s.w) Q
/-- what is left to reckon from a value -/
def tK {α β α' β' : Type} (K : PySem.W.Frag) (cl : Str → Option Addr) (rep : S → β → α → Prop) (rep' : S → β' → α' → Prop) (EK : XK) (k : α → En → Wd → R α') : β → L2.St → Hp → (β' → Hp → Prop) → Prop :=
  fun x σ H Q => ∃ s σd a, s.H = H ∧ Ok K cl s ∧ RepE K s σ σd ∧ rep s x a ∧ Post K cl rep' EK s (k a σd s.w) Q
theorem tG_bind {α β α' β' : Type} {rep : S → β → α → Prop} {rep' : S → β' → α' → Prop} {EK : XK} {m : En → Wd → R α} {k : α → En → Wd → R α'} {σ : L2.St} {H : Hp} {Q : β' → Hp → Prop}
    (h : tG K cl rep' EK (fun σd w => (m σd w).bind fun a w' => k a σd w') σ H Q) : tG K cl rep EK m σ H (fun x H1 => tK K cl rep rep' EK k x σ H1 Q) := by
  obtain ⟨s, σd, rfl, ok, re, p⟩ := h
  refine ⟨s, σd, rfl, ok, re, ?_⟩
  cases e : m σd s.w with
  | ok a w =>
    simp only [e, R.bind] at p
    intro s' x ex ok' hw rx
    refine ⟨s', σd, a, rfl, ok', re.mono ok ex, rx, ?_⟩
    rw [hw]
    exact Post.ext ex p
  | err c fs w => simp only [e, R.bind] at p; exact p
  | stuck => simp only [e, R.bind] at p; exact p
theorem tG_imp {α β : Type} {rep : S → β → α → Prop} {EK : XK} {m : En → Wd → R α} {σ : L2.St} {H : Hp} {Q Q' : β → Hp → Prop} (h : tG K cl rep EK m σ H Q) (i : ∀ v H, Q v H → Q' v H) : tG K cl rep EK m σ H Q' := by
  obtain ⟨s, σd, a, b, c, p⟩ := h
  exact ⟨s, σd, a, b, c, p.imp i⟩
/-- a value with the state it stands in, behind m: the next one is reckoned there -/
theorem tK_bind {α β α' β' α'' β'' : Type} {rep : S → β → α → Prop} {rep' : S → β' → α' → Prop} {rep'' : S → β'' → α'' → Prop} {EK : XK} {m : En → Wd → R α'} {k : α → α' → En → Wd → R α''} {x : β} {σ : L2.St} {H : Hp} {Q : β'' → Hp → Prop}
    (mono : ∀ s s' x a, Ok K cl s → Ext s s' → rep s x a → rep s' x a)
    (h : tK K cl rep rep'' EK (fun a σd w => (m σd w).bind fun b w' => k a b σd w') x σ H Q) : tG K cl rep' EK m σ H (fun y H1 => ∃ s σd a b, s.H = H1 ∧ Ok K cl s ∧ RepE K s σ σd ∧ rep s x a ∧ rep' s y b ∧ Post K cl rep'' EK s (k a b σd s.w) Q) := by
  obtain ⟨s, σd, a, rfl, ok, re, ra, p⟩ := h
  refine ⟨s, σd, rfl, ok, re, ?_⟩
  cases e : m σd s.w with
  | ok b w =>
    simp only [e, R.bind] at p
    intro s' y ex ok' hw ry
    refine ⟨s', σd, a, b, rfl, ok', re.mono ok ex, mono s s' x a ok ex ra, ry, ?_⟩
    rw [hw]
    exact Post.ext ex p
  | err c fs w => simp only [e, R.bind] at p; exact p
  | stuck => simp only [e, R.bind] at p; exact p
end

/-! ### the judgements -/
section
variable {X : Cx} {cl : Str → Option Addr} {EK : XK}
def SE (X : Cx) (cl : Str → Option Addr) (EK : XK) (e : Expr) (m : En → Wd → R D) : Prop := PE X e (tG X.K cl (Rep X.K) EK m)
def ST (X : Cx) (cl : Str → Option Addr) (EK : XK) (e : Expr) (m : En → Wd → R Bool) : Prop := PT X e (tG X.K cl repB EK m)
def SA (X : Cx) (cl : Str → Option Addr) (EK : XK) (es : List Expr) (m : En → Wd → R (List D)) : Prop := PA X es (tG X.K cl (RepA X.K) EK m)
theorem PE.weak {e : Expr} {t t' : TE} (h : PE X e t) (i : ∀ σ H Q, t' σ H Q → t σ H Q) : PE X e t' := ⟨fun pins s σ H Q I q => h.run pins s σ H Q I (i σ H Q q)⟩
theorem PT.weak {e : Expr} {t t' : TT} (h : PT X e t) (i : ∀ σ H Q, t' σ H Q → t σ H Q) : PT X e t' := ⟨fun pins s σ H Q I q => h.run pins s σ H Q I (i σ H Q q)⟩
theorem PA.weak {es : List Expr} {t t' : TA} (h : PA X es t) (i : ∀ σ H Q, t' σ H Q → t σ H Q) : PA X es t' := ⟨fun pos pins s σ H Q I q => h.run pos pins s σ H Q I (i σ H Q q)⟩

/-! ### names, constants -/
def mVar (i : Nat) : En → Wd → R D := fun σd w => match σd[i]? with
  | some (some d) => .ok d w
  | _ => .stuck
theorem se_var {e : Expr} {i : Nat} (h : PE X e (tVar i)) : SE X cl EK e (mVar i) := by
  refine PE.weak h fun σ H Q => ?_
  rintro ⟨s, σd, rfl, ok, re, p⟩
  unfold mVar at p
  split at p
  · rename_i d hd
    obtain ⟨v, hv, r⟩ := re.2 i d hd
    exact ⟨v, hv, p s v (Ext.refl s) ok rfl r⟩
  · exact p.elim
def mC (d : D) : En → Wd → R D := fun _ w => .ok d w
theorem se_c {e : Expr} {v : V} {d : D} (h : PE X e (tC v)) (r : ∀ s, Rep X.K s v d) : SE X cl EK e (mC d) := by
  refine PE.weak h fun σ H Q => ?_
  rintro ⟨s, σd, rfl, ok, re, p⟩
  exact p s v (Ext.refl s) ok rfl (r s)
theorem se_int {i j pos} : SE X cl EK (.Constant (.int i) j pos) (mC (.int i)) := se_c pe_int fun _ => .int i
theorem se_bl {b j pos} : SE X cl EK (.Constant (.bool b) j pos) (mC (.bl b)) := se_c pe_bl fun _ => .bl b
theorem se_non {j pos} : SE X cl EK (.Constant .none j pos) (mC .non) := se_c pe_non fun _ => .non
theorem se_str {x j pos} : SE X cl EK (.Constant (.str x) j pos) (mC (.str x)) := se_c pe_str fun _ => .str x
end
end Si

set_option Elab.async false
set_option linter.all false
set_option autoImplicit false
set_option maxRecDepth 100000
set_option maxHeartbeats 4000000
/-! Si2: steps of the heap; operators. -/
namespace Si
open PySem L2
section
variable {K : PySem.W.Frag} {cl : Str → Option Addr} {s s1 : S}
/-! ### the steps: a new thing that never changes, a new cell, a cell written, a cell that changes no more -/
def S.frz (s : S) (p : Addr) (o : HO) : S := ⟨fun a => s.F a ∨ a = p, s.ρ, s.w, upd s.H p o⟩
def S.cell (s : S) (p : Addr) (o : HO) (m : MO) : S := ⟨s.F, s.ρ ++ [p], s.w ++ [m], upd s.H p o⟩
def S.wr (s : S) (n : Nat) (p : Addr) (o : HO) (m : MO) : S := ⟨s.F, s.ρ, s.w.set n m, upd s.H p o⟩
def S.die (s : S) (n : Nat) (p : Addr) : S := ⟨fun a => s.F a ∨ a = p, s.ρ, s.w.set n .dead, s.H⟩
theorem RepO.at {a : Addr} {o : MO} (ok : Ok K cl s) (e : Ext s s1) (h : s1.H a = s.H a) (r : RepO K cl s a o) : RepO K cl s1 a o := by
  cases o with
  | dead => trivial
  | lst xs => obtain ⟨vs, e1, r⟩ := r; exact ⟨vs, h.trans e1, r.mono ok e⟩
  | ins c fs => obtain ⟨C, dx, vfs, e0, e1, r⟩ := r; exact ⟨C, dx, vfs, e0, h.trans e1, r.mono ok e⟩
  | dct kvs => obtain ⟨vks, e1, r⟩ := r; exact ⟨vks, h.trans e1, r.mono ok e⟩
theorem upd_there {H : Hp} {p a : Addr} {o : HO} (h : H a ≠ none) : upd H p o a ≠ none := by
  by_cases e : a = p
  · subst e; rw [upd_same]; simp
  · rw [upd_ne e]; exact h
theorem S.frz_ext {p : Addr} {o : HO} (hp : s.H p = none) : Ext s (s.frz p o) :=
  ⟨fun _ h => .inl h, ⟨[], (List.append_nil _).symm, fun _ h => nomatch h⟩, fun _ h => h, fun a u h _ => by
    show upd s.H p o a = some u
    rw [upd_ne (ne_of_none h hp)]; exact h, fun _ h => upd_there h, fun a h => by
    rcases h with h | h
    · exact .inl h
    · subst h; exact .inr (.inl hp)⟩
theorem S.frz_ok {p : Addr} {o : HO} (ok : Ok K cl s) (hp : s.H p = none) : Ok K cl (s.frz p o) := by
  have ne : ∀ a, a ∈ s.ρ → a ≠ p := fun a ha z => ok.trk a ha (by rw [z]; exact hp)
  refine ⟨ok.len, ok.nd, fun a ha => upd_there (ok.trk a ha), fun a ha => ?_, fun n a m hn hm => ?_, fun a hl ha => ?_⟩
  · rcases ha with ha | ha
    · exact upd_there (ok.frz a ha)
    · subst ha; show upd s.H a o a ≠ none; rw [upd_same]; simp
  · refine RepO.at ok (S.frz_ext hp) ?_ (ok.cell n a m hn hm)
    exact upd_ne (ne a (List.mem_of_getElem? hn))
  · rcases ha with ha | ha
    · exact ok.dead a hl ha
    · obtain ⟨n, hn, _⟩ := hl
      exact ne a (List.mem_of_getElem? hn) ha
theorem S.cell_ext {p : Addr} {o : HO} {m : MO} (ok : Ok K cl s) (hp : s.H p = none) : Ext s (s.cell p o m) :=
  ⟨fun _ h => h, ⟨[p], rfl, fun a h => by rw [List.mem_singleton.mp h]; exact hp⟩, fun n h => by
    show (s.w ++ [m])[n]? = some MO.dead
    rw [List.getElem?_append_left (List.getElem?_eq_some_iff.mp h).1]; exact h, fun a u h _ => by
    show upd s.H p o a = some u
    rw [upd_ne (ne_of_none h hp)]; exact h, fun _ h => upd_there h, fun a h => .inl h⟩
theorem S.cell_ok {p : Addr} {o : HO} {m : MO} (ok : Ok K cl s) (hp : s.H p = none) (r : RepO K cl (s.cell p o m) p m) : Ok K cl (s.cell p o m) := by
  have ne : ∀ a, a ∈ s.ρ → a ≠ p := fun a ha z => ok.trk a ha (by rw [z]; exact hp)
  have split : ∀ (n : Nat) (a : Addr), (s.ρ ++ [p])[n]? = some a → (s.ρ[n]? = some a ∧ (s.w ++ [m])[n]? = s.w[n]?) ∨ (n = s.ρ.length ∧ a = p ∧ (s.w ++ [m])[n]? = some m) := fun n a hn => by
    by_cases hl : n < s.ρ.length
    · rw [List.getElem?_append_left hl] at hn
      exact .inl ⟨hn, List.getElem?_append_left (by rw [← ok.len]; exact hl)⟩
    · have e : n = s.ρ.length := by
        have := (List.getElem?_eq_some_iff.mp hn).1
        rw [List.length_append, List.length_singleton] at this
        omega
      subst e
      rw [List.getElem?_append_right (Nat.le_refl _), Nat.sub_self] at hn
      have e2 : p = a := Option.some.inj hn
      refine .inr ⟨rfl, e2.symm, ?_⟩
      rw [List.getElem?_append_right (by rw [ok.len]; exact Nat.le_refl _), ok.len, Nat.sub_self]
      rfl
  refine ⟨?_, ?_, fun a ha => ?_, fun a ha => upd_there (ok.frz a ha), fun n a m' hn hm => ?_, fun a hl ha => ?_⟩
  · show (s.ρ ++ [p]).length = (s.w ++ [m]).length
    rw [List.length_append, List.length_append, ok.len]
    rfl
  · refine List.nodup_append.mpr ⟨ok.nd, by simp, fun a ha b hb => ?_⟩
    rw [List.mem_singleton.mp hb]
    exact ne a ha
  · rcases List.mem_append.mp ha with ha | ha
    · exact upd_there (ok.trk a ha)
    · rw [List.mem_singleton.mp ha]; show upd s.H p o p ≠ none; rw [upd_same]; simp
  · rcases split n a hn with ⟨h1, h2⟩ | ⟨_, rfl, h2⟩
    · refine RepO.at ok (S.cell_ext ok hp) (upd_ne (ne a (List.mem_of_getElem? h1))) (ok.cell n a m' h1 ?_)
      rw [← h2]; exact hm
    · have e : m' = m := by
        change (s.w ++ [m])[n]? = some m' at hm
        rw [h2] at hm; exact (Option.some.inj hm).symm
      subst e
      exact r
  · obtain ⟨n, hn, hd⟩ := hl
    rcases split n a hn with ⟨h1, h2⟩ | ⟨_, rfl, _⟩
    · refine ok.dead a ⟨n, h1, fun z => hd ?_⟩ ha
      show (s.w ++ [m])[n]? = some MO.dead
      rw [h2]; exact z
    · exact ok.frz a ha hp
theorem S.wr_ext {n : Nat} {p : Addr} {o : HO} {m : MO} (ok : Ok K cl s) (hn : s.ρ[n]? = some p) (hl : s.w[n]? ≠ some MO.dead) : Ext s (s.wr n p o m) :=
  ⟨fun _ h => h, ⟨[], (List.append_nil _).symm, fun _ h => nomatch h⟩, fun j h => by
    show (s.w.set n m)[j]? = some MO.dead
    rw [List.getElem?_set_ne (fun z => hl (by rw [z]; exact h))]; exact h, fun a u h nl => by
    show upd s.H p o a = some u
    rw [upd_ne (fun z => nl ⟨n, by rw [z]; exact hn, hl⟩)]; exact h, fun _ h => upd_there h, fun a h => .inl h⟩
theorem S.wr_ok {n : Nat} {p : Addr} {o : HO} {m : MO} (ok : Ok K cl s) (hn : s.ρ[n]? = some p) (hl : s.w[n]? ≠ some MO.dead) (r : RepO K cl (s.wr n p o m) p m) : Ok K cl (s.wr n p o m) := by
  refine ⟨by show s.ρ.length = (s.w.set n m).length; rw [List.length_set]; exact ok.len, ok.nd, fun a ha => upd_there (ok.trk a ha), fun a ha => upd_there (ok.frz a ha), fun j a m' hj hm => ?_, fun a hv ha => ?_⟩
  · change s.ρ[j]? = some a at hj
    change (s.w.set n m)[j]? = some m' at hm
    by_cases e : j = n
    · subst e
      rw [hn] at hj
      cases hj
      have hlt : j < s.w.length := by rw [← ok.len]; exact (List.getElem?_eq_some_iff.mp hn).1
      rw [List.getElem?_set_self hlt] at hm
      cases hm
      exact r
    · rw [List.getElem?_set_ne (Ne.symm e)] at hm
      refine RepO.at ok (S.wr_ext ok hn hl) (upd_ne fun z => e ?_) (ok.cell j a m' hj hm)
      subst z
      exact nd_ix ok.nd hj hn
  · obtain ⟨j, hj, hd⟩ := hv
    change s.ρ[j]? = some a at hj
    by_cases e : j = n
    · subst e
      exact ok.dead a ⟨j, hj, hl⟩ ha
    · refine ok.dead a ⟨j, hj, fun z => hd ?_⟩ ha
      show (s.w.set n m)[j]? = some MO.dead
      rw [List.getElem?_set_ne (Ne.symm e)]; exact z
theorem S.die_ext {n : Nat} {p : Addr} (hn : s.ρ[n]? = some p) : Ext s (s.die n p) :=
  ⟨fun _ h => .inl h, ⟨[], (List.append_nil _).symm, fun _ h => nomatch h⟩, fun j h => by
    show (s.w.set n MO.dead)[j]? = some MO.dead
    by_cases e : j = n
    · subst e; rw [List.getElem?_set_self (List.getElem?_eq_some_iff.mp h).1]
    · rw [List.getElem?_set_ne (Ne.symm e)]; exact h, fun a u h nl => h, fun _ h => h, fun a h => by
    rcases h with h | h
    · exact .inl h
    · subst h; exact .inr (.inr (List.mem_of_getElem? hn))⟩
theorem S.die_ok {n : Nat} {p : Addr} (ok : Ok K cl s) (hn : s.ρ[n]? = some p) : Ok K cl (s.die n p) := by
  refine ⟨by show s.ρ.length = (s.w.set n MO.dead).length; rw [List.length_set]; exact ok.len, ok.nd, ok.trk, fun a ha => ?_, fun j a m' hj hm => ?_, fun a hv ha => ?_⟩
  · rcases ha with ha | ha
    · exact ok.frz a ha
    · subst ha; exact ok.trk a (List.mem_of_getElem? hn)
  · change s.ρ[j]? = some a at hj
    change (s.w.set n MO.dead)[j]? = some m' at hm
    by_cases e : j = n
    · subst e
      rw [List.getElem?_set_self (by rw [← ok.len]; exact (List.getElem?_eq_some_iff.mp hn).1)] at hm
      cases hm
      trivial
    · rw [List.getElem?_set_ne (Ne.symm e)] at hm
      exact RepO.at ok (S.die_ext hn) rfl (ok.cell j a m' hj hm)
  · obtain ⟨j, hj, hd⟩ := hv
    change s.ρ[j]? = some a at hj
    by_cases e : j = n
    · subst e
      refine hd ?_
      show (s.w.set j MO.dead)[j]? = some MO.dead
      rw [List.getElem?_set_self (by rw [← ok.len]; exact (List.getElem?_eq_some_iff.mp hn).1)]
    · have hv' : live s a := ⟨j, hj, fun z => hd (by
        show (s.w.set n MO.dead)[j]? = some MO.dead
        rw [List.getElem?_set_ne (Ne.symm e)]; exact z)⟩
      rcases ha with ha | ha
      · exact ok.dead a hv' ha
      · subst ha
        exact e (nd_ix ok.nd hj hn)
/-- a new list, a new tuple that never changes -/
theorem rep_newL {p : Addr} {vs : List V} {ds : List D} (ok : Ok K cl s) (hp : s.H p = none) (r : RepA K s vs ds) : Rep K (s.frz p (.lst vs)) (.ref p) (.lst ds) :=
  .lst (.inr rfl) upd_same (r.mono ok (S.frz_ext hp))
theorem rep_newT {p : Addr} {vs : List V} {ds : List D} (ok : Ok K cl s) (hp : s.H p = none) (r : RepA K s vs ds) : Rep K (s.frz p (.tup vs)) (.ref p) (.tup ds) :=
  .tup (.inl ⟨.inr rfl, upd_same⟩) (r.mono ok (S.frz_ext hp))
/-- what follows a value that is there -/
theorem post_here {rep : S → V → D → Prop} {EK : XK} {d : D} {Q : VK} {v : V} (ok : Ok K cl s) (p : Post K cl rep EK s (.ok d s.w) Q) (r : rep s v d) : Q v s.H := p s v (Ext.refl s) ok rfl r
theorem post_newL {EK : XK} {ds : List D} {Q : VK} {vs : List V} (ok : Ok K cl s) (p : Post K cl (Rep K) EK s (.ok (.lst ds) s.w) Q) (r : RepA K s vs ds) : ∀ a, s.H a = none → Q (.ref a) (upd s.H a (.lst vs)) :=
  fun a ha => p (s.frz a (.lst vs)) _ (S.frz_ext ha) (S.frz_ok ok ha) rfl (rep_newL ok ha r)
theorem post_newT {EK : XK} {ds : List D} {Q : VK} {vs : List V} (ok : Ok K cl s) (p : Post K cl (Rep K) EK s (.ok (.tup ds) s.w) Q) (r : RepA K s vs ds) : ∀ a, s.H a = none → Q (.ref a) (upd s.H a (.tup vs)) :=
  fun a ha => p (s.frz a (.tup vs)) _ (S.frz_ext ha) (S.frz_ok ok ha) rfl (rep_newT ok ha r)
end

/-! ### operators -/
/-- the rule r does what g says -/
def GR (K : PySem.W.Frag) (cl : Str → Option Addr) (g : D → D → Wd → R D) (r : R2) : Prop :=
  ∀ (EK : XK) (s : S) (x y : V) (u v : D) (Q : VK), Ok K cl s → Rep K s x u → Rep K s y v → Post K cl (Rep K) EK s (g u v s.w) Q → r x y s.H Q
def mOp (g : D → D → Wd → R D) (ma mb : En → Wd → R D) : En → Wd → R D := fun σd w => (ma σd w).bind fun u w1 => (mb σd w1).bind fun v w2 => g u v w2
theorem rep_mono {K : PySem.W.Frag} {cl : Str → Option Addr} : ∀ (s s' : S) (x : V) (a : D), Ok K cl s → Ext s s' → Rep K s x a → Rep K s' x a := fun _ _ _ _ ok e r => r.mono ok e
theorem repA_mono {K : PySem.W.Frag} {cl : Str → Option Addr} : ∀ (s s' : S) (x : List V) (a : List D), Ok K cl s → Ext s s' → RepA K s x a → RepA K s' x a := fun _ _ _ _ ok e r => r.mono ok e
section
variable {X : Cx} {cl : Str → Option Addr} {EK : XK} {a b c : Expr} {ma mb mc : En → Wd → R D} {pos : Pos} {g g' : D → D → Wd → R D} {r r' : R2}
theorem op_core (hr : GR X.K cl g r) {σ : L2.St} {H : Hp} {Q : VK} (h : tG X.K cl (Rep X.K) EK (mOp g ma mb) σ H Q) : tOp r (tG X.K cl (Rep X.K) EK ma) (tG X.K cl (Rep X.K) EK mb) σ H Q :=
  tG_imp (tG_bind h) fun x H1 hk => tG_imp (tK_bind rep_mono hk) fun y H2 ⟨s, σd, u, v, e, ok, re, ru, rv, p⟩ => by
    subst e
    exact hr EK s x y u v Q ok ru rv p
theorem se_op {op : Operator} (ho : OpR X (binaryOp op) r) (hr : GR X.K cl g r) (ha : SE X cl EK a ma) (hb : SE X cl EK b mb) : SE X cl EK (.BinOp a op b pos) (mOp g ma mb) := PE.weak (pe_op ho ha hb) fun σ H Q h => op_core hr h
theorem se_cmp {op : CmpOp} (ho : OpR X (compareOp op) r) (hr : GR X.K cl g r) (ha : SE X cl EK a ma) (hb : SE X cl EK b mb) (hm : behindInMarks op b = false) : SE X cl EK (.Compare a [op] [b] pos) (mOp g ma mb) :=
  PE.weak (pe_cmpR ho ha hb hm) fun σ H Q h => op_core hr h
/-- a bool that is asked -/
def asB (m : En → Wd → R D) : En → Wd → R Bool := fun σd w => (m σd w).bind fun d w1 => match d with | .bl b => .ok b w1 | _ => .stuck
theorem asB_core {m : En → Wd → R D} {t : TE} (i : ∀ σ H Q, tG X.K cl (Rep X.K) EK m σ H Q → t σ H Q) (mono : ∀ σ H (Q Q' : VK), (∀ v H, Q v H → Q' v H) → t σ H Q → t σ H Q') {σ : L2.St} {H : Hp} {Q : Bool → Hp → Prop}
    (h : tG X.K cl repB EK (asB m) σ H Q) : t σ H fun x H' => ∃ k, x = .bl k ∧ Q k H' := by
  refine mono _ _ _ _ (fun v H q => ?_) (i _ _ _ (tG_bind h))
  obtain ⟨s, σd, d, rfl, ok, re, r, p⟩ := q
  cases r with
  | bl b => exact ⟨b, rfl, p s b (Ext.refl s) ok rfl rfl⟩
  | _ => exact p.elim
theorem tOp_mono {σ : L2.St} {H : Hp} {Q Q' : VK} (hm : ∀ x y H Q Q', (∀ v H, Q v H → Q' v H) → r x y H Q → r x y H Q') (i : ∀ v H, Q v H → Q' v H)
    (h : tOp r (tG X.K cl (Rep X.K) EK ma) (tG X.K cl (Rep X.K) EK mb) σ H Q) : tOp r (tG X.K cl (Rep X.K) EK ma) (tG X.K cl (Rep X.K) EK mb) σ H Q' :=
  tG_imp h fun x H1 h1 => tG_imp h1 fun y H2 h2 => hm x y H2 Q Q' i h2
theorem st_cmp {op : CmpOp} (ho : OpR X (compareOp op) r) (hr : GR X.K cl g r) (ha : SE X cl EK a ma) (hb : SE X cl EK b mb) (hm : behindInMarks op b = false) : ST X cl EK (.Compare a [op] [b] pos) (asB (mOp g ma mb)) := by
  refine PT.weak (pt_cmpR ho ha hb hm) fun σ H Q h => ?_
  have h2 := tG_bind (rep := Rep X.K) h
  refine tG_imp (tG_bind h2) fun x H1 hk => tG_imp (tK_bind rep_mono hk) fun y H2 ⟨s, σd, u, v, e, ok, re, ru, rv, p⟩ => ?_
  subst e
  refine hr EK s x y u v _ ok ru rv (p.imp fun v H q => ?_)
  obtain ⟨s, σd, d, rfl, ok, re, r, p⟩ := q
  cases r with
  | bl b => exact ⟨b, rfl, p s b (Ext.refl s) ok rfl rfl⟩
  | _ => exact p.elim
end
end Si

set_option Elab.async false
set_option linter.all false
set_option autoImplicit false
set_option maxRecDepth 100000
set_option maxHeartbeats 4000000
/-! Si3: what the operators reckon. -/
namespace Si
open PySem L2 PyProof.Rows
section
variable {X : Cx} {K : PySem.W.Frag} {cl : Str → Option Addr}
theorem rep_int {s : S} {v : V} {i : Int} (h : Rep K s v (.int i)) : v = .int i := by cases h; rfl
theorem rep_str {s : S} {v : V} {i : Str} (h : Rep K s v (.str i)) : v = .str i := by cases h; rfl
theorem rep_bl {s : S} {v : V} {i : Bool} (h : Rep K s v (.bl i)) : v = .bl i := by cases h; rfl
theorem rep_lst {s : S} {v : V} {ds : List D} (h : Rep K s v (.lst ds)) : ∃ a vs, v = .ref a ∧ s.F a ∧ s.H a = some (.lst vs) ∧ RepA K s vs ds := by
  cases h with
  | lst hF h r => exact ⟨_, _, rfl, hF, h, r⟩
theorem rep_tup {s : S} {v : V} {ds : List D} (h : Rep K s v (.tup ds)) : ∃ a vs, v = .ref a ∧ SqT K s.H a vs ∧ RepA K s vs ds := by
  cases h with
  | tup h r => exact ⟨_, _, rfl, SqT.ofR h, r⟩
/-! ### + - * // % ** -/
def gAdd : D → D → Wd → R D := fun u v w => match u, v with
  | .int i, .int j => .ok (.int (i + j)) w
  | .str a, .str b => if a.length + b.length ≤ 16777216 then .ok (.str (a ++ b)) w else .stuck
  | .lst a, .lst b => if a.length + b.length ≤ 16777216 then .ok (.lst (a ++ b)) w else .stuck
  | .tup a, .tup b => if a.length + b.length ≤ 16777216 then .ok (.tup (a ++ b)) w else .stuck
  | _, _ => .stuck
def rAddI : R2 := rI0 fun i j => .int (i + j)
def rAddT : R2 := fun x y H Q => ∃ i j, x = .str i ∧ y = .str j ∧ i.length + j.length ≤ sizeLine ∧ Q (.str (i ++ j)) H
theorem op_addA : OpR X (binaryOp .Add) (fun x y H Q => rAddI x y H Q ∨ (rAddT x y H Q ∨ (rCat x y H Q ∨ rCatA X.K x y H Q))) := OpR.or op_add (OpR.or op_add_str (OpR.or op_cat op_catA))
theorem gr_add : GR K cl gAdd (fun x y H Q => rAddI x y H Q ∨ (rAddT x y H Q ∨ (rCat x y H Q ∨ rCatA K x y H Q))) := by
  intro EK s x y u v Q ok ru rv p
  unfold gAdd at p
  split at p
  · rename_i i j
    rw [rep_int ru, rep_int rv]
    exact .inl ⟨i, j, rfl, rfl, post_here ok p (.int _)⟩
  · rename_i a b
    rw [rep_str ru, rep_str rv]
    split at p
    · exact .inr (.inl ⟨a, b, rfl, rfl, (by rw [sizeLine_eq]; assumption), post_here ok p (.str _)⟩)
    · exact p.elim
  · rename_i a b
    obtain ⟨l, vs, rfl, _, h1, r1⟩ := rep_lst ru
    obtain ⟨l2, vs2, rfl, _, h2, r2⟩ := rep_lst rv
    split at p
    · rename_i hl
      exact .inr (.inr (.inl ⟨l, l2, vs, vs2, rfl, rfl, h1, h2, by rw [r1.length, r2.length, sizeLine_eq]; exact hl, post_newL ok p (r1.append r2)⟩))
    · exact p.elim
  · rename_i a b
    have ru' := ru
    have rv' := rv
    obtain ⟨l, vs, rfl, h1, r1⟩ := rep_tup ru
    obtain ⟨l2, vs2, rfl, h2, r2⟩ := rep_tup rv
    split at p
    · rename_i hl
      refine .inr (.inr (.inr ⟨l, l2, vs, vs2, rfl, rfl, h1, h2, by rw [r1.length, r2.length, sizeLine_eq]; exact hl, fun e => ?_, fun _ e => ?_, fun _ _ => post_newT ok p (r1.append r2)⟩))
      · subst e
        cases r1
        exact post_here ok p rv'
      · subst e
        cases r2
        rw [List.append_nil] at p
        exact post_here ok p ru'
    · exact p.elim
  · exact p.elim
def gSub : D → D → Wd → R D := fun u v w => match u, v with
  | .int i, .int j => .ok (.int (i - j)) w
  | _, _ => .stuck
def rSubI : R2 := rI0 fun i j => .int (i - j)
theorem gr_sub : GR K cl gSub rSubI := by
  intro EK s x y u v Q ok ru rv p
  unfold gSub at p
  split at p
  · rename_i i j
    rw [rep_int ru, rep_int rv]
    exact ⟨i, j, rfl, rfl, post_here ok p (.int _)⟩
  · exact p.elim
/-- a text taken n times -/
def strMul (x : Str) (n : Int) : Str := ⟨(List.replicate n.toNat x.cps.toList).flatten.toArray⟩
def rMulT : R2 := fun x y H Q => ∃ (i : Str) (n : Int), x = .str i ∧ y = .int n ∧ 0 ≤ n ∧ n ≤ 1000 ∧ i.length ≤ 1000 ∧ Q (.str (strMul i n)) H
theorem txt_mul {x : Str} {n : Int} (h0 : 0 ≤ n) : Txt.mul x n = strMul x n := by
  have fold : ∀ (k : Nat) (acc : Array Nat), (List.replicate k x.cps).foldl (· ++ ·) acc = (acc.toList ++ (List.replicate k x.cps.toList).flatten).toArray := by
    intro k
    induction k with
    | zero => intro acc; simp
    | succ k ih =>
      intro acc
      rw [List.replicate_succ, List.foldl_cons, ih, List.replicate_succ, List.flatten_cons]
      simp
  unfold Txt.mul strMul
  by_cases h1 : n < 1
  · have e : n = 0 := by omega
    subst e
    rfl
  · rw [if_neg h1]
    split
    · rename_i h
      rw [Bool.or_eq_true] at h
      rcases h with h | h
      · have e : n = 1 := by simpa using h
        subst e
        obtain ⟨c⟩ := x
        show _ = (⟨(List.replicate 1 c.toList).flatten.toArray⟩ : Str)
        simp
      · have e : x.cps = #[] := by
          have : x.cps.size = 0 := by simpa [Str.length] using h
          exact Array.eq_empty_of_size_eq_zero this
        obtain ⟨c⟩ := x
        simp only at e
        subst e
        have z : ∀ k : Nat, (List.replicate k ([] : List Nat)).flatten = [] := by
          intro k; induction k with
          | zero => rfl
          | succ k ih => rw [List.replicate_succ, List.flatten_cons, ih]; rfl
        show _ = (⟨(List.replicate n.toNat ([] : List Nat)).flatten.toArray⟩ : Str)
        rw [z]
    · rw [fold]
      simp
theorem op_mulT : OpR X (binaryOp .Mult) rMulT := by
  intro pins s σ H x y v u Q I rx ry h
  obtain ⟨i, n, rfl, rfl, h0, h1, h2, q⟩ := h
  obtain ⟨t, rfl⟩ := rx
  obtain ⟨t2, rfl⟩ := ry
  refine SB.mul ⟨?_, fun hn _ z => ?_, fun _ _ => ?_⟩ fun t' k => ?_
  · rw [Bool.or_eq_false_iff]
    exact ⟨decide_eq_false (by omega), decide_eq_false (by omega)⟩
  ·
    have a1 : (1000 : Int) ≤ (2 ^ 63 - 1 : Int) / n := by
      rw [Int.le_ediv_iff_mul_le (by omega)]
      omega
    omega
  · have : i.length * n.toNat ≤ 1000 * 1000 := Nat.mul_le_mul h2 (by omega)
    unfold Builtin.Str.tooLong
    exact decide_eq_false (by have e := sizeLine_eq; omega)
  · rw [txt_mul h0]
    exact ⟨.str _, H, I.tok _, ⟨_, rfl⟩, q⟩
def gMul : D → D → Wd → R D := fun u v w => match u, v with
  | .int i, .int j => if ((-(2 ^ 64) < i ∧ i < 2 ^ 64) ∨ (-(2 ^ 64) < j ∧ j < 2 ^ 64)) ∨ i.natAbs.log2 + j.natAbs.log2 < 1000000 then .ok (.int (i * j)) w else .stuck
  | .str a, .int n => if 0 ≤ n ∧ n ≤ 1000 ∧ a.length ≤ 1000 then .ok (.str (strMul a n)) w else .stuck
  | .lst a, .int n => if 0 ≤ n ∧ n ≤ 1000 ∧ a.length ≤ 1000 then .ok (.lst (List.replicate n.toNat a).flatten) w else .stuck
  | .tup a, .int n => if 2 ≤ n ∧ n ≤ 1000 ∧ (a.length ≤ 1000 ∧ 1 ≤ a.length) then .ok (.tup (List.replicate n.toNat a).flatten) w else .stuck
  | _, _ => .stuck
theorem RepA.rep {s : S} {vs : List V} {ds : List D} (h : RepA K s vs ds) : ∀ n : Nat, RepA K s (List.replicate n vs).flatten (List.replicate n ds).flatten
  | 0 => .nil
  | n + 1 => by
    rw [List.replicate_succ, List.replicate_succ, List.flatten_cons, List.flatten_cons]
    exact h.append (RepA.rep h n)
theorem rep_lt {l : Nat} {n : Int} (h0 : 0 ≤ n) (h : n ≤ 1000) (hl : l ≤ 1000) : l * n.toNat ≤ sizeLine := by
  have : l * n.toNat ≤ 1000 * 1000 := Nat.mul_le_mul hl (by omega)
  have e := sizeLine_eq
  omega
def rMulI : R2 := rI (fun i j => CMul i j ∨ CMulW i j) fun i j => .int (i * j)
theorem op_mulB : OpR X (binaryOp .Mult) rMulI := opI fun _ _ _ _ _ _ _ hc q => mul_int q (hc.elim CMul.ok CMulW.ok)
theorem op_mulA : OpR X (binaryOp .Mult) (fun x y H Q => rMulI x y H Q ∨ (rMulT x y H Q ∨ (rRep x y H Q ∨ rRepT X.K x y H Q))) := OpR.or op_mulB (OpR.or op_mulT (OpR.or op_rep op_repT))
theorem gr_mul : GR K cl gMul (fun x y H Q => rMulI x y H Q ∨ (rMulT x y H Q ∨ (rRep x y H Q ∨ rRepT K x y H Q))) := by
  intro EK s x y u v Q ok ru rv p
  unfold gMul at p
  split at p
  · rename_i i j
    rw [rep_int ru, rep_int rv]
    split at p
    · rename_i h
      exact .inl ⟨i, j, rfl, rfl, h, post_here ok p (.int _)⟩
    · exact p.elim
  · rename_i i j
    rw [rep_str ru, rep_int rv]
    split at p
    · rename_i h
      exact .inr (.inl ⟨i, j, rfl, rfl, h.1, h.2.1, h.2.2, post_here ok p (.str _)⟩)
    · exact p.elim
  · rename_i a j
    obtain ⟨l, vs, rfl, _, h1, r1⟩ := rep_lst ru
    rw [rep_int rv]
    split at p
    · rename_i h
      exact .inr (.inr (.inl ⟨l, j, vs, rfl, rfl, h1, by omega, by omega, by rw [r1.length]; exact rep_lt h.1 h.2.1 h.2.2, post_newL ok p (r1.rep _)⟩))
    · exact p.elim
  · rename_i a j
    obtain ⟨l, vs, rfl, h1, r1⟩ := rep_tup ru
    rw [rep_int rv]
    split at p
    · rename_i h
      refine .inr (.inr (.inr ⟨l, j, vs, rfl, rfl, h1, fun e => ?_, h.1, h.2.1, by rw [r1.length]; exact h.2.2.1, post_newT ok p (r1.rep _)⟩))
      have := r1.length
      rw [e] at this
      have := h.2.2.2
      simp only [List.length_nil] at *
      omega
    · exact p.elim
  · exact p.elim
def gDiv : D → D → Wd → R D := fun u v w => match u, v with
  | .int i, .int j => if 0 < j ∧ j.natAbs.log2 < 9000 then .ok (.int (i / j)) w else .stuck
  | _, _ => .stuck
theorem gr_div : GR K cl gDiv (rI CDivW fun i j => .int (i / j)) := by
  intro EK s x y u v Q ok ru rv p
  unfold gDiv at p
  split at p
  · rename_i i j
    rw [rep_int ru, rep_int rv]
    split at p
    · rename_i h
      exact ⟨i, j, rfl, rfl, h, post_here ok p (.int _)⟩
    · exact p.elim
  · exact p.elim
def gMod : D → D → Wd → R D := fun u v w => match u, v with
  | .int i, .int j => if 0 < j then .ok (.int (i % j)) w else .stuck
  | _, _ => .stuck
theorem gr_mod : GR K cl gMod (rI (fun _ j => 0 < j) fun i j => .int (i % j)) := by
  intro EK s x y u v Q ok ru rv p
  unfold gMod at p
  split at p
  · rename_i i j
    rw [rep_int ru, rep_int rv]
    split at p
    · rename_i h
      exact ⟨i, j, rfl, rfl, h, post_here ok p (.int _)⟩
    · exact p.elim
  · exact p.elim
def gPow : D → D → Wd → R D := fun u v w => match u, v with
  | .int i, .int j => if 0 ≤ j ∧ j ≤ 1000000 ∧ i.natAbs < 2 ^ 64 then .ok (.int (i ^ j.toNat)) w else .stuck
  | _, _ => .stuck
theorem gr_pow : GR K cl gPow (rI CPow fun i j => .int (i ^ j.toNat)) := by
  intro EK s x y u v Q ok ru rv p
  unfold gPow at p
  split at p
  · rename_i i j
    rw [rep_int ru, rep_int rv]
    split at p
    · rename_i h
      exact ⟨i, j, rfl, rfl, h, post_here ok p (.int _)⟩
    · exact p.elim
  · exact p.elim
/-! ### order of numbers -/
def gOrd (f : Int → Int → Bool) : D → D → Wd → R D := fun u v w => match u, v with
  | .int i, .int j => .ok (.bl (f i j)) w
  | _, _ => .stuck
theorem gr_ord (f : Int → Int → Bool) : GR K cl (gOrd f) (rI0 fun i j => .bl (f i j)) := by
  intro EK s x y u v Q ok ru rv p
  unfold gOrd at p
  split at p
  · rename_i i j
    rw [rep_int ru, rep_int rv]
    exact ⟨i, j, rfl, rfl, post_here ok p (.bl _)⟩
  · exact p.elim
def gLt := gOrd fun i j => decide (i < j)
def gLe := gOrd fun i j => decide (i ≤ j)
def gGt := gOrd fun i j => decide (j < i)
def gGe := gOrd fun i j => decide (j ≤ i)
theorem gr_lt : GR K cl gLt (rI0 fun i j => .bl (decide (i < j))) := gr_ord _
theorem gr_le : GR K cl gLe (rI0 fun i j => .bl (decide (i ≤ j))) := gr_ord _
theorem gr_gt : GR K cl gGt (rI0 fun i j => .bl (decide (j < i))) := gr_ord _
theorem gr_ge : GR K cl gGe (rI0 fun i j => .bl (decide (j ≤ i))) := gr_ord _
/-! ### None -/
def isNon : D → Bool
  | .non => true
  | _ => false
def gIsN : D → D → Wd → R D := fun u v w => match v with
  | .non => .ok (.bl (isNon u)) w
  | _ => .stuck
def gNotN : D → D → Wd → R D := fun u v w => match v with
  | .non => .ok (.bl (!isNon u)) w
  | _ => .stuck
theorem rep_isN {s : S} {x : V} {u : D} (ru : Rep K s x u) : decide (x = V.non) = isNon u := by
  cases ru <;> first | rfl | exact decide_eq_false (fun z => nomatch z)
def rIsNN : R2 := fun x y H Q => y = .non ∧ Q (.bl (decide (x = .non))) H
def rNotNN : R2 := fun x y H Q => y = .non ∧ Q (.bl (!decide (x = .non))) H
theorem gr_isN : GR K cl gIsN rIsNN := by
  intro EK s x y u v Q ok ru rv p
  unfold gIsN at p
  split at p
  · cases rv
    refine ⟨rfl, ?_⟩
    rw [rep_isN ru]
    exact post_here ok p (.bl _)
  · exact p.elim
theorem gr_notN : GR K cl gNotN rNotNN := by
  intro EK s x y u v Q ok ru rv p
  unfold gNotN at p
  split at p
  · cases rv
    refine ⟨rfl, ?_⟩
    rw [rep_isN ru]
    exact post_here ok p (.bl _)
  · exact p.elim
/-! ### a cell's list, looked at -/
/-- all cells as if they never changed any more: what is only read may be read so -/
def S.all (s : S) : S := ⟨fun a => s.F a ∨ a ∈ s.ρ, s.ρ, s.w, s.H⟩
mutual
theorem Rep.all {s : S} : ∀ {v : V} {d : D}, Rep K s v d → Rep K s.all v d
  | _, _, .non => .non
  | _, _, .bl b => .bl b
  | _, _, .int i => .int i
  | _, _, .str x => .str x
  | _, _, .lst hF h r => .lst (.inl hF) h (RepA.all r)
  | _, _, .tup h r => .tup (h.imp (fun q => ⟨.inl q.1, q.2⟩) id) (RepA.all r)
  | _, _, .obj h => .obj h
  | _, _, .scr h => .scr (h.imp (fun q => ⟨.inl q.1, q.2⟩) id)
theorem RepA.all {s : S} : ∀ {vs : List V} {ds : List D}, RepA K s vs ds → RepA K s.all vs ds
  | _, _, .nil => .nil
  | _, _, .cons h r => .cons (Rep.all h) (RepA.all r)
end
/-- a cell that holds a list, as that list -/
def dl (u : D) (w : Wd) : D := match u with
  | .obj n => match w[n]? with
    | some (.lst ds) => .lst ds
    | _ => u
  | _ => u
theorem rep_dl {s : S} {v : V} {u : D} (ok : Ok K cl s) (r : Rep K s v u) : Rep K s.all v (dl u s.w) := by
  unfold dl
  split
  · rename_i n
    split
    · rename_i ds hw
      cases r with
      | obj hn =>
        obtain ⟨vs, h1, h2⟩ := ok.cell _ _ _ hn hw
        exact .lst (.inr (List.mem_of_getElem? hn)) h1 h2.all
    · exact r.all
  · exact r.all
/-! ### equal, in -/
mutual
def D.py : D → PyData
  | .non => .none
  | .bl b => .bool b
  | .int i => .int i
  | .str s => .str s
  | .lst xs => .list (pyA xs)
  | .tup xs => .tuple (pyA xs)
  | .obj _ => .none
  | .scr _ => .none
def pyA : List D → List PyData
  | [] => []
  | x :: r => x.py :: pyA r
end
mutual
/-- no cell within -/
def D.pure : D → Bool
  | .non | .bl _ | .int _ | .str _ => true
  | .lst xs => pureA xs
  | .tup xs => pureA xs
  | .obj _ => false
  | .scr _ => false
def pureA : List D → Bool
  | [] => true
  | x :: r => x.pure && pureA r
end
mutual
theorem Rep.dp {s : S} : ∀ {v : V} {d : D}, Rep K s v d → d.pure = true → Dp K s.H v d.py
  | _, _, .non, _ => .non
  | _, _, .bl b, _ => .bl b
  | _, _, .int i, _ => .int i
  | _, _, .str x, _ => .str x
  | _, _, .lst _ h r, p => by rw [D.py]; rw [D.pure] at p; exact .lst (.inl (.inl h)) (RepA.dp r p)
  | _, _, .tup h r, p => by rw [D.py]; rw [D.pure] at p; exact .tup (SqT.ofR h) (RepA.dp r p)
  | _, _, .obj _, p => by rw [D.pure] at p; cases p
  | _, _, .scr _, p => by rw [D.pure] at p; cases p
theorem RepA.dp {s : S} : ∀ {vs : List V} {ds : List D}, RepA K s vs ds → pureA ds = true → DpAll K s.H vs (pyA ds)
  | _, _, .nil, _ => .nil
  | _, _, .cons h r, p => by rw [pureA, Bool.and_eq_true] at p; rw [pyA]; exact .cons (h.dp p.1) (RepA.dp r p.2)
end
def okD (d : D) : Bool := d.pure && SeqAt.shaped d.py
/-- two scalars of kinds that are compared at once -/
def scEq : D → D → Option Bool
  | .non, .non => some true
  | .int i, .int j => some (decide (i = j))
  | .bl i, .bl j => some (decide (i = j))
  | .str i, .str j => some (decide (i = j))
  | .non, .int _ | .int _, .non | .non, .bl _ | .bl _, .non | .non, .str _ | .str _, .non => some false
  | .int _, .str _ | .str _, .int _ | .bl _, .str _ | .str _, .bl _ => some false
  | _, _ => none
def gEq : D → D → Wd → R D := fun u v w => match scEq u v with
  | some b => .ok (.bl b) w
  | none => if okD (dl u w) && okD (dl v w) then .ok (.bl (PyData.eqv (dl u w).py (dl v w).py)) w else .stuck
def gNe : D → D → Wd → R D := fun u v w => match scEq u v with
  | some b => .ok (.bl (!b)) w
  | none => if okD (dl u w) && okD (dl v w) then .ok (.bl (!PyData.eqv (dl u w).py (dl v w).py)) w else .stuck
theorem scEq_of {s : S} {x y : V} {u v : D} {b : Bool} (ru : Rep K s x u) (rv : Rep K s y v) (h : scEq u v = some b) : scal x y = true ∧ decide (x = y) = b := by
  unfold scEq at h
  split at h <;> first | (cases h) | skip
  all_goals (cases ru; cases rv)
  all_goals (refine ⟨rfl, ?_⟩)
  all_goals first
    | rfl
    | exact decide_eq_false (fun z => nomatch z)
    | (rename_i i j; by_cases e : i = j
       · rw [decide_eq_true e, decide_eq_true (by rw [e])]
       · rw [decide_eq_false e, decide_eq_false (fun z => e (by injection z))])
theorem op_eqA (hu : X.A.units + 64 < cLine) : OpR X (compareOp .Eq) (fun x y H Q => rEq x y H Q ∨ rEqD X.K x y H Q) := OpR.or op_eq (op_eqD hu)
theorem op_neA (hu : X.A.units + 64 < cLine) : OpR X (compareOp .NotEq) (fun x y H Q => rNe x y H Q ∨ rNeD X.K x y H Q) := OpR.or op_ne (op_neD hu)
theorem okD_of {d : D} (h : okD d = true) : d.pure = true ∧ SeqAt.shaped d.py = true := (Bool.and_eq_true _ _).mp h
theorem gr_eq : GR K cl gEq (fun x y H Q => rEq x y H Q ∨ rEqD K x y H Q) := by
  intro EK s x y u v Q ok ru rv p
  unfold gEq at p
  split at p
  · rename_i b hb
    obtain ⟨h1, h2⟩ := scEq_of ru rv hb
    exact .inl ⟨h1, by rw [h2]; exact post_here ok p (.bl _)⟩
  · split at p
    · rename_i h
      obtain ⟨h1, h2⟩ := (Bool.and_eq_true _ _).mp h
      obtain ⟨a1, a2⟩ := okD_of h1
      obtain ⟨b1, b2⟩ := okD_of h2
      exact .inr ⟨_, _, (rep_dl ok ru).dp a1, (rep_dl ok rv).dp b1, a2, b2, post_here ok p (.bl _)⟩
    · exact p.elim
theorem gr_ne : GR K cl gNe (fun x y H Q => rNe x y H Q ∨ rNeD K x y H Q) := by
  intro EK s x y u v Q ok ru rv p
  unfold gNe at p
  split at p
  · rename_i b hb
    obtain ⟨h1, h2⟩ := scEq_of ru rv hb
    exact .inl ⟨h1, by rw [h2]; exact post_here ok p (.bl _)⟩
  · split at p
    · rename_i h
      obtain ⟨h1, h2⟩ := (Bool.and_eq_true _ _).mp h
      obtain ⟨a1, a2⟩ := okD_of h1
      obtain ⟨b1, b2⟩ := okD_of h2
      exact .inr ⟨_, _, (rep_dl ok ru).dp a1, (rep_dl ok rv).dp b1, a2, b2, post_here ok p (.bl _)⟩
    · exact p.elim
def flatD : D → Bool
  | .non | .bl _ | .int _ | .str _ => true
  | _ => false
def eqF : D → D → Bool
  | .non, .non => true
  | .bl a, .bl b => a == b
  | .bl a, .int b => (if a then 1 else 0) == b
  | .int a, .bl b => a == (if b then 1 else 0)
  | .int a, .int b => a == b
  | .str a, .str b => a == b
  | _, _ => false
theorem flat_of {s : S} {v : V} {d : D} (r : Rep K s v d) (h : flatD d = true) : flatV v = true := by
  cases r <;> first | rfl | (exact absurd (show false = true from h) Bool.false_ne_true)
theorem eqF_of {s : S} {v x : V} {d e : D} (r : Rep K s v d) (q : Rep K s x e) (h1 : flatD d = true) (h2 : flatD e = true) : eqV v x = eqF d e := by
  cases r <;> first | skip | (exact absurd (show false = true from h1) Bool.false_ne_true)
  all_goals (cases q <;> first | rfl | (exact absurd (show false = true from h2) Bool.false_ne_true))
theorem flatA_of {s : S} : ∀ {vs : List V} {ds : List D}, RepA K s vs ds → ds.all flatD = true → vs.all flatV = true
  | _, _, .nil, _ => rfl
  | _, _, .cons h r, p => by
    rw [List.all_cons, Bool.and_eq_true] at p
    rw [List.all_cons, flat_of h p.1, flatA_of r p.2]
    rfl
theorem inF_of {s : S} {x : V} {u : D} (q : Rep K s x u) (h2 : flatD u = true) : ∀ {vs : List V} {ds : List D}, RepA K s vs ds → ds.all flatD = true → inV x vs = ds.any fun d => eqF d u
  | _, _, .nil, _ => rfl
  | _, _, .cons h r, p => by
    rw [List.all_cons, Bool.and_eq_true] at p
    have ih := inF_of q h2 r p.2
    unfold inV at ih ⊢
    rw [List.any_cons, List.any_cons, eqF_of h q p.1 h2, ih]
/-- u in v -/
def inD : D → D → Option Bool := fun u v => match v with
  | .str z => match u with
    | .str a => if a.cps.size = 1 then some (decide (a.cps.getD 0 0 ∈ z.cps.toList)) else none
    | _ => none
  | .tup ds => if flatD u && ds.all flatD then some (ds.any fun d => eqF d u) else none
  | .lst ds => if flatD u && ds.all flatD then some (ds.any fun d => eqF d u) else if okD u && okD (.lst ds) then some (ds.any fun d => PyData.eqv d.py u.py) else none
  | _ => none
def gIn : D → D → Wd → R D := fun u v w => match inD (dl u w) (dl v w) with
  | some b => .ok (.bl b) w
  | none => .stuck
def gNotIn : D → D → Wd → R D := fun u v w => match inD (dl u w) (dl v w) with
  | some b => .ok (.bl (!b)) w
  | none => .stuck
def rInS (neg : Bool) : R2 := fun x y H Q => ∃ (c : Nat) (z : Str), x = .str ⟨#[c]⟩ ∧ y = .str z ∧ Q (.bl (if neg then !decide (c ∈ z.cps.toList) else decide (c ∈ z.cps.toList))) H
def rInDD (K : PySem.W.Frag) (neg : Bool) : R2 := fun x y H Q => ∃ d ds, Dp K H x d ∧ Dp K H y (.list ds) ∧ SeqAt.shaped d = true ∧ SeqAt.shaped (.list ds) = true ∧ Q (.bl (if neg then !(ds.any fun z => PyData.eqv z d) else ds.any fun z => PyData.eqv z d)) H
theorem op_inA (hu : X.A.units + 65 < cLine) : OpR X (compareOp .In) (fun x y H Q => rInS false x y H Q ∨ (rIn X.K false x y H Q ∨ rInDD X.K false x y H Q)) := OpR.or op_in_sign (OpR.or op_in_seq (op_inD hu))
theorem op_notInA (hu : X.A.units + 65 < cLine) : OpR X (compareOp .NotIn) (fun x y H Q => rInS true x y H Q ∨ (rIn X.K true x y H Q ∨ rInDD X.K true x y H Q)) := OpR.or op_notIn_sign (OpR.or op_notIn_seq (op_notInD hu))
theorem any_py (u : PyData) : ∀ ds : List D, (pyA ds).any (fun z => PyData.eqv z u) = ds.any fun d => PyData.eqv d.py u
  | [] => by rw [pyA]; rfl
  | d :: r => by rw [pyA, List.any_cons, List.any_cons, any_py u r]
theorem in_core {s : S} {x y : V} {u v : D} {b : Bool} {Q : VK} (neg : Bool) (ru : Rep K s x u) (rv : Rep K s y v) (h : inD u v = some b) (q : Q (.bl (if neg then !b else b)) s.H) :
    rInS neg x y s.H Q ∨ (rIn K neg x y s.H Q ∨ rInDD K neg x y s.H Q) := by
  have fl : ∀ {ds : List D} {p : Addr} {vs : List V}, RepA K s vs ds → (SqL K s.H p vs ∨ SqT K s.H p vs) → flatD u = true → ds.all flatD = true → b = (ds.any fun d => eqF d u) → rIn K neg x (.ref p) s.H Q := by
    intro ds p vs r hp f1 f2 e
    refine ⟨p, vs, rfl, hp, flat_of ru f1, flatA_of r f2, ?_⟩
    rw [inF_of ru f1 r f2, ← e]
    exact q
  unfold inD at h
  split at h
  · rename_i z
    split at h
    · rename_i a
      split at h
      · rename_i h1
        rw [rep_str ru, rep_str rv]
        have ea : a = ⟨#[a.cps.getD 0 0]⟩ := by
          obtain ⟨c⟩ := a
          obtain ⟨l⟩ := c
          match l, h1 with
          | [k], _ => rfl
        refine .inl ⟨a.cps.getD 0 0, z, congrArg V.str ea, rfl, ?_⟩
        cases h
        exact q
      · cases h
    · cases h
  · rename_i ds
    split at h
    · rename_i h1
      obtain ⟨f1, f2⟩ := (Bool.and_eq_true _ _).mp h1
      obtain ⟨a, vs, rfl, ht, r⟩ := rep_tup rv
      exact .inr (.inl (fl r (.inr ht) f1 f2 (Option.some.inj h).symm))
    · cases h
  · rename_i ds
    split at h
    · rename_i h1
      obtain ⟨f1, f2⟩ := (Bool.and_eq_true _ _).mp h1
      obtain ⟨a, vs, rfl, _, ht, r⟩ := rep_lst rv
      exact .inr (.inl (fl r (.inl (SqL.of ht)) f1 f2 (Option.some.inj h).symm))
    · split at h
      · rename_i h1
        obtain ⟨h2, h3⟩ := (Bool.and_eq_true _ _).mp h1
        obtain ⟨a1, a2⟩ := okD_of h2
        obtain ⟨b1, b2⟩ := okD_of h3
        have d2 := rv.dp b1
        rw [D.py] at d2 b2
        refine .inr (.inr ⟨_, _, ru.dp a1, d2, a2, b2, ?_⟩)
        rw [any_py, Option.some.inj h]
        exact q
      · cases h
  · cases h
theorem gr_in : GR K cl gIn (fun x y H Q => rInS false x y H Q ∨ (rIn K false x y H Q ∨ rInDD K false x y H Q)) := by
  intro EK s x y u v Q ok ru rv p
  unfold gIn at p
  split at p
  · rename_i b hb
    have q0 : Q (V.bl b) s.H := post_here ok p (.bl _)
    exact in_core (s := s.all) false (rep_dl ok ru) (rep_dl ok rv) hb q0
  · exact p.elim
theorem gr_notIn : GR K cl gNotIn (fun x y H Q => rInS true x y H Q ∨ (rIn K true x y H Q ∨ rInDD K true x y H Q)) := by
  intro EK s x y u v Q ok ru rv p
  unfold gNotIn at p
  split at p
  · rename_i b hb
    have q0 : Q (V.bl (!b)) s.H := post_here ok p (.bl _)
    exact in_core (s := s.all) true (rep_dl ok ru) (rep_dl ok rv) hb q0
  · exact p.elim
end
end Si

set_option Elab.async false
set_option linter.all false
set_option autoImplicit false
set_option maxRecDepth 100000
set_option maxHeartbeats 4000000
/-! Si4: chains, tests, displays, subscripts, built-ins, calls of own defs. -/
namespace Si
open PySem L2
section
variable {K : PySem.W.Frag} {cl : Str → Option Addr} {s s1 : S} {EK : XK}
/-- what follows, cut in two -/
theorem post_bind {α β α' β' : Type} {rep : S → β → α → Prop} {rep' : S → β' → α' → Prop} {r : R α} {k : α → Wd → R α'} {Q : β' → Hp → Prop} {Q1 : β → Hp → Prop} (p : Post K cl rep' EK s (r.bind k) Q)
    (h : ∀ s' v a, Ext s s' → Ok K cl s' → rep s' v a → Post K cl rep' EK s' (k a s'.w) Q → Q1 v s'.H) : Post K cl rep EK s r Q1 := by
  cases r with
  | ok a w =>
    intro s' v e ok' hw rv
    refine h s' v a e ok' rv ?_
    rw [hw]
    exact Post.ext e p
  | err c fs w => exact p
  | stuck => exact p
theorem tG_of {α β : Type} {rep : S → β → α → Prop} {m : En → Wd → R α} {σ : L2.St} {σd : En} {Q : β → Hp → Prop} (ok : Ok K cl s) (re : RepE K s σ σd) (p : Post K cl rep EK s (m σd s.w) Q) : tG K cl rep EK m σ s.H Q := ⟨s, σd, rfl, ok, re, p⟩
/-- the list that a value is or that stands in its cell -/
def derefL (u : D) (w : Wd) : Option (List D) := match u with
  | .lst ds => some ds
  | .obj n => match w[n]? with
    | some (.lst ds) => some ds
    | _ => none
  | _ => none
theorem deref_of {v : V} {u : D} {ds : List D} (ok : Ok K cl s) (r : Rep K s v u) (h : derefL u s.w = some ds) : ∃ a vs, v = .ref a ∧ s.H a = some (.lst vs) ∧ RepA K s vs ds := by
  unfold derefL at h
  split at h
  · cases h
    obtain ⟨a, vs, e, _, h1, h2⟩ := rep_lst r
    exact ⟨a, vs, e, h1, h2⟩
  · rename_i n
    split at h
    · rename_i ds' hw
      cases h
      cases r with
      | obj hn =>
        obtain ⟨vs, h1, h2⟩ := ok.cell n _ _ hn hw
        exact ⟨_, vs, rfl, h1, h2⟩
    · cases h
  · cases h
/-! ### truth -/
def truD (u : D) (w : Wd) : Option Bool := match u with
  | .non => some false
  | .bl b => some b
  | .int i => some (i != 0)
  | .str z => if z.length ≤ 16777216 then some ((z.length : Int) != 0) else none
  | .lst ds => some (!ds.isEmpty)
  | .tup ds => some (!ds.isEmpty)
  | .obj n => match w[n]? with
    | some (.lst ds) => some (!ds.isEmpty)
    | _ => none
  | .scr _ => none
theorem empty_of {vs : List V} {ds : List D} (r : RepA K s vs ds) : (!vs.isEmpty) = !ds.isEmpty := by cases r <;> rfl
theorem tru_of {v : V} {u : D} {k : Bool} (ok : Ok K cl s) (r : Rep K s v u) (h : truD u s.w = some k) : TruV K v s.H k := by
  cases r with
  | non => exact (Option.some.inj h).symm
  | bl b => exact (Option.some.inj h).symm
  | int i => exact (Option.some.inj h).symm
  | str z =>
    unfold truD at h
    dsimp only at h
    split at h
    · rename_i hz
      exact ⟨by rw [sizeLine_eq]; exact hz, (Option.some.inj h).symm⟩
    · cases h
  | lst hF hH rr => exact .inl ⟨_, SqL.of hH, by rw [empty_of rr]; exact (Option.some.inj h).symm⟩
  | tup hH rr => exact .inr (.inl ⟨_, SqT.ofR hH, by rw [empty_of rr]; exact (Option.some.inj h).symm⟩)
  | obj hn =>
    rename_i a n
    unfold truD at h
    dsimp only at h
    split at h
    · rename_i ds hw
      obtain ⟨vs, h1, h2⟩ := ok.cell n _ _ hn hw
      exact .inl ⟨_, SqL.of h1, by rw [empty_of h2]; exact (Option.some.inj h).symm⟩
    · cases h
  | scr _ => cases h
end
def mChain (g g' : D → D → Wd → R D) (ma mb mc : En → Wd → R D) : En → Wd → R D := fun σd w => (ma σd w).bind fun u w1 => (mb σd w1).bind fun v w2 => (g u v w2).bind fun z w3 => match z with
  | .bl true => (mc σd w3).bind fun x w4 => g' v x w4
  | .bl false => .ok (.bl false) w3
  | _ => .stuck
def mAnd (ma mb : En → Wd → R D) : En → Wd → R D := fun σd w => (ma σd w).bind fun u w1 => match truD u w1 with
  | some true => mb σd w1
  | some false => .ok u w1
  | none => .stuck
def mOr (ma mb : En → Wd → R D) : En → Wd → R D := fun σd w => (ma σd w).bind fun u w1 => match truD u w1 with
  | some true => .ok u w1
  | some false => mb σd w1
  | none => .stuck
def mNot (ma : En → Wd → R D) : En → Wd → R D := fun σd w => (ma σd w).bind fun u w1 => match truD u w1 with
  | some b => .ok (.bl (!b)) w1
  | none => .stuck
def mTru (ma : En → Wd → R D) : En → Wd → R Bool := fun σd w => (ma σd w).bind fun u w1 => match truD u w1 with
  | some b => .ok b w1
  | none => .stuck
def bAnd (ma mb : En → Wd → R Bool) : En → Wd → R Bool := fun σd w => (ma σd w).bind fun b w1 => match b with | true => mb σd w1 | false => .ok false w1
def bOr (ma mb : En → Wd → R Bool) : En → Wd → R Bool := fun σd w => (ma σd w).bind fun b w1 => match b with | true => .ok true w1 | false => mb σd w1
def bNot (ma : En → Wd → R Bool) : En → Wd → R Bool := fun σd w => (ma σd w).bind fun b w1 => .ok (!b) w1
def mIf (mc : En → Wd → R Bool) (ma mb : En → Wd → R D) : En → Wd → R D := fun σd w => (mc σd w).bind fun b w1 => match b with | true => ma σd w1 | false => mb σd w1
def mNeg (ma : En → Wd → R D) : En → Wd → R D := fun σd w => (ma σd w).bind fun u w1 => match u with | .int i => .ok (.int (-i)) w1 | _ => .stuck
def aNil : En → Wd → R (List D) := fun _ w => .ok [] w
def aCons (ma : En → Wd → R D) (mr : En → Wd → R (List D)) : En → Wd → R (List D) := fun σd w => (ma σd w).bind fun u w1 => (mr σd w1).bind fun us w2 => .ok (u :: us) w2
def mTup (ma : En → Wd → R (List D)) : En → Wd → R D := fun σd w => (ma σd w).bind fun us w1 => if us.length ≤ 16777216 then .ok (.tup us) w1 else .stuck
def mLst (ma : En → Wd → R (List D)) : En → Wd → R D := fun σd w => (ma σd w).bind fun us w1 => if us.length ≤ 16777216 then .ok (.lst us) w1 else .stuck
/-- a list that will change: a cell -/
def mLstM (ma : En → Wd → R (List D)) : En → Wd → R D := fun σd w => (ma σd w).bind fun us w1 => if us.length ≤ 16777216 then .ok (.obj w1.length) (w1 ++ [.lst us]) else .stuck
section
variable {X : Cx} {cl : Str → Option Addr} {EK : XK} {a b c : Expr} {ma mb mc : En → Wd → R D} {na nb nc : En → Wd → R Bool} {pos : Pos} {g g' : D → D → Wd → R D} {r r' : R2} {rest es : List Expr}
theorem chain_core (hr : GR X.K cl g r) (hr' : GR X.K cl g' r') {σ : L2.St} {H : Hp} {Q : VK} (h : tG X.K cl (Rep X.K) EK (mChain g g' ma mb mc) σ H Q) :
    tChain r r' (tG X.K cl (Rep X.K) EK ma) (tG X.K cl (Rep X.K) EK mb) (tG X.K cl (Rep X.K) EK mc) σ H Q :=
  tG_imp (tG_bind h) fun x H1 hk => tG_imp (tK_bind rep_mono hk) fun y H2 ⟨s, σd, u, v, e, ok, re, ru, rv, p⟩ => by
    subst e
    refine hr EK s x y u v _ ok ru rv (post_bind p fun s' z d ex ok' rz p' => ?_)
    cases rz with
    | bl k =>
      refine ⟨k, rfl, ?_⟩
      cases k with
      | true =>
        exact iteT (tG_imp (tK_bind (k := fun v x σd w => g' v x w) (m := mc) rep_mono ⟨s', σd, v, rfl, ok', re.mono ok ex, rv.mono ok ex, p'⟩) fun z' H4 ⟨s2, σ2, v2, x2, e2, ok2, _, r2, r3, p2⟩ => by
          subst e2
          exact hr' EK s2 y z' v2 x2 Q ok2 r2 r3 p2)
      | false => exact iteF (post_here ok' p' (.bl false))
    | _ => exact p'.elim
theorem se_chain {op op' : CmpOp} (ho : OpR X (compareOp op) r) (ho' : OpR X (compareOp op') r') (hr : GR X.K cl g r) (hr' : GR X.K cl g' r') (ha : SE X cl EK a ma) (hb : SE X cl EK b mb) (hc : SE X cl EK c mc)
    (hm : lastMarks [op, op'] [b, c] = false := by with_unfolding_all rfl) : SE X cl EK (.Compare a [op, op'] [b, c] pos) (mChain g g' ma mb mc) :=
  PE.weak (pe_chain ho ho' ha hb hc hm) fun σ H Q h => chain_core hr hr' h
theorem post_asB {s : S} {r : R D} {Q : Bool → Hp → Prop} (p : Post X.K cl repB EK s (r.bind fun d w1 => match d with | .bl b => .ok b w1 | _ => .stuck) Q) : Post X.K cl (Rep X.K) EK s r fun x H' => ∃ k, x = .bl k ∧ Q k H' :=
  post_bind p fun s' v d ex ok' rd p' => by
    cases rd with
    | bl k => exact ⟨k, rfl, p' s' k (Ext.refl s') ok' rfl rfl⟩
    | _ => exact p'.elim
theorem st_chain {op op' : CmpOp} (ho : OpR X (compareOp op) r) (ho' : OpR X (compareOp op') r') (hr : GR X.K cl g r) (hr' : GR X.K cl g' r') (ha : SE X cl EK a ma) (hb : SE X cl EK b mb) (hc : SE X cl EK c mc)
    (hm : lastMarks [op, op'] [b, c] = false := by with_unfolding_all rfl) : ST X cl EK (.Compare a [op, op'] [b, c] pos) (asB (mChain g g' ma mb mc)) :=
  PT.weak (pt_chain ho ho' ha hb hc hm) fun σ H Q ⟨s, σd, e, ok, re, p⟩ => by
    subst e
    exact chain_core hr hr' ⟨s, σd, rfl, ok, re, post_asB p⟩
theorem se_one {op} (ha : SE X cl EK a ma) : SE X cl EK (.BoolOp op [a] pos) ma := pe_one ha
theorem se_and (ha : SE X cl EK a ma) (hb : SE X cl EK (.BoolOp .And (b :: rest) pos) mb) : SE X cl EK (.BoolOp .And (a :: b :: rest) pos) (mAnd ma mb) :=
  PE.weak (pe_andT ha hb) fun σ H Q h => tG_imp (tG_bind h) fun x H1 ⟨s, σd, u, e, ok, re, ru, p⟩ => by
    subst e
    dsimp only at p
    split at p
    · rename_i e2
      exact ⟨true, tru_of ok ru e2, iteT (tG_of ok re p)⟩
    · rename_i e2
      exact ⟨false, tru_of ok ru e2, iteF (post_here ok p ru)⟩
    · exact p.elim
theorem se_or (ha : SE X cl EK a ma) (hb : SE X cl EK (.BoolOp .Or (b :: rest) pos) mb) : SE X cl EK (.BoolOp .Or (a :: b :: rest) pos) (mOr ma mb) :=
  PE.weak (pe_orT ha hb) fun σ H Q h => tG_imp (tG_bind h) fun x H1 ⟨s, σd, u, e, ok, re, ru, p⟩ => by
    subst e
    dsimp only at p
    split at p
    · rename_i e2
      exact ⟨true, tru_of ok ru e2, iteT (post_here ok p ru)⟩
    · rename_i e2
      exact ⟨false, tru_of ok ru e2, iteF (tG_of ok re p)⟩
    · exact p.elim
theorem se_not (ha : SE X cl EK a ma) : SE X cl EK (.UnaryOp .Not a pos) (mNot ma) :=
  PE.weak (pe_notT ha) fun σ H Q h => tG_imp (tG_bind h) fun x H1 ⟨s, σd, u, e, ok, re, ru, p⟩ => by
    subst e
    dsimp only at p
    split at p
    · rename_i k e2
      exact ⟨k, tru_of ok ru e2, post_here ok p (.bl _)⟩
    · exact p.elim
theorem se_neg (ha : SE X cl EK a ma) : SE X cl EK (.UnaryOp .USub a pos) (mNeg ma) :=
  PE.weak (pe_un un_neg ha) fun σ H Q h => tG_imp (tG_bind h) fun x H1 ⟨s, σd, u, e, ok, re, ru, p⟩ => by
    subst e
    dsimp only at p
    split at p
    · rename_i i
      rw [rep_int ru]
      exact ⟨i, rfl, post_here ok p (.int _)⟩
    · exact p.elim
theorem st_truth (ha : SE X cl EK a ma) (he : ∀ whole, isTrue a X.env whole = (do let v ← whole; standAt a.pos; holding [v] (truthy v))) : ST X cl EK a (mTru ma) :=
  PT.weak (pt_truth ha he) fun σ H Q h => tG_imp (tG_bind h) fun x H1 ⟨s, σd, u, e, ok, re, ru, p⟩ => by
    subst e
    dsimp only at p
    split at p
    · rename_i k e2
      exact ⟨k, tru_of ok ru e2, p s k (Ext.refl s) ok rfl rfl⟩
    · exact p.elim
/-- a test within and, or -/
def SW (X : Cx) (cl : Str → Option Addr) (EK : XK) (e : Expr) (m : En → Wd → R Bool) : Prop := PW X e (tG X.K cl repB EK m)
theorem PW.weak {e : Expr} {t t' : TT} (h : PW X e t) (i : ∀ σ H Q, t' σ H Q → t σ H Q) : PW X e t' := ⟨fun wh pins s σ H Q I q => h.run wh pins s σ H Q I (i σ H Q q)⟩
theorem st_of {e : Expr} (h : SW X cl EK e na) : ST X cl EK e na := PW.pt h
theorem sw_and1 (ha : ST X cl EK a na) : SW X cl EK (.BoolOp .And [a] pos) na := pw_and1 ha
theorem sw_or1 (ha : ST X cl EK a na) : SW X cl EK (.BoolOp .Or [a] pos) na := pw_or1 ha
theorem tB_core {σ : L2.St} {H : Hp} {Q : Bool → Hp → Prop} {k : Bool → En → Wd → R Bool} {T : Bool → L2.St → Hp → Prop} (h : tG X.K cl repB EK (fun σd w => (na σd w).bind fun b w1 => k b σd w1) σ H Q)
    (i : ∀ b s σd, Ok X.K cl s → RepE X.K s σ σd → Post X.K cl repB EK s (k b σd s.w) Q → T b σ s.H) : tG X.K cl repB EK na σ H fun b H1 => T b σ H1 :=
  tG_imp (tG_bind h) fun x H1 ⟨s, σd, u, e, ok, re, ru, p⟩ => by
    subst e
    cases ru
    exact i x s σd ok re p
theorem sw_and (ha : ST X cl EK a na) (hb : SW X cl EK (.BoolOp .And (b :: rest) pos) nb) : SW X cl EK (.BoolOp .And (a :: b :: rest) pos) (bAnd na nb) :=
  PW.weak (pw_and ha hb) fun σ H Q h => tB_core (k := fun b σd w => match b with | true => nb σd w | false => .ok false w) (T := fun c σ H1 => if c = true then tG X.K cl repB EK nb σ H1 Q else Q false H1) h fun k s σd ok re p => by
    cases k with
    | true => exact iteT (tG_of ok re p)
    | false => exact iteF (p s false (Ext.refl s) ok rfl rfl)
theorem sw_or (ha : ST X cl EK a na) (hb : SW X cl EK (.BoolOp .Or (b :: rest) pos) nb) : SW X cl EK (.BoolOp .Or (a :: b :: rest) pos) (bOr na nb) :=
  PW.weak (pw_or ha hb) fun σ H Q h => tB_core (k := fun b σd w => match b with | true => .ok true w | false => nb σd w) (T := fun c σ H1 => if c = true then Q true H1 else tG X.K cl repB EK nb σ H1 Q) h fun k s σd ok re p => by
    cases k with
    | true => exact iteT (p s true (Ext.refl s) ok rfl rfl)
    | false => exact iteF (tG_of ok re p)
theorem st_not (ha : ST X cl EK a na) : ST X cl EK (.UnaryOp .Not a pos) (bNot na) :=
  PT.weak (pt_not ha) fun σ H Q h => tB_core (k := fun b σd w => .ok (!b) w) (T := fun c σ H1 => Q (!c) H1) h fun k s σd ok re p => p s (!k) (Ext.refl s) ok rfl rfl
theorem se_if (hc : ST X cl EK c nc) (ha : SE X cl EK a ma) (hb : SE X cl EK b mb) : SE X cl EK (.IfExp c a b pos) (mIf nc ma mb) :=
  PE.weak (pe_ifExp hc ha hb) fun σ H Q h => tG_imp (tG_bind (rep := repB) h) fun x H1 ⟨s, σd, u, e, ok, re, ru, p⟩ => by
    subst e
    cases ru
    cases x with
    | true => exact iteT (tG_of ok re p)
    | false => exact iteF (tG_of ok re p)
/-! ### argument lists, displays -/
variable {mas : En → Wd → R (List D)}
theorem sa_nil : SA X cl EK [] aNil := PA.weak pa_nil fun σ H Q h => by
  obtain ⟨s, σd, e, ok, re, p⟩ := h
  subst e
  exact p s [] (Ext.refl s) ok rfl .nil
theorem sa_cons (ha : SE X cl EK a ma) (hr : SA X cl EK es mas) (hs : starEach (a :: es) X.env = (false, eval a X.env) :: starEach es X.env := by rfl) : SA X cl EK (a :: es) (aCons ma mas) :=
  PA.weak (pa_cons ha hr hs) fun σ H Q h => tG_imp (tG_bind h) fun x H1 hk => tG_imp (tK_bind rep_mono hk) fun y H2 ⟨s, σd, u, v, e, ok, re, ru, rv, p⟩ => by
    subst e
    exact p s (x :: y) (Ext.refl s) ok rfl (.cons ru rv)
theorem se_tup {k : Nat} (h : SA X cl EK es mas) : SE X cl EK (.Tuple es k pos) (mTup mas) :=
  PE.weak (pe_tup h) fun σ H Q h => tG_imp (tG_bind h) fun x H1 ⟨s, σd, u, e, ok, re, ru, p⟩ => by
    subst e
    dsimp only at p
    split at p
    · rename_i hl
      exact ⟨by rw [ru.length, sizeLine_eq]; exact hl, post_newT ok p ru⟩
    · exact p.elim
theorem se_lst (h : SA X cl EK es mas) : SE X cl EK (.List es pos) (mLst mas) :=
  PE.weak (pe_lst h) fun σ H Q h => tG_imp (tG_bind h) fun x H1 ⟨s, σd, u, e, ok, re, ru, p⟩ => by
    subst e
    dsimp only at p
    split at p
    · rename_i hl
      exact ⟨by rw [ru.length, sizeLine_eq]; exact hl, post_newL ok p ru⟩
    · exact p.elim
theorem rep_cell {s : S} {q : Addr} {o : HO} {m : MO} (ok : Ok X.K cl s) : Rep X.K (s.cell q o m) (.ref q) (.obj s.w.length) := .obj (by
  show (s.ρ ++ [q])[s.w.length]? = some q
  rw [← ok.len, List.getElem?_append_right (Nat.le_refl _), Nat.sub_self]
  rfl)
theorem post_cellL {s : S} {vs : List V} {ds : List D} {Q : VK} (ok : Ok X.K cl s) (p : Post X.K cl (Rep X.K) EK s (.ok (.obj s.w.length) (s.w ++ [.lst ds])) Q) (r : RepA X.K s vs ds) : ∀ q, s.H q = none → Q (.ref q) (upd s.H q (.lst vs)) := fun q hq => by
  have ex : Ext s (s.cell q (.lst vs) (.lst ds)) := S.cell_ext ok hq
  exact p (s.cell q (.lst vs) (.lst ds)) _ ex (S.cell_ok ok hq ⟨vs, upd_same, r.mono ok ex⟩) rfl (rep_cell ok)
theorem se_lstM (h : SA X cl EK es mas) : SE X cl EK (.List es pos) (mLstM mas) :=
  PE.weak (pe_lst h) fun σ H Q h => tG_imp (tG_bind h) fun x H1 ⟨s, σd, u, e, ok, re, ru, p⟩ => by
    subst e
    dsimp only at p
    split at p
    · rename_i hl
      exact ⟨by rw [ru.length, sizeLine_eq]; exact hl, post_cellL ok p ru⟩
    · exact p.elim
end
end Si

set_option Elab.async false
set_option linter.all false
set_option autoImplicit false
set_option maxRecDepth 100000
set_option maxHeartbeats 4000000
/-! Si5: subscripts, slices, built-ins, isinstance. -/
namespace Si
open PySem L2
section
variable {K : PySem.W.Frag} {cl : Str → Option Addr} {s : S} {EK : XK}
/-! ### a[i] -/
def gIx : D → D → Wd → R D := fun u v w => match v with
  | .int i => match u with
    | .str z => if z.length ≤ 16777216 then (match atI z.cps.toList i with | some c => .ok (.str ⟨#[c]⟩) w | none => .stuck) else .stuck
    | .tup ds => match atI ds i with | some d => .ok d w | none => .stuck
    | u => match derefL u w with
      | some ds => match atI ds i with | some d => .ok d w | none => .stuck
      | none => .stuck
  | _ => .stuck
theorem atI_rep {vs : List V} {ds : List D} {i : Int} {d : D} (r : RepA K s vs ds) (h : atI ds i = some d) : ∃ v, atI vs i = some v ∧ Rep K s v d := by
  unfold atI at h ⊢
  rw [r.length]
  cases e : ixN ds.length i with
  | none => rw [e] at h; cases h
  | some j =>
    rw [e] at h
    obtain ⟨v, a, b⟩ := r.get (i := j) h
    exact ⟨v, a, b⟩
theorem gr_ix : GR K cl gIx (rIx K) := by
  intro EK s x y u v Q ok ru rv p
  unfold gIx at p
  split at p
  · rename_i i
    rw [rep_int rv]
    split at p
    · rename_i z
      rw [rep_str ru]
      split at p
      · rename_i hz
        split at p
        · rename_i c hc
          exact .inr (.inr ⟨z, i, c, rfl, rfl, by rw [sizeLine_eq]; exact hz, hc, post_here ok p (.str _)⟩)
        · exact p.elim
      · exact p.elim
    · rename_i ds
      obtain ⟨a, vs, rfl, h1, r⟩ := rep_tup ru
      split at p
      · rename_i d hd
        obtain ⟨w, h2, h3⟩ := atI_rep r hd
        exact .inr (.inl ⟨a, vs, i, w, rfl, rfl, h1, h2, post_here ok p h3⟩)
      · exact p.elim
    · split at p
      · rename_i ds hl
        obtain ⟨a, vs, rfl, h1, r⟩ := deref_of ok ru hl
        split at p
        · rename_i d hd
          obtain ⟨w, h2, h3⟩ := atI_rep r hd
          exact .inl ⟨a, vs, i, w, rfl, rfl, SqL.of h1, h2, post_here ok p h3⟩
        · exact p.elim
      · exact p.elim
  · exact p.elim
/-! ### a[i:j] -/
def cutD {α : Type} (xs : List α) (lo hi : Option Int) : List α := (xs.drop (HT.sIx xs.length 0 lo)).take (HT.sIx xs.length xs.length hi - HT.sIx xs.length 0 lo)
theorem cut_rep {vs : List V} {ds : List D} (r : RepA K s vs ds) (lo hi : Option Int) : RepA K s (cutV vs lo hi) (cutD ds lo hi) := by
  unfold cutV cutD
  rw [r.length]
  exact (r.drop _).take _
def gSl : D → Option Int → Option Int → Wd → R D := fun u lo hi w => match u with
  | .str z => if z.length ≤ 16777216 then .ok (.str (cutS z lo hi)) w else .stuck
  | .tup ds => .ok (.tup (cutD ds lo hi)) w
  | .scr ns => .ok (.lst ((cutD ns lo hi).map D.int)) w
  | u => match derefL u w with
    | some ds => .ok (.lst (cutD ds lo hi)) w
    | none => .stuck
def rSl (K : PySem.W.Frag) : V → Option Int → Option Int → Hp → VK → Prop := fun x lo hi H Q => rSlL K x lo hi H Q ∨ (rSlA K x lo hi H Q ∨ rSlS x lo hi H Q)
theorem repA_ints (ns : List Int) : RepA K s (ns.map V.int) (ns.map D.int) := by
  induction ns with
  | nil => exact .nil
  | cons n r ih => exact .cons (.int n) ih
theorem cut_all {α : Type} {xs : List α} {lo hi : Option Int} (h : HT.sIx xs.length 0 lo = 0 ∧ HT.sIx xs.length xs.length hi = xs.length) : cutD xs lo hi = xs := by
  unfold cutD
  rw [h.1, h.2, List.drop_zero, Nat.sub_zero, List.take_length]
theorem sl_core {x : V} {u : D} {lo hi : Option Int} {Q : VK} (ok : Ok K cl s) (ru : Rep K s x u) (p : Post K cl (Rep K) EK s (gSl u lo hi s.w) Q) : rSl K x lo hi s.H Q := by
  unfold gSl at p
  split at p
  · rename_i z
    rw [rep_str ru]
    split at p
    · rename_i hz
      exact .inr (.inr ⟨z, rfl, by rw [sizeLine_eq]; exact hz, post_here ok p (.str _)⟩)
    · exact p.elim
  · rename_i ds
    have ru' := ru
    obtain ⟨a, vs, rfl, h1, r⟩ := rep_tup ru
    refine .inr (.inl ⟨a, vs, rfl, h1, fun hw => ?_, fun _ => post_newT ok p (cut_rep r lo hi)⟩)
    rw [r.length] at hw
    rw [cut_all hw] at p
    exact post_here ok p ru'
  · rename_i ns
    cases ru with
    | scr hH =>
      refine .inl ⟨_, ns.map V.int, rfl, SqL.ofS hH, ?_⟩
      have e : cutV (ns.map V.int) lo hi = (cutD ns lo hi).map V.int := by
        unfold cutV cutD
        rw [List.length_map, ← List.map_drop, ← List.map_take]
      rw [e]
      exact post_newL ok p (repA_ints _)
  · split at p
    · rename_i ds hl
      obtain ⟨a, vs, rfl, h1, r⟩ := deref_of ok ru hl
      exact .inl ⟨a, vs, rfl, SqL.of h1, post_newL ok p (cut_rep r lo hi)⟩
    · exact p.elim
/-! ### built-ins -/
def GC (K : PySem.W.Frag) (cl : Str → Option Addr) (g : List D → Wd → R D) (r : List V → Hp → VK → Prop) : Prop :=
  ∀ (EK : XK) (s : S) (xs : List V) (us : List D) (Q : VK), Ok K cl s → RepA K s xs us → Post K cl (Rep K) EK s (g us s.w) Q → r xs s.H Q
theorem repA1 {xs : List V} {u : D} (r : RepA K s xs [u]) : ∃ x, xs = [x] ∧ Rep K s x u := by
  cases r with
  | cons h r => cases r; exact ⟨_, rfl, h⟩
theorem repA2 {xs : List V} {u v : D} (r : RepA K s xs [u, v]) : ∃ x y, xs = [x, y] ∧ Rep K s x u ∧ Rep K s y v := by
  cases r with
  | cons h r =>
    obtain ⟨y, rfl, h2⟩ := repA1 r
    exact ⟨_, y, rfl, h, h2⟩
def gLen : List D → Wd → R D := fun us w => match us with
  | [.str z] => if z.length ≤ 16777216 then .ok (.int z.length) w else .stuck
  | [.tup ds] => .ok (.int ds.length) w
  | [u] => match derefL u w with
    | some ds => .ok (.int ds.length) w
    | none => .stuck
  | _ => .stuck
def rLn (K : PySem.W.Frag) : List V → Hp → VK → Prop := fun xs H Q => ∃ x n, xs = [x] ∧ LenV K x H n ∧ Q (.int n) H
theorem gc_len : GC K cl gLen (rLn K) := by
  intro EK s xs us Q ok r p
  unfold gLen at p
  split at p
  · rename_i z
    obtain ⟨x, rfl, h⟩ := repA1 r
    rw [rep_str h]
    split at p
    · rename_i hz
      exact ⟨_, _, rfl, ⟨by rw [sizeLine_eq]; exact hz, rfl⟩, post_here ok p (.int _)⟩
    · exact p.elim
  · rename_i ds
    obtain ⟨x, rfl, h⟩ := repA1 r
    obtain ⟨a, vs, rfl, h1, r1⟩ := rep_tup h
    exact ⟨_, ds.length, rfl, .inr ⟨vs, h1, r1.length.symm⟩, post_here ok p (.int _)⟩
  · rename_i u _ _
    obtain ⟨x, rfl, h⟩ := repA1 r
    split at p
    · rename_i ds hl
      obtain ⟨a, vs, rfl, h1, r1⟩ := deref_of ok h hl
      exact ⟨_, ds.length, rfl, .inl ⟨vs, SqL.of h1, r1.length.symm⟩, post_here ok p (.int _)⟩
    · exact p.elim
  · exact p.elim
def gInt : List D → Wd → R D := fun us w => match us with
  | [.int i] => .ok (.int i) w
  | [.bl k] => .ok (.int (if k then 1 else 0)) w
  | _ => .stuck
def rInt1 : List V → Hp → VK → Prop := fun xs H Q => (∃ i, xs = [.int i] ∧ Q (.int i) H) ∨ ∃ k, xs = [.bl k] ∧ Q (.int (if k then 1 else 0)) H
theorem gc_int : GC K cl gInt rInt1 := by
  intro EK s xs us Q ok r p
  unfold gInt at p
  split at p
  · obtain ⟨x, rfl, h⟩ := repA1 r
    rw [rep_int h]
    exact .inl ⟨_, rfl, post_here ok p (.int _)⟩
  · obtain ⟨x, rfl, h⟩ := repA1 r
    rw [rep_bl h]
    exact .inr ⟨_, rfl, post_here ok p (.int _)⟩
  · exact p.elim
def gAbs : List D → Wd → R D := fun us w => match us with
  | [.int i] => .ok (.int (if i < 0 then -i else i)) w
  | _ => .stuck
def rAbs1 : List V → Hp → VK → Prop := fun xs H Q => ∃ i, xs = [.int i] ∧ Q (.int (if i < 0 then -i else i)) H
theorem gc_abs : GC K cl gAbs rAbs1 := by
  intro EK s xs us Q ok r p
  unfold gAbs at p
  split at p
  · obtain ⟨x, rfl, h⟩ := repA1 r
    rw [rep_int h]
    exact ⟨_, rfl, post_here ok p (.int _)⟩
  · exact p.elim
def gMax2 : List D → Wd → R D := fun us w => match us with
  | [.int i, .int j] => .ok (.int (if j > i then j else i)) w
  | _ => .stuck
def gMin2 : List D → Wd → R D := fun us w => match us with
  | [.int i, .int j] => .ok (.int (if j < i then j else i)) w
  | _ => .stuck
def rMx2 : List V → Hp → VK → Prop := fun xs H Q => ∃ i j, xs = [.int i, .int j] ∧ Q (.int (if j > i then j else i)) H
def rMn2 : List V → Hp → VK → Prop := fun xs H Q => ∃ i j, xs = [.int i, .int j] ∧ Q (.int (if j < i then j else i)) H
theorem gc_max2 : GC K cl gMax2 rMx2 := by
  intro EK s xs us Q ok r p
  unfold gMax2 at p
  split at p
  · obtain ⟨x, y, rfl, h, h2⟩ := repA2 r
    rw [rep_int h, rep_int h2]
    exact ⟨_, _, rfl, post_here ok p (.int _)⟩
  · exact p.elim
theorem gc_min2 : GC K cl gMin2 rMn2 := by
  intro EK s xs us Q ok r p
  unfold gMin2 at p
  split at p
  · obtain ⟨x, y, rfl, h, h2⟩ := repA2 r
    rw [rep_int h, rep_int h2]
    exact ⟨_, _, rfl, post_here ok p (.int _)⟩
  · exact p.elim
/-- list(..), tuple(..) of a list or tuple: new ones -/
def gTupOf : List D → Wd → R D := fun us w => match us with
  | [.tup ds] => .ok (.tup ds) w
  | [u] => match derefL u w with
    | some ds => .ok (.tup ds) w
    | none => .stuck
  | _ => .stuck
def rTupOf (K : PySem.W.Frag) : List V → Hp → VK → Prop := fun xs H Q => ∃ p ys, xs = [.ref p] ∧ ((SqL K H p ys ∧ ∀ l, H l = none → Q (.ref l) (upd H l (.tup ys))) ∨ (SqT K H p ys ∧ Q (.ref p) H))
theorem gc_tupOf : GC K cl gTupOf (rTupOf K) := by
  intro EK s xs us Q ok r p
  unfold gTupOf at p
  split at p
  · obtain ⟨x, rfl, h⟩ := repA1 r
    have h' := h
    obtain ⟨a, vs, rfl, h1, r1⟩ := rep_tup h
    exact ⟨a, vs, rfl, .inr ⟨h1, post_here ok p h'⟩⟩
  · obtain ⟨x, rfl, h⟩ := repA1 r
    split at p
    · rename_i ds hl
      obtain ⟨a, vs, rfl, h1, r1⟩ := deref_of ok h hl
      exact ⟨a, vs, rfl, .inl ⟨SqL.of h1, post_newT ok p r1⟩⟩
    · exact p.elim
  · exact p.elim
def seqD (u : D) (w : Wd) : Option (List D) := match u with
  | .tup ds => some ds
  | u => derefL u w
theorem seq_of {v : V} {u : D} {ds : List D} (ok : Ok K cl s) (r : Rep K s v u) (h : seqD u s.w = some ds) : ∃ a vs, v = .ref a ∧ (SqL K s.H a vs ∨ SqT K s.H a vs) ∧ RepA K s vs ds := by
  unfold seqD at h
  split at h
  · cases h
    obtain ⟨a, vs, e, h1, h2⟩ := rep_tup r
    exact ⟨a, vs, e, .inr h1, h2⟩
  · obtain ⟨a, vs, e, h1, h2⟩ := deref_of ok r h
    exact ⟨a, vs, e, .inl (SqL.of h1), h2⟩
def gLstOf : List D → Wd → R D := fun us w => match us with
  | [u] => match seqD u w with
    | some ds => .ok (.lst ds) w
    | none => .stuck
  | _ => .stuck
def gLstOfM : List D → Wd → R D := fun us w => match us with
  | [u] => match seqD u w with
    | some ds => .ok (.obj w.length) (w ++ [.lst ds])
    | none => .stuck
  | _ => .stuck
def rLstOf (K : PySem.W.Frag) : List V → Hp → VK → Prop := fun xs H Q => ∃ p ys, xs = [.ref p] ∧ (SqL K H p ys ∨ SqT K H p ys) ∧ ∀ l, H l = none → Q (.ref l) (upd H l (.lst ys))
theorem gc_lstOf : GC K cl gLstOf (rLstOf K) := by
  intro EK s xs us Q ok r p
  unfold gLstOf at p
  split at p
  · obtain ⟨x, rfl, h⟩ := repA1 r
    split at p
    · rename_i ds hl
      obtain ⟨a, vs, rfl, h1, r1⟩ := seq_of ok h hl
      exact ⟨a, vs, rfl, h1, post_newL ok p r1⟩
    · exact p.elim
  · exact p.elim
/-- all, any of a list of bools; sum of a list of ints -/
def blA : List D → Option (List Bool)
  | [] => some []
  | .bl b :: r => (blA r).map (b :: ·)
  | _ :: _ => none
def inA : List D → Option (List Int)
  | [] => some []
  | .int b :: r => (inA r).map (b :: ·)
  | _ :: _ => none
theorem blA_of : ∀ {vs : List V} {ds : List D} {bs : List Bool}, RepA K s vs ds → blA ds = some bs → vs = bs.map V.bl
  | _, _, _, .nil, h => by cases h; rfl
  | _, _, bs, .cons (d := d) h r, e => by
    cases h with
    | bl b =>
      rw [blA] at e
      cases q : blA _ with
      | none => rw [q] at e; cases e
      | some l =>
        rw [q] at e
        cases e
        rw [blA_of r q]
        rfl
    | _ => cases e
theorem inA_of : ∀ {vs : List V} {ds : List D} {bs : List Int}, RepA K s vs ds → inA ds = some bs → vs = bs.map V.int
  | _, _, _, .nil, h => by cases h; rfl
  | _, _, bs, .cons (d := d) h r, e => by
    cases h with
    | int b =>
      rw [inA] at e
      cases q : inA _ with
      | none => rw [q] at e; cases e
      | some l =>
        rw [q] at e
        cases e
        rw [inA_of r q]
        rfl
    | _ => cases e
def gAll : List D → Wd → R D := fun us w => match us with
  | [u] => match (derefL u w).bind blA with
    | some bs => .ok (.bl (bs.all id)) w
    | none => .stuck
  | _ => .stuck
def gAny : List D → Wd → R D := fun us w => match us with
  | [u] => match (derefL u w).bind blA with
    | some bs => .ok (.bl (bs.any id)) w
    | none => .stuck
  | _ => .stuck
def gSum : List D → Wd → R D := fun us w => match us with
  | [u] => match (derefL u w).bind inA with
    | some ns => .ok (.int ns.sum) w
    | none => .stuck
  | _ => .stuck
theorem bl_deref {v : V} {u : D} {bs : List Bool} (ok : Ok K cl s) (r : Rep K s v u) (h : (derefL u s.w).bind blA = some bs) : ∃ a, v = .ref a ∧ SqL K s.H a (bs.map V.bl) := by
  cases q : derefL u s.w with
  | none => rw [q] at h; cases h
  | some ds =>
    rw [q] at h
    obtain ⟨a, vs, e, h1, r1⟩ := deref_of ok r q
    rw [blA_of r1 h] at h1
    exact ⟨a, e, SqL.of h1⟩
theorem in_deref {v : V} {u : D} {bs : List Int} (ok : Ok K cl s) (r : Rep K s v u) (h : (derefL u s.w).bind inA = some bs) : ∃ a, v = .ref a ∧ SqL K s.H a (bs.map V.int) := by
  cases q : derefL u s.w with
  | none => rw [q] at h; cases h
  | some ds =>
    rw [q] at h
    obtain ⟨a, vs, e, h1, r1⟩ := deref_of ok r q
    rw [inA_of r1 h] at h1
    exact ⟨a, e, SqL.of h1⟩
theorem gc_all : GC K cl gAll (rAll K) := by
  intro EK s xs us Q ok r p
  unfold gAll at p
  split at p
  · obtain ⟨x, rfl, h⟩ := repA1 r
    split at p
    · rename_i bs hl
      obtain ⟨a, rfl, h1⟩ := bl_deref ok h hl
      exact ⟨a, bs, rfl, h1, post_here ok p (.bl _)⟩
    · exact p.elim
  · exact p.elim
theorem gc_any : GC K cl gAny (rAny K) := by
  intro EK s xs us Q ok r p
  unfold gAny at p
  split at p
  · obtain ⟨x, rfl, h⟩ := repA1 r
    split at p
    · rename_i bs hl
      obtain ⟨a, rfl, h1⟩ := bl_deref ok h hl
      exact ⟨a, bs, rfl, h1, post_here ok p (.bl _)⟩
    · exact p.elim
  · exact p.elim
theorem gc_sum : GC K cl gSum (rSum K) := by
  intro EK s xs us Q ok r p
  unfold gSum at p
  split at p
  · obtain ⟨x, rfl, h⟩ := repA1 r
    split at p
    · rename_i bs hl
      obtain ⟨a, rfl, h1⟩ := in_deref ok h hl
      exact ⟨a, bs, rfl, h1, post_here ok p (.int _)⟩
    · exact p.elim
  · exact p.elim
/-! ### isinstance with built-in types -/
def tyD (u : D) (w : Wd) : Option String := match u with
  | .non => some "NoneType"
  | .bl _ => some "bool"
  | .int _ => some "int"
  | .str _ => some "str"
  | .lst _ => some "list"
  | .tup _ => some "tuple"
  | .scr _ => some "list"
  | .obj n => match w[n]? with
    | some (.lst _) => some "list"
    | _ => none
def isB (t T : String) : Bool := t == T || (t == "bool" && T == "int")
theorem tyD_of {v : V} {u : D} {t : String} (ok : Ok K cl s) (r : Rep K s v u) (h : tyD u s.w = some t) : TyX K s.H v (.type t) := by
  cases r with
  | non => cases h; exact .base .non
  | bl b => cases h; exact .base (.bl b)
  | int i => cases h; exact .base (.int i)
  | str z => cases h; exact .base (.str z)
  | lst hF hH rr => cases h; exact .base (.lst hH)
  | tup hH rr =>
    cases h
    rcases hH with ⟨_, hH⟩ | ⟨o, its, n, h1, h2, _⟩
    · exact .base (.tup hH)
    · exact .kTuple h1 h2
  | obj hn =>
    rename_i a n
    unfold tyD at h
    dsimp only at h
    split at h
    · rename_i ds hw
      cases h
      obtain ⟨vs, h1, h2⟩ := ok.cell n _ _ hn hw
      exact .base (.lst h1)
    · cases h
  | scr hH =>
    cases h
    rcases hH with ⟨_, o, hH⟩ | ⟨o, its, n, h1, h2, _⟩
    · exact .base (.frz hH)
    · exact .kList h1 h2
theorem kit_isB {t : String} {u : D} {w : Wd} (h : tyD u w = some t) {T : String} (hT : T = "int" ∨ T = "bool" ∨ T = "str" ∨ T = "list" ∨ T = "tuple") : kitB t T = some (isB t T) := by
  have ht : t = "NoneType" ∨ t = "bool" ∨ t = "int" ∨ t = "str" ∨ t = "list" ∨ t = "tuple" := by
    unfold tyD at h
    split at h
    all_goals first
      | (cases h; simp; done)
      | (split at h <;> first | (cases h; simp; done) | (cases h; done))
  rcases ht with rfl | rfl | rfl | rfl | rfl | rfl <;> rcases hT with rfl | rfl | rfl | rfl | rfl <;> decide +kernel
end
def mIsi (T : String) (ma : En → Wd → R D) : En → Wd → R D := fun σd w => (ma σd w).bind fun u w1 => match tyD u w1 with
  | some t => .ok (.bl (isB t T)) w1
  | none => .stuck
def mIsi2 (T T2 : String) (ma : En → Wd → R D) : En → Wd → R D := fun σd w => (ma σd w).bind fun u w1 => match tyD u w1 with
  | some t => .ok (.bl (isB t T || isB t T2)) w1
  | none => .stuck
def mCall (g : List D → Wd → R D) (ma : En → Wd → R (List D)) : En → Wd → R D := fun σd w => (ma σd w).bind fun us w1 => g us w1
section
variable {X : Cx} {cl : Str → Option Addr} {EK : XK} {a b c : Expr} {ma mb mc : En → Wd → R D} {mas : En → Wd → R (List D)} {pos p : Pos} {es : List Expr} {g : List D → Wd → R D} {r : List V → Hp → VK → Prop} {x : Str} {id : String}
theorem se_ix (ha : SE X cl EK a ma) (hb : SE X cl EK b mb) (hs : PlainIx b) : SE X cl EK (.Subscript a b pos) (mOp gIx ma mb) := PE.weak (pe_ix ix_seq ha hb hs) fun σ H Q h => op_core gr_ix h
/-! the parts of a slice -/
abbrev repI : S → Option Int → Option Int → Prop := fun _ a b => a = b
def SO (X : Cx) (cl : Str → Option Addr) (EK : XK) (e : Option Expr) (m : En → Wd → R (Option Int)) : Prop := PO X e (tG X.K cl repI EK m)
theorem PO.weak {e : Option Expr} {t t' : TO} (h : PO X e t) (i : ∀ σ H Q, t' σ H Q → t σ H Q) : PO X e t' := ⟨fun pins s σ H Q I q => h.run pins s σ H Q I (i σ H Q q)⟩
def oNone : En → Wd → R (Option Int) := fun _ w => .ok none w
def oSome (ma : En → Wd → R D) : En → Wd → R (Option Int) := fun σd w => (ma σd w).bind fun u w1 => match u with | .int i => .ok (some i) w1 | _ => .stuck
theorem so_none : SO X cl EK none oNone := PO.weak po_none fun σ H Q h => by
  obtain ⟨s, σd, e, ok, re, p⟩ := h
  subst e
  exact p s none (Ext.refl s) ok rfl rfl
theorem so_some (ha : SE X cl EK a ma) : SO X cl EK (some a) (oSome ma) := PO.weak (po_some ha) fun σ H Q h => tG_imp (tG_bind h) fun x H1 ⟨s, σd, u, e, ok, re, ru, p⟩ => by
  subst e
  dsimp only at p
  split at p
  · rename_i i
    rw [rep_int ru]
    exact ⟨i, rfl, p s (some i) (Ext.refl s) ok rfl rfl⟩
  · exact p.elim
def mSl (ma : En → Wd → R D) (ml mh : En → Wd → R (Option Int)) : En → Wd → R D := fun σd w => (ma σd w).bind fun u w1 => (ml σd w1).bind fun lo w2 => (mh σd w2).bind fun hi w3 => gSl u lo hi w3
theorem sl_all : SlR X (rSl X.K) := SlR.or sl_list (SlR.or sl_tupA sl_str)
theorem se_slice {lo hi : Option Expr} {ml mh : En → Wd → R (Option Int)} {p2 : Pos} (ha : SE X cl EK a ma) (hl : SO X cl EK lo ml) (hh : SO X cl EK hi mh) : SE X cl EK (.Subscript a (.Slice lo hi none p2) pos) (mSl ma ml mh) :=
  PE.weak (pe_slice sl_all ha hl hh) fun σ H Q h => tG_imp (tG_bind h) fun x H1 hk => tG_imp (tK_bind (rep' := repI) rep_mono hk) fun l H2 ⟨s, σd, u, lo', e, ok, re, ru, rl, p⟩ => by
    subst e
    cases rl
    obtain ⟨s0, σ0, e0, ok0, re0, p0⟩ := tK_bind (rep := Rep X.K) (rep' := repI) (rep'' := Rep X.K) (k := fun u hi _ w => gSl u l hi w) (m := mh) rep_mono ⟨s, σd, u, rfl, ok, re, ru, p⟩
    refine ⟨s0, σ0, e0, ok0, re0, p0.imp fun h3 H3 ⟨s2, σ2, u2, hi2, e2, ok2, _, r2, r3, p2⟩ => ?_⟩
    subst e2
    cases r3
    exact sl_core ok2 r2 p2
/-! calls of built-ins -/
theorem se_call (hc : CallR X (.builtin id) r) (hr : GC X.K cl g r) (hg : Gl X x) (hm : X.mg x = none) (hv : bootBuiltins x = some (.builtin id)) (ha : SA X cl EK (a :: es) mas) (hn : x ≠ "__name__" := by decide) (hdb : (x == ("__debug__" : Str)) = false := by decide) (he : starEach (a :: es) X.env = (false, eval a X.env) :: starEach es X.env := by rfl) (hpl : (backTo pos (starEach es X.env)).any (·.1) = false := by rfl)
    : SE X cl EK (.Call (.Name x p) (a :: es) [] pos) (mCall g mas) :=
  PE.weak (pe_callB hc hg hm hv ha hn hdb he hpl) fun σ H Q h => tG_imp (tG_bind h) fun xs H1 ⟨s, σd, u, e, ok, re, ru, p⟩ => by
    subst e
    exact hr EK s xs u Q ok ru p
theorem se_callT (hc : CallR X (.type id) r) (hr : GC X.K cl g r) (hg : Gl X x) (hm : X.mg x = none) (hv : bootBuiltins x = some (.type id)) (ha : SA X cl EK (a :: es) mas) (hn : x ≠ "__name__" := by decide) (hdb : (x == ("__debug__" : Str)) = false := by decide) (he : starEach (a :: es) X.env = (false, eval a X.env) :: starEach es X.env := by rfl) (hpl : (backTo pos (starEach es X.env)).any (·.1) = false := by rfl)
    : SE X cl EK (.Call (.Name x p) (a :: es) [] pos) (mCall g mas) :=
  PE.weak (pe_callTy hc hg hm hv ha hn hdb he hpl) fun σ H Q h => tG_imp (tG_bind h) fun xs H1 ⟨s, σd, u, e, ok, re, ru, p⟩ => by
    subst e
    exact hr EK s xs u Q ok ru p
theorem se_len (hg : Gl X "len") (hm : X.mg "len" = none) (ha : SA X cl EK (a :: es) mas) (he : starEach (a :: es) X.env = (false, eval a X.env) :: starEach es X.env := by rfl) (hpl : (backTo pos (starEach es X.env)).any (·.1) = false := by rfl) : SE X cl EK (.Call (.Name "len" p) (a :: es) [] pos) (mCall gLen mas) := se_call call_len gc_len hg hm (by decide +kernel) ha (by decide) (by decide) he hpl
theorem se_all (hc : X.calm = true) (hg : Gl X "all") (hm : X.mg "all" = none) (ha : SA X cl EK (a :: es) mas) (he : starEach (a :: es) X.env = (false, eval a X.env) :: starEach es X.env := by rfl) (hpl : (backTo pos (starEach es X.env)).any (·.1) = false := by rfl) : SE X cl EK (.Call (.Name "all" p) (a :: es) [] pos) (mCall gAll mas) := se_call (cr_all hc) gc_all hg hm (by decide +kernel) ha (by decide) (by decide) he hpl
theorem se_any (hc : X.calm = true) (hg : Gl X "any") (hm : X.mg "any" = none) (ha : SA X cl EK (a :: es) mas) (he : starEach (a :: es) X.env = (false, eval a X.env) :: starEach es X.env := by rfl) (hpl : (backTo pos (starEach es X.env)).any (·.1) = false := by rfl) : SE X cl EK (.Call (.Name "any" p) (a :: es) [] pos) (mCall gAny mas) := se_call (cr_any hc) gc_any hg hm (by decide +kernel) ha (by decide) (by decide) he hpl
theorem se_sum (hc : X.calm = true) (hg : Gl X "sum") (hm : X.mg "sum" = none) (ha : SA X cl EK (a :: es) mas) (he : starEach (a :: es) X.env = (false, eval a X.env) :: starEach es X.env := by rfl) (hpl : (backTo pos (starEach es X.env)).any (·.1) = false := by rfl) : SE X cl EK (.Call (.Name "sum" p) (a :: es) [] pos) (mCall gSum mas) := se_call (cr_sum hc) gc_sum hg hm (by decide +kernel) ha (by decide) (by decide) he hpl
theorem se_absC (hg : Gl X "abs") (hm : X.mg "abs" = none) (ha : SA X cl EK (a :: es) mas) (he : starEach (a :: es) X.env = (false, eval a X.env) :: starEach es X.env := by rfl) (hpl : (backTo pos (starEach es X.env)).any (·.1) = false := by rfl) : SE X cl EK (.Call (.Name "abs" p) (a :: es) [] pos) (mCall gAbs mas) := se_call call_abs gc_abs hg hm (by decide +kernel) ha (by decide) (by decide) he hpl
theorem se_max2 (hc : X.calm = true) (hg : Gl X "max") (hm : X.mg "max" = none) (ha : SA X cl EK (a :: es) mas) (he : starEach (a :: es) X.env = (false, eval a X.env) :: starEach es X.env := by rfl) (hpl : (backTo pos (starEach es X.env)).any (·.1) = false := by rfl) : SE X cl EK (.Call (.Name "max" p) (a :: es) [] pos) (mCall gMax2 mas) := se_call (call_max2 hc) gc_max2 hg hm (by decide +kernel) ha (by decide) (by decide) he hpl
theorem se_min2 (hc : X.calm = true) (hg : Gl X "min") (hm : X.mg "min" = none) (ha : SA X cl EK (a :: es) mas) (he : starEach (a :: es) X.env = (false, eval a X.env) :: starEach es X.env := by rfl) (hpl : (backTo pos (starEach es X.env)).any (·.1) = false := by rfl) : SE X cl EK (.Call (.Name "min" p) (a :: es) [] pos) (mCall gMin2 mas) := se_call (call_min2 hc) gc_min2 hg hm (by decide +kernel) ha (by decide) (by decide) he hpl
theorem se_intC (hg : Gl X "int") (hm : X.mg "int" = none) (ha : SA X cl EK (a :: es) mas) (he : starEach (a :: es) X.env = (false, eval a X.env) :: starEach es X.env := by rfl) (hpl : (backTo pos (starEach es X.env)).any (·.1) = false := by rfl) : SE X cl EK (.Call (.Name "int" p) (a :: es) [] pos) (mCall gInt mas) := se_callT call_int1 gc_int hg hm (by decide +kernel) ha (by decide) (by decide) he hpl
theorem se_listC (hg : Gl X "list") (hm : X.mg "list" = none) (ha : SA X cl EK (a :: es) mas) (he : starEach (a :: es) X.env = (false, eval a X.env) :: starEach es X.env := by rfl) (hpl : (backTo pos (starEach es X.env)).any (·.1) = false := by rfl) : SE X cl EK (.Call (.Name "list" p) (a :: es) [] pos) (mCall gLstOf mas) := se_callT call_list_of gc_lstOf hg hm (by decide +kernel) ha (by decide) (by decide) he hpl
theorem se_tupleC (hg : Gl X "tuple") (hm : X.mg "tuple" = none) (ha : SA X cl EK (a :: es) mas) (he : starEach (a :: es) X.env = (false, eval a X.env) :: starEach es X.env := by rfl) (hpl : (backTo pos (starEach es X.env)).any (·.1) = false := by rfl) : SE X cl EK (.Call (.Name "tuple" p) (a :: es) [] pos) (mCall gTupOf mas) := se_callT call_tuple_of gc_tupOf hg hm (by decide +kernel) ha (by decide) (by decide) he hpl
theorem gc_lstOfM : GC X.K cl gLstOfM (rLstOf X.K) := by
  intro EK s xs us Q ok r p
  unfold gLstOfM at p
  split at p
  · obtain ⟨x, rfl, h⟩ := repA1 r
    split at p
    · rename_i ds hl
      obtain ⟨a, vs, rfl, h1, r1⟩ := seq_of ok h hl
      exact ⟨a, vs, rfl, h1, post_cellL ok p r1⟩
    · exact p.elim
  · exact p.elim
theorem se_listCM (hg : Gl X "list") (hm : X.mg "list" = none) (ha : SA X cl EK (a :: es) mas) (he : starEach (a :: es) X.env = (false, eval a X.env) :: starEach es X.env := by rfl) (hpl : (backTo pos (starEach es X.env)).any (·.1) = false := by rfl) : SE X cl EK (.Call (.Name "list" p) (a :: es) [] pos) (mCall gLstOfM mas) := se_callT call_list_of gc_lstOfM hg hm (by decide +kernel) ha (by decide) (by decide) he hpl
/-! isinstance -/
theorem se_isi {T : Str} {T' : String} {pT : Pos} (ha : SE X cl EK a ma) (hg : Gl X "isinstance") (hm : X.mg "isinstance" = none) (hgT : Gl X T) (hmT : X.mg T = none) (hv : bootBuiltins T = some (.type T')) (hT : T' = "int" ∨ T' = "bool" ∨ T' = "str" ∨ T' = "list" ∨ T' = "tuple")
    (hn : T ≠ "__name__" := by decide) (hd : (T == ("__debug__" : Str)) = false := by decide) (hs1 : starEach [a, .Name T pT] X.env = (false, eval a X.env) :: starEach [.Name T pT] X.env := by rfl) (hs2 : starEach [.Name T pT] X.env = (false, eval (.Name T pT) X.env) :: starEach [] X.env := by rfl) (hpl : (backTo pos (starEach [.Name T pT] X.env)).any (·.1) = false := by rfl) :
    SE X cl EK (.Call (.Name "isinstance" p) [a, .Name T pT] [] pos) (mIsi T' ma) :=
  PE.weak (pe_callB call_isi hg hm (by decide +kernel) (pa_cons ha (pa_cons (pe_bltn (v := .ty T') hgT hmT hv rfl hn hd) pa_nil hs2) hs1) (by decide) (by decide) hs1 hpl) fun σ H Q h => tG_imp (tG_bind h) fun xs H1 ⟨s, σd, u, e, ok, re, ru, p⟩ => by
    subst e
    dsimp only at p
    split at p
    · rename_i t ht
      exact ⟨xs, .ty T', .type t, .type T', _, rfl, .ty T', tyD_of ok ru ht, kit_ty (kit_isB ht hT), post_here ok p (.bl _)⟩
    · exact p.elim
theorem se_isi2 {T U : Str} {T' U' : String} {pT pU pp : Pos} {kk : Nat} (ha : SE X cl EK a ma) (hg : Gl X "isinstance") (hm : X.mg "isinstance" = none) (hgT : Gl X T) (hmT : X.mg T = none) (hv : bootBuiltins T = some (.type T')) (hT : T' = "int" ∨ T' = "bool" ∨ T' = "str" ∨ T' = "list" ∨ T' = "tuple")
    (hgU : Gl X U) (hmU : X.mg U = none) (hvU : bootBuiltins U = some (.type U')) (hU : U' = "int" ∨ U' = "bool" ∨ U' = "str" ∨ U' = "list" ∨ U' = "tuple")
    (hn : T ≠ "__name__" := by decide) (hd : (T == ("__debug__" : Str)) = false := by decide) (hnU : U ≠ "__name__" := by decide) (hdU : (U == ("__debug__" : Str)) = false := by decide)
    (hs1 : starEach [a, .Tuple [.Name T pT, .Name U pU] kk pp] X.env = (false, eval a X.env) :: starEach [.Tuple [.Name T pT, .Name U pU] kk pp] X.env := by rfl) (hs2 : starEach [.Tuple [.Name T pT, .Name U pU] kk pp] X.env = (false, eval (.Tuple [.Name T pT, .Name U pU] kk pp) X.env) :: starEach [] X.env := by rfl)
    (hs3 : starEach [.Name T pT, .Name U pU] X.env = (false, eval (.Name T pT) X.env) :: starEach [.Name U pU] X.env := by rfl) (hs4 : starEach [.Name U pU] X.env = (false, eval (.Name U pU) X.env) :: starEach [] X.env := by rfl) (hpl : (backTo pos (starEach [.Tuple [.Name T pT, .Name U pU] kk pp] X.env)).any (·.1) = false := by rfl) :
    SE X cl EK (.Call (.Name "isinstance" p) [a, .Tuple [.Name T pT, .Name U pU] kk pp] [] pos) (mIsi2 T' U' ma) :=
  PE.weak (pe_callB call_isiT hg hm (by decide +kernel) (pa_cons ha (pa_cons (pe_tup (pa_cons (pe_bltn (v := .ty T') hgT hmT hv rfl hn hd) (pa_cons (pe_bltn (v := .ty U') hgU hmU hvU rfl hnU hdU) pa_nil hs4) hs3)) pa_nil hs2) hs1) (by decide) (by decide) hs1 hpl) fun σ H Q h => tG_imp (tG_bind h) fun xs H1 ⟨s, σd, u, e, ok, re, ru, p⟩ => by
    subst e
    dsimp only at p
    split at p
    · rename_i t ht
      refine ⟨by rw [sizeLine_eq]; show 2 ≤ 16777216; decide, fun q hq => ?_⟩
      have ex : Ext s (s.frz q (.tup [.ty T', .ty U'])) := S.frz_ext hq
      have ok2 := S.frz_ok (o := .tup [.ty T', .ty U']) ok hq
      refine ⟨xs, q, [.ty T', .ty U'], .type t, [.type T', .type U'], (isB t T' || isB t U'), rfl, upd_same, .cons (.ty T') (.cons (.ty U') .nil), ?_, ?_, ?_⟩
      · exact tyD_of (s := s.frz q (.tup [.ty T', .ty U'])) ok2 (ru.mono ok ex) ht
      · refine kitAny_cons (kit_ty (kit_isB ht hT)) (fun h1 => kitAny_cons (kit_ty (kit_isB ht hU)) (fun h2 => ?_) fun h2 => ?_) fun h1 => ?_
        · rw [h1, h2]; rfl
        · rw [h1, h2]; rfl
        · rw [h1]; rfl
      · exact p _ _ ex ok2 rfl (.bl _)
    · exact p.elim
end
end Si

set_option Elab.async false
set_option linter.all false
set_option autoImplicit false
set_option maxRecDepth 100000
set_option maxHeartbeats 4000000
/-! Si6: statements, loops, comprehensions, defs. -/
namespace Si
open PySem L2
inductive SR where
  | next (σ : En) (w : Wd) | ret (d : D) (w : Wd) | brk (σ : En) (w : Wd) | cnt (σ : En) (w : Wd)
  | err (c : Str) (fs : List (Str × D)) (w : Wd) | stuck
def PostS (K : PySem.W.Frag) (cl : Str → Option Addr) (EK : XK) (s : S) (r : SR) (Dn : Ends) : Prop := match r with
  | .next σd w => ∀ s' σ', Ext s s' → Ok K cl s' → s'.w = w → RepE K s' σ' σd → Dn.nx σ' s'.H
  | .ret d w => ∀ s' v, Ext s s' → Ok K cl s' → s'.w = w → Rep K s' v d → Dn.rt v s'.H
  | .brk σd w => ∀ s' σ', Ext s s' → Ok K cl s' → s'.w = w → RepE K s' σ' σd → Dn.bk σ' s'.H
  | .cnt σd w => ∀ s' σ', Ext s s' → Ok K cl s' → s'.w = w → RepE K s' σ' σd → Dn.ct σ' s'.H
  | .err c fs w => ∀ s' cls dd, Ext s s' → Ok K cl s' → s'.w = w → RepX K cl s' cls dd c fs → EK cls dd s'.H
  | .stuck => False
def R.toS {α : Type} (r : R α) (k : α → Wd → SR) : SR := match r with
  | .ok a w => k a w
  | .err c fs w => .err c fs w
  | .stuck => .stuck
section
variable {K : PySem.W.Frag} {cl : Str → Option Addr} {s s1 : S} {EK : XK}
theorem PostS.ext {r : SR} {Dn : Ends} (e : Ext s s1) (h : PostS K cl EK s r Dn) : PostS K cl EK s1 r Dn := by
  cases r with
  | next σd w => exact fun s' v e' o q rp => h s' v (e.trans e') o q rp
  | ret σd w => exact fun s' v e' o q rp => h s' v (e.trans e') o q rp
  | brk σd w => exact fun s' v e' o q rp => h s' v (e.trans e') o q rp
  | cnt σd w => exact fun s' v e' o q rp => h s' v (e.trans e') o q rp
  | err c fs w => exact fun s' x dd e' o q rp => h s' x dd (e.trans e') o q rp
  | stuck => exact h
/-- a value, then a statement's rest -/
theorem posts_bind {α β : Type} {rep : S → β → α → Prop} {r : R α} {k : α → Wd → SR} {Dn : Ends} {Q1 : β → Hp → Prop} (p : PostS K cl EK s (r.toS k) Dn)
    (h : ∀ s' v a, Ext s s' → Ok K cl s' → rep s' v a → PostS K cl EK s' (k a s'.w) Dn → Q1 v s'.H) : Post K cl rep EK s r Q1 := by
  cases r with
  | ok a w =>
    intro s' v e ok' hw rv
    refine h s' v a e ok' rv ?_
    rw [hw]
    exact PostS.ext e p
  | err c fs w => exact p
  | stuck => exact p
end
def tSt (K : PySem.W.Frag) (cl : Str → Option Addr) (EK : XK) (m : En → Wd → SR) : TS := fun Dn σ H => ∃ s σd, s.H = H ∧ Ok K cl s ∧ RepE K s σ σd ∧ PostS K cl EK s (m σd s.w) Dn
def SS (X : Cx) (cl : Str → Option Addr) (EK : XK) (st : Stmt) (m : En → Wd → SR) : Prop := PS X st (tSt X.K cl EK m)
def SB (X : Cx) (cl : Str → Option Addr) (EK : XK) (sts : List Stmt) (m : En → Wd → SR) : Prop := PSs X sts (tSt X.K cl EK m)
/-- a target: the places that it may store in, what it makes of the frame's values -/
def tTg (K : PySem.W.Frag) (cl : Str → Option Addr) (sl : List Nat) (f : D → En → Wd → Option En) : TG := fun v σ H Q => ∃ s σd d, s.H = H ∧ Ok K cl s ∧ RepE K s σ σd ∧ Rep K s v d ∧
  match f d σd s.w with
  | some σ1 => ∀ σ', RepE K s σ' σ1 → σ'.length = σ.length → (∀ j, j ∉ sl → σ'[j]? = σ[j]?) → Q σ' s.H
  | none => False
def SG (X : Cx) (cl : Str → Option Addr) (e : Expr) (sl : List Nat) (f : D → En → Wd → Option En) : Prop := PG X e (tTg X.K cl sl f)
def tTgs (K : PySem.W.Frag) (cl : Str → Option Addr) (sl : List Nat) (f : List D → En → Wd → Option En) : TGs := fun vs σ H Q => ∃ s σd ds, s.H = H ∧ Ok K cl s ∧ RepE K s σ σd ∧ RepA K s vs ds ∧
  match f ds σd s.w with
  | some σ1 => ∀ σ', RepE K s σ' σ1 → σ'.length = σ.length → (∀ j, j ∉ sl → σ'[j]? = σ[j]?) → Q σ' s.H
  | none => False
def SGs (X : Cx) (cl : Str → Option Addr) (es : List Expr) (sl : List Nat) (f : List D → En → Wd → Option En) : Prop := PGs X es (tTgs X.K cl sl f)
section
variable {X : Cx} {cl : Str → Option Addr} {EK : XK} {a b c e : Expr} {ma mb mc : En → Wd → R D} {na nb : En → Wd → R Bool} {pos : Pos} {st : Stmt} {sts rest : List Stmt} {m m1 m2 : En → Wd → SR}
theorem PS.weak {t t' : TS} (h : PS X st t) (i : ∀ D σ H, t' D σ H → t D σ H) : PS X st t' := ⟨fun pins s σ H D I q => h.run pins s σ H D I (i D σ H q)⟩
theorem PSs.weak {t t' : TS} (h : PSs X sts t) (i : ∀ D σ H, t' D σ H → t D σ H) : PSs X sts t' := ⟨fun pins s σ H D I q => h.run pins s σ H D I (i D σ H q)⟩
theorem PG.weak {t t' : TG} (h : PG X e t) (i : ∀ v σ H Q, t' v σ H Q → t v σ H Q) : PG X e t' := ⟨fun pins s σ H v u Q I r q => h.run pins s σ H v u Q I r (i v σ H Q q)⟩
theorem PGs.weak {es : List Expr} {t t' : TGs} (h : PGs X es t) (i : ∀ v σ H Q, t' v σ H Q → t v σ H Q) : PGs X es t' := ⟨fun pins s σ H v u Q I r q => h.run pins s σ H v u Q I r (i v σ H Q q)⟩
def mNext : En → Wd → SR := fun σd w => .next σd w
def mSeq (m1 m2 : En → Wd → SR) : En → Wd → SR := fun σd w => match m1 σd w with
  | .next σ1 w1 => m2 σ1 w1
  | r => r
def mRet (ma : En → Wd → R D) : En → Wd → SR := fun σd w => (ma σd w).toS .ret
def mRetN : En → Wd → SR := fun _ w => .ret .non w
def mExpr (ma : En → Wd → R D) : En → Wd → SR := fun σd w => (ma σd w).toS fun _ w1 => .next σd w1
def mIfS (mc : En → Wd → R Bool) (m1 m2 : En → Wd → SR) : En → Wd → SR := fun σd w => (mc σd w).toS fun b w1 => match b with | true => m1 σd w1 | false => m2 σd w1
def mBrk : En → Wd → SR := fun σd w => .brk σd w
def mCnt : En → Wd → SR := fun σd w => .cnt σd w
def mAsg (ma : En → Wd → R D) (f : D → En → Wd → Option En) : En → Wd → SR := fun σd w => (ma σd w).toS fun d w1 => match f d σd w1 with
  | some σ1 => .next σ1 w1
  | none => .stuck
theorem sb_nil : SB X cl EK [] mNext := PSs.weak pss_nil fun D σ H h => by
  obtain ⟨s, σd, e, ok, re, p⟩ := h
  subst e
  exact p s σ (Ext.refl s) ok rfl re
theorem sb_cons (h1 : SS X cl EK st m1) (h2 : SB X cl EK rest m2) : SB X cl EK (st :: rest) (mSeq m1 m2) := PSs.weak (pss_cons h1 h2) fun D σ H h => by
  obtain ⟨s, σd, e, ok, re, p⟩ := h
  subst e
  refine ⟨s, σd, rfl, ok, re, ?_⟩
  unfold mSeq at p
  cases q : m1 σd s.w with
  | next σ1 w1 =>
    rw [q] at p
    intro s' σ' ex ok' hw re'
    refine ⟨s', σ1, rfl, ok', re', ?_⟩
    rw [hw]
    exact PostS.ext ex p
  | ret d w => rw [q] at p; exact p
  | brk d w => rw [q] at p; exact p
  | cnt d w => rw [q] at p; exact p
  | err c fs w => rw [q] at p; exact p
  | stuck => rw [q] at p; exact p
theorem sb_one (h1 : SS X cl EK st m1) : SB X cl EK [st] m1 := pss_one h1
theorem ss_pass : SS X cl EK (.Pass pos) mNext := PS.weak ps_pass fun D σ H h => by
  obtain ⟨s, σd, e, ok, re, p⟩ := h
  subst e
  exact p s σ (Ext.refl s) ok rfl re
theorem ss_brk : SS X cl EK (.Break pos) mBrk := PS.weak ps_break fun D σ H h => by
  obtain ⟨s, σd, e, ok, re, p⟩ := h
  subst e
  exact p s σ (Ext.refl s) ok rfl re
theorem ss_cnt : SS X cl EK (.Continue pos) mCnt := PS.weak ps_continue fun D σ H h => by
  obtain ⟨s, σd, e, ok, re, p⟩ := h
  subst e
  exact p s σ (Ext.refl s) ok rfl re
theorem ss_ret (ha : SE X cl EK a ma) : SS X cl EK (.Return (some a) pos) (mRet ma) := PS.weak (ps_ret ha) fun D σ H h => by
  obtain ⟨s, σd, e, ok, re, p⟩ := h
  subst e
  exact tG_of ok re (posts_bind p fun s' v d ex ok' r p' => p' s' v (Ext.refl s') ok' rfl r)
theorem ss_retN : SS X cl EK (.Return none pos) mRetN := PS.weak ps_retN fun D σ H h => by
  obtain ⟨s, σd, e, ok, re, p⟩ := h
  subst e
  exact p s .non (Ext.refl s) ok rfl .non
theorem ss_expr (ha : SE X cl EK a ma) (hs : swapsWith a none pos.line X.env = pure false := by rfl) : SS X cl EK (.Expr a pos) (mExpr ma) := PS.weak (ps_expr ha hs) fun D σ H h => by
  obtain ⟨s, σd, e, ok, re, p⟩ := h
  subst e
  exact tG_of ok re (posts_bind p fun s' v d ex ok' r p' => p' s' σ (Ext.refl s') ok' rfl (re.mono ok ex))
theorem ss_if (hc : ST X cl EK c na) (h1 : SB X cl EK sts m1) (h2 : SB X cl EK rest m2) : SS X cl EK (.If c sts rest pos) (mIfS na m1 m2) := PS.weak (ps_if hc h1 h2) fun D σ H h => by
  obtain ⟨s, σd, e, ok, re, p⟩ := h
  subst e
  refine tG_of ok re (posts_bind p fun s' v d ex ok' r p' => ?_)
  cases r
  cases v with
  | true => exact iteT ⟨s', σd, rfl, ok', re.mono ok ex, p'⟩
  | false => exact iteF ⟨s', σd, rfl, ok', re.mono ok ex, p'⟩
/-! ### targets -/
def gNm (i : Nat) : D → En → Wd → Option En := fun d σd _ => some (σd.set i (some d))
theorem sg_name {i : Nat} (h : PG X e (gName i)) : SG X cl e [i] (gNm i) := PG.weak h fun v σ H Q hh => by
  obtain ⟨s, σd, d, e, ok, re, r, p⟩ := hh
  subst e
  refine p (σ.set i (some v)) (re.set i r) (by simp) fun j hj => ?_
  rw [List.getElem?_set_ne (fun z => hj (by rw [z]; exact List.mem_singleton.mpr rfl))]
def gNilD : List D → En → Wd → Option En := fun ds σd _ => match ds with | [] => some σd | _ => none
def gConsD (f : D → En → Wd → Option En) (g : List D → En → Wd → Option En) : List D → En → Wd → Option En := fun ds σd w => match ds with
  | d :: r => (f d σd w).bind fun σ1 => g r σ1 w
  | [] => none
def gTupD (n : Nat) (f : List D → En → Wd → Option En) : D → En → Wd → Option En := fun d σd w => match d with
  | .tup ds => if ds.length = n then f ds σd w else none
  | _ => none
def gLstD (n : Nat) (f : List D → En → Wd → Option En) : D → En → Wd → Option En := fun d σd w => match derefL d w with
  | some ds => if ds.length = n then f ds σd w else none
  | none => none
theorem sgs_nil : SGs X cl [] [] gNilD := PGs.weak pgs_nil fun v σ H Q hh => by
  obtain ⟨s, σd, ds, e, ok, re, r, p⟩ := hh
  subst e
  cases r with
  | nil => exact ⟨rfl, p σ re rfl fun _ _ => rfl⟩
  | cons _ _ => exact p.elim
theorem sgs_cons {es : List Expr} {sl sl' : List Nat} {f : D → En → Wd → Option En} {g : List D → En → Wd → Option En} (h1 : SG X cl e sl f) (h2 : SGs X cl es sl' g)
    (hs : (assignEach (e :: es) X.env).map (·.2) = assign e X.env :: (assignEach es X.env).map (·.2) := by rfl) : SGs X cl (e :: es) (sl ++ sl') (gConsD f g) := PGs.weak (pgs_cons h1 h2 hs) fun v σ H Q hh => by
  obtain ⟨s, σd, ds, e, ok, re, r, p⟩ := hh
  subst e
  cases r with
  | nil => exact p.elim
  | cons h r =>
    unfold gConsD at p
    dsimp only at p
    rename_i v0 vr d0 dr
    refine ⟨v0, vr, rfl, s, σd, d0, rfl, ok, re, h, ?_⟩
    cases q : f d0 σd s.w with
    | none => rw [q] at p; exact p
    | some σ1 =>
      rw [q] at p
      dsimp only [Option.bind] at p ⊢
      intro σ' re' hl' hk'
      refine ⟨s, σ1, dr, rfl, ok, re', r, ?_⟩
      cases q2 : g dr σ1 s.w with
      | none => rw [q2] at p; exact p
      | some σ2 =>
        rw [q2] at p
        dsimp only at p ⊢
        intro σ'' re'' hl'' hk''
        exact p σ'' re'' (hl''.trans hl') fun j hj => by
          rw [List.mem_append] at hj
          exact (hk'' j fun z => hj (.inr z)).trans (hk' j fun z => hj (.inl z))
theorem sg_tup {es : List Expr} {k n : Nat} {sl : List Nat} {f : List D → En → Wd → Option En} (hc : X.calm = true) (h : SGs X cl es sl f) (hn : (assignEach es X.env).length = n := by rfl) (hst : (assignEach es X.env).findIdx? (·.1) = none := by rfl) :
    SG X cl (.Tuple es k pos) sl (gTupD n f) := PG.weak (pg_tup hc h hn hst) fun v σ H Q hh => by
  obtain ⟨s, σd, d, e, ok, re, r, p⟩ := hh
  subst e
  unfold gTupD at p
  cases d with
  | tup ds =>
    dsimp only at p
    obtain ⟨a, vs, rfl, h1, h2⟩ := rep_tup r
    by_cases hl : ds.length = n
    · rw [if_pos hl] at p
      exact ⟨a, vs, rfl, h1, h2.length.trans hl, s, σd, ds, rfl, ok, re, h2, p⟩
    · rw [if_neg hl] at p; exact p.elim
  | _ => exact p.elim
theorem sg_lst {es : List Expr} {k n : Nat} {sl : List Nat} {f : List D → En → Wd → Option En} (hc : X.calm = true) (h : SGs X cl es sl f) (hn : (assignEach es X.env).length = n := by rfl) (hst : (assignEach es X.env).findIdx? (·.1) = none := by rfl) :
    SG X cl (.Tuple es k pos) sl (gLstD n f) := PG.weak (pg_lst hc h hn hst) fun v σ H Q hh => by
  obtain ⟨s, σd, d, e, ok, re, r, p⟩ := hh
  subst e
  unfold gLstD at p
  cases q : derefL d s.w with
  | some ds =>
    rw [q] at p
    dsimp only at p
    obtain ⟨a, vs, rfl, h1, h2⟩ := deref_of ok r q
    by_cases hl : ds.length = n
    · rw [if_pos hl] at p
      exact ⟨a, vs, rfl, SqL.of h1, h2.length.trans hl, s, σd, ds, rfl, ok, re, h2, p⟩
    · rw [if_neg hl] at p; exact p.elim
  | none => rw [q] at p; exact p.elim
theorem ss_asg {sl : List Nat} {f : D → En → Wd → Option En} (ha : SE X cl EK a ma) (hg : SG X cl e sl f) (hs : swapsWithSole [e] a pos.line X.env = pure false := by rfl) (hw : swappedStores [e] a X.env = pure none := by rfl)
    (h1 : (assignEach [e] X.env).map (·.2) = [assign e X.env] := by rfl) : SS X cl EK (.Assign [e] a pos) (mAsg ma f) := PS.weak (ps_asg ha hg hs hw h1) fun D σ H h => by
  obtain ⟨s, σd, e, ok, re, p⟩ := h
  subst e
  refine tG_of ok re (posts_bind p fun s' v d ex ok' r p' => ⟨s', σd, d, rfl, ok', re.mono ok ex, r, ?_⟩)
  cases q : f d σd s'.w with
  | none => rw [q] at p'; exact p'.elim
  | some σ1 =>
    rw [q] at p'
    dsimp only
    exact fun σ' re' _ _ => p' s' σ' (Ext.refl s') ok' rfl re'
/-- x = e -/
theorem ss_set {i : Nat} {x : Str} {pos' : Pos} (hN : X.N.Nodup) (hi : X.N[i]? = some x) (hx : Loc X.env.scope x) (ha : SE X cl EK a ma) (hs : swapsWithSole [.Name x pos'] a pos.line X.env = pure false := by rfl) (hw : swappedStores [.Name x pos'] a X.env = pure none := by rfl)
    (h1 : (assignEach [.Name x pos'] X.env).map (·.2) = [assign (.Name x pos') X.env] := by rfl) (hf : X.fn x = true ∨ X.env.scope.names.lookup x = some .local := by first | exact .inl rfl | exact .inr rfl | assumption) :
    SS X cl EK (.Assign [.Name x pos'] a pos) (mAsg ma (gNm i)) := ss_asg ha (sg_name (pg_name hN hi hx hf)) hs hw h1
/-- a, b = e1, e2 -/
def mPar (i j : Nat) (mas : En → Wd → R (List D)) : En → Wd → SR := fun σd w => (mas σd w).toS fun ds w1 => match ds with
  | [d, e] => .next ((σd.set i (some d)).set j (some e)) w1
  | _ => .stuck
theorem ss_par {i j : Nat} {x y : Str} {a b : Expr} {px py pt : Pos} {kt k2 pt2} {mas : En → Wd → R (List D)} (hc : X.calm = true) (hN : X.N.Nodup) (hi : X.N[i]? = some x) (hj : X.N[j]? = some y) (hij : i ≠ j)
    (hx : X.env.scope.names.lookup x = some .local) (hy : X.env.scope.names.lookup y = some .local) (ha : SA X cl EK [a, b] mas)
    (hw : swappedStores [.Tuple [.Name x px, .Name y py] kt pt] (.Tuple [a, b] k2 pt2) X.env = pure (some [x, y]))
    (hs : swapsWithSole [.Tuple [.Name x px, .Name y py] kt pt] (.Tuple [a, b] k2 pt2) pos.line X.env = pure false := by rfl) :
    SS X cl EK (.Assign [.Tuple [.Name x px, .Name y py] kt pt] (.Tuple [a, b] k2 pt2) pos) (mPar i j mas) := PS.weak (ps_par hc hN hi hj hij hx hy ha hw hs) fun D σ H h => by
  obtain ⟨s, σd, e, ok, re, p⟩ := h
  subst e
  refine tG_of ok re (posts_bind p fun s' v d ex ok' r p' => ?_)
  split at p'
  · obtain ⟨v1, v2, rfl, r1, r2⟩ := repA2 r
    exact ⟨v1, v2, rfl, p' s' _ (Ext.refl s') ok' rfl (((re.mono ok ex).set i r1).set j r2)⟩
  · exact p'.elim
/-- x += e of ints -/
def mAugI (f : Int → Int → Int) (i : Nat) (ma : En → Wd → R D) : En → Wd → SR := fun σd w => match σd[i]? with
  | some (some (.int z)) => (ma σd w).toS fun d w1 => match d with
    | .int y => .next (σd.set i (some (.int (f z y)))) w1
    | _ => .stuck
  | _ => .stuck
theorem ss_augI {i : Nat} {x : Str} {op : Operator} {f : Int → Int → Int} {pos' : Pos} (hN : X.N.Nodup) (hi : X.N[i]? = some x) (hx : Loc X.env.scope x) (ha : SE X cl EK a ma) (ho : PIp X op (ipI f))
    (hf : X.fn x = true ∨ X.env.scope.names.lookup x = some .local := by first | exact .inl rfl | exact .inr rfl | assumption) :
    SS X cl EK (.AugAssign (.Name x pos') op a pos) (mAugI f i ma) := PS.weak (ps_aug hN hi hx ha ho hf) fun D σ H h => by
  obtain ⟨s, σd, e, ok, re, p⟩ := h
  subst e
  unfold mAugI at p
  split at p
  · rename_i z hz
    obtain ⟨v, hv, r⟩ := re.2 i _ hz
    refine ⟨v, hv, tG_of ok re (posts_bind p fun s' u d ex ok' ru p' => ?_)⟩
    split at p'
    · rename_i y
      rw [rep_int r, rep_int ru]
      exact ⟨z, y, rfl, rfl, p' s' _ (Ext.refl s') ok' rfl ((re.mono ok ex).set i (.int _))⟩
    · exact p'.elim
  · exact p.elim
/-! ### what a loop walks -/
def repIt (K : PySem.W.Frag) (cl : Str → Option Addr) (s : S) (J : It) (ds : List D) : Prop := ∀ s1, ExtF s s1 → Ok K cl s1 →
  (∀ i, i < ds.length → J.go i s1.H) ∧ (∀ i x H' d, J.yld i s1.H x H' → ds[i]? = some d → ∃ s2, s2.H = H' ∧ Ext s1 s2 ∧ Ok K cl s2 ∧ s2.w = s1.w ∧ Rep K s2 x d) ∧ J.stop ds.length s1.H
def SI (X : Cx) (cl : Str → Option Addr) (EK : XK) (tg iter : Expr) (m : En → Wd → R (List D)) : Prop := PI X tg iter (tG X.K cl (repIt X.K cl) EK m)
theorem PI.weak {tg iter : Expr} {t t' : TI} (h : PI X tg iter t) (i : ∀ σ H Q, t' σ H Q → t σ H Q) : PI X tg iter t' := ⟨fun pins s σ H Q I q => h.run pins s σ H Q I (i σ H Q q)⟩
theorem PI.or {tg iter : Expr} {t t' : TI} (h : PI X tg iter t) (h' : PI X tg iter t') : PI X tg iter (fun σ H R => t σ H R ∨ t' σ H R) := ⟨fun pins s σ H Q I q => q.elim (h.run pins s σ H Q I) (h'.run pins s σ H Q I)⟩
def signs (z : Str) : List D := z.cps.toList.map fun c => .str ⟨#[c]⟩
def itemsD : D → Option (List D)
  | .lst ds => some ds
  | .tup ds => some ds
  | .str z => some (signs z)
  | .scr ns => some (ns.map D.int)
  | _ => none
def mIter (ma : En → Wd → R D) : En → Wd → R (List D) := fun σd w => (ma σd w).bind fun u w1 => match itemsD u with
  | some ds => .ok ds w1
  | none => .stuck
theorem repIt_L {s : S} {a : Addr} {vs : List V} {ds : List D} (h : ∀ s1, ExtF s s1 → Ok X.K cl s1 → SqL X.K s1.H a vs ∧ RepA X.K s1 vs ds) : repIt X.K cl s (Itl X.K a) ds := by
  intro s1 e ok
  obtain ⟨h1, r⟩ := h s1 e ok
  refine ⟨fun i hi => ?_, fun i x H' d hy hd => ?_, vs, h1, by rw [r.length]; exact Nat.le_refl _⟩
  · obtain ⟨v, hv, _⟩ := r.get (i := i) (List.getElem?_eq_getElem hi)
    exact ⟨vs, v, h1, hv⟩
  · obtain ⟨rfl, hx⟩ := hy
    obtain ⟨v, hv, rv⟩ := r.get hd
    have e := hx vs h1
    rw [hv] at e
    cases e
    exact ⟨s1, rfl, Ext.refl s1, ok, rfl, rv⟩
theorem repIt_T {s : S} {a : Addr} {vs : List V} {ds : List D} (h : ∀ s1, ExtF s s1 → Ok X.K cl s1 → SqT X.K s1.H a vs ∧ RepA X.K s1 vs ds) : repIt X.K cl s (Itt X.K a) ds := by
  intro s1 e ok
  obtain ⟨h1, r⟩ := h s1 e ok
  refine ⟨fun i hi => ?_, fun i x H' d hy hd => ?_, vs, h1, by rw [r.length]; exact Nat.le_refl _⟩
  · obtain ⟨v, hv, _⟩ := r.get (i := i) (List.getElem?_eq_getElem hi)
    exact ⟨vs, v, h1, hv⟩
  · obtain ⟨rfl, hx⟩ := hy
    obtain ⟨v, hv, rv⟩ := r.get hd
    have e := hx vs h1
    rw [hv] at e
    cases e
    exact ⟨s1, rfl, Ext.refl s1, ok, rfl, rv⟩
theorem repIt_S {s : S} {z : Str} : repIt X.K cl s (Its z) (signs z) := by
  intro s1 e ok
  have hl : (signs z).length = z.cps.size := by unfold signs; rw [List.length_map, Array.length_toList]
  refine ⟨fun i hi => by rw [hl] at hi; exact hi, fun i x H' d hy hd => ?_, by show z.cps.size ≤ _; rw [hl]; exact Nat.le_refl _⟩
  obtain ⟨rfl, c, hc, rfl⟩ := hy
  unfold signs at hd
  rw [List.getElem?_map, Array.getElem?_toList, hc] at hd
  cases hd
  exact ⟨s1, rfl, Ext.refl s1, ok, rfl, .str _⟩
theorem si_seq {tg : Expr} (ha : SE X cl EK a ma) : SI X cl EK tg a (mIter ma) :=
  PI.weak (PI.or (pi_list ha) (PI.or (pi_tup ha) (pi_str ha))) fun σ H Q h => by
    obtain ⟨s, σd, e, ok, re, p⟩ := h
    subst e
    unfold mIter at p
    have go : ∀ (Q1 : V → Hp → Prop), (∀ s' v u ds, Ext s s' → Ok X.K cl s' → Rep X.K s' v u → itemsD u = some ds → (∀ J, repIt X.K cl s' J ds → Q J s'.H) → (∃ w, ma σd s.w = .ok u w) → Q1 v s'.H) → tG X.K cl (Rep X.K) EK ma σ s.H Q1 := by
      intro Q1 hQ
      refine ⟨s, σd, rfl, ok, re, ?_⟩
      cases q : ma σd s.w with
      | ok u w =>
        rw [q] at p
        dsimp only [R.bind] at p
        intro s' v ex ok' hw r
        cases q2 : itemsD u with
        | none => rw [q2] at p; exact p.elim
        | some ds =>
          rw [q2] at p
          exact hQ s' v u ds ex ok' r q2 (fun J hJ => p s' J ex ok' hw hJ) ⟨w, q⟩
      | err c fs w => rw [q] at p; exact p
      | stuck => rw [q] at p; exact p
    cases q : ma σd s.w with
    | ok u w =>
      cases u with
      | lst ds0 =>
        refine .inl (go _ fun s' v u ds ex ok' r hi hJ hu => ?_)
        obtain ⟨w', hu⟩ := hu
        rw [q] at hu
        cases hu
        cases hi
        obtain ⟨a, vs, rfl, hF, h1, h2⟩ := rep_lst r
        exact ⟨a, rfl, ⟨vs, SqL.of h1⟩, hJ _ (repIt_L fun s1 e1 ok1 => ⟨SqL.of (e1.fr _ _ hF h1), h2.monoF e1⟩)⟩
      | scr ns =>
        refine .inl (go _ fun s' v u ds ex ok' r hi hJ hu => ?_)
        obtain ⟨w', hu⟩ := hu
        rw [q] at hu
        cases hu
        cases hi
        cases r with
        | scr h1 =>
          refine ⟨_, rfl, ⟨_, SqL.ofS h1⟩, hJ _ (repIt_L (vs := ns.map V.int) fun s1 e1 ok1 => ⟨SqL.ofS (h1.imp (fun q => ⟨e1.F _ q.1, q.2.imp fun _ z => e1.fr _ _ q.1 z⟩) id), repA_ints ns⟩)⟩
      | tup ds0 =>
        refine .inr (.inl (go _ fun s' v u ds ex ok' r hi hJ hu => ?_))
        obtain ⟨w', hu⟩ := hu
        rw [q] at hu
        cases hu
        cases hi
        cases r with
        | tup hH h2 =>
          refine ⟨_, rfl, ⟨_, SqT.ofR hH⟩, hJ _ (repIt_T fun s1 e1 ok1 => ⟨?_, h2.monoF e1⟩)⟩
          rcases hH with ⟨f1, f2⟩ | f
          · exact .inl (.inl (e1.fr _ _ f1 f2))
          · exact .inr f
      | str z =>
        refine .inr (.inr (go _ fun s' v u ds ex ok' r hi hJ hu => ?_))
        obtain ⟨w', hu⟩ := hu
        rw [q] at hu
        cases hu
        cases hi
        rw [rep_str r]
        exact ⟨z, rfl, hJ _ repIt_S⟩
      | _ => rw [q] at p; exact p.elim
    | err c fs w => exact .inl (go _ fun s' v u ds ex ok' r hi hJ hu => by obtain ⟨w', hu⟩ := hu; rw [q] at hu; cases hu)
    | stuck => rw [q] at p; exact p.elim
end
end Si

set_option Elab.async false
set_option linter.all false
set_option autoImplicit false
set_option maxRecDepth 100000
set_option maxHeartbeats 4000000
/-! Si7: ranges, zip, enumerate; for, while, comprehensions; calls of own defs, defs. -/
namespace Si
open PySem L2 RZ
section
variable {X : Cx} {cl : Str → Option Addr} {EK : XK} {a b c e : Expr} {ma mb mc : En → Wd → R D} {na nb : En → Wd → R Bool} {mas : En → Wd → R (List D)} {pos p : Pos} {st : Stmt} {sts rest : List Stmt} {m m1 m2 : En → Wd → SR} {tg iter : Expr}
def rangeD (lo : Int) (n : Nat) : List D := (List.range n).map fun i => .int (lo + (i : Nat))
theorem repIt_R {s : S} {lo : Int} {n : Nat} : repIt X.K cl s (Itr lo n) (rangeD lo n) := by
  intro s1 e ok
  have hl : (rangeD lo n).length = n := by unfold rangeD; rw [List.length_map, List.length_range]
  refine ⟨fun i hi => by rw [hl] at hi; exact hi, fun i x H' d hy hd => ?_, by rw [hl]; exact Nat.le_refl _⟩
  obtain ⟨rfl, rfl⟩ := hy
  unfold rangeD at hd
  rw [List.getElem?_map] at hd
  cases q : (List.range n)[i]? with
  | none => rw [q] at hd; cases hd
  | some j =>
    rw [q] at hd
    have hj : j = i := by
      obtain ⟨h1, h2⟩ := List.getElem?_eq_some_iff.mp q
      rw [List.getElem_range] at h2
      exact h2.symm
    subst hj
    cases hd
    exact ⟨s1, rfl, Ext.refl s1, ok, rfl, .int _⟩
def mRng (mas : En → Wd → R (List D)) : En → Wd → R (List D) := fun σd w => (mas σd w).bind fun us w1 => match us with
  | [.int j] => if -(2 ^ 62) ≤ j ∧ j < 2 ^ 62 then .ok (rangeD 0 j.toNat) w1 else .stuck
  | [.int i, .int j] => if -(2 ^ 62) ≤ i ∧ i < 2 ^ 62 ∧ -(2 ^ 62) ≤ j ∧ j < 2 ^ 62 then .ok (rangeD i (j - i).toNat) w1 else .stuck
  | _ => .stuck
theorem si_range1 (hg : Gl X "range") (hm : X.mg "range" = none) (ha : SA X cl EK [a] mas) (hs : starEach [a] X.env = [(false, eval a X.env)] := by rfl) (hlen : ∀ σd w us w', mas σd w = .ok us w' → us.length = 1) : SI X cl EK tg (.Call (.Name "range" p) [a] [] pos) (mRng mas) :=
  PI.weak (pi_range1 hg hm ha hs) fun σ H Q h => by
    obtain ⟨s, σd, e, ok, re, p⟩ := h
    subst e
    refine tG_of ok re ?_
    cases q : mas σd s.w with
    | ok us w =>
      unfold mRng at p
      rw [q] at p
      dsimp only [R.bind] at p
      have hl := hlen _ _ _ _ q
      intro s' xs ex ok' hw r
      match us, hl, p, r with
      | [.int j], _, p, r =>
        dsimp only at p
        obtain ⟨x, rfl, rx⟩ := repA1 r
        rw [rep_int rx]
        by_cases hb : -(2 ^ 62) ≤ j ∧ j < 2 ^ 62
        · rw [if_pos hb] at p
          exact ⟨j, rfl, hb.1, hb.2, p s' _ ex ok' hw repIt_R⟩
        · rw [if_neg hb] at p
          exact p.elim
      | [.non], _, p, _ => exact p.elim
      | [.bl _], _, p, _ => exact p.elim
      | [.str _], _, p, _ => exact p.elim
      | [.lst _], _, p, _ => exact p.elim
      | [.tup _], _, p, _ => exact p.elim
      | [.obj _], _, p, _ => exact p.elim
      | [.scr _], _, p, _ => exact p.elim
    | err c fs w => unfold mRng at p; rw [q] at p; exact p
    | stuck => unfold mRng at p; rw [q] at p; exact p.elim
theorem aCons1_len {σd : En} {w : Wd} {us : List D} {w' : Wd} (h : aCons ma aNil σd w = .ok us w') : us.length = 1 := by
  unfold aCons aNil at h
  cases q : ma σd w with
  | ok d w1 => rw [q] at h; dsimp only [R.bind] at h; cases h; rfl
  | err c fs w1 => rw [q] at h; cases h
  | stuck => rw [q] at h; cases h
theorem aCons2_len {σd : En} {w : Wd} {us : List D} {w' : Wd} (h : aCons ma (aCons mb aNil) σd w = .ok us w') : us.length = 2 := by
  unfold aCons aNil at h
  cases q : ma σd w with
  | ok d w1 =>
    rw [q] at h; dsimp only [R.bind] at h
    cases q2 : mb σd w1 with
    | ok d2 w2 => rw [q2] at h; dsimp only [R.bind] at h; cases h; rfl
    | err c fs w1 => rw [q2] at h; cases h
    | stuck => rw [q2] at h; cases h
  | err c fs w1 => rw [q] at h; cases h
  | stuck => rw [q] at h; cases h
theorem si_rng1 (hg : Gl X "range") (hm : X.mg "range" = none) (ha : SE X cl EK a ma) (hs : starEach [a] X.env = [(false, eval a X.env)] := by rfl) : SI X cl EK tg (.Call (.Name "range" p) [a] [] pos) (mRng (aCons ma aNil)) :=
  si_range1 hg hm (sa_cons ha sa_nil hs) hs fun _ _ _ _ => aCons1_len
theorem si_rng2 (hg : Gl X "range") (hm : X.mg "range" = none) (ha : SE X cl EK a ma) (hb : SE X cl EK b mb) (hs : starEach [a, b] X.env = [(false, eval a X.env), (false, eval b X.env)] := by rfl) (hs2 : starEach [b] X.env = [(false, eval b X.env)] := by rfl) :
    SI X cl EK tg (.Call (.Name "range" p) [a, b] [] pos) (mRng (aCons ma (aCons mb aNil))) :=
  PI.weak (pi_range2 hg hm (sa_cons (EK := EK) (cl := cl) ha (sa_cons hb sa_nil hs2) (by rw [hs, hs2])) hs hs2) fun σ H Q h => by
    obtain ⟨s, σd, e, ok, re, p⟩ := h
    subst e
    refine tG_of ok re ?_
    cases q : aCons ma (aCons mb aNil) σd s.w with
    | ok us w =>
      unfold mRng at p
      rw [q] at p
      dsimp only [R.bind] at p
      have hl := aCons2_len q
      intro s' xs ex ok' hw r
      split at p
      · cases hl
      · rename_i i j
        obtain ⟨x, y, rfl, rx, ry⟩ := repA2 r
        rw [rep_int rx, rep_int ry]
        split at p
        · rename_i hb
          exact ⟨i, j, rfl, hb, p s' _ ex ok' hw repIt_R⟩
        · exact p.elim
      · exact p.elim
    | err c fs w => unfold mRng at p; rw [q] at p; exact p
    | stuck => unfold mRng at p; rw [q] at p; exact p.elim
/-- enumerate of a list that stands still -/
def enumD : Nat → List D → List D
  | _, [] => []
  | i, d :: r => .tup [.int (i : Nat), d] :: enumD (i + 1) r
theorem enumD_get : ∀ (ds : List D) (k i : Nat), (enumD k ds)[i]? = (ds[i]?).map fun d => .tup [.int ((k + i : Nat) : Int), d]
  | [], _, _ => by simp [enumD]
  | d :: r, k, 0 => by simp [enumD]
  | d :: r, k, i + 1 => by
    have h := enumD_get r (k + 1) i
    simp only [enumD, List.getElem?_cons_succ]
    rw [h, show k + 1 + i = k + (i + 1) by omega]
theorem enumD_len : ∀ (ds : List D) (k : Nat), (enumD k ds).length = ds.length
  | [], _ => rfl
  | _ :: r, k => congrArg (· + 1) (enumD_len r (k + 1))
def mEnum (mas : En → Wd → R (List D)) : En → Wd → R (List D) := fun σd w => (mas σd w).bind fun us w1 => match us with
  | [.lst ds] => .ok (enumD 0 ds) w1
  | _ => .stuck
theorem si_enum {elts : List Expr} {kk : Nat} {tpos : Pos} (hg : Gl X "enumerate") (hm : X.mg "enumerate" = none) (ha : SA X cl EK [a] mas) (hs : starEach [a] X.env = [(false, eval a X.env)] := by rfl) :
    SI X cl EK (.Tuple elts kk tpos) (.Call (.Name "enumerate" p) [a] [] pos) (mEnum mas) :=
  PI.weak (pi_enum hg hm ha hs) fun σ H Q h => tG_imp (tG_bind h) fun xs H1 ⟨s, σd, u, e, ok, re, ru, p⟩ => by
    subst e
    dsimp only at p
    split at p
    · rename_i ds
      obtain ⟨x, rfl, rx⟩ := repA1 ru
      obtain ⟨q, vs, rfl, hF, h1, r1⟩ := rep_lst rx
      refine ⟨q, vs, rfl, SqL.of h1, p s _ (Ext.refl s) ok rfl ?_⟩
      intro s1 e1 ok1
      have h1' := e1.fr _ _ hF h1
      have r1' := r1.monoF e1
      refine ⟨fun i hi => ?_, fun i x H' d hy hd => ?_, vs, SqL.of h1', by rw [enumD_len, r1.length]; exact Nat.le_refl _⟩
      · rw [enumD_len] at hi
        obtain ⟨v, hv, _⟩ := r1.get (i := i) (List.getElem?_eq_getElem hi)
        exact ⟨vs, v, SqL.of h1', hv⟩
      · obtain ⟨T, y, rfl, hT, rfl, hx⟩ := hy
        have hy := hx vs (SqL.of h1')
        rw [enumD_get, Nat.zero_add] at hd
        cases q2 : ds[i]? with
        | none => rw [q2] at hd; cases hd
        | some d0 =>
          rw [q2] at hd
          cases hd
          obtain ⟨v, hv, rv⟩ := r1'.get q2
          rw [hy] at hv
          cases hv
          exact ⟨s1.frz T _, rfl, S.frz_ext hT, S.frz_ok ok1 hT, rfl, rep_newT ok1 hT (.cons (.int _) (.cons rv .nil))⟩
    · exact p.elim
/-- zip of two lists, two tuples -/
def zipD : List D → List D → List D
  | d :: r, e :: q => .tup [d, e] :: zipD r q
  | _, _ => []
theorem zipD_get : ∀ (ds es : List D) (i : Nat), (zipD ds es)[i]? = match ds[i]?, es[i]? with | some d, some e => some (.tup [d, e]) | _, _ => none
  | [], _, _ => by simp [zipD]
  | d :: r, [], i => by
    simp only [zipD, List.getElem?_nil]
    cases (d :: r)[i]? <;> rfl
  | d :: r, e :: q, 0 => by simp [zipD]
  | d :: r, e :: q, i + 1 => by
    simp only [zipD, List.getElem?_cons_succ]
    exact zipD_get r q i
theorem zipD_len : ∀ (ds es : List D), (zipD ds es).length = min ds.length es.length
  | [], _ => by simp [zipD]
  | d :: r, [] => by simp [zipD]
  | d :: r, e :: q => by simp [zipD, zipD_len r q]
def mZip (mas : En → Wd → R (List D)) : En → Wd → R (List D) := fun σd w => (mas σd w).bind fun us w1 => match us with
  | [.lst ds, .lst es] => .ok (zipD ds es) w1
  | [.tup ds, .tup es] => .ok (zipD ds es) w1
  | _ => .stuck
theorem zip_yld {s1 : S} {vs us : List V} {ds es : List D} {i : Nat} {T : Addr} {x y : V} {d : D} (ok1 : Ok X.K cl s1) (r1 : RepA X.K s1 vs ds) (r2 : RepA X.K s1 us es) (hT : s1.H T = none) (hx : vs[i]? = some x) (hy : us[i]? = some y) (hd : (zipD ds es)[i]? = some d) :
    ∃ s2, s2.H = upd s1.H T (.tup [x, y]) ∧ Ext s1 s2 ∧ Ok X.K cl s2 ∧ s2.w = s1.w ∧ Rep X.K s2 (.ref T) d := by
  rw [zipD_get] at hd
  cases q1 : ds[i]? with
  | none => rw [q1] at hd; cases hd
  | some d0 =>
    cases q2 : es[i]? with
    | none => rw [q1, q2] at hd; cases hd
    | some e0 =>
      rw [q1, q2] at hd
      cases hd
      obtain ⟨v, hv, rv⟩ := r1.get q1
      obtain ⟨u, hu, ru⟩ := r2.get q2
      rw [hx] at hv
      rw [hy] at hu
      cases hv
      cases hu
      exact ⟨s1.frz T _, rfl, S.frz_ext hT, S.frz_ok ok1 hT, rfl, rep_newT ok1 hT (.cons rv (.cons ru .nil))⟩
theorem si_zip {elts : List Expr} {kk : Nat} {tpos : Pos} (hg : Gl X "zip") (hm : X.mg "zip" = none) (ha : SA X cl EK [a, b] mas)
    (hs : starEach [a, b] X.env = (false, eval a X.env) :: starEach [b] X.env := by rfl) (hpl : (backTo pos (starEach [b] X.env)).any (·.1) = false := by rfl) :
    SI X cl EK (.Tuple elts kk tpos) (.Call (.Name "zip" p) [a, b] [] pos) (mZip mas) :=
  PI.weak (pi_zipA hg hm ha hs hpl) fun σ H Q h => tG_imp (tG_bind h) fun xs H1 ⟨s, σd, u, e, ok, re, ru, p⟩ => by
    subst e
    dsimp only at p
    split at p
    · rename_i ds es
      obtain ⟨x, y, rfl, rx, ry⟩ := repA2 ru
      obtain ⟨q, vs, rfl, hF, h1, r1⟩ := rep_lst rx
      obtain ⟨q2, us, rfl, hF2, h2, r2⟩ := rep_lst ry
      refine ⟨q, q2, vs, us, rfl, .inl ⟨SqL.of h1, SqL.of h2, p s _ (Ext.refl s) ok rfl ?_⟩⟩
      intro s1 e1 ok1
      have h1' := e1.fr _ _ hF h1
      have h2' := e1.fr _ _ hF2 h2
      have r1' := r1.monoF e1
      have r2' := r2.monoF e1
      refine ⟨fun i hi => ?_, fun i x H' d hy hd => ?_, vs, us, SqL.of h1', SqL.of h2', ?_⟩
      · rw [zipD_len] at hi
        obtain ⟨v, hv, _⟩ := r1.get (i := i) (List.getElem?_eq_getElem (by omega))
        obtain ⟨v2, hv2, _⟩ := r2.get (i := i) (List.getElem?_eq_getElem (by omega))
        exact ⟨vs, us, v, v2, SqL.of h1', SqL.of h2', hv, hv2⟩
      · obtain ⟨T, y1, y2, rfl, hT, rfl, hx, hy⟩ := hy
        exact zip_yld ok1 r1' r2' hT (hx vs (SqL.of h1')) (hy us (SqL.of h2')) hd
      · rw [zipD_len, r1.length, r2.length]; omega
    · rename_i ds es
      obtain ⟨x, y, rfl, rx, ry⟩ := repA2 ru
      obtain ⟨q, vs, rfl, hH, r1⟩ : ∃ q vs, x = .ref q ∧ ((s.F q ∧ s.H q = some (.tup vs)) ∨ TK X.K q vs) ∧ RepA X.K s vs ds := by
        cases rx with
        | tup hH r1 => exact ⟨_, _, rfl, hH, r1⟩
      obtain ⟨q2, us, rfl, hH2, r2⟩ : ∃ q vs, y = .ref q ∧ ((s.F q ∧ s.H q = some (.tup vs)) ∨ TK X.K q vs) ∧ RepA X.K s vs es := by
        cases ry with
        | tup hH r1 => exact ⟨_, _, rfl, hH, r1⟩
      refine ⟨q, q2, vs, us, rfl, .inr ⟨SqT.ofR hH, SqT.ofR hH2, p s _ (Ext.refl s) ok rfl ?_⟩⟩
      intro s1 e1 ok1
      have h1' : SqT X.K s1.H q vs := by
        rcases hH with ⟨f1, f2⟩ | f
        · exact .inl (.inl (e1.fr _ _ f1 f2))
        · exact .inr f
      have h2' : SqT X.K s1.H q2 us := by
        rcases hH2 with ⟨f1, f2⟩ | f
        · exact .inl (.inl (e1.fr _ _ f1 f2))
        · exact .inr f
      have r1' := r1.monoF e1
      have r2' := r2.monoF e1
      refine ⟨fun i hi => ?_, fun i x H' d hy hd => ?_, vs, us, h1', h2', ?_⟩
      · rw [zipD_len] at hi
        obtain ⟨v, hv, _⟩ := r1.get (i := i) (List.getElem?_eq_getElem (by omega))
        obtain ⟨v2, hv2, _⟩ := r2.get (i := i) (List.getElem?_eq_getElem (by omega))
        exact ⟨vs, us, v, v2, h1', h2', hv, hv2⟩
      · obtain ⟨T, y1, y2, rfl, hT, rfl, hx, hy⟩ := hy
        exact zip_yld ok1 r1' r2' hT (hx vs h1') (hy us h2') hd
      · rw [zipD_len, r1.length, r2.length]; omega
    · exact p.elim
/-! ### for -/
def forL (f : D → En → Wd → Option En) (body : En → Wd → SR) : List D → En → Wd → SR
  | [], σd, w => .next σd w
  | d :: r, σd, w => match f d σd w with
    | none => .stuck
    | some σ1 => match body σ1 w with
      | .next σ2 w2 => forL f body r σ2 w2
      | .cnt σ2 w2 => forL f body r σ2 w2
      | .brk σ2 w2 => .next σ2 w2
      | .ret d w2 => .ret d w2
      | .err c fs w2 => .err c fs w2
      | .stuck => .stuck
def mFor (it : En → Wd → R (List D)) (f : D → En → Wd → Option En) (body : En → Wd → SR) : En → Wd → SR := fun σd w => (it σd w).toS fun ds w1 => forL f body ds σd w1
theorem ss_for {sl : List Nat} {mi : En → Wd → R (List D)} {f : D → En → Wd → Option En} (hp : PassesOwn (model X.prog X.w) X.A X.env X.xe) (hc : X.calm = true) (hi : SI X cl EK tg iter mi) (hg : SG X cl tg sl f) (hb : SB X cl EK sts m)
    (hs : ∀ x, foldedSetIterable iter X.env x = pure x := by intro _; rfl) : SS X cl EK (.For tg iter sts [] pos) (mFor mi f m) := PS.weak (ps_for hp hc hi hg hb hs) fun D σ H h => by
  obtain ⟨s, σd, e, ok, re, p⟩ := h
  subst e
  refine tG_of ok re (posts_bind p fun s0 J ds ex0 ok0 rJ p0 => ?_)
  refine ⟨fun i mm σ H => ∃ s1 σ1, mm = ds.length - i ∧ i ≤ ds.length ∧ s1.H = H ∧ Ext s0 s1 ∧ Ok X.K cl s1 ∧ RepE X.K s1 σ σ1 ∧ PostS X.K cl EK s1 (forL f m (ds.drop i) σ1 s1.w) D,
    ⟨ds.length, s0, σd, by simp, Nat.zero_le _, rfl, Ext.refl s0, ok0, re.mono ok ex0, p0⟩, ?_⟩
  rintro i mm σ1 H1 ⟨s1, τ, rfl, hle, rfl, e1, ok1, re1, p1⟩
  obtain ⟨go, yl, stop⟩ := rJ s1 (e1.toF ok0) ok1
  by_cases hlt : i < ds.length
  · have hd : ds.drop i = ds[i] :: ds.drop (i + 1) := List.drop_eq_getElem_cons hlt
    rw [hd] at p1
    refine .inr ⟨go i hlt, fun σ' H' => ∃ s2 σ2, s2.H = H' ∧ Ext s0 s2 ∧ Ok X.K cl s2 ∧ RepE X.K s2 σ' σ2 ∧ PostS X.K cl EK s2 (forL f m (ds.drop (i + 1)) σ2 s2.w) D, fun σ' H' ⟨s2, σ2, a1, a2, a3, a4, a5⟩ => ⟨ds.length - (i + 1), by omega, s2, σ2, rfl, hlt, a1, a2, a3, a4, a5⟩, fun x H' hy => ?_⟩
    obtain ⟨s2, rfl, e2, ok2, w2, r2⟩ := yl i x H' ds[i] hy (List.getElem?_eq_getElem hlt)
    refine ⟨s2, τ, ds[i], rfl, ok2, re1.mono ok1 e2, r2, ?_⟩
    rw [w2]
    unfold forL at p1
    cases q : f ds[i] τ s1.w with
    | none => rw [q] at p1; exact p1.elim
    | some τ1 =>
      rw [q] at p1
      dsimp only at p1 ⊢
      intro σ' re' _ _
      refine ⟨s2, τ1, rfl, ok2, re', ?_⟩
      rw [w2]
      have ee : Ext s0 s2 := e1.trans e2
      cases q2 : m τ1 s1.w with
      | next τ2 w3 =>
        rw [q2] at p1
        intro s3 σ3 e3 ok3 hw re3
        exact ⟨s3, τ2, rfl, ee.trans e3, ok3, re3, by rw [hw]; exact PostS.ext (e2.trans e3) p1⟩
      | cnt τ2 w3 =>
        rw [q2] at p1
        intro s3 σ3 e3 ok3 hw re3
        exact ⟨s3, τ2, rfl, ee.trans e3, ok3, re3, by rw [hw]; exact PostS.ext (e2.trans e3) p1⟩
      | brk τ2 w3 =>
        rw [q2] at p1
        exact fun s3 σ3 e3 ok3 hw re3 => p1 s3 σ3 (e2.trans e3) ok3 hw re3
      | ret d w3 =>
        rw [q2] at p1
        exact fun s3 σ3 e3 ok3 hw re3 => p1 s3 σ3 (e2.trans e3) ok3 hw re3
      | err c fs w3 =>
        rw [q2] at p1
        exact fun s3 σ3 dd e3 ok3 hw re3 => p1 s3 σ3 dd (e2.trans e3) ok3 hw re3
      | stuck => rw [q2] at p1; exact p1.elim
  · have hi' : i = ds.length := by omega
    subst hi'
    rw [List.drop_length] at p1
    exact .inl ⟨stop, p1 s1 σ1 (Ext.refl s1) ok1 rfl re1⟩
/-! ### while: at most so many turns -/
def whileL (c : En → Wd → R Bool) (body : En → Wd → SR) : Nat → En → Wd → SR
  | 0, _, _ => .stuck
  | n + 1, σd, w => (c σd w).toS fun b w1 => match b with
    | false => .next σd w1
    | true => match body σd w1 with
      | .next σ2 w2 => whileL c body n σ2 w2
      | .cnt σ2 w2 => whileL c body n σ2 w2
      | .brk σ2 w2 => .next σ2 w2
      | .ret d w2 => .ret d w2
      | .err c fs w2 => .err c fs w2
      | .stuck => .stuck
def mWhile (fuel : En → Wd → Nat) (c : En → Wd → R Bool) (body : En → Wd → SR) : En → Wd → SR := fun σd w => whileL c body (fuel σd w) σd w
theorem ss_while (fuel : En → Wd → Nat) (hp : PassesOwn (model X.prog X.w) X.A X.env X.xe) (hc : ST X cl EK c na) (hb : SB X cl EK sts m) : SS X cl EK (.While c sts [] pos) (mWhile fuel na m) := PS.weak (ps_while hp hc hb) fun D σ H h => by
  obtain ⟨s, σd, e, ok, re, p⟩ := h
  subst e
  refine ⟨fun n σ H => ∃ s1 σ1, s1.H = H ∧ Ok X.K cl s1 ∧ RepE X.K s1 σ σ1 ∧ PostS X.K cl EK s1 (whileL na m n σ1 s1.w) D, ⟨_, s, σd, rfl, ok, re, p⟩, ?_⟩
  rintro n σ1 H1 ⟨s1, τ, rfl, ok1, re1, p1⟩
  cases n with
  | zero => exact p1.elim
  | succ n =>
    refine tG_of ok1 re1 (posts_bind p1 fun s2 b b' e2 ok2 rb p2 => ?_)
    cases rb
    cases b with
    | false => exact iteF (p2 s2 σ1 (Ext.refl s2) ok2 rfl (re1.mono ok1 e2))
    | true =>
      refine iteT ⟨fun σ' H' => ∃ s3 σ3, s3.H = H' ∧ Ok X.K cl s3 ∧ RepE X.K s3 σ' σ3 ∧ PostS X.K cl EK s3 (whileL na m n σ3 s3.w) D, fun σ' H' q => ⟨n, Nat.lt_succ_self n, q⟩, s2, τ, rfl, ok2, re1.mono ok1 e2, ?_⟩
      dsimp only at p2
      cases q2 : m τ s2.w with
      | next τ2 w3 =>
        rw [q2] at p2
        exact fun s3 σ3 e3 ok3 hw re3 => ⟨s3, τ2, rfl, ok3, re3, by rw [hw]; exact PostS.ext e3 p2⟩
      | cnt τ2 w3 =>
        rw [q2] at p2
        exact fun s3 σ3 e3 ok3 hw re3 => ⟨s3, τ2, rfl, ok3, re3, by rw [hw]; exact PostS.ext e3 p2⟩
      | brk τ2 w3 => rw [q2] at p2; exact p2
      | ret d w3 => rw [q2] at p2; exact p2
      | err c fs w3 => rw [q2] at p2; exact p2
      | stuck => rw [q2] at p2; exact p2.elim
end
end Si

set_option Elab.async false
set_option linter.all false
set_option autoImplicit false
set_option maxRecDepth 100000
set_option maxHeartbeats 4000000
/-! Si8: comprehensions; own defs; lists that change; join. -/
namespace Si
open PySem L2 PyProof.Rows
/-! ### comprehensions -/
def lcL (own : List Nat) (f : D → En → Wd → Option En) (mt : En → Wd → R Bool) (me : En → Wd → R D) (σd : En) : List D → List D → Wd → R (List D)
  | [], acc, w => .ok acc w
  | d :: r, acc, w => match f d (wipeD σd own) w with
    | none => .stuck
    | some σ1 => match mt σ1 w with
      | .ok true w1 => match me σ1 w1 with
        | .ok y w2 => if acc.length < 16777216 then lcL own f mt me σd r (acc ++ [y]) w2 else .stuck
        | _ => .stuck
      | .ok false w1 => lcL own f mt me σd r acc w1
      | _ => .stuck
def mLc (it : En → Wd → R (List D)) (own : List Nat) (f : D → En → Wd → Option En) (mt : En → Wd → R Bool) (me : En → Wd → R D) : En → Wd → R D := fun σd w => (it σd w).bind fun ds w1 => (lcL own f mt me σd ds [] w1).bind fun xs w2 => .ok (.lst xs) w2
def mLcM (it : En → Wd → R (List D)) (own : List Nat) (f : D → En → Wd → Option En) (mt : En → Wd → R Bool) (me : En → Wd → R D) : En → Wd → R D := fun σd w => (it σd w).bind fun ds w1 => (lcL own f mt me σd ds [] w1).bind fun xs w2 => .ok (.obj w2.length) (w2 ++ [.lst xs])
def bYes : En → Wd → R Bool := fun _ w => .ok true w
theorem wipe_get (σ : L2.St) : ∀ (vs : List Nat) (j : Nat), (L2.wipe σ vs)[j]? = if j ∈ vs ∧ j < σ.length then some none else σ[j]?
  | [], j => by simp [L2.wipe]
  | v :: vs, j => by
    have ih := wipe_get σ vs j
    show ((L2.wipe σ vs).set v none)[j]? = _
    by_cases e : v = j
    · subst e
      by_cases hl : v < σ.length
      · rw [List.getElem?_set_self (by rw [L2.wipe_length]; exact hl), if_pos ⟨List.mem_cons_self, hl⟩]
      · rw [List.getElem?_eq_none_iff.mpr (by rw [List.length_set, L2.wipe_length]; omega), if_neg (fun z => hl z.2), List.getElem?_eq_none_iff.mpr (by omega)]
    · rw [List.getElem?_set_ne e, ih]
      by_cases hm : j ∈ vs ∧ j < σ.length
      · rw [if_pos hm, if_pos ⟨List.mem_cons_of_mem _ hm.1, hm.2⟩]
      · rw [if_neg hm, if_neg (fun z => hm ⟨(List.mem_cons.mp z.1).resolve_left (Ne.symm e), z.2⟩)]
theorem wipe_of {σ σ2 : L2.St} {vs sl : List Nat} (hl : σ2.length = (L2.wipe σ vs).length) (h : ∀ j, j ∉ sl → σ2[j]? = (L2.wipe σ vs)[j]?) (hs : ∀ j ∈ sl, j ∈ vs) : L2.wipe σ2 vs = L2.wipe σ vs := by
  rw [L2.wipe_length] at hl
  apply List.ext_getElem?
  intro j
  rw [wipe_get, wipe_get, hl]
  by_cases hm : j ∈ vs ∧ j < σ.length
  · rw [if_pos hm, if_pos hm]
  · rw [if_neg hm, if_neg hm]
    by_cases hj : j ∈ vs
    · have hn : σ.length ≤ j := Nat.le_of_not_lt fun z => hm ⟨hj, z⟩
      rw [List.getElem?_eq_none_iff.mpr (by omega), List.getElem?_eq_none_iff.mpr hn]
    · rw [h j fun z => hj (hs j z), wipe_get, if_neg (fun z => hj z.1)]
section
variable {K : PySem.W.Frag} {cl : Str → Option Addr} {s s0 s1 : S}
/-- a thing of one's own that no one else sees is changed -/
def S.prv (s : S) (q : Addr) (o : HO) : S := ⟨s.F, s.ρ, s.w, upd s.H q o⟩
mutual
theorem Rep.prv {q : Addr} {o : HO} (hF : ¬ s.F q) : ∀ {v : V} {d : D}, Rep K s v d → Rep K (s.prv q o) v d
  | _, _, .non => .non
  | _, _, .bl b => .bl b
  | _, _, .int i => .int i
  | _, _, .str x => .str x
  | _, _, .lst hF1 h r => .lst hF1 ((upd_ne fun z => hF (by rw [← z]; exact hF1)).trans h) (RepA.prv hF r)
  | _, _, .tup h r => .tup (h.imp (fun x => ⟨x.1, (upd_ne fun z => hF (by rw [← z]; exact x.1)).trans x.2⟩) id) (RepA.prv hF r)
  | _, _, .obj h => .obj h
  | _, _, .scr h => .scr (h.imp (fun x => ⟨x.1, x.2.imp fun _ y => (upd_ne fun z => hF (by rw [← z]; exact x.1)).trans y⟩) id)
theorem RepA.prv {q : Addr} {o : HO} (hF : ¬ s.F q) : ∀ {vs : List V} {ds : List D}, RepA K s vs ds → RepA K (s.prv q o) vs ds
  | _, _, .nil => .nil
  | _, _, .cons h r => .cons (Rep.prv hF h) (RepA.prv hF r)
end
theorem RepF.prv {κ : Type} {q : Addr} {o : HO} (hF : ¬ s.F q) : ∀ {ps : List (κ × V)} {qs : List (κ × D)}, RepF K s ps qs → RepF K (s.prv q o) ps qs
  | [], [], _ => trivial
  | _ :: _, _ :: _, h => ⟨h.1, h.2.1.prv hF, RepF.prv hF h.2.2⟩
  | [], _ :: _, h => h.elim
  | _ :: _, [], h => h.elim
theorem S.prv_ok {q : Addr} {o : HO} (ok : Ok K cl s) (hF : ¬ s.F q) (hρ : q ∉ s.ρ) : Ok K cl (s.prv q o) := by
  refine ⟨ok.len, ok.nd, fun a ha => upd_there (ok.trk a ha), fun a ha => upd_there (ok.frz a ha), fun n a m hn hm => ?_, fun a hl ha => ok.dead a hl ha⟩
  have r := ok.cell n a m hn hm
  have ne : a ≠ q := fun z => hρ (by rw [← z]; exact List.mem_of_getElem? hn)
  cases m with
  | dead => trivial
  | lst xs => obtain ⟨vs, h1, h2⟩ := r; exact ⟨vs, (upd_ne ne).trans h1, h2.prv hF⟩
  | ins c fs => obtain ⟨C, dx, vfs, h0, h1, h2⟩ := r; exact ⟨C, dx, vfs, h0, (upd_ne ne).trans h1, h2.prv hF⟩
  | dct kvs => obtain ⟨vks, h1, h2⟩ := r; exact ⟨vks, (upd_ne ne).trans h1, h2.prv hF⟩
theorem S.prv_ext {q : Addr} {o : HO} (e : Ext s0 s) (h0 : s0.H q = none) : Ext s0 (s.prv q o) :=
  ⟨e.F, e.ρ, e.w, fun a u h nl => by
    show upd s.H q o a = some u
    rw [upd_ne (ne_of_none h h0)]; exact e.keep a u h nl, fun a h => upd_there (e.there a h), e.fnew⟩
theorem Ext.notF (e : Ext s s1) {q : Addr} (hF : ¬ s.F q) (hρ : q ∉ s.ρ) (hH : s.H q ≠ none) : ¬ s1.F q ∧ q ∉ s1.ρ := by
  refine ⟨fun h => ?_, fun h => ?_⟩
  · rcases e.fnew q h with h | h | h
    · exact hF h
    · exact hH h
    · exact hρ h
  · obtain ⟨l, h1, h2⟩ := e.ρ
    rw [h1] at h
    rcases List.mem_append.mp h with h | h
    · exact hρ h
    · exact hH (h2 q h)
/-- a thing of one's own is now for all to see, for good; or as a cell -/
def S.own (s : S) (q : Addr) : S := ⟨fun a => s.F a ∨ a = q, s.ρ, s.w, s.H⟩
theorem S.own_ext {q : Addr} (e : Ext s0 s) (h0 : s0.H q = none) : Ext s0 (s.own q) :=
  ⟨fun a h => .inl (e.F a h), e.ρ, e.w, e.keep, e.there, fun a h => by
    rcases h with h | h
    · exact e.fnew a h
    · subst h; exact .inr (.inl h0)⟩
mutual
theorem Rep.own {q : Addr} : ∀ {v : V} {d : D}, Rep K s v d → Rep K (s.own q) v d
  | _, _, .non => .non
  | _, _, .bl b => .bl b
  | _, _, .int i => .int i
  | _, _, .str x => .str x
  | _, _, .lst hF1 h r => .lst (.inl hF1) h (RepA.own r)
  | _, _, .tup h r => .tup (h.imp (fun x => ⟨.inl x.1, x.2⟩) id) (RepA.own r)
  | _, _, .obj h => .obj h
  | _, _, .scr h => .scr (h.imp (fun x => ⟨.inl x.1, x.2⟩) id)
theorem RepA.own {q : Addr} : ∀ {vs : List V} {ds : List D}, RepA K s vs ds → RepA K (s.own q) vs ds
  | _, _, .nil => .nil
  | _, _, .cons h r => .cons (Rep.own h) (RepA.own r)
end
theorem RepF.own {κ : Type} {q : Addr} : ∀ {ps : List (κ × V)} {qs : List (κ × D)}, RepF K s ps qs → RepF K (s.own q) ps qs
  | [], [], _ => trivial
  | _ :: _, _ :: _, h => ⟨h.1, h.2.1.own, RepF.own h.2.2⟩
  | [], _ :: _, h => h.elim
  | _ :: _, [], h => h.elim
theorem S.own_ok {q : Addr} (ok : Ok K cl s) (hH : s.H q ≠ none) (hρ : q ∉ s.ρ) : Ok K cl (s.own q) := by
  refine ⟨ok.len, ok.nd, ok.trk, fun a ha => ?_, fun n a m hn hm => ?_, fun a hl ha => ?_⟩
  · rcases ha with ha | ha
    · exact ok.frz a ha
    · subst ha; exact hH
  · have r := ok.cell n a m hn hm
    cases m with
    | dead => trivial
    | lst xs => obtain ⟨vs, h1, h2⟩ := r; exact ⟨vs, h1, h2.own⟩
    | ins c fs => obtain ⟨C, dx, vfs, h0, h1, h2⟩ := r; exact ⟨C, dx, vfs, h0, h1, h2.own⟩
    | dct kvs => obtain ⟨vks, h1, h2⟩ := r; exact ⟨vks, h1, h2.own⟩
  · rcases ha with ha | ha
    · exact ok.dead a hl ha
    · subst ha
      obtain ⟨n, hn, _⟩ := hl
      exact hρ (List.mem_of_getElem? hn)
end
section
variable {X : Cx} {cl : Str → Option Addr} {EK : XK} {a b c e elt tg iter : Expr} {ma mb mc : En → Wd → R D} {na nb : En → Wd → R Bool} {mas : En → Wd → R (List D)} {pos p : Pos}
abbrev E00 : XK := fun _ _ _ => False
def STs (X : Cx) (cl : Str → Option Addr) (EK : XK) (ifs : List Expr) (m : En → Wd → R Bool) : Prop := PTs X ifs (tG X.K cl repB EK m)
theorem PTs.weak {ifs : List Expr} {t t' : TT} (h : PTs X ifs t) (i : ∀ σ H Q, t' σ H Q → t σ H Q) : PTs X ifs t' := ⟨fun pins s σ H Q I q => h.run pins s σ H Q I (i σ H Q q)⟩
theorem sts_nil : STs X cl EK [] bYes := PTs.weak pts_nil fun σ H Q h => by
  obtain ⟨s, σd, e, ok, re, p⟩ := h
  subst e
  exact p s true (Ext.refl s) ok rfl rfl
theorem sts_one (h : ST X cl EK c na) : STs X cl EK [c] na := pts_one h
/-- the loop of a comprehension: Qf what is wanted of the list made -/
theorem lc_core {K : PySem.W.Frag} {sl : List Nat} {own : List (Str × Nat)} {mi : En → Wd → R (List D)} {f : D → En → Wd → Option En} {mt : En → Wd → R Bool} {me : En → Wd → R D} (hsl : ∀ j ∈ sl, j ∈ own.map (·.2)) {σ : L2.St} {σd : En} {s : S} {Q : VK} (ok : Ok K cl s) (re : RepE K s σ σd)
    (Fin : List D → Wd → R D) (p : Post K cl (Rep K) EK s ((mi σd s.w).bind fun ds w1 => (lcL (own.map (·.2)) f mt me σd ds [] w1).bind Fin) Q)
    (fin : ∀ s0 s1 q vs xs, Ext s0 s1 → Ok K cl s1 → s0.H q = none → ¬ s1.F q → q ∉ s1.ρ → s1.H q = some (.lst vs) → RepA K s1 vs xs → Post K cl (Rep K) EK s0 (Fin xs s1.w) Q → Q (.ref q) s1.H) :
    tLc (tG K cl (repIt K cl) EK mi) (tTg K cl sl f) (tG K cl repB E00 mt) (tG K cl (Rep K) E00 me) (own.map (·.2)) σ s.H Q := by
  refine tG_of ok re (post_bind p fun s0 J ds ex0 ok0 rJ p0 => ?_)
  intro q hq
  have hF0 : ¬ s0.F q := fun z => ok0.frz q z hq
  have hρ0 : q ∉ s0.ρ := fun z => ok0.trk q z hq
  have re0 := re.mono ok ex0
  refine ⟨fun i mm H => ∃ s1 acc vs, mm = ds.length - i ∧ i ≤ ds.length ∧ s1.H = H ∧ Ext s0 s1 ∧ Ok K cl s1 ∧ ¬ s1.F q ∧ q ∉ s1.ρ ∧ s1.H q = some (.lst vs) ∧ RepA K s1 vs acc ∧ Post K cl (Rep K) EK s0 ((lcL (own.map (·.2)) f mt me σd (ds.drop i) acc s1.w).bind Fin) Q,
    ⟨ds.length, s0.prv q (.lst []), [], [], by simp, Nat.zero_le _, rfl, S.prv_ext (Ext.refl s0) hq, S.prv_ok ok0 hF0 hρ0, hF0, hρ0, upd_same, .nil, p0⟩, ?_⟩
  rintro i mm H1 ⟨s1, acc, vs, rfl, hle, rfl, e1, ok1, hF1, hρ1, hq1, ra, p1⟩
  obtain ⟨go, yl, stop⟩ := rJ s1 (e1.toF ok0) ok1
  by_cases hlt : i < ds.length
  · have hd : ds.drop i = ds[i] :: ds.drop (i + 1) := List.drop_eq_getElem_cons hlt
    rw [hd] at p1
    refine .inr ⟨go i hlt, fun H' => ∃ s2 acc2 vs2, s2.H = H' ∧ Ext s0 s2 ∧ Ok K cl s2 ∧ ¬ s2.F q ∧ q ∉ s2.ρ ∧ s2.H q = some (.lst vs2) ∧ RepA K s2 vs2 acc2 ∧ Post K cl (Rep K) EK s0 ((lcL (own.map (·.2)) f mt me σd (ds.drop (i + 1)) acc2 s2.w).bind Fin) Q,
      fun H' ⟨s2, acc2, vs2, b1, b2, b3, b4, b5, b6, b7, b8⟩ => ⟨ds.length - (i + 1), by omega, s2, acc2, vs2, rfl, hlt, b1, b2, b3, b4, b5, b6, b7, b8⟩, fun x H' hy => ?_⟩
    obtain ⟨s2, rfl, e2, ok2, w2, r2⟩ := yl i x H' ds[i] hy (List.getElem?_eq_getElem hlt)
    have nl : ¬ live s1 q := fun ⟨n, hn, _⟩ => hρ1 (List.mem_of_getElem? hn)
    have k2 := e2.notF hF1 hρ1 (by rw [hq1]; simp)
    have re2 : RepE K s2 (L2.wipe σ (own.map (·.2))) (wipeD σd (own.map (·.2))) := (re0.mono ok0 (e1.trans e2)).wipe _
    refine ⟨s2, _, ds[i], rfl, ok2, re2, r2, ?_⟩
    rw [w2]
    unfold lcL at p1
    cases q1 : f ds[i] (wipeD σd (own.map (·.2))) s1.w with
    | none => rw [q1] at p1; exact p1.elim
    | some τ1 =>
      rw [q1] at p1
      dsimp only at p1 ⊢
      intro σ' re' hl' hk'
      refine ⟨wipe_of hl' hk' hsl, s2, τ1, rfl, ok2, re', ?_⟩
      rw [w2]
      cases q2 : mt τ1 s1.w with
      | ok bb w3 =>
        rw [q2] at p1
        intro s3 b3 e3 ok3 hw rb
        subst rb
        have nl2 : ¬ live s2 q := fun ⟨n, hn, _⟩ => k2.2 (List.mem_of_getElem? hn)
        have k3 := e3.notF k2.1 k2.2 (by rw [e2.keep q _ hq1 nl]; simp)
        have nl3 : ¬ live s3 q := fun ⟨n, hn, _⟩ => k3.2 (List.mem_of_getElem? hn)
        have hq3 := e3.keep q _ (e2.keep q _ hq1 nl) nl2
        have ra3 := (ra.mono ok1 e2).mono ok2 e3
        cases b3 with
        | false => exact iteF ⟨s3, acc, vs, rfl, (e1.trans e2).trans e3, ok3, k3.1, k3.2, hq3, ra3, by rw [hw]; exact p1⟩
        | true =>
          refine iteT ⟨s3, τ1, rfl, ok3, re'.mono ok2 e3, ?_⟩
          rw [hw]
          dsimp only at p1
          cases q3 : me τ1 w3 with
          | ok y w4 =>
            rw [q3] at p1
            dsimp only at p1
            split at p1
            · rename_i hlen
              intro s4 v4 e4 ok4 hw4 r4
              have k4 := e4.notF k3.1 k3.2 (by rw [hq3]; simp)
              have hq4 := e4.keep q _ hq3 nl3
              have ra4 := ra3.mono ok3 e4
              refine ⟨vs, hq4, by rw [ra.length, sizeLine_eq]; exact hlen, s4.prv q (.lst (vs ++ [v4])), acc ++ [y], vs ++ [v4], rfl, S.prv_ext (((e1.trans e2).trans e3).trans e4) hq, S.prv_ok ok4 k4.1 k4.2, k4.1, k4.2, upd_same, (ra4.append (.cons r4 .nil)).prv k4.1, ?_⟩
              show Post K cl (Rep K) EK s0 ((lcL (own.map (·.2)) f mt me σd (ds.drop (i + 1)) (acc ++ [y]) s4.w).bind Fin) Q
              rw [hw4]
              exact p1
            · exact p1.elim
          | err c fs w4 => rw [q3] at p1; exact p1.elim
          | stuck => rw [q3] at p1; exact p1.elim
      | err c fs w3 => rw [q2] at p1; exact p1.elim
      | stuck => rw [q2] at p1; exact p1.elim
  · have hi' : i = ds.length := by omega
    subst hi'
    rw [List.drop_length] at p1
    exact .inl ⟨stop, fin s0 s1 q vs acc e1 ok1 hq hF1 hρ1 hq1 ra p1⟩
theorem lc_finL {K : PySem.W.Frag} {Q : VK} : ∀ (s0 s1 : S) (q : Addr) (vs : List V) (xs : List D), Ext s0 s1 → Ok K cl s1 → s0.H q = none → ¬ s1.F q → q ∉ s1.ρ → s1.H q = some (.lst vs) → RepA K s1 vs xs → Post K cl (Rep K) EK s0 (.ok (.lst xs) s1.w) Q → Q (.ref q) s1.H :=
  fun s0 s1 q vs xs e ok h0 hF hρ hq ra p => p (s1.own q) _ (S.own_ext e h0) (S.own_ok ok (by rw [hq]; simp) hρ) rfl (.lst (.inr rfl) hq ra.own)
/-- .. the new list as a cell -/
def S.ownC (s : S) (q : Addr) (m : MO) : S := ⟨s.F, s.ρ ++ [q], s.w ++ [m], s.H⟩
mutual
theorem Rep.ownC {K : PySem.W.Frag} {s : S} {q : Addr} {m : MO} : ∀ {v : V} {d : D}, Rep K s v d → Rep K (s.ownC q m) v d
  | _, _, .non => .non
  | _, _, .bl b => .bl b
  | _, _, .int i => .int i
  | _, _, .str x => .str x
  | _, _, .lst hF1 h r => .lst hF1 h (RepA.ownC r)
  | _, _, .tup h r => .tup h (RepA.ownC r)
  | _, _, .obj h => .obj (by show (s.ρ ++ [q])[_]? = _; rw [List.getElem?_append_left (List.getElem?_eq_some_iff.mp h).1]; exact h)
  | _, _, .scr h => .scr h
theorem RepA.ownC {K : PySem.W.Frag} {s : S} {q : Addr} {m : MO} : ∀ {vs : List V} {ds : List D}, RepA K s vs ds → RepA K (s.ownC q m) vs ds
  | _, _, .nil => .nil
  | _, _, .cons h r => .cons (Rep.ownC h) (RepA.ownC r)
end
theorem fin_cell {K : PySem.W.Frag} {Q : VK} (s0 s1 : S) (q : Addr) (x0 : MO) (e : Ext s0 s1) (ok : Ok K cl s1) (h0 : s0.H q = none) (hF : ¬ s1.F q) (hρ : q ∉ s1.ρ) (hq : s1.H q ≠ none) (ra : RepO K cl (s1.ownC q x0) q x0) (p : Post K cl (Rep K) EK s0 (.ok (.obj s1.w.length) (s1.w ++ [x0])) Q) : Q (.ref q) s1.H := by
  obtain ⟨l, hl, hn⟩ := e.ρ
  have up : ∀ {v : V} {d : D}, Rep K s1 v d → Rep K (s1.ownC q x0) v d := Rep.ownC
  have upA : ∀ {vs : List V} {ds : List D}, RepA K s1 vs ds → RepA K (s1.ownC q x0) vs ds := RepA.ownC
  have upF : ∀ {κ : Type} (ps : List (κ × V)) (qs : List (κ × D)), RepF K s1 ps qs → RepF K (s1.ownC q x0) ps qs := by
    intro κ ps
    induction ps with
    | nil => intro qs h; cases qs with | nil => trivial | cons _ _ => exact h.elim
    | cons x t ih => intro qs h; cases qs with | nil => exact h.elim | cons y u => exact ⟨h.1, up h.2.1, ih u h.2.2⟩
  have split : ∀ (n : Nat) (a : Addr), (s1.ρ ++ [q])[n]? = some a → (s1.ρ[n]? = some a ∧ (s1.w ++ [x0])[n]? = s1.w[n]?) ∨ (n = s1.ρ.length ∧ a = q ∧ (s1.w ++ [x0])[n]? = some x0) := fun n a hn => by
    by_cases hl : n < s1.ρ.length
    · rw [List.getElem?_append_left hl] at hn
      exact .inl ⟨hn, List.getElem?_append_left (by rw [← ok.len]; exact hl)⟩
    · have e : n = s1.ρ.length := by
        have := (List.getElem?_eq_some_iff.mp hn).1
        rw [List.length_append, List.length_singleton] at this
        omega
      subst e
      rw [List.getElem?_append_right (Nat.le_refl _), Nat.sub_self] at hn
      have e2 : q = a := Option.some.inj hn
      refine .inr ⟨rfl, e2.symm, ?_⟩
      rw [List.getElem?_append_right (by rw [ok.len]; exact Nat.le_refl _), ok.len, Nat.sub_self]
      rfl
  refine p (s1.ownC q x0) _ ?_ ?_ rfl (.obj ?_)
  · refine ⟨e.F, ⟨l ++ [q], by show s1.ρ ++ [q] = _; rw [hl, List.append_assoc], fun a ha => ?_⟩, fun n h => ?_, e.keep, e.there, e.fnew⟩
    · rcases List.mem_append.mp ha with ha | ha
      · exact hn a ha
      · rw [List.mem_singleton.mp ha]; exact h0
    · have := e.w n h
      show (s1.w ++ [x0])[n]? = some MO.dead
      rw [List.getElem?_append_left (List.getElem?_eq_some_iff.mp this).1]; exact this
  · refine ⟨?_, ?_, fun a ha => ?_, ok.frz, fun n a m hn hm => ?_, fun a hv ha => ?_⟩
    · show (s1.ρ ++ [q]).length = (s1.w ++ [x0]).length
      rw [List.length_append, List.length_append, ok.len]; rfl
    · refine List.nodup_append.mpr ⟨ok.nd, by simp, fun a ha b hb => ?_⟩
      rw [List.mem_singleton.mp hb]
      exact fun z => hρ (by rw [← z]; exact ha)
    · rcases List.mem_append.mp ha with ha | ha
      · exact ok.trk a ha
      · rw [List.mem_singleton.mp ha]; exact hq
    · rcases split n a hn with ⟨h1, h2⟩ | ⟨_, rfl, h2⟩
      · have hm' : s1.w[n]? = some m := by rw [← h2]; exact hm
        have r := ok.cell n a m h1 hm'
        cases m with
        | dead => trivial
        | lst ys => obtain ⟨us, g1, g2⟩ := r; exact ⟨us, g1, upA g2⟩
        | ins c fs => obtain ⟨C, dx, vfs, g0, g1, g2⟩ := r; exact ⟨C, dx, vfs, g0, g1, upF _ _ g2⟩
        | dct kvs => obtain ⟨vks, g1, g2⟩ := r; exact ⟨vks, g1, upF _ _ g2⟩
      · have em : m = x0 := by
          change (s1.w ++ [x0])[n]? = some m at hm
          rw [h2] at hm; exact (Option.some.inj hm).symm
        subst em
        exact ra
    · obtain ⟨n, hn, hd⟩ := hv
      rcases split n a hn with ⟨h1, h2⟩ | ⟨_, rfl, _⟩
      · exact ok.dead a ⟨n, h1, fun z => hd (by
          show (s1.w ++ [x0])[n]? = some MO.dead
          rw [h2]; exact z)⟩ ha
      · exact hF ha
  · show (s1.ρ ++ [q])[s1.w.length]? = some q
    rw [← ok.len, List.getElem?_append_right (Nat.le_refl _), Nat.sub_self]
    rfl
theorem lc_finM {K : PySem.W.Frag} {Q : VK} : ∀ (s0 s1 : S) (q : Addr) (vs : List V) (xs : List D), Ext s0 s1 → Ok K cl s1 → s0.H q = none → ¬ s1.F q → q ∉ s1.ρ → s1.H q = some (.lst vs) → RepA K s1 vs xs → Post K cl (Rep K) EK s0 (.ok (.obj s1.w.length) (s1.w ++ [.lst xs])) Q → Q (.ref q) s1.H :=
  fun s0 s1 q vs xs e ok h0 hF hρ hq ra p => fin_cell s0 s1 q (.lst xs) e ok h0 hF hρ (by rw [hq]; simp) ⟨vs, hq, ra.ownC⟩ p
theorem se_lc {sl : List Nat} {ifs : List Expr} {scope : Scope} {own : List (Str × Nat)} {mi : En → Wd → R (List D)} {f : D → En → Wd → Option En} {mt : En → Wd → R Bool} {me : En → Wd → R D} (hc : X.calm = true) (hN : X.N.Nodup) (hi : SI X cl EK tg iter mi) (ok : BlkOk X.N X.env.scope scope own)
    (hg : ∀ (s : Shared) (H : Hp) (C : Addr) (cc : List (Str × Addr)) (fp : List Addr), SG (X.blk s H scope (compEnvC scope cc C X.env) fp) cl tg sl f) (ht : ∀ (s : Shared) (H : Hp) (C : Addr) (cc : List (Str × Addr)) (fp : List Addr), STs (X.blk s H scope (compEnvC scope cc C X.env) fp) cl E00 ifs mt)
    (he : ∀ (s : Shared) (H : Hp) (C : Addr) (cc : List (Str × Addr)) (fp : List Addr), SE (X.blk s H scope (compEnvC scope cc C X.env) fp) cl E00 elt me) (hsl : ∀ j ∈ sl, j ∈ own.map (·.2) := by decide) (hs : ∀ x, foldedSetIterable iter X.env x = pure x := by intro _; rfl) :
    SE X cl EK (.ListComp elt [⟨tg, iter, ifs, 0⟩] scope pos) (mLc mi (own.map (·.2)) f mt me) :=
  PE.weak (pe_lc (g := tTg X.K cl sl f) (tt := tG X.K cl repB E00 mt) (te := tG X.K cl (Rep X.K) E00 me) hc hN hi ok hg ht he hs) fun σ H Q ⟨s, σd, e, ok, re, p⟩ => by
    subst e
    exact lc_core hsl ok re (fun xs w2 => .ok (.lst xs) w2) p lc_finL
theorem se_lcM {sl : List Nat} {ifs : List Expr} {scope : Scope} {own : List (Str × Nat)} {mi : En → Wd → R (List D)} {f : D → En → Wd → Option En} {mt : En → Wd → R Bool} {me : En → Wd → R D} (hc : X.calm = true) (hN : X.N.Nodup) (hi : SI X cl EK tg iter mi) (ok : BlkOk X.N X.env.scope scope own)
    (hg : ∀ (s : Shared) (H : Hp) (C : Addr) (cc : List (Str × Addr)) (fp : List Addr), SG (X.blk s H scope (compEnvC scope cc C X.env) fp) cl tg sl f) (ht : ∀ (s : Shared) (H : Hp) (C : Addr) (cc : List (Str × Addr)) (fp : List Addr), STs (X.blk s H scope (compEnvC scope cc C X.env) fp) cl E00 ifs mt)
    (he : ∀ (s : Shared) (H : Hp) (C : Addr) (cc : List (Str × Addr)) (fp : List Addr), SE (X.blk s H scope (compEnvC scope cc C X.env) fp) cl E00 elt me) (hsl : ∀ j ∈ sl, j ∈ own.map (·.2) := by decide) (hs : ∀ x, foldedSetIterable iter X.env x = pure x := by intro _; rfl) :
    SE X cl EK (.ListComp elt [⟨tg, iter, ifs, 0⟩] scope pos) (mLcM mi (own.map (·.2)) f mt me) :=
  PE.weak (pe_lc (g := tTg X.K cl sl f) (tt := tG X.K cl repB E00 mt) (te := tG X.K cl (Rep X.K) E00 me) hc hN hi ok hg ht he hs) fun σ H Q ⟨s, σd, e, ok, re, p⟩ => by
    subst e
    exact lc_core hsl ok re (fun xs w2 => .ok (.obj w2.length) (w2 ++ [MO.lst xs])) p lc_finM
/-- name = [..] -/
theorem ss_setLc {i : Nat} {y : Str} {py spos : Pos} {sl : List Nat} {ifs : List Expr} {scope : Scope} {own : List (Str × Nat)} {mi : En → Wd → R (List D)} {f : D → En → Wd → Option En} {mt : En → Wd → R Bool} {me : En → Wd → R D} (hc : X.calm = true) (hN : X.N.Nodup) (hy : X.N[i]? = some y) (hyl : X.env.scope.names.lookup y = some .local)
    (hsw : swapsWith (.ListComp elt [⟨tg, iter, ifs, 0⟩] scope pos) (some (.Name y py)) spos.line X.env = pure true) (hi : SI X cl EK tg iter mi) (ok : BlkOk X.N X.env.scope scope own)
    (hg : ∀ (s : Shared) (H : Hp) (C : Addr) (cc : List (Str × Addr)) (fp : List Addr), SG (X.blk s H scope (compEnvC scope cc C X.env) fp) cl tg sl f) (ht : ∀ (s : Shared) (H : Hp) (C : Addr) (cc : List (Str × Addr)) (fp : List Addr), STs (X.blk s H scope (compEnvC scope cc C X.env) fp) cl E00 ifs mt)
    (he : ∀ (s : Shared) (H : Hp) (C : Addr) (cc : List (Str × Addr)) (fp : List Addr), SE (X.blk s H scope (compEnvC scope cc C X.env) fp) cl E00 elt me) (hsl : ∀ j ∈ sl, j ∈ own.map (·.2) := by decide) (hs : ∀ x, foldedSetIterable iter X.env x = pure x := by intro _; rfl) :
    SS X cl EK (.Assign [.Name y py] (.ListComp elt [⟨tg, iter, ifs, 0⟩] scope pos) spos) (mAsg (mLc mi (own.map (·.2)) f mt me) (gNm i)) :=
  PS.weak (ps_setLc (g := tTg X.K cl sl f) (tt := tG X.K cl repB E00 mt) (te := tG X.K cl (Rep X.K) E00 me) hc hN hy hyl hsw hi ok hg ht he hs) fun D σ H ⟨s, σd, e, ok, re, p⟩ => by
    subst e
    refine lc_core (EK := EK) (cl := cl) hsl ok re (fun xs w2 => .ok (.lst xs) w2) (Q := fun x H1 => D.nx (σ.set i (some x)) H1) ?_ lc_finL
    exact posts_bind (rep := Rep X.K) p fun s' v d ex ok' r p' => p' s' _ (Ext.refl s') ok' rfl ((re.mono ok ex).set i r)
theorem ss_setLcM {i : Nat} {y : Str} {py spos : Pos} {sl : List Nat} {ifs : List Expr} {scope : Scope} {own : List (Str × Nat)} {mi : En → Wd → R (List D)} {f : D → En → Wd → Option En} {mt : En → Wd → R Bool} {me : En → Wd → R D} (hc : X.calm = true) (hN : X.N.Nodup) (hy : X.N[i]? = some y) (hyl : X.env.scope.names.lookup y = some .local)
    (hsw : swapsWith (.ListComp elt [⟨tg, iter, ifs, 0⟩] scope pos) (some (.Name y py)) spos.line X.env = pure true) (hi : SI X cl EK tg iter mi) (ok : BlkOk X.N X.env.scope scope own)
    (hg : ∀ (s : Shared) (H : Hp) (C : Addr) (cc : List (Str × Addr)) (fp : List Addr), SG (X.blk s H scope (compEnvC scope cc C X.env) fp) cl tg sl f) (ht : ∀ (s : Shared) (H : Hp) (C : Addr) (cc : List (Str × Addr)) (fp : List Addr), STs (X.blk s H scope (compEnvC scope cc C X.env) fp) cl E00 ifs mt)
    (he : ∀ (s : Shared) (H : Hp) (C : Addr) (cc : List (Str × Addr)) (fp : List Addr), SE (X.blk s H scope (compEnvC scope cc C X.env) fp) cl E00 elt me) (hsl : ∀ j ∈ sl, j ∈ own.map (·.2) := by decide) (hs : ∀ x, foldedSetIterable iter X.env x = pure x := by intro _; rfl) :
    SS X cl EK (.Assign [.Name y py] (.ListComp elt [⟨tg, iter, ifs, 0⟩] scope pos) spos) (mAsg (mLcM mi (own.map (·.2)) f mt me) (gNm i)) :=
  PS.weak (ps_setLc (g := tTg X.K cl sl f) (tt := tG X.K cl repB E00 mt) (te := tG X.K cl (Rep X.K) E00 me) hc hN hy hyl hsw hi ok hg ht he hs) fun D σ H ⟨s, σd, e, ok, re, p⟩ => by
    subst e
    refine lc_core (EK := EK) (cl := cl) hsl ok re (fun xs w2 => .ok (.obj w2.length) (w2 ++ [MO.lst xs])) (Q := fun x H1 => D.nx (σ.set i (some x)) H1) ?_ lc_finM
    exact posts_bind (rep := Rep X.K) p fun s' v d ex ok' r p' => p' s' _ (Ext.refl s') ok' rfl ((re.mono ok ex).set i r)
/-! ### own defs -/
def spOf (K : PySem.W.Frag) (cl : Str → Option Addr) (G : List D → Wd → R D) : Sp := fun vs H Q E => ∃ s ds, s.H = H ∧ Ok K cl s ∧ RepA K s vs ds ∧ Post K cl (Rep K) E s (G ds s.w) Q
/-- the def f of the text does what G says -/
abbrev SF (P : Program) (w : World) (K : PySem.W.Frag) (cl : Str → Option Addr) (mg : Str → Option Value) (base : Heap) (k : Nat) (f : Addr) (fd : FuncData) (ps : List Str) (G : List D → Wd → R D) : Prop := FnOk P w K mg base (L2.CX P w) k f fd ps (spOf K cl G)
theorem SF.imp {P : Program} {w : World} {K : PySem.W.Frag} {mg : Str → Option Value} {base : Heap} {k : Nat} {f : Addr} {fd : FuncData} {ps : List Str} {G G' : List D → Wd → R D} (F : SF P w K cl mg base k f fd ps G) (h : ∀ ds w, G' ds w = .stuck ∨ G' ds w = G ds w) : SF P w K cl mg base k f fd ps G' :=
  FnOk.imp F fun vs H Q E ⟨s, ds, a, b, c, p⟩ => ⟨s, ds, a, b, c, by
    rcases h ds s.w with e | e
    · rw [e] at p; exact p.elim
    · rw [e] at p; exact p⟩
theorem se_fn {k : Nat} {f : Addr} {fd : FuncData} {ps : List Str} {G : List D → Wd → R D} {x : Str} {es : List Expr} (F : SF X.prog X.w X.K cl X.mg X.base k f fd ps G) (hr : Room k X.A) (hg : Gl X x) (hm : X.mg x = some (.ref f)) (hk : PySem.W.keepIn X.K (.ref f) = true) (hb : Binds X.K fd ps []) (hx : Passes (L2.CX X.prog X.w) X EK)
    (ha : SA X cl EK (a :: es) mas) (hdb : (x == ("__debug__" : Str)) = false := by decide) (he : starEach (a :: es) X.env = (false, eval a X.env) :: starEach es X.env := by rfl) (hpl : (backTo pos (starEach es X.env)).any (·.1) = false := by rfl) :
    SE X cl EK (.Call (.Name x p) (a :: es) [] pos) (mCall G mas) :=
  PE.weak (pe_call F hr hg hm hk hb .nil hx ha hdb he hpl) fun σ H Q h => tG_imp (tG_bind h) fun xs H1 ⟨s, σd, u, e, ok, re, ru, p⟩ => by
    subst e
    exact ⟨s, u, rfl, ok, by rw [List.append_nil]; exact ru, p⟩
def startD (n : Nat) (ds : List D) : En := ds.map some ++ List.replicate (n - ds.length) none
/-- what a def's body makes of its arguments: n names, k of them parameters -/
def fnD (n k : Nat) (m : En → Wd → SR) : List D → Wd → R D := fun ds w => if ds.length = k then (match m (startD n ds) w with
  | .next _ w1 => .ok .non w1
  | .ret d w1 => .ok d w1
  | .err c fs w1 => .err c fs w1
  | _ => .stuck) else .stuck
theorem start_rep {K : PySem.W.Frag} {s : S} {vs : List V} {ds : List D} (r : RepA K s vs ds) (N : List Str) : RepE K s (L2.start N vs) (startD N.length ds) := by
  refine ⟨by unfold L2.start startD; rw [List.length_append, List.length_append, List.length_map, List.length_map, List.length_replicate, List.length_replicate, r.length], fun i d h => ?_⟩
  unfold startD at h
  by_cases hi : i < ds.length
  · rw [List.getElem?_append_left (by rw [List.length_map]; exact hi), List.getElem?_map] at h
    cases q : ds[i]? with
    | none => rw [q] at h; cases h
    | some d0 =>
      rw [q] at h
      cases h
      obtain ⟨v, hv, rv⟩ := r.get q
      refine ⟨v, ?_, rv⟩
      unfold L2.start
      rw [List.getElem?_append_left (by rw [List.length_map, r.length]; exact hi), List.getElem?_map, hv]
      rfl
  · rw [List.getElem?_append_right (by rw [List.length_map]; omega), List.getElem?_replicate] at h
    split at h <;> cases h
theorem sf_mk {P : Program} {w : World} {K : PySem.W.Frag} {mg : Str → Option Value} {base : Heap} {x qual : Str} {st : Stmt} {f : Addr} {fd : FuncData} {N ps : List Str} {k n j : Nat} {m : En → Wd → SR} (F : Fun K x qual st f fd) (S : FnScope N ps (defScope st)) (hn : N.length = n) (hj : ps.length = j)
    (body : ∀ (cdv : Value) (A : Around) (outer : List Env) (s : Shared) (H : Hp) (E : XK), Room k (A.deeper (envOfC qual (defScope st) s.heap.objs.size f cdv)) → SB (cxOf (L2.CX P w) P w K mg base N qual (defScope st) f cdv A outer s H E) cl E (defBody st) m) : SF P w K cl mg base (k + 1) f fd ps (fnD n j m) := by
  refine F.okX S (fun vs H Q E ⟨s, ds, _, _, r, p⟩ => ?_) (fun cdv A outer s H vs Q E hr h => ⟨_, body cdv A outer s H E hr, ?_⟩)
  · rw [r.length]
    by_cases e : ds.length = j
    · rw [e, hj]
    · unfold fnD at p; rw [if_neg e] at p; exact p.elim
  · obtain ⟨s0, ds, e0, ok, r, p⟩ := h
    subst e0
    unfold fnD at p
    by_cases e : ds.length = j
    · rw [if_pos e] at p
      refine ⟨s0, startD n ds, rfl, ok, by rw [← hn]; exact start_rep r N, ?_⟩
      cases q : m (startD n ds) s0.w with
      | next σ1 w1 => rw [q] at p; exact fun s' σ' ex ok' hw re' => p s' .non ex ok' hw .non
      | ret d w1 => rw [q] at p; exact p
      | brk σ1 w1 => rw [q] at p; exact p.elim
      | cnt σ1 w1 => rw [q] at p; exact p.elim
      | err c fs w1 => rw [q] at p; exact p
      | stuck => rw [q] at p; exact p.elim
    · rw [if_neg e] at p; exact p.elim
end
end Si

set_option Elab.async false
set_option linter.all false
set_option autoImplicit false
set_option maxRecDepth 100000
set_option maxHeartbeats 4000000
/-! Si9: lists that change in their cells; join. -/
namespace Si
open PySem L2 PyProof.Rows
section
variable {K : PySem.W.Frag} {cl : Str → Option Addr} {s : S} {EK : XK}
/-- the list in a cell -/
def cellL (u : D) (w : Wd) : Option (Nat × List D) := match u with
  | .obj n => match w[n]? with
    | some (.lst ds) => some (n, ds)
    | _ => none
  | _ => none
theorem cell_of {v : V} {u : D} {n : Nat} {ds : List D} (ok : Ok K cl s) (r : Rep K s v u) (h : cellL u s.w = some (n, ds)) : ∃ a vs, v = .ref a ∧ s.ρ[n]? = some a ∧ s.H a = some (.lst vs) ∧ RepA K s vs ds ∧ s.w[n]? ≠ some MO.dead := by
  unfold cellL at h
  split at h
  · rename_i m
    split at h
    · rename_i ds' hw
      cases h
      cases r with
      | obj hn =>
        obtain ⟨vs, h1, h2⟩ := ok.cell _ _ _ hn hw
        exact ⟨_, vs, rfl, hn, h1, h2, by rw [hw]; simp⟩
    · cases h
  · cases h
theorem post_wr {rep : S → V → D → Prop} {Q : VK} {n : Nat} {a : Addr} {vs : List V} {ds : List D} {d : D} {v : V} (ok : Ok K cl s) (hn : s.ρ[n]? = some a) (hd : s.w[n]? ≠ some MO.dead) (r : RepA K s vs ds) (p : Post K cl rep EK s (.ok d (s.w.set n (.lst ds))) Q) (rv : rep (s.wr n a (.lst vs) (.lst ds)) v d) : Q v (upd s.H a (.lst vs)) := by
  have ex : Ext s (s.wr n a (.lst vs) (.lst ds)) := S.wr_ext ok hn hd
  exact p (s.wr n a (.lst vs) (.lst ds)) v ex (S.wr_ok ok hn hd ⟨vs, upd_same, r.mono ok ex⟩) rfl rv
end
section
variable {X : Cx} {cl : Str → Option Addr} {EK : XK} {a b c o i e : Expr} {ma mb mo mi me : En → Wd → R D} {mas : En → Wd → R (List D)} {pos p apos cpos spos : Pos} {es : List Expr}
/-- o[i] = e -/
def mSetI (me mo mi : En → Wd → R D) : En → Wd → SR := fun σd w => (me σd w).toS fun d w1 => (mo σd w1).toS fun u w2 => (mi σd w2).toS fun j w3 => match cellL u w3, j with
  | some (n, ds), .int k => match ixN ds.length k with
    | some j => .next σd (w3.set n (.lst (ds.set j d)))
    | none => .stuck
  | _, _ => .stuck
theorem ss_setI (he : SE X cl EK e me) (ho : SE X cl EK o mo) (hi : SE X cl EK i mi) (hs : swapsWithSole [.Subscript o i spos] e pos.line X.env = pure false := by rfl) (hw : swappedStores [.Subscript o i spos] e X.env = pure none := by rfl)
    (h1 : (assignEach [.Subscript o i spos] X.env).map (·.2) = [assign (.Subscript o i spos) X.env] := by rfl) (ha : ∀ v, assign (.Subscript o i spos) X.env v = (do
      let ov ← holding [v] (eval o X.env)
      let iv ← holding [v, ov] (eval i X.env)
      standAt spos
      holding [v, ov, iv] (setItem ov iv v)
      release [v, ov, iv] []) := by intro _; rfl) : SS X cl EK (.Assign [.Subscript o i spos] e pos) (mSetI me mo mi) := PS.weak (ps_asg he (pg_sub ho hi set_list ha) hs hw h1) fun D σ H ⟨s, σd, e, ok, re, p⟩ => by
  subst e
  refine tG_of ok re (posts_bind p fun s1 v d ex1 ok1 r1 p1 => ?_)
  refine tG_of ok1 (re.mono ok ex1) (posts_bind p1 fun s2 x u ex2 ok2 r2 p2 => ?_)
  refine tG_of ok2 ((re.mono ok ex1).mono ok1 ex2) (posts_bind p2 fun s3 y j ex3 ok3 r3 p3 => ?_)
  split at p3
  · rename_i n ds k hc
    rw [rep_int r3]
    obtain ⟨q, vs, rfl, hn, hH, ra, hd⟩ := cell_of ok3 (r2.mono ok2 ex3) hc
    split at p3
    · rename_i j hj
      have rd := (r1.mono ok1 ex2).mono ok2 ex3
      refine ⟨q, vs, k, j, rfl, rfl, hH, by rw [ra.length]; exact hj, ?_⟩
      have ex : Ext s3 (s3.wr n q (.lst (vs.set j v)) (.lst (ds.set j d))) := S.wr_ext ok3 hn hd
      exact p3 _ σ ex (S.wr_ok ok3 hn hd ⟨_, upd_same, (ra.set j rd).mono ok3 ex⟩) rfl ((((re.mono ok ex1).mono ok1 ex2).mono ok2 ex3).mono ok3 ex)
    · exact p3.elim
  · exact p3.elim
/-- o.append(e) -/
def mApp (mo me : En → Wd → R D) : En → Wd → R D := fun σd w => (mo σd w).bind fun u w1 => match cellL u w1 with
  | none => .stuck
  | some _ => (me σd w1).bind fun d w2 => match cellL u w2 with
    | some (n, ds) => if ds.length < 16777216 then .ok .non (w2.set n (.lst (ds ++ [d]))) else .stuck
    | none => .stuck
theorem se_append (ho : SE X cl EK o mo) (he : SE X cl EK e me) (hbase : attributeBase o "append" X.env (eval o X.env) = eval o X.env := by rfl)
    (hfew : ((backTo cpos (starEach [e] X.env)).all (fun x => !x.1) && (backToKw cpos (keywordEach [] X.env)).all (fun x => x.1.isSome)
      && decide ([e].length + ([] : List Keyword).length + (if ([] : List Keyword).isEmpty then 0 else 1) < 30)) = true := by rfl)
    (hline : (apos.endLine == cpos.line) = true := by rfl) (hs : starEach [e] X.env = (false, eval e X.env) :: starEach [] X.env := by rfl) (hplain : (backTo cpos (starEach [] X.env)).any (·.1) = false := by rfl) :
    SE X cl EK (.Call (.Attribute o "append" apos) [e] [] cpos) (mApp mo me) :=
  PE.weak (pe_bm PySem.F.plainAttrs_list PySem.F.slot_list_append PySem.F.type_list_append mt_append ho (pa_cons he pa_nil hs) hbase hfew hline hs hplain) fun σ H Q h => tG_imp (tG_bind h) fun x H1 ⟨s, σd, u, e, ok, re, ru, p⟩ => by
    subst e
    dsimp only at p
    split at p
    · exact p.elim
    · rename_i nd hc
      obtain ⟨n, ds⟩ := nd
      obtain ⟨q, vs, rfl, hn, hH, ra, hd⟩ := cell_of ok ru hc
      refine ⟨.inl ⟨rfl, _, SqL.of hH⟩, tG_of ok re (post_bind p fun s2 v d ex2 ok2 r2 p2 => ?_)⟩
      split at p2
      · rename_i n2 ds2 hc2
        obtain ⟨q2, vs2, e2, hn2, hH2, ra2, hd2⟩ := cell_of ok2 (ru.mono ok ex2) hc2
        cases e2
        split at p2
        · rename_i hl
          exact ⟨q, vs2, v, rfl, rfl, hH2, by rw [ra2.length, sizeLine_eq]; exact hl, post_wr ok2 hn2 hd2 (ra2.append (.cons r2 .nil)) p2 .non⟩
        · exact p2.elim
      · exact p2.elim
/-- o.pop(i) -/
def mPopAt (mo mi : En → Wd → R D) : En → Wd → R D := fun σd w => (mo σd w).bind fun u w1 => match cellL u w1 with
  | none => .stuck
  | some _ => (mi σd w1).bind fun d w2 => match cellL u w2, d with
    | some (n, ds), .int k => if -(2 ^ 63) ≤ k ∧ k < 2 ^ 63 then (match ixN ds.length k with
      | some j => match ds[j]? with
        | some y => .ok y (w2.set n (.lst (ds.eraseIdx j)))
        | none => .stuck
      | none => .stuck) else .stuck
    | _, _ => .stuck
theorem RepA.eraseIdx {K : PySem.W.Frag} {s : S} : ∀ {vs : List V} {ds : List D} (i : Nat), RepA K s vs ds → RepA K s (vs.eraseIdx i) (ds.eraseIdx i)
  | _, _, _, .nil => .nil
  | _, _, 0, .cons _ r => r
  | _, _, i + 1, .cons h r => .cons h (RepA.eraseIdx i r)
theorem se_popAt (ho : SE X cl EK o mo) (he : SE X cl EK e me) (hbase : attributeBase o "pop" X.env (eval o X.env) = eval o X.env := by rfl)
    (hfew : ((backTo cpos (starEach [e] X.env)).all (fun x => !x.1) && (backToKw cpos (keywordEach [] X.env)).all (fun x => x.1.isSome)
      && decide ([e].length + ([] : List Keyword).length + (if ([] : List Keyword).isEmpty then 0 else 1) < 30)) = true := by rfl)
    (hline : (apos.endLine == cpos.line) = true := by rfl) (hs : starEach [e] X.env = (false, eval e X.env) :: starEach [] X.env := by rfl) (hplain : (backTo cpos (starEach [] X.env)).any (·.1) = false := by rfl) :
    SE X cl EK (.Call (.Attribute o "pop" apos) [e] [] cpos) (mPopAt mo me) :=
  PE.weak (pe_bm PySem.F.plainAttrs_list PySem.F.slot_list_pop PySem.F.type_list_pop mt_popAt ho (pa_cons he pa_nil hs) hbase hfew hline hs hplain) fun σ H Q h => tG_imp (tG_bind h) fun x H1 ⟨s, σd, u, e, ok, re, ru, p⟩ => by
    subst e
    dsimp only at p
    split at p
    · exact p.elim
    · rename_i nd hc
      obtain ⟨n, ds⟩ := nd
      obtain ⟨q, vs, rfl, hn, hH, ra, hd⟩ := cell_of ok ru hc
      refine ⟨.inl ⟨rfl, _, SqL.of hH⟩, tG_of ok re (post_bind p fun s2 v d ex2 ok2 r2 p2 => ?_)⟩
      split at p2
      · rename_i n2 ds2 k hc2
        rw [rep_int r2]
        obtain ⟨q2, vs2, e2, hn2, hH2, ra2, hd2⟩ := cell_of ok2 (ru.mono ok ex2) hc2
        cases e2
        split at p2
        · rename_i hb
          split at p2
          · rename_i j hj
            split at p2
            · rename_i y hy
              obtain ⟨v0, hv0, rv0⟩ := ra2.get hy
              refine ⟨q, vs2, k, j, v0, rfl, rfl, hH2, hb.1, hb.2, by rw [ra2.length]; exact (ixN_seq hj).1, hv0, post_wr ok2 hn2 hd2 (ra2.eraseIdx j) p2 ?_⟩
              exact rv0.mono ok2 (S.wr_ext ok2 hn2 hd2)
            · exact p2.elim
          · exact p2.elim
        · exact p2.elim
      · exact p2.elim
/-- sep.join(xs) -/
def stA : List D → Option (List Str)
  | [] => some []
  | .str b :: r => (stA r).map (b :: ·)
  | _ :: _ => none
theorem stA_of {K : PySem.W.Frag} {s : S} : ∀ {vs : List V} {ds : List D} {bs : List Str}, RepA K s vs ds → stA ds = some bs → vs = bs.map V.str
  | _, _, _, .nil, h => by cases h; rfl
  | _, _, bs, .cons (d := d) h r, e => by
    cases h with
    | str b =>
      rw [stA] at e
      cases q : stA _ with
      | none => rw [q] at e; cases e
      | some l =>
        rw [q] at e
        cases e
        rw [stA_of r q]
        rfl
    | _ => cases e
def gJoin : D → D → Wd → R D := fun u v w => match u with
  | .str a => match (seqD v w).bind stA with
    | some ys => if (ys.map (·.length)).sum + ys.length * a.length ≤ 16777216 then .ok (.str (Txt.join a ys)) w else .stuck
    | none => .stuck
  | _ => .stuck
def mJoin (mo me : En → Wd → R D) : En → Wd → R D := fun σd w => (mo σd w).bind fun u w1 => match u with
  | .str a => (me σd w1).bind fun v w2 => gJoin (.str a) v w2
  | _ => .stuck
theorem se_join (ho : SE X cl EK o mo) (he : SE X cl EK e me) (hs : starEach [e] X.env = [(false, eval e X.env)] := by rfl) (hbase : attributeBase o "join" X.env (eval o X.env) = eval o X.env := by rfl) (hline : (apos.endLine == pos.line) = true := by rfl) :
    SE X cl EK (.Call (.Attribute o "join" apos) [e] [] pos) (mJoin mo me) :=
  PE.weak (pe_join ho he hs hbase hline) fun σ H Q h => tG_imp (tG_bind h) fun x H1 ⟨s, σd, u, e, ok, re, ru, p⟩ => by
    subst e
    dsimp only at p
    split at p
    · rename_i a
      rw [rep_str ru]
      refine ⟨⟨a, rfl⟩, tG_of ok re (post_bind p fun s2 v d ex2 ok2 r2 p2 => ?_)⟩
      unfold gJoin at p2
      dsimp only at p2
      split at p2
      · rename_i ys hys
        split at p2
        · rename_i hl
          cases q : seqD d s2.w with
          | none => rw [q] at hys; cases hys
          | some ds =>
            rw [q] at hys
            obtain ⟨l, vs, rfl, h1, ra⟩ := seq_of ok2 r2 q
            rw [stA_of ra hys] at h1
            exact ⟨a, l, ys, rfl, rfl, h1, hl, post_here ok2 p2 (.str _)⟩
        · exact p2.elim
      · exact p2.elim
    · exact p.elim
/-- a name of the module that holds a written value -/
theorem se_glob {x : Str} {v : V} {d : D} {u : Value} (hg : Gl X x) (hm : X.mg x = some u) (r : RelV v u) (rd : ∀ s, Rep X.K s v d) (hdb : (x == ("__debug__" : Str)) = false := by decide) : SE X cl EK (.Name x pos) (mC d) := se_c (pe_glob hg hm r hdb) rd
end
end Si

set_option Elab.async false
set_option linter.all false
set_option autoImplicit false
set_option maxRecDepth 100000
set_option maxHeartbeats 4000000
/-! Si10: a def as it stands, constants of the module, calls with keywords. -/
namespace Si
open PySem L2 PyProof.Rows
theorem hu64 {k : Nat} {A : Around} (r : Room k A) : A.units + 64 < cLine := r.units
theorem hu65 {k : Nat} {A : Around} (r : Room k A) : A.units + 65 < cLine := by have := r.un; omega
/-- the module's name x holds the written value d -/
def CN (K : PySem.W.Frag) (mg : Str → Option Value) (x : Str) (d : D) : Prop := ∃ u v, mg x = some u ∧ RelV v u ∧ ∀ s, Rep K s v d
/-- a def of the text, what it does -/
structure At (P : Program) (w : World) (K : PySem.W.Frag) (cl : Str → Option Addr) (mg : Str → Option Value) (base : Heap) (k : Nat) (x : Str) (st : Stmt) (ps : List Str) (f : Addr) (fd : FuncData) (G : List D → Wd → R D) : Prop where
  F : Fun K x x st f fd
  g : mg x = some (.ref f)
  b : Binds K fd ps []
  ok : SF P w K cl mg base k f fd ps G
section
variable {X : Cx} {cl : Str → Option Addr} {EK : XK} {a : Expr} {ma : En → Wd → R D} {mas mks : En → Wd → R (List D)} {pos p kpos : Pos} {es : List Expr} {x : Str} {kws : List Keyword} {nm : Option Str}
theorem se_cn {d : D} (hg : Gl X x) (h : CN X.K X.mg x d) (hdb : (x == ("__debug__" : Str)) = false := by decide) : SE X cl EK (.Name x pos) (mC d) := by
  obtain ⟨u, v, h1, h2, h3⟩ := h
  exact se_glob hg h1 h2 h3 hdb
def SK (X : Cx) (cl : Str → Option Addr) (EK : XK) (kws : List Keyword) (m : En → Wd → R (List D)) : Prop := PK X kws (tG X.K cl (RepA X.K) EK m)
theorem PK.weak {kws : List Keyword} {t t' : TA} (h : PK X kws t) (i : ∀ σ H Q, t' σ H Q → t σ H Q) : PK X kws t' := ⟨fun pos pins s σ H Q I q => h.run pos pins s σ H Q I (i σ H Q q)⟩
theorem sk_nil : SK X cl EK [] aNil := PK.weak pk_nil fun σ H Q h => by
  obtain ⟨s, σd, e, ok, re, p⟩ := h
  subst e
  exact p s [] (Ext.refl s) ok rfl .nil
theorem sk_cons (ha : SE X cl EK a ma) (hr : SK X cl EK kws mas) : SK X cl EK (⟨nm, a, kpos⟩ :: kws) (aCons ma mas) :=
  PK.weak (pk_cons ha hr) fun σ H Q h => tG_imp (tG_bind h) fun x H1 hk => tG_imp (tK_bind rep_mono hk) fun y H2 ⟨s, σd, u, v, e, ok, re, ru, rv, p⟩ => by
    subst e
    exact p s (x :: y) (Ext.refl s) ok rfl (.cons ru rv)
/-- the parameters' order -/
def permL {α : Type} (pm : List Nat) (xs : List α) : List α := pm.filterMap fun i => xs[i]?
theorem permL_vals {vs : List V} {us : List Value} (r : Vals vs us) : ∀ pm : List Nat, Vals (permL pm vs) (permL pm us)
  | [] => .nil
  | i :: pm => by
    have ih := permL_vals r pm
    unfold permL at ih ⊢
    rw [List.filterMap_cons, List.filterMap_cons]
    cases q : vs[i]? with
    | none =>
      have q2 : us[i]? = none := List.getElem?_eq_none_iff.mpr (by rw [← r.length]; exact List.getElem?_eq_none_iff.mp q)
      rw [q2]; exact ih
    | some v =>
      obtain ⟨u, hu, ru⟩ := r.get q
      rw [hu]; exact .cons ru ih
theorem permL_rep {K : PySem.W.Frag} {s : S} {vs : List V} {us : List D} (r : RepA K s vs us) : ∀ pm : List Nat, RepA K s (permL pm vs) (permL pm us)
  | [] => .nil
  | i :: pm => by
    have ih := permL_rep r pm
    unfold permL at ih ⊢
    rw [List.filterMap_cons, List.filterMap_cons]
    cases q : us[i]? with
    | none =>
      have q2 : vs[i]? = none := List.getElem?_eq_none_iff.mpr (by rw [r.length]; exact List.getElem?_eq_none_iff.mp q)
      rw [q2]; exact ih
    | some v =>
      obtain ⟨u, hu, ru⟩ := r.get q
      rw [hu]; exact .cons ru ih
def mCallK (G : List D → Wd → R D) (pm : List Nat) (mas mks : En → Wd → R (List D)) : En → Wd → R D := fun σd w => (mas σd w).bind fun us w1 => (mks σd w1).bind fun zs w2 => G (permL pm (us ++ zs)) w2
/-- how n values by place and the keywords ks come to the parameters -/
abbrev KBp (K : PySem.W.Frag) (fd : FuncData) (ps : List Str) (n : Nat) (ks : List Str) (pm : List Nat) : Prop := KBn K fd ps n ks (fun us ws => permL pm (us ++ ws)) (fun vs zs => permL pm (vs ++ zs))
theorem kb_mk {K : PySem.W.Frag} {x qual : Str} {st : Stmt} {f : Addr} {fd : FuncData} {ps ks : List Str} {n : Nat} {pm : List Nat} (F : Fun K x qual st f fd)
    (h : ∀ (kV doc pmv : Value) (an : Option Addr) (cdv ct : Value) (us ws : List Value), us.length = n → ws.length = ks.length → bindArgs (PySem.W.fnOf x qual (defArgs st) (defBody st) (defScope st) .none kV doc pmv an cdv ct) ⟨us, ks.zip ws⟩ = pure (ps.zip (permL pm (us ++ ws)))) : KBp K fd ps n ks pm := by
  obtain ⟨oc, od, kV, doc, pmv, an, cdv, ct, osl, rfl, lk, hcd⟩ := F.ex
  exact ⟨fun s us ws _ l1 l2 => .of_eq (h kV doc pmv an cdv ct us ws l1 l2), fun r1 r2 => permL_vals (r1.append r2) pm⟩
theorem callN_core {G : List D → Wd → R D} {pm : List Nat} {n : Nat} {ks : List Str} (h1 : ∀ σd w us w', mas σd w = .ok us w' → us.length = n) (h2 : ∀ σd w us w', mks σd w = .ok us w' → us.length = ks.length) {σ : L2.St} {H : Hp} {Q : VK} (h : tG X.K cl (Rep X.K) EK (mCallK G pm mas mks) σ H Q) :
    tCallN n ks.length (spOf X.K cl G) (fun vs zs => permL pm (vs ++ zs)) EK (tG X.K cl (RepA X.K) EK mas) (tG X.K cl (RepA X.K) EK mks) σ H Q := by
  obtain ⟨s, σd, e, ok, re, p⟩ := h
  subst e
  unfold mCallK at p
  refine tG_of ok re ?_
  cases q : mas σd s.w with
  | ok us w1 =>
    rw [q] at p
    dsimp only [R.bind] at p
    intro s1 vs ex1 ok1 hw1 r1
    refine tG_of ok1 (re.mono ok ex1) ?_
    rw [hw1]
    cases q2 : mks σd w1 with
    | ok zs w2 =>
      change Post X.K cl (Rep X.K) EK s (R.bind (mks σd w1) fun zs w2 => G (permL pm (us ++ zs)) w2) Q at p
      rw [q2] at p
      dsimp only [R.bind] at p
      intro s2 vz ex2 ok2 hw2 r2
      refine ⟨r1.length.trans (h1 _ _ _ _ q), r2.length.trans (h2 _ _ _ _ q2), s2, permL pm (us ++ zs), rfl, ok2, permL_rep ((r1.mono ok1 ex2).append r2) pm, ?_⟩
      rw [hw2]
      exact Post.ext (ex1.trans ex2) p
    | err c fs w2 =>
      change Post X.K cl (Rep X.K) EK s (R.bind (mks σd w1) fun zs w2 => G (permL pm (us ++ zs)) w2) Q at p
      rw [q2] at p
      exact Post.ext ex1 p
    | stuck =>
      change Post X.K cl (Rep X.K) EK s (R.bind (mks σd w1) fun zs w2 => G (permL pm (us ++ zs)) w2) Q at p
      rw [q2] at p
      exact p.elim
  | err c fs w1 => rw [q] at p; exact p
  | stuck => rw [q] at p; exact p.elim
theorem pe_callN0 {CX : CXT} {k : Nat} {f : Addr} {fd : FuncData} {ps ks : List Str} {sp : Sp} {E : XK} {g : List Value → List Value → List Value} {gV : List V → List V → List V} {tk : TA} (F : FnOk X.prog X.w X.K X.mg X.base CX k f fd ps sp) (hr : Room k X.A) (hg : Gl X x) (hm : X.mg x = some (.ref f)) (hk : PySem.W.keepIn X.K (.ref f) = true) (hb : KBn X.K fd ps 0 ks g gV) (hx : Passes CX X E)
    (hkw : PK X kws tk) (hall : (backToKw pos (keywordEach kws X.env)).all (·.1.isSome) = true := by rfl) (hks : (backToKw pos (keywordEach kws X.env)).filterMap (·.1) = ks := by rfl) (hdb : (x == ("__debug__" : Str)) = false := by decide)
    (hpl : ((backTo pos (starEach [] X.env)).any (·.1) || (backToKw pos (keywordEach kws X.env)).any (·.1.isNone)) = false := by rfl) :
    PE X (.Call (.Name x p) [] kws pos) (tCallN 0 ks.length sp gV E tNil tk) := by
  refine ⟨fun pins s σ H Q I h => ?_⟩
  refine wpAny_Call_Name_kw (ld_glob I hg hm ?_ hdb)
  refine PySem.W.callWith_KW0 (h₀ := X.base) I.ok.mod.kin hk hall ?_ hpl
  refine thn (hkw.run pos pins s σ H _ I h) fun ws s2 ⟨zs, H2, I2, rz, l1, l2, q2⟩ => ⟨I2.kIn, ?_⟩
  rw [hks]
  exact run_fnN (us := []) (vs := []) F hr hb hx I2 .nil rz rfl l2 q2
theorem aNil_len {σd : En} {w : Wd} {us : List D} {w' : Wd} (h : aNil σd w = .ok us w') : us.length = 0 := by cases h; rfl
theorem aCons_len {n : Nat} (hr : ∀ σd w us w', mas σd w = .ok us w' → us.length = n) : ∀ σd w us w', aCons ma mas σd w = .ok us w' → us.length = n + 1 := by
  intro σd w us w' h
  unfold aCons at h
  cases q : ma σd w with
  | ok d w1 =>
    rw [q] at h; dsimp only [R.bind] at h
    cases q2 : mas σd w1 with
    | ok d2 w2 => rw [q2] at h; dsimp only [R.bind] at h; cases h; exact congrArg (· + 1) (hr _ _ _ _ q2)
    | err c fs w1 => rw [q2] at h; cases h
    | stuck => rw [q2] at h; cases h
  | err c fs w1 => rw [q] at h; cases h
  | stuck => rw [q] at h; cases h
theorem se_fnK {k n : Nat} {f : Addr} {fd : FuncData} {ps ks : List Str} {pm : List Nat} {G : List D → Wd → R D} (F : SF X.prog X.w X.K cl X.mg X.base k f fd ps G) (hr : Room k X.A) (hg : Gl X x) (hm : X.mg x = some (.ref f)) (hk : PySem.W.keepIn X.K (.ref f) = true) (hb : KBp X.K fd ps n ks pm) (hx : Passes (L2.CX X.prog X.w) X EK)
    (ha : SA X cl EK (a :: es) mas) (hkw : SK X cl EK kws mks) (h1 : ∀ σd w us w', mas σd w = .ok us w' → us.length = n) (h2 : ∀ σd w us w', mks σd w = .ok us w' → us.length = ks.length) (hall : (backToKw pos (keywordEach kws X.env)).all (·.1.isSome) = true := by rfl) (hks : (backToKw pos (keywordEach kws X.env)).filterMap (·.1) = ks := by rfl)
    (hdb : (x == ("__debug__" : Str)) = false := by decide) (he : starEach (a :: es) X.env = (false, eval a X.env) :: starEach es X.env := by rfl)
    (hpl : ((backTo pos (starEach (a :: es) X.env)).any (·.1) || (backToKw pos (keywordEach kws X.env)).any (·.1.isNone)) = false := by rfl) :
    SE X cl EK (.Call (.Name x p) (a :: es) kws pos) (mCallK G pm mas mks) := PE.weak (pe_callN F hr hg hm hk hb hx ha hkw hall hks hdb he hpl) fun σ H Q h => callN_core h1 h2 h
theorem se_fnK0 {k : Nat} {f : Addr} {fd : FuncData} {ps ks : List Str} {pm : List Nat} {G : List D → Wd → R D} (F : SF X.prog X.w X.K cl X.mg X.base k f fd ps G) (hr : Room k X.A) (hg : Gl X x) (hm : X.mg x = some (.ref f)) (hk : PySem.W.keepIn X.K (.ref f) = true) (hb : KBp X.K fd ps 0 ks pm) (hx : Passes (L2.CX X.prog X.w) X EK)
    (hkw : SK X cl EK kws mks) (h2 : ∀ σd w us w', mks σd w = .ok us w' → us.length = ks.length) (hall : (backToKw pos (keywordEach kws X.env)).all (·.1.isSome) = true := by rfl) (hks : (backToKw pos (keywordEach kws X.env)).filterMap (·.1) = ks := by rfl)
    (hdb : (x == ("__debug__" : Str)) = false := by decide) (hpl : ((backTo pos (starEach [] X.env)).any (·.1) || (backToKw pos (keywordEach kws X.env)).any (·.1.isNone)) = false := by rfl) :
    SE X cl EK (.Call (.Name x p) [] kws pos) (mCallK G pm aNil mks) := PE.weak (pe_callN0 F hr hg hm hk hb hx hkw hall hks hdb hpl) fun σ H Q h => by
  have z := callN_core (mas := aNil) (n := 0) (fun _ _ _ _ => aNil_len) h2 h
  obtain ⟨s, σd, e, ok, re, p⟩ := z
  subst e
  exact p s [] (Ext.refl s) ok rfl .nil
end
end Si

set_option Elab.async false
set_option linter.all false
set_option autoImplicit false
set_option maxRecDepth 100000
set_option maxHeartbeats 4000000
/-! Si11: the law's own call. -/
namespace Si
open PySem L2 PyProof.Rows
def spLaw (K : PySem.W.Frag) : Sp := fun vs H Q _ => ∃ (a : Addr) (ns : List Int), vs = [.ref a] ∧ ns.length ≤ 63 ∧ Only H ∧ SqL K H a (ns.map V.int) ∧ ∀ H', Q (.bl true) H'
/-- the law says True of every script -/
theorem law_sp {K : PySem.W.Frag} {cl : Str → Option Addr} {G : List D → Wd → R D} (h : ∀ ns : List Int, ns.length ≤ 63 → ∃ w, G [.scr ns] [] = .ok (.bl true) w) : ∀ vs H Q E, spLaw K vs H Q E → spOf K cl G vs H Q E := by
  rintro vs H Q E ⟨a, ns, rfl, hl, hO, hS, q⟩
  obtain ⟨w, e⟩ := h ns hl
  have r : Rep K ⟨fun b => H b ≠ none, [], [], H⟩ (.ref a) (.scr ns) := by
    refine .scr ?_
    rcases hS with (hS | ⟨o, hS⟩) | hS
    · rcases hO a with z | ⟨o, xs, z⟩
      · rw [hS] at z; cases z
      · rw [hS] at z; cases z
    · exact .inl ⟨by show H a ≠ none; rw [hS]; simp, o, hS⟩
    · exact .inr hS
  refine ⟨⟨fun b => H b ≠ none, [], [], H⟩, [.scr ns], rfl, ?_, .cons r .nil, ?_⟩
  · exact ⟨rfl, List.nodup_nil, fun _ h => (nomatch h), fun _ h => h, fun _ _ _ h => by simp at h, fun b ⟨n, h, _⟩ => by simp at h⟩
  · rw [e]
    intro s' v _ _ _ rv
    cases rv
    exact q _
theorem cx_false {P : Program} {w : World} {H : Hp} {s : Shared} {e : Value} {s' : Shared} (h : L2.CX P w [] H s (fun _ _ _ => False) e s') : False := by
  obtain ⟨_, _, _, _, _, _, _, _, _, _, _, _, z⟩ := h
  exact z
theorem walk_law {l : PySem.W.OpenLaw} {q : Program} {loose : List Str} {XP : (Str → Option Value) → Heap → Prop} {YP : World → Heap → Prop} {d : DefRec} {K : Params → PySem.W.Frag} {k : Nat} {cl : PySem.W.Frag → Str → Option Addr} {x : Str} {G : List D → Wd → R D}
    (hn : l.most = some 63) (hdf : d.params.defaults = []) (hr : Room k callerA)
    (hY : ∀ (w : World) (h : Heap), YP w h → (K w.params).In h)
    (F : ∀ (w : World) (mg : Str → Option Value) (fa : Addr) (h : Heap), (K w.params).In h → h.Ns mainGlobals mg → mg d.name = some (.ref fa) →
      ∃ fd : FuncData, (∀ (s : Shared) (u : Value), BindsTo s fd ⟨[u], []⟩ [(x, u)]) ∧ ∀ base : Heap, (K w.params).In base → base.Ns mainGlobals mg → SF l.prog w (K w.params) (cl (K w.params)) mg base k fa fd [x] G)
    (h : ∀ ns : List Int, ns.length ≤ 63 → ∃ w, G [.scr ns] [] = .ok (.bl true) w) :
    PySem.W.WalkO q loose XP YP l.row.toRowW d [] (fun f vs => PySem.call f vs) :=
  L2.walk_of (n := 63) (k := k) (x := x) (CX := fun w => L2.CX l.prog w) (sp := fun w => spLaw (K w.params)) hn (by decide) hdf hr hY (fun w mg fa hp X G mgf => by
    obtain ⟨fd, hb, hF⟩ := F w mg fa hp X G mgf
    exact ⟨fd, hb, fun base X2 G2 => FnOk.imp (hF base X2 G2) (law_sp h)⟩) (fun _ _ a ns hl hO hS => ⟨a, ns, rfl, hl, hO, hS, fun _ => rfl⟩) fun _ _ _ _ _ z => cx_false z
end Si

set_option Elab.async false
set_option linter.all false
set_option autoImplicit false
set_option maxRecDepth 100000
set_option maxHeartbeats 4000000
/-! Si12: plain laws about what is reckoned; the draws. -/
namespace Si
open PySem
theorem ix20 (a b : D) : L2.atI [a, b] 0 = some a := rfl
theorem ix21 (a b : D) : L2.atI [a, b] 1 = some b := rfl
theorem ix30 (a b c : D) : L2.atI [a, b, c] 0 = some a := rfl
theorem ix31 (a b c : D) : L2.atI [a, b, c] 1 = some b := rfl
theorem ix32 (a b c : D) : L2.atI [a, b, c] 2 = some c := rfl
theorem ix40 (a b c d : D) : L2.atI [a, b, c, d] 0 = some a := rfl
theorem ix41 (a b c d : D) : L2.atI [a, b, c, d] 1 = some b := rfl
theorem ix42 (a b c d : D) : L2.atI [a, b, c, d] 2 = some c := rfl
theorem ix43 (a b c d : D) : L2.atI [a, b, c, d] 3 = some d := rfl
theorem ixN40 : L2.ixN 4 0 = some 0 := rfl
theorem ixN41 : L2.ixN 4 1 = some 1 := rfl
theorem ixN42 : L2.ixN 4 2 = some 2 := rfl
theorem ixN43 : L2.ixN 4 3 = some 3 := rfl
theorem der_set {w : Wd} {n : Nat} (hn : n < w.length) (ds : List D) : derefL (.obj n) (w.set n (.lst ds)) = some ds := by simp [derefL, List.getElem?_set_self hn]
theorem cel_set {w : Wd} {n : Nat} (hn : n < w.length) (ds : List D) : cellL (.obj n) (w.set n (.lst ds)) = some (n, ds) := by simp [cellL, List.getElem?_set_self hn]
theorem der_of {w : Wd} {n : Nat} {ds : List D} (h : w[n]? = some (.lst ds)) : derefL (.obj n) w = some ds := by simp [derefL, h]
theorem cel_of {w : Wd} {n : Nat} {ds : List D} (h : w[n]? = some (.lst ds)) : cellL (.obj n) w = some (n, ds) := by simp [cellL, h]
theorem der_lst {w : Wd} {ds : List D} : derefL (.lst ds) w = some ds := rfl
theorem addI {i j : Int} {w : Wd} : gAdd (.int i) (.int j) w = .ok (.int (i + j)) w := rfl
theorem subI {i j : Int} {w : Wd} : Si.gSub (.int i) (.int j) w = .ok (.int (i - j)) w := rfl
theorem mulC {i j : Int} {w : Wd} (h : -(2 ^ 64) < j ∧ j < 2 ^ 64) : gMul (.int i) (.int j) w = .ok (.int (i * j)) w := by
  simp only [gMul]
  rw [if_pos (.inl (.inr h))]
theorem mulL {i j : Int} {w : Wd} (h : -(2 ^ 64) < i ∧ i < 2 ^ 64) : gMul (.int i) (.int j) w = .ok (.int (i * j)) w := by
  simp only [gMul]
  rw [if_pos (.inl (.inl h))]
theorem mulM {i y m : Int} {w : Wd} (h : 0 < m ∧ m < 2 ^ 64) : gMul (.int i) (.int (y % m)) w = .ok (.int (i * (y % m))) w :=
  mulC ⟨Int.lt_of_lt_of_le (by decide) (Int.emod_nonneg y (by omega)), Int.lt_trans (Int.emod_lt_of_pos y h.1) h.2⟩
theorem divC {i j : Int} {w : Wd} (h : 0 < j ∧ j.natAbs.log2 < 9000) : gDiv (.int i) (.int j) w = .ok (.int (i / j)) w := by
  simp only [gDiv]
  rw [if_pos h]
theorem log2_small {j : Int} (h0 : 0 < j) (h : j < 2 ^ 200) : 0 < j ∧ j.natAbs.log2 < 9000 := ⟨h0, Nat.lt_of_lt_of_le (PySem.Flt.log2_lt_of (by decide) (show j.natAbs < 2 ^ 200 by omega)) (by decide)⟩
theorem modC {i j : Int} {w : Wd} (h : 0 < j) : gMod (.int i) (.int j) w = .ok (.int (i % j)) w := by
  simp only [gMod]
  rw [if_pos h]
theorem gIxI {u : D} {i : Int} {w : Wd} : gIx u (.int i) w = match u with
    | .str z => if z.length ≤ 16777216 then (match L2.atI z.cps.toList i with | some c => .ok (.str ⟨#[c]⟩) w | none => .stuck) else .stuck
    | .tup ds => match L2.atI ds i with | some d => .ok d w | none => .stuck
    | u => match derefL u w with
      | some ds => match L2.atI ds i with | some d => .ok d w | none => .stuck
      | none => .stuck := rfl
/-- a list of numbers -/
theorem atI_ints {cells : List Int} {k : Int} (h0 : 0 ≤ k) (h1 : k < cells.length) : ∃ c, L2.atI (cells.map D.int) k = some (.int c) := by
  unfold L2.atI L2.ixN
  rw [List.length_map, if_pos h0, if_pos h1]
  have hk : k.toNat < cells.length := by omega
  exact ⟨cells[k.toNat], by simp [List.getElem?_eq_getElem hk]⟩
/-! ### the draws: as the laws write them -/
def M_bag : En → Wd → SR :=
  (mSeq (mAsg (mLc (mIter (mSl (mVar 0) oNone (oSome (mC (.int 63))))) [3] (gNm 3) bYes (mCall gInt (aCons (mVar 3) aNil))) (gNm 1))
  (mSeq (mAsg (mOp gAdd (mC (.int 100110)) (mOp gMul (mC (.int 73)) (mCall gLen (aCons (mVar 1) aNil)))) (gNm 2))
  (mSeq (mFor (mIter (mVar 1)) (gNm 3) (mAsg (mOp gMod (mCall gInt (aCons (mOp gAdd (mOp gMul (mVar 2) (mC (.int 7351))) (mVar 3)) aNil)) (mC (.int 2147483477))) (gNm 2)))
  (mRet (mLstM (aCons (mVar 1) (aCons (mC (.int 0)) (aCons (mC (.int 0)) (aCons (mVar 2) aNil)))))))))
def M_draw : En → Wd → SR :=
  (mSeq (mIfS (asB (mOp gLt (mOp gIx (mVar 0) (mC (.int 2))) (mC (.int 2)))) (mSeq (mSetI (mOp gAdd (mOp gIx (mVar 0) (mC (.int 1))) (mC (.int 1))) (mVar 0) (mC (.int 1)))
  (mSeq (mAsg (mOp gAdd (mOp gIx (mVar 0) (mC (.int 3))) (mOp gMul (mOp gIx (mVar 0) (mC (.int 1))) (mC (.int 8693)))) (gNm 2))
  (mSeq (mIfS (asB (mOp gLe (mOp gIx (mVar 0) (mC (.int 1))) (mCall gLen (aCons (mOp gIx (mVar 0) (mC (.int 0))) aNil)))) (mAsg (mOp gIx (mOp gIx (mVar 0) (mC (.int 0))) (mOp Si.gSub (mOp gIx (mVar 0) (mC (.int 1))) (mC (.int 1)))) (gNm 2)) mNext)
  (mSeq (mIfS (bOr (asB (mOp gGt (mOp gIx (mVar 0) (mC (.int 1))) (mCall gLen (aCons (mOp gIx (mVar 0) (mC (.int 0))) aNil)))) (asB (mOp gLt (mVar 2) (mOp gPow (mC (.int 10)) (mC (.int 18)))))) (mSeq (mAsg (mOp gMod (mCall gInt (aCons (mOp gAdd (mOp gAdd (mOp gMul (mVar 2) (mC (.int 42061))) (mOp gMul (mOp gIx (mVar 0) (mC (.int 1))) (mC (.int 37021)))) (mOp gIx (mVar 0) (mC (.int 3)))) aNil)) (mC (.int 2147483629))) (gNm 3))
  (mSeq (mAsg (mOp gMod (mCall gInt (aCons (mOp gAdd (mOp gMul (mVar 3) (mVar 3)) (mOp gMul (mOp gIx (mVar 0) (mC (.int 1))) (mC (.int 50551)))) aNil)) (mC (.int 998244353))) (gNm 4))
  (mRet (mOp gMod (mOp gDiv (mOp gMod (mCall gInt (aCons (mOp gAdd (mOp gMul (mVar 4) (mC (.int 46819))) (mVar 3)) aNil)) (mC (.int 2147483587))) (mC (.int 23))) (mVar 1))))) mNext)
  (mSetI (mVar 2) (mVar 0) (mC (.int 2))))))) mNext)
  (mSeq (mAsg (mOp gMod (mCall gInt (aCons (mOp gIx (mVar 0) (mC (.int 2))) aNil)) (mVar 1)) (gNm 5))
  (mSeq (mSetI (mOp gDiv (mCall gInt (aCons (mOp gIx (mVar 0) (mC (.int 2))) aNil)) (mVar 1)) (mVar 0) (mC (.int 2)))
  (mRet (mVar 5)))))
def bagF : List D → Wd → R D := fnD 4 1 M_bag
def drawF : List D → Wd → R D := fnD 6 2 M_draw
def BagAt (w : Wd) (n : Nat) : Prop := ∃ (cells : List Int) (i acc mark : Int), w[n]? = some (.lst [.lst (cells.map D.int), .int i, .int acc, .int mark]) ∧ 0 ≤ i
theorem draw_spec {w : Wd} {n : Nat} {many : Int} (hb : BagAt w n) (h0 : 0 < many) (h1 : many < 2 ^ 200) : ∃ r b, 0 ≤ r ∧ r < many ∧ drawF [.obj n, .int many] w = .ok (.int r) (w.set n b) ∧ BagAt (w.set n b) n := by
  obtain ⟨cells, i, acc, mark, hw, hi⟩ := hb
  have hn : n < w.length := (List.getElem?_eq_some_iff.mp hw).1
  have d0 := der_of hw
  have c0 := cel_of hw
  have ds := der_set hn
  have cs := cel_set hn
  have gl : ∀ {w : Wd}, gLen [D.lst (cells.map D.int)] w = .ok (.int cells.length) w := by
    intro w; simp only [gLen, der_lst, List.length_map]
  have dm := fun (i : Int) (w : Wd) => divC (i := i) (w := w) (log2_small h0 h1)
  have mm := fun (i : Int) (w : Wd) => modC (i := i) (w := w) h0
  have pw : ∀ {w : Wd}, gPow (.int 10) (.int 18) w = .ok (.int (10 ^ 18)) w := by
    intro w; simp only [gPow]; rw [if_pos (by decide)]; rfl
  have keep : ∀ (i acc : Int), 0 ≤ i → BagAt (w.set n (.lst [.lst (cells.map D.int), .int i, .int acc, .int mark])) n := fun i acc h => ⟨cells, i, acc, mark, List.getElem?_set_self hn, h⟩
  have nn : ∀ x : Int, 0 ≤ x % many ∧ x % many < many := fun x => ⟨Int.emod_nonneg x (by omega), Int.emod_lt_of_pos x h0⟩
  unfold drawF M_draw
  by_cases ha : acc < 2
  · by_cases hc : i + 1 ≤ (cells.length : Int)
    · obtain ⟨c, hcell⟩ := atI_ints (cells := cells) (k := i + 1 - 1) (by omega) (by omega)
      have hng : ¬ (cells.length : Int) < i + 1 := by omega
      by_cases hs : c < 10 ^ 18
      · simp only [fnD, startD, mSeq, mIfS, mRet, mRetN, mExpr, mAsg, mSetI, mNext, mOp, mVar, mC, mCall, aCons, aNil, asB, mAnd, mOr, mNot, mTru, bAnd, bOr, bNot, bYes, mIf, mNeg, mTup, mLst, mLstM, mSl, oNone, oSome, mIsi, mIsi2, mChain, mPar, mAugI, mIter, mRng, mZip, mEnum, mApp, mPopAt, mJoin, mCallK, mBrk, mCnt, R.bind, R.toS, gNm, gNilD, gConsD, gTupD, gLstD, addI, subI, Si.gLt, Si.gLe, Si.gGt, Si.gGe, Si.gOrd, gIxI, gInt, gIsN, gNotN, isNon, der_lst, ix20, ix21, ix30, ix31, ix32, ix40, ix41, ix42, ix43, ixN40, ixN41, ixN42, ixN43, List.set_set, List.length_cons, List.length_nil, List.map_cons, List.map_nil, List.cons_append, List.nil_append, List.replicate, List.set_cons_zero, List.set_cons_succ, List.getElem?_cons_zero, List.getElem?_cons_succ, List.getElem?_nil, decide_true, decide_false, List.length_map, if_true, Nat.reduceAdd, Nat.reduceSub, Option.bind, mulC (j := 8693) (by decide), mulC (j := 42061) (by decide), mulC (j := 37021) (by decide), mulC (j := 50551) (by decide), mulC (j := 46819) (by decide), mulM (m := 2147483629) (by decide), divC (j := 23) (log2_small (by decide) (by decide)), modC (j := 2147483629) (by decide), modC (j := 998244353) (by decide), modC (j := 2147483587) (by decide), d0, c0, ds, cs, gl, dm, mm, pw, ha, hc, hcell, hng, hs]
        exact ⟨_, _, (nn _).1, (nn _).2, rfl, keep _ _ (by omega)⟩
      · simp only [fnD, startD, mSeq, mIfS, mRet, mRetN, mExpr, mAsg, mSetI, mNext, mOp, mVar, mC, mCall, aCons, aNil, asB, mAnd, mOr, mNot, mTru, bAnd, bOr, bNot, bYes, mIf, mNeg, mTup, mLst, mLstM, mSl, oNone, oSome, mIsi, mIsi2, mChain, mPar, mAugI, mIter, mRng, mZip, mEnum, mApp, mPopAt, mJoin, mCallK, mBrk, mCnt, R.bind, R.toS, gNm, gNilD, gConsD, gTupD, gLstD, addI, subI, Si.gLt, Si.gLe, Si.gGt, Si.gGe, Si.gOrd, gIxI, gInt, gIsN, gNotN, isNon, der_lst, ix20, ix21, ix30, ix31, ix32, ix40, ix41, ix42, ix43, ixN40, ixN41, ixN42, ixN43, List.set_set, List.length_cons, List.length_nil, List.map_cons, List.map_nil, List.cons_append, List.nil_append, List.replicate, List.set_cons_zero, List.set_cons_succ, List.getElem?_cons_zero, List.getElem?_cons_succ, List.getElem?_nil, decide_true, decide_false, List.length_map, if_true, Nat.reduceAdd, Nat.reduceSub, Option.bind, mulC (j := 8693) (by decide), mulC (j := 42061) (by decide), mulC (j := 37021) (by decide), mulC (j := 50551) (by decide), mulC (j := 46819) (by decide), mulM (m := 2147483629) (by decide), divC (j := 23) (log2_small (by decide) (by decide)), modC (j := 2147483629) (by decide), modC (j := 998244353) (by decide), modC (j := 2147483587) (by decide), d0, c0, ds, cs, gl, dm, mm, pw, ha, hc, hcell, hng, hs]
        exact ⟨_, _, (nn _).1, (nn _).2, rfl, keep _ _ (by omega)⟩
    · have hg : (cells.length : Int) < i + 1 := by omega
      simp only [fnD, startD, mSeq, mIfS, mRet, mRetN, mExpr, mAsg, mSetI, mNext, mOp, mVar, mC, mCall, aCons, aNil, asB, mAnd, mOr, mNot, mTru, bAnd, bOr, bNot, bYes, mIf, mNeg, mTup, mLst, mLstM, mSl, oNone, oSome, mIsi, mIsi2, mChain, mPar, mAugI, mIter, mRng, mZip, mEnum, mApp, mPopAt, mJoin, mCallK, mBrk, mCnt, R.bind, R.toS, gNm, gNilD, gConsD, gTupD, gLstD, addI, subI, Si.gLt, Si.gLe, Si.gGt, Si.gGe, Si.gOrd, gIxI, gInt, gIsN, gNotN, isNon, der_lst, ix20, ix21, ix30, ix31, ix32, ix40, ix41, ix42, ix43, ixN40, ixN41, ixN42, ixN43, List.set_set, List.length_cons, List.length_nil, List.map_cons, List.map_nil, List.cons_append, List.nil_append, List.replicate, List.set_cons_zero, List.set_cons_succ, List.getElem?_cons_zero, List.getElem?_cons_succ, List.getElem?_nil, decide_true, decide_false, List.length_map, if_true, Nat.reduceAdd, Nat.reduceSub, Option.bind, mulC (j := 8693) (by decide), mulC (j := 42061) (by decide), mulC (j := 37021) (by decide), mulC (j := 50551) (by decide), mulC (j := 46819) (by decide), mulM (m := 2147483629) (by decide), divC (j := 23) (log2_small (by decide) (by decide)), modC (j := 2147483629) (by decide), modC (j := 998244353) (by decide), modC (j := 2147483587) (by decide), d0, c0, ds, cs, gl, dm, mm, pw, ha, hc, hg]
      exact ⟨_, _, (nn _).1, (nn _).2, rfl, keep _ _ (by omega)⟩
  · simp only [fnD, startD, mSeq, mIfS, mRet, mRetN, mExpr, mAsg, mSetI, mNext, mOp, mVar, mC, mCall, aCons, aNil, asB, mAnd, mOr, mNot, mTru, bAnd, bOr, bNot, bYes, mIf, mNeg, mTup, mLst, mLstM, mSl, oNone, oSome, mIsi, mIsi2, mChain, mPar, mAugI, mIter, mRng, mZip, mEnum, mApp, mPopAt, mJoin, mCallK, mBrk, mCnt, R.bind, R.toS, gNm, gNilD, gConsD, gTupD, gLstD, addI, subI, Si.gLt, Si.gLe, Si.gGt, Si.gGe, Si.gOrd, gIxI, gInt, gIsN, gNotN, isNon, der_lst, ix20, ix21, ix30, ix31, ix32, ix40, ix41, ix42, ix43, ixN40, ixN41, ixN42, ixN43, List.set_set, List.length_cons, List.length_nil, List.map_cons, List.map_nil, List.cons_append, List.nil_append, List.replicate, List.set_cons_zero, List.set_cons_succ, List.getElem?_cons_zero, List.getElem?_cons_succ, List.getElem?_nil, decide_true, decide_false, List.length_map, if_true, Nat.reduceAdd, Nat.reduceSub, Option.bind, mulC (j := 8693) (by decide), mulC (j := 42061) (by decide), mulC (j := 37021) (by decide), mulC (j := 50551) (by decide), mulC (j := 46819) (by decide), mulM (m := 2147483629) (by decide), divC (j := 23) (log2_small (by decide) (by decide)), modC (j := 2147483629) (by decide), modC (j := 998244353) (by decide), modC (j := 2147483587) (by decide), d0, c0, ds, cs, gl, dm, mm, pw, ha]
    exact ⟨_, _, (nn _).1, (nn _).2, rfl, keep _ _ (by omega)⟩
end Si

set_option Elab.async false
set_option linter.all false
set_option autoImplicit false
set_option maxRecDepth 100000
set_option maxHeartbeats 4000000
/-! Si13: the bag, a drawn item, the laws' own comparison. -/
namespace Si
open PySem
theorem intsL_get : ∀ (own : List Nat) (f : D → En → Wd → Option En) (me : En → Wd → R D) (σd : En) (w : Wd) (g : D → D) (ds acc : List D), (∀ d ∈ ds, ∃ σ1, f d (wipeD σd own) w = some σ1 ∧ me σ1 w = .ok (g d) w) → acc.length + ds.length ≤ 16777216 → lcL own f bYes me σd ds acc w = .ok (acc ++ ds.map g) w
  | own, f, me, σd, w, g, [], acc, _, _ => by simp [lcL]
  | own, f, me, σd, w, g, d :: r, acc, h, hl => by
    obtain ⟨σ1, h1, h2⟩ := h d List.mem_cons_self
    simp only [List.length_cons] at hl
    have hlt : acc.length < 16777216 := by omega
    simp only [lcL, h1, bYes, h2, hlt, if_true]
    rw [intsL_get own f me σd w g r (acc ++ [g d]) (fun x hx => h x (List.mem_cons_of_mem _ hx)) (by simp; omega)]
    simp
theorem bag_loop (mark0 : Int) (w : Wd) (rest : D → D → List (Option D)) : True := trivial
theorem bag_spec (ns : List Int) (w : Wd) (hl : ns.length ≤ 63) : ∃ b, bagF [.scr ns] w = .ok (.obj w.length) (w ++ [b]) ∧ BagAt (w ++ [b]) w.length := by
  have hcut : cutD ns none (some 63) = ns.take 63 := by
    unfold cutD
    rw [HT.sIx_none, List.drop_zero, Nat.sub_zero]
    show ns.take (min (63 : Int).toNat ns.length) = _
    rw [show (63 : Int).toNat = 63 from rfl]
    rcases Nat.le_total 63 ns.length with h | h
    · rw [Nat.min_eq_left h]
    · rw [Nat.min_eq_right h, List.take_length, List.take_of_length_le h]
  have hlc : ∀ (σd : En) (w : Wd), lcL [3] (gNm 3) bYes (mCall gInt (aCons (mVar 3) aNil)) σd ((ns.take 63).map D.int) [] w = .ok ((ns.take 63).map D.int) w ∨ σd.length ≤ 3 := by
    intro σd w
    by_cases h3 : σd.length ≤ 3
    · exact .inr h3
    refine .inl ?_
    rw [intsL_get [3] (gNm 3) _ σd w id _ []]
    · simp
    · intro d hd
      obtain ⟨z, _, rfl⟩ := List.mem_map.mp hd
      refine ⟨_, rfl, ?_⟩
      have hw : (wipeD σd [3]).length = σd.length := by simp [wipeD]
      simp only [mCall, aCons, mVar, aNil]
      rw [List.getElem?_set_self (by rw [hw]; omega)]
      rfl
    · simp; omega
  have loop : ∀ (l : List Int) (σ0 σ1 : D) (m : Int) (o : Option D) (w : Wd), ∃ (m' : Int) (o' : Option D), forL (gNm 3) (mAsg (mOp gMod (mCall gInt (aCons (mOp gAdd (mOp gMul (mVar 2) (mC (.int 7351))) (mVar 3)) aNil)) (mC (.int 2147483477))) (gNm 2)) (l.map D.int) [some σ0, some σ1, some (.int m), o] w = .next [some σ0, some σ1, some (.int m'), o'] w := by
    intro l
    induction l with
    | nil => intro σ0 σ1 m o w; exact ⟨m, o, rfl⟩
    | cons z r ih =>
      intro σ0 σ1 m o w
      obtain ⟨m', o', h⟩ := ih σ0 σ1 ((m * 7351 + z) % 2147483477) (some (.int z)) w
      refine ⟨m', o', ?_⟩
      rw [List.map_cons, forL]
      simp only [gNm, mAsg, mOp, mVar, mC, mCall, aCons, aNil, R.bind, R.toS, addI, gInt, List.set_cons_succ, List.set_cons_zero, List.getElem?_cons_succ, List.getElem?_cons_zero, mulC (j := 7351) (by decide), modC (j := 2147483477) (by decide)]
      exact h
  unfold bagF M_bag
  rcases hlc [some (.scr ns), none, none, none] w with h | h
  · have hmul : ∀ w : Wd, gMul (.int 73) (.int ((ns.take 63).length : Int)) w = .ok (.int (73 * ((ns.take 63).length : Int))) w := fun w => mulL (by decide)
    obtain ⟨m', o', hL⟩ := loop (ns.take 63) (.scr ns) (.lst ((ns.take 63).map D.int)) (100110 + 73 * ((ns.take 63).length : Int)) none w
    have gl : ∀ w : Wd, gLen [D.lst ((ns.take 63).map D.int)] w = .ok (.int ((ns.take 63).length : Nat)) w := by
      intro w; simp only [gLen, der_lst, List.length_map]
    simp only [fnD, startD, mSeq, mAsg, mLc, mIter, mSl, mVar, mC, oNone, oSome, R.bind, R.toS, gSl, hcut, itemsD, List.length_cons, List.length_nil, List.map_cons, List.map_nil, List.cons_append, List.nil_append, List.replicate, List.getElem?_cons_zero, List.getElem?_cons_succ, Nat.reduceAdd, Nat.reduceSub, if_true, h, gNm, List.set_cons_zero, List.set_cons_succ, mOp, mCall, aCons, aNil, gl, hmul, addI, mFor, mRet, mLstM]
    rw [hL]
    simp only [mRet, mLstM, aCons, aNil, mVar, mC, R.bind, R.toS, List.getElem?_cons_zero, List.getElem?_cons_succ, List.length_cons, List.length_nil, Nat.reduceAdd, Nat.reduceLeDiff, if_true]
    refine ⟨_, rfl, ns.take 63, 0, 0, m', ?_, Int.le_refl _⟩
    rw [List.getElem?_append_right (Nat.le_refl _), Nat.sub_self]
    rfl
  · exact absurd h (by simp)
/-! an item drawn -/
def M_of : En → Wd → SR := (mRet (mOp gIx (mVar 1) (mCall drawF (aCons (mVar 0) (aCons (mCall gLen (aCons (mVar 1) aNil)) aNil)))))
def ofF : List D → Wd → R D := fnD 2 2 M_of
theorem at_mem {ds : List D} {r : Int} (h0 : 0 ≤ r) (h1 : r < ds.length) : ∃ d, L2.atI ds r = some d ∧ d ∈ ds := by
  unfold L2.atI L2.ixN
  rw [if_pos h0, if_pos h1]
  have hk : r.toNat < ds.length := by omega
  exact ⟨ds[r.toNat], by simp [List.getElem?_eq_getElem hk], List.getElem_mem hk⟩
theorem of_lst {w : Wd} {n : Nat} {ds : List D} (hb : BagAt w n) (h0 : 0 < ds.length) (h1 : ds.length < 2 ^ 190) : ∃ d b, d ∈ ds ∧ ofF [.obj n, .lst ds] w = .ok d (w.set n b) ∧ BagAt (w.set n b) n := by
  obtain ⟨r, b, r0, r1, e, hb'⟩ := draw_spec (many := (ds.length : Int)) hb (by omega) (by omega)
  obtain ⟨d, hd, hm⟩ := at_mem r0 r1
  refine ⟨d, b, hm, ?_, hb'⟩
  have gl : ∀ {w : Wd}, gLen [D.lst ds] w = .ok (.int ds.length) w := by
    intro w; simp only [gLen, der_lst]
  simp only [ofF, M_of, fnD, startD, mRet, mOp, mVar, mCall, aCons, aNil, R.bind, R.toS, List.length_cons, List.length_nil, List.map_cons, List.map_nil, List.cons_append, List.nil_append, List.replicate, List.getElem?_cons_zero, List.getElem?_cons_succ, Nat.reduceAdd, Nat.reduceSub, if_true, gl, e, gIxI, der_lst, hd]
theorem of_tup {w : Wd} {n : Nat} {ds : List D} (hb : BagAt w n) (h0 : 0 < ds.length) (h1 : ds.length < 2 ^ 190) : ∃ d b, d ∈ ds ∧ ofF [.obj n, .tup ds] w = .ok d (w.set n b) ∧ BagAt (w.set n b) n := by
  obtain ⟨r, b, r0, r1, e, hb'⟩ := draw_spec (many := (ds.length : Int)) hb (by omega) (by omega)
  obtain ⟨d, hd, hm⟩ := at_mem r0 r1
  refine ⟨d, b, hm, ?_, hb'⟩
  have gl : ∀ {w : Wd}, gLen [D.tup ds] w = .ok (.int ds.length) w := by
    intro w; simp only [gLen]
  simp only [ofF, M_of, fnD, startD, mRet, mOp, mVar, mCall, aCons, aNil, R.bind, R.toS, List.length_cons, List.length_nil, List.map_cons, List.map_nil, List.cons_append, List.nil_append, List.replicate, List.getElem?_cons_zero, List.getElem?_cons_succ, Nat.reduceAdd, Nat.reduceSub, if_true, gl, e, gIxI, hd]
theorem of_str {w : Wd} {n : Nat} {z : Str} (hb : BagAt w n) (h0 : 0 < z.length) (h1 : z.length ≤ 16777216) : ∃ c b, c ∈ z.cps.toList ∧ ofF [.obj n, .str z] w = .ok (.str ⟨#[c]⟩) (w.set n b) ∧ BagAt (w.set n b) n := by
  obtain ⟨r, b, r0, r1, e, hb'⟩ := draw_spec (many := (z.length : Int)) hb (by omega) (by omega)
  have hz : z.length = z.cps.toList.length := by simp [Str.length]
  obtain ⟨c, hc, hm⟩ : ∃ c, L2.atI z.cps.toList r = some c ∧ c ∈ z.cps.toList := by
    unfold L2.atI L2.ixN
    rw [if_pos r0, ← hz, if_pos r1]
    have hk : r.toNat < z.cps.toList.length := by omega
    exact ⟨z.cps.toList[r.toNat], by simp [List.getElem?_eq_getElem hk], List.getElem_mem hk⟩
  refine ⟨c, b, hm, ?_, hb'⟩
  have gl : ∀ {w : Wd}, gLen [D.str z] w = .ok (.int z.length) w := by
    intro w; simp only [gLen, h1, if_true]
  simp only [ofF, M_of, fnD, startD, mRet, mOp, mVar, mCall, aCons, aNil, R.bind, R.toS, List.length_cons, List.length_nil, List.map_cons, List.map_nil, List.cons_append, List.nil_append, List.replicate, List.getElem?_cons_zero, List.getElem?_cons_succ, Nat.reduceAdd, Nat.reduceSub, if_true, gl, e, gIxI, h1, hc]
/-! the comparison -/
def M_same (G : List D → Wd → R D) : En → Wd → SR :=
  (mSeq (mIfS (asB (mOp gIsN (mVar 1) (mC .non))) (mRet (mOp gIsN (mVar 0) (mC .non))) mNext)
  (mSeq (mIfS (bOr (mTru (mIsi "bool" (mVar 1))) (mTru (mIsi "bool" (mVar 0)))) (mRet (mAnd (mIsi "bool" (mVar 1)) (mAnd (mIsi "bool" (mVar 0)) (mOp gEq (mVar 0) (mVar 1))))) mNext)
  (mSeq (mIfS (mTru (mIsi2 "int" "str" (mVar 1))) (mRet (mAnd (mIsi2 "int" "str" (mVar 0)) (mAnd (mOp gEq (mIsi "int" (mVar 0)) (mIsi "int" (mVar 1))) (mOp gEq (mVar 0) (mVar 1))))) mNext)
  (mSeq (mIfS (bOr (asB (mOp gNe (mIsi "list" (mVar 1)) (mIsi "list" (mVar 0)))) (asB (mOp gNe (mIsi "tuple" (mVar 1)) (mIsi "tuple" (mVar 0))))) (mRet (mC (.bl false))) mNext)
  (mSeq (mIfS (bNot (mTru (mIsi2 "list" "tuple" (mVar 0)))) (mRet (mC (.bl false))) mNext)
  (mRet (mAnd (mOp gEq (mCall gLen (aCons (mVar 0) aNil)) (mCall gLen (aCons (mVar 1) aNil))) (mCall gAll (aCons (mLc (mZip (aCons (mVar 0) (aCons (mVar 1) aNil))) [2, 3] (gTupD 2 (gConsD (gNm 2) (gConsD (gNm 3) gNilD))) bYes (mCall G (aCons (mVar 2) (aCons (mVar 3) aNil)))) aNil)))))))))
def sameF : Nat → List D → Wd → R D
  | 0 => fun _ _ => .stuck
  | n + 1 => fnD 4 2 (M_same (sameF n))
mutual
/-- no cells, so deep at most, lists not too long -/
def D.fine : Nat → D → Bool
  | _, .non | _, .bl _ | _, .int _ | _, .str _ => true
  | 0, .lst _ | 0, .tup _ => false
  | n + 1, .lst xs => decide (xs.length ≤ 16777216) && fineA n xs
  | n + 1, .tup xs => decide (xs.length ≤ 16777216) && fineA n xs
  | _, .obj _ | _, .scr _ => false
def fineA : Nat → List D → Bool
  | _, [] => true
  | n, x :: r => x.fine n && fineA n r
end
theorem fineA_mem {n : Nat} : ∀ {xs : List D}, fineA n xs = true → ∀ x ∈ xs, x.fine n = true
  | [], _, x, h => by cases h
  | y :: r, h, x, hx => by
    rw [fineA, Bool.and_eq_true] at h
    rcases List.mem_cons.mp hx with e | hx
    · rw [e]; exact h.1
    · exact fineA_mem h.2 x hx
theorem blA_all : ∀ (ds : List D), blA (ds.map fun _ => D.bl true) = some (ds.map fun _ => true)
  | [] => rfl
  | d :: r => by rw [List.map_cons, blA, blA_all r]; rfl
theorem zip_self : ∀ (ds : List D), zipD ds ds = ds.map fun d => .tup [d, d]
  | [] => rfl
  | d :: r => by rw [zipD, zip_self r]; rfl
theorem same_seq (G : List D → Wd → R D) (ds : List D) (w : Wd) (h : ∀ d ∈ ds, G [d, d] w = .ok (.bl true) w) (hl : ds.length ≤ 16777216) (a b : D) (o2 o3 : Option D) :
    lcL [2, 3] (gTupD 2 (gConsD (gNm 2) (gConsD (gNm 3) gNilD))) bYes (mCall G (aCons (mVar 2) (aCons (mVar 3) aNil))) [some a, some b, o2, o3] (zipD ds ds) [] w = .ok (ds.map fun _ => .bl true) w := by
  rw [zip_self]
  rw [intsL_get _ _ _ _ w (fun _ => .bl true) _ []]
  · simp
  · intro x hx
    obtain ⟨d, hd, rfl⟩ := List.mem_map.mp hx
    refine ⟨[some a, some b, some d, some d], rfl, ?_⟩
    simp only [mCall, aCons, aNil, mVar, R.bind, List.getElem?_cons_zero, List.getElem?_cons_succ]
    exact h d hd
  · simp only [List.length_nil, List.length_map]; omega
theorem all_true : ∀ (ds : List D), (ds.map fun _ => true).all id = true
  | [] => rfl
  | d :: r => by rw [List.map_cons, List.all_cons, all_true r]; rfl
theorem same_refl : ∀ (n : Nat) (d : D) (w : Wd), d.fine n = true → sameF (n + 1) [d, d] w = .ok (.bl true) w := by
  intro n
  induction n with
  | zero =>
    intro d w h
    cases d with
    | non => rfl
    | bl b => cases b <;> rfl
    | int i =>
      simp only [sameF, fnD, startD, M_same, mSeq, mIfS, asB, mOp, mVar, mC, mRet, mNext, mTru, mIsi, mIsi2, bOr, mAnd, R.bind, R.toS, gIsN, isNon, tyD, isB, List.length_cons, List.length_nil, List.map_cons, List.map_nil, List.cons_append, List.nil_append, List.replicate, List.getElem?_cons_zero, List.getElem?_cons_succ, Nat.reduceAdd, Nat.reduceSub, if_true, truD, gEq, scEq]
      simp
    | str z =>
      simp only [sameF, fnD, startD, M_same, mSeq, mIfS, asB, mOp, mVar, mC, mRet, mNext, mTru, mIsi, mIsi2, bOr, mAnd, R.bind, R.toS, gIsN, isNon, tyD, isB, List.length_cons, List.length_nil, List.map_cons, List.map_nil, List.cons_append, List.nil_append, List.replicate, List.getElem?_cons_zero, List.getElem?_cons_succ, Nat.reduceAdd, Nat.reduceSub, if_true, truD, gEq, scEq]
      simp
    | _ => cases h
  | succ n ih =>
    intro d w h
    cases d with
    | non => rfl
    | bl b => cases b <;> rfl
    | int i =>
      simp only [sameF, fnD, startD, M_same, mSeq, mIfS, asB, mOp, mVar, mC, mRet, mNext, mTru, mIsi, mIsi2, bOr, mAnd, R.bind, R.toS, gIsN, isNon, tyD, isB, List.length_cons, List.length_nil, List.map_cons, List.map_nil, List.cons_append, List.nil_append, List.replicate, List.getElem?_cons_zero, List.getElem?_cons_succ, Nat.reduceAdd, Nat.reduceSub, if_true, truD, gEq, scEq]
      simp
    | str z =>
      simp only [sameF, fnD, startD, M_same, mSeq, mIfS, asB, mOp, mVar, mC, mRet, mNext, mTru, mIsi, mIsi2, bOr, mAnd, R.bind, R.toS, gIsN, isNon, tyD, isB, List.length_cons, List.length_nil, List.map_cons, List.map_nil, List.cons_append, List.nil_append, List.replicate, List.getElem?_cons_zero, List.getElem?_cons_succ, Nat.reduceAdd, Nat.reduceSub, if_true, truD, gEq, scEq]
      simp
    | lst ds =>
      rw [D.fine, Bool.and_eq_true] at h
      have hl := of_decide_eq_true h.1
      have hs := same_seq (sameF (n + 1)) ds w (fun d hd => ih d w (fineA_mem h.2 d hd)) hl (.lst ds) (.lst ds) none none
      rw [sameF]
      simp only [fnD, startD, M_same, mSeq, mIfS, asB, mOp, mVar, mC, mRet, mNext, mTru, mIsi, mIsi2, bOr, bNot, mAnd, mCall, mLc, mZip, aCons, aNil, R.bind, R.toS, gIsN, isNon, tyD, isB, List.length_cons, List.length_nil, List.map_cons, List.map_nil, List.cons_append, List.nil_append, List.replicate, List.getElem?_cons_zero, List.getElem?_cons_succ, Nat.reduceAdd, Nat.reduceSub, if_true, truD, gEq, gNe, scEq, gLen, der_lst, hs, gAll, Option.bind, blA_all, all_true]
      simp [hs, gAll, der_lst, blA_all, all_true]
    | tup ds =>
      rw [D.fine, Bool.and_eq_true] at h
      have hl := of_decide_eq_true h.1
      have hs := same_seq (sameF (n + 1)) ds w (fun d hd => ih d w (fineA_mem h.2 d hd)) hl (.tup ds) (.tup ds) none none
      rw [sameF]
      simp only [fnD, startD, M_same, mSeq, mIfS, asB, mOp, mVar, mC, mRet, mNext, mTru, mIsi, mIsi2, bOr, bNot, mAnd, mCall, mLc, mZip, aCons, aNil, R.bind, R.toS, gIsN, isNon, tyD, isB, List.length_cons, List.length_nil, List.map_cons, List.map_nil, List.cons_append, List.nil_append, List.replicate, List.getElem?_cons_zero, List.getElem?_cons_succ, Nat.reduceAdd, Nat.reduceSub, if_true, truD, gEq, gNe, scEq, gLen, der_lst, hs, gAll, Option.bind, blA_all, all_true]
      simp [hs, gAll, der_lst, blA_all, all_true]
    | _ => cases h
theorem sf_stuck {P : Program} {w : World} {K : PySem.W.Frag} {cl : Str → Option Addr} {mg : Str → Option Value} {base : Heap} {k : Nat} {f : Addr} {fd : FuncData} {ps : List Str} : SF P w K cl mg base k f fd ps (fun _ _ => .stuck) :=
  ⟨fun _ _ _ _ ⟨_, _, _, _, _, p⟩ => p.elim, fun _ _ _ _ _ _ _ _ _ _ _ _ _ ⟨_, _, _, _, _, p⟩ => p.elim⟩
theorem sf_same {P : Program} {w : World} {K : PySem.W.Frag} {cl : Str → Option Addr} {mg : Str → Option Value} {base : Heap} {f : Addr} {fd : FuncData} {ps : List Str} (h : ∀ (k : Nat) (G : List D → Wd → R D), SF P w K cl mg base k f fd ps G → SF P w K cl mg base (k + 1) f fd ps (fnD 4 2 (M_same G))) : ∀ n, SF P w K cl mg base n f fd ps (sameF n)
  | 0 => sf_stuck
  | n + 1 => h n _ (sf_same h n)
end Si

set_option Elab.async false
set_option linter.all false
set_option autoImplicit false
set_option maxRecDepth 100000
set_option maxHeartbeats 4000000
/-! Si14: a calculus to reckon with what is reckoned: Go (an expression answers so that Q), Gd (a statement). -/
namespace Si
open PySem
abbrev EX := Str → List (Str × D) → Wd → Prop
def Go {α : Type} (X : EX) (r : R α) (Q : α → Wd → Prop) : Prop := match r with
  | .ok a w => Q a w
  | .err c fs w => X c fs w
  | .stuck => False
def Gd (X : EX) (N : En → Wd → Prop) (T : D → Wd → Prop) (B C : En → Wd → Prop) (r : SR) : Prop := match r with
  | .next σ w => N σ w
  | .ret d w => T d w
  | .brk σ w => B σ w
  | .cnt σ w => C σ w
  | .err c fs w => X c fs w
  | .stuck => False
def Br (b : Bool) (P Q : Prop) : Prop := match b with | true => P | false => Q
section
variable {α β : Type} {X : EX} {Q : D → Wd → Prop} {QB : Bool → Wd → Prop} {QA : List D → Wd → Prop} {QO : Option Int → Wd → Prop} {σ : En} {w : Wd} {N B C : En → Wd → Prop} {T : D → Wd → Prop} {P P' : Prop} {b : Bool} {p : Prop}
theorem br_t (h : P) : Br true P P' := h
theorem br_f (h : P') : Br false P P' := h
theorem br_is (e : b = true) (h : P) : Br b P P' := by subst e; exact h
theorem br_isnt (e : b = false) (h : P') : Br b P P' := by subst e; exact h
theorem br_both (h : b = true → P) (h' : b = false → P') : Br b P P' := by cases b; exact h' rfl; exact h rfl
theorem br_dec [Decidable p] (h : p → P) (h' : ¬ p → P') : Br (decide p) P P' := by
  by_cases e : p
  · rw [decide_eq_true e]; exact h e
  · rw [decide_eq_false e]; exact h' e
theorem br_not (h : Br b P' P) : Br (!b) P P' := by cases b <;> exact h
theorem go_ok {r : R α} {a : α} {w' : Wd} {Q : α → Wd → Prop} (e : r = .ok a w') (q : Q a w') : Go X r Q := by rw [e]; exact q
theorem go_weak {r : R α} {Q Q' : α → Wd → Prop} (h : Go X r Q) (i : ∀ a w, Q a w → Q' a w) : Go X r Q' := by
  cases r with
  | ok a w => exact i a w h
  | err => exact h
  | stuck => exact h.elim
theorem go_get {r : R α} {Q : α → Wd → Prop} (h : Go (fun _ _ _ => False) r Q) : ∃ a w, r = .ok a w ∧ Q a w := by
  cases r with
  | ok a w => exact ⟨a, w, rfl, h⟩
  | err => exact h.elim
  | stuck => exact h.elim
theorem go_bind {r : R α} {k : α → Wd → R β} {Q : β → Wd → Prop} (h : Go X r fun a w => Go X (k a w) Q) : Go X (r.bind k) Q := by cases r <;> exact h
theorem gd_toS {r : R α} {k : α → Wd → SR} (h : Go X r fun a w => Gd X N T B C (k a w)) : Gd X N T B C (r.toS k) := by cases r <;> exact h
/-! expressions -/
theorem go_var {i : Nat} {d : D} (h : σ[i]? = some (some d)) (q : Q d w) : Go X (mVar i σ w) Q := by
  unfold mVar
  rw [h]
  exact q
theorem go_c {d : D} (q : Q d w) : Go X (mC d σ w) Q := q
theorem go_op {g : D → D → Wd → R D} {ma mb : En → Wd → R D} (h : Go X (ma σ w) fun u w1 => Go X (mb σ w1) fun v w2 => Go X (g u v w2) Q) : Go X (mOp g ma mb σ w) Q :=
  go_bind (go_weak h fun _ _ h => go_bind h)
theorem go_asB {m : En → Wd → R D} (h : Go X (m σ w) fun d w1 => ∃ b, d = .bl b ∧ QB b w1) : Go X (asB m σ w) QB :=
  go_bind (go_weak h fun _ _ ⟨_, e, h⟩ => by subst e; exact h)
theorem go_call {g : List D → Wd → R D} {ma : En → Wd → R (List D)} (h : Go X (ma σ w) fun us w1 => Go X (g us w1) Q) : Go X (mCall g ma σ w) Q := go_bind h
theorem go_callK {g : List D → Wd → R D} {pm : List Nat} {mas mks : En → Wd → R (List D)} (h : Go X (mas σ w) fun us w1 => Go X (mks σ w1) fun zs w2 => Go X (g (permL pm (us ++ zs)) w2) Q) : Go X (mCallK g pm mas mks σ w) Q :=
  go_bind (go_weak h fun _ _ h => go_bind h)
theorem go_nil (q : QA [] w) : Go X (aNil σ w) QA := q
theorem go_cons {ma : En → Wd → R D} {mr : En → Wd → R (List D)} (h : Go X (ma σ w) fun u w1 => Go X (mr σ w1) fun us w2 => QA (u :: us) w2) : Go X (aCons ma mr σ w) QA :=
  go_bind (go_weak h fun _ _ h => go_bind h)
theorem go_tup {ma : En → Wd → R (List D)} (h : Go X (ma σ w) fun us w1 => us.length ≤ 16777216 ∧ Q (.tup us) w1) : Go X (mTup ma σ w) Q :=
  go_bind (go_weak h fun _ _ h => by rw [if_pos h.1]; exact h.2)
theorem go_lst {ma : En → Wd → R (List D)} (h : Go X (ma σ w) fun us w1 => us.length ≤ 16777216 ∧ Q (.lst us) w1) : Go X (mLst ma σ w) Q :=
  go_bind (go_weak h fun _ _ h => by rw [if_pos h.1]; exact h.2)
theorem go_lstM {ma : En → Wd → R (List D)} (h : Go X (ma σ w) fun us w1 => us.length ≤ 16777216 ∧ Q (.obj w1.length) (w1 ++ [.lst us])) : Go X (mLstM ma σ w) Q :=
  go_bind (go_weak h fun _ _ h => by rw [if_pos h.1]; exact h.2)
theorem go_chain {g g' : D → D → Wd → R D} {ma mb mc : En → Wd → R D} (h : Go X (ma σ w) fun u w1 => Go X (mb σ w1) fun v w2 => Go X (g u v w2) fun z w3 => ∃ b, z = .bl b ∧ Br b (Go X (mc σ w3) fun x w4 => Go X (g' v x w4) Q) (Q (.bl false) w3)) : Go X (mChain g g' ma mb mc σ w) Q :=
  go_bind (go_weak h fun _ _ h => go_bind (go_weak h fun _ _ h => go_bind (go_weak h fun _ _ ⟨b, e, h⟩ => by subst e; cases b; exact h; exact go_bind h)))
theorem go_and {ma mb : En → Wd → R D} (h : Go X (ma σ w) fun u w1 => ∃ b, truD u w1 = some b ∧ Br b (Go X (mb σ w1) Q) (Q u w1)) : Go X (mAnd ma mb σ w) Q :=
  go_bind (go_weak h fun _ _ ⟨b, e, h⟩ => by rw [e]; cases b <;> exact h)
theorem go_or {ma mb : En → Wd → R D} (h : Go X (ma σ w) fun u w1 => ∃ b, truD u w1 = some b ∧ Br b (Q u w1) (Go X (mb σ w1) Q)) : Go X (mOr ma mb σ w) Q :=
  go_bind (go_weak h fun _ _ ⟨b, e, h⟩ => by rw [e]; cases b <;> exact h)
theorem go_not {ma : En → Wd → R D} (h : Go X (ma σ w) fun u w1 => ∃ b, truD u w1 = some b ∧ Q (.bl (!b)) w1) : Go X (mNot ma σ w) Q :=
  go_bind (go_weak h fun _ _ ⟨b, e, h⟩ => by rw [e]; cases b <;> exact h)
theorem go_tru {ma : En → Wd → R D} (h : Go X (ma σ w) fun u w1 => ∃ b, truD u w1 = some b ∧ QB b w1) : Go X (mTru ma σ w) QB :=
  go_bind (go_weak h fun _ _ ⟨b, e, h⟩ => by rw [e]; exact h)
theorem go_bAnd {ma mb : En → Wd → R Bool} (h : Go X (ma σ w) fun b w1 => Br b (Go X (mb σ w1) QB) (QB false w1)) : Go X (bAnd ma mb σ w) QB :=
  go_bind (go_weak h fun b _ h => by cases b <;> exact h)
theorem go_bOr {ma mb : En → Wd → R Bool} (h : Go X (ma σ w) fun b w1 => Br b (QB true w1) (Go X (mb σ w1) QB)) : Go X (bOr ma mb σ w) QB :=
  go_bind (go_weak h fun b _ h => by cases b <;> exact h)
theorem go_bNot {ma : En → Wd → R Bool} (h : Go X (ma σ w) fun b w1 => QB (!b) w1) : Go X (bNot ma σ w) QB := go_bind h
theorem go_bYes (h : QB true w) : Go X (bYes σ w) QB := h
theorem go_if {mc : En → Wd → R Bool} {ma mb : En → Wd → R D} (h : Go X (mc σ w) fun b w1 => Br b (Go X (ma σ w1) Q) (Go X (mb σ w1) Q)) : Go X (mIf mc ma mb σ w) Q :=
  go_bind (go_weak h fun b _ h => by cases b <;> exact h)
theorem go_neg {ma : En → Wd → R D} (h : Go X (ma σ w) fun u w1 => ∃ i, u = .int i ∧ Q (.int (-i)) w1) : Go X (mNeg ma σ w) Q :=
  go_bind (go_weak h fun _ _ ⟨_, e, h⟩ => by subst e; exact h)
theorem go_oNone (h : QO none w) : Go X (oNone σ w) QO := h
theorem go_oSome {ma : En → Wd → R D} (h : Go X (ma σ w) fun u w1 => ∃ i, u = .int i ∧ QO (some i) w1) : Go X (oSome ma σ w) QO :=
  go_bind (go_weak h fun _ _ ⟨_, e, h⟩ => by subst e; exact h)
theorem go_sl {ma : En → Wd → R D} {ml mh : En → Wd → R (Option Int)} (h : Go X (ma σ w) fun u w1 => Go X (ml σ w1) fun lo w2 => Go X (mh σ w2) fun hi w3 => Go X (gSl u lo hi w3) Q) : Go X (mSl ma ml mh σ w) Q :=
  go_bind (go_weak h fun _ _ h => go_bind (go_weak h fun _ _ h => go_bind h))
theorem go_isi {S : String} {ma : En → Wd → R D} (h : Go X (ma σ w) fun u w1 => ∃ t, tyD u w1 = some t ∧ Q (.bl (isB t S)) w1) : Go X (mIsi S ma σ w) Q :=
  go_bind (go_weak h fun _ _ ⟨_, e, h⟩ => by rw [e]; exact h)
theorem go_isi2 {S S' : String} {ma : En → Wd → R D} (h : Go X (ma σ w) fun u w1 => ∃ t, tyD u w1 = some t ∧ Q (.bl (isB t S || isB t S')) w1) : Go X (mIsi2 S S' ma σ w) Q :=
  go_bind (go_weak h fun _ _ ⟨_, e, h⟩ => by rw [e]; exact h)
theorem go_join {mo me : En → Wd → R D} (h : Go X (mo σ w) fun u w1 => ∃ a, u = .str a ∧ Go X (me σ w1) fun v w2 => Go X (gJoin (.str a) v w2) Q) : Go X (mJoin mo me σ w) Q :=
  go_bind (go_weak h fun _ _ ⟨_, e, h⟩ => by subst e; exact go_bind h)
theorem go_app {mo me : En → Wd → R D} (h : Go X (mo σ w) fun u w1 => (cellL u w1).isSome = true ∧ Go X (me σ w1) fun d w2 => ∃ n ds, cellL u w2 = some (n, ds) ∧ ds.length < 16777216 ∧ Q .non (w2.set n (.lst (ds ++ [d])))) : Go X (mApp mo me σ w) Q :=
  go_bind (go_weak h fun _ _ ⟨e, h⟩ => by
    obtain ⟨c, e⟩ := Option.isSome_iff_exists.mp e
    rw [e]
    exact go_bind (go_weak h fun _ _ ⟨_, _, e, l, h⟩ => by rw [e]; dsimp only; rw [if_pos l]; exact h))
/-! what is walked -/
theorem go_iter {ma : En → Wd → R D} (h : Go X (ma σ w) fun u w1 => ∃ ds, itemsD u = some ds ∧ QA ds w1) : Go X (mIter ma σ w) QA :=
  go_bind (go_weak h fun _ _ ⟨_, e, h⟩ => by rw [e]; exact h)
theorem go_rng1 {ma : En → Wd → R D} (h : Go X (ma σ w) fun u w1 => ∃ j, u = .int j ∧ (-(2 ^ 62) ≤ j ∧ j < 2 ^ 62) ∧ QA (rangeD 0 j.toNat) w1) : Go X (mRng (aCons ma aNil) σ w) QA :=
  go_bind (go_cons (go_weak h fun _ _ ⟨_, e, hb, h⟩ => by subst e; show Go X (if _ then _ else _) QA; rw [if_pos hb]; exact h))
theorem go_rng2 {ma mb : En → Wd → R D} (h : Go X (ma σ w) fun u w1 => Go X (mb σ w1) fun v w2 => ∃ i j, u = .int i ∧ v = .int j ∧ (-(2 ^ 62) ≤ i ∧ i < 2 ^ 62 ∧ -(2 ^ 62) ≤ j ∧ j < 2 ^ 62) ∧ QA (rangeD i (j - i).toNat) w2) : Go X (mRng (aCons ma (aCons mb aNil)) σ w) QA :=
  go_bind (go_cons (go_weak h fun _ _ h1 => go_cons (go_weak h1 fun _ _ ⟨_, _, e, e', hb, h2⟩ => by subst e; subst e'; show Go X (if _ then _ else _) QA; rw [if_pos hb]; exact h2)))
theorem go_lc {it : En → Wd → R (List D)} {own : List Nat} {f : D → En → Wd → Option En} {mt : En → Wd → R Bool} {me : En → Wd → R D} (h : Go X (it σ w) fun ds w1 => Go X (lcL own f mt me σ ds [] w1) fun xs w2 => Q (.lst xs) w2) : Go X (mLc it own f mt me σ w) Q :=
  go_bind (go_weak h fun _ _ h => go_bind h)
theorem go_lcM {it : En → Wd → R (List D)} {own : List Nat} {f : D → En → Wd → Option En} {mt : En → Wd → R Bool} {me : En → Wd → R D} (h : Go X (it σ w) fun ds w1 => Go X (lcL own f mt me σ ds [] w1) fun xs w2 => Q (.obj w2.length) (w2 ++ [.lst xs])) : Go X (mLcM it own f mt me σ w) Q :=
  go_bind (go_weak h fun _ _ h => go_bind h)
abbrev EX0 : EX := fun _ _ _ => False
/-- a comprehension, by what holds of (what is gathered, what is left, the cells) -/
theorem go_lcL {own : List Nat} {f : D → En → Wd → Option En} {mt : En → Wd → R Bool} {me : En → Wd → R D} (I : List D → List D → Wd → Prop)
    (hs : ∀ acc d r w, I acc (d :: r) w → ∃ σ1, f d (wipeD σ own) w = some σ1 ∧ Go EX0 (mt σ1 w) fun b w1 => Br b (Go EX0 (me σ1 w1) fun y w2 => acc.length < 16777216 ∧ I (acc ++ [y]) r w2) (I acc r w1))
    (he : ∀ acc w, I acc [] w → QA acc w) : ∀ (ds acc : List D) (w : Wd), I acc ds w → Go X (lcL own f mt me σ ds acc w) QA
  | [], acc, w, h => he acc w h
  | d :: r, acc, w, h => by
    obtain ⟨σ1, e, h1⟩ := hs acc d r w h
    rw [lcL]
    simp only [e]
    obtain ⟨b, w1, e1, h2⟩ := go_get h1
    rw [e1]
    cases b with
    | false => exact go_lcL I hs he r acc w1 h2
    | true =>
      obtain ⟨y, w2, e2, h3⟩ := go_get h2
      simp only [e2]
      rw [if_pos h3.1]
      exact go_lcL I hs he r _ w2 h3.2
/-! statements -/
theorem gd_next (h : N σ w) : Gd X N T B C (mNext σ w) := h
theorem gd_brk (h : B σ w) : Gd X N T B C (mBrk σ w) := h
theorem gd_cnt (h : C σ w) : Gd X N T B C (mCnt σ w) := h
theorem gd_seq {m1 m2 : En → Wd → SR} (h : Gd X (fun σ1 w1 => Gd X N T B C (m2 σ1 w1)) T B C (m1 σ w)) : Gd X N T B C (mSeq m1 m2 σ w) := by
  unfold mSeq
  cases e : m1 σ w <;> (rw [e] at h; exact h)
theorem gd_ret {ma : En → Wd → R D} (h : Go X (ma σ w) T) : Gd X N T B C (mRet ma σ w) := gd_toS h
theorem gd_retN (h : T .non w) : Gd X N T B C (mRetN σ w) := h
theorem gd_expr {ma : En → Wd → R D} (h : Go X (ma σ w) fun _ w1 => N σ w1) : Gd X N T B C (mExpr ma σ w) := gd_toS h
theorem gd_if {mc : En → Wd → R Bool} {m1 m2 : En → Wd → SR} (h : Go X (mc σ w) fun b w1 => Br b (Gd X N T B C (m1 σ w1)) (Gd X N T B C (m2 σ w1))) : Gd X N T B C (mIfS mc m1 m2 σ w) :=
  gd_toS (go_weak h fun b _ h => by cases b <;> exact h)
theorem gd_asg {ma : En → Wd → R D} {f : D → En → Wd → Option En} (h : Go X (ma σ w) fun d w1 => ∃ σ1, f d σ w1 = some σ1 ∧ N σ1 w1) : Gd X N T B C (mAsg ma f σ w) :=
  gd_toS (go_weak h fun _ _ ⟨_, e, h⟩ => by rw [e]; exact h)
theorem gd_nm {ma : En → Wd → R D} {i : Nat} (h : Go X (ma σ w) fun d w1 => N (σ.set i (some d)) w1) : Gd X N T B C (mAsg ma (gNm i) σ w) := gd_toS h
theorem gd_par {i j : Nat} {ma mb : En → Wd → R D} (h : Go X (ma σ w) fun d w1 => Go X (mb σ w1) fun e w2 => N ((σ.set i (some d)).set j (some e)) w2) : Gd X N T B C (mPar i j (aCons ma (aCons mb aNil)) σ w) :=
  gd_toS (go_cons (go_weak h fun _ _ h => go_cons (go_weak h fun _ _ h => h)))
theorem gd_augI {f : Int → Int → Int} {i : Nat} {ma : En → Wd → R D} {z : Int} (e : σ[i]? = some (some (.int z))) (h : Go X (ma σ w) fun d w1 => ∃ y, d = .int y ∧ N (σ.set i (some (.int (f z y)))) w1) : Gd X N T B C (mAugI f i ma σ w) := by
  unfold mAugI
  rw [e]
  exact gd_toS (go_weak h fun _ _ ⟨_, e, h⟩ => by subst e; exact h)
/-- a for, by what holds of (what is left, the frame, the cells) -/
theorem gd_forL {f : D → En → Wd → Option En} {body : En → Wd → SR} (I : List D → En → Wd → Prop)
    (hs : ∀ d r σ w, I (d :: r) σ w → ∃ σ1, f d σ w = some σ1 ∧ Gd X (I r) T N (I r) (body σ1 w))
    (he : ∀ σ w, I [] σ w → N σ w) : ∀ (ds : List D) (σ : En) (w : Wd), I ds σ w → Gd X N T B C (forL f body ds σ w)
  | [], σ, w, h => he σ w h
  | d :: r, σ, w, h => by
    obtain ⟨σ1, e, h1⟩ := hs d r σ w h
    rw [forL]
    simp only [e]
    cases e1 : body σ1 w <;> rw [e1] at h1
    · exact gd_forL I hs he r _ _ h1
    · exact h1
    · exact h1
    · exact gd_forL I hs he r _ _ h1
    · exact h1
    · exact h1
theorem gd_for {it : En → Wd → R (List D)} {f : D → En → Wd → Option En} {body : En → Wd → SR} (h : Go X (it σ w) fun ds w1 => Gd X N T B C (forL f body ds σ w1)) : Gd X N T B C (mFor it f body σ w) := gd_toS h
theorem go_fn {n k : Nat} {m : En → Wd → SR} {ds : List D} (hl : ds.length = k) (h : Gd X (fun _ w1 => Q .non w1) Q (fun _ _ => False) (fun _ _ => False) (m (startD n ds) w)) : Go X (fnD n k m ds w) Q := by
  unfold fnD
  rw [if_pos hl]
  cases e : m (startD n ds) w <;> (rw [e] at h; exact h)
/-! what the model's own operations answer -/
theorem go_addI {i j : Int} (q : Q (.int (i + j)) w) : Go X (gAdd (.int i) (.int j) w) Q := q
theorem go_addS {i j : Str} (hl : i.length + j.length ≤ 16777216) (q : Q (.str (i ++ j)) w) : Go X (gAdd (.str i) (.str j) w) Q := by
  unfold gAdd
  dsimp only
  rw [if_pos hl]
  exact q
theorem go_addL {i j : List D} (hl : i.length + j.length ≤ 16777216) (q : Q (.lst (i ++ j)) w) : Go X (gAdd (.lst i) (.lst j) w) Q := by
  unfold gAdd
  dsimp only
  rw [if_pos hl]
  exact q
theorem go_addT {i j : List D} (hl : i.length + j.length ≤ 16777216) (q : Q (.tup (i ++ j)) w) : Go X (gAdd (.tup i) (.tup j) w) Q := by
  unfold gAdd
  dsimp only
  rw [if_pos hl]
  exact q
theorem go_subI {i j : Int} (q : Q (.int (i - j)) w) : Go X (gSub (.int i) (.int j) w) Q := q
theorem go_mulR {i j : Int} (h : -(2 ^ 64) < j ∧ j < 2 ^ 64) (q : Q (.int (i * j)) w) : Go X (gMul (.int i) (.int j) w) Q := go_ok (mulC h) q
theorem go_mulL {i j : Int} (h : -(2 ^ 64) < i ∧ i < 2 ^ 64) (q : Q (.int (i * j)) w) : Go X (gMul (.int i) (.int j) w) Q := go_ok (mulL h) q
theorem go_mulS {a : Str} {n : Int} (h : 0 ≤ n ∧ n ≤ 1000 ∧ a.length ≤ 1000) (q : Q (.str (strMul a n)) w) : Go X (gMul (.str a) (.int n) w) Q := by
  unfold gMul
  dsimp only
  rw [if_pos h]
  exact q
theorem go_mulLs {a : List D} {n : Int} (h : 0 ≤ n ∧ n ≤ 1000 ∧ a.length ≤ 1000) (q : Q (.lst (List.replicate n.toNat a).flatten) w) : Go X (gMul (.lst a) (.int n) w) Q := by
  unfold gMul
  dsimp only
  rw [if_pos h]
  exact q
theorem go_div {i j : Int} (h0 : 0 < j) (h : j < 2 ^ 200) (q : Q (.int (i / j)) w) : Go X (gDiv (.int i) (.int j) w) Q := go_ok (divC (log2_small h0 h)) q
theorem go_mod {i j : Int} (h : 0 < j) (q : Q (.int (i % j)) w) : Go X (gMod (.int i) (.int j) w) Q := go_ok (modC h) q
theorem go_lt {i j : Int} (q : Q (.bl (decide (i < j))) w) : Go X (gLt (.int i) (.int j) w) Q := q
theorem go_le {i j : Int} (q : Q (.bl (decide (i ≤ j))) w) : Go X (gLe (.int i) (.int j) w) Q := q
theorem go_gt {i j : Int} (q : Q (.bl (decide (j < i))) w) : Go X (gGt (.int i) (.int j) w) Q := q
theorem go_ge {i j : Int} (q : Q (.bl (decide (j ≤ i))) w) : Go X (gGe (.int i) (.int j) w) Q := q
theorem go_eqI {i j : Int} (q : Q (.bl (decide (i = j))) w) : Go X (gEq (.int i) (.int j) w) Q := q
theorem go_neI {i j : Int} (q : Q (.bl (!decide (i = j))) w) : Go X (gNe (.int i) (.int j) w) Q := q
theorem go_eqS {i j : Str} (q : Q (.bl (decide (i = j))) w) : Go X (gEq (.str i) (.str j) w) Q := q
theorem go_neS {i j : Str} (q : Q (.bl (!decide (i = j))) w) : Go X (gNe (.str i) (.str j) w) Q := q
theorem go_lenL {ds : List D} (q : Q (.int ds.length) w) : Go X (gLen [.lst ds] w) Q := q
theorem go_lenT {ds : List D} (q : Q (.int ds.length) w) : Go X (gLen [.tup ds] w) Q := q
theorem go_lenS {z : Str} (h : z.length ≤ 16777216) (q : Q (.int z.length) w) : Go X (gLen [.str z] w) Q := by
  unfold gLen
  dsimp only
  rw [if_pos h]
  exact q
/-! small side facts -/
theorem ex_rfl {α : Type} {a : α} {R : α → Prop} (h : R a) : ∃ b, a = b ∧ R b := ⟨a, rfl, h⟩
theorem ex_bl {b : Bool} {R : Bool → Prop} (h : R b) : ∃ c, D.bl b = .bl c ∧ R c := ⟨b, rfl, h⟩
theorem ex_int {b : Int} {R : Int → Prop} (h : R b) : ∃ c, D.int b = .int c ∧ R c := ⟨b, rfl, h⟩
theorem ex_str {b : Str} {R : Str → Prop} (h : R b) : ∃ c, D.str b = .str c ∧ R c := ⟨b, rfl, h⟩
theorem ex_bl2 {b : Bool} {R : D → Bool → Prop} (h : R (.bl b) b) : ∃ c, D.bl b = .bl c ∧ R (.bl b) c := ⟨b, rfl, h⟩
theorem ex_tru {u : D} {b : Bool} {R : Bool → Prop} (e : truD u w = some b) (h : R b) : ∃ b, truD u w = some b ∧ R b := ⟨b, e, h⟩
theorem ex_ty {u : D} {b : String} {R : String → Prop} (e : tyD u w = some b) (h : R b) : ∃ b, tyD u w = some b ∧ R b := ⟨b, e, h⟩
theorem ex_it {u : D} {b : List D} {R : List D → Prop} (e : itemsD u = some b) (h : R b) : ∃ b, itemsD u = some b ∧ R b := ⟨b, e, h⟩
theorem ex_nm {i : Nat} {d : D} {R : En → Prop} (h : R (σ.set i (some d))) : ∃ σ1, gNm i d σ w = some σ1 ∧ R σ1 := ⟨_, rfl, h⟩
theorem an_le {n : Nat} (e : n ≤ 16777216) (h : P) : n ≤ 16777216 ∧ P := ⟨e, h⟩
/-! draws -/
theorem go_draw {n : Nat} {many : Int} (hb : BagAt w n) (h0 : 0 < many) (h1 : many < 2 ^ 200) (q : ∀ r b, 0 ≤ r → r < many → BagAt (w.set n b) n → Q (.int r) (w.set n b)) : Go X (drawF [.obj n, .int many] w) Q := by
  obtain ⟨r, b, r0, r1, e, hb'⟩ := draw_spec hb h0 h1
  exact go_ok e (q r b r0 r1 hb')
theorem go_ofL {n : Nat} {ds : List D} (hb : BagAt w n) (h0 : 0 < ds.length) (h1 : ds.length < 2 ^ 190) (q : ∀ d b, d ∈ ds → BagAt (w.set n b) n → Q d (w.set n b)) : Go X (ofF [.obj n, .lst ds] w) Q := by
  obtain ⟨d, b, hm, e, hb'⟩ := of_lst hb h0 h1
  exact go_ok e (q d b hm hb')
theorem go_ofT {n : Nat} {ds : List D} (hb : BagAt w n) (h0 : 0 < ds.length) (h1 : ds.length < 2 ^ 190) (q : ∀ d b, d ∈ ds → BagAt (w.set n b) n → Q d (w.set n b)) : Go X (ofF [.obj n, .tup ds] w) Q := by
  obtain ⟨d, b, hm, e, hb'⟩ := of_tup hb h0 h1
  exact go_ok e (q d b hm hb')
theorem go_ofS {n : Nat} {z : Str} (hb : BagAt w n) (h0 : 0 < z.length) (h1 : z.length ≤ 16777216) (q : ∀ c b, c ∈ z.cps.toList → BagAt (w.set n b) n → Q (.str ⟨#[c]⟩) (w.set n b)) : Go X (ofF [.obj n, .str z] w) Q := by
  obtain ⟨c, b, hm, e, hb'⟩ := of_str hb h0 h1
  exact go_ok e (q c b hm hb')
theorem an_rng {j : Int} (e : -(2 ^ 62) ≤ j ∧ j < 2 ^ 62) (h : P) : (-(2 ^ 62) ≤ j ∧ j < 2 ^ 62) ∧ P := ⟨e, h⟩
theorem an_rng2 {i j : Int} (e : -(2 ^ 62) ≤ i ∧ i < 2 ^ 62 ∧ -(2 ^ 62) ≤ j ∧ j < 2 ^ 62) (h : P) : (-(2 ^ 62) ≤ i ∧ i < 2 ^ 62 ∧ -(2 ^ 62) ≤ j ∧ j < 2 ^ 62) ∧ P := ⟨e, h⟩
/-- the other cells are as they were -/
def Oth (n : Nat) (w w' : Wd) : Prop := w'.length = w.length ∧ ∀ k, k ≠ n → w'[k]? = w[k]?
theorem oth_set {n : Nat} {b : MO} : Oth n w (w.set n b) := ⟨by simp, fun k h => by rw [List.getElem?_set_ne (fun e => h e.symm)]⟩
theorem dr {n : Nat} {many : Int} (hb : BagAt w n) (h0 : 0 < many) (h1 : many < 2 ^ 200) (q : ∀ r w', 0 ≤ r → r < many → BagAt w' n → Oth n w w' → Q (.int r) w') : Go X (drawF [.obj n, .int many] w) Q :=
  go_draw hb h0 h1 fun r b r0 r1 hb' => q r _ r0 r1 hb' oth_set
theorem ofl {n : Nat} {ds : List D} (hb : BagAt w n) (h0 : 0 < ds.length) (h1 : ds.length < 2 ^ 190) (q : ∀ d w', d ∈ ds → BagAt w' n → Oth n w w' → Q d w') : Go X (ofF [.obj n, .lst ds] w) Q :=
  go_ofL hb h0 h1 fun d b hm hb' => q d _ hm hb' oth_set
theorem oft {n : Nat} {ds : List D} (hb : BagAt w n) (h0 : 0 < ds.length) (h1 : ds.length < 2 ^ 190) (q : ∀ d w', d ∈ ds → BagAt w' n → Oth n w w' → Q d w') : Go X (ofF [.obj n, .tup ds] w) Q :=
  go_ofT hb h0 h1 fun d b hm hb' => q d _ hm hb' oth_set
theorem ofs {n : Nat} {z : Str} (hb : BagAt w n) (h0 : 0 < z.length) (h1 : z.length ≤ 16777216) (q : ∀ c w', c ∈ z.cps.toList → BagAt w' n → Oth n w w' → Q (.str ⟨#[c]⟩) w') : Go X (ofF [.obj n, .str z] w) Q :=
  go_ofS hb h0 h1 fun c b hm hb' => q c _ hm hb' oth_set
theorem go_bag {ns : List Int} (hl : ns.length ≤ 63) (q : ∀ b, BagAt (w ++ [b]) w.length → Q (.obj w.length) (w ++ [b])) : Go X (bagF [.scr ns] w) Q := by
  obtain ⟨b, e, hb⟩ := bag_spec ns w hl
  exact go_ok e (q b hb)
theorem go_same {n : Nat} {d e : D} (h : d = e) (hf : d.fine n = true) (q : Q (.bl true) w) : Go X (sameF (n + 1) [d, e] w) Q := by
  subst h
  exact go_ok (same_refl n d w hf) q
end
/-! texts -/
def mkS (cs : List Nat) : Str := ⟨cs.toArray⟩
theorem mkS_len {cs : List Nat} : (mkS cs).length = cs.length := by simp [mkS, Str.length]
theorem mkS_cps {cs : List Nat} : (mkS cs).cps.toList = cs := by simp [mkS]
theorem mkS_inj {a b : List Nat} (h : mkS a = mkS b) : a = b := by
  have := congrArg (fun z : Str => z.cps.toList) h
  simpa [mkS] using this
theorem mkS_add {a b : List Nat} : mkS a ++ mkS b = mkS (a ++ b) := by
  show (⟨a.toArray ++ b.toArray⟩ : Str) = ⟨(a ++ b).toArray⟩
  simp
theorem mkS_mul {a : List Nat} {n : Int} : strMul (mkS a) n = mkS (List.replicate n.toNat a).flatten := by
  simp [strMul, mkS]
theorem joinL_ones : ∀ cs : List Nat, TL.joinL [] (cs.map fun c => [c]) = cs
  | [] => rfl
  | [c] => rfl
  | c :: d :: r => by
    have ih := joinL_ones (d :: r)
    simp only [List.map_cons] at ih ⊢
    rw [TL.joinL, ih]
    rfl
theorem stA_ones : ∀ cs : List Nat, stA (cs.map fun c => .str ⟨#[c]⟩) = some (cs.map fun c => ⟨#[c]⟩)
  | [] => rfl
  | c :: r => by rw [List.map_cons, stA, stA_ones r]; rfl
theorem sum_ones : ∀ cs : List Nat, ((cs.map fun c => (⟨#[c]⟩ : Str)).map (·.length)).sum = cs.length
  | [] => rfl
  | c :: r => by
    rw [List.map_cons, List.map_cons, List.sum_cons, sum_ones r, List.length_cons, Nat.add_comm]
    rfl
theorem go_joinO {X : EX} {Q : D → Wd → Prop} {w : Wd} {cs : List Nat} (hl : cs.length ≤ 16777216) (q : Q (.str (mkS cs)) w) : Go X (gJoin (.str "") (.lst (cs.map fun c => .str ⟨#[c]⟩)) w) Q := by
  refine go_ok (a := D.str (mkS cs)) (w' := w) ?_ q
  have e : Txt.join "" (cs.map fun c => (⟨#[c]⟩ : Str)) = mkS cs := by
    have := SX.join_S [] (cs.map fun c => [c])
    rw [joinL_ones, List.map_map] at this
    exact this
  unfold gJoin
  simp only [seqD, der_lst, Option.bind, stA_ones]
  rw [sum_ones, if_pos (by show cs.length + _ * 0 ≤ _; omega), e]
end Si

set_option Elab.async false
set_option linter.all false
set_option autoImplicit false
set_option maxRecDepth 100000
set_option maxHeartbeats 4000000
/-! Si15: instances of own classes: fields, methods, making, properties. -/
namespace Si
open PySem L2 PyProof.Rows
section
variable {K : PySem.W.Frag} {cl : Str → Option Addr} {s s1 : S} {EK : XK}
/-- the instance in a cell -/
def insL (u : D) (w : Wd) : Option (Nat × Str × List (Str × D)) := match u with
  | .obj n => match w[n]? with
    | some (.ins c fs) => some (n, c, fs)
    | _ => none
  | _ => none
theorem ins_of {v : V} {u : D} {n : Nat} {c : Str} {fs : List (Str × D)} (ok : Ok K cl s) (r : Rep K s v u) (h : insL u s.w = some (n, c, fs)) : ∃ a C dx vfs, v = .ref a ∧ s.ρ[n]? = some a ∧ cl c = some C ∧ s.H a = some (.ins C dx vfs) ∧ RepF K s vfs fs ∧ s.w[n]? ≠ some MO.dead := by
  unfold insL at h
  split at h
  · rename_i m
    split at h
    · rename_i c' fs' hw
      cases h
      cases r with
      | obj hn =>
        obtain ⟨C, dx, vfs, h0, h1, h2⟩ := ok.cell _ _ _ hn hw
        exact ⟨_, C, dx, vfs, rfl, hn, h0, h1, h2, by rw [hw]; simp⟩
    · cases h
  · cases h
theorem RepF.look {f : Str} {d : D} : ∀ {vfs : List (Str × V)} {fs : List (Str × D)}, RepF K s vfs fs → fs.lookup f = some d → ∃ v, vfs.lookup f = some v ∧ Rep K s v d
  | [], [], _, h => by cases h
  | [], _ :: _, r, _ => r.elim
  | _ :: _, [], r, _ => r.elim
  | (g, v) :: vr, (g', d') :: dr, ⟨e, h1, h2⟩, h => by
    simp only at e h1
    subst e
    simp only [List.lookup] at h ⊢
    split at h
    · cases h
      exact ⟨v, rfl, h1⟩
    · exact RepF.look h2 h
theorem RepF.look0 {f : Str} : ∀ {vfs : List (Str × V)} {fs : List (Str × D)}, RepF K s vfs fs → fs.lookup f = none → vfs.lookup f = none
  | [], [], _, h => rfl
  | [], _ :: _, r, _ => r.elim
  | _ :: _, [], r, _ => r.elim
  | (g, v) :: vr, (g', d') :: dr, ⟨e, h1, h2⟩, h => by
    simp only at e h1
    subst e
    simp only [List.lookup] at h ⊢
    split at h
    · cases h
    · exact RepF.look0 h2 h
def putD (f : Str) (v : D) : List (Str × D) → List (Str × D)
  | [] => [(f, v)]
  | (g, x) :: r => if g = f then (g, v) :: r else (g, x) :: putD f v r
theorem RepF.put {f : Str} {v : V} {d : D} (r : Rep K s v d) : ∀ {vfs : List (Str × V)} {fs : List (Str × D)}, RepF K s vfs fs → RepF K s (putF f v vfs) (putD f d fs)
  | [], [], _ => ⟨rfl, r, trivial⟩
  | [], _ :: _, h => h.elim
  | _ :: _, [], h => h.elim
  | (g, x) :: vr, (g', y) :: dr, ⟨e, h1, h2⟩ => by
    simp only at e h1
    subst e
    rw [putF, putD]
    split
    · exact ⟨rfl, r, h2⟩
    · exact ⟨rfl, h1, RepF.put r h2⟩
theorem RepF.len {κ : Type} : ∀ {vfs : List (κ × V)} {fs : List (κ × D)}, RepF K s vfs fs → vfs.length = fs.length
  | [], [], _ => rfl
  | [], _ :: _, r => r.elim
  | _ :: _, [], r => r.elim
  | _ :: _, _ :: _, ⟨_, _, r⟩ => by rw [List.length_cons, List.length_cons, RepF.len r]
/-- the classes cs hold plain instances, and none of them has the name f -/
def CF (K : PySem.W.Frag) (cl : Str → Option Addr) (cs : List Str) (f : Str) : Prop := ∀ c ∈ cs, ∀ C, cl c = some C → Cls K C ∧ NoAttr K C f
end
section
variable {X : Cx} {cl : Str → Option Addr} {EK : XK} {a b c o i e value : Expr} {ma mb mo mi me mv : En → Wd → R D} {mas : En → Wd → R (List D)} {pos pos' p apos cpos spos : Pos} {es : List Expr} {f : Str} {cs : List Str}
/-- e.f, a field -/
def mFld (cs : List Str) (f : Str) (ma : En → Wd → R D) : En → Wd → R D := fun σd w => (ma σd w).bind fun u w1 => match insL u w1 with
  | some (_, c, fs) => if c ∈ cs then (match fs.lookup f with
    | some d => .ok d w1
    | none => .stuck) else .stuck
  | none => .stuck
theorem se_fld (ha : SE X cl EK a ma) (hc : CF X.K cl cs f) (hb : attributeBase a f X.env (eval a X.env) = eval a X.env := by rfl) : SE X cl EK (.Attribute a f pos) (mFld cs f ma) :=
  PE.weak (pe_fld ha hb) fun σ H Q h => tG_imp (tG_bind h) fun x H1 ⟨s, σd, u, e, ok, re, ru, p⟩ => by
    subst e
    dsimp only at p
    split at p
    · rename_i n c fs hi
      split at p
      · rename_i hcs
        split at p
        · rename_i d hl
          obtain ⟨q, C, dx, vfs, rfl, hn, hC, hH, rf, hd⟩ := ins_of ok ru hi
          obtain ⟨v, hv, rv⟩ := rf.look hl
          exact ⟨q, C, dx, vfs, v, rfl, hH, (hc c hcs C hC).1, (hc c hcs C hC).2, hv, post_here ok p rv⟩
        · exact p.elim
      · exact p.elim
    · exact p.elim
/-- o.f = value -/
def mSetF (cs : List Str) (f : Str) (mo mv : En → Wd → R D) : En → Wd → SR := fun σd w => (mv σd w).toS fun d w1 => (mo σd w1).toS fun u w2 => match insL u w2 with
  | some (n, c, fs) => if c ∈ cs ∧ fs.length < 1000 then .next σd (w2.set n (.ins c (putD f d fs))) else .stuck
  | none => .stuck
theorem ss_setF (ho : SE X cl EK o mo) (hv : SE X cl EK value mv) (hc : CF X.K cl cs f) (hs : swapsWith value (some (.Attribute o f pos')) pos.line X.env = pure false := by rfl) : SS X cl EK (.Assign [.Attribute o f pos'] value pos) (mSetF cs f mo mv) :=
  PS.weak (ps_fld ho hv hs) fun D σ H ⟨s, σd, e, ok, re, p⟩ => by
    subst e
    refine tG_of ok re (posts_bind p fun s1 v d ex1 ok1 r1 p1 => ?_)
    refine tG_of ok1 (re.mono ok ex1) (posts_bind p1 fun s2 x u ex2 ok2 r2 p2 => ?_)
    split at p2
    · rename_i n c fs hi
      split at p2
      · rename_i hcs
        obtain ⟨q, C, dx, vfs, rfl, hn, hC, hH, rf, hd⟩ := ins_of ok2 r2 hi
        refine ⟨q, C, dx, vfs, rfl, hH, (hc c hcs.1 C hC).1, (hc c hcs.1 C hC).2, by rw [rf.len]; exact hcs.2, ?_⟩
        have rd := r1.mono ok1 ex2
        have ex : Ext s2 (s2.wr n q (.ins C dx (putF f v vfs)) (.ins c (putD f d fs))) := S.wr_ext ok2 hn hd
        exact p2 _ σ ex (S.wr_ok ok2 hn hd ⟨C, dx, _, hC, upd_same, (rf.put rd).mono ok2 ex⟩) rfl (((re.mono ok ex1).mono ok1 ex2).mono ok2 ex)
      · exact p2.elim
    · exact p2.elim
/-- o.m(..), m a def of the class c -/
def mMeth (c m : Str) (G : List D → Wd → R D) (mo : En → Wd → R D) (mas : En → Wd → R (List D)) : En → Wd → R D := fun σd w => (mo σd w).bind fun u w1 => match insL u w1 with
  | some (_, c', fs) => if c' = c ∧ fs.lookup m = none then (mas σd w1).bind fun us w2 => G (u :: us) w2 else .stuck
  | none => .stuck
theorem se_meth {pl : Sem Bool} {C fa : Addr} {fd : FuncData} {ps : List Str} {k : Nat} {G : List D → Wd → R D} {cn m : Str} (ho : SE X cl EK o mo) (hcl : cl cn = some C) (c : Cls X.K C) (hm : Meth X.K C m fa)
    (F : SF X.prog X.w X.K cl X.mg X.base k fa fd ps G) (hr : Room k X.A) (hb : Binds X.K fd ps []) (hx : Passes (L2.CX X.prog X.w) X EK) (ha : SA X cl EK (e :: es) mas)
    (hst : starEach (e :: es) X.env = (false, eval e X.env) :: starEach es X.env := by rfl) (hpl : (backTo pos (starEach es X.env)).any (·.1) = false := by rfl)
    (ht : eval (.Call (.Attribute o m apos) (e :: es) [] pos) X.env = (do
      let rv ← eval o X.env
      standAt apos.atName
      let (g, first) ← holding [rv] (getMethod rv m pl)
      callWith pos g first (backTo pos (starEach (e :: es) X.env)) (backToKw pos (keywordEach [] X.env))) := by rfl) :
    SE X cl EK (.Call (.Attribute o m apos) (e :: es) [] pos) (mMeth cn m G mo mas) :=
  PE.weak (pe_meth ho c hm F hr hb .nil hx ha hst hpl ht) fun σ H Q h => tG_imp (tG_bind h) fun x H1 ⟨s, σd, u, e, ok, re, ru, p⟩ => by
    subst e
    dsimp only at p
    split at p
    · rename_i n c' fs hi
      split at p
      · rename_i hcn
        obtain ⟨e1, e2⟩ := hcn
        subst e1
        obtain ⟨q, C', dx, vfs, rfl, hn, hC, hH, rf, hd⟩ := ins_of ok ru hi
        rw [hcl] at hC
        cases hC
        refine ⟨q, dx, vfs, rfl, hH, rf.look0 e2, ?_⟩
        refine tG_of ok re (post_bind p fun s1 vs ds ex ok1 rs p1 => ?_)
        exact ⟨s1, _, rfl, ok1, by rw [List.append_nil]; exact .cons (ru.mono ok ex) rs, p1⟩
      · exact p.elim
    · exact p.elim
theorem se_meth0 {pl : Sem Bool} {C fa : Addr} {fd : FuncData} {ps : List Str} {k : Nat} {G : List D → Wd → R D} {cn m : Str} (ho : SE X cl EK o mo) (hcl : cl cn = some C) (c : Cls X.K C) (hm : Meth X.K C m fa)
    (F : SF X.prog X.w X.K cl X.mg X.base k fa fd ps G) (hr : Room k X.A) (hb : Binds X.K fd ps []) (hx : Passes (L2.CX X.prog X.w) X EK)
    (ht : eval (.Call (.Attribute o m apos) [] [] pos) X.env = (do
      let rv ← eval o X.env
      standAt apos.atName
      let (g, first) ← holding [rv] (getMethod rv m pl)
      callWith pos g first (backTo pos (starEach [] X.env)) (backToKw pos (keywordEach [] X.env))) := by rfl) :
    SE X cl EK (.Call (.Attribute o m apos) [] [] pos) (mMeth cn m G mo aNil) :=
  PE.weak (pe_meth0 ho c hm F hr hb .nil hx ht) fun σ H Q h => tG_imp (tG_bind h) fun x H1 ⟨s, σd, u, e, ok, re, ru, p⟩ => by
    subst e
    dsimp only at p
    split at p
    · rename_i n c' fs hi
      split at p
      · rename_i hcn
        obtain ⟨e1, e2⟩ := hcn
        subst e1
        obtain ⟨q, C', dx, vfs, rfl, hn, hC, hH, rf, hd⟩ := ins_of ok ru hi
        rw [hcl] at hC
        cases hC
        exact ⟨q, dx, vfs, rfl, hH, rf.look0 e2, s, _, rfl, ok, .cons ru .nil, p⟩
      · exact p.elim
    · exact p.elim
/-- a new instance of c in a new cell, then its __init__ -/
def made (c : Str) (G : List D → Wd → R D) (pm : List Nat) (us : List D) (w : Wd) : R D := match G (permL pm (.obj w.length :: us)) (w ++ [.ins c []]) with
  | .ok .non w3 => .ok (.obj w.length) w3
  | .err x fs w3 => .err x fs w3
  | _ => .stuck
def mMake (c : Str) (G : List D → Wd → R D) (pm : List Nat) (dms : List D) (mas mks : En → Wd → R (List D)) : En → Wd → R D := fun σd w => (mas σd w).bind fun us w1 => (mks σd w1).bind fun zs w2 => made c G pm (us ++ (zs ++ dms)) w2
theorem make_core {EK : XK} {s : S} {C : Addr} {cn : Str} {G : List D → Wd → R D} {pm : List Nat} {us : List D} {vs : List V} {Q : VK} {EKk : XK} (hcl : cl cn = some C) (ok : Ok X.K cl s) (r : RepA X.K s vs us) (p : Post X.K cl (Rep X.K) EK s (made cn G pm us s.w) Q) :
    ∀ x dx, s.H x = none → s.H dx = none → dx ≠ x → spOf X.K cl G (permL pm (.ref x :: vs)) (upd (upd s.H dx (.own x)) x (.ins C dx [])) (fun v H2 => v = .non ∧ Q (.ref x) H2) EK := by
  intro x dx hx hdx hne
  have hF : ¬ s.F dx := fun h => ok.frz _ h hdx
  have hρ : dx ∉ s.ρ := fun h => ok.trk _ h hdx
  have ok1 := S.prv_ok (o := .own x) ok hF hρ
  have ex1 : Ext s (s.prv dx (.own x)) := S.prv_ext (Ext.refl s) hdx
  have hx1 : (s.prv dx (.own x)).H x = none := by
    show upd s.H dx (.own x) x = none
    rw [upd_ne (Ne.symm hne)]
    exact hx
  have ex2 : Ext (s.prv dx (.own x)) ((s.prv dx (.own x)).cell x (.ins C dx []) (.ins cn [])) := S.cell_ext ok1 hx1
  have ok2 : Ok X.K cl ((s.prv dx (.own x)).cell x (.ins C dx []) (.ins cn [])) := S.cell_ok ok1 hx1 ⟨C, dx, [], hcl, upd_same, trivial⟩
  have rx : Rep X.K ((s.prv dx (.own x)).cell x (.ins C dx []) (.ins cn [])) (.ref x) (.obj s.w.length) := .obj (by
    show (s.ρ ++ [x])[s.w.length]? = some x
    rw [← ok.len, List.getElem?_append_right (Nat.le_refl _), Nat.sub_self]
    rfl)
  have ex := ex1.trans ex2
  refine ⟨_, permL pm (.obj s.w.length :: us), rfl, ok2, permL_rep (.cons rx (r.mono ok ex)) pm, ?_⟩
  show Post X.K cl (Rep X.K) EK _ (G (permL pm (.obj s.w.length :: us)) (s.w ++ [.ins cn []])) _
  unfold made at p
  cases q : G (permL pm (.obj s.w.length :: us)) (s.w ++ [.ins cn []]) with
  | ok d w3 =>
    rw [q] at p
    intro s3 v ex3 ok3 hw3 r3
    cases d with
    | non =>
      cases r3
      refine ⟨rfl, p s3 (.ref x) (ex.trans ex3) ok3 hw3 ?_⟩
      exact rx.mono ok2 ex3
    | _ => exact p.elim
  | err c fs w3 =>
    rw [q] at p
    have p' : Post X.K cl (Rep X.K) EK s (R.err (α := D) c fs w3) Q := p
    exact Post.ext ex p'
  | stuck => rw [q] at p; exact p.elim
theorem se_make {C fa : Addr} {fd : FuncData} {ps : List Str} {k : Nat} {G : List D → Wd → R D} {x : Str} {pm : List Nat} (hcl : cl x = some C) (M : Mk X.K C fa) (F : SF X.prog X.w X.K cl X.mg X.base k fa fd ps G) (hr : Room (k + 1) X.A) (hg : Gl X x) (hm : X.mg x = some (.ref C)) (hb : Binds X.K fd ps [])
    (hx : Passes (L2.CX X.prog X.w) X EK) (ha : SA X cl EK (e :: es) mas) (hpm : ∀ {α : Type} (y : α) (ys : List α), permL pm (y :: ys) = y :: ys) (hdb : (x == ("__debug__" : Str)) = false := by decide) (he : starEach (e :: es) X.env = (false, eval e X.env) :: starEach es X.env := by rfl) (hpl : (backTo pos (starEach es X.env)).any (·.1) = false := by rfl) :
    SE X cl EK (.Call (.Name x p) (e :: es) [] pos) (mMake x G pm [] mas aNil) :=
  PE.weak (pe_make M F hr hg hm hb .nil hx ha hdb he hpl) fun σ H Q h => tG_imp (tG_bind h) fun vs H1 ⟨s, σd, us, e, ok, re, ru, p⟩ => by
    subst e
    have p : Post X.K cl (Rep X.K) EK s (made x G pm (us ++ ([] ++ [])) s.w) Q := p
    rw [List.append_nil, List.append_nil] at p
    have z := make_core (EKk := EK) hcl ok ru p
    intro y dy h1 h2 h3
    have z := z y dy h1 h2 h3
    rw [hpm] at z
    rw [List.append_nil]
    exact z
theorem makeK_core {C : Addr} {G : List D → Wd → R D} {x : Str} {pm : List Nat} {n : Nat} {ks : List Str} {dms : List D} {mvs : List V} {mks : En → Wd → R (List D)} (hcl : cl x = some C) (hdm : ∀ s, RepA X.K s mvs dms)
    (h1 : ∀ σd w us w', mas σd w = .ok us w' → us.length = n) (h2 : ∀ σd w us w', mks σd w = .ok us w' → us.length = ks.length) {σ : L2.St} {H : Hp} {Q : VK} (h : tG X.K cl (Rep X.K) EK (mMake x G pm dms mas mks) σ H Q) :
    tMakeK C n ks.length (spOf X.K cl G) (fun vs zs => permL pm (vs ++ (zs ++ mvs))) EK (tG X.K cl (RepA X.K) EK mas) (tG X.K cl (RepA X.K) EK mks) σ H Q := by
  obtain ⟨s, σd, e, ok, re, p⟩ := h
  subst e
  unfold mMake at p
  refine tG_of ok re ?_
  cases q : mas σd s.w with
  | ok us w1 =>
    rw [q] at p
    dsimp only [R.bind] at p
    intro s1 vs ex1 ok1 hw1 r1
    refine tG_of ok1 (re.mono ok ex1) ?_
    rw [hw1]
    cases q2 : mks σd w1 with
    | ok zs w2 =>
      change Post X.K cl (Rep X.K) EK s (R.bind (mks σd w1) fun zs w2 => made x G pm (us ++ (zs ++ dms)) w2) Q at p
      rw [q2] at p
      dsimp only [R.bind] at p
      intro s2 vz ex2 ok2 hw2 r2
      refine ⟨r1.length.trans (h1 _ _ _ _ q), r2.length.trans (h2 _ _ _ _ q2), ?_⟩
      rw [← hw2] at p
      exact make_core (EKk := EK) hcl ok2 ((r1.mono ok1 ex2).append (r2.append (hdm s2))) (Post.ext (ex1.trans ex2) p)
    | err c fs w2 =>
      change Post X.K cl (Rep X.K) EK s (R.bind (mks σd w1) fun zs w2 => made x G pm (us ++ (zs ++ dms)) w2) Q at p
      rw [q2] at p
      exact Post.ext ex1 p
    | stuck =>
      change Post X.K cl (Rep X.K) EK s (R.bind (mks σd w1) fun zs w2 => made x G pm (us ++ (zs ++ dms)) w2) Q at p
      rw [q2] at p
      exact p.elim
  | err c fs w1 => rw [q] at p; exact p
  | stuck => rw [q] at p; exact p.elim
/-- what a keyword call of a def with keyword-only defaults binds: pm puts (positional, keywords, lacking ones) into the parameters' order -/
abbrev KBq (K : PySem.W.Frag) (fd : FuncData) (ps : List Str) (n : Nat) (ks : List Str) (pm : List Nat) (mvs : List V) (mv : List Value) : Prop := KBn K fd ps n ks (fun us ws => permL pm (us ++ (ws ++ mv))) (fun vs zs => permL pm (vs ++ (zs ++ mvs)))
theorem se_makeK {C fa : Addr} {fd : FuncData} {ps ks : List Str} {k n : Nat} {G : List D → Wd → R D} {x : Str} {pm : List Nat} {dms : List D} {mvs : List V} {mv : List Value} {kws : List Keyword} {mks : En → Wd → R (List D)} (hcl : cl x = some C) (M : Mk X.K C fa) (F : SF X.prog X.w X.K cl X.mg X.base k fa fd ps G) (hr : Room (k + 1) X.A)
    (hg : Gl X x) (hm : X.mg x = some (.ref C)) (hb : KBq X.K fd ps (n + 1) ks pm mvs mv) (hdm : ∀ s, RepA X.K s mvs dms) (hx : Passes (L2.CX X.prog X.w) X EK) (ha : SA X cl EK (e :: es) mas) (hkw : SK X cl EK kws mks)
    (h1 : ∀ σd w us w', mas σd w = .ok us w' → us.length = n) (h2 : ∀ σd w us w', mks σd w = .ok us w' → us.length = ks.length)
    (hall : (backToKw pos (keywordEach kws X.env)).all (·.1.isSome) = true := by rfl) (hks : (backToKw pos (keywordEach kws X.env)).filterMap (·.1) = ks := by rfl) (hdb : (x == ("__debug__" : Str)) = false := by decide)
    (he : starEach (e :: es) X.env = (false, eval e X.env) :: starEach es X.env := by rfl) (hpl : ((backTo pos (starEach (e :: es) X.env)).any (·.1) || (backToKw pos (keywordEach kws X.env)).any (·.1.isNone)) = false := by rfl) :
    SE X cl EK (.Call (.Name x p) (e :: es) kws pos) (mMake x G pm dms mas mks) :=
  PE.weak (pe_makeK M F hr hg hm hb hx ha hkw hall hks hdb he hpl) fun σ H Q h => makeK_core hcl hdm h1 h2 h
/-- e.f, a property -/
def mProp (c : Str) (G : List D → Wd → R D) (ma : En → Wd → R D) : En → Wd → R D := fun σd w => (ma σd w).bind fun u w1 => match insL u w1 with
  | some (_, c', _) => if c' = c then (match G [u] w1 with
    | .ok d w2 => .ok d w2
    | _ => .stuck) else .stuck
  | none => .stuck
theorem se_prop {C fa pr : Addr} {fd : FuncData} {ps : List Str} {k : Nat} {G : List D → Wd → R D} {cn : Str} (ha : SE X cl EK a ma) (hcl : cl cn = some C) (c : Cls X.K C) (hp : PropOf X.K C f pr fa)
    (F : SF X.prog X.w X.K cl X.mg X.base k fa fd ps G) (hr : Room (k + 1) X.A) (hb : Binds X.K fd ps []) (hx : Passes (L2.CX X.prog X.w) X.nox E00) (hab : attributeBase a f X.env (eval a X.env) = eval a X.env := by rfl) :
    SE X cl EK (.Attribute a f pos) (mProp cn G ma) :=
  PE.weak (pe_prop ha c hp F hr hb .nil hx hab) fun σ H Q h => tG_imp (tG_bind h) fun x H1 ⟨s, σd, u, e, ok, re, ru, p⟩ => by
    subst e
    dsimp only at p
    split at p
    · rename_i n c' fs hi
      split at p
      · rename_i hcn
        subst hcn
        obtain ⟨q, C', dx, vfs, rfl, hn, hC, hH, rf, hd⟩ := ins_of ok ru hi
        rw [hcl] at hC
        cases hC
        refine ⟨q, dx, vfs, rfl, hH, s, [u], rfl, ok, .cons ru .nil, ?_⟩
        cases q2 : G [u] s.w with
        | ok d w2 => rw [q2] at p; exact p
        | err c fs w2 => rw [q2] at p; exact p.elim
        | stuck => rw [q2] at p; exact p.elim
      · exact p.elim
    · exact p.elim
end
/-- a def with defaults -/
theorem sf_mkD {P : Program} {w : World} {K : PySem.W.Frag} {cl : Str → Option Addr} {mg : Str → Option Value} {base : Heap} {x qual : Str} {params : Arguments} {body : List Stmt} {scope : Scope} {dvs : List V} {kws : List (Str × V)} {f : Addr} {fd : FuncData} {N ps : List Str} {k n j : Nat} {m : En → Wd → SR} (F : FunD K x qual params body scope dvs kws f fd) (S : FnScope N ps scope) (hn : N.length = n) (hj : ps.length = j)
    (hbody : ∀ (cdv : Value) (A : Around) (outer : List Env) (s : Shared) (H : Hp) (E : XK), Room k (A.deeper (envOfC qual scope s.heap.objs.size f cdv)) → SB (cxOf (L2.CX P w) P w K mg base N qual scope f cdv A outer s H E) cl E body m) : SF P w K cl mg base (k + 1) f fd ps (fnD n j m) := by
  refine F.ok S (fun vs H Q E ⟨s, ds, _, _, r, p⟩ => ?_) (fun cdv A outer s H vs Q E hr h => ⟨_, hbody cdv A outer s H E hr, ?_⟩)
  · rw [r.length]
    by_cases e : ds.length = j
    · rw [e, hj]
    · unfold fnD at p; rw [if_neg e] at p; exact p.elim
  · obtain ⟨s0, ds, e0, ok, r, p⟩ := h
    subst e0
    unfold fnD at p
    by_cases e : ds.length = j
    · rw [if_pos e] at p
      refine ⟨s0, startD n ds, rfl, ok, by rw [← hn]; exact start_rep r N, ?_⟩
      cases q : m (startD n ds) s0.w with
      | next σ1 w1 => rw [q] at p; exact fun s' σ' ex ok' hw re' => p s' .non ex ok' hw .non
      | ret d w1 => rw [q] at p; exact p
      | brk σ1 w1 => rw [q] at p; exact p.elim
      | cnt σ1 w1 => rw [q] at p; exact p.elim
      | err c fs w1 => rw [q] at p; exact p
      | stuck => rw [q] at p; exact p.elim
    · rw [if_neg e] at p; exact p.elim
end Si

set_option Elab.async false
set_option linter.all false
set_option autoImplicit false
set_option maxRecDepth 100000
set_option maxHeartbeats 4000000
/-! Si16: dicts (keys ints and texts), in cells. -/
namespace Si
open PySem L2 PyProof.Rows
/-! tables of plain data -/
def valD (kvs : List (Key × D)) (k : Key) : Option D := (kvs.find? fun kv => decide (kv.1 = k)).map (·.2)
def putKD (kvs : List (Key × D)) (k : Key) (v : D) : List (Key × D) :=
  if (kvs.any fun kv => decide (kv.1 = k)) = true then kvs.map (fun kv => if kv.1 = k then (kv.1, v) else kv) else kvs ++ [(k, v)]
/-- a key as data -/
def keyD : D → Option Key
  | .int i => some (.inl i)
  | .str x => some (.inr x)
  | _ => none
def kD : Key → D
  | .inl i => .int i
  | .inr x => .str x
section
variable {K : PySem.W.Frag} {cl : Str → Option Addr} {s : S} {EK : XK}
theorem RepF.val {k : Key} : ∀ {vks : List (Key × V)} {kvs : List (Key × D)}, RepF K s vks kvs → (∀ d, valD kvs k = some d → ∃ v, valV vks k = some v ∧ Rep K s v d) ∧ (valD kvs k).isSome = (valV vks k).isSome
  | [], [], _ => ⟨fun d h => (by cases h), rfl⟩
  | [], _ :: _, r => r.elim
  | _ :: _, [], r => r.elim
  | p :: vr, q :: dr, ⟨e, h1, h2⟩ => by
    obtain ⟨ih1, ih2⟩ := RepF.val (k := k) h2
    by_cases hk : q.1 = k
    · have hk2 : p.1 = k := e.trans hk
      have e1 : valD (q :: dr) k = some q.2 := by unfold valD; simp [hk]
      have e2 : valV (p :: vr) k = some p.2 := by unfold valV; simp [hk2]
      rw [e1, e2]
      exact ⟨fun d h => ⟨p.2, rfl, by cases h; exact h1⟩, rfl⟩
    · have hk2 : ¬ p.1 = k := fun z => hk (e.symm.trans z)
      have e1 : valD (q :: dr) k = valD dr k := by unfold valD; simp [hk]
      have e2 : valV (p :: vr) k = valV vr k := by unfold valV; simp [hk2]
      rw [e1, e2]
      exact ⟨ih1, ih2⟩
theorem RepF.anyK {k : Key} : ∀ {vks : List (Key × V)} {kvs : List (Key × D)}, RepF K s vks kvs → (vks.any fun kv => decide (kv.1 = k)) = kvs.any fun kv => decide (kv.1 = k)
  | [], [], _ => rfl
  | [], _ :: _, r => r.elim
  | _ :: _, [], r => r.elim
  | p :: vr, q :: dr, ⟨e, _, h2⟩ => by rw [List.any_cons, List.any_cons, RepF.anyK h2, e]
theorem RepF.snoc {k : Key} {v : V} {d : D} (r : Rep K s v d) : ∀ {vks : List (Key × V)} {kvs : List (Key × D)}, RepF K s vks kvs → RepF K s (vks ++ [(k, v)]) (kvs ++ [(k, d)])
  | [], [], _ => ⟨rfl, r, trivial⟩
  | [], _ :: _, r => r.elim
  | _ :: _, [], r => r.elim
  | p :: vr, q :: dr, ⟨e, h1, h2⟩ => ⟨e, h1, RepF.snoc r h2⟩
theorem RepF.repl {k : Key} {v : V} {d : D} (r : Rep K s v d) : ∀ {vks : List (Key × V)} {kvs : List (Key × D)}, RepF K s vks kvs → RepF K s (vks.map fun kv => if kv.1 = k then (kv.1, v) else kv) (kvs.map fun kv => if kv.1 = k then (kv.1, d) else kv)
  | [], [], _ => trivial
  | [], _ :: _, r => r.elim
  | _ :: _, [], r => r.elim
  | p :: vr, q :: dr, ⟨e, h1, h2⟩ => by
    rw [List.map_cons, List.map_cons]
    refine ⟨?_, ?_, RepF.repl r h2⟩
    · by_cases hk : q.1 = k
      · rw [if_pos hk, if_pos (e.trans hk)]; exact e
      · rw [if_neg hk, if_neg (fun z => hk (e.symm.trans z))]; exact e
    · by_cases hk : q.1 = k
      · rw [if_pos hk, if_pos (e.trans hk)]; exact r
      · rw [if_neg hk, if_neg (fun z => hk (e.symm.trans z))]; exact h1
theorem RepF.putK {k : Key} {v : V} {d : D} {vks : List (Key × V)} {kvs : List (Key × D)} (r : Rep K s v d) (h : RepF K s vks kvs) : RepF K s (L2.putK vks k v) (putKD kvs k d) := by
  unfold L2.putK putKD
  rw [h.anyK]
  split
  · exact h.repl r
  · exact h.snoc r
theorem key_rep {y : V} {u : D} {k : Key} (r : Rep K s y u) (h : keyD u = some k) : y = kV k := by
  cases r <;> first | (cases h; rfl) | cases h
theorem RepF.keys : ∀ {vks : List (Key × V)} {kvs : List (Key × D)}, RepF K s vks kvs → RepA K s (vks.map fun kv => kV kv.1) (kvs.map fun kv => kD kv.1)
  | [], [], _ => .nil
  | [], _ :: _, r => r.elim
  | _ :: _, [], r => r.elim
  | p :: vr, q :: dr, ⟨e, _, h2⟩ => by
    rw [List.map_cons, List.map_cons, e]
    refine .cons ?_ (RepF.keys h2)
    cases q.1 with
    | inl i => exact .int i
    | inr x => exact .str x
/-- the dict in a cell -/
def dctL (u : D) (w : Wd) : Option (Nat × List (Key × D)) := match u with
  | .obj n => match w[n]? with
    | some (.dct kvs) => some (n, kvs)
    | _ => none
  | _ => none
theorem dct_of {v : V} {u : D} {n : Nat} {kvs : List (Key × D)} (ok : Ok K cl s) (r : Rep K s v u) (h : dctL u s.w = some (n, kvs)) : ∃ a vks, v = .ref a ∧ s.ρ[n]? = some a ∧ s.H a = some (.dK vks) ∧ RepF K s vks kvs ∧ s.w[n]? ≠ some MO.dead := by
  unfold dctL at h
  split at h
  · rename_i m
    split at h
    · rename_i kvs' hw
      cases h
      cases r with
      | obj hn =>
        obtain ⟨vks, h1, h2⟩ := ok.cell _ _ _ hn hw
        exact ⟨_, vks, rfl, hn, h1, h2, by rw [hw]; simp⟩
    · cases h
  · cases h
theorem post_newD {vks : List (Key × V)} {kvs : List (Key × D)} {Q : VK} (ok : Ok K cl s) (p : Post K cl (Rep K) EK s (.ok (.obj s.w.length) (s.w ++ [.dct kvs])) Q) (r : RepF K s vks kvs) : ∀ q, s.H q = none → Q (.ref q) (upd s.H q (.dK vks)) := fun q hq => by
  have ex : Ext s (s.cell q (.dK vks) (.dct kvs)) := S.cell_ext ok hq
  exact p (s.cell q (.dK vks) (.dct kvs)) _ ex (S.cell_ok ok hq ⟨vks, upd_same, r.mono ok ex⟩) rfl (.obj (by
    show (s.ρ ++ [q])[s.w.length]? = some q
    rw [← ok.len, List.getElem?_append_right (Nat.le_refl _), Nat.sub_self]
    rfl))
end
section
variable {X : Cx} {cl : Str → Option Addr} {EK : XK} {a b c o i e value : Expr} {ma mb mo mi me mv : En → Wd → R D} {mas : En → Wd → R (List D)} {pos pos' p apos cpos spos : Pos} {es : List Expr}
/-- d[k] -/
def gDGet : D → D → Wd → R D := fun u v w => match dctL u w, keyD v with
  | some (_, kvs), some k => match valD kvs k with
    | some d => .ok d w
    | none => .stuck
  | _, _ => .stuck
theorem se_dget (hu : X.A.units + 64 < cLine) (ho : SE X cl EK o mo) (hi : SE X cl EK i mi) (hs : NoSl i) : SE X cl EK (.Subscript o i pos) (mOp gDGet mo mi) :=
  PE.weak (pe_dget (Nat.lt_of_le_of_lt (Nat.add_le_add_left (by decide) _) hu) ho hi hs) fun σ H Q h => tG_imp (tG_bind h) fun x H1 hk => tG_imp (tK_bind rep_mono hk) fun y H2 ⟨s, σd, u, v, e, ok, re, ru, rv, p⟩ => by
    subst e
    unfold gDGet at p
    split at p
    · rename_i n kvs k h1 h2
      obtain ⟨q, vks, rfl, hn, hH, rf, hd⟩ := dct_of ok ru h1
      split at p
      · rename_i d hl
        obtain ⟨v', hv, rv'⟩ := rf.val.1 d hl
        refine ⟨q, v', rfl, ?_, post_here ok p rv'⟩
        rw [key_rep rv h2, ← hv]
        exact DGet.k hH
      · exact p.elim
    · exact p.elim
/-- k in d, k not in d -/
def gDIn (neg : Bool) : D → D → Wd → R D := fun u v w => match dctL v w, keyD u with
  | some (_, kvs), some k => .ok (.bl (if neg then !(valD kvs k).isSome else (valD kvs k).isSome)) w
  | _, _ => .stuck
def rDIn (neg : Bool) : R2 := fun x y H Q => ∃ a o, y = .ref a ∧ DGet H a x o ∧ Q (.bl (if neg then !o.isSome else o.isSome)) H
theorem op_din (hu : X.A.units + 65 < cLine) : OpR X (compareOp .In) (rDIn false) := by
  intro pins s σ H x y v u Q I rx ry h
  obtain ⟨a, ov, rfl, g, q⟩ := h
  obtain rfl : u = Value.ref a := ry
  exact d_in (Nat.lt_of_le_of_lt (Nat.add_le_add_left (by decide) _) hu) I g rx fun s3 I3 => ⟨.bl ov.isSome, H, I3, rfl, q⟩
theorem op_dnotin (hu : X.A.units + 65 < cLine) : OpR X (compareOp .NotIn) (rDIn true) := by
  intro pins s σ H x y v u Q I rx ry h
  obtain ⟨a, ov, rfl, g, q⟩ := h
  obtain rfl : u = Value.ref a := ry
  exact d_notIn (Nat.lt_of_le_of_lt (Nat.add_le_add_left (by decide) _) hu) I g rx fun s3 I3 => ⟨.bl (!ov.isSome), H, I3, rfl, q⟩
theorem gr_din {K : PySem.W.Frag} (neg : Bool) : GR K cl (gDIn neg) (rDIn neg) := by
  intro EK s x y u v Q ok ru rv p
  unfold gDIn at p
  split at p
  · rename_i n kvs k h1 h2
    obtain ⟨q, vks, rfl, hn, hH, rf, hd⟩ := dct_of ok rv h1
    refine ⟨q, _, rfl, ?_, post_here ok (v := .bl (if neg then !(valV vks k).isSome else (valV vks k).isSome)) p ?_⟩
    · rw [key_rep ru h2]; exact DGet.k hH
    · rw [rf.val.2]; exact .bl _
  · exact p.elim
/-- d[k] = v -/
def mDPut (me mo mi : En → Wd → R D) : En → Wd → SR := fun σd w => (me σd w).toS fun d w1 => (mo σd w1).toS fun u w2 => (mi σd w2).toS fun j w3 => match dctL u w3, keyD j with
  | some (n, kvs), some k => if kvs.length < 16777216 then .next σd (w3.set n (.dct (putKD kvs k d))) else .stuck
  | _, _ => .stuck
theorem ss_dput (hu : X.A.units + 64 < cLine) (he : SE X cl EK e me) (ho : SE X cl EK o mo) (hi : SE X cl EK i mi) (hs : swapsWith e (some (.Subscript o i pos')) pos.line X.env = pure false := by rfl) : SS X cl EK (.Assign [.Subscript o i pos'] e pos) (mDPut me mo mi) :=
  PS.weak (ps_dput (Nat.lt_of_le_of_lt (Nat.add_le_add_left (by decide) _) hu) ho hi he hs) fun D σ H ⟨s, σd, e, ok, re, p⟩ => by
    subst e
    refine tG_of ok re (posts_bind p fun s1 v d ex1 ok1 r1 p1 => ?_)
    refine tG_of ok1 (re.mono ok ex1) (posts_bind p1 fun s2 x u ex2 ok2 r2 p2 => ?_)
    refine tG_of ok2 ((re.mono ok ex1).mono ok1 ex2) (posts_bind p2 fun s3 y j ex3 ok3 r3 p3 => ?_)
    split at p3
    · rename_i n kvs k h1 h2
      obtain ⟨q, vks, rfl, hn, hH, rf, hd⟩ := dct_of ok3 (r2.mono ok2 ex3) h1
      split at p3
      · rename_i hl
        have rd := (r1.mono ok1 ex2).mono ok2 ex3
        have ex : Ext s3 (s3.wr n q (.dK (L2.putK vks k v)) (.dct (putKD kvs k d))) := S.wr_ext ok3 hn hd
        refine ⟨q, _, rfl, ?_, p3 _ σ ex (S.wr_ok ok3 hn hd ⟨_, upd_same, (rf.putK rd).mono ok3 ex⟩) rfl ((((re.mono ok ex1).mono ok1 ex2).mono ok2 ex3).mono ok3 ex)⟩
        rw [key_rep r3 h2]
        exact DPut.k hH (by rw [rf.len, sizeLine_eq]; exact hl)
      · exact p3.elim
    · exact p3.elim
/-- dict(d): a copy; list(d): its keys -/
def gDCopy : List D → Wd → R D := fun us w => match us with
  | [u] => match dctL u w with
    | some (_, kvs) => .ok (.obj w.length) (w ++ [.dct kvs])
    | none => .stuck
  | _ => .stuck
def rDCopy : List V → Hp → VK → Prop := fun xs H Q => ∃ (a : Addr) (kvs : List (Key × V)), xs = [.ref a] ∧ Rd H a (.dK kvs) ∧ ∀ p, H p = none → Q (.ref p) (upd H p (.dK kvs))
theorem gc_dcopy : GC X.K cl gDCopy rDCopy := by
  intro EK s xs us Q ok r p
  unfold gDCopy at p
  split at p
  · obtain ⟨x, rfl, h⟩ := repA1 r
    split at p
    · rename_i n kvs hl
      obtain ⟨q, vks, rfl, hn, hH, rf, hd⟩ := dct_of ok h hl
      exact ⟨q, vks, rfl, .inl hH, post_newD ok p rf⟩
    · exact p.elim
  · exact p.elim
theorem se_dictC (hg : Gl X "dict") (hm : X.mg "dict" = none) (ha : SA X cl EK (a :: es) mas) (he : starEach (a :: es) X.env = (false, eval a X.env) :: starEach es X.env := by rfl) (hpl : (backTo pos (starEach es X.env)).any (·.1) = false := by rfl) : SE X cl EK (.Call (.Name "dict" p) (a :: es) [] pos) (mCall gDCopy mas) := se_callT call_dictD gc_dcopy hg hm (by decide +kernel) ha (by decide) (by decide) he hpl
def gDKeys : List D → Wd → R D := fun us w => match us with
  | [u] => match dctL u w with
    | some (_, kvs) => .ok (.lst (kvs.map fun kv => kD kv.1)) w
    | none => .stuck
  | _ => .stuck
def rDKeys : List V → Hp → VK → Prop := fun xs H Q => ∃ (a : Addr) (kvs : List (Key × V)), xs = [.ref a] ∧ Rd H a (.dK kvs) ∧ ∀ p, H p = none → Q (.ref p) (upd H p (.lst (kvs.map fun kv => kV kv.1)))
theorem gc_dkeys : GC X.K cl gDKeys rDKeys := by
  intro EK s xs us Q ok r p
  unfold gDKeys at p
  split at p
  · obtain ⟨x, rfl, h⟩ := repA1 r
    split at p
    · rename_i n kvs hl
      obtain ⟨q, vks, rfl, hn, hH, rf, hd⟩ := dct_of ok h hl
      exact ⟨q, vks, rfl, .inl hH, post_newL ok p rf.keys⟩
    · exact p.elim
  · exact p.elim
theorem se_listD (hc : X.calm = true) (hg : Gl X "list") (hm : X.mg "list" = none) (ha : SA X cl EK (a :: es) mas) (he : starEach (a :: es) X.env = (false, eval a X.env) :: starEach es X.env := by rfl) (hpl : (backTo pos (starEach es X.env)).any (·.1) = false := by rfl) : SE X cl EK (.Call (.Name "list" p) (a :: es) [] pos) (mCall gDKeys mas) := se_callT (call_listD hc) gc_dkeys hg hm (by decide +kernel) ha (by decide) (by decide) he hpl
end
end Si

set_option Elab.async false
set_option linter.all false
set_option autoImplicit false
set_option maxRecDepth 100000
set_option maxHeartbeats 4000000
/-! Si17: stars in displays and calls; max and min of many; dict displays. -/
namespace Si
open PySem L2 PyProof.Rows
section
variable {X : Cx} {cl : Str → Option Addr} {EK : XK} {a b c o i e value : Expr} {ma mb mo mi me mv : En → Wd → R D} {mas : En → Wd → R (List D)} {pos pos' p apos cpos spos : Pos} {es : List Expr}
/-- *e, .. -/
def aStar (ma : En → Wd → R D) (mr : En → Wd → R (List D)) : En → Wd → R (List D) := fun σd w => (ma σd w).bind fun u w1 => match seqD u w1 with
  | some ds => (mr σd w1).bind fun us w2 => .ok (ds ++ us) w2
  | none => .stuck
theorem sa_star (ha : SE X cl EK a ma) (hr : SA X cl EK es mas) (hs : starEach (.Starred a p :: es) X.env = (true, eval a X.env) :: starEach es X.env := by rfl) : SA X cl EK (.Starred a p :: es) (aStar ma mas) :=
  PA.weak (StX.pa_star ha hr hs) fun σ H Q h => tG_imp (tG_bind h) fun x H1 ⟨s, σd, u, e, ok, re, ru, p⟩ => by
    subst e
    dsimp only at p
    split at p
    · rename_i ds hq
      obtain ⟨q, vs, rfl, h1, r1⟩ := seq_of ok ru hq
      refine ⟨q, vs, rfl, h1.symm, ?_⟩
      refine tG_of ok re (post_bind p fun s1 zs us ex ok1 rs p1 => ?_)
      exact p1 s1 _ (Ext.refl s1) ok1 rfl ((r1.mono ok ex).append rs)
    · exact p.elim
end
/-! ### max(i, j, ..) -/
section
variable {P0 : Program} {w0 : World} {A0 : Around} {E0 : Value → Shared → Prop} {s0 : Shared}
theorem argsMax (u v : Value) (r : List Value) : argsOk "max" ⟨u :: v :: r, []⟩ := by
  unfold argsOk
  rfl
theorem argsMin (u v : Value) (r : List Value) : argsOk "min" ⟨u :: v :: r, []⟩ := by
  unfold argsOk
  rfl
theorem maxMany {u v : Value} {r : List Value} {Q : Value → Shared → Prop} (hz : sizeOk (Data.seq (u :: v :: r).toArray))
    (h : wpAny (model P0 w0) A0.in1 (pyIter (.ref s0.heap.objs.size)) (fun it s2 => ∃ I fp wr n P St bt, it = .ref I ∧ Walks P0 w0 A0.in1 I fp wr n P St ∧ St 0 s2.heap ∧ (∀ b ∈ fp, b < s2.heap.objs.size) ∧ 0 < n ∧ CmpOf P0 w0 A0.in1 .Gt P bt ∧
      ∀ x h' tk, P (argBest bt (n - 1)) x → (∀ b o, b ∉ wr → s2.heap.get? b = some o → h'.get? b = some o) → Q x { s2 with heap := h', toks := tk }) E0
      { s0 with heap := s0.heap.push { cls := .type "tuple", data := .seq (u :: v :: r).toArray } }) :
    wpAny (model P0 w0) A0 (call (.builtin "max") (u :: v :: r)) Q E0 s0 := by
  refine call_function_tree PySem.F.kind_max PySem.F.plain_max PySem.F.entry_max (argsMax u v r) ?_
  have hb : Builtin.Builtins.bindParams "max" ["key", "default"] 0 ⟨[], []⟩ = pure [none, none] := rfl
  show wpAny _ A0.in1 (Builtin.Builtins.bindParams "max" ["key", "default"] 0 ⟨[], []⟩ >>= _) _ _ _
  refine wpAny_bind (wpAny_of_eq hb ?_)
  show wpAny _ A0.in1 (newTuple (u :: v :: r) >>= _) _ _ _
  refine wpAny_bind (wpAny_newObj_type (hd := hz) ?_)
  refine wpAny_bind (wpAny_mono h (fun it s2 h2 => ?_) fun _ _ z => z)
  obtain ⟨I, fp, wr, n, P, St, bt, rfl, W, hst, hfp, hn, hcmp, hQ⟩ := h2
  refine wpAny_bind (wpAny_newObj_type ?_)
  have hnew : s2.heap.objs.size ∉ fp := fun hm => absurd (hfp _ hm) (Nat.lt_irrefl _)
  rw [show (toString "max" ++ toString ".loop" : String) = "max.loop" by decide]
  refine wpAny_pure ⟨plainId_quiet PySem.F.plain_max_loop _, codeAny_max_loop_first W bt hcmp s2.heap.objs.size hnew hn (W.frame _ _ _ hst fun b _ o z => Heap.get?_push_of_some _ z) (Heap.get?_push_size _ rfl) fun x h' tk hP hk => ?_⟩
  exact hQ x h' tk hP fun b o hw z => hk b o hw (Nat.ne_of_lt (Heap.lt_size z)) (Heap.get?_push_of_some _ z)
theorem minMany {u v : Value} {r : List Value} {Q : Value → Shared → Prop} (hz : sizeOk (Data.seq (u :: v :: r).toArray))
    (h : wpAny (model P0 w0) A0.in1 (pyIter (.ref s0.heap.objs.size)) (fun it s2 => ∃ I fp wr n P St bt, it = .ref I ∧ Walks P0 w0 A0.in1 I fp wr n P St ∧ St 0 s2.heap ∧ (∀ b ∈ fp, b < s2.heap.objs.size) ∧ 0 < n ∧ CmpOf P0 w0 A0.in1 .Lt P bt ∧
      ∀ x h' tk, P (argBest bt (n - 1)) x → (∀ b o, b ∉ wr → s2.heap.get? b = some o → h'.get? b = some o) → Q x { s2 with heap := h', toks := tk }) E0
      { s0 with heap := s0.heap.push { cls := .type "tuple", data := .seq (u :: v :: r).toArray } }) :
    wpAny (model P0 w0) A0 (call (.builtin "min") (u :: v :: r)) Q E0 s0 := by
  refine call_function_tree PySem.F.kind_min PySem.F.plain_min PySem.F.entry_min (argsMin u v r) ?_
  have hb : Builtin.Builtins.bindParams "min" ["key", "default"] 0 ⟨[], []⟩ = pure [none, none] := rfl
  show wpAny _ A0.in1 (Builtin.Builtins.bindParams "min" ["key", "default"] 0 ⟨[], []⟩ >>= _) _ _ _
  refine wpAny_bind (wpAny_of_eq hb ?_)
  show wpAny _ A0.in1 (newTuple (u :: v :: r) >>= _) _ _ _
  refine wpAny_bind (wpAny_newObj_type (hd := hz) ?_)
  refine wpAny_bind (wpAny_mono h (fun it s2 h2 => ?_) fun _ _ z => z)
  obtain ⟨I, fp, wr, n, P, St, bt, rfl, W, hst, hfp, hn, hcmp, hQ⟩ := h2
  refine wpAny_bind (wpAny_newObj_type ?_)
  have hnew : s2.heap.objs.size ∉ fp := fun hm => absurd (hfp _ hm) (Nat.lt_irrefl _)
  rw [show (toString "min" ++ toString ".loop" : String) = "min.loop" by decide]
  refine wpAny_pure ⟨plainId_quiet PySem.F.plain_min_loop _, codeAny_min_loop_first W bt hcmp s2.heap.objs.size hnew hn (W.frame _ _ _ hst fun b _ o z => Heap.get?_push_of_some _ z) (Heap.get?_push_size _ rfl) fun x h' tk hP hk => ?_⟩
  exact hQ x h' tk hP fun b o hw z => hk b o hw (Nat.ne_of_lt (Heap.lt_size z)) (Heap.get?_push_of_some _ z)
end
/-- the greatest, the least of some ints -/
def topI : List Int → Int
  | [] => 0
  | [i] => i
  | i :: r => if topI r > i then topI r else i
def lowI : List Int → Int
  | [] => 0
  | [i] => i
  | i :: r => if lowI r < i then lowI r else i
theorem topI_is : ∀ {ns : List Int} {m : Int}, m ∈ ns → (∀ y, y ∈ ns → y ≤ m) → topI ns = m
  | [i], m, h, _ => (List.mem_singleton.mp h).symm
  | i :: j :: r, m, h, a => by
    show (if topI (j :: r) > i then topI (j :: r) else i) = m
    have hi := a i List.mem_cons_self
    by_cases hm : m ∈ j :: r
    · rw [topI_is hm fun y hy => a y (List.mem_cons_of_mem _ hy)]
      split <;> omega
    · have e : m = i := (List.mem_cons.mp h).resolve_right hm
      have ex : ∃ k ∈ j :: r, topI (j :: r) = k := by
        clear h a hi hm e
        induction r generalizing j with
        | nil => exact ⟨j, List.mem_cons_self, rfl⟩
        | cons x t ih =>
          obtain ⟨k, hk, e⟩ := ih x
          by_cases hx : topI (x :: t) > j
          · exact ⟨k, List.mem_cons_of_mem _ hk, by show (if topI (x :: t) > j then _ else _) = k; rw [if_pos hx, e]⟩
          · exact ⟨j, List.mem_cons_self, by show (if topI (x :: t) > j then _ else _) = j; rw [if_neg hx]⟩
      obtain ⟨k, hk, ek⟩ := ex
      have := a k (List.mem_cons_of_mem _ hk)
      rw [ek]
      split <;> omega
theorem lowI_is : ∀ {ns : List Int} {m : Int}, m ∈ ns → (∀ y, y ∈ ns → m ≤ y) → lowI ns = m
  | [i], m, h, _ => (List.mem_singleton.mp h).symm
  | i :: j :: r, m, h, a => by
    show (if lowI (j :: r) < i then lowI (j :: r) else i) = m
    have hi := a i List.mem_cons_self
    by_cases hm : m ∈ j :: r
    · rw [lowI_is hm fun y hy => a y (List.mem_cons_of_mem _ hy)]
      split <;> omega
    · have e : m = i := (List.mem_cons.mp h).resolve_right hm
      have ex : ∃ k ∈ j :: r, lowI (j :: r) = k := by
        clear h a hi hm e
        induction r generalizing j with
        | nil => exact ⟨j, List.mem_cons_self, rfl⟩
        | cons x t ih =>
          obtain ⟨k, hk, e⟩ := ih x
          by_cases hx : lowI (x :: t) < j
          · exact ⟨k, List.mem_cons_of_mem _ hk, by show (if lowI (x :: t) < j then _ else _) = k; rw [if_pos hx, e]⟩
          · exact ⟨j, List.mem_cons_self, by show (if lowI (x :: t) < j then _ else _) = j; rw [if_neg hx]⟩
      obtain ⟨k, hk, ek⟩ := ex
      have := a k (List.mem_cons_of_mem _ hk)
      rw [ek]
      split <;> omega
def rMaxN : List V → Hp → VK → Prop := fun vs H Q => ∃ ns : List Int, vs = ns.map V.int ∧ 2 ≤ ns.length ∧ ns.length ≤ 1000 ∧ Q (.int (topI ns)) H
def rMinN : List V → Hp → VK → Prop := fun vs H Q => ∃ ns : List Int, vs = ns.map V.int ∧ 2 ≤ ns.length ∧ ns.length ≤ 1000 ∧ Q (.int (lowI ns)) H
section
variable {X : Cx}
theorem numsFacts {us : List Value} {ns : List Int} (r : Vals (ns.map V.int) us) : ∃ xs : Array (Int × Tok), us.toArray = intItems xs ∧ xs.size = ns.length ∧ (∀ j, j < ns.length → numAt xs j = ns.getD j 0) := by
  obtain ⟨xs, e⟩ := r.ints.allInts.items
  have hn : numsOf (intItems xs).toList = ns := by rw [← e]; exact r.ints.numsOf
  rw [nums_intItems] at hn
  have hl : xs.size = ns.length := by rw [← hn, List.length_map, Array.length_toList]
  refine ⟨xs, e, hl, fun j _ => ?_⟩
  rw [numAt_eq, hn]
theorem cr_maxN (hc : X.calm = true) : CallR X (.builtin "max") rMaxN := by
  intro pins s σ H vs us Q I r h
  obtain ⟨ns, rfl, h2, h3, q⟩ := h
  obtain ⟨xs, exs, hsz, hnum⟩ := numsFacts r
  have hlen : us.length = ns.length := by rw [← r.length, List.length_map]
  match us, exs, hlen with
  | [], _, hlen => simp only [List.length_nil] at hlen; omega
  | [_], _, hlen => simp only [List.length_cons, List.length_nil] at hlen; omega
  | u :: v :: t, exs, hlen =>
    have hT : (s.heap.push { cls := .type "tuple", data := .seq (u :: v :: t).toArray }).IsTuple s.heap.objs.size (intItems xs) := ⟨_, Heap.get?_push_size _ rfl, rfl, 0, by rw [exs]⟩
    have hs2 : (s.heap.push { cls := .type "tuple", data := .seq (u :: v :: t).toArray }).objs.size = s.heap.objs.size + 1 := Heap.size_push ..
    have hz : sizeOk (Data.seq (u :: v :: t).toArray) := by
      show (u :: v :: t).toArray.size ≤ sizeLine
      rw [List.size_toArray, hlen, sizeLine_eq]; omega
    refine maxMany hz (wpAny_pyIter_tuple hT ?_)
    have hisz : (intItems xs).size = ns.length := by rw [← hsz]; simp [intItems]
    refine ⟨_, [_, s.heap.objs.size], [_], _, _, _, _, rfl, Walks.tuple (A := X.A.in1) (by simp [I.ok.hd hc]) _ s.heap.objs.size (by rw [hs2]; exact Nat.ne_of_lt (Nat.lt_succ_self _)) (intItems xs),
      ⟨⟨_, Heap.get?_push_size _ rfl, rfl, rfl⟩, hT.push _⟩, fun d hd => ?_, by rw [hisz]; omega, CmpOf.ints_gt (numAt xs) (fun _ _ => intItems_at), fun x h' tk hP hk => ?_⟩
    · show d < ((s.heap.push _).push _).objs.size
      rw [Heap.size_push, hs2]
      simp only [List.mem_cons, List.not_mem_nil, or_false] at hd
      rcases hd with rfl | rfl
      · rw [hs2]; exact Nat.lt_succ_self _
      · exact Nat.lt_succ_of_lt (Nat.lt_succ_self _)
    · obtain ⟨tk2, rfl⟩ := intItems_at hP
      have I2 : Inv X pins σ H { s with heap := h', toks := tk } := I.kept (t' := tk) fun d o z => by
        refine hk d o (fun hm => ?_) (Heap.get?_push_of_some _ (Heap.get?_push_of_some _ z))
        have := Heap.lt_size z
        rw [List.mem_singleton.mp hm, hs2] at this
        exact absurd this (Nat.not_lt.mpr (Nat.le_succ _))
      rw [hisz]
      obtain ⟨g1, g2⟩ := argBest_gt (numAt xs) (ns.length - 1)
      refine ⟨.int _, H, I2, ⟨tk2, rfl⟩, ?_⟩
      have hb : argBest (fun i j => decide (numAt xs i > numAt xs j)) (ns.length - 1) < ns.length := by omega
      have e : topI ns = numAt xs (argBest (fun i j => decide (numAt xs i > numAt xs j)) (ns.length - 1)) := by
        refine topI_is ?_ fun y hy => ?_
        · rw [hnum _ hb, List.getD_eq_getElem?_getD, List.getElem?_eq_getElem hb]
          exact List.getElem_mem hb
        · obtain ⟨j, hj, rfl⟩ := List.mem_iff_getElem.mp hy
          have := g2 j (by omega)
          rw [hnum j hj, List.getD_eq_getElem?_getD, List.getElem?_eq_getElem hj] at this
          exact this
      rw [← e]
      exact q
theorem cr_minN (hc : X.calm = true) : CallR X (.builtin "min") rMinN := by
  intro pins s σ H vs us Q I r h
  obtain ⟨ns, rfl, h2, h3, q⟩ := h
  obtain ⟨xs, exs, hsz, hnum⟩ := numsFacts r
  have hlen : us.length = ns.length := by rw [← r.length, List.length_map]
  match us, exs, hlen with
  | [], _, hlen => simp only [List.length_nil] at hlen; omega
  | [_], _, hlen => simp only [List.length_cons, List.length_nil] at hlen; omega
  | u :: v :: t, exs, hlen =>
    have hT : (s.heap.push { cls := .type "tuple", data := .seq (u :: v :: t).toArray }).IsTuple s.heap.objs.size (intItems xs) := ⟨_, Heap.get?_push_size _ rfl, rfl, 0, by rw [exs]⟩
    have hs2 : (s.heap.push { cls := .type "tuple", data := .seq (u :: v :: t).toArray }).objs.size = s.heap.objs.size + 1 := Heap.size_push ..
    have hz : sizeOk (Data.seq (u :: v :: t).toArray) := by
      show (u :: v :: t).toArray.size ≤ sizeLine
      rw [List.size_toArray, hlen, sizeLine_eq]; omega
    refine minMany hz (wpAny_pyIter_tuple hT ?_)
    have hisz : (intItems xs).size = ns.length := by rw [← hsz]; simp [intItems]
    refine ⟨_, [_, s.heap.objs.size], [_], _, _, _, _, rfl, Walks.tuple (A := X.A.in1) (by simp [I.ok.hd hc]) _ s.heap.objs.size (by rw [hs2]; exact Nat.ne_of_lt (Nat.lt_succ_self _)) (intItems xs),
      ⟨⟨_, Heap.get?_push_size _ rfl, rfl, rfl⟩, hT.push _⟩, fun d hd => ?_, by rw [hisz]; omega, CmpOf.ints_lt (numAt xs) (fun _ _ => intItems_at), fun x h' tk hP hk => ?_⟩
    · show d < ((s.heap.push _).push _).objs.size
      rw [Heap.size_push, hs2]
      simp only [List.mem_cons, List.not_mem_nil, or_false] at hd
      rcases hd with rfl | rfl
      · rw [hs2]; exact Nat.lt_succ_self _
      · exact Nat.lt_succ_of_lt (Nat.lt_succ_self _)
    · obtain ⟨tk2, rfl⟩ := intItems_at hP
      have I2 : Inv X pins σ H { s with heap := h', toks := tk } := I.kept (t' := tk) fun d o z => by
        refine hk d o (fun hm => ?_) (Heap.get?_push_of_some _ (Heap.get?_push_of_some _ z))
        have := Heap.lt_size z
        rw [List.mem_singleton.mp hm, hs2] at this
        exact absurd this (Nat.not_lt.mpr (Nat.le_succ _))
      rw [hisz]
      obtain ⟨g1, g2⟩ := argBest_lt (numAt xs) (ns.length - 1)
      refine ⟨.int _, H, I2, ⟨tk2, rfl⟩, ?_⟩
      have hb : argBest (fun i j => decide (numAt xs i < numAt xs j)) (ns.length - 1) < ns.length := by omega
      have e : lowI ns = numAt xs (argBest (fun i j => decide (numAt xs i < numAt xs j)) (ns.length - 1)) := by
        refine lowI_is ?_ fun y hy => ?_
        · rw [hnum _ hb, List.getD_eq_getElem?_getD, List.getElem?_eq_getElem hb]
          exact List.getElem_mem hb
        · obtain ⟨j, hj, rfl⟩ := List.mem_iff_getElem.mp hy
          have := g2 j (by omega)
          rw [hnum j hj, List.getD_eq_getElem?_getD, List.getElem?_eq_getElem hj] at this
          exact this
      rw [← e]
      exact q
variable {cl : Str → Option Addr} {EK : XK} {a : Expr} {mas : En → Wd → R (List D)} {pos p : Pos} {es : List Expr} {id : String} {x : Str} {r : List V → Hp → VK → Prop} {g : List D → Wd → R D}
def gMaxN : List D → Wd → R D := fun us w => match inA us with
  | some ns => if 2 ≤ ns.length ∧ ns.length ≤ 1000 then .ok (.int (topI ns)) w else .stuck
  | none => .stuck
def gMinN : List D → Wd → R D := fun us w => match inA us with
  | some ns => if 2 ≤ ns.length ∧ ns.length ≤ 1000 then .ok (.int (lowI ns)) w else .stuck
  | none => .stuck
theorem gc_maxN : GC X.K cl gMaxN rMaxN := by
  intro EK s xs us Q ok r p
  unfold gMaxN at p
  split at p
  · rename_i ns hn
    split at p
    · rename_i h
      exact ⟨ns, inA_of r hn, h.1, h.2, post_here ok p (.int _)⟩
    · exact p.elim
  · exact p.elim
theorem gc_minN : GC X.K cl gMinN rMinN := by
  intro EK s xs us Q ok r p
  unfold gMinN at p
  split at p
  · rename_i ns hn
    split at p
    · rename_i h
      exact ⟨ns, inA_of r hn, h.1, h.2, post_here ok p (.int _)⟩
    · exact p.elim
  · exact p.elim
/-- a built-in called with a starred argument behind the first -/
theorem se_callS (hc : CallR X (.builtin id) r) (hr : GC X.K cl g r) (hg : Gl X x) (hm : X.mg x = none) (hv : bootBuiltins x = some (.builtin id)) (ha : SA X cl EK (a :: es) mas) (hn : x ≠ "__name__" := by decide) (hdb : (x == ("__debug__" : Str)) = false := by decide)
    (he : starEach (a :: es) X.env = (false, eval a X.env) :: starEach es X.env := by rfl) (hst : (backTo pos (starEach es X.env)).any (·.1) = true := by rfl) : SE X cl EK (.Call (.Name x p) (a :: es) [] pos) (mCall g mas) :=
  PE.weak (t := tCB r (tG X.K cl (RepA X.K) EK mas)) ⟨fun pins s σ H Q I h => by
    refine wpAny_Call_Name_kw (ld_blt I hg hm hv ?_ hn hdb)
    have hA := ha.run pos pins s σ H _ I h
    rw [he] at hA ⊢
    refine PySem.W.ks_call (P := fun _ => True) (by show (false || (backTo pos (starEach es X.env)).any (·.1)) = true; rw [hst]; rfl) (fun h1 _ => ⟨.machine, .inr (.inl rfl), PySem.W.Looks.of_pure rfl⟩) (Calls.evalArgs_plain ?_)
    exact thn hA fun us s1 ⟨vs, H1, I1, r1, q1⟩ => ⟨trivial, hc pins s1 σ H1 vs us Q I1 r1 q1⟩⟩
    fun σ H Q h => tG_imp (tG_bind h) fun xs H1 ⟨s, σd, u, e, ok, re, ru, p⟩ => by
      subst e
      exact hr EK s xs u Q ok ru p
end
end Si

set_option Elab.async false
set_option linter.all false
set_option autoImplicit false
set_option maxRecDepth 100000
set_option maxHeartbeats 4000000
/-! Si18: dict displays, dict comprehensions. -/
namespace Si
open PySem L2 PyProof.Rows
theorem RepF.ownC {κ : Type} {K : PySem.W.Frag} {s : S} {q : Addr} {m : MO} : ∀ {ps : List (κ × V)} {qs : List (κ × D)}, RepF K s ps qs → RepF K (s.ownC q m) ps qs
  | [], [], _ => trivial
  | [], _ :: _, h => h.elim
  | _ :: _, [], h => h.elim
  | _ :: _, _ :: _, h => ⟨h.1, h.2.1.ownC, RepF.ownC h.2.2⟩
def mergeD (acc more : List (Key × D)) : List (Key × D) := more.foldl (fun acc kv => putKD acc kv.1 kv.2) acc
theorem RepF.merge {K : PySem.W.Frag} {s : S} : ∀ {ks : List Key} {vs : List V} {ds : List D} {va : List (Key × V)} {da : List (Key × D)}, RepA K s vs ds → RepF K s va da → RepF K s (mergeK va (ks.zip vs)) (mergeD da (ks.zip ds))
  | [], _, _, _, _, _, h => by rw [List.zip_nil_left, List.zip_nil_left]; exact h
  | k :: ks, _, _, _, _, .nil, h => by rw [List.zip_nil_right, List.zip_nil_right]; exact h
  | k :: ks, _, _, _, _, .cons r t, h => by
    rw [List.zip_cons_cons, List.zip_cons_cons]
    exact RepF.merge (ks := ks) t (h.putK r)
section
variable {X : Cx} {cl : Str → Option Addr} {EK : XK} {a b c o i e k v : Expr} {ma mb mo mi me mv : En → Wd → R D} {mas : En → Wd → R (List D)} {pos pos' p : Pos} {es : List Expr} {keys : List (Option Expr)} {vals : List Expr} {ks : List Key}
/-- the pairs of a display with written keys -/
def SPr (X : Cx) (cl : Str → Option Addr) (EK : XK) (pos : Pos) (keys : List (Option Expr)) (vals : List Expr) (ks : List Key) (mas : En → Wd → R (List D)) : Prop :=
  ∃ trs, PPs X pos keys vals trs ∧ ∀ (σ : L2.St) (σd : En) (s : S) (Q : List (V × V) → Hp → Prop), Ok X.K cl s → RepE X.K s σ σd → Post X.K cl (RepA X.K) EK s (mas σd s.w) (fun vs H => Q ((ks.map kV).zip vs) H) → tPairs trs σ s.H Q
theorem spr_nil : SPr X cl EK pos [] [] [] aNil := ⟨[], pps_nil, fun σ σd s Q ok re p => p s [] (Ext.refl s) ok rfl .nil⟩
theorem kD_rep {K : PySem.W.Frag} {s : S} {x : V} {k : Key} (r : Rep K s x (kD k)) : x = kV k := by
  cases k <;> (cases r; rfl)
theorem spr_cons {kk : Key} (hk : SE X cl EK k (mC (kD kk))) (hv : SE X cl EK v mv) (hr : SPr X cl EK pos keys vals ks mas) : SPr X cl EK pos (some k :: keys) (v :: vals) (kk :: ks) (aCons mv mas) := by
  obtain ⟨trs, h1, h2⟩ := hr
  refine ⟨_, pps_cons hk hv h1, fun σ σd s Q ok re p => ?_⟩
  refine ⟨s, σd, rfl, ok, re, fun s1 x ex1 ok1 hw1 r1 => ?_⟩
  have ex : x = kV kk := kD_rep r1
  subst ex
  refine tG_of ok1 (re.mono ok ex1) ?_
  rw [hw1]
  refine post_bind (Post.ext ex1 p) fun s2 y d ex2 ok2 r2 p2 => ?_
  refine h2 σ σd s2 _ ok2 ((re.mono ok ex1).mono ok1 ex2) ?_
  refine post_bind p2 fun s3 vs ds ex3 ok3 r3 p3 => ?_
  exact p3 s3 (y :: vs) (Ext.refl s3) ok3 rfl (.cons (r2.mono ok2 ex3) r3)
def mDct (ks : List Key) (mas : En → Wd → R (List D)) : En → Wd → R D := fun σd w => (mas σd w).bind fun ds w1 => .ok (.obj w1.length) (w1 ++ [.dct (mergeD [] (ks.zip ds))])
theorem se_disp (h : SPr X cl EK pos keys vals ks mas) (h15 : ks.length ≤ 15) (hall : keys.all (·.isSome) = true := by rfl) (hl : keys.length = vals.length := by rfl) (h0 : keys ≠ [] := by exact List.cons_ne_nil _ _)
    (h16 : keys.length ≤ 15 := by decide) : SE X cl EK (.Dict keys vals pos) (mDct ks mas) := by
  obtain ⟨trs, h1, h2⟩ := h
  refine PE.weak (pe_disp h1 hall hl h0 h16) fun σ H Q ⟨s, σd, e, ok, re, p⟩ => ?_
  subst e
  intro q hq
  have hF : ¬ s.F q := fun z => ok.frz q z hq
  have hρ : q ∉ s.ρ := fun z => ok.trk q z hq
  have ok1 := S.prv_ok (o := .dK []) ok hF hρ
  have ex1 : Ext s (s.prv q (.dK [])) := S.prv_ext (Ext.refl s) hq
  have e0 : upd s.H q (.dK []) = (s.prv q (.dK [])).H := rfl
  rw [e0]
  refine h2 σ σd _ _ ok1 (re.mono ok ex1) ?_
  unfold mDct at p
  show Post X.K cl (RepA X.K) EK (s.prv q (.dK [])) (mas σd s.w) _
  cases q0 : mas σd s.w with
  | stuck => rw [q0] at p; exact p.elim
  | err c fs w1 =>
    rw [q0] at p
    have p' : Post X.K cl (Rep X.K) EK s (R.err (α := D) c fs w1) Q := p
    have p'' : Post X.K cl (Rep X.K) EK (s.prv q (.dK [])) (R.err (α := D) c fs w1) Q := Post.ext ex1 p'
    exact p''
  | ok ds w1 =>
  rw [q0] at p
  dsimp only [R.bind] at p
  intro s2 vs ex2 ok2 hw2 ra
  have hq1 : (s.prv q (.dK [])).H q = some (.dK []) := upd_same
  have nl : ¬ live (s.prv q (.dK [])) q := fun ⟨n, hn, _⟩ => hρ (List.mem_of_getElem? hn)
  have k2 := ex2.notF hF hρ (by rw [hq1]; simp)
  have hq2 := ex2.keep q _ hq1 nl
  have ez : (ks.map kV).zip vs = (ks.zip vs).map fun kv => (kV kv.1, kv.2) := by
    rw [List.zip_map_left]
    rfl
  refine ⟨hq2, ks.zip vs, ez, Nat.le_trans (by rw [List.length_zip]; exact Nat.min_le_left _ _) h15, ?_⟩
  have ok3 : Ok X.K cl (s2.prv q (.dK (mergeK [] (ks.zip vs)))) := S.prv_ok ok2 k2.1 k2.2
  have ex3 : Ext s (s2.prv q (.dK (mergeK [] (ks.zip vs)))) := S.prv_ext (ex1.trans ex2) hq
  have rf : RepF X.K s2 (mergeK [] (ks.zip vs)) (mergeD [] (ks.zip ds)) := RepF.merge ra trivial
  have rf2 : RepF X.K (s2.prv q (.dK (mergeK [] (ks.zip vs)))) (mergeK [] (ks.zip vs)) (mergeD [] (ks.zip ds)) := rf.prv k2.1
  have rf3 : RepF X.K ((s2.prv q (.dK (mergeK [] (ks.zip vs)))).ownC q (.dct (mergeD [] (ks.zip ds)))) (mergeK [] (ks.zip vs)) (mergeD [] (ks.zip ds)) := rf2.ownC
  refine fin_cell (EK := EK) s (s2.prv q (.dK (mergeK [] (ks.zip vs)))) q (.dct (mergeD [] (ks.zip ds))) ex3 ok3 hq k2.1 k2.2 (by show upd s2.H q _ q ≠ none; rw [upd_same]; simp) ⟨_, upd_same, rf3⟩ ?_
  rw [← hw2] at p
  exact p
/-- the loop of a dict comprehension -/
def dcL (own : List Nat) (f : D → En → Wd → Option En) (mt : En → Wd → R Bool) (mk mv : En → Wd → R D) (σd : En) : List D → List (Key × D) → Wd → R (List (Key × D))
  | [], acc, w => .ok acc w
  | d :: r, acc, w => match f d (wipeD σd own) w with
    | none => .stuck
    | some σ1 => match mt σ1 w with
      | .ok true w1 => match mk σ1 w1 with
        | .ok y w2 => match keyD y with
          | some k => match mv σ1 w2 with
            | .ok z w3 => if acc.length < 16777216 then dcL own f mt mk mv σd r (putKD acc k z) w3 else .stuck
            | _ => .stuck
          | none => .stuck
        | _ => .stuck
      | .ok false w1 => dcL own f mt mk mv σd r acc w1
      | _ => .stuck
def mDc (it : En → Wd → R (List D)) (own : List Nat) (f : D → En → Wd → Option En) (mt : En → Wd → R Bool) (mk mv : En → Wd → R D) : En → Wd → R D := fun σd w => (it σd w).bind fun ds w1 => (dcL own f mt mk mv σd ds [] w1).bind fun xs w2 => .ok (.obj w2.length) (w2 ++ [MO.dct xs])
theorem dc_core {K : PySem.W.Frag} {sl : List Nat} {own : List (Str × Nat)} {mi : En → Wd → R (List D)} {f : D → En → Wd → Option En} {mt : En → Wd → R Bool} {mk mv : En → Wd → R D} (hsl : ∀ j ∈ sl, j ∈ own.map (·.2)) {σ : L2.St} {σd : En} {s : S} {Q : VK} (ok : Ok K cl s) (re : RepE K s σ σd)
    (Fin : List (Key × D) → Wd → R D) (p : Post K cl (Rep K) EK s ((mi σd s.w).bind fun ds w1 => (dcL (own.map (·.2)) f mt mk mv σd ds [] w1).bind Fin) Q)
    (fin : ∀ s0 s1 q vs xs, Ext s0 s1 → Ok K cl s1 → s0.H q = none → ¬ s1.F q → q ∉ s1.ρ → s1.H q = some (.dK vs) → RepF K s1 vs xs → Post K cl (Rep K) EK s0 (Fin xs s1.w) Q → Q (.ref q) s1.H) :
    tDc (tG K cl (repIt K cl) EK mi) (tTg K cl sl f) (tG K cl repB E00 mt) (tG K cl (Rep K) E00 mk) (tG K cl (Rep K) E00 mv) (own.map (·.2)) σ s.H Q := by
  refine tG_of ok re (post_bind p fun s0 J ds ex0 ok0 rJ p0 => ?_)
  intro q hq
  have hF0 : ¬ s0.F q := fun z => ok0.frz q z hq
  have hρ0 : q ∉ s0.ρ := fun z => ok0.trk q z hq
  have re0 := re.mono ok ex0
  refine ⟨fun i mm H => ∃ s1 acc vs, mm = ds.length - i ∧ i ≤ ds.length ∧ s1.H = H ∧ Ext s0 s1 ∧ Ok K cl s1 ∧ ¬ s1.F q ∧ q ∉ s1.ρ ∧ s1.H q = some (.dK vs) ∧ RepF K s1 vs acc ∧ Post K cl (Rep K) EK s0 ((dcL (own.map (·.2)) f mt mk mv σd (ds.drop i) acc s1.w).bind Fin) Q,
    ⟨ds.length, s0.prv q (.dK []), [], [], by simp, Nat.zero_le _, rfl, S.prv_ext (Ext.refl s0) hq, S.prv_ok ok0 hF0 hρ0, hF0, hρ0, upd_same, trivial, p0⟩, ?_⟩
  rintro i mm H1 ⟨s1, acc, vs, rfl, hle, rfl, e1, ok1, hF1, hρ1, hq1, ra, p1⟩
  obtain ⟨go, yl, stop⟩ := rJ s1 (e1.toF ok0) ok1
  by_cases hlt : i < ds.length
  · have hd : ds.drop i = ds[i] :: ds.drop (i + 1) := List.drop_eq_getElem_cons hlt
    rw [hd] at p1
    refine .inr ⟨go i hlt, fun H' => ∃ s2 acc2 vs2, s2.H = H' ∧ Ext s0 s2 ∧ Ok K cl s2 ∧ ¬ s2.F q ∧ q ∉ s2.ρ ∧ s2.H q = some (.dK vs2) ∧ RepF K s2 vs2 acc2 ∧ Post K cl (Rep K) EK s0 ((dcL (own.map (·.2)) f mt mk mv σd (ds.drop (i + 1)) acc2 s2.w).bind Fin) Q,
      fun H' ⟨s2, acc2, vs2, b1, b2, b3, b4, b5, b6, b7, b8⟩ => ⟨ds.length - (i + 1), by omega, s2, acc2, vs2, rfl, hlt, b1, b2, b3, b4, b5, b6, b7, b8⟩, fun x H' hy => ?_⟩
    obtain ⟨s2, rfl, e2, ok2, w2, r2⟩ := yl i x H' ds[i] hy (List.getElem?_eq_getElem hlt)
    have nl : ¬ live s1 q := fun ⟨n, hn, _⟩ => hρ1 (List.mem_of_getElem? hn)
    have k2 := e2.notF hF1 hρ1 (by rw [hq1]; simp)
    have re2 : RepE K s2 (L2.wipe σ (own.map (·.2))) (wipeD σd (own.map (·.2))) := (re0.mono ok0 (e1.trans e2)).wipe _
    refine ⟨s2, _, ds[i], rfl, ok2, re2, r2, ?_⟩
    rw [w2]
    unfold dcL at p1
    cases q1 : f ds[i] (wipeD σd (own.map (·.2))) s1.w with
    | none => rw [q1] at p1; exact p1.elim
    | some τ1 =>
      rw [q1] at p1
      dsimp only at p1 ⊢
      intro σ' re' hl' hk'
      refine ⟨wipe_of hl' hk' hsl, s2, τ1, rfl, ok2, re', ?_⟩
      rw [w2]
      cases q2 : mt τ1 s1.w with
      | ok bb w3 =>
        rw [q2] at p1
        intro s3 b3 e3 ok3 hw rb
        subst rb
        have nl2 : ¬ live s2 q := fun ⟨n, hn, _⟩ => k2.2 (List.mem_of_getElem? hn)
        have k3 := e3.notF k2.1 k2.2 (by rw [e2.keep q _ hq1 nl]; simp)
        have nl3 : ¬ live s3 q := fun ⟨n, hn, _⟩ => k3.2 (List.mem_of_getElem? hn)
        have hq3 := e3.keep q _ (e2.keep q _ hq1 nl) nl2
        have ra3 := (ra.mono ok1 e2).mono ok2 e3
        cases b3 with
        | false => exact iteF ⟨s3, acc, vs, rfl, (e1.trans e2).trans e3, ok3, k3.1, k3.2, hq3, ra3, by rw [hw]; exact p1⟩
        | true =>
          refine iteT ⟨s3, τ1, rfl, ok3, re'.mono ok2 e3, ?_⟩
          rw [hw]
          dsimp only at p1
          cases q3 : mk τ1 w3 with
          | ok y w4 =>
            rw [q3] at p1
            dsimp only at p1
            intro s4 v4 e4 ok4 hw4 r4
            have k4 := e4.notF k3.1 k3.2 (by rw [hq3]; simp)
            have hq4 := e4.keep q _ hq3 nl3
            have nl4 : ¬ live s4 q := fun ⟨n, hn, _⟩ => k4.2 (List.mem_of_getElem? hn)
            have ra4 := ra3.mono ok3 e4
            refine tG_of ok4 ((re'.mono ok2 e3).mono ok3 e4) ?_
            rw [hw4]
            cases hk : keyD y with
            | none => rw [hk] at p1; exact p1.elim
            | some k =>
            rw [hk] at p1
            dsimp only at p1
            cases q4 : mv τ1 w4 with
            | ok z w5 =>
              rw [q4] at p1
              dsimp only at p1
              split at p1
              · rename_i hlen
                intro s5 v5 e5 ok5 hw5 r5
                have k5 := e5.notF k4.1 k4.2 (by rw [hq4]; simp)
                have hq5 := e5.keep q _ hq4 nl4
                have ra5 := ra4.mono ok4 e5
                refine ⟨vs, k, key_rep r4 hk, hq5, by rw [ra.len, sizeLine_eq]; exact hlen, s5.prv q (.dK (L2.putK vs k v5)), putKD acc k z, L2.putK vs k v5, rfl, S.prv_ext ((((e1.trans e2).trans e3).trans e4).trans e5) hq, S.prv_ok ok5 k5.1 k5.2, k5.1, k5.2, upd_same, (ra5.putK r5).prv k5.1, ?_⟩
                show Post K cl (Rep K) EK s0 ((dcL (own.map (·.2)) f mt mk mv σd (ds.drop (i + 1)) (putKD acc k z) s5.w).bind Fin) Q
                rw [hw5]
                exact p1
              · exact p1.elim
            | err c fs w5 => rw [q4] at p1; exact p1.elim
            | stuck => rw [q4] at p1; exact p1.elim
          | err c fs w4 => rw [q3] at p1; exact p1.elim
          | stuck => rw [q3] at p1; exact p1.elim
      | err c fs w3 => rw [q2] at p1; exact p1.elim
      | stuck => rw [q2] at p1; exact p1.elim
  · have hi' : i = ds.length := by omega
    subst hi'
    rw [List.drop_length] at p1
    exact .inl ⟨stop, fin s0 s1 q vs acc e1 ok1 hq hF1 hρ1 hq1 ra p1⟩
theorem se_dc {tg iter kx vx : Expr} {sl : List Nat} {ifs : List Expr} {scope : Scope} {own : List (Str × Nat)} {mi : En → Wd → R (List D)} {f : D → En → Wd → Option En} {mt : En → Wd → R Bool} {mk mv : En → Wd → R D} (hc : X.calm = true) (hN : X.N.Nodup) (hi : SI X cl EK tg iter mi) (ok : BlkOk X.N X.env.scope scope own)
    (hg : ∀ (s : Shared) (H : Hp) (C : Addr) (cc : List (Str × Addr)) (fp : List Addr), SG (X.blk s H scope (compEnvC scope cc C X.env) fp) cl tg sl f) (ht : ∀ (s : Shared) (H : Hp) (C : Addr) (cc : List (Str × Addr)) (fp : List Addr), STs (X.blk s H scope (compEnvC scope cc C X.env) fp) cl E00 ifs mt)
    (hk : ∀ (s : Shared) (H : Hp) (C : Addr) (cc : List (Str × Addr)) (fp : List Addr), SE (X.blk s H scope (compEnvC scope cc C X.env) fp) cl E00 kx mk)
    (he : ∀ (s : Shared) (H : Hp) (C : Addr) (cc : List (Str × Addr)) (fp : List Addr), SE (X.blk s H scope (compEnvC scope cc C X.env) fp) cl E00 vx mv) (hsl : ∀ j ∈ sl, j ∈ own.map (·.2) := by decide) (hs : ∀ x, foldedSetIterable iter X.env x = pure x := by intro _; rfl) :
    SE X cl EK (.DictComp kx vx [⟨tg, iter, ifs, 0⟩] scope pos) (mDc mi (own.map (·.2)) f mt mk mv) :=
  PE.weak (pe_dc (g := tTg X.K cl sl f) (tt := tG X.K cl repB E00 mt) (tk := tG X.K cl (Rep X.K) E00 mk) (tv := tG X.K cl (Rep X.K) E00 mv) hc hN hi ok hg ht hk he hs) fun σ H Q ⟨s, σd, e, ok, re, p⟩ => by
    subst e
    exact dc_core hsl ok re (fun xs w2 => .ok (.obj w2.length) (w2 ++ [MO.dct xs])) p fun s0 s1 q vs xs e ok1 h0 hF hρ hq ra p => fin_cell (EK := EK) s0 s1 q (.dct xs) e ok1 h0 hF hρ (by rw [hq]; simp) ⟨vs, hq, ra.ownC⟩ p
end
end Si

set_option Elab.async false
set_option linter.all false
set_option autoImplicit false
set_option maxRecDepth 100000
set_option maxHeartbeats 4000000
/-! Si19: list comprehensions of two clauses. -/
namespace Si
open PySem L2 PyProof.Rows
def lc2L (own own1 : List Nat) (f : D → En → Wd → Option En) (mt : En → Wd → R Bool) (mi1 : En → Wd → R (List D)) (f1 : D → En → Wd → Option En) (mt1 : En → Wd → R Bool) (me : En → Wd → R D) (σd : En) : List D → List D → Wd → R (List D)
  | [], acc, w => .ok acc w
  | d :: r, acc, w => match f d (wipeD σd own) w with
    | none => .stuck
    | some σ1 => match mt σ1 w with
      | .ok true w1 => match mi1 σ1 w1 with
        | .ok ds1 w2 => match lcL own1 f1 mt1 me σ1 ds1 acc w2 with
          | .ok acc2 w3 => lc2L own own1 f mt mi1 f1 mt1 me σd r acc2 w3
          | _ => .stuck
        | _ => .stuck
      | .ok false w1 => lc2L own own1 f mt mi1 f1 mt1 me σd r acc w1
      | _ => .stuck
def mLc2 (it : En → Wd → R (List D)) (own own1 : List Nat) (f : D → En → Wd → Option En) (mt : En → Wd → R Bool) (mi1 : En → Wd → R (List D)) (f1 : D → En → Wd → Option En) (mt1 : En → Wd → R Bool) (me : En → Wd → R D) : En → Wd → R D :=
  fun σd w => (it σd w).bind fun ds w1 => (lc2L own own1 f mt mi1 f1 mt1 me σd ds [] w1).bind fun xs w2 => .ok (.lst xs) w2
/-- the inner loop, then the rest -/
def inL {α : Type} (own1 : List Nat) (f1 : D → En → Wd → Option En) (mt1 : En → Wd → R Bool) (me : En → Wd → R D) (k : List D → Wd → R α) (τ : En) (ds1 acc : List D) (w : Wd) : R α := match lcL own1 f1 mt1 me τ ds1 acc w with
  | .ok acc2 w3 => k acc2 w3
  | _ => .stuck
theorem ExtF.prv {s s1 : S} {q : Addr} {o : HO} (e : ExtF s s1) (hF : ¬ s1.F q) : ExtF s (s1.prv q o) :=
  ⟨e.F, e.ρ, fun a u h z => (upd_ne fun w => hF (by rw [← w]; exact e.F a h)).trans (e.fr a u h z)⟩
theorem RepE.monoF {K : PySem.W.Frag} {s s1 : S} {σ : L2.St} {σd : En} (e : ExtF s s1) (h : RepE K s σ σd) : RepE K s1 σ σd :=
  ⟨h.1, fun i d q => let ⟨v, a, b⟩ := h.2 i d q; ⟨v, a, b.monoF e⟩⟩
theorem lc2_core {EK : XK} {cl : Str → Option Addr} {K : PySem.W.Frag} {sl sl1 : List Nat} {own : List (Str × Nat)} {vs1 : List Nat} {mi mi1 : En → Wd → R (List D)} {f f1 : D → En → Wd → Option En} {mt mt1 : En → Wd → R Bool} {me : En → Wd → R D} (hsl : ∀ j ∈ sl, j ∈ own.map (·.2)) (hsl1 : ∀ j ∈ sl1, j ∈ vs1) {σ : L2.St} {σd : En} {s : S} {Q : VK} (ok : Ok K cl s) (re : RepE K s σ σd)
    (Fin : List D → Wd → R D) (p : Post K cl (Rep K) EK s ((mi σd s.w).bind fun ds w1 => (lc2L (own.map (·.2)) vs1 f mt mi1 f1 mt1 me σd ds [] w1).bind Fin) Q)
    (fin : ∀ s0 s1 q vs xs, Ext s0 s1 → Ok K cl s1 → s0.H q = none → ¬ s1.F q → q ∉ s1.ρ → s1.H q = some (.lst vs) → RepA K s1 vs xs → Post K cl (Rep K) EK s0 (Fin xs s1.w) Q → Q (.ref q) s1.H) :
    tLc2 (tG K cl (repIt K cl) EK mi) (tTg K cl sl f) (tG K cl repB E00 mt) (tG K cl (repIt K cl) E00 mi1) (tTg K cl sl1 f1) (tG K cl repB E00 mt1) (tG K cl (Rep K) E00 me) (own.map (·.2)) vs1 σ s.H Q := by
  refine tG_of ok re (post_bind p fun s0 J ds ex0 ok0 rJ p0 => ?_)
  intro q hq
  have hF0 : ¬ s0.F q := fun z => ok0.frz q z hq
  have hρ0 : q ∉ s0.ρ := fun z => ok0.trk q z hq
  have re0 := re.mono ok ex0
  refine ⟨fun i mm H => ∃ s1 acc vs, mm = ds.length - i ∧ i ≤ ds.length ∧ s1.H = H ∧ Ext s0 s1 ∧ Ok K cl s1 ∧ ¬ s1.F q ∧ q ∉ s1.ρ ∧ s1.H q = some (.lst vs) ∧ RepA K s1 vs acc ∧ Post K cl (Rep K) EK s0 ((lc2L (own.map (·.2)) vs1 f mt mi1 f1 mt1 me σd (ds.drop i) acc s1.w).bind Fin) Q,
    ⟨ds.length, s0.prv q (.lst []), [], [], by simp, Nat.zero_le _, rfl, S.prv_ext (Ext.refl s0) hq, S.prv_ok ok0 hF0 hρ0, hF0, hρ0, upd_same, .nil, p0⟩, ?_⟩
  rintro i mm H1 ⟨s1, acc, vs, rfl, hle, rfl, e1, ok1, hF1, hρ1, hq1, ra, p1⟩
  obtain ⟨go, yl, stop⟩ := rJ s1 (e1.toF ok0) ok1
  by_cases hlt : i < ds.length
  · have hd : ds.drop i = ds[i] :: ds.drop (i + 1) := List.drop_eq_getElem_cons hlt
    rw [hd] at p1
    refine .inr ⟨go i hlt, fun H' => ∃ s2 acc2 vs2, s2.H = H' ∧ Ext s0 s2 ∧ Ok K cl s2 ∧ ¬ s2.F q ∧ q ∉ s2.ρ ∧ s2.H q = some (.lst vs2) ∧ RepA K s2 vs2 acc2 ∧ Post K cl (Rep K) EK s0 ((lc2L (own.map (·.2)) vs1 f mt mi1 f1 mt1 me σd (ds.drop (i + 1)) acc2 s2.w).bind Fin) Q,
      fun H' ⟨s2, acc2, vs2, b1, b2, b3, b4, b5, b6, b7, b8⟩ => ⟨ds.length - (i + 1), by omega, s2, acc2, vs2, rfl, hlt, b1, b2, b3, b4, b5, b6, b7, b8⟩, fun x H' hy => ?_⟩
    obtain ⟨s2, rfl, e2, ok2, w2, r2⟩ := yl i x H' ds[i] hy (List.getElem?_eq_getElem hlt)
    have nl : ¬ live s1 q := fun ⟨n, hn, _⟩ => hρ1 (List.mem_of_getElem? hn)
    have k2 := e2.notF hF1 hρ1 (by rw [hq1]; simp)
    have re2 : RepE K s2 (L2.wipe σ (own.map (·.2))) (wipeD σd (own.map (·.2))) := (re0.mono ok0 (e1.trans e2)).wipe _
    refine ⟨s2, _, ds[i], rfl, ok2, re2, r2, ?_⟩
    rw [w2]
    unfold lc2L at p1
    cases q1 : f ds[i] (wipeD σd (own.map (·.2))) s1.w with
    | none => rw [q1] at p1; exact p1.elim
    | some τ1 =>
      rw [q1] at p1
      dsimp only at p1 ⊢
      intro σ' re' hl' hk'
      refine ⟨wipe_of hl' hk' hsl, s2, τ1, rfl, ok2, re', ?_⟩
      rw [w2]
      cases q2 : mt τ1 s1.w with
      | ok bb w3 =>
        rw [q2] at p1
        intro s3 b3 e3 ok3 hw rb
        subst rb
        have nl2 : ¬ live s2 q := fun ⟨n, hn, _⟩ => k2.2 (List.mem_of_getElem? hn)
        have k3 := e3.notF k2.1 k2.2 (by rw [e2.keep q _ hq1 nl]; simp)
        have nl3 : ¬ live s3 q := fun ⟨n, hn, _⟩ => k3.2 (List.mem_of_getElem? hn)
        have hq3 := e3.keep q _ (e2.keep q _ hq1 nl) nl2
        have ra3 := (ra.mono ok1 e2).mono ok2 e3
        cases b3 with
        | false => exact iteF ⟨s3, acc, vs, rfl, (e1.trans e2).trans e3, ok3, k3.1, k3.2, hq3, ra3, by rw [hw]; exact p1⟩
        | true =>
          refine iteT ⟨s3, τ1, rfl, ok3, re'.mono ok2 e3, ?_⟩
          rw [hw]
          dsimp only at p1
          cases q3 : mi1 τ1 w3 with
          | ok ds1 w4 =>
            rw [q3] at p1
            dsimp only at p1
            intro s4 J1 e4 ok4 hw4 rJ1
            have k4 := e4.notF k3.1 k3.2 (by rw [hq3]; simp)
            have hq4 := e4.keep q _ hq3 nl3
            have ra4 := ra3.mono ok3 e4
            have E4 := ((e1.trans e2).trans e3).trans e4
            have re4 : RepE K s4 σ' τ1 := (re'.mono ok2 e3).mono ok3 e4
            refine ⟨fun j kk H => ∃ s5 acc5 vs5, kk = ds1.length - j ∧ j ≤ ds1.length ∧ s5.H = H ∧ ExtF s4 s5 ∧ Ext s0 s5 ∧ Ok K cl s5 ∧ ¬ s5.F q ∧ q ∉ s5.ρ ∧ s5.H q = some (.lst vs5) ∧ RepA K s5 vs5 acc5 ∧ Post K cl (Rep K) EK s0 ((inL vs1 f1 mt1 me (fun acc2 w3 => lc2L (own.map (·.2)) vs1 f mt mi1 f1 mt1 me σd (ds.drop (i + 1)) acc2 w3) τ1 (ds1.drop j) acc5 s5.w).bind Fin) Q,
              ⟨ds1.length, s4, acc, vs, by simp, Nat.zero_le _, rfl, (Ext.refl s4).toF ok4, E4, ok4, k4.1, k4.2, hq4, ra4, by rw [hw4]; exact p1⟩, ?_⟩
            rintro j kk H5 ⟨s5, acc5, vs5, rfl, hle5, rfl, e45, e5, ok5, hF5, hρ5, hq5, ra5, p5⟩
            obtain ⟨go1, yl1, stop1⟩ := rJ1 s5 e45 ok5
            by_cases hlt1 : j < ds1.length
            · have hd1 : ds1.drop j = ds1[j] :: ds1.drop (j + 1) := List.drop_eq_getElem_cons hlt1
              rw [hd1] at p5
              refine .inr ⟨go1 j hlt1, fun H' => ∃ s6 acc6 vs6, s6.H = H' ∧ ExtF s4 s6 ∧ Ext s0 s6 ∧ Ok K cl s6 ∧ ¬ s6.F q ∧ q ∉ s6.ρ ∧ s6.H q = some (.lst vs6) ∧ RepA K s6 vs6 acc6 ∧ Post K cl (Rep K) EK s0 ((inL vs1 f1 mt1 me (fun acc2 w3 => lc2L (own.map (·.2)) vs1 f mt mi1 f1 mt1 me σd (ds.drop (i + 1)) acc2 w3) τ1 (ds1.drop (j + 1)) acc6 s6.w).bind Fin) Q,
                fun H' ⟨s6, acc6, vs6, b1, b2, b3, b4, b5, b6, b7, b8, b9⟩ => ⟨ds1.length - (j + 1), by omega, s6, acc6, vs6, rfl, hlt1, b1, b2, b3, b4, b5, b6, b7, b8, b9⟩, fun x1 H6 hy1 => ?_⟩
              obtain ⟨s6, rfl, e6, ok6, w6, r6⟩ := yl1 j x1 H6 ds1[j] hy1 (List.getElem?_eq_getElem hlt1)
              have nl5 : ¬ live s5 q := fun ⟨n, hn, _⟩ => hρ5 (List.mem_of_getElem? hn)
              have k6 := e6.notF hF5 hρ5 (by rw [hq5]; simp)
              have hq6 := e6.keep q _ hq5 nl5
              have re6 : RepE K s6 (L2.wipe σ' vs1) (wipeD τ1 vs1) := ((re4.monoF e45).mono ok5 e6).wipe _
              refine ⟨s6, _, ds1[j], rfl, ok6, re6, r6, ?_⟩
              rw [w6]
              unfold inL lcL at p5
              cases q6 : f1 ds1[j] (wipeD τ1 vs1) s5.w with
              | none => rw [q6] at p5; exact p5.elim
              | some τ2 =>
                rw [q6] at p5
                dsimp only at p5 ⊢
                intro σ'' re'' hl'' hk''
                refine ⟨wipe_of hl'' hk'' hsl1, s6, τ2, rfl, ok6, re'', ?_⟩
                rw [w6]
                cases q7 : mt1 τ2 s5.w with
                | ok bb7 w7 =>
                  rw [q7] at p5
                  intro s7 b7 e7 ok7 hw7 rb7
                  subst rb7
                  have nl6 : ¬ live s6 q := fun ⟨n, hn, _⟩ => k6.2 (List.mem_of_getElem? hn)
                  have k7 := e7.notF k6.1 k6.2 (by rw [hq6]; simp)
                  have hq7 := e7.keep q _ hq6 nl6
                  have nl7 : ¬ live s7 q := fun ⟨n, hn, _⟩ => k7.2 (List.mem_of_getElem? hn)
                  have ra7 := (ra5.mono ok5 e6).mono ok6 e7
                  cases b7 with
                  | false => exact iteF ⟨s7, acc5, vs5, rfl, (e45.trans (e6.toF ok5)).trans (e7.toF ok6), (e5.trans e6).trans e7, ok7, k7.1, k7.2, hq7, ra7, by rw [hw7]; exact p5⟩
                  | true =>
                    refine iteT ⟨s7, τ2, rfl, ok7, re''.mono ok6 e7, ?_⟩
                    rw [hw7]
                    dsimp only at p5
                    cases q8 : me τ2 w7 with
                    | ok y w8 =>
                      rw [q8] at p5
                      dsimp only at p5
                      by_cases hlen : acc5.length < 16777216
                      · rw [if_pos hlen] at p5
                        intro s8 v8 e8 ok8 hw8 r8
                        have k8 := e8.notF k7.1 k7.2 (by rw [hq7]; simp)
                        have hq8 := e8.keep q _ hq7 nl7
                        have ra8 := ra7.mono ok7 e8
                        have E8 := ((e5.trans e6).trans e7).trans e8
                        have F8 := ((e45.trans (e6.toF ok5)).trans (e7.toF ok6)).trans (e8.toF ok7)
                        refine ⟨vs5, hq8, by rw [ra5.length, sizeLine_eq]; exact hlen, s8.prv q (.lst (vs5 ++ [v8])), acc5 ++ [y], vs5 ++ [v8], rfl, F8.prv k8.1, S.prv_ext E8 hq, S.prv_ok ok8 k8.1 k8.2, k8.1, k8.2, upd_same, (ra8.append (.cons r8 .nil)).prv k8.1, ?_⟩
                        show Post K cl (Rep K) EK s0 ((inL vs1 f1 mt1 me (fun acc2 w3 => lc2L (own.map (·.2)) vs1 f mt mi1 f1 mt1 me σd (ds.drop (i + 1)) acc2 w3) τ1 (ds1.drop (j + 1)) (acc5 ++ [y]) s8.w).bind Fin) Q
                        rw [hw8]
                        exact p5
                      · rw [if_neg hlen] at p5
                        exact p5.elim
                    | err c fs w8 => rw [q8] at p5; exact p5.elim
                    | stuck => rw [q8] at p5; exact p5.elim
                | err c fs w7 => rw [q7] at p5; exact p5.elim
                | stuck => rw [q7] at p5; exact p5.elim
            · have hj : j = ds1.length := by omega
              subst hj
              rw [List.drop_length] at p5
              exact .inl ⟨stop1, s5, acc5, vs5, rfl, e5, ok5, hF5, hρ5, hq5, ra5, p5⟩
          | err c fs w4 => rw [q3] at p1; exact p1.elim
          | stuck => rw [q3] at p1; exact p1.elim
      | err c fs w3 => rw [q2] at p1; exact p1.elim
      | stuck => rw [q2] at p1; exact p1.elim
  · have hi' : i = ds.length := by omega
    subst hi'
    rw [List.drop_length] at p1
    exact .inl ⟨stop, fin s0 s1 q vs acc e1 ok1 hq hF1 hρ1 hq1 ra p1⟩
section
variable {X : Cx} {cl : Str → Option Addr} {EK : XK} {pos : Pos}
theorem se_lc2 {elt tg iter tg1 iter1 : Expr} {sl sl1 : List Nat} {ifs ifs1 : List Expr} {scope : Scope} {own : List (Str × Nat)} {vs1 : List Nat} {mi mi1 : En → Wd → R (List D)} {f f1 : D → En → Wd → Option En} {mt mt1 : En → Wd → R Bool} {me : En → Wd → R D} (hc : X.calm = true) (hN : X.N.Nodup) (hi : SI X cl EK tg iter mi) (ok : BlkOk X.N X.env.scope scope own) (hv : ∀ i ∈ vs1, i ∈ own.map (·.2))
    (hg : ∀ (s : Shared) (H : Hp) (C : Addr) (cc : List (Str × Addr)) (fp : List Addr), SG (X.blk s H scope (compEnvC scope cc C X.env) fp) cl tg sl f) (ht : ∀ (s : Shared) (H : Hp) (C : Addr) (cc : List (Str × Addr)) (fp : List Addr), STs (X.blk s H scope (compEnvC scope cc C X.env) fp) cl E00 ifs mt)
    (hi1 : ∀ (s : Shared) (H : Hp) (C : Addr) (cc : List (Str × Addr)) (fp : List Addr), SI (X.blk s H scope (compEnvC scope cc C X.env) fp) cl E00 tg1 iter1 mi1)
    (hg1 : ∀ (s : Shared) (H : Hp) (C : Addr) (cc : List (Str × Addr)) (fp : List Addr), SG (X.blk s H scope (compEnvC scope cc C X.env) fp) cl tg1 sl1 f1) (ht1 : ∀ (s : Shared) (H : Hp) (C : Addr) (cc : List (Str × Addr)) (fp : List Addr), STs (X.blk s H scope (compEnvC scope cc C X.env) fp) cl E00 ifs1 mt1)
    (he : ∀ (s : Shared) (H : Hp) (C : Addr) (cc : List (Str × Addr)) (fp : List Addr), SE (X.blk s H scope (compEnvC scope cc C X.env) fp) cl E00 elt me) (hsl : ∀ j ∈ sl, j ∈ own.map (·.2) := by decide) (hsl1 : ∀ j ∈ sl1, j ∈ vs1 := by decide) (hs : ∀ x, foldedSetIterable iter X.env x = pure x := by intro _; rfl) (hs1 : ∀ env x, foldedSetIterable iter1 env x = pure x := by intro _ _; rfl) :
    SE X cl EK (.ListComp elt [⟨tg, iter, ifs, 0⟩, ⟨tg1, iter1, ifs1, 0⟩] scope pos) (mLc2 mi (own.map (·.2)) vs1 f mt mi1 f1 mt1 me) :=
  PE.weak (pe_lc2 (g := tTg X.K cl sl f) (tt := tG X.K cl repB E00 mt) (wi1 := tG X.K cl (repIt X.K cl) E00 mi1) (g1 := tTg X.K cl sl1 f1) (tt1 := tG X.K cl repB E00 mt1) (te := tG X.K cl (Rep X.K) E00 me) hc hN hi ok hv hg ht hi1 hg1 ht1 he hs hs1) fun σ H Q ⟨s, σd, e, ok, re, p⟩ => by
    subst e
    exact lc2_core hsl hsl1 ok re (fun xs w2 => .ok (.lst xs) w2) p lc_finL
end
end Si

set_option Elab.async false
set_option linter.all false
set_option autoImplicit false
set_option maxRecDepth 100000
set_option maxHeartbeats 4000000
/-! Si20: len(set(texts)). -/
namespace Si
open PySem L2 PyProof.Rows
/-- how many different ones -/
def cntR : List Str → Nat
  | [] => 0
  | x :: r => if x ∈ r then cntR r else cntR r + 1
theorem cntR_le : ∀ r : List Str, cntR r ≤ r.length
  | [] => Nat.le_refl _
  | x :: r => by
    have := cntR_le r
    rw [cntR, List.length_cons]
    split <;> omega
theorem cntR_nodup : ∀ {r : List Str}, r.Nodup → cntR r = r.length
  | [], _ => rfl
  | x :: r, h => by
    have h := List.nodup_cons.mp h
    rw [cntR, if_neg h.1, cntR_nodup h.2, List.length_cons]
section
variable {P0 : Program} {w0 : World} {A0 : Around} {R : Result → Shared → Prop} {I : Addr} {fp wr : List Addr} {n : Nat} {P : Nat → Value → Prop} {St : Nat → Heap → Prop}
theorem loopT (W : Walks P0 w0 A0.in1 I fp wr n P St) (S : Addr) (hSf : S ∉ fp) (xs : List Str) (hsz : xs.length = n) (hn1 : n < 4000)
    (hval : ∀ i v, P i v → ∃ t, v = .str (xs.getD i Str.empty) t) : ∀ (k i : Nat) (s : Shared), n - i = k → i ≤ n → St i s.heap →
      s.heap.SetOf (strKind P0 w0) S (fun z => decide (z ∈ xs.take i)) (cntR (xs.take i).reverse) →
      (∀ h' tk, h'.SetOf (strKind P0 w0) S (fun z => decide (z ∈ xs)) (cntR xs.reverse) → (∀ b o, b ∉ wr → b ≠ S → s.heap.get? b = some o → h'.get? b = some o) → R (.ok (.ret .none)) { s with heap := h', toks := tk }) →
      codeAny (model P0 w0) A0 (.builtin "set.update.loop" ⟨[.ref S, .ref I], []⟩) R s := by
  have hSw : S ∉ wr := fun h => hSf (W.sub _ h)
  have same : ∀ {h h' : Heap} {f : Str → Bool} {m : Nat}, h.SetOf (strKind P0 w0) S f m → (∀ o, h.get? S = some o → h'.get? S = some o) → h'.SetOf (strKind P0 w0) S f m := fun {h h' f m} ⟨o, es, ep, t, ho, rest⟩ q => ⟨o, es, ep, t, q o ho, rest⟩
  intro k
  induction k with
  | zero =>
    intro i s hk hi hst hS q
    obtain rfl : i = n := by omega
    refine codeAny_builtin F.entry_set_update_loop ?_
    rw [Around.under_plainId F.plain_set_update_loop _]
    show wpAny _ A0.in1 (pyNext (.ref I) >>= _) _ _ _
    refine wpAny_bind (W.done s _ _ hst fun h' tk hk' => ?_)
    show wpAny _ A0.in1 (ret Value.none) _ _ _
    refine wpAny_pure (q h' tk ?_ fun b o hb _ z => hk' b o hb z)
    rw [List.take_of_length_le (Nat.le_of_eq hsz)] at hS
    exact same hS fun o z => hk' S o hSw z
  | succ k ih =>
    intro i s hk hi hst hS q
    have hlt : i < n := by omega
    refine codeAny_builtin F.entry_set_update_loop ?_
    rw [Around.under_plainId F.plain_set_update_loop _]
    show wpAny _ A0.in1 (pyNext (.ref I) >>= _) _ _ _
    refine wpAny_bind (W.item i s _ _ hlt hst fun v h' tk hP hst' hk' => ?_)
    obtain ⟨t, rfl⟩ := hval i v hP
    have hS1 := same hS fun o z => hk' S o hSw z
    show wpAny _ A0.in1 (holding [Value.str (xs.getD i Str.empty) t] (setAdd S (.str (xs.getD i Str.empty) t)) >>= _) _ _ _
    refine wpAny_bind (wpAny_holding ?_)
    unfold setAdd
    refine wpAny_holding (wpAny_bind ((strKind P0 w0).pyHash (k := xs.getD i Str.empty) (strKind_is _ _ _ _) ?_))
    have hroom : cntR (xs.take i).reverse + 1 < scanBound := by
      have := cntR_le (xs.take i).reverse
      rw [List.length_reverse, List.length_take] at this
      unfold scanBound
      omega
    refine wpAny_setAddHashed_of (knd := strKind P0 w0) (s := { s with heap := h', toks := tk + 1 }) (strKind_is _ _ _ _) rfl hS1 hroom fun h2 sb hS2 => ?_
    have ex : xs.take (i + 1) = xs.take i ++ [xs.getD i Str.empty] := by
      have hl : i < xs.length := by omega
      rw [List.take_add_one, List.getElem?_eq_getElem hl, List.getD_eq_getElem?_getD, List.getElem?_eq_getElem hl]
      rfl
    have hS3 : h2.SetOf (strKind P0 w0) S (fun z => decide (z ∈ xs.take (i + 1))) (cntR (xs.take (i + 1)).reverse) := by
      refine SetOf_congr hS2 (fun z => ?_) ?_
      · rw [ex]
        simp only [List.mem_append, List.mem_singleton]
        by_cases h1 : z ∈ xs.take i <;> by_cases h2 : z = xs.getD i Str.empty <;> simp [h1, h2]
      · rw [ex, List.reverse_append, List.reverse_singleton, List.singleton_append, cntR]
        by_cases h1 : xs.getD i Str.empty ∈ xs.take i
        · rw [if_pos (decide_eq_true h1), if_pos (List.mem_reverse.mpr h1)]
        · rw [if_neg (by rw [decide_eq_false h1]; exact Bool.false_ne_true), if_neg (fun z => h1 (List.mem_reverse.mp z))]
    refine wpAny_pure ⟨plainId_quiet F.plain_set_update_loop _, ih (i + 1) _ (by omega) hlt (W.frame _ _ _ hst' fun b hb o z => ?_) hS3 fun h3 tk3 a b => q h3 tk3 a fun c o hc hcS z => b c o hc hcS ?_⟩
    · exact (sb.2 b fun e => hSf (by rw [← e]; exact hb)).trans z
    · exact (sb.2 c hcS).trans (hk' c o hc z)
end
section
variable {P0 : Program} {w0 : World} {A0 : Around} {E0 : Value → Shared → Prop} {s0 : Shared}
theorem setList {l : Addr} {items : Array Value} {xs : List Str} {Q : Value → Shared → Prop} (hh : A0.handled = none) (hl : s0.heap.IsList l items) (hi : StrsAre items.toList xs) (hn1 : xs.length < 4000)
    (q : ∀ (h' : Heap) (tk : Nat), h'.SetOf (strKind P0 w0) s0.heap.objs.size (fun z => decide (z ∈ xs)) (cntR xs.reverse) → (∀ b o, b < s0.heap.objs.size → s0.heap.get? b = some o → h'.get? b = some o) → Q (.ref s0.heap.objs.size) { s0 with heap := h', toks := tk }) :
    wpAny (model P0 w0) A0 (call (.type "set") [.ref l]) Q E0 s0 := by
  obtain ⟨c, tl, hmro⟩ := PySem.F.called_set.mro
  have hmade := PySem.F.called_set.made
  have hsub := PySem.F.called_set.sub
  refine wpAny_call (codeAny_of_tree (?_ : wpAny _ _ (callAny (.type "set") _) _ _ _))
  refine wpAny_pure ⟨Code.quiet_builtin _ (by decide +kernel), codeAny_builtin PySem.F.entry_type_call ?_⟩
  rw [Around.under_plain (weight_type_call_type "set" [.ref l] []) rfl]
  have h1 := PySem.F.called_set.notType
  have h2 := PySem.F.called_set.canCreate
  have hct := PySem.F.typeCall_set_1 (.ref l)
  repeat (any_goals (first | assumption | wp_step))
  refine codeAny_mono (code_set_new_1 (.ref l) (E := E0) (Q₁ := fun obj s1 => ∃ led : Bool, obj = .ref s0.heap.objs.size ∧ s1 = { s0 with heap := s0.heap.push { cls := .type "set", dict := none, data := .set #[] 0 (.fresh 0 0 led) } }) fun led => ⟨led, rfl, rfl⟩) fun r s1 hr => ?_
  match r, hr with
  | .error e, hr => exact hr
  | .ok .next, hr => exact hr.elim
  | .ok .brk, hr => exact hr.elim
  | .ok .cont, hr => exact hr.elim
  | .ok (.ret obj), ⟨led, e1, e2⟩ =>
    subst e1
    subst e2
    generalize hH1 : s0.heap.push { cls := .type "set", dict := none, data := .set #[] 0 (.fresh 0 0 led) } = H1
    have hS : H1.get? s0.heap.objs.size = some { cls := .type "set", dict := none, data := .set #[] 0 (.fresh 0 0 led) } := by rw [← hH1]; exact Heap.get?_push_size _ rfl
    have hsz1 : H1.objs.size = s0.heap.objs.size + 1 := by rw [← hH1]; exact Heap.size_push ..
    have hup : ∀ b o, s0.heap.get? b = some o → H1.get? b = some o := fun b o z => by rw [← hH1]; exact Heap.get?_push_of_some _ z
    have hT : Shared.TypeIs { s0 with heap := H1 } (.ref s0.heap.objs.size) "set" := ⟨_, hS, rfl⟩
    have hli := PySem.F.called_set.init.lookup
    have hbi := PySem.F.called_set.init.bind (.ref s0.heap.objs.size)
    repeat (any_goals (first | assumption | wp_step))
    refine codeAny_mono (codeAny_call_builtin (R := wants (fun r s2 => r = .none ∧ ∃ h' tk, s2 = { s0 with heap := h', toks := tk } ∧ h'.SetOf (strKind P0 w0) s0.heap.objs.size (fun z => decide (z ∈ xs)) (cntR xs.reverse) ∧ (∀ b o, b < s0.heap.objs.size → s0.heap.get? b = some o → h'.get? b = some o)) E0)
      PySem.F.called_set.init.plain PySem.F.entry_set_init (check_set_init_1 hT ?_)) fun r2 s2 hr2 => ?_
    · have hl1 : H1.IsList l items := by
        rw [← hH1]
        exact hl.push _
      obtain ⟨ol, hol, hcl, nl, hdl⟩ := hl1
      obtain ⟨ocls, odict, odata, oslots⟩ := ol
      simp only at hcl hdl
      subst hcl
      subst hdl
      have hl1 : H1.IsList l items := ⟨_, hol, rfl, nl, rfl⟩
      have hs1 := PySem.F.sub_list_set
      have hs2 := PySem.F.sub_list_frozenset
      have hne : (Value.type "list" == Value.type "dict") = false := by decide
      unfold Builtin.«set.__init__» noKeywords Builtin.Frozenset.updateFrom
      generalize hPI : pyIter = PI
      wp_walk
      subst hPI
      refine wpAny_pyIter_list hl1 ?_
      refine wpAny_bind (wpAny_runValue ?_)
      have hlS : l < s0.heap.objs.size := by
        obtain ⟨o, ho, _⟩ := hl
        exact Heap.lt_size ho
      have hne2 : l ≠ H1.objs.size := by rw [hsz1]; exact Nat.ne_of_lt (Nat.lt_succ_of_lt hlS)
      have hsz : xs.length = items.size := by rw [← StrsAre.len_eq hi, Array.length_toList]
      have hval : ∀ (i : Nat) (v : Value), items[i]? = some v → ∃ t, v = .str (xs.getD i Str.empty) t := fun i v hv => SS.strs_at hi i v (by rw [Array.getElem?_toList]; exact hv)
      refine loopT (Walks.list (by simp [hh]) _ l hne2 items) s0.heap.objs.size ?_ xs hsz (by rw [← hsz]; exact hn1) hval (items.size - 0) 0 _ (by omega) (Nat.zero_le _) ⟨⟨_, Heap.get?_push_size _ rfl, rfl, rfl⟩, hl1.push _⟩ ?_ fun h' tk hS' hk => ?_
      · simp only [List.mem_cons, List.not_mem_nil, or_false, not_or]
        exact ⟨by rw [hsz1]; exact Nat.ne_of_lt (Nat.lt_succ_self _), Nat.ne_of_gt hlS⟩
      · exact SetOf_congr ((setObjOf_fresh (knd := strKind P0 w0) led).setOf (Heap.get?_push_of_some _ hS) (by unfold scanBound; omega)) (fun z => by simp) rfl
      · show wpAny _ _ _ _ _ _
        refine wpAny_pure ?_
        show wpAny _ _ (ret Value.none) _ _ _
        refine wpAny_pure ⟨rfl, h', tk, rfl, hS', fun b o hb z => hk b o (fun hm => ?_) (Nat.ne_of_lt hb) (Heap.get?_push_of_some _ (hup b o z))⟩
        rw [List.mem_singleton.mp hm, hsz1] at hb
        exact absurd hb (Nat.not_lt.mpr (Nat.le_succ _))
    · match r2, hr2 with
      | .error e, hr2 => exact hr2
      | .ok .next, hr2 => exact hr2.elim
      | .ok .brk, hr2 => exact hr2.elim
      | .ok .cont, hr2 => exact hr2.elim
      | .ok (.ret r), ⟨e1, h', tk, e2, hS', hk'⟩ =>
        subst e1
        subst e2
        repeat (any_goals (first | assumption | wp_step))
        exact q _ _ hS' hk'
end
section
variable {P0 : Program} {w0 : World} {A0 : Around} {E0 : Value → Shared → Prop} {s0 : Shared}
theorem setTup {l : Addr} {items : Array Value} {xs : List Str} {Q : Value → Shared → Prop} (hh : A0.handled = none) (hl : s0.heap.IsTuple l items) (hi : StrsAre items.toList xs) (hn1 : xs.length < 4000)
    (q : ∀ (h' : Heap) (tk : Nat), h'.SetOf (strKind P0 w0) s0.heap.objs.size (fun z => decide (z ∈ xs)) (cntR xs.reverse) → (∀ b o, b < s0.heap.objs.size → s0.heap.get? b = some o → h'.get? b = some o) → Q (.ref s0.heap.objs.size) { s0 with heap := h', toks := tk }) :
    wpAny (model P0 w0) A0 (call (.type "set") [.ref l]) Q E0 s0 := by
  obtain ⟨c, tl, hmro⟩ := PySem.F.called_set.mro
  have hmade := PySem.F.called_set.made
  have hsub := PySem.F.called_set.sub
  refine wpAny_call (codeAny_of_tree (?_ : wpAny _ _ (callAny (.type "set") _) _ _ _))
  refine wpAny_pure ⟨Code.quiet_builtin _ (by decide +kernel), codeAny_builtin PySem.F.entry_type_call ?_⟩
  rw [Around.under_plain (weight_type_call_type "set" [.ref l] []) rfl]
  have h1 := PySem.F.called_set.notType
  have h2 := PySem.F.called_set.canCreate
  have hct := PySem.F.typeCall_set_1 (.ref l)
  repeat (any_goals (first | assumption | wp_step))
  refine codeAny_mono (code_set_new_1 (.ref l) (E := E0) (Q₁ := fun obj s1 => ∃ led : Bool, obj = .ref s0.heap.objs.size ∧ s1 = { s0 with heap := s0.heap.push { cls := .type "set", dict := none, data := .set #[] 0 (.fresh 0 0 led) } }) fun led => ⟨led, rfl, rfl⟩) fun r s1 hr => ?_
  match r, hr with
  | .error e, hr => exact hr
  | .ok .next, hr => exact hr.elim
  | .ok .brk, hr => exact hr.elim
  | .ok .cont, hr => exact hr.elim
  | .ok (.ret obj), ⟨led, e1, e2⟩ =>
    subst e1
    subst e2
    generalize hH1 : s0.heap.push { cls := .type "set", dict := none, data := .set #[] 0 (.fresh 0 0 led) } = H1
    have hS : H1.get? s0.heap.objs.size = some { cls := .type "set", dict := none, data := .set #[] 0 (.fresh 0 0 led) } := by rw [← hH1]; exact Heap.get?_push_size _ rfl
    have hsz1 : H1.objs.size = s0.heap.objs.size + 1 := by rw [← hH1]; exact Heap.size_push ..
    have hup : ∀ b o, s0.heap.get? b = some o → H1.get? b = some o := fun b o z => by rw [← hH1]; exact Heap.get?_push_of_some _ z
    have hT : Shared.TypeIs { s0 with heap := H1 } (.ref s0.heap.objs.size) "set" := ⟨_, hS, rfl⟩
    have hli := PySem.F.called_set.init.lookup
    have hbi := PySem.F.called_set.init.bind (.ref s0.heap.objs.size)
    repeat (any_goals (first | assumption | wp_step))
    refine codeAny_mono (codeAny_call_builtin (R := wants (fun r s2 => r = .none ∧ ∃ h' tk, s2 = { s0 with heap := h', toks := tk } ∧ h'.SetOf (strKind P0 w0) s0.heap.objs.size (fun z => decide (z ∈ xs)) (cntR xs.reverse) ∧ (∀ b o, b < s0.heap.objs.size → s0.heap.get? b = some o → h'.get? b = some o)) E0)
      PySem.F.called_set.init.plain PySem.F.entry_set_init (check_set_init_1 hT ?_)) fun r2 s2 hr2 => ?_
    · have hl1 : H1.IsTuple l items := by
        rw [← hH1]
        exact hl.push _
      obtain ⟨ol, hol, hcl, nl, hdl⟩ := hl1
      obtain ⟨ocls, odict, odata, oslots⟩ := ol
      simp only at hcl hdl
      subst hcl
      subst hdl
      have hl1 : H1.IsTuple l items := ⟨_, hol, rfl, nl, rfl⟩
      have hs1 := PySem.F.sub_tuple_set
      have hs2 := PySem.F.sub_tuple_frozenset
      have hne : (Value.type "tuple" == Value.type "dict") = false := by decide
      unfold Builtin.«set.__init__» noKeywords Builtin.Frozenset.updateFrom
      generalize hPI : pyIter = PI
      wp_walk
      subst hPI
      refine wpAny_pyIter_tuple hl1 ?_
      refine wpAny_bind (wpAny_runValue ?_)
      have hlS : l < s0.heap.objs.size := by
        obtain ⟨o, ho, _⟩ := hl
        exact Heap.lt_size ho
      have hne2 : l ≠ H1.objs.size := by rw [hsz1]; exact Nat.ne_of_lt (Nat.lt_succ_of_lt hlS)
      have hsz : xs.length = items.size := by rw [← StrsAre.len_eq hi, Array.length_toList]
      have hval : ∀ (i : Nat) (v : Value), items[i]? = some v → ∃ t, v = .str (xs.getD i Str.empty) t := fun i v hv => SS.strs_at hi i v (by rw [Array.getElem?_toList]; exact hv)
      refine loopT (Walks.tuple (by simp [hh]) _ l hne2 items) s0.heap.objs.size ?_ xs hsz (by rw [← hsz]; exact hn1) hval (items.size - 0) 0 _ (by omega) (Nat.zero_le _) ⟨⟨_, Heap.get?_push_size _ rfl, rfl, rfl⟩, hl1.push _⟩ ?_ fun h' tk hS' hk => ?_
      · simp only [List.mem_cons, List.not_mem_nil, or_false, not_or]
        exact ⟨by rw [hsz1]; exact Nat.ne_of_lt (Nat.lt_succ_self _), Nat.ne_of_gt hlS⟩
      · exact SetOf_congr ((setObjOf_fresh (knd := strKind P0 w0) led).setOf (Heap.get?_push_of_some _ hS) (by unfold scanBound; omega)) (fun z => by simp) rfl
      · show wpAny _ _ _ _ _ _
        refine wpAny_pure ?_
        show wpAny _ _ (ret Value.none) _ _ _
        refine wpAny_pure ⟨rfl, h', tk, rfl, hS', fun b o hb z => hk b o (fun hm => ?_) (Nat.ne_of_lt hb) (Heap.get?_push_of_some _ (hup b o z))⟩
        rw [List.mem_singleton.mp hm, hsz1] at hb
        exact absurd hb (Nat.not_lt.mpr (Nat.le_succ _))
    · match r2, hr2 with
      | .error e, hr2 => exact hr2
      | .ok .next, hr2 => exact hr2.elim
      | .ok .brk, hr2 => exact hr2.elim
      | .ok .cont, hr2 => exact hr2.elim
      | .ok (.ret r), ⟨e1, h', tk, e2, hS', hk'⟩ =>
        subst e1
        subst e2
        repeat (any_goals (first | assumption | wp_step))
        exact q _ _ hS' hk'
end
end Si

set_option Elab.async false
set_option linter.all false
set_option autoImplicit false
set_option maxRecDepth 100000
set_option maxHeartbeats 4000000
/-! Si21: len(set(texts)) as a rule; attributes as targets; lists given out for good. -/
namespace Si
open PySem L2 PyProof.Rows
section
variable {X : Cx} {cl : Str → Option Addr} {EK : XK} {a : Expr} {ma : En → Wd → R D} {ta : TE} {p p2 q0 pos : Pos}
/-- len(set(xs)), xs texts -/
def tLenT (K : PySem.W.Frag) (ta : TE) : TE := fun σ H Q => ta σ H fun x H1 => ∃ (l : Addr) (xs : List Str), x = .ref l ∧ (SqL K H1 l (xs.map V.str) ∨ SqT K H1 l (xs.map V.str)) ∧ xs.length < 4000 ∧ Q (.int (cntR xs.reverse)) H1
theorem pe_lenT (hc : X.calm = true) (hg : Gl X "len") (hm : X.mg "len" = none) (hg2 : Gl X "set") (hm2 : X.mg "set" = none) (ha : PE X a ta) (na : starEach [a] X.env = (false, eval a X.env) :: starEach [] X.env := by rfl) :
    PE X (.Call (.Name "len" p) [.Call (.Name "set" p2) [a] [] q0] [] pos) (tLenT X.K ta) := ⟨fun pins s σ H Q I h => by
  refine Call_ (ld_blt I hg hm boot_len (PyProof.Rows.callWith_builtin1 (PyProof.Rows.args_cons ?_ rfl) rfl rfl))
  refine Call_ (ld_blt I hg2 hm2 boot_set (PyProof.Rows.callWith_type1 (PyProof.Rows.args_cons (thn (ha.run pins s σ H _ I h) fun v s1 z => PyProof.Rows.args_nil ?_) na) na rfl))
  obtain ⟨x, H1, I1, r1, l, xs, rfl, hq, hl, q1⟩ := z
  cases r1
  have fin : ∀ (h' : Heap) (tk : Nat), h'.SetOf (strKind X.prog X.w) s1.heap.objs.size (fun z => decide (z ∈ xs)) (cntR xs.reverse) → (∀ b o, b < s1.heap.objs.size → s1.heap.get? b = some o → h'.get? b = some o) →
      wpAny (model X.prog X.w) X.A (call (.builtin "len") [.ref s1.heap.objs.size]) (EP X pins σ Q) X.xe { s1 with heap := h', toks := tk } := by
    intro h' tk hS hk
    obtain ⟨o, es, ep, t, ho, hex, hd, _, _, _, hf, hn⟩ := hS
    have I2 : Inv X pins σ H1 { s1 with heap := h', toks := tk } := I1.kept fun b o z => hk b o (Heap.lt_size z) z
    have hcn : cntR xs.reverse < 4000 := Nat.lt_of_le_of_lt (cntR_le _) (by rw [List.length_reverse]; exact hl)
    exact call_len_set ho hex hd hf (by rw [hn] <;> omega) ⟨.int (cntR xs.reverse), H1, I2.tok _, ⟨_, by rw [hn]⟩, q1⟩
  rcases hq with hq | hq
  · obtain ⟨its, r, pl, hz⟩ := I1.list hq
    exact setList (I1.ok.hd hc) pl.isList (by simpa using strsAre_of r) hl fun h' tk hS hk => PyProof.Rows.args_nil (fin h' tk hS hk)
  · obtain ⟨its, r, pl, hz⟩ := I1.tuple hq
    exact setTup (I1.ok.hd hc) pl (by simpa using strsAre_of r) hl fun h' tk hS hk => PyProof.Rows.args_nil (fin h' tk hS hk)⟩
def mLenSet (ma : En → Wd → R D) : En → Wd → R D := fun σd w => (ma σd w).bind fun u w1 => match (seqD u w1).bind stA with
  | some xs => if xs.length < 4000 then .ok (.int (cntR xs.reverse)) w1 else .stuck
  | none => .stuck
theorem se_lenSet (hc : X.calm = true) (hg : Gl X "len") (hm : X.mg "len" = none) (hg2 : Gl X "set") (hm2 : X.mg "set" = none) (ha : SE X cl EK a ma) (na : starEach [a] X.env = (false, eval a X.env) :: starEach [] X.env := by rfl) :
    SE X cl EK (.Call (.Name "len" p) [.Call (.Name "set" p2) [a] [] q0] [] pos) (mLenSet ma) :=
  PE.weak (pe_lenT hc hg hm hg2 hm2 ha na) fun σ H Q h => tG_imp (tG_bind h) fun x H1 ⟨s, σd, u, e, ok, re, ru, p⟩ => by
    subst e
    dsimp only at p
    split at p
    · rename_i xs hx
      split at p
      · rename_i hl
        cases hq : seqD u s.w with
        | none => rw [hq] at hx; cases hx
        | some ds =>
          rw [hq] at hx
          obtain ⟨q, vs, rfl, h1, r1⟩ := seq_of ok ru hq
          have ev := stA_of r1 hx
          subst ev
          exact ⟨q, xs, rfl, h1, hl, post_here ok p (.int _)⟩
      · exact p.elim
    · exact p.elim
end
/-! ### attributes as targets -/
section
variable {X : Cx} {cl : Str → Option Addr} {EK : XK} {a o value : Expr} {ma mo : En → Wd → R D} {ta : TE} {pos spos : Pos} {f : Str} {cs : List Str}
def gFldT (K : PySem.W.Frag) (ta : TE) (f : Str) : TG := fun v σ H Q => ta σ H fun x H2 => ∃ a C dx fs, x = .ref a ∧ H2 a = some (.ins C dx fs) ∧ Cls K C ∧ NoAttr K C f ∧ fs.length < 1000 ∧ Q σ (upd H2 a (.ins C dx (putF f v fs)))
theorem pg_fld (ha : PE X o ta) : PG X (.Attribute o f pos) (gFldT X.K ta f) := ⟨fun pins s σ H v u Q I r h => by
  rw [assign_Attribute]
  refine wpAny_bind (wpAny_holding (thn (ha.run pins s σ H _ I h) fun ov s1 ⟨x, H1, I1, r1, b, C, dx, fs, ex, ea, c, n, l, q1⟩ => ?_))
  subst ex
  obtain rfl : ov = Value.ref b := r1
  refine wpAny_bind (wpAny_standAt (wpAny_bind (wpAny_holding (setattr_ok I1 ea c n l r fun s3 I3 => ?_))))
  exact wpAny_release ⟨σ, _, I3, q1⟩⟩
/-- attributes of one object, given one after another -/
def putAllD (cs : List Str) : List Str → D → List D → Wd → Option Wd
  | [], _, [], w => some w
  | f :: r, u, d :: ds, w => match insL u w with
    | some (n, c, fs) => if c ∈ cs ∧ fs.length < 1000 then putAllD cs r u ds (w.set n (.ins c (putD f d fs))) else none
    | none => none
  | _, _, _, _ => none
def tTgF (K : PySem.W.Frag) (cl : Str → Option Addr) (cs fs : List Str) (i : Nat) : TGs := fun vs σ H Q => ∃ s σd ds u, s.H = H ∧ Ok K cl s ∧ RepE K s σ σd ∧ RepA K s vs ds ∧ σd[i]? = some (some u) ∧
  match putAllD cs fs u ds s.w with
  | some w' => ∀ s', Ext s s' → Ok K cl s' → s'.w = w' → Q σ s'.H
  | none => False
def SGF (X : Cx) (cl : Str → Option Addr) (cs : List Str) (i : Nat) (es : List Expr) (fs : List Str) : Prop := PGs X es (tTgF X.K cl cs fs i)
theorem sgf_nil {i : Nat} : SGF X cl cs i [] [] := PGs.weak pgs_nil fun v σ H Q hh => by
  obtain ⟨s, σd, ds, u, e, ok, re, r, _, p⟩ := hh
  subst e
  cases r with
  | nil => exact ⟨rfl, p s (Ext.refl s) ok rfl⟩
  | cons _ _ => exact p.elim
theorem sgf_cons {i : Nat} {es : List Expr} {fs : List Str} (ho : SE X cl E00 o (mVar i)) (hc : CF X.K cl cs f) (hr : SGF X cl cs i es fs)
    (hs : (assignEach (.Attribute o f pos :: es) X.env).map (·.2) = assign (.Attribute o f pos) X.env :: (assignEach es X.env).map (·.2) := by rfl) : SGF X cl cs i (.Attribute o f pos :: es) (f :: fs) := PGs.weak (pgs_cons (pg_fld ho) hr hs) fun vs σ H Q hh => by
  obtain ⟨s, σd, ds, u, e, ok, re, r, hu, p⟩ := hh
  subst e
  cases r with
  | nil => exact p.elim
  | @cons v vr d dr rv rr =>
    refine ⟨v, vr, rfl, s, σd, rfl, ok, re, ?_⟩
    have em : mVar i σd s.w = .ok u s.w := by unfold mVar; rw [hu]
    rw [em]
    intro s' x ex ok' hw rx
    rw [putAllD] at p
    cases hi : insL u s.w with
    | none => rw [hi] at p; exact p.elim
    | some t =>
      obtain ⟨n, c, gs⟩ := t
      rw [hi] at p
      dsimp only at p
      by_cases hcs : c ∈ cs ∧ gs.length < 1000
      · rw [if_pos hcs] at p
        rw [← hw] at hi p
        obtain ⟨q, C, dx, vfs, rfl, hn, hC, hH, rf, hd⟩ := ins_of ok' rx hi
        have rd := rv.mono ok ex
        have ex2 : Ext s' (s'.wr n q (.ins C dx (putF f v vfs)) (.ins c (putD f d gs))) := S.wr_ext ok' hn hd
        have ok2 : Ok X.K cl (s'.wr n q (.ins C dx (putF f v vfs)) (.ins c (putD f d gs))) := S.wr_ok ok' hn hd ⟨C, dx, _, hC, upd_same, (rf.put rd).mono ok' ex2⟩
        refine ⟨q, C, dx, vfs, rfl, hH, (hc c hcs.1 C hC).1, (hc c hcs.1 C hC).2, by rw [rf.len]; exact hcs.2, _, σd, dr, u, rfl, ok2, (re.mono ok ex).mono ok' ex2, (rr.mono ok ex).mono ok' ex2, hu, ?_⟩
        show match putAllD cs fs u dr (s'.w.set n (.ins c (putD f d gs))) with | some w' => _ | none => _
        cases hp : putAllD cs fs u dr (s'.w.set n (.ins c (putD f d gs))) with
        | none => rw [hp] at p; exact p.elim
        | some w2 =>
          rw [hp] at p
          exact fun s3 e3 o3 h3 => p s3 ((ex.trans ex2).trans e3) o3 h3
      · rw [if_neg hcs] at p
        exact p.elim
def mAsgF (cs fs : List Str) (i : Nat) (mv : En → Wd → R D) : En → Wd → SR := fun σd w => (mv σd w).toS fun d w1 => match d, σd[i]? with
  | .tup ds, some (some u) => if ds.length = fs.length then (match putAllD cs fs u ds w1 with
    | some w2 => .next σd w2
    | none => .stuck) else .stuck
  | _, _ => .stuck
theorem ss_asgF {i kk : Nat} {mv : En → Wd → R D} {es : List Expr} {fs : List Str} (hc : X.calm = true) (hv : SE X cl EK value mv) (hg : SGF X cl cs i es fs) (hn : (assignEach es X.env).length = fs.length := by rfl) (hst : (assignEach es X.env).findIdx? (·.1) = none := by rfl)
    (hs : swapsWithSole [.Tuple es kk spos] value pos.line X.env = pure false := by rfl) (hw : swappedStores [.Tuple es kk spos] value X.env = pure none := by rfl) (h1 : (assignEach [.Tuple es kk spos] X.env).map (·.2) = [assign (.Tuple es kk spos) X.env] := by rfl) :
    SS X cl EK (.Assign [.Tuple es kk spos] value pos) (mAsgF cs fs i mv) := PS.weak (ps_asg hv (pg_tup hc hg hn hst) hs hw h1) fun D σ H h => by
  obtain ⟨s, σd, e, ok, re, p⟩ := h
  subst e
  refine tG_of ok re (posts_bind p fun s' v d ex ok' r p' => ?_)
  split at p'
  · rename_i ds u hu
    obtain ⟨q, vs, rfl, h2, h3⟩ := rep_tup r
    by_cases hl : ds.length = fs.length
    · rw [if_pos hl] at p'
      refine ⟨q, vs, rfl, h2, h3.length.trans hl, s', σd, ds, u, rfl, ok', re.mono ok ex, h3, hu, ?_⟩
      cases hp : putAllD cs fs u ds s'.w with
      | none => rw [hp] at p'; exact p'.elim
      | some w2 =>
        rw [hp] at p'
        exact fun s2 e2 ok2 hw2 => p' s2 σ e2 ok2 hw2 ((re.mono ok ex).mono ok' e2)
    · rw [if_neg hl] at p'; exact p'.elim
  · exact p'.elim
/-- a statement that is never reached -/
theorem ss_never {st : Stmt} : SS X cl EK st (fun _ _ => .stuck) := ⟨fun pins s σ H D I ⟨_, _, _, _, _, p⟩ => p.elim⟩
theorem se_never {e : Expr} : SE X cl EK e (fun _ _ => .stuck) := ⟨fun pins s σ H Q I ⟨_, _, _, _, _, p⟩ => p.elim⟩
/-- return a list that was made here: it is given out for good -/
def mRetF (ma : En → Wd → R D) : En → Wd → SR := fun σd w => (ma σd w).toS fun u w1 => match cellL u w1 with
  | some (n, ds) => .ret (.lst ds) (w1.set n .dead)
  | none => .stuck
theorem ss_retF {v : Expr} (ha : SE X cl EK v ma) : SS X cl EK (.Return (some v) pos) (mRetF ma) := PS.weak (ps_ret ha) fun D σ H h => by
  obtain ⟨s, σd, e, ok, re, p⟩ := h
  subst e
  refine tG_of ok re (posts_bind p fun s' v d ex ok' r p' => ?_)
  split at p'
  · rename_i n ds hcl
    obtain ⟨q, vs, rfl, hn, hH, ra, hd⟩ := cell_of ok' r hcl
    have e2 : Ext s' (s'.die n q) := S.die_ext hn
    exact p' (s'.die n q) (.ref q) e2 (S.die_ok ok' hn) rfl (.lst (.inr rfl) hH (ra.mono ok' e2))
  · exact p'.elim
end
end Si

set_option Elab.async false
set_option linter.all false
set_option autoImplicit false
set_option maxRecDepth 100000
set_option maxHeartbeats 4000000
/-! Si22: defs of classes as they stand. -/
namespace Si
open PySem L2 PyProof.Rows
/-- the class cn of the text, at C -/
structure ClO (K : PySem.W.Frag) (cl : Str → Option Addr) (cn : Str) (C : Addr) : Prop where
  c : Cls K C
  e : cl cn = some C
structure AtM (P : Program) (w : World) (K : PySem.W.Frag) (cl : Str → Option Addr) (mg : Str → Option Value) (base : Heap) (k : Nat) (C : Addr) (x qual : Str) (st : Stmt) (ps : List Str) (f : Addr) (fd : FuncData) (G : List D → Wd → R D) : Prop where
  F : Fun K x qual st f fd
  m : Meth K C x f
  b : Binds K fd ps []
  ok : SF P w K cl mg base k f fd ps G
structure AtI (P : Program) (w : World) (K : PySem.W.Frag) (cl : Str → Option Addr) (mg : Str → Option Value) (base : Heap) (k : Nat) (C : Addr) (cn : Str) (ps : List Str) (f : Addr) (fd : FuncData) (G : List D → Wd → R D) : Prop where
  M : Mk K C f
  g : mg cn = some (.ref C)
  b : Binds K fd ps []
  ok : SF P w K cl mg base k f fd ps G
structure AtK (P : Program) (w : World) (K : PySem.W.Frag) (cl : Str → Option Addr) (mg : Str → Option Value) (base : Heap) (k : Nat) (C : Addr) (cn : Str) (ps : List Str) (f : Addr) (fd : FuncData) (G : List D → Wd → R D) : Prop where
  M : Mk K C f
  g : mg cn = some (.ref C)
  ok : SF P w K cl mg base k f fd ps G
structure AtP (P : Program) (w : World) (K : PySem.W.Frag) (cl : Str → Option Addr) (mg : Str → Option Value) (base : Heap) (k : Nat) (C : Addr) (x : Str) (pr : Addr) (ps : List Str) (f : Addr) (fd : FuncData) (G : List D → Wd → R D) : Prop where
  p : PropOf K C x pr f
  b : Binds K fd ps []
  ok : SF P w K cl mg base k f fd ps G
/-- a keyword call of an __init__ with keyword-only defaults: how it binds, what the lacking ones are -/
def KBs (K : PySem.W.Frag) (fd : FuncData) (ps : List Str) (n : Nat) (ks : List Str) (pm : List Nat) (dms : List D) : Prop := ∃ mvs mv, KBq K fd ps n ks pm mvs mv ∧ ∀ s, RepA K s mvs dms
end Si

set_option Elab.async false
set_option linter.all false
set_option autoImplicit false
set_option maxRecDepth 100000
set_option maxHeartbeats 4000000
/-! Si23: name = [.. for .. for ..]; xs.index(x); max(xs); o.m(k = v). -/
namespace Si
open PySem L2 PyProof.Rows
section
variable {X : Cx} {cl : Str → Option Addr} {EK : XK} {a o e : Expr} {ma mo me : En → Wd → R D} {mas : En → Wd → R (List D)} {pos p apos cpos : Pos} {es : List Expr}
theorem ss_setLc2 {i : Nat} {y : Str} {py spos : Pos} {elt tg iter tg1 iter1 : Expr} {sl sl1 : List Nat} {ifs ifs1 : List Expr} {scope : Scope} {own : List (Str × Nat)} {vs1 : List Nat} {mi mi1 : En → Wd → R (List D)} {f f1 : D → En → Wd → Option En} {mt mt1 : En → Wd → R Bool} {me : En → Wd → R D} (hc : X.calm = true) (hN : X.N.Nodup) (hy : X.N[i]? = some y) (hyl : X.env.scope.names.lookup y = some .local)
    (hsw : swapsWith (.ListComp elt [⟨tg, iter, ifs, 0⟩, ⟨tg1, iter1, ifs1, 0⟩] scope pos) (some (.Name y py)) spos.line X.env = pure true) (hi : SI X cl EK tg iter mi) (ok : BlkOk X.N X.env.scope scope own) (hv : ∀ i ∈ vs1, i ∈ own.map (·.2))
    (hg : ∀ (s : Shared) (H : Hp) (C : Addr) (cc : List (Str × Addr)) (fp : List Addr), SG (X.blk s H scope (compEnvC scope cc C X.env) fp) cl tg sl f) (ht : ∀ (s : Shared) (H : Hp) (C : Addr) (cc : List (Str × Addr)) (fp : List Addr), STs (X.blk s H scope (compEnvC scope cc C X.env) fp) cl E00 ifs mt)
    (hi1 : ∀ (s : Shared) (H : Hp) (C : Addr) (cc : List (Str × Addr)) (fp : List Addr), SI (X.blk s H scope (compEnvC scope cc C X.env) fp) cl E00 tg1 iter1 mi1)
    (hg1 : ∀ (s : Shared) (H : Hp) (C : Addr) (cc : List (Str × Addr)) (fp : List Addr), SG (X.blk s H scope (compEnvC scope cc C X.env) fp) cl tg1 sl1 f1) (ht1 : ∀ (s : Shared) (H : Hp) (C : Addr) (cc : List (Str × Addr)) (fp : List Addr), STs (X.blk s H scope (compEnvC scope cc C X.env) fp) cl E00 ifs1 mt1)
    (he : ∀ (s : Shared) (H : Hp) (C : Addr) (cc : List (Str × Addr)) (fp : List Addr), SE (X.blk s H scope (compEnvC scope cc C X.env) fp) cl E00 elt me) (hsl : ∀ j ∈ sl, j ∈ own.map (·.2) := by decide) (hsl1 : ∀ j ∈ sl1, j ∈ vs1 := by decide) (hs : ∀ x, foldedSetIterable iter X.env x = pure x := by intro _; rfl) (hs1 : ∀ env x, foldedSetIterable iter1 env x = pure x := by intro _ _; rfl) :
    SS X cl EK (.Assign [.Name y py] (.ListComp elt [⟨tg, iter, ifs, 0⟩, ⟨tg1, iter1, ifs1, 0⟩] scope pos) spos) (mAsg (mLc2 mi (own.map (·.2)) vs1 f mt mi1 f1 mt1 me) (gNm i)) :=
  PS.weak (ps_setLc2 (g := tTg X.K cl sl f) (tt := tG X.K cl repB E00 mt) (wi1 := tG X.K cl (repIt X.K cl) E00 mi1) (g1 := tTg X.K cl sl1 f1) (tt1 := tG X.K cl repB E00 mt1) (te := tG X.K cl (Rep X.K) E00 me) hc hN hy hyl hsw hi ok hv hg ht hi1 hg1 ht1 he hs hs1) fun D σ H ⟨s, σd, e, ok, re, p⟩ => by
    subst e
    refine lc2_core (EK := EK) (cl := cl) hsl hsl1 ok re (fun xs w2 => .ok (.lst xs) w2) (Q := fun x H1 => D.nx (σ.set i (some x)) H1) ?_ lc_finL
    exact posts_bind (rep := Rep X.K) p fun s' v d ex ok' r p' => p' s' _ (Ext.refl s') ok' rfl ((re.mono ok ex).set i r)
/-! max(xs), min(xs) -/
def gMaxL : List D → Wd → R D := fun us w => match us with
  | [u] => match (derefL u w).bind inA with
    | some ns => if 0 < ns.length then .ok (.int (topI ns)) w else .stuck
    | none => .stuck
  | _ => .stuck
def gMinL : List D → Wd → R D := fun us w => match us with
  | [u] => match (derefL u w).bind inA with
    | some ns => if 0 < ns.length then .ok (.int (lowI ns)) w else .stuck
    | none => .stuck
  | _ => .stuck
theorem gc_maxL : GC X.K cl gMaxL (rMax X.K) := by
  intro EK s xs us Q ok r p
  unfold gMaxL at p
  split at p
  · obtain ⟨x, rfl, h⟩ := repA1 r
    split at p
    · rename_i ns hl
      cases hd : derefL _ s.w with
      | none => rw [hd] at hl; cases hl
      | some ds =>
        rw [hd] at hl
        obtain ⟨a, vs, rfl, h1, r1⟩ := deref_of ok h hd
        have ev := inA_of r1 hl
        subst ev
        split at p
        · rename_i h0
          exact ⟨a, ns, rfl, SqL.of h1, h0, fun m h2 h3 => by rw [← topI_is h2 h3]; exact post_here ok p (.int _)⟩
        · exact p.elim
    · exact p.elim
  · exact p.elim
theorem gc_minL : GC X.K cl gMinL (rMin X.K) := by
  intro EK s xs us Q ok r p
  unfold gMinL at p
  split at p
  · obtain ⟨x, rfl, h⟩ := repA1 r
    split at p
    · rename_i ns hl
      cases hd : derefL _ s.w with
      | none => rw [hd] at hl; cases hl
      | some ds =>
        rw [hd] at hl
        obtain ⟨a, vs, rfl, h1, r1⟩ := deref_of ok h hd
        have ev := inA_of r1 hl
        subst ev
        split at p
        · rename_i h0
          exact ⟨a, ns, rfl, SqL.of h1, h0, fun m h2 h3 => by rw [← lowI_is h2 h3]; exact post_here ok p (.int _)⟩
        · exact p.elim
    · exact p.elim
  · exact p.elim
/-! xs.index(x), xs a list of flat things -/
def gIndex : D → D → Wd → R D := fun u v w => match derefL u w with
  | some ds => if flatD v && ds.all flatD then (match ds.findIdx? (fun d => eqF d v) with
    | some j => .ok (.int (j : Nat)) w
    | none => .stuck) else .stuck
  | none => .stuck
def mIndex (mo me : En → Wd → R D) : En → Wd → R D := fun σd w => (mo σd w).bind fun u w1 => match derefL u w1 with
  | none => .stuck
  | some _ => (me σd w1).bind fun d w2 => gIndex u d w2
theorem index_core {K : PySem.W.Frag} {s : S} {x y : V} {u v : D} {Q : VK} (ok : Ok K cl s) (ru : Rep K s x u) (rv : Rep K s y v) (p : Post K cl (Rep K) EK s (gIndex u v s.w) Q) : rIndex K x [y] s.H Q := by
  unfold gIndex at p
  split at p
  · rename_i ds hd
    split at p
    · rename_i hf
      obtain ⟨f1, f2⟩ := (Bool.and_eq_true _ _).mp hf
      obtain ⟨a, vs, rfl, h1, r1⟩ := deref_of ok ru hd
      split at p
      · rename_i j hj
        obtain ⟨hlt, hjp, hjn⟩ := List.findIdx?_eq_some_iff_getElem.mp hj
        obtain ⟨z, hz, rz⟩ := r1.get (i := j) (List.getElem?_eq_getElem hlt)
        have fl := List.all_eq_true.mp f2
        refine ⟨a, vs, y, j, z, rfl, rfl, SqL.of h1, flat_of rv f1, flatA_of r1 f2, hz, ?_, fun m z' hm hz' => ?_, post_here ok p (.int _)⟩
        · rw [eqF_of rz rv (fl _ (List.getElem_mem hlt)) f1]
          exact hjp
        · have hm' : m < ds.length := Nat.lt_trans hm hlt
          obtain ⟨z2, hz2, rz2⟩ := r1.get (i := m) (List.getElem?_eq_getElem hm')
          rw [hz'] at hz2
          cases hz2
          rw [eqF_of rz2 rv (fl _ (List.getElem_mem hm')) f1]
          have := hjn m hm
          simpa using this
      · exact p.elim
    · exact p.elim
  · exact p.elim
theorem se_index (ho : SE X cl EK o mo) (he : SE X cl EK e me) (hbase : attributeBase o "index" X.env (eval o X.env) = eval o X.env := by rfl)
    (hfw : ((backTo cpos (starEach [e] X.env)).all (fun x => !x.1) && (backToKw cpos (keywordEach [] X.env)).all (fun x => x.1.isSome) && decide ([e].length + ([] : List Keyword).length + (if ([] : List Keyword).isEmpty then 0 else 1) < 30)) = true := by rfl)
    (hline : (apos.endLine == cpos.line) = true := by rfl) (hs : starEach [e] X.env = (false, eval e X.env) :: starEach [] X.env := by rfl) (hplain : (backTo cpos (starEach [] X.env)).any (·.1) = false := by rfl) :
    SE X cl EK (.Call (.Attribute o "index" apos) [e] [] cpos) (mIndex mo me) :=
  PE.weak (pe_bm PySem.F.plainAttrs_list PySem.F.slot_list_index PySem.F.type_list_index mt_index ho (pa_cons he pa_nil hs) hbase hfw hline hs hplain) fun σ H Q h => tG_imp (tG_bind h) fun x H1 ⟨s, σd, u, e, ok, re, ru, p⟩ => by
    subst e
    dsimp only at p
    split at p
    · exact p.elim
    · rename_i ds hd
      obtain ⟨a, vs, rfl, h1, r1⟩ := deref_of ok ru hd
      refine ⟨.inl ⟨rfl, _, SqL.of h1⟩, ?_⟩
      refine tG_of ok re (post_bind p fun s1 y v ex ok1 rv p1 => ?_)
      exact index_core ok1 (ru.mono ok ex) rv p1
/-! o.m(.., k = v, ..) -/
def tMethN (C : Addr) (m : Str) (n j : Nat) (sp : Sp) (gV : List V → List V → List V) (E : XK) (ta : TE) (t tk : TA) : TE := fun σ H Q => ta σ H fun x H1 => ∃ b dx fs, x = .ref b ∧ H1 b = some (.ins C dx fs) ∧ fs.lookup m = none ∧
  t σ H1 fun vs H2 => tk σ H2 fun zs H3 => vs.length = n ∧ zs.length = j ∧ sp (gV (x :: vs) zs) H3 Q E
theorem pe_methN0 {pl : Sem Bool} {CX : CXT} {k : Nat} {C f : Addr} {fd : FuncData} {ps ks : List Str} {sp : Sp} {E : XK} {m : Str} {g : List Value → List Value → List Value} {gV : List V → List V → List V} {ta : TE} {tk : TA} {kws : List Keyword} (he : PE X o ta) (c : Cls X.K C) (hm : Meth X.K C m f) (F : FnOk X.prog X.w X.K X.mg X.base CX k f fd ps sp) (hr : Room k X.A) (hb : KBn X.K fd ps 1 ks g gV) (hx : Passes CX X E)
    (hkw : PK X kws tk) (hall : (backToKw pos (keywordEach kws X.env)).all (·.1.isSome) = true := by rfl) (hks : (backToKw pos (keywordEach kws X.env)).filterMap (·.1) = ks := by rfl) (hpl : ((backTo pos (starEach [] X.env)).any (·.1) || (backToKw pos (keywordEach kws X.env)).any (·.1.isNone)) = false := by rfl)
    (ht : eval (.Call (.Attribute o m apos) [] kws pos) X.env = (do
      let rv ← eval o X.env
      standAt apos.atName
      let (g, first) ← holding [rv] (getMethod rv m pl)
      callWith pos g first (backTo pos (starEach [] X.env)) (backToKw pos (keywordEach kws X.env))) := by rfl) :
    PE X (.Call (.Attribute o m apos) [] kws pos) (tMethN C m 0 ks.length sp gV E ta tNil tk) := ⟨fun pins s σ H Q I h => by
  refine PySem.W.methodCall_KW (pl := pl) (thn (he.run pins s σ H _ I h) fun u s1 ⟨x, H1, I1, rx, b, dx, fs, ex, ea, l, q⟩ => ?_) ht
  subst ex
  obtain rfl : u = Value.ref b := rx
  refine getmeth_ok I1 ea c hm l ?_
  refine PySem.W.callWith_KW0 (first := [.ref b]) (h₀ := X.base) I.ok.mod.kin hm.kp hall ?_ hpl
  refine thn (hkw.run pos pins s1 σ H1 _ I1 q) fun ws s2 ⟨zs, H2, I2, rz, l1, l2, q2⟩ => ⟨I2.kIn, ?_⟩
  rw [hks]
  exact run_fnN (us := [.ref b]) (vs := [.ref b]) F hr hb hx I2 (.cons rfl .nil) rz rfl l2 q2⟩
def mMethK (c m : Str) (G : List D → Wd → R D) (pm : List Nat) (mo : En → Wd → R D) (mas mks : En → Wd → R (List D)) : En → Wd → R D := fun σd w => (mo σd w).bind fun u w1 => match insL u w1 with
  | some (_, c', fs) => if c' = c ∧ fs.lookup m = none then (mas σd w1).bind fun us w2 => (mks σd w2).bind fun zs w3 => G (permL pm (u :: (us ++ zs))) w3 else .stuck
  | none => .stuck
theorem se_methK0 {pl : Sem Bool} {C fa : Addr} {fd : FuncData} {ps ks : List Str} {k : Nat} {G : List D → Wd → R D} {cn m : Str} {pm : List Nat} {kws : List Keyword} {mks : En → Wd → R (List D)} (ho : SE X cl EK o mo) (hcl : cl cn = some C) (c : Cls X.K C) (hm : Meth X.K C m fa)
    (F : SF X.prog X.w X.K cl X.mg X.base k fa fd ps G) (hr : Room k X.A) (hb : KBp X.K fd ps 1 ks pm) (hx : Passes (L2.CX X.prog X.w) X EK) (hkw : SK X cl EK kws mks) (h2 : ∀ σd w us w', mks σd w = .ok us w' → us.length = ks.length)
    (hall : (backToKw pos (keywordEach kws X.env)).all (·.1.isSome) = true := by rfl) (hks : (backToKw pos (keywordEach kws X.env)).filterMap (·.1) = ks := by rfl) (hpl : ((backTo pos (starEach [] X.env)).any (·.1) || (backToKw pos (keywordEach kws X.env)).any (·.1.isNone)) = false := by rfl)
    (ht : eval (.Call (.Attribute o m apos) [] kws pos) X.env = (do
      let rv ← eval o X.env
      standAt apos.atName
      let (g, first) ← holding [rv] (getMethod rv m pl)
      callWith pos g first (backTo pos (starEach [] X.env)) (backToKw pos (keywordEach kws X.env))) := by rfl) :
    SE X cl EK (.Call (.Attribute o m apos) [] kws pos) (mMethK cn m G pm mo aNil mks) :=
  PE.weak (pe_methN0 ho c hm F hr hb hx hkw hall hks hpl ht) fun σ H Q h => tG_imp (tG_bind h) fun x H1 ⟨s, σd, u, e, ok, re, ru, p⟩ => by
    subst e
    dsimp only at p
    split at p
    · rename_i n c' fs hi
      split at p
      · rename_i hcn
        obtain ⟨e1, e2⟩ := hcn
        subst e1
        obtain ⟨q, C', dx, vfs, rfl, hn, hC, hH, rf, hd⟩ := ins_of ok ru hi
        rw [hcl] at hC
        cases hC
        refine ⟨q, dx, vfs, rfl, hH, rf.look0 e2, ?_⟩
        have p : Post X.K cl (Rep X.K) EK s ((mks σd s.w).bind fun zs w3 => G (permL pm (u :: ([] ++ zs))) w3) Q := p
        refine tG_of ok re ?_
        cases q2 : mks σd s.w with
        | ok zs w2 =>
          rw [q2] at p
          dsimp only [R.bind] at p
          intro s2 vz ex2 ok2 hw2 r2
          refine ⟨rfl, r2.length.trans (h2 _ _ _ _ q2), s2, permL pm (u :: zs), rfl, ok2, permL_rep (.cons (ru.mono ok ex2) r2) pm, ?_⟩
          rw [hw2]
          exact Post.ext ex2 p
        | err c fs w2 => rw [q2] at p; exact p
        | stuck => rw [q2] at p; exact p.elim
      · exact p.elim
    · exact p.elim
end
end Si

set_option Elab.async false
set_option linter.all false
set_option autoImplicit false
set_option maxRecDepth 100000
set_option maxHeartbeats 4000000
/-! Si24: from the facts of the top to the defs as they stand. -/
namespace Si
open PySem L2 PyProof.Rows
/-- the class that a name of the module stands for -/
def clsAt (K : PySem.W.Frag) (x : Str) : Option Addr := match PySem.W.nsIn K mainGlobals x with
  | some (some (.ref a)) => some a
  | _ => none
theorem clsAt_of {K : PySem.W.Frag} {x : Str} {a : Addr} (h : PySem.W.nsIn K mainGlobals x = some (some (.ref a))) : clsAt K x = some a := by
  unfold clsAt
  rw [h]
theorem cf_nil {K : PySem.W.Frag} {cl : Str → Option Addr} {f : Str} : CF K cl [] f := fun c h => by cases h
theorem cf_cons {K : PySem.W.Frag} {cl : Str → Option Addr} {f cn : Str} {C : Addr} {cs : List Str} (o : ClO K cl cn C) (n : NoAttr K C f) (r : CF K cl cs f) : CF K cl (cn :: cs) f := by
  intro c hc C' e
  rcases List.mem_cons.mp hc with h | h
  · rw [h, o.e] at e
    cases e
    exact ⟨o.c, n⟩
  · exact r c h C' e
theorem mem_nilA {α : Type} {p : α → Prop} : ∀ q ∈ ([] : List α), p q := fun q h => by cases h
theorem mem_consA {α : Type} {p : α → Prop} {a : α} {l : List α} (h : p a) (r : ∀ q ∈ l, p q) : ∀ q ∈ a :: l, p q := fun q hq => by
  rcases List.mem_cons.mp hq with e | hq
  · rw [e]; exact h
  · exact r q hq
theorem kbs_mk {K : PySem.W.Frag} {x qual : Str} {params : Arguments} {body : List Stmt} {scope : Scope} {kws : List (Str × V)} {f : Addr} {fd : FuncData} {ps : List Str} (F : FunD K x qual params body scope [] kws f fd) (n : Nat) (ks : List Str) (ms : List (Str × V)) (pm : List Nat) (dms : List D)
    (hk : kws ≠ []) (hms : ∀ q ∈ ms, q ∈ kws) (hdm : ∀ s, RepA K s (ms.map (·.2)) dms)
    (h : ∀ (D : Addr) (doc pmv : Value) (an : Option Addr) (cdv ct : Value) (us mv ws : List Value), us.length = n → mv.length = ms.length → ws.length = ks.length →
      KwChain D ((ms.map (·.1)).zip mv) (bindArgs (PySem.W.fnOf x qual params body scope .none (.ref D) doc pmv an cdv ct) ⟨us, ks.zip ws⟩) (ps.zip (permL pm (us ++ (ws ++ mv))))) : KBs K fd ps n ks pm dms := by
  obtain ⟨mv, hb⟩ := F.kbinds0 n ks ms (fun us mv ws => permL pm (us ++ (ws ++ mv))) hk hms (fun r1 r2 r3 => permL_vals (r1.append (r3.append r2)) pm) h
  exact ⟨_, mv, hb, hdm⟩
/-! ### name = {k: v for ..} -/
section
variable {X : Cx} {cl : Str → Option Addr} {EK : XK}
theorem ps_setDc {i : Nat} {y : Str} {py : Pos} {kx vx tg iter : Expr} {ifs : List Expr} {scope : Scope} {own : List (Str × Nat)} {pos spos : Pos} {wi : TI} {g : TG} {tt : TT} {tk tv : TE} (hc : X.calm = true) (hN : X.N.Nodup) (hy : X.N[i]? = some y) (hyl : X.env.scope.names.lookup y = some .local)
    (hsw : swapsWith (.DictComp kx vx [⟨tg, iter, ifs, 0⟩] scope pos) (some (.Name y py)) spos.line X.env = pure true) (hi : PI X tg iter wi) (ok : BlkOk X.N X.env.scope scope own)
    (hg : ∀ (s : Shared) (H : Hp) (C : Addr) (cc : List (Str × Addr)) (fp : List Addr), PG (X.blk s H scope (compEnvC scope cc C X.env) fp) tg g) (ht : ∀ (s : Shared) (H : Hp) (C : Addr) (cc : List (Str × Addr)) (fp : List Addr), PTs (X.blk s H scope (compEnvC scope cc C X.env) fp) ifs tt)
    (hk : ∀ (s : Shared) (H : Hp) (C : Addr) (cc : List (Str × Addr)) (fp : List Addr), PE (X.blk s H scope (compEnvC scope cc C X.env) fp) kx tk) (he : ∀ (s : Shared) (H : Hp) (C : Addr) (cc : List (Str × Addr)) (fp : List Addr), PE (X.blk s H scope (compEnvC scope cc C X.env) fp) vx tv)
    (hs : ∀ x, foldedSetIterable iter X.env x = pure x) : PS X (.Assign [.Name y py] (.DictComp kx vx [⟨tg, iter, ifs, 0⟩] scope pos) spos) (tAsg (tDc wi g tt tk tv (own.map (·.2))) (gName i)) := ⟨fun pins s σ H D I h => by
  rw [exec_Assign_Name_used _ _ _ _ hsw]
  refine wpAny_bind (wpAny_standAt (wpAny_bind ?_))
  show wpAny _ X.A (do let _ ← comprehension (.DictComp kx vx [⟨tg, iter, ifs, 0⟩] scope pos) scope X.env (firstIterPos [⟨tg, iter, ifs, 0⟩] pos) newDict false (eval iter X.env) (some (assign (.Name y py) X.env))) _ _ s
  have h2 : tDc wi g tt tk tv (own.map (·.2)) σ H (fun x H1 => gName i x σ H1 D.nx) := h
  refine wpAny_bind (thn (L2.dc_core (Qf := fun _ s' => SP X pins D .next s') hc hN I hi ok hg ht hk he hs h2 fun L C s' m H' I' q hn f => ?_) fun _ s' hq => wpAny_pure (wpAny_pure hq))
  show wpAny _ _ (assign (.Name y py) X.env (.ref L)) _ _ _
  refine wpAny_assign_Name (store_ok2 (v := V.ref L) I' hN hy (.inl hyl) rfl (fun s2 I2 ⟨b, sb, hb⟩ => ?_) (.inr hyl))
  obtain ⟨f0, f1, f2, f3, f4, f5⟩ := f
  have hne : C ≠ b := by
    rcases hb with z | z
    · rw [z]; exact f1
    · exact fun e => f4 y b z e.symm
  exact ⟨m, hn.sameBut sb hne, fun h3 sb3 => ⟨_, H', I2.turned (t' := s2.toks) (fun c o hb e => (sb3.2 c hb).trans e) f0 f1 f3 f4 f5, q⟩⟩⟩
theorem ss_setDc {i : Nat} {y : Str} {py spos pos : Pos} {tg iter kx vx : Expr} {sl : List Nat} {ifs : List Expr} {scope : Scope} {own : List (Str × Nat)} {mi : En → Wd → R (List D)} {f : D → En → Wd → Option En} {mt : En → Wd → R Bool} {mk mv : En → Wd → R D} (hc : X.calm = true) (hN : X.N.Nodup) (hy : X.N[i]? = some y) (hyl : X.env.scope.names.lookup y = some .local)
    (hsw : swapsWith (.DictComp kx vx [⟨tg, iter, ifs, 0⟩] scope pos) (some (.Name y py)) spos.line X.env = pure true) (hi : SI X cl EK tg iter mi) (ok : BlkOk X.N X.env.scope scope own)
    (hg : ∀ (s : Shared) (H : Hp) (C : Addr) (cc : List (Str × Addr)) (fp : List Addr), SG (X.blk s H scope (compEnvC scope cc C X.env) fp) cl tg sl f) (ht : ∀ (s : Shared) (H : Hp) (C : Addr) (cc : List (Str × Addr)) (fp : List Addr), STs (X.blk s H scope (compEnvC scope cc C X.env) fp) cl E00 ifs mt)
    (hk : ∀ (s : Shared) (H : Hp) (C : Addr) (cc : List (Str × Addr)) (fp : List Addr), SE (X.blk s H scope (compEnvC scope cc C X.env) fp) cl E00 kx mk) (he : ∀ (s : Shared) (H : Hp) (C : Addr) (cc : List (Str × Addr)) (fp : List Addr), SE (X.blk s H scope (compEnvC scope cc C X.env) fp) cl E00 vx mv)
    (hsl : ∀ j ∈ sl, j ∈ own.map (·.2) := by decide) (hs : ∀ x, foldedSetIterable iter X.env x = pure x := by intro _; rfl) : SS X cl EK (.Assign [.Name y py] (.DictComp kx vx [⟨tg, iter, ifs, 0⟩] scope pos) spos) (mAsg (mDc mi (own.map (·.2)) f mt mk mv) (gNm i)) :=
  PS.weak (ps_setDc (g := tTg X.K cl sl f) (tt := tG X.K cl repB E00 mt) (tk := tG X.K cl (Rep X.K) E00 mk) (tv := tG X.K cl (Rep X.K) E00 mv) hc hN hy hyl hsw hi ok hg ht hk he hs) fun D σ H ⟨s, σd, e, ok, re, p⟩ => by
    subst e
    refine Si.dc_core (EK := EK) (cl := cl) hsl ok re (fun xs w2 => .ok (.obj w2.length) (w2 ++ [MO.dct xs])) (Q := fun x H1 => D.nx (σ.set i (some x)) H1) ?_ fun s0 s1 q vs xs e ok1 h0 hF hρ hq ra p => fin_cell (EK := EK) s0 s1 q (.dct xs) e ok1 h0 hF hρ (by rw [hq]; simp) ⟨vs, hq, ra.ownC⟩ p
    exact posts_bind (rep := Rep X.K) p fun s' v d ex ok' r p' => p' s' _ (Ext.refl s') ok' rfl ((re.mono ok ex).set i r)
end
theorem sw_trueD {kx vx : Expr} {gs : List Comprehension} {scope : Scope} {pos py : Pos} {y : Str} {l : Nat} {env : Env} (hk : env.scope.kind = .function) (hy : env.scope.names.lookup y = some .local) (hl : (py.line == pos.line) = true)
    (hn : (scope.names.any fun (n, k) => n == y && (k == .local || k == .cell)) = false) : swapsWith (.DictComp kx vx gs scope pos) (some (.Name y py)) l env = pure true := by
  have k1 : env.kindOf y = some .local := hy
  have k2 : env.blockKind = .function := by
    unfold Env.blockKind
    rw [hk]
    rfl
  unfold swapsWith
  simp only [k2, k1, hn, Expr.pos, hl]
  rfl
end Si

set_option Elab.async false
set_option linter.all false
set_option autoImplicit false
set_option maxRecDepth 100000
set_option maxHeartbeats 4000000
/-! Si25: items of dicts and lists as parts of a tuple target; a dict given out, the lists in it for good. -/
namespace Si
open PySem L2 PyProof.Rows
section
variable {X : Cx} {cl : Str → Option Addr} {EK : XK} {a o i value : Expr} {mo mi : En → Wd → R D} {pos spos : Pos} {es : List Expr}
/-- targets that write cells -/
def tTgW (K : PySem.W.Frag) (cl : Str → Option Addr) (f : List D → En → Wd → Option Wd) : TGs := fun vs σ H Q => ∃ s σd ds, s.H = H ∧ Ok K cl s ∧ RepE K s σ σd ∧ RepA K s vs ds ∧
  match f ds σd s.w with
  | some w' => ∀ s', Ext s s' → Ok K cl s' → s'.w = w' → Q σ s'.H
  | none => False
def SGW (X : Cx) (cl : Str → Option Addr) (es : List Expr) (f : List D → En → Wd → Option Wd) : Prop := PGs X es (tTgW X.K cl f)
def gwNil : List D → En → Wd → Option Wd := fun ds _ w => match ds with | [] => some w | _ => none
/-- o[i] of a list -/
def gwL (mo mi : En → Wd → R D) (f : List D → En → Wd → Option Wd) : List D → En → Wd → Option Wd := fun ds σd w => match ds with
  | d :: r => match mo σd w with
    | .ok u w1 => match mi σd w1 with
      | .ok j w2 => match cellL u w2, j with
        | some (n, xs), .int k => match ixN xs.length k with
          | some j => f r σd (w2.set n (.lst (xs.set j d)))
          | none => none
        | _, _ => none
      | _ => none
    | _ => none
  | [] => none
/-- o[i] of a dict -/
def gwD (mo mi : En → Wd → R D) (f : List D → En → Wd → Option Wd) : List D → En → Wd → Option Wd := fun ds σd w => match ds with
  | d :: r => match mo σd w with
    | .ok u w1 => match mi σd w1 with
      | .ok j w2 => match dctL u w2, keyD j with
        | some (n, kvs), some k => if kvs.length < 16777216 then f r σd (w2.set n (.dct (putKD kvs k d))) else none
        | _, _ => none
      | _ => none
    | _ => none
  | [] => none
theorem sgw_nil : SGW X cl [] gwNil := PGs.weak pgs_nil fun v σ H Q hh => by
  obtain ⟨s, σd, ds, e, ok, re, r, p⟩ := hh
  subst e
  cases r with
  | nil => exact ⟨rfl, p s (Ext.refl s) ok rfl⟩
  | cons _ _ => exact p.elim
theorem sgw_L {f : List D → En → Wd → Option Wd} (ho : SE X cl E00 o mo) (hi : SE X cl E00 i mi) (hr : SGW X cl es f) (ha : ∀ v, assign (.Subscript o i spos) X.env v = (do
      let ov ← holding [v] (eval o X.env)
      let iv ← holding [v, ov] (eval i X.env)
      standAt spos
      holding [v, ov, iv] (setItem ov iv v)
      release [v, ov, iv] []) := by intro _; rfl)
    (hs : (assignEach (.Subscript o i spos :: es) X.env).map (·.2) = assign (.Subscript o i spos) X.env :: (assignEach es X.env).map (·.2) := by rfl) : SGW X cl (.Subscript o i spos :: es) (gwL mo mi f) := PGs.weak (pgs_cons (pg_sub ho hi set_list ha) hr hs) fun vs σ H Q hh => by
  obtain ⟨s, σd, ds, e, ok, re, r, p⟩ := hh
  subst e
  cases r with
  | nil => exact p.elim
  | @cons v vr d dr rv rr =>
    refine ⟨v, vr, rfl, s, σd, rfl, ok, re, ?_⟩
    simp only [gwL] at p
    cases em : mo σd s.w with
    | err c fs w => rw [em] at p; exact p.elim
    | stuck => rw [em] at p; exact p.elim
    | ok u w1 =>
      rw [em] at p
      intro s1 x ex ok1 hw rx
      subst hw
      refine ⟨s1, σd, rfl, ok1, re.mono ok ex, ?_⟩
      dsimp only at p
      cases ei : mi σd s1.w with
      | err c fs w => rw [ei] at p; exact p.elim
      | stuck => rw [ei] at p; exact p.elim
      | ok j w2 =>
        rw [ei] at p
        intro s2 y ex2 ok2 hw2 ry
        subst hw2
        dsimp only at p
        cases hc : cellL u s2.w with
        | none => rw [hc] at p; exact p.elim
        | some t =>
          obtain ⟨n, xs⟩ := t
          rw [hc] at p
          cases j with
          | int k =>
            dsimp only at p
            rw [rep_int ry]
            obtain ⟨q, vs, rfl, hn, hH, ra, hd⟩ := cell_of ok2 (rx.mono ok1 ex2) hc
            cases hj : ixN xs.length k with
            | none => rw [hj] at p; exact p.elim
            | some j =>
              rw [hj] at p
              dsimp only at p
              have rd := (rv.mono ok ex).mono ok1 ex2
              have ex3 : Ext s2 (s2.wr n q (.lst (vs.set j v)) (.lst (xs.set j d))) := S.wr_ext ok2 hn hd
              have ok3 : Ok X.K cl (s2.wr n q (.lst (vs.set j v)) (.lst (xs.set j d))) := S.wr_ok ok2 hn hd ⟨_, upd_same, (ra.set j rd).mono ok2 ex3⟩
              refine ⟨q, vs, k, j, rfl, rfl, hH, by rw [ra.length]; exact hj, _, σd, dr, rfl, ok3, ((re.mono ok ex).mono ok1 ex2).mono ok2 ex3, ((rr.mono ok ex).mono ok1 ex2).mono ok2 ex3, ?_⟩
              show match f dr σd (s2.w.set n (.lst (xs.set j d))) with | some w' => _ | none => _
              cases hp : f dr σd (s2.w.set n (.lst (xs.set j d))) with
              | none => rw [hp] at p; exact p.elim
              | some w4 =>
                rw [hp] at p
                exact fun s4 e4 o4 h4 => p s4 (((ex.trans ex2).trans ex3).trans e4) o4 h4
          | _ => exact p.elim
theorem sgw_D {f : List D → En → Wd → Option Wd} (hu : X.A.units + 64 < cLine) (ho : SE X cl E00 o mo) (hi : SE X cl E00 i mi) (hr : SGW X cl es f) (ha : ∀ v, assign (.Subscript o i spos) X.env v = (do
      let ov ← holding [v] (eval o X.env)
      let iv ← holding [v, ov] (eval i X.env)
      standAt spos
      holding [v, ov, iv] (setItem ov iv v)
      release [v, ov, iv] []) := by intro _; rfl)
    (hs : (assignEach (.Subscript o i spos :: es) X.env).map (·.2) = assign (.Subscript o i spos) X.env :: (assignEach es X.env).map (·.2) := by rfl) : SGW X cl (.Subscript o i spos :: es) (gwD mo mi f) := PGs.weak (pgs_cons (pg_sub ho hi (set_dict (Nat.lt_of_le_of_lt (Nat.add_le_add_left (by decide) _) hu)) ha) hr hs) fun vs σ H Q hh => by
  obtain ⟨s, σd, ds, e, ok, re, r, p⟩ := hh
  subst e
  cases r with
  | nil => exact p.elim
  | @cons v vr d dr rv rr =>
    refine ⟨v, vr, rfl, s, σd, rfl, ok, re, ?_⟩
    simp only [gwD] at p
    cases em : mo σd s.w with
    | err c fs w => rw [em] at p; exact p.elim
    | stuck => rw [em] at p; exact p.elim
    | ok u w1 =>
      rw [em] at p
      intro s1 x ex ok1 hw rx
      subst hw
      refine ⟨s1, σd, rfl, ok1, re.mono ok ex, ?_⟩
      dsimp only at p
      cases ei : mi σd s1.w with
      | err c fs w => rw [ei] at p; exact p.elim
      | stuck => rw [ei] at p; exact p.elim
      | ok j w2 =>
        rw [ei] at p
        intro s2 y ex2 ok2 hw2 ry
        subst hw2
        dsimp only at p
        cases h1 : dctL u s2.w with
        | none => rw [h1] at p; exact p.elim
        | some t =>
          obtain ⟨n, kvs⟩ := t
          rw [h1] at p
          cases h2 : keyD j with
          | none => rw [h2] at p; exact p.elim
          | some k =>
            rw [h2] at p
            dsimp only at p
            obtain ⟨q, vks, rfl, hn, hH, rf, hd⟩ := dct_of ok2 (rx.mono ok1 ex2) h1
            by_cases hl : kvs.length < 16777216
            · rw [if_pos hl] at p
              have rd := (rv.mono ok ex).mono ok1 ex2
              have ex3 : Ext s2 (s2.wr n q (.dK (L2.putK vks k v)) (.dct (putKD kvs k d))) := S.wr_ext ok2 hn hd
              have ok3 : Ok X.K cl (s2.wr n q (.dK (L2.putK vks k v)) (.dct (putKD kvs k d))) := S.wr_ok ok2 hn hd ⟨_, upd_same, (rf.putK rd).mono ok2 ex3⟩
              refine ⟨q, _, rfl, by rw [key_rep ry h2]; exact DPut.k hH (by rw [rf.len, sizeLine_eq]; exact hl), _, σd, dr, rfl, ok3, ((re.mono ok ex).mono ok1 ex2).mono ok2 ex3, ((rr.mono ok ex).mono ok1 ex2).mono ok2 ex3, ?_⟩
              show match f dr σd (s2.w.set n (.dct (putKD kvs k d))) with | some w' => _ | none => _
              cases hp : f dr σd (s2.w.set n (.dct (putKD kvs k d))) with
              | none => rw [hp] at p; exact p.elim
              | some w4 =>
                rw [hp] at p
                exact fun s4 e4 o4 h4 => p s4 (((ex.trans ex2).trans ex3).trans e4) o4 h4
            · rw [if_neg hl] at p; exact p.elim
/-- a tuple of such targets -/
def mAsgW (k : Nat) (f : List D → En → Wd → Option Wd) (mv : En → Wd → R D) : En → Wd → SR := fun σd w => (mv σd w).toS fun d w1 => match d with
  | .tup ds => if ds.length = k then (match f ds σd w1 with
    | some w2 => .next σd w2
    | none => .stuck) else .stuck
  | _ => .stuck
theorem ss_asgW {kk n : Nat} {mv : En → Wd → R D} {f : List D → En → Wd → Option Wd} (hc : X.calm = true) (hv : SE X cl EK value mv) (hg : SGW X cl es f) (hn : (assignEach es X.env).length = n := by rfl) (hst : (assignEach es X.env).findIdx? (·.1) = none := by rfl)
    (hs : swapsWithSole [.Tuple es kk spos] value pos.line X.env = pure false := by rfl) (hw : swappedStores [.Tuple es kk spos] value X.env = pure none := by rfl) (h1 : (assignEach [.Tuple es kk spos] X.env).map (·.2) = [assign (.Tuple es kk spos) X.env] := by rfl) :
    SS X cl EK (.Assign [.Tuple es kk spos] value pos) (mAsgW n f mv) := PS.weak (ps_asg hv (pg_tup hc hg hn hst) hs hw h1) fun D σ H h => by
  obtain ⟨s, σd, e, ok, re, p⟩ := h
  subst e
  refine tG_of ok re (posts_bind p fun s' v d ex ok' r p' => ?_)
  split at p'
  · rename_i ds
    obtain ⟨q, vs, rfl, h2, h3⟩ := rep_tup r
    by_cases hl : ds.length = n
    · rw [if_pos hl] at p'
      refine ⟨q, vs, rfl, h2, h3.length.trans hl, s', σd, ds, rfl, ok', re.mono ok ex, h3, ?_⟩
      cases hp : f ds σd s'.w with
      | none => rw [hp] at p'; exact p'.elim
      | some w2 =>
        rw [hp] at p'
        exact fun s2 e2 ok2 hw2 => p' s2 σ e2 ok2 hw2 ((re.mono ok ex).mono ok' e2)
    · rw [if_neg hl] at p'; exact p'.elim
  · exact p'.elim
/-! a dict, the lists in it for good -/
def replD (kvs : List (Key × D)) (k : Key) (d : D) : List (Key × D) := match kvs with
  | [] => []
  | (a, x) :: r => if a = k then (a, d) :: r else (a, x) :: replD r k d
theorem RepF.repl1 {K : PySem.W.Frag} {s : S} {k : Key} {v : V} {d : D} (rv : Rep K s v d) : ∀ {vks : List (Key × V)} {kvs : List (Key × D)}, RepF K s vks kvs → valV vks k = some v → RepF K s vks (replD kvs k d)
  | [], [], _, h => trivial
  | [], _ :: _, r, _ => r.elim
  | _ :: _, [], r, _ => r.elim
  | (a, x) :: vr, (b, y) :: dr, ⟨e, h1, h2⟩, h => by
    dsimp only at e
    subst e
    rw [replD]
    unfold valV at h
    rw [List.find?_cons] at h
    by_cases hk : a = k
    · rw [if_pos hk]
      simp only [hk, decide_true, Option.map_some, Option.some.injEq] at h
      subst h
      exact ⟨rfl, rv, h2⟩
    · rw [if_neg hk]
      simp only [hk, decide_false] at h
      exact ⟨rfl, h1, RepF.repl1 rv h2 (by unfold valV; exact h)⟩
/-- the lists under some keys of the dict in cell m stay as they are from here on -/
def frzD (m : Nat) : List Key → Wd → Option Wd
  | [], w => some w
  | k :: r, w => match w[m]? with
    | some (.dct kvs) => match valD kvs k with
      | some u => match cellL u w with
        | some (n, ds) => frzD m r ((w.set n .dead).set m (.dct (replD kvs k (.lst ds))))
        | none => none
      | none => none
    | _ => none
theorem upd_id {H : Hp} {a : Addr} {u : HO} (h : H a = some u) : upd H a u = H := by
  funext b
  by_cases e : b = a
  · subst e; rw [upd_same, h]
  · rw [upd_ne e]
theorem frz_step {K : PySem.W.Frag} {m : Nat} {a : Addr} : ∀ {ks : List Key} {s : S} {w' : Wd}, Ok K cl s → s.ρ[m]? = some a → frzD m ks s.w = some w' → ∃ s', Ext s s' ∧ Ok K cl s' ∧ s'.w = w' ∧ s'.H = s.H
  | [], s, w', ok, _, h => ⟨s, Ext.refl s, ok, by simpa [frzD] using h, rfl⟩
  | k :: r, s, w', ok, hm, h => by
    rw [frzD] at h
    cases e1 : s.w[m]? with
    | none => rw [e1] at h; cases h
    | some c =>
      rw [e1] at h
      cases c with
      | dead => cases h
      | lst xs => cases h
      | ins c fs => cases h
      | dct kvs =>
        dsimp only at h
        cases e2 : valD kvs k with
        | none => rw [e2] at h; cases h
        | some u =>
          rw [e2] at h
          dsimp only at h
          cases e3 : cellL u s.w with
          | none => rw [e3] at h; cases h
          | some p =>
            obtain ⟨n, ds⟩ := p
            rw [e3] at h
            dsimp only at h
            obtain ⟨vks, hH, rf⟩ := ok.cell m a _ hm e1
            obtain ⟨v, hv, rv⟩ := rf.val.1 u e2
            obtain ⟨q, vs, rfl, hn, hHq, ra, hd⟩ := cell_of ok rv e3
            have x1 : Ext s (s.die n q) := S.die_ext hn
            have o1 : Ok K cl (s.die n q) := S.die_ok ok hn
            have hne : n ≠ m := by
              intro e
              subst e
              rw [hm] at hn
              cases hn
              rw [hH] at hHq
              cases hHq
            have hm1 : (s.die n q).ρ[m]? = some a := hm
            have hd1 : (s.die n q).w[m]? ≠ some MO.dead := by
              show (s.w.set n MO.dead)[m]? ≠ _
              rw [List.getElem?_set_ne hne, e1]
              simp
            have x2 : Ext (s.die n q) ((s.die n q).wr m a (.dK vks) (.dct (replD kvs k (.lst ds)))) := S.wr_ext o1 hm1 hd1
            have o2 : Ok K cl ((s.die n q).wr m a (.dK vks) (.dct (replD kvs k (.lst ds)))) := S.wr_ok o1 hm1 hd1 ⟨vks, upd_same, ((rf.mono ok x1).repl1 (.lst (show (s.die n q).F q from .inr rfl) hHq (ra.mono ok x1)) hv).mono o1 x2⟩
            obtain ⟨s', x3, o3, hw, hh⟩ := frz_step (ks := r) o2 hm h
            exact ⟨s', (x1.trans x2).trans x3, o3, hw, hh.trans (upd_id hH)⟩
/-- return a dict, the lists in it for good -/
def mRetZ (ks : List Key) (ma : En → Wd → R D) : En → Wd → SR := fun σd w => (ma σd w).toS fun u w1 => match u with
  | .obj m => match frzD m ks w1 with
    | some w2 => .ret (.obj m) w2
    | none => .stuck
  | _ => .stuck
theorem ss_retZ {ks : List Key} {v : Expr} {ma : En → Wd → R D} (ha : SE X cl EK v ma) : SS X cl EK (.Return (some v) pos) (mRetZ ks ma) := PS.weak (ps_ret ha) fun D σ H h => by
  obtain ⟨s, σd, e, ok, re, p⟩ := h
  subst e
  refine tG_of ok re (posts_bind p fun s' v d ex ok' r p' => ?_)
  split at p'
  · rename_i m
    cases hf : frzD m ks s'.w with
    | none => rw [hf] at p'; exact p'.elim
    | some w2 =>
      rw [hf] at p'
      cases r with
      | @obj q _ hm =>
        obtain ⟨s2, x2, o2, hw, hh⟩ := frz_step ok' hm hf
        have := p' s2 (.ref q) x2 o2 hw (.obj (x2.ρget hm))
        rw [hh] at this
        exact this
  · exact p'.elim
end
end Si

set_option Elab.async false
set_option linter.all false
set_option autoImplicit false
set_option maxRecDepth 100000
set_option maxHeartbeats 4000000
/-! Si26: the head by facts: what the walks lean on is looked at behind one run of the top. -/
namespace Si
open PySem L2 PyProof.Rows
/-- a def of the text: where its function object stands, its parts, its keyword-only defaults -/
structure DefA where
  ad : PySem.W.Frag → Addr
  name : Str
  qual : Str
  params : Arguments
  body : List Stmt
  scope : Scope
  kwd : List (Str × (PySem.W.Frag → V)) := []
def fnA (K : PySem.W.Frag) (d : DefA) : He.FnW := match K.lookup (d.ad K) with
  | some ⟨_, _, .func fd, _⟩ => some (fd.name, fd.qualname, fd.params, fd.body, fd.scope, fd.globals, fd.closure, fd.builtins)
  | _ => none
def DefA.val (d : DefA) : He.FnW := some (d.name, d.qual, d.params, .stmts d.body, d.scope, mainGlobals, [], builtinsNs)
def DefA.kws (K : PySem.W.Frag) (d : DefA) : List (Str × V) := d.kwd.map fun q => (q.1, q.2 K)
def DefA.ok (K : PySem.W.Frag) (d : DefA) : Bool := PySem.W.keepIn K (.ref (d.ad K)) && (match K.lookup (d.ad K) with
  | some ⟨_, _, .func fd, _⟩ => PySem.W.codeIn K fd.code d.qual && (He.dflB K fd.defaults [] && He.kwdB K fd.kwdefaults (d.kws K))
  | _ => false)
theorem DefA.funD {K : PySem.W.Frag} {d : DefA} (e : fnA K d = d.val) (c : d.ok K = true) : ∃ fd, FunD K d.name d.qual d.params d.body d.scope [] (d.kws K) (d.ad K) fd := by
  obtain ⟨kp, c2⟩ := He.ba c
  unfold fnA at e
  cases q : K.lookup (d.ad K) with
  | none =>
    rw [q] at c2
    cases c2
  | some o =>
    obtain ⟨oc, od, dt, osl⟩ := o
    rw [q] at c2 e
    cases dt with
    | func fd =>
      obtain ⟨n1, n2, n3, n4, n5, n6, n7, n8, n9, n10, n11, n12, n13, n14, n15⟩ := fd
      have e2 : (some (n1, n2, n3, n4, n5, n6, n7, n15) : He.FnW) = some (d.name, d.qual, d.params, .stmts d.body, d.scope, mainGlobals, [], builtinsNs) := e
      simp only [Option.some.injEq, Prod.mk.injEq] at e2
      obtain ⟨h1, h2, h3, h4, h5, h6, h7, h8⟩ := e2
      subst h1 h2 h3 h4 h5 h6 h7 h8
      have c3 : (PySem.W.codeIn K n13 d.qual && (He.dflB K n8 [] && He.kwdB K n9 (d.kws K))) = true := c2
      obtain ⟨k1, k2⟩ := He.ba c3
      obtain ⟨k3, k4⟩ := He.ba k2
      exact ⟨_, ⟨oc, od, n8, n9, n10, n11, n12, n13, n14, osl, rfl, q, k1, He.dflB_ok k3, He.kwdB_ok k4⟩, kp⟩
    | _ => cases c2
/-! ### addresses -/
def gA (x : Str) : PySem.W.Frag → Addr := fun K => He.ga K x
def mA (C m : Str) : PySem.W.Frag → Addr := fun K => He.ma K (He.ga K C) m
def pA (C m : Str) : PySem.W.Frag → Addr := fun K => match PySem.W.recIn K (He.ma K (He.ga K C) m) "property" with
  | some (.ref f :: _) => f
  | _ => 0
def kA (ad : PySem.W.Frag → Addr) (q : Str) : PySem.W.Frag → Addr := fun K => match K.lookup (ad K) with
  | some ⟨_, _, .func fd, _⟩ => (match fd.kwdefaults with
    | .ref D => (match PySem.W.nsIn K D q with
      | some (some (.ref a)) => a
      | _ => 0)
    | _ => 0)
  | _ => 0
/-! ### facts -/
abbrev FB := PySem.W.Frag → Bool
def fGlo (x : Str) : FB := fun K => (He.Fa.glo x).ok K
def fFree (x : Str) : FB := fun K => (He.Fa.free x).ok K
def fInt (x : Str) (i : Int) : FB := fun K => (He.Fa.int x i).ok K
def fStr (x z : Str) : FB := fun K => (He.Fa.str x z).ok K
def fCls (x : Str) : FB := fun K => (He.Fa.cls x).ok K
def fNoat (x f : Str) : FB := fun K => (He.Fa.noat x f).ok K
def fMeth (x m : Str) : FB := fun K => (He.Fa.meth x m).ok K
def fMkr (x : Str) : FB := fun K => (He.Fa.mkr x).ok K
def fProp (C m : Str) : FB := fun K => He.eqO (PySem.W.findIn K (.ref (He.ga K C)) m) (some (some (.ref (He.ma K (He.ga K C) m)))) && (He.eqO (PySem.W.specialIn K (.ref (He.ma K (He.ga K C) m)) "__get__") (some (some (.builtin "property.__get__"))) &&
  (decide (PySem.W.takesIn K (.ref (He.ma K (He.ga K C) m)) = some true) && (match PySem.W.recIn K (He.ma K (He.ga K C) m) "property" with
    | some (.ref _ :: _) => true
    | _ => false)))
def fTup (ad : PySem.W.Frag → Addr) (vs : List V) : FB := fun K => match K.lookup (ad K) with
  | some ⟨.type c, _, .seq its _, _⟩ => decide (c = "tuple") && (decide (its.size ≤ sizeLine) && He.relAll vs its.toList)
  | _ => false
section
variable {K : PySem.W.Frag} {h : Heap} {mg : Str → Option Value}
theorem fProp_ok {C m : Str} (c : fProp C m K = true) : PropOf K (He.ga K C) m (He.ma K (He.ga K C) m) (pA C m K) := by
  obtain ⟨c1, c⟩ := He.ba c
  obtain ⟨c2, c⟩ := He.ba c
  obtain ⟨c3, c4⟩ := He.ba c
  refine ⟨He.eqO_ok c1, He.eqO_ok c2, of_decide_eq_true c3, ?_⟩
  unfold pA
  cases e : PySem.W.recIn K (He.ma K (He.ga K C) m) "property" with
  | none => rw [e] at c4; cases c4
  | some l =>
    rw [e] at c4
    cases l with
    | nil => cases c4
    | cons v r =>
      cases v with
      | ref f => exact ⟨r, rfl⟩
      | _ => cases c4
theorem fTup_ok {ad : PySem.W.Frag → Addr} {vs : List V} (c : fTup ad vs K = true) : TK K (ad K) vs := by
  unfold fTup at c
  cases q : K.lookup (ad K) with
  | none => rw [q] at c; cases c
  | some o =>
    obtain ⟨oc, od, dt, osl⟩ := o
    rw [q] at c
    cases oc with
    | type t =>
      cases dt with
      | seq its n =>
        obtain ⟨h1, h2⟩ := He.ba (show (decide (t = "tuple") && (decide (its.size ≤ sizeLine) && He.relAll vs its.toList)) = true from c)
        obtain ⟨h3, h4⟩ := He.ba h2
        exact ⟨_, its, n, q, congrArg Value.type (of_decide_eq_true h1), rfl, of_decide_eq_true h3, He.relAll_ok h4⟩
      | _ => cases c
    | _ => cases dt <;> cases c
theorem glo_cl {x : Str} (c : fGlo x K = true) : clsAt K x = some (He.ga K x) := clsAt_of (He.eqO_ok c)
theorem cls_clO {x : Str} (g : fGlo x K = true) (c : fCls x K = true) : ClO K (clsAt K) x (He.ga K x) := ⟨He.cls_ok c, glo_cl g⟩
theorem cn_int {x : Str} {i : Int} (X : K.In h) (G : h.Ns mainGlobals mg) (c : fInt x i K = true) : CN K mg x (.int i) :=
  let ⟨t, e⟩ := He.int_ok X G c; ⟨_, .int i, e, ⟨t, rfl⟩, fun _ => .int i⟩
theorem cn_str {x z : Str} (X : K.In h) (G : h.Ns mainGlobals mg) (c : fStr x z K = true) : CN K mg x (.str z) :=
  let ⟨t, e⟩ := He.str_ok X G c; ⟨_, .str z, e, ⟨t, rfl⟩, fun _ => .str z⟩
theorem cn_tup {x : Str} {vs : List V} {ds : List D} (X : K.In h) (G : h.Ns mainGlobals mg) (g : fGlo x K = true) (c : fTup (gA x) vs K = true) (r : ∀ s, RepA K s vs ds) : CN K mg x (.tup ds) :=
  ⟨_, .ref (He.ga K x), He.glo_ok X G g, rfl, fun s => .tup (.inr (fTup_ok c)) (r s)⟩
end
/-! ### the Hook -/
abbrev AlA : Type := Bool × List He.FnW
def obsA (fa : List FB) (fn : List DefA) (K : PySem.W.Frag) : AlA := ((fa.all fun f => f K) && fn.all fun d => d.ok K, fn.map fun d => fnA K d)
def valA (fn : List DefA) : AlA := (true, fn.map DefA.val)
def SaysA (fa : List FB) (fn : List DefA) (K : PySem.W.Frag) : Prop := obsA fa fn K = valA fn
/-- the addresses that can be reached, each once (m: a mask of those met) -/
def walkG (g : Addr → Option Obj) : Nat → List Addr → Nat → List Addr
  | 0, _, _ => []
  | _ + 1, [], _ => []
  | f + 1, a :: r, m => match Nat.beq (Nat.land (Nat.shiftRight m a) 1) 1 with
    | true => walkG g f r m
    | false => a :: HandSHeadRun.frNat (Nat.lor m (Nat.shiftLeft 1 a)) fun m => walkG g f (match g a with
      | some o => He.refsD o ++ r
      | none => r) m
def frK {α : Type} : PySem.W.Frag → (PySem.W.Frag → α) → α
  | [], k => k []
  | (a, o) :: r, k => frK r fun r => HandSHeadRun.frNat a fun a => k ((a, o) :: r)
theorem frK_eq {α : Type} : ∀ (K : PySem.W.Frag) (k : PySem.W.Frag → α), frK K k = k K
  | [], k => rfl
  | (a, o) :: r, k => by
    show frK r (fun r => HandSHeadRun.frNat a fun a => k ((a, o) :: r)) = _
    rw [frK_eq r, HandSHeadRun.frNat_eq]
def obsAG (fa : List FB) (fn : List DefA) (g : Addr → Option Obj) : AlA := frK (He.frG g (walkG g 5000 [mainGlobals] 0)) (obsA fa fn)
def hookA (fa : List FB) (fn : List DefA) : PySem.W.Hook where
  α := AlA
  obs := fun s => obsAG fa fn s.heap.get?
  val := fun _ => valA fn
  says := fun _ h => ∃ K : PySem.W.Frag, K.In h ∧ SaysA fa fn K
  of := fun _ _ e => ⟨_, He.frG_in, (frK_eq _ _).symm.trans e⟩
  keeps := fun _ _ _ ⟨K, hK, c⟩ k => ⟨K, PySem.W.Frag.In.keeps hK k, c⟩
theorem obsAG_eq {fa : List FB} {fn : List DefA} {g : Addr → Option Obj} {s : Shared} (h : ∀ a, g a = s.heap.get? a) : obsAG fa fn g = (hookA fa fn).obs s := by
  have e : g = s.heap.get? := funext h
  rw [e] <;> rfl
section
variable {fa : List FB} {fn : List DefA} {K : PySem.W.Frag}
theorem SaysA.fact (c : SaysA fa fn K) (i : Nat) {f : FB} (h : fa[i]? = some f := by rfl) : f K = true := by
  have c1 := (He.ba (show ((fa.all fun f => f K) && fn.all fun d => d.ok K) = true from congrArg (fun z : AlA => z.1) c)).1
  exact List.all_eq_true.mp c1 f (List.mem_of_getElem? h)
theorem SaysA.def_ (c : SaysA fa fn K) (i : Nat) {d : DefA} (h : fn[i]? = some d := by rfl) : ∃ fd, FunD K d.name d.qual d.params d.body d.scope [] (d.kws K) (d.ad K) fd := by
  have c2 := (He.ba (show ((fa.all fun f => f K) && fn.all fun d => d.ok K) = true from congrArg (fun z : AlA => z.1) c)).2
  have e : fn.map (fun d => fnA K d) = fn.map DefA.val := congrArg (fun z : AlA => z.2) c
  have e2 : (fn.map fun d => fnA K d)[i]? = (fn.map DefA.val)[i]? := by rw [e]
  rw [List.getElem?_map, List.getElem?_map, h] at e2
  exact DefA.funD (Option.some.inj e2) (List.all_eq_true.mp c2 d (List.mem_of_getElem? h))
end
theorem funOf {K : PySem.W.Frag} {x qual : Str} {st : Stmt} {f : Addr} {fd : FuncData} (F : FunD K x qual (defArgs st) (defBody st) (defScope st) [] [] f fd) : Fun K x qual st f fd := by
  obtain ⟨⟨oc, od, dV, kV, doc, pm, an, cdv, ct, osl, rfl, l, cc, dfl, _⟩, kp⟩ := F
  rcases dfl with ⟨_, rfl⟩ | ⟨ne, _⟩
  · exact fun_mk l cc kp
  · exact absurd rfl ne
/-- a law's end over such a head -/
theorem walk_lawA {l : PySem.W.OpenLaw} {q : Program} {loose : List Str} {XP : (Str → Option Value) → Heap → Prop} {fa : List FB} {fn : List DefA} {d : DefRec} {k : Nat} {x : Str} {G : List D → Wd → R D}
    (hn : l.most = some 63) (hdf : d.params.defaults = []) (hr : Room k callerA)
    (F : ∀ (w : World) (K : PySem.W.Frag) (mg : Str → Option Value) (f : Addr) (h : Heap), K.In h → SaysA fa fn K → h.Ns mainGlobals mg → mg d.name = some (.ref f) →
      ∃ fd : FuncData, (∀ (s : Shared) (u : Value), BindsTo s fd ⟨[u], []⟩ [(x, u)]) ∧ ∀ base : Heap, K.In base → base.Ns mainGlobals mg → SF l.prog w K (clsAt K) mg base k f fd [x] G)
    (h : ∀ ns : List Int, ns.length ≤ 63 → ∃ w, G [.scr ns] [] = .ok (.bl true) w) :
    PySem.W.WalkO q loose XP (hookA fa fn).says l.row.toRowW d [] (fun f vs => PySem.call f vs) := by
  refine Att.attach_call hn hdf fun w s₀ s₁ mg mb f o pm cd doc a vs ns G' Y ho hd hcd hmg hobj hints hlen hg => ?_
  obtain ⟨K, KX, c⟩ := Y
  obtain ⟨fd, hb, hF⟩ := F w K mg f _ KX c G'.T.g hmg
  exact law_call KX G'.T.g G'.T.b G'.T.builtins G'.T.nolimit hg hobj hints (Nat.le_trans hlen (by decide)) hr (fun base X2 G2 => FnOk.imp (hF base X2 G2) (law_sp h)) hb (fun H hO hS => ⟨a, ns, rfl, hlen, hO, hS, fun _ => rfl⟩) fun H e s' z => cx_false z
end Si

set_option Elab.async false
set_option linter.all false
set_option autoImplicit false
set_option maxRecDepth 100000
set_option maxHeartbeats 4000000
namespace Bk
open PySem L2 PyProof.Rows Si
def M_Book_passes : En → Wd → SR :=
  (mSeq (mFor (mIter (mVar 1)) (gTupD 2 (gConsD (gNm 4) (gConsD (gNm 5) gNilD))) (mSeq (mIfS (asB (mOp gEq (mVar 4) (mC (.str "age")))) (mAsg (mOp gGe (mVar 3) (mOp gAdd (mFld ["Book"] "own_width" (mVar 0)) (mVar 5))) (gNm 6)) (mIfS (asB (mOp gEq (mVar 4) (mC (.str "young")))) (mAsg (mOp gLt (mVar 3) (mOp gAdd (mFld ["Book"] "own_width" (mVar 0)) (mVar 5))) (gNm 6)) (mAsg (mOp gEq (mOp gIx (mVar 2) (mIndex (mFld ["Book"] "own_marks" (mVar 0)) (mVar 4))) (mVar 5)) (gNm 6))))
  (mIfS (bNot (mTru (mVar 6))) (mRet (mC (.bl false))) mNext)))
  (mRet (mC (.bl true))))
def F_Book_passes : List D → Wd → R D := fnD 7 4 M_Book_passes
abbrev G_Book_passes := F_Book_passes
def M_Book_settled : En → Wd → SR :=
  (mSeq (mAsg (mCall gLstOfM (aCons (mVar 1) aNil)) (gNm 3))
  (mSeq (mFor (mIter (mVar 2)) (gTupD 2 (gConsD (gNm 4) (gConsD (gNm 5) gNilD))) (mSetI (mVar 5) (mVar 3) (mIndex (mFld ["Book"] "own_marks" (mVar 0)) (mVar 4))))
  (mRet (mCall gTupOf (aCons (mVar 3) aNil)))))
def F_Book_settled : List D → Wd → R D := fnD 6 3 M_Book_settled
abbrev G_Book_settled := F_Book_settled
def M_Book_noted : En → Wd → SR :=
  (mSeq (mFor (mIter (mFld ["Book"] "own_notes" (mVar 0))) (gTupD 3 (gConsD (gNm 4) (gConsD (gNm 5) (gConsD (gNm 6) gNilD)))) (mIfS (bAnd (asB (mOp gEq (mVar 4) (mVar 1))) (mTru (mMeth "Book" "passes" G_Book_passes (mVar 0) (aCons (mVar 5) (aCons (mVar 2) (aCons (mVar 3) aNil)))))) (mRet (mMeth "Book" "settled" G_Book_settled (mVar 0) (aCons (mVar 2) (aCons (mVar 6) aNil)))) mNext))
  (mRet (mVar 2)))
def F_Book_noted : List D → Wd → R D := fnD 7 4 M_Book_noted
abbrev G_Book_noted := F_Book_noted
def M_Book_entry : En → Wd → SR :=
  (mSeq (mFor (mIter (mFld ["Book"] "own_entries" (mVar 0))) (gNm 5) (mIfS (bAnd (asB (mOp gEq (mOp gIx (mVar 5) (mC (.int 0))) (mVar 1))) (bAnd (asB (mOp gIn (mOp gIx (mVar 5) (mC (.int 2))) (mTup (aCons (mC (.str "any")) (aCons (mVar 4) aNil))))) (mTru (mMeth "Book" "passes" G_Book_passes (mVar 0) (aCons (mOp gIx (mVar 5) (mC (.int 1))) (aCons (mVar 2) (aCons (mVar 3) aNil))))))) (mRet (mVar 5)) mNext))
  (mRet (mC .non)))
def F_Book_entry : List D → Wd → R D := fnD 6 5 M_Book_entry
abbrev G_Book_entry := F_Book_entry
def M_Book_reading : En → Wd → SR :=
  (mSeq (mFor (mIter (mFld ["Book"] "own_readings" (mVar 0))) (gTupD 3 (gConsD (gNm 4) (gConsD (gNm 5) (gConsD (gNm 6) gNilD)))) (mIfS (bAnd (asB (mOp gEq (mVar 4) (mVar 1))) (mTru (mMeth "Book" "passes" G_Book_passes (mVar 0) (aCons (mVar 5) (aCons (mVar 2) (aCons (mVar 3) aNil)))))) (mRet (mVar 6)) mNext))
  (mRet (mC .non)))
def F_Book_reading : List D → Wd → R D := fnD 7 4 M_Book_reading
abbrev G_Book_reading := F_Book_reading
abbrev F__law_bag := bagF
abbrev G__law_bag := bagF
abbrev F__law_draw := drawF
abbrev G__law_draw := drawF
abbrev F__law_same (G : List D → Wd → R D) : List D → Wd → R D := fnD 4 2 (M_same G)
abbrev G__law_same := sameF 6
theorem rec__law_same {P : Program} {w : World} {K : PySem.W.Frag} {mg : Str → Option Value} {base : Heap} {cl : Str → Option Addr} {f : Addr} {fd : FuncData} {ps : List Str} (h : ∀ (k : Nat) (G : List D → Wd → R D), SF P w K cl mg base k f fd ps G → SF P w K cl mg base (k + 1) f fd ps (fnD 4 2 (M_same G))) : SF P w K cl mg base 6 f fd ps (sameF 6) := sf_same h 6
abbrev F__law_of := ofF
abbrev G__law_of := ofF
def fuel__law_mixed : En → Wd → Nat := fun σ w => match σ[2]? with
  | some (some u) => (match derefL u w with | some ds => ds.length + 1 | none => 0)
  | _ => 0
def M__law_mixed : En → Wd → SR :=
  (mSeq (mPar 2 3 (aCons (mCall gLstOfM (aCons (mVar 1) aNil)) (aCons (mLstM aNil) aNil)))
  (mSeq (mWhile fuel__law_mixed (asB (mOp gNe (mVar 2) (mLst aNil))) (mExpr (mApp (mVar 3) (mPopAt (mVar 2) (mCall G__law_draw (aCons (mVar 0) (aCons (mCall gLen (aCons (mVar 2) aNil)) aNil)))))))
  (mRetF (mVar 3))))
def F__law_mixed : List D → Wd → R D := fnD 4 2 M__law_mixed
abbrev G__law_mixed := F__law_mixed
def M__law_ages : En → Wd → SR :=
  (mRet (mCall G__law_of (aCons (mVar 0) (aCons (mLst (aCons (mTup aNil) (aCons (mTup aNil) (aCons (mTup aNil) (aCons (mTup (aCons (mTup (aCons (mC (.str "age")) (aCons (mCall G__law_draw (aCons (mVar 0) (aCons (mC (.int 2)) aNil))) aNil))) aNil)) (aCons (mTup (aCons (mTup (aCons (mC (.str "young")) (aCons (mCall G__law_draw (aCons (mVar 0) (aCons (mC (.int 2)) aNil))) aNil))) aNil)) aNil)))))) aNil))))
def F__law_ages : List D → Wd → R D := fnD 1 1 M__law_ages
abbrev G__law_ages := F__law_ages
def M__law_chosen : En → Wd → SR :=
  (mSeq (mAsg (mLc (mIter (mVar 1)) [4] (gNm 4) bYes (mCall G__law_draw (aCons (mVar 0) (aCons (mVar 2) aNil)))) (gNm 3))
  (mRet (mLc (mZip (aCons (mVar 1) (aCons (mVar 3) aNil))) [4, 5] (gTupD 2 (gConsD (gNm 4) (gConsD (gNm 5) gNilD))) (asB (mOp gEq (mVar 5) (mC (.int 0)))) (mVar 4))))
def F__law_chosen : List D → Wd → R D := fnD 6 3 M__law_chosen
abbrev G__law_chosen := F__law_chosen
def M__law_drawn_tests : En → Wd → SR :=
  (mSeq (mAsg (mCall G__law_chosen (aCons (mVar 0) (aCons (mLc (mIter (mOp gDGet (mVar 1) (mC (.str "marks")))) [3] (gNm 3) bYes (mTup (aCons (mVar 3) (aCons (mCall G__law_draw (aCons (mVar 0) (aCons (mC (.int 2)) aNil))) aNil)))) (aCons (mC (.int 3)) aNil)))) (gNm 2))
  (mRet (mCall gTupOf (aCons (mCall G__law_mixed (aCons (mVar 0) (aCons (mOp gAdd (mVar 2) (mCall gLstOf (aCons (mCall G__law_ages (aCons (mVar 0) aNil)) aNil))) aNil))) aNil))))
def F__law_drawn_tests : List D → Wd → R D := fnD 4 2 M__law_drawn_tests
abbrev G__law_drawn_tests := F__law_drawn_tests
def M__law_settings : En → Wd → SR :=
  (mRet (mCall gTupOf (aCons (mCall G__law_chosen (aCons (mVar 0) (aCons (mLc (mIter (mOp gDGet (mVar 1) (mC (.str "marks")))) [2] (gNm 2) bYes (mTup (aCons (mVar 2) (aCons (mCall G__law_draw (aCons (mVar 0) (aCons (mC (.int 2)) aNil))) aNil)))) (aCons (mC (.int 2)) aNil)))) aNil)))
def F__law_settings : List D → Wd → R D := fnD 3 2 M__law_settings
abbrev G__law_settings := F__law_settings
def M__law_pairs : En → Wd → SR :=
  (mSeq (mAsg (mLstM aNil) (gNm 1))
  (mSeq (mFor (mIter (mOp gDGet (mVar 0) (mC (.str "stores")))) (gTupD 2 (gConsD (gNm 2) (gConsD (gNm 3) gNilD))) (mFor (mIter (mOp gDGet (mVar 0) (mC (.str "stores")))) (gTupD 2 (gConsD (gNm 4) (gConsD (gNm 5) gNilD))) (mIfS (bAnd (asB (mOp gNe (mVar 2) (mVar 4))) (bOr (asB (mOp gEq (mVar 3) (mC (.str "coarse")))) (asB (mOp gEq (mVar 5) (mC (.str "fine")))))) (mExpr (mApp (mVar 1) (mTup (aCons (mVar 2) (aCons (mVar 4) aNil))))) mNext)))
  (mRetF (mVar 1))))
def F__law_pairs : List D → Wd → R D := fnD 6 1 M__law_pairs
abbrev G__law_pairs := F__law_pairs
def M__law_drawn_step : En → Wd → SR :=
  (mSeq (mPar 2 3 (aCons (mCall G__law_pairs (aCons (mVar 1) aNil)) (aCons (mCall G__law_draw (aCons (mVar 0) (aCons (mC (.int 6)) aNil))) aNil)))
  (mSeq (mIfS (bAnd (asB (mOp gLt (mVar 3) (mC (.int 3)))) (asB (mOp gNe (mVar 2) (mLst aNil)))) (mSeq (mAsg (mCall G__law_of (aCons (mVar 0) (aCons (mVar 2) aNil))) (gTupD 2 (gConsD (gNm 4) (gConsD (gNm 5) gNilD))))
  (mRet (mTup (aCons (mOp gIx (mLst (aCons (mC (.str "copy")) (aCons (mC (.str "copy")) (aCons (mC (.str "add")) aNil)))) (mVar 3)) (aCons (mVar 4) (aCons (mVar 5) aNil)))))) mNext)
  (mSeq (mIfS (bAnd (asB (mOp gIn (mVar 3) (mTup (aCons (mC (.int 3)) (aCons (mC (.int 4)) aNil))))) (asB (mOp gNe (mOp gDGet (mVar 1) (mC (.str "marks"))) (mLst aNil)))) (mRet (mTup (aCons (mC (.str "set")) (aCons (mCall G__law_of (aCons (mVar 0) (aCons (mOp gDGet (mVar 1) (mC (.str "marks"))) aNil))) (aCons (mCall G__law_draw (aCons (mVar 0) (aCons (mC (.int 2)) aNil))) aNil))))) mNext)
  (mRet (mIf (asB (mOp gEq (mVar 3) (mC (.int 5)))) (mTup (aCons (mC (.str "forget")) aNil)) (mTup (aCons (mC (.str "drop")) (aCons (mOp gIx (mCall G__law_of (aCons (mVar 0) (aCons (mOp gDGet (mVar 1) (mC (.str "stores"))) aNil))) (mC (.int 0))) aNil))))))))
def F__law_drawn_step : List D → Wd → R D := fnD 6 2 M__law_drawn_step
abbrev G__law_drawn_step := F__law_drawn_step
def M__law_drawn_job : En → Wd → SR :=
  (mSeq (mAsg (mCall gTupOf (aCons (mLc (mRng (aCons (mOp gAdd (mC (.int 1)) (mCall G__law_draw (aCons (mVar 0) (aCons (mVar 3) aNil)))) aNil)) [5] (gNm 5) bYes (mCall G__law_drawn_step (aCons (mVar 0) (aCons (mVar 1) aNil)))) aNil)) (gNm 4))
  (mRet (mTup (aCons (mVar 2) (aCons (mCall G__law_drawn_tests (aCons (mVar 0) (aCons (mVar 1) aNil))) (aCons (mCall G__law_of (aCons (mVar 0) (aCons (mLst (aCons (mC .non) (aCons (mC (.int 0)) (aCons (mC (.int 1)) (aCons (mC (.int 0)) aNil))))) aNil))) (aCons (mVar 4) aNil)))))))
def F__law_drawn_job : List D → Wd → R D := fnD 6 4 M__law_drawn_job
abbrev G__law_drawn_job := F__law_drawn_job
def M__law_moves : En → Wd → SR :=
  (mSeq (mAsg (mCall G__law_mixed (aCons (mVar 0) (aCons (mLc (mIter (mOp gDGet (mVar 1) (mC (.str "stores")))) [7, 8] (gTupD 2 (gConsD (gNm 7) (gConsD (gNm 8) gNilD))) bYes (mVar 7)) aNil))) (gNm 3))
  (mSeq (mAsg (mSl (mVar 3) oNone (oSome (mOp gAdd (mC (.int 1)) (mCall G__law_draw (aCons (mVar 0) (aCons (mC (.int 2)) aNil)))))) (gNm 4))
  (mSeq (mIfS (asB (mOp gEq (mOp gDGet (mVar 1) (mC (.str "fold"))) (mC (.str "most")))) (mRet (mCall gTupOf (aCons (mLc (mIter (mVar 4)) [7] (gNm 7) bYes (mTup (aCons (mVar 7) (aCons (mC (.int 1)) aNil)))) aNil))) mNext)
  (mSeq (mAsg (mIf (asB (mOp gEq (mVar 2) (mC (.str "put")))) (mC (.int 1)) (mNeg (mC (.int 1)))) (gNm 5))
  (mSeq (mAsg (mLc (mIter (mVar 4)) [7] (gNm 7) bYes (mIf (asB (mOp gGt (mCall G__law_draw (aCons (mVar 0) (aCons (mC (.int 6)) aNil))) (mC (.int 0)))) (mVar 5) (mOp gSub (mC (.int 0)) (mVar 5)))) (gNm 6))
  (mRet (mCall gTupOf (aCons (mLc (mZip (aCons (mVar 4) (aCons (mVar 6) aNil))) [7, 9] (gTupD 2 (gConsD (gNm 7) (gConsD (gNm 9) gNilD))) bYes (mTup (aCons (mVar 7) (aCons (mVar 9) aNil)))) aNil))))))))
def F__law_moves : List D → Wd → R D := fnD 10 3 M__law_moves
abbrev G__law_moves := F__law_moves
def M__law_drawn_entry : En → Wd → SR :=
  (mSeq (mAsg (mCall G__law_of (aCons (mVar 0) (aCons (mIf (asB (mOp gEq (mVar 2) (mC (.str "put")))) (mLst (aCons (mC (.str "no")) (aCons (mC (.str "no")) (aCons (mC (.str "any")) (aCons (mC (.str "put")) aNil))))) (mLst (aCons (mC (.str "put")) (aCons (mC (.str "put")) (aCons (mC (.str "any")) (aCons (mC (.str "take")) aNil)))))) aNil))) (gNm 3))
  (mRet (mTup (aCons (mVar 2) (aCons (mCall G__law_drawn_tests (aCons (mVar 0) (aCons (mVar 1) aNil))) (aCons (mVar 3) (aCons (mCall G__law_moves (aCons (mVar 0) (aCons (mVar 1) (aCons (mVar 2) aNil)))) (aCons (mOp gGt (mCall G__law_draw (aCons (mVar 0) (aCons (mC (.int 4)) aNil))) (mC (.int 0))) aNil))))))))
def F__law_drawn_entry : List D → Wd → R D := fnD 4 3 M__law_drawn_entry
abbrev G__law_drawn_entry := F__law_drawn_entry
def M__law_drawn_reading : En → Wd → SR :=
  (mSeq (mAsg (mLc (mIter (mOp gDGet (mVar 1) (mC (.str "stores")))) [5, 6] (gTupD 2 (gConsD (gNm 5) (gConsD (gNm 6) gNilD))) (bOr (asB (mOp gEq (mVar 2) (mC (.str "whole")))) (asB (mOp gEq (mVar 6) (mC (.str "fine"))))) (mVar 5)) (gNm 3))
  (mSeq (mAsg (mCall G__law_of (aCons (mVar 0) (aCons (mLst (aCons (mCall gTupOf (aCons (mSl (mCall G__law_mixed (aCons (mVar 0) (aCons (mVar 3) aNil))) oNone (oSome (mC (.int 1)))) aNil)) (aCons (mCall gTupOf (aCons (mSl (mCall G__law_mixed (aCons (mVar 0) (aCons (mVar 3) aNil))) oNone (oSome (mC (.int 2)))) aNil)) (aCons (mC .non) (aCons (mTup aNil) aNil))))) aNil))) (gNm 4))
  (mRet (mTup (aCons (mVar 2) (aCons (mCall G__law_drawn_tests (aCons (mVar 0) (aCons (mVar 1) aNil))) (aCons (mVar 4) aNil)))))))
def F__law_drawn_reading : List D → Wd → R D := fnD 7 3 M__law_drawn_reading
abbrev G__law_drawn_reading := F__law_drawn_reading
def M__law_names : En → Wd → SR :=
  (mSeq (mAsg (mC (.str "bcdfghjklmpqrstvwxz")) (gNm 2))
  (mSeq (mAsg (mJoin (mC (.str "")) (mLc (mRng (aCons (mCall G__law_draw (aCons (mVar 0) (aCons (mC (.int 6)) aNil))) aNil)) [6] (gNm 6) bYes (mCall G__law_of (aCons (mVar 0) (aCons (mVar 2) aNil))))) (gNm 3))
  (mSeq (mAsg (mTup (aCons (mCall G__law_draw (aCons (mVar 0) (aCons (mOp gAdd (mCall gLen (aCons (mVar 3) aNil)) (mC (.int 1))) aNil))) (aCons (mCall G__law_draw (aCons (mVar 0) (aCons (mC (.int 19)) aNil))) aNil))) (gTupD 2 (gConsD (gNm 4) (gConsD (gNm 5) gNilD))))
  (mRet (mLc (mRng (aCons (mVar 1) aNil)) [6] (gNm 6) bYes (mOp gAdd (mOp gAdd (mSl (mVar 3) oNone (oSome (mVar 4))) (mOp gIx (mVar 2) (mOp gMod (mCall gInt (aCons (mOp gAdd (mVar 5) (mOp gMul (mC (.int 5)) (mVar 6))) aNil)) (mC (.int 19))))) (mSl (mVar 3) (oSome (mVar 4)) oNone)))))))
def F__law_names : List D → Wd → R D := fnD 7 2 M__law_names
abbrev G__law_names := F__law_names
def M__law_bare_spec : En → Wd → SR :=
  (mSeq (mAsg (mCall G__law_names (aCons (mVar 0) (aCons (mC (.int 12)) aNil))) (gNm 4))
  (mSeq (mPar 5 6 (aCons (mOp gAdd (mC (.int 1)) (mCall G__law_draw (aCons (mVar 0) (aCons (mVar 2) aNil)))) (aCons (mSl (mVar 4) (oSome (mC (.int 5))) (oSome (mOp gAdd (mC (.int 5)) (mCall G__law_draw (aCons (mVar 0) (aCons (mOp gAdd (mVar 3) (mC (.int 1))) aNil)))))) aNil)))
  (mSeq (mAsg (mOp gAdd (mLst (aCons (mC (.str "fine")) aNil)) (mLc (mRng (aCons (mOp gSub (mVar 5) (mC (.int 1))) aNil)) [9] (gNm 9) bYes (mCall G__law_of (aCons (mVar 0) (aCons (mLst (aCons (mC (.str "coarse")) (aCons (mC (.str "coarse")) (aCons (mC (.str "fine")) aNil)))) aNil))))) (gNm 7))
  (mSeq (mAsg (mCall G__law_mixed (aCons (mVar 0) (aCons (mLc (mZip (aCons (mSl (mVar 4) oNone (oSome (mVar 5))) (aCons (mVar 7) aNil))) [10, 11] (gTupD 2 (gConsD (gNm 10) (gConsD (gNm 11) gNilD))) bYes (mTup (aCons (mVar 10) (aCons (mVar 11) aNil)))) aNil))) (gNm 8))
  (mRet (mDct [.inr "width", .inr "stores", .inr "late", .inr "back", .inr "fold", .inr "marks", .inr "notes", .inr "entries", .inr "jobs", .inr "readings", .inr "titles"] (aCons (mOp gAdd (mC (.int 1)) (mCall G__law_draw (aCons (mVar 0) (aCons (mVar 1) aNil)))) (aCons (mVar 8) (aCons (mCall G__law_draw (aCons (mVar 0) (aCons (mC (.int 2)) aNil))) (aCons (mCall G__law_draw (aCons (mVar 0) (aCons (mC (.int 2)) aNil))) (aCons (mCall G__law_of (aCons (mVar 0) (aCons (mLst (aCons (mC (.str "sum")) (aCons (mC (.str "sum")) (aCons (mC (.str "most")) aNil)))) aNil))) (aCons (mVar 6) (aCons (mLst aNil) (aCons (mLst aNil) (aCons (mLst aNil) (aCons (mLst aNil) (aCons (mSl (mVar 4) (oSome (mC (.int 8))) oNone) aNil)))))))))))))))))
def F__law_bare_spec : List D → Wd → R D := fnD 12 4 M__law_bare_spec
abbrev G__law_bare_spec := F__law_bare_spec
def M__law_any_spec : En → Wd → SR :=
  (mSeq (mAsg (mCall G__law_bare_spec (aCons (mVar 0) (aCons (mOp gIx (mVar 1) (mC (.int 0))) (aCons (mOp gIx (mVar 1) (mC (.int 1))) (aCons (mOp gIx (mVar 1) (mC (.int 2))) aNil))))) (gNm 3))
  (mSeq (mDPut (mLc (mRng (aCons (mCall G__law_draw (aCons (mVar 0) (aCons (mC (.int 3)) aNil))) aNil)) [5] (gNm 5) bYes (mTup (aCons (mCall G__law_of (aCons (mVar 0) (aCons (mLst (aCons (mC (.str "put")) (aCons (mC (.str "take")) aNil))) aNil))) (aCons (mCall G__law_drawn_tests (aCons (mVar 0) (aCons (mVar 3) aNil))) (aCons (mCall G__law_settings (aCons (mVar 0) (aCons (mVar 3) aNil))) aNil))))) (mVar 3) (mC (.str "notes")))
  (mSeq (mAsg (mOp gAdd (mLst (aCons (mC (.str "put")) (aCons (mC (.str "take")) aNil))) (mLc (mRng (aCons (mCall G__law_draw (aCons (mVar 0) (aCons (mC (.int 2)) aNil))) aNil)) [5] (gNm 5) bYes (mCall G__law_of (aCons (mVar 0) (aCons (mLst (aCons (mC (.str "put")) (aCons (mC (.str "take")) aNil))) aNil))))) (gNm 4))
  (mSeq (mDPut (mLc (mIter (mCall G__law_mixed (aCons (mVar 0) (aCons (mVar 4) aNil)))) [6] (gNm 6) bYes (mCall G__law_drawn_entry (aCons (mVar 0) (aCons (mVar 3) (aCons (mVar 6) aNil))))) (mVar 3) (mC (.str "entries")))
  (mSeq (mDPut (mLc (mRng (aCons (mCall G__law_draw (aCons (mVar 0) (aCons (mOp gAdd (mOp gIx (mVar 1) (mC (.int 3))) (mC (.int 1))) aNil))) aNil)) [5] (gNm 5) bYes (mCall G__law_drawn_job (aCons (mVar 0) (aCons (mVar 3) (aCons (mOp gIx (mOp gDGet (mVar 3) (mC (.str "titles"))) (mVar 5)) (aCons (mVar 2) aNil)))))) (mVar 3) (mC (.str "jobs")))
  (mSeq (mAsg (mSl (mLst (aCons (mC (.str "whole")) (aCons (mC (.str "cut")) (aCons (mC (.str "whole")) aNil)))) (oSome (mCall G__law_draw (aCons (mVar 0) (aCons (mC (.int 2)) aNil)))) oNone) (gNm 4))
  (mSeq (mDPut (mLc (mIter (mCall G__law_mixed (aCons (mVar 0) (aCons (mVar 4) aNil)))) [6] (gNm 6) bYes (mCall G__law_drawn_reading (aCons (mVar 0) (aCons (mVar 3) (aCons (mVar 6) aNil))))) (mVar 3) (mC (.str "readings")))
  (mRet (mVar 3)))))))))
def F__law_any_spec : List D → Wd → R D := fnD 7 3 M__law_any_spec
abbrev G__law_any_spec := F__law_any_spec
def M_is_number : En → Wd → SR :=
  (mRet (mAnd (mIsi "int" (mVar 0)) (mAnd (mNot (mIsi "bool" (mVar 0))) (mChain gLe gLe (mVar 1) (mVar 0) (mVar 2)))))
def F_is_number : List D → Wd → R D := fnD 3 3 M_is_number
abbrev G_is_number := F_is_number
def M_is_list : En → Wd → SR :=
  (mRet (mIsi2 "list" "tuple" (mVar 0)))
def F_is_list : List D → Wd → R D := fnD 1 1 M_is_list
abbrev G_is_list := F_is_list
abbrev c_LETTERS : D := (.str "abcdefghijklmnopqrstuvwxyz")
def M_is_word : En → Wd → SR :=
  (mRet (mAnd (mIsi "str" (mVar 0)) (mAnd (mChain gLe gLe (mC (.int 1)) (mCall gLen (aCons (mVar 0) aNil)) (mC (.int 6))) (mCall gAll (aCons (mLc (mIter (mVar 0)) [1] (gNm 1) bYes (mOp gIn (mVar 1) (mC c_LETTERS))) aNil)))))
def F_is_word : List D → Wd → R D := fnD 2 1 M_is_word
abbrev G_is_word := F_is_word
abbrev c_RESERVED : D := (.tup [(.str "age"), (.str "young"), (.str "none"), (.str "learn"), (.str "any")])
def M_is_name : En → Wd → SR :=
  (mRet (mAnd (mCall G_is_word (aCons (mVar 0) aNil)) (mOp gNotIn (mVar 0) (mC c_RESERVED))))
def F_is_name : List D → Wd → R D := fnD 1 1 M_is_name
abbrev G_is_name := F_is_name
def M_is_pair : En → Wd → SR :=
  (mRet (mAnd (mIsi "tuple" (mVar 0)) (mAnd (mOp gEq (mCall gLen (aCons (mVar 0) aNil)) (mC (.int 2))) (mIsi "str" (mOp gIx (mVar 0) (mC (.int 0)))))))
def F_is_pair : List D → Wd → R D := fnD 1 1 M_is_pair
abbrev G_is_pair := F_is_pair
def M_is_store : En → Wd → SR :=
  (mRet (mAnd (mCall G_is_pair (aCons (mVar 0) aNil)) (mAnd (mCall G_is_name (aCons (mOp gIx (mVar 0) (mC (.int 0))) aNil)) (mAnd (mIsi "str" (mOp gIx (mVar 0) (mC (.int 1)))) (mOp gIn (mOp gIx (mVar 0) (mC (.int 1))) (mTup (aCons (mC (.str "fine")) (aCons (mC (.str "coarse")) aNil))))))))
def F_is_store : List D → Wd → R D := fnD 1 1 M_is_store
abbrev G_is_store := F_is_store
abbrev c_MOST_STORES : D := (.int 5)
def M_check_stores : En → Wd → SR :=
  (mSeq (mIfS (bOr (bNot (mTru (mCall G_is_list (aCons (mVar 0) aNil)))) (asB (mOp gEq (mCall gLen (aCons (mVar 0) aNil)) (mC (.int 0))))) (fun _ _ => .stuck) mNext)
  (mSeq (mAsg (mLstM aNil) (gNm 1))
  (mFor (mEnum (aCons (mVar 0) aNil)) (gTupD 2 (gConsD (gNm 2) (gConsD (gNm 3) gNilD))) (mSeq (mIfS (bOr (asB (mOp gGe (mVar 2) (mC c_MOST_STORES))) (bOr (bNot (mTru (mCall G_is_store (aCons (mVar 3) aNil)))) (asB (mOp gIn (mOp gIx (mVar 3) (mC (.int 0))) (mVar 1))))) (fun _ _ => .stuck) mNext)
  (mExpr (mApp (mVar 1) (mOp gIx (mVar 3) (mC (.int 0)))))))))
def F_check_stores : List D → Wd → R D := fnD 4 1 M_check_stores
abbrev G_check_stores := F_check_stores
abbrev c_MOST_MARKS : D := (.int 3)
def M_check_marks : En → Wd → SR :=
  (mSeq (mIfS (bNot (mTru (mCall G_is_list (aCons (mVar 0) aNil)))) (fun _ _ => .stuck) mNext)
  (mFor (mEnum (aCons (mVar 0) aNil)) (gTupD 2 (gConsD (gNm 2) (gConsD (gNm 3) gNilD))) (mIfS (bOr (asB (mOp gGe (mVar 2) (mC c_MOST_MARKS))) (bOr (bNot (mTru (mCall G_is_name (aCons (mVar 3) aNil)))) (bOr (asB (mOp gIn (mVar 3) (mVar 1))) (asB (mOp gIn (mVar 3) (mSl (mVar 0) oNone (oSome (mVar 2)))))))) (fun _ _ => .stuck) mNext)))
def F_check_marks : List D → Wd → R D := fnD 4 2 M_check_marks
abbrev G_check_marks := F_check_marks
def M_are_pairs : En → Wd → SR :=
  (mSeq (mIfS (bOr (bNot (mTru (mIsi "tuple" (mVar 0)))) (bNot (mTru (mCall gAll (aCons (mLc (mIter (mVar 0)) [3] (gNm 3) bYes (mCall G_is_pair (aCons (mVar 3) aNil))) aNil))))) (mRet (mC (.bl false))) mNext)
  (mSeq (mAsg (mLc (mIter (mVar 0)) [3] (gNm 3) bYes (mOp gIx (mVar 3) (mC (.int 0)))) (gNm 2))
  (mRet (mAnd (mCall gAll (aCons (mLc (mIter (mVar 2)) [4] (gNm 4) bYes (mOp gIn (mVar 4) (mVar 1))) aNil)) (mOp gEq (mLenSet (mVar 2)) (mCall gLen (aCons (mVar 2) aNil)))))))
def F_are_pairs : List D → Wd → R D := fnD 5 2 M_are_pairs
abbrev G_are_pairs := F_are_pairs
abbrev c_MOST_WAIT : D := (.int 6)
def M_is_tests : En → Wd → SR :=
  (mSeq (mIfS (bNot (mTru (mCall G_are_pairs (aCons (mVar 0) (aCons (mLst (aStar (mVar 1) (aCons (mC (.str "age")) (aCons (mC (.str "young")) aNil)))) aNil))))) (mRet (mC (.bl false))) mNext)
  (mRet (mCall gAll (aCons (mLc (mIter (mVar 0)) [2, 3] (gTupD 2 (gConsD (gNm 2) (gConsD (gNm 3) gNilD))) bYes (mCall G_is_number (aCons (mVar 3) (aCons (mC (.int 0)) (aCons (mIf (asB (mOp gIn (mVar 2) (mTup (aCons (mC (.str "age")) (aCons (mC (.str "young")) aNil))))) (mC c_MOST_WAIT) (mC (.int 1))) aNil))))) aNil))))
def F_is_tests : List D → Wd → R D := fnD 4 2 M_is_tests
abbrev G_is_tests := F_is_tests
def M_is_settings : En → Wd → SR :=
  (mRet (mAnd (mCall G_are_pairs (aCons (mVar 0) (aCons (mVar 1) aNil))) (mCall gAll (aCons (mLc (mIter (mVar 0)) [2, 3] (gTupD 2 (gConsD (gNm 2) (gConsD (gNm 3) gNilD))) bYes (mCall G_is_number (aCons (mVar 3) (aCons (mC (.int 0)) (aCons (mC (.int 1)) aNil))))) aNil))))
def F_is_settings : List D → Wd → R D := fnD 4 2 M_is_settings
abbrev G_is_settings := F_is_settings
def M_is_message : En → Wd → SR :=
  (mRet (mAnd (mIsi "str" (mVar 0)) (mOp gIn (mVar 0) (mTup (aCons (mC (.str "put")) (aCons (mC (.str "take")) aNil))))))
def F_is_message : List D → Wd → R D := fnD 1 1 M_is_message
abbrev G_is_message := F_is_message
def M_is_note : En → Wd → SR :=
  (mSeq (mIfS (bOr (bNot (mTru (mIsi "tuple" (mVar 0)))) (bOr (asB (mOp gNe (mCall gLen (aCons (mVar 0) aNil)) (mC (.int 3)))) (bNot (mTru (mCall G_is_message (aCons (mOp gIx (mVar 0) (mC (.int 0))) aNil)))))) (mRet (mC (.bl false))) mNext)
  (mRet (mAnd (mCall G_is_tests (aCons (mOp gIx (mVar 0) (mC (.int 1))) (aCons (mVar 1) aNil))) (mCall G_is_settings (aCons (mOp gIx (mVar 0) (mC (.int 2))) (aCons (mVar 1) aNil))))))
def F_is_note : List D → Wd → R D := fnD 2 2 M_is_note
abbrev G_is_note := F_is_note
abbrev c_MOST_ITEMS : D := (.int 8)
def M_check_notes : En → Wd → SR :=
  (mSeq (mIfS (bNot (mTru (mCall G_is_list (aCons (mVar 0) aNil)))) (fun _ _ => .stuck) mNext)
  (mFor (mEnum (aCons (mVar 0) aNil)) (gTupD 2 (gConsD (gNm 2) (gConsD (gNm 3) gNilD))) (mIfS (bOr (asB (mOp gGe (mVar 2) (mC c_MOST_ITEMS))) (bNot (mTru (mCall G_is_note (aCons (mVar 3) (aCons (mVar 1) aNil)))))) (fun _ _ => .stuck) mNext)))
def F_check_notes : List D → Wd → R D := fnD 4 2 M_check_notes
abbrev G_check_notes := F_check_notes
def M_is_entry : En → Wd → SR :=
  (mSeq (mIfS (bOr (bNot (mTru (mIsi "tuple" (mVar 0)))) (bOr (asB (mOp gNe (mCall gLen (aCons (mVar 0) aNil)) (mC (.int 5)))) (bNot (mTru (mCall G_is_message (aCons (mOp gIx (mVar 0) (mC (.int 0))) aNil)))))) (mRet (mC (.bl false))) mNext)
  (mSeq (mAsg (mVar 0) (gTupD 5 (gConsD (gNm 4) (gConsD (gNm 5) (gConsD (gNm 6) (gConsD (gNm 7) (gConsD (gNm 8) gNilD)))))))
  (mSeq (mIfS (bOr (bNot (mTru (mCall G_is_tests (aCons (mVar 5) (aCons (mVar 2) aNil))))) (bOr (bNot (mTru (mIsi "str" (mVar 6)))) (asB (mOp gNotIn (mVar 6) (mTup (aCons (mC (.str "any")) (aCons (mC (.str "no")) (aCons (mC (.str "put")) (aCons (mC (.str "take")) aNil))))))))) (mRet (mC (.bl false))) mNext)
  (mSeq (mIfS (bOr (bNot (mTru (mCall G_are_pairs (aCons (mVar 7) (aCons (mCall gDKeys (aCons (mVar 1) aNil)) aNil))))) (bNot (mTru (mIsi "bool" (mVar 8))))) (mRet (mC (.bl false))) mNext)
  (mSeq (mAsg (mIf (asB (mOp gEq (mVar 3) (mC (.str "most")))) (mC (.int 1)) (mNeg (mC (.int 1)))) (gNm 9))
  (mRet (mCall gAll (aCons (mLc (mIter (mVar 7)) [10, 11] (gTupD 2 (gConsD (gNm 10) (gConsD (gNm 11) gNilD))) bYes (mAnd (mCall G_is_number (aCons (mVar 11) (aCons (mVar 9) (aCons (mC (.int 1)) aNil)))) (mOp gNe (mVar 11) (mC (.int 0))))) aNil))))))))
def F_is_entry : List D → Wd → R D := fnD 12 4 M_is_entry
abbrev G_is_entry := F_is_entry
def M_check_entries : En → Wd → SR :=
  (mSeq (mIfS (bNot (mTru (mCall G_is_list (aCons (mVar 0) aNil)))) (fun _ _ => .stuck) mNext)
  (mFor (mEnum (aCons (mVar 0) aNil)) (gTupD 2 (gConsD (gNm 4) (gConsD (gNm 5) gNilD))) (mIfS (bOr (asB (mOp gGe (mVar 4) (mC c_MOST_ITEMS))) (bNot (mTru (mCall G_is_entry (aCons (mVar 5) (aCons (mVar 1) (aCons (mVar 2) (aCons (mVar 3) aNil)))))))) (fun _ _ => .stuck) mNext)))
def F_check_entries : List D → Wd → R D := fnD 6 4 M_check_entries
abbrev G_check_entries := F_check_entries
def M_is_step : En → Wd → SR :=
  (mSeq (mIfS (bOr (bNot (mTru (mIsi "tuple" (mVar 0)))) (bOr (asB (mOp gEq (mCall gLen (aCons (mVar 0) aNil)) (mC (.int 0)))) (bNot (mTru (mCall gAll (aCons (mLc (mIter (mVar 0)) [5] (gNm 5) bYes (mIsi2 "str" "int" (mVar 5))) aNil)))))) (mRet (mC (.bl false))) mNext)
  (mSeq (mPar 3 4 (aCons (mOp gIx (mVar 0) (mC (.int 0))) (aCons (mSl (mVar 0) (oSome (mC (.int 1))) oNone) aNil)))
  (mSeq (mIfS (asB (mOp gEq (mVar 3) (mC (.str "forget")))) (mRet (mOp gEq (mVar 4) (mTup aNil))) mNext)
  (mSeq (mIfS (asB (mOp gEq (mVar 3) (mC (.str "drop")))) (mRet (mAnd (mOp gEq (mCall gLen (aCons (mVar 4) aNil)) (mC (.int 1))) (mOp (gDIn false) (mOp gIx (mVar 4) (mC (.int 0))) (mVar 1)))) mNext)
  (mSeq (mIfS (asB (mOp gNe (mCall gLen (aCons (mVar 4) aNil)) (mC (.int 2)))) (mRet (mC (.bl false))) mNext)
  (mSeq (mIfS (asB (mOp gEq (mVar 3) (mC (.str "set")))) (mRet (mAnd (mOp gIn (mOp gIx (mVar 4) (mC (.int 0))) (mVar 2)) (mCall G_is_number (aCons (mOp gIx (mVar 4) (mC (.int 1))) (aCons (mC (.int 0)) (aCons (mC (.int 1)) aNil)))))) mNext)
  (mSeq (mIfS (bOr (asB (mOp gNotIn (mVar 3) (mTup (aCons (mC (.str "copy")) (aCons (mC (.str "add")) aNil))))) (bOr (asB (mOp (gDIn true) (mOp gIx (mVar 4) (mC (.int 0))) (mVar 1))) (bOr (asB (mOp (gDIn true) (mOp gIx (mVar 4) (mC (.int 1))) (mVar 1))) (asB (mOp gEq (mOp gIx (mVar 4) (mC (.int 0))) (mOp gIx (mVar 4) (mC (.int 1)))))))) (mRet (mC (.bl false))) mNext)
  (mRet (mOr (mOp gEq (mOp gDGet (mVar 1) (mOp gIx (mVar 4) (mC (.int 0)))) (mC (.str "coarse"))) (mOp gEq (mOp gDGet (mVar 1) (mOp gIx (mVar 4) (mC (.int 1)))) (mC (.str "fine"))))))))))))
def F_is_step : List D → Wd → R D := fnD 6 3 M_is_step
abbrev G_is_step := F_is_step
def M_is_job : En → Wd → SR :=
  (mSeq (mIfS (bOr (bNot (mTru (mIsi "tuple" (mVar 0)))) (bOr (asB (mOp gNe (mCall gLen (aCons (mVar 0) aNil)) (mC (.int 4)))) (bOr (bNot (mTru (mCall G_is_name (aCons (mOp gIx (mVar 0) (mC (.int 0))) aNil)))) (bNot (mTru (mCall G_is_tests (aCons (mOp gIx (mVar 0) (mC (.int 1))) (aCons (mVar 2) aNil)))))))) (mRet (mC (.bl false))) mNext)
  (mSeq (mIfS (bAnd (asB (mOp gNotN (mOp gIx (mVar 0) (mC (.int 2))) (mC .non))) (bNot (mTru (mCall G_is_number (aCons (mOp gIx (mVar 0) (mC (.int 2))) (aCons (mC (.int 0)) (aCons (mC c_MOST_WAIT) aNil))))))) (mRet (mC (.bl false))) mNext)
  (mSeq (mAsg (mOp gIx (mVar 0) (mC (.int 3))) (gNm 3))
  (mSeq (mIfS (bOr (bNot (mTru (mIsi "tuple" (mVar 3)))) (bNot (asB (mChain gLe gLe (mC (.int 1)) (mCall gLen (aCons (mVar 3) aNil)) (mC (.int 5)))))) (mRet (mC (.bl false))) mNext)
  (mRet (mCall gAll (aCons (mLc (mIter (mVar 3)) [4] (gNm 4) bYes (mCall G_is_step (aCons (mVar 4) (aCons (mVar 1) (aCons (mVar 2) aNil))))) aNil)))))))
def F_is_job : List D → Wd → R D := fnD 5 3 M_is_job
abbrev G_is_job := F_is_job
abbrev c_MOST_JOBS : D := (.int 4)
def M_check_jobs : En → Wd → SR :=
  (mSeq (mIfS (bNot (mTru (mCall G_is_list (aCons (mVar 0) aNil)))) (fun _ _ => .stuck) mNext)
  (mSeq (mAsg (mLstM aNil) (gNm 3))
  (mFor (mEnum (aCons (mVar 0) aNil)) (gTupD 2 (gConsD (gNm 4) (gConsD (gNm 5) gNilD))) (mSeq (mIfS (bOr (asB (mOp gGe (mVar 4) (mC c_MOST_JOBS))) (bOr (bNot (mTru (mCall G_is_job (aCons (mVar 5) (aCons (mVar 1) (aCons (mVar 2) aNil)))))) (asB (mOp gIn (mOp gIx (mVar 5) (mC (.int 0))) (mVar 3))))) (fun _ _ => .stuck) mNext)
  (mExpr (mApp (mVar 3) (mOp gIx (mVar 5) (mC (.int 0)))))))))
def F_check_jobs : List D → Wd → R D := fnD 6 3 M_check_jobs
abbrev G_check_jobs := F_check_jobs
def M_is_reading : En → Wd → SR :=
  (mSeq (mIfS (bOr (bNot (mTru (mIsi "tuple" (mVar 0)))) (bOr (asB (mOp gNe (mCall gLen (aCons (mVar 0) aNil)) (mC (.int 3)))) (bNot (mTru (mIsi "str" (mOp gIx (mVar 0) (mC (.int 0)))))))) (mRet (mC (.bl false))) mNext)
  (mSeq (mAsg (mVar 0) (gTupD 3 (gConsD (gNm 3) (gConsD (gNm 4) (gConsD (gNm 5) gNilD)))))
  (mSeq (mIfS (bOr (asB (mOp gNotIn (mVar 3) (mTup (aCons (mC (.str "whole")) (aCons (mC (.str "cut")) aNil))))) (bNot (mTru (mCall G_is_tests (aCons (mVar 4) (aCons (mVar 2) aNil)))))) (mRet (mC (.bl false))) mNext)
  (mSeq (mIfS (asB (mOp gIsN (mVar 5) (mC .non))) (mRet (mC (.bl true))) mNext)
  (mSeq (mIfS (bOr (bNot (mTru (mIsi "tuple" (mVar 5)))) (bNot (mTru (mCall gAll (aCons (mLc (mIter (mVar 5)) [7] (gNm 7) bYes (mAnd (mIsi "str" (mVar 7)) (mOp (gDIn false) (mVar 7) (mVar 1)))) aNil))))) (mRet (mC (.bl false))) mNext)
  (mSeq (mAsg (mOr (mOp gEq (mVar 3) (mC (.str "whole"))) (mCall gAll (aCons (mLc (mIter (mVar 5)) [7] (gNm 7) bYes (mOp gEq (mOp gDGet (mVar 1) (mVar 7)) (mC (.str "fine")))) aNil))) (gNm 6))
  (mRet (mAnd (mVar 6) (mOp gEq (mLenSet (mVar 5)) (mCall gLen (aCons (mVar 5) aNil)))))))))))
def F_is_reading : List D → Wd → R D := fnD 8 3 M_is_reading
abbrev G_is_reading := F_is_reading
def M_check_readings : En → Wd → SR :=
  (mSeq (mIfS (bNot (mTru (mCall G_is_list (aCons (mVar 0) aNil)))) (fun _ _ => .stuck) mNext)
  (mFor (mEnum (aCons (mVar 0) aNil)) (gTupD 2 (gConsD (gNm 3) (gConsD (gNm 4) gNilD))) (mIfS (bOr (asB (mOp gGe (mVar 3) (mC c_MOST_ITEMS))) (bNot (mTru (mCall G_is_reading (aCons (mVar 4) (aCons (mVar 1) (aCons (mVar 2) aNil))))))) (fun _ _ => .stuck) mNext)))
def F_check_readings : List D → Wd → R D := fnD 5 3 M_check_readings
abbrev G_check_readings := F_check_readings
def M_Book_numbers : En → Wd → SR :=
  (mSeq (mAsg (mLc (mIter (mLst (aStar (mFld ["Book"] "own_notes" (mVar 0)) (aStar (mFld ["Book"] "own_entries" (mVar 0)) (aStar (mFld ["Book"] "own_jobs" (mVar 0)) (aStar (mFld ["Book"] "own_readings" (mVar 0)) aNil)))))) [3] (gNm 3) bYes (mOp gIx (mVar 3) (mC (.int 1)))) (gNm 1))
  (mSeq (mAsg (mLc2 (mIter (mVar 1)) [4, 5, 6] [5, 6] (gNm 4) bYes (mIter (mVar 4)) (gTupD 2 (gConsD (gNm 5) (gConsD (gNm 6) gNilD))) (asB (mOp gIn (mVar 5) (mTup (aCons (mC (.str "age")) (aCons (mC (.str "young")) aNil))))) (mVar 6)) (gNm 2))
  (mRet (mLst (aCons (mC (.int 0)) (aStar (mVar 2) (aStar (mLc (mIter (mFld ["Book"] "own_jobs" (mVar 0))) [7] (gNm 7) (asB (mOp gNotN (mOp gIx (mVar 7) (mC (.int 2))) (mC .non))) (mOp gIx (mVar 7) (mC (.int 2)))) aNil)))))))
def F_Book_numbers : List D → Wd → R D := fnD 8 1 M_Book_numbers
abbrev G_Book_numbers := F_Book_numbers
abbrev c_MOST_WIDTH : D := (.int 6)
def M_Book___init__ : En → Wd → SR :=
  (mSeq (mIfS (bNot (mTru (mCall G_is_number (aCons (mVar 1) (aCons (mC (.int 1)) (aCons (mC c_MOST_WIDTH) aNil)))))) (fun _ _ => .stuck) mNext)
  (mSeq (mExpr (mCall G_check_stores (aCons (mVar 2) aNil)))
  (mSeq (mFor (mIter (mTup (aCons (mVar 3) (aCons (mVar 4) aNil)))) (gNm 11) (mIfS (bNot (mTru (mCall G_is_number (aCons (mVar 11) (aCons (mC (.int 0)) (aCons (mC c_MOST_WAIT) aNil)))))) (fun _ _ => .stuck) mNext))
  (mSeq (mIfS (bOr (bNot (mTru (mIsi "str" (mVar 5)))) (asB (mOp gNotIn (mVar 5) (mTup (aCons (mC (.str "sum")) (aCons (mC (.str "most")) aNil)))))) (fun _ _ => .stuck) mNext)
  (mSeq (mAsg (mDc (mIter (mVar 2)) [14, 15] (gTupD 2 (gConsD (gNm 14) (gConsD (gNm 15) gNilD))) bYes (mVar 14) (mVar 15)) (gNm 12))
  (mSeq (mExpr (mCall G_check_marks (aCons (mVar 6) (aCons (mCall gDKeys (aCons (mVar 12) aNil)) aNil))))
  (mSeq (mExpr (mCall G_check_notes (aCons (mVar 7) (aCons (mVar 6) aNil))))
  (mSeq (mExpr (mCall G_check_entries (aCons (mVar 8) (aCons (mVar 12) (aCons (mVar 6) (aCons (mVar 5) aNil))))))
  (mSeq (mExpr (mCall G_check_jobs (aCons (mVar 9) (aCons (mVar 12) (aCons (mVar 6) aNil)))))
  (mSeq (mExpr (mCall G_check_readings (aCons (mVar 10) (aCons (mVar 12) (aCons (mVar 6) aNil)))))
  (mSeq (mAsgF ["Book"] ["own_width", "own_late", "own_back", "own_fold"] 0 (mTup (aCons (mVar 1) (aCons (mVar 3) (aCons (mVar 4) (aCons (mVar 5) aNil))))))
  (mSeq (mAsgF ["Book"] ["own_stores", "own_marks", "own_notes"] 0 (mTup (aCons (mCall gLstOf (aCons (mVar 2) aNil)) (aCons (mCall gLstOf (aCons (mVar 6) aNil)) (aCons (mCall gLstOf (aCons (mVar 7) aNil)) aNil)))))
  (mSeq (mAsgF ["Book"] ["own_entries", "own_jobs", "own_readings"] 0 (mTup (aCons (mCall gLstOf (aCons (mVar 8) aNil)) (aCons (mCall gLstOf (aCons (mVar 9) aNil)) (aCons (mCall gLstOf (aCons (mVar 10) aNil)) aNil)))))
  (mSeq (mAsg (mMeth "Book" "numbers" G_Book_numbers (mVar 0) aNil) (gNm 13))
  (mSetF ["Book"] "own_top" (mVar 0) (mOp gAdd (mVar 1) (mCall gMaxN (aCons (mVar 3) (aCons (mVar 4) (aStar (mVar 13) aNil))))))))))))))))))))
def F_Book___init__ : List D → Wd → R D := fnD 16 11 M_Book___init__
abbrev G_Book___init__ := F_Book___init__
def M__law_book : En → Wd → SR :=
  (mRet (mMake "Book" G_Book___init__ [0, 1, 2, 3, 4, 5, 6, 7, 8, 9, 10] [] (aCons (mOp gDGet (mVar 0) (mC (.str "width"))) (aCons (mCall gLstOf (aCons (mOp gDGet (mVar 0) (mC (.str "stores"))) aNil)) aNil)) (aCons (mOp gDGet (mVar 0) (mC (.str "late"))) (aCons (mOp gDGet (mVar 0) (mC (.str "back"))) (aCons (mOp gDGet (mVar 0) (mC (.str "fold"))) (aCons (mCall gLstOf (aCons (mOp gDGet (mVar 0) (mC (.str "marks"))) aNil)) (aCons (mCall gLstOf (aCons (mOp gDGet (mVar 0) (mC (.str "notes"))) aNil)) (aCons (mCall gLstOf (aCons (mOp gDGet (mVar 0) (mC (.str "entries"))) aNil)) (aCons (mCall gLstOf (aCons (mOp gDGet (mVar 0) (mC (.str "jobs"))) aNil)) (aCons (mCall gLstOf (aCons (mOp gDGet (mVar 0) (mC (.str "readings"))) aNil)) aNil))))))))))
def F__law_book : List D → Wd → R D := fnD 1 1 M__law_book
abbrev G__law_book := F__law_book
def M__law_passes : En → Wd → SR :=
  (mSeq (mFor (mIter (mVar 1)) (gTupD 2 (gConsD (gNm 4) (gConsD (gNm 5) gNilD))) (mSeq (mIfS (asB (mOp gEq (mVar 4) (mC (.str "age")))) (mAsg (mOp gGe (mVar 3) (mOp gAdd (mOp gDGet (mVar 0) (mC (.str "width"))) (mVar 5))) (gNm 6)) (mIfS (asB (mOp gEq (mVar 4) (mC (.str "young")))) (mAsg (mOp gLt (mVar 3) (mOp gAdd (mOp gDGet (mVar 0) (mC (.str "width"))) (mVar 5))) (gNm 6)) (mAsg (mOp gEq (mOp gIx (mVar 2) (mIndex (mOp gDGet (mVar 0) (mC (.str "marks"))) (mVar 4))) (mVar 5)) (gNm 6))))
  (mIfS (bNot (mTru (mVar 6))) (mRet (mC (.bl false))) mNext)))
  (mRet (mC (.bl true))))
def F__law_passes : List D → Wd → R D := fnD 7 4 M__law_passes
abbrev G__law_passes := F__law_passes
def M__law_top : En → Wd → SR :=
  (mSeq (mAsg (mOp gAdd (mLst (aCons (mOp gDGet (mVar 0) (mC (.str "late"))) (aCons (mOp gDGet (mVar 0) (mC (.str "back"))) aNil))) (mLc (mIter (mOp gDGet (mVar 0) (mC (.str "jobs")))) [4] (gNm 4) (asB (mOp gNotN (mOp gIx (mVar 4) (mC (.int 2))) (mC .non))) (mOp gIx (mVar 4) (mC (.int 2))))) (gNm 1))
  (mSeq (mAsg (mOp gAdd (mOp gDGet (mVar 0) (mC (.str "notes"))) (mOp gDGet (mVar 0) (mC (.str "entries")))) (gNm 2))
  (mSeq (mFor (mIter (mOp gAdd (mOp gAdd (mVar 2) (mOp gDGet (mVar 0) (mC (.str "jobs")))) (mOp gDGet (mVar 0) (mC (.str "readings"))))) (gNm 3) (mAsg (mOp gAdd (mVar 1) (mLc (mIter (mOp gIx (mVar 3) (mC (.int 1)))) [5, 6] (gTupD 2 (gConsD (gNm 5) (gConsD (gNm 6) gNilD))) (asB (mOp gIn (mVar 5) (mTup (aCons (mC (.str "age")) (aCons (mC (.str "young")) aNil))))) (mVar 6))) (gNm 1)))
  (mRet (mOp gAdd (mOp gDGet (mVar 0) (mC (.str "width"))) (mCall gMaxL (aCons (mVar 1) aNil)))))))
def F__law_top : List D → Wd → R D := fnD 7 1 M__law_top
abbrev G__law_top := F__law_top
def M__law_set : En → Wd → SR :=
  (mSeq (mAsg (mCall gLstOfM (aCons (mVar 1) aNil)) (gNm 3))
  (mSeq (mFor (mIter (mVar 2)) (gTupD 2 (gConsD (gNm 4) (gConsD (gNm 5) gNilD))) (mSetI (mVar 5) (mVar 3) (mIndex (mOp gDGet (mVar 0) (mC (.str "marks"))) (mVar 4))))
  (mRet (mCall gTupOf (aCons (mVar 3) aNil)))))
def F__law_set : List D → Wd → R D := fnD 6 3 M__law_set
abbrev G__law_set := F__law_set
def M__law_noted : En → Wd → SR :=
  (mSeq (mAsg (mLc (mIter (mOp gDGet (mVar 0) (mC (.str "notes")))) [5] (gNm 5) (bAnd (asB (mOp gEq (mOp gIx (mVar 5) (mC (.int 0))) (mVar 1))) (mTru (mCall G__law_passes (aCons (mVar 0) (aCons (mOp gIx (mVar 5) (mC (.int 1))) (aCons (mVar 2) (aCons (mVar 3) aNil))))))) (mVar 5)) (gNm 4))
  (mRet (mIf (asB (mOp gNe (mVar 4) (mLst aNil))) (mCall G__law_set (aCons (mVar 0) (aCons (mVar 2) (aCons (mOp gIx (mOp gIx (mVar 4) (mC (.int 0))) (mC (.int 2))) aNil)))) (mVar 2))))
def F__law_noted : List D → Wd → R D := fnD 6 4 M__law_noted
abbrev G__law_noted := F__law_noted
def M__law_entry : En → Wd → SR :=
  (mSeq (mAsg (mLc (mIter (mOp gDGet (mVar 0) (mC (.str "entries")))) [6] (gNm 6) (bAnd (asB (mOp gEq (mOp gIx (mVar 6) (mC (.int 0))) (mVar 1))) (bAnd (asB (mOp gIn (mOp gIx (mVar 6) (mC (.int 2))) (mTup (aCons (mC (.str "any")) (aCons (mVar 4) aNil))))) (mTru (mCall G__law_passes (aCons (mVar 0) (aCons (mOp gIx (mVar 6) (mC (.int 1))) (aCons (mVar 2) (aCons (mVar 3) aNil)))))))) (mVar 6)) (gNm 5))
  (mRet (mIf (asB (mOp gNe (mVar 5) (mLst aNil))) (mOp gIx (mVar 5) (mC (.int 0))) (mC .non))))
def F__law_entry : List D → Wd → R D := fnD 7 5 M__law_entry
abbrev G__law_entry := F__law_entry
def M__law_reading : En → Wd → SR :=
  (mSeq (mAsg (mLc (mIter (mOp gDGet (mVar 0) (mC (.str "readings")))) [5] (gNm 5) (bAnd (asB (mOp gEq (mOp gIx (mVar 5) (mC (.int 0))) (mVar 1))) (mTru (mCall G__law_passes (aCons (mVar 0) (aCons (mOp gIx (mVar 5) (mC (.int 1))) (aCons (mVar 2) (aCons (mVar 3) aNil))))))) (mVar 5)) (gNm 4))
  (mRet (mIf (asB (mOp gNe (mVar 4) (mLst aNil))) (mOp gIx (mOp gIx (mVar 4) (mC (.int 0))) (mC (.int 2))) (mC .non))))
def F__law_reading : List D → Wd → R D := fnD 6 4 M__law_reading
abbrev G__law_reading := F__law_reading
end Bk

set_option Elab.async false
set_option linter.all false
set_option autoImplicit false
set_option maxRecDepth 100000
set_option maxHeartbeats 4000000
/-! Bk2: the drawing bag that goes on, typed data, rules for dicts, fields, slices. -/
namespace Bk
open PySem L2 PyProof.Rows Si
/-- the bag at n goes on, all else that stood stays -/
structure Bg (n : Nat) (w w' : Wd) : Prop where
  b : BagAt w' n
  l : w.length ≤ w'.length
  k : ∀ k, k < w.length → k ≠ n → w'[k]? = w[k]?
section
variable {n m : Nat} {w w1 w2 : Wd} {c : MO}
theorem Bg.refl (hb : BagAt w n) : Bg n w w := ⟨hb, Nat.le_refl _, fun _ _ _ => rfl⟩
theorem Bg.trans (a : Bg n w w1) (b : Bg n w1 w2) : Bg n w w2 :=
  ⟨b.b, Nat.le_trans a.l b.l, fun k hk hn => (b.k k (Nat.lt_of_lt_of_le hk a.l) hn).trans (a.k k hk hn)⟩
theorem lt_of_get {w : Wd} {m : Nat} {c : MO} (h : w[m]? = some c) : m < w.length := (List.getElem?_eq_some_iff.mp h).1
theorem Bg.get (a : Bg n w w1) (h : w[m]? = some c) (hm : m ≠ n) : w1[m]? = some c := (a.k m (lt_of_get h) hm).trans h
theorem BagAt.lt (h : BagAt w n) : n < w.length := let ⟨_, _, _, _, e, _⟩ := h; lt_of_get e
theorem Bg.ofOth (h : Oth n w w1) (hb : BagAt w1 n) : Bg n w w1 := ⟨hb, Nat.le_of_eq h.1.symm, fun k _ hk => h.2 k hk⟩
theorem BagAt.app (h : BagAt w n) (e : Wd) : BagAt (w ++ e) n := let ⟨a, b, c, d, g, i⟩ := h; ⟨a, b, c, d, (List.getElem?_append_left (lt_of_get g)).trans g, i⟩
/-- new cells at the end -/
theorem Bg.app (a : Bg n w w1) (e : Wd) : Bg n w (w1 ++ e) :=
  ⟨BagAt.app a.b e, Nat.le_trans a.l (by simp), fun k hk hn => (List.getElem?_append_left (Nat.lt_of_lt_of_le hk a.l)).trans (a.k k hk hn)⟩
theorem BagAt.set (h : BagAt w n) (hm : m ≠ n) (c : MO) : BagAt (w.set m c) n := let ⟨a, b, d, e, g, i⟩ := h; ⟨a, b, d, e, (List.getElem?_set_ne hm).trans g, i⟩
/-- a cell that is younger than w is written -/
theorem Bg.setN (a : Bg n w w1) (hm : w.length ≤ m) (c : MO) (hb : n < w.length) : Bg n w (w1.set m c) :=
  ⟨BagAt.set a.b (by omega) c, by simpa using a.l, fun k hk hn => (List.getElem?_set_ne (by omega)).trans (a.k k hk hn)⟩
end
inductive All2 {α β : Type} (P : α → β → Prop) : List α → List β → Prop
  | nil : All2 P [] []
  | cons {a : α} {b : β} {l : List α} {r : List β} (h : P a b) (t : All2 P l r) : All2 P (a :: l) (b :: r)
theorem All2.length_eq {α β : Type} {P : α → β → Prop} : ∀ {l : List α} {r : List β}, All2 P l r → l.length = r.length
  | _, _, .nil => rfl
  | _, _, .cons _ t => congrArg (· + 1) t.length_eq
theorem All2.append {α β : Type} {P : α → β → Prop} : ∀ {l l' : List α} {r r' : List β}, All2 P l r → All2 P l' r' → All2 P (l ++ l') (r ++ r')
  | _, _, _, _, .nil, h => h
  | _, _, _, _, .cons h t, h2 => .cons h (t.append h2)
section
variable {X : EX} {Q : D → Wd → Prop} {QA : List D → Wd → Prop} {w0 w : Wd} {n : Nat}
theorem drb {many : Int} (hb : Bg n w0 w) (h0 : 0 < many) (h1 : many < 2 ^ 200) (q : ∀ r w', 0 ≤ r → r < many → Bg n w0 w' → Q (.int r) w') : Go X (drawF [.obj n, .int many] w) Q :=
  dr hb.b h0 h1 fun r w' r0 r1 hb' ho => q r w' r0 r1 (hb.trans (Bg.ofOth ho hb'))
theorem oflb {ds : List D} (hb : Bg n w0 w) (h0 : 0 < ds.length) (h1 : ds.length < 2 ^ 190) (q : ∀ d w', d ∈ ds → Bg n w0 w' → Q d w') : Go X (ofF [.obj n, .lst ds] w) Q :=
  ofl hb.b h0 h1 fun r w' r0 hb' ho => q r w' r0 (hb.trans (Bg.ofOth ho hb'))
theorem oftb {ds : List D} (hb : Bg n w0 w) (h0 : 0 < ds.length) (h1 : ds.length < 2 ^ 190) (q : ∀ d w', d ∈ ds → Bg n w0 w' → Q d w') : Go X (ofF [.obj n, .tup ds] w) Q :=
  oft hb.b h0 h1 fun r w' r0 hb' ho => q r w' r0 (hb.trans (Bg.ofOth ho hb'))
theorem ofsb {z : Str} (hb : Bg n w0 w) (h0 : 0 < z.length) (h1 : z.length ≤ 16777216) (q : ∀ c w', c ∈ z.cps.toList → Bg n w0 w' → Q (.str ⟨#[c]⟩) w') : Go X (ofF [.obj n, .str z] w) Q :=
  ofs hb.b h0 h1 fun r w' r0 hb' ho => q r w' r0 (hb.trans (Bg.ofOth ho hb'))
theorem br_y {p P P' : Prop} [Decidable p] (h : p) (q : P) : Br (decide p) P P' := by rw [decide_eq_true h]; exact q
theorem br_n {p P P' : Prop} [Decidable p] (h : ¬ p) (q : P') : Br (decide p) P P' := by rw [decide_eq_false h]; exact q
theorem go_allM {ds : List D} (q : Q (.bl true) w) : Go X (gAll [.lst (ds.map fun _ => D.bl true)] w) Q := by
  refine go_ok (a := D.bl true) (w' := w) ?_ q
  simp only [gAll, der_lst, Option.bind, blA_all, all_true]
theorem go_slL {ds : List D} {lo hi : Option Int} (q : Q (.lst (cutD ds lo hi)) w) : Go X (gSl (.lst ds) lo hi w) Q := q
theorem go_slT {ds : List D} {lo hi : Option Int} (q : Q (.tup (cutD ds lo hi)) w) : Go X (gSl (.tup ds) lo hi w) Q := q
theorem go_slS {z : Str} {lo hi : Option Int} (h : z.length ≤ 16777216) (q : Q (.str (cutS z lo hi)) w) : Go X (gSl (.str z) lo hi w) Q := by
  refine go_ok (a := D.str (cutS z lo hi)) (w' := w) ?_ q
  simp only [gSl]
  rw [if_pos h]
theorem go_ixL {ds : List D} {i : Int} {d : D} (h : L2.atI ds i = some d) (q : Q d w) : Go X (gIx (.lst ds) (.int i) w) Q := by
  refine go_ok (a := d) (w' := w) ?_ q
  simp only [gIx, der_lst, h]
theorem go_ixT {ds : List D} {i : Int} {d : D} (h : L2.atI ds i = some d) (q : Q d w) : Go X (gIx (.tup ds) (.int i) w) Q := by
  refine go_ok (a := d) (w' := w) ?_ q
  simp only [gIx, h]
theorem go_ixS {z : Str} {i : Int} {c : Nat} (hl : z.length ≤ 16777216) (h : L2.atI z.cps.toList i = some c) (q : Q (.str ⟨#[c]⟩) w) : Go X (gIx (.str z) (.int i) w) Q := by
  refine go_ok (a := D.str ⟨#[c]⟩) (w' := w) ?_ q
  simp only [gIx, hl, h, if_true]
theorem go_intI {i : Int} (q : Q (.int i) w) : Go X (gInt [.int i] w) Q := q
theorem go_lstL {ds : List D} (q : Q (.lst ds) w) : Go X (gLstOf [.lst ds] w) Q := q
theorem go_lstT {ds : List D} (q : Q (.lst ds) w) : Go X (gLstOf [.tup ds] w) Q := q
theorem go_tupL {ds : List D} (q : Q (.tup ds) w) : Go X (gTupOf [.lst ds] w) Q := q
theorem go_tupT {ds : List D} (q : Q (.tup ds) w) : Go X (gTupOf [.tup ds] w) Q := q
theorem go_isN {u : D} (q : Q (.bl (isNon u)) w) : Go X (gIsN u .non w) Q := q
theorem go_notN {u : D} (q : Q (.bl (!isNon u)) w) : Go X (gNotN u .non w) Q := q
theorem ex_tg {f : D → En → Wd → Option En} {d : D} {σ σ1 : En} {R : En → Prop} (e : f d σ w = some σ1) (h : R σ1) : ∃ σ1, f d σ w = some σ1 ∧ R σ1 := ⟨_, e, h⟩
theorem go_zip {mas : En → Wd → R (List D)} {σ : En} (h : Go X (mas σ w) fun us w1 => ∃ ds es, us = [.lst ds, .lst es] ∧ QA (zipD ds es) w1) : Go X (mZip mas σ w) QA :=
  go_bind (go_weak h fun _ _ ⟨_, _, e, h⟩ => by subst e; exact h)
theorem go_enum {mas : En → Wd → R (List D)} {σ : En} (h : Go X (mas σ w) fun us w1 => ∃ ds, us = [.lst ds] ∧ QA (enumD 0 ds) w1) : Go X (mEnum mas σ w) QA :=
  go_bind (go_weak h fun _ _ ⟨_, e, h⟩ => by subst e; exact h)
theorem ex_zip {ds es : List D} {R : List D → List D → Prop} (h : R ds es) : ∃ a b, [D.lst ds, D.lst es] = [D.lst a, D.lst b] ∧ R a b := ⟨_, _, rfl, h⟩
theorem ex_enum {ds : List D} {R : List D → Prop} (h : R ds) : ∃ a, [D.lst ds] = [D.lst a] ∧ R a := ⟨_, rfl, h⟩
theorem br_two {α : Type} {b : Bool} {r1 r2 : R α} {K : α → Wd → Prop} (P : α → Wd → Prop) (h1 : b = true → Go X r1 P) (h2 : b = false → Go X r2 P) (k : ∀ d w, P d w → K d w) : Br b (Go X r1 K) (Go X r2 K) := by
  cases b
  · exact go_weak (h2 rfl) k
  · exact go_weak (h1 rfl) k
theorem go_star {ma : En → Wd → R D} {mr : En → Wd → R (List D)} {σ : En} (h : Go X (ma σ w) fun u w1 => ∃ ds, seqD u w1 = some ds ∧ Go X (mr σ w1) fun us w2 => QA (ds ++ us) w2) : Go X (aStar ma mr σ w) QA :=
  go_bind (go_weak h fun _ _ ⟨_, e, h⟩ => by rw [e]; exact go_bind h)
theorem ex_seq {u : D} {b : List D} {R : List D → Prop} (e : seqD u w = some b) (h : R b) : ∃ b, seqD u w = some b ∧ R b := ⟨b, e, h⟩
theorem go_lenSet {ma : En → Wd → R D} {σ : En} (h : Go X (ma σ w) fun u w1 => ∃ xs, (seqD u w1).bind stA = some xs ∧ xs.length < 4000 ∧ Q (.int (cntR xs.reverse)) w1) : Go X (mLenSet ma σ w) Q :=
  go_bind (go_weak h fun _ _ ⟨_, e, l, h⟩ => by rw [e]; dsimp only; rw [if_pos l]; exact h)
theorem stA_eS : ∀ l : List Str, stA (l.map .str) = some l
  | [] => rfl
  | x :: r => by rw [List.map_cons, stA, stA_eS r]; rfl
theorem cntR_nd : ∀ {l : List Str}, l.Nodup → cntR l = l.length
  | [], _ => rfl
  | x :: r, h => by
    rw [List.nodup_cons] at h
    rw [cntR, if_neg h.1, cntR_nd h.2]; rfl
theorem go_inTt {u : D} {ds : List D} (hf : (flatD u && ds.all flatD) = true) (hb : (ds.any fun d => eqF d u) = true) (q : Q (.bl true) w) : Go X (gIn u (.tup ds) w) Q := by
  refine go_ok (a := D.bl true) (w' := w) ?_ q
  have hu : Si.dl u w = u := by cases u <;> first | rfl | (simp [flatD] at hf)
  have e : inD u (.tup ds) = some true := by show (if _ then _ else _) = _; rw [if_pos hf, hb]
  unfold gIn
  rw [hu, show Si.dl (.tup ds) w = .tup ds from rfl, e]
theorem go_inTf {u : D} {ds : List D} (hf : (flatD u && ds.all flatD) = true) (hb : (ds.any fun d => eqF d u) = false) (q : Q (.bl false) w) : Go X (gIn u (.tup ds) w) Q := by
  refine go_ok (a := D.bl false) (w' := w) ?_ q
  have hu : Si.dl u w = u := by cases u <;> first | rfl | (simp [flatD] at hf)
  have e : inD u (.tup ds) = some false := by show (if _ then _ else _) = _; rw [if_pos hf, hb]
  unfold gIn
  rw [hu, show Si.dl (.tup ds) w = .tup ds from rfl, e]
theorem go_niTt {u : D} {ds : List D} (hf : (flatD u && ds.all flatD) = true) (hb : (ds.any fun d => eqF d u) = true) (q : Q (.bl false) w) : Go X (gNotIn u (.tup ds) w) Q := by
  refine go_ok (a := D.bl false) (w' := w) ?_ q
  have hu : Si.dl u w = u := by cases u <;> first | rfl | (simp [flatD] at hf)
  have e : inD u (.tup ds) = some true := by show (if _ then _ else _) = _; rw [if_pos hf, hb]
  unfold gNotIn
  rw [hu, show Si.dl (.tup ds) w = .tup ds from rfl, e]
  rfl
theorem go_niTf {u : D} {ds : List D} (hf : (flatD u && ds.all flatD) = true) (hb : (ds.any fun d => eqF d u) = false) (q : Q (.bl true) w) : Go X (gNotIn u (.tup ds) w) Q := by
  refine go_ok (a := D.bl true) (w' := w) ?_ q
  have hu : Si.dl u w = u := by cases u <;> first | rfl | (simp [flatD] at hf)
  have e : inD u (.tup ds) = some false := by show (if _ then _ else _) = _; rw [if_pos hf, hb]
  unfold gNotIn
  rw [hu, show Si.dl (.tup ds) w = .tup ds from rfl, e]
  rfl
theorem any_eqF : ∀ {l : List Str} {z : Str}, ((l.map D.str).any fun d => eqF d (.str z)) = decide (z ∈ l)
  | [], z => by simp
  | x :: r, z => by
    rw [List.map_cons, List.any_cons, any_eqF (l := r) (z := z)]
    simp only [eqF]
    by_cases h : x = z
    · subst h; simp
    · have h2 : ¬ z = x := fun e => h e.symm
      rw [beq_eq_false_iff_ne.mpr h]; simp [h2]
theorem flat_eS : ∀ l : List Str, (l.map D.str).all flatD = true
  | [] => rfl
  | x :: r => by rw [List.map_cons, List.all_cons, flat_eS r]; rfl
theorem go_inS {l : List Str} {z : Str} (q : Q (.bl (decide (z ∈ l))) w) : Go X (gIn (.str z) (.lst (l.map .str)) w) Q := by
  refine go_ok (a := D.bl (decide (z ∈ l))) (w' := w) ?_ q
  have e : inD (.str z) (.lst (l.map .str)) = some (decide (z ∈ l)) := by show (if _ then _ else _) = _; rw [if_pos (by rw [flat_eS]; rfl), any_eqF]
  unfold gIn
  rw [show Si.dl (.str z) w = .str z from rfl, show Si.dl (.lst (l.map .str)) w = .lst (l.map .str) from rfl, e]
theorem go_inC {l : List Str} {z : Str} {a : Nat} (h : w[a]? = some (.lst (l.map .str))) (q : Q (.bl (decide (z ∈ l))) w) : Go X (gIn (.str z) (.obj a) w) Q := by
  refine go_ok (a := D.bl (decide (z ∈ l))) (w' := w) ?_ q
  have e : inD (.str z) (.lst (l.map .str)) = some (decide (z ∈ l)) := by show (if _ then _ else _) = _; rw [if_pos (by rw [flat_eS]; rfl), any_eqF]
  unfold gIn
  rw [show Si.dl (.str z) w = .str z from rfl, show Si.dl (.obj a) w = .lst (l.map .str) by simp only [Si.dl, h], e]
/-- a comprehension whose element draws: each one as P says -/
theorem lc_draw {own : List Nat} {f : D → En → Wd → Option En} {me : En → Wd → R D} {σ : En} (P : D → D → Prop) (ds : List D) (hl : ds.length ≤ 16777216) (hb : Bg n w0 w)
    (hs : ∀ d w, d ∈ ds → Bg n w0 w → ∃ σ1, f d (wipeD σ own) w = some σ1 ∧ Go EX0 (me σ1 w) fun y w2 => P d y ∧ Bg n w0 w2)
    (q : ∀ ys w', All2 P ds ys → Bg n w0 w' → QA ys w') : Go X (lcL own f bYes me σ ds [] w) QA := by
  refine go_lcL (fun acc r w' => Bg n w0 w' ∧ ∃ pre, ds = pre ++ r ∧ All2 P pre acc) ?_ ?_ _ _ _ ⟨hb, [], rfl, .nil⟩
  · rintro acc d r w ⟨hb, pre, e, ha⟩
    obtain ⟨σ1, e1, h1⟩ := hs d w (by rw [e]; simp) hb
    refine ⟨σ1, e1, go_bYes (br_t (go_weak h1 fun y w2 h => ⟨?_, h.2, pre ++ [d], by rw [e]; simp, ?_⟩))⟩
    · have := ha.length_eq
      have e2 := congrArg List.length e
      simp only [List.length_append, List.length_cons] at e2
      omega
    · exact All2.append ha (.cons h.1 .nil)
  · rintro acc w ⟨hb, pre, e, ha⟩
    rw [List.append_nil] at e
    subst e
    exact q acc w ha hb
/-- a comprehension that just reckons -/
theorem lc_map {own : List Nat} {f : D → En → Wd → Option En} {me : En → Wd → R D} {σ : En} (g : D → D) (ds : List D) (hl : ds.length ≤ 16777216)
    (hs : ∀ d, d ∈ ds → ∃ σ1, f d (wipeD σ own) w = some σ1 ∧ Go EX0 (me σ1 w) fun y w2 => y = g d ∧ w2 = w)
    (q : QA (ds.map g) w) : Go X (lcL own f bYes me σ ds [] w) QA := by
  refine go_lcL (fun acc r w' => w' = w ∧ ∃ pre, ds = pre ++ r ∧ acc = pre.map g) ?_ ?_ _ _ _ ⟨rfl, [], rfl, rfl⟩
  · rintro acc d r w' ⟨rfl, pre, e, ha⟩
    obtain ⟨σ1, e1, h1⟩ := hs d (by rw [e]; simp)
    refine ⟨σ1, e1, go_bYes (br_t (go_weak h1 fun y w2 h => ⟨?_, h.2, pre ++ [d], by rw [e]; simp, ?_⟩))⟩
    · have e2 := congrArg List.length e
      simp only [List.length_append, List.length_cons] at e2
      rw [ha, List.length_map]
      omega
    · rw [ha, h.1]; simp
  · rintro acc w' ⟨rfl, pre, e, ha⟩
    rw [List.append_nil] at e
    subst e
    rw [ha]
    exact q
/-- a comprehension that tests and reckons -/
theorem lc_filter {own : List Nat} {f : D → En → Wd → Option En} {mt : En → Wd → R Bool} {me : En → Wd → R D} {σ : En} (p : D → Bool) (g : D → D) (ds : List D) (hl : ds.length ≤ 16777216)
    (hs : ∀ d, d ∈ ds → ∃ σ1, f d (wipeD σ own) w = some σ1 ∧ Go EX0 (mt σ1 w) fun b w1 => b = p d ∧ w1 = w ∧ (p d = true → Go EX0 (me σ1 w) fun y w2 => y = g d ∧ w2 = w))
    (q : QA ((ds.filter p).map g) w) : Go X (lcL own f mt me σ ds [] w) QA := by
  refine go_lcL (fun acc r w' => w' = w ∧ ∃ pre, ds = pre ++ r ∧ acc = (pre.filter p).map g) ?_ ?_ _ _ _ ⟨rfl, [], rfl, rfl⟩
  · rintro acc d r w' ⟨rfl, pre, e, ha⟩
    obtain ⟨σ1, e1, h1⟩ := hs d (by rw [e]; simp)
    refine ⟨σ1, e1, go_weak h1 fun b w1 h => ?_⟩
    obtain ⟨rfl, rfl, h2⟩ := h
    cases hp : p d with
    | true =>
      refine br_t (go_weak (h2 hp) fun y w2 h => ⟨?_, h.2, pre ++ [d], by rw [e]; simp, ?_⟩)
      · have e2 := congrArg List.length e
        have e3 := List.length_filter_le p pre
        simp only [List.length_append, List.length_cons] at e2
        rw [ha, List.length_map]
        omega
      · rw [ha, h.1]; simp [hp]
    | false =>
      refine br_f ⟨rfl, pre ++ [d], by rw [e]; simp, ?_⟩
      rw [ha]; simp [hp]
  · rintro acc w' ⟨rfl, pre, e, ha⟩
    rw [List.append_nil] at e
    subst e
    rw [ha]
    exact q
end
end Bk

set_option Elab.async false
set_option linter.all false
set_option autoImplicit false
set_option maxRecDepth 100000
set_option maxHeartbeats 4000000
/-! Bk3: what can be compared; lists drawn in another order. -/
namespace Bk
open PySem L2 PyProof.Rows Si
/-- one step by the form of the code -/
local macro_rules | `(tactic| walk_at "g1") => `(tactic| with_reducible first
  | refine gd_seq ?_ | refine gd_nm ?_ | refine gd_asg ?_ | refine gd_ret ?_ | refine gd_if ?_ | refine gd_next ?_ | refine gd_expr ?_ | refine gd_par ?_ | refine gd_retN ?_ | refine gd_brk ?_ | refine gd_cnt ?_ | refine gd_for ?_
  | refine go_var rfl ?_ | refine go_c ?_ | refine go_op ?_ | refine go_call ?_ | refine go_callK ?_ | refine go_nil ?_ | refine go_cons ?_ | refine go_tup ?_ | refine go_lst ?_ | refine go_lstM ?_ | refine go_chain ?_ | refine go_and ?_ | refine go_or ?_ | refine go_not ?_
  | refine go_tru ?_ | refine go_asB ?_ | refine go_bAnd ?_ | refine go_bOr ?_ | refine go_bNot ?_ | refine go_bYes ?_ | refine go_if ?_ | refine go_neg ?_ | refine go_oNone ?_ | refine go_oSome ?_ | refine go_sl ?_ | refine go_isi ?_ | refine go_isi2 ?_
  | refine go_join ?_ | refine go_app ?_ | refine go_iter ?_ | refine go_rng1 ?_ | refine go_rng2 ?_ | refine go_lc ?_ | refine go_lcM ?_
  | refine go_addI ?_ | refine go_subI ?_ | refine go_lt ?_ | refine go_le ?_ | refine go_gt ?_ | refine go_ge ?_ | refine go_eqI ?_ | refine go_neI ?_ | refine go_eqS ?_ | refine go_neS ?_ | refine go_lenL ?_ | refine go_lenT ?_ | refine go_lenS (by assumption) ?_
  | refine br_t ?_ | refine br_f ?_ | refine br_not ?_)
local macro_rules | `(tactic| walk_at "g2") => `(tactic| first
  | with_reducible refine ex_bl ?_ | with_reducible refine ex_int ?_ | with_reducible refine ex_str ?_ | with_reducible refine ex_nm ?_
  | with_reducible refine ex_tru (by with_unfolding_all exact rfl) ?_
  | with_reducible refine ex_ty (by with_unfolding_all exact rfl) ?_
  | with_reducible refine ex_it (by with_unfolding_all exact rfl) ?_
  | with_reducible refine br_is (b := isB _ _) (by with_unfolding_all decide) ?_ | with_reducible refine br_isnt (b := isB _ _) (by with_unfolding_all decide) ?_
  | with_reducible refine br_is (b := isB _ _ || isB _ _) (by with_unfolding_all decide) ?_ | with_reducible refine br_isnt (b := isB _ _ || isB _ _) (by with_unfolding_all decide) ?_
  | (with_reducible refine an_rng ?hh ?_; case hh => (first | decide | omega))
  | (with_reducible refine an_rng2 ?hh ?_; case hh => (first | decide | omega))
  | (with_reducible refine an_le ?hh ?_; case hh => (first | decide | (simp only [List.length_cons, List.length_nil]; omega))))
local macro_rules | `(tactic| walk_at "gg") => `(tactic| repeat' (first | walk_at "g1" | walk_at "g2"))

mutual
/-- so deep at most, no cells, real texts -/
def tame : Nat → D → Bool
  | _, .non | _, .bl _ | _, .int _ => true
  | _, .str z => PyData.strOk z
  | n + 1, .lst xs | n + 1, .tup xs => tameA n xs
  | 0, .lst _ | 0, .tup _ | _, .obj _ | _, .scr _ => false
def tameA : Nat → List D → Bool
  | _, [] => true
  | n, x :: r => tame n x && tameA n r
end
theorem tameA_of {n : Nat} : ∀ {xs : List D}, (∀ x ∈ xs, tame n x = true) → tameA n xs = true
  | [], _ => by rw [tameA]
  | x :: r, h => by rw [tameA, h x List.mem_cons_self, tameA_of fun y hy => h y (List.mem_cons_of_mem _ hy)]; rfl
theorem tame_lst {n : Nat} {xs : List D} (h : ∀ x ∈ xs, tame n x = true) : tame (n + 1) (.lst xs) = true := by rw [tame]; exact tameA_of h
theorem tame_tup {n : Nat} {xs : List D} (h : ∀ x ∈ xs, tame n x = true) : tame (n + 1) (.tup xs) = true := by rw [tame]; exact tameA_of h
mutual
theorem tame_ok : ∀ {n : Nat} {d : D}, tame n d = true → d.pure = true ∧ d.py.canLay0 = true ∧ d.py.depth ≤ n
  | _, .non, _ => ⟨by rw [D.pure], by rw [D.py, PyData.canLay0], by rw [D.py, PyData.depth]; omega⟩
  | _, .bl _, _ => ⟨by rw [D.pure], by rw [D.py, PyData.canLay0], by rw [D.py, PyData.depth]; omega⟩
  | _, .int _, _ => ⟨by rw [D.pure], by rw [D.py, PyData.canLay0], by rw [D.py, PyData.depth]; omega⟩
  | _, .str z, h => ⟨by rw [D.pure], by rw [D.py, PyData.canLay0]; rw [tame] at h; exact h, by rw [D.py, PyData.depth]; omega⟩
  | n + 1, .lst xs, h => by
    rw [tame] at h
    obtain ⟨a, b, c⟩ := tameA_ok h
    exact ⟨by rw [D.pure]; exact a, by rw [D.py, PyData.canLay0]; exact b, by rw [D.py, PyData.depth]; omega⟩
  | n + 1, .tup xs, h => by
    rw [tame] at h
    obtain ⟨a, b, c⟩ := tameA_ok h
    exact ⟨by rw [D.pure]; exact a, by rw [D.py, PyData.canLay0]; exact b, by rw [D.py, PyData.depth]; omega⟩
  | 0, .lst _, h => by rw [tame] at h; cases h
  | 0, .tup _, h => by rw [tame] at h; cases h
  | _, .obj _, h => by rw [tame] at h; cases h
  | _, .scr _, h => by rw [tame] at h; cases h
theorem tameA_ok : ∀ {n : Nat} {xs : List D}, tameA n xs = true → pureA xs = true ∧ PyData.canLayAll0 (pyA xs) = true ∧ PyData.depthAll (pyA xs) ≤ n
  | _, [], _ => ⟨by rw [pureA], by rw [pyA, PyData.canLayAll0], by rw [pyA, PyData.depthAll]; omega⟩
  | n, x :: r, h => by
    rw [tameA, Bool.and_eq_true] at h
    obtain ⟨a, b, c⟩ := tame_ok h.1
    obtain ⟨a2, b2, c2⟩ := tameA_ok h.2
    exact ⟨by rw [pureA, a, a2]; rfl, by rw [pyA, PyData.canLayAll0, b, b2]; rfl, by rw [pyA, PyData.depthAll]; omega⟩
end
theorem okD_of {n : Nat} {d : D} (h : tame n d = true) (hn : n ≤ 64) : okD d = true := by
  obtain ⟨a, b, c⟩ := tame_ok h
  unfold okD SeqAt.shaped
  rw [a, b, decide_eq_true (by omega)]
  rfl
section
variable {X : EX} {Q : D → Wd → Prop} {QA : List D → Wd → Prop} {w0 w : Wd} {n : Nat} {σ : En}
/-- xs != [] -/
theorem go_neNil {k : Nat} {u : D} {ds : List D} (hu : Si.dl u w = .lst ds) (hs : scEq u (.lst []) = none) (ht : tame k (.lst ds) = true) (hk : k ≤ 64) (q : Q (.bl (!ds.isEmpty)) w) : Go X (gNe u (.lst []) w) Q := by
  refine go_ok (a := D.bl (!ds.isEmpty)) (w' := w) ?_ q
  unfold gNe
  rw [hs, hu]
  have e : Si.dl (.lst []) w = .lst [] := rfl
  rw [e, okD_of ht hk, okD_of (n := 1) (d := .lst []) (by rw [tame, tameA]) (by omega)]
  cases ds with
  | nil => rfl
  | cons x r => rfl
theorem go_eqNil {k : Nat} {u : D} {ds : List D} (hu : Si.dl u w = .lst ds) (hs : scEq u (.lst []) = none) (ht : tame k (.lst ds) = true) (hk : k ≤ 64) (q : Q (.bl ds.isEmpty) w) : Go X (gEq u (.lst []) w) Q := by
  refine go_ok (a := D.bl ds.isEmpty) (w' := w) ?_ q
  unfold gEq
  rw [hs, hu]
  have e : Si.dl (.lst []) w = .lst [] := rfl
  rw [e, okD_of ht hk, okD_of (n := 1) (d := .lst []) (by rw [tame, tameA]) (by omega)]
  cases ds with
  | nil => rfl
  | cons x r => rfl
theorem dl_of {a : Nat} {ds : List D} (h : w[a]? = some (.lst ds)) : Si.dl (.obj a) w = .lst ds := by simp only [Si.dl, h]
theorem go_popAt {mo mi : En → Wd → R D} (h : Go X (mo σ w) fun u w1 => (cellL u w1).isSome = true ∧ Go X (mi σ w1) fun d w2 => ∃ n ds k j y, cellL u w2 = some (n, ds) ∧ d = .int k ∧ (-(2 ^ 63) ≤ k ∧ k < 2 ^ 63) ∧ ixN ds.length k = some j ∧ ds[j]? = some y ∧ Q y (w2.set n (.lst (ds.eraseIdx j)))) : Go X (mPopAt mo mi σ w) Q := by
  refine go_bind (go_weak h fun u w1 ⟨e, h⟩ => ?_)
  obtain ⟨c, e⟩ := Option.isSome_iff_exists.mp e
  rw [e]
  refine go_bind (go_weak h fun d w2 ⟨n, ds, k, j, y, e1, e2, l, e3, e4, h⟩ => ?_)
  subst e2
  rw [e1]
  dsimp only
  rw [if_pos l, e3]
  dsimp only
  rw [e4]
  exact h
theorem go_lenC {a : Nat} {ds : List D} (h : w[a]? = some (.lst ds)) (q : Q (.int ds.length) w) : Go X (gLen [.obj a] w) Q := by
  refine go_ok (a := D.int ds.length) (w' := w) ?_ q
  simp only [gLen, der_of h]
theorem ixN_nat {n : Nat} {r : Int} (h0 : 0 ≤ r) (h1 : r < n) : ixN n r = some r.toNat := by
  unfold ixN
  rw [if_pos h0, if_pos h1]
theorem erase_perm {α : Type} : ∀ {ds : List α} {j : Nat} {y : α}, ds[j]? = some y → (y :: ds.eraseIdx j).Perm ds
  | d :: r, 0, y, h => by cases h; exact .refl _
  | d :: r, j + 1, y, h => by
    have ih := erase_perm (ds := r) (j := j) (y := y) (by simpa using h)
    exact (List.Perm.swap d y _).trans (ih.cons d)
theorem gd_weak {N N' B B' C C' : En → Wd → Prop} {T T' : D → Wd → Prop} {r : SR} (h : Gd X N T B C r) (hn : ∀ σ w, N σ w → N' σ w) (ht : ∀ d w, T d w → T' d w) (hb : ∀ σ w, B σ w → B' σ w) (hc : ∀ σ w, C σ w → C' σ w) : Gd X N' T' B' C' r := by
  cases r with
  | next σ w => exact hn _ _ h
  | ret d w => exact ht _ _ h
  | brk σ w => exact hb _ _ h
  | cnt σ w => exact hc _ _ h
  | err => exact h
  | stuck => exact h
theorem mixed_loop {kk a b : Nat} {u : D} (N : En → Wd → Prop) (hn0 : n < w0.length) (ha : w0.length ≤ a) (hab : a < b) (hk : kk ≤ 63) : ∀ (fu : Nat) (left found : List D) (w : Wd), left.length < fu → left.length + found.length ≤ 16777216 →
    (∀ d ∈ left, tame kk d = true) → Bg n w0 w → w[a]? = some (.lst left) → w[b]? = some (.lst found) →
    (∀ es w', es.Perm left → Bg n w0 w' → w'[b]? = some (.lst (found ++ es)) → N [some (.obj n), some u, some (.obj a), some (.obj b)] w') →
    Gd X N (fun _ _ => False) (fun _ _ => False) (fun _ _ => False) (whileL (asB (mOp gNe (mVar 2) (mLst aNil))) (mExpr (mApp (mVar 3) (mPopAt (mVar 2) (mCall G__law_draw (aCons (mVar 0) (aCons (mCall gLen (aCons (mVar 2) aNil)) aNil)))))) fu [some (.obj n), some u, some (.obj a), some (.obj b)] w)
  | 0, left, found, w, h, _, _, _, _, _, _ => absurd h (Nat.not_lt_zero _)
  | fu + 1, left, found, w, h, hsz, htm, hb, h1, h2, k => by
    rw [whileL]
    refine gd_toS ?_
    walk_at "gg"
    refine go_neNil (dl_of h1) rfl (tame_lst htm) (by omega) ?_
    walk_at "gg"
    cases left with
    | nil => exact k [] w (.refl _) hb (by simpa using h2)
    | cons d r =>
      have hl2 : (d :: r).length = r.length + 1 := rfl
      have go : Gd X (fun σ2 w2 => σ2 = [some (.obj n), some u, some (.obj a), some (.obj b)] ∧ ∃ j y, j < (d :: r).length ∧ (d :: r)[j]? = some y ∧ Bg n w0 w2 ∧ w2[a]? = some (.lst ((d :: r).eraseIdx j)) ∧ w2[b]? = some (.lst (found ++ [y])))
          (fun _ _ => False) (fun _ _ => False) (fun _ _ => False) (mExpr (mApp (mVar 3) (mPopAt (mVar 2) (mCall G__law_draw (aCons (mVar 0) (aCons (mCall gLen (aCons (mVar 2) aNil)) aNil))))) [some (.obj n), some u, some (.obj a), some (.obj b)] w) := by
        refine gd_expr (go_app (go_var rfl ⟨by rw [cel_of h2]; rfl, go_popAt (go_var rfl ⟨by rw [cel_of h1]; rfl, go_call (go_cons (go_var rfl (go_cons (go_call (go_cons (go_var rfl (go_nil (go_lenC h1 (go_nil ?_)))))))))⟩)⟩))
        refine drb (Bg.refl hb.b) (by omega) (by omega) fun i w' r0 r1 hb' => ?_
        have e1 : w'[a]? = some (.lst (d :: r)) := hb'.get h1 (by omega)
        have e2 : w'[b]? = some (.lst found) := hb'.get h2 (by omega)
        have hal : a < w'.length := lt_of_get e1
        have hbl : b < w'.length := lt_of_get e2
        have hi : i.toNat < (d :: r).length := by omega
        refine ⟨a, _, i, i.toNat, _, cel_of e1, rfl, ⟨by omega, by omega⟩, ixN_nat r0 r1, List.getElem?_eq_getElem hi, ?_⟩
        refine ⟨b, found, cel_of (by rw [List.getElem?_set_ne (by omega)]; exact e2), by omega, rfl, i.toNat, _, hi, List.getElem?_eq_getElem hi, ?_, ?_, ?_⟩
        · exact Bg.setN (Bg.setN (hb.trans hb') ha _ hn0) (by omega) _ hn0
        · rw [List.getElem?_set_ne (by omega), List.getElem?_set_self hal]
        · rw [List.getElem?_set_self (by simpa using hbl)]
      have next : ∀ σ2 w2, (σ2 = [some (.obj n), some u, some (.obj a), some (.obj b)] ∧ ∃ j y, j < (d :: r).length ∧ (d :: r)[j]? = some y ∧ Bg n w0 w2 ∧ w2[a]? = some (.lst ((d :: r).eraseIdx j)) ∧ w2[b]? = some (.lst (found ++ [y]))) →
          Gd X N (fun _ _ => False) (fun _ _ => False) (fun _ _ => False) (whileL (asB (mOp gNe (mVar 2) (mLst aNil))) (mExpr (mApp (mVar 3) (mPopAt (mVar 2) (mCall G__law_draw (aCons (mVar 0) (aCons (mCall gLen (aCons (mVar 2) aNil)) aNil)))))) fu σ2 w2) := by
        rintro σ2 w2 ⟨rfl, j, y, hj, hy, hb2, g1, g2⟩
        have hel : ((d :: r).eraseIdx j).length = r.length := by rw [List.length_eraseIdx_of_lt hj, hl2]; rfl
        refine mixed_loop N hn0 ha hab hk fu _ _ w2 (by omega) (by rw [hel, List.length_append]; simp only [List.length_cons, List.length_nil]; omega) (fun x hx => htm x (List.mem_of_mem_eraseIdx hx)) hb2 g1 g2 fun es w' hp hb3 g3 => ?_
        refine k (y :: es) w' ((hp.cons y).trans (erase_perm hy)) hb3 ?_
        rw [g3, List.append_assoc]; rfl
      cases e : mExpr (mApp (mVar 3) (mPopAt (mVar 2) (mCall G__law_draw (aCons (mVar 0) (aCons (mCall gLen (aCons (mVar 2) aNil)) aNil))))) [some (.obj n), some u, some (.obj a), some (.obj b)] w with
      | next σ2 w2 => rw [e] at go; exact next _ _ go
      | ret d w2 => rw [e] at go; exact go.elim
      | brk σ2 w2 => rw [e] at go; exact go.elim
      | cnt σ2 w2 => rw [e] at go; exact go.elim
      | err c fs w2 => rw [e] at go; exact go
      | stuck => rw [e] at go; exact go.elim
/-- a list drawn in another order -/
theorem mixedb {kk : Nat} {ds : List D} (hb : Bg n w0 w) (hn0 : n < w0.length) (hl : ds.length ≤ 16777216) (hk : kk ≤ 63) (ht : ∀ d ∈ ds, tame kk d = true) (q : ∀ es w', es.Perm ds → Bg n w0 w' → Q (.lst es) w') : Go X (F__law_mixed [.obj n, .lst ds] w) Q := by
  refine go_fn rfl ?_
  unfold M__law_mixed
  refine gd_seq (gd_par (go_call (go_cons (go_var rfl (go_nil ?_)))))
  refine go_ok (a := D.obj w.length) (w' := w ++ [.lst ds]) rfl ?_
  refine go_lstM (go_nil ⟨by simp, ?_⟩)
  have ea : (w ++ [MO.lst ds] ++ [MO.lst []])[w.length]? = some (.lst ds) := by simp
  have eb : (w ++ [MO.lst ds] ++ [MO.lst []])[(w ++ [MO.lst ds]).length]? = some (.lst []) := by simp
  refine gd_seq ?_
  show Gd X _ _ _ _ (whileL _ _ (match derefL (D.obj w.length) (w ++ [MO.lst ds] ++ [MO.lst []]) with | some ds => ds.length + 1 | none => 0) _ _)
  rw [der_of ea]
  dsimp only
  have fin : ∀ σ2 w2, (σ2 = [some (.obj n), some (.lst ds), some (.obj w.length), some (.obj (w ++ [MO.lst ds]).length)] ∧ ∃ es, es.Perm ds ∧ Bg n w0 w2 ∧ w2[(w ++ [MO.lst ds]).length]? = some (.lst ([] ++ es))) → Gd X (fun _ w1 => Q .non w1) Q (fun _ _ => False) (fun _ _ => False) (mRetF (mVar 3) σ2 w2) := by
    rintro σ2 w2 ⟨rfl, es, hp, hb2, g⟩
    refine gd_toS (go_var rfl ?_)
    rw [cel_of g]
    exact q es _ hp (hb2.setN (by have := hb.l; simp; omega) _ hn0)
  have lp := mixed_loop (X := X) (n := n) (w0 := w0) (u := .lst ds) (a := w.length) (b := (w ++ [MO.lst ds]).length) (fun σ2 w2 => σ2 = [some (.obj n), some (.lst ds), some (.obj w.length), some (.obj (w ++ [MO.lst ds]).length)] ∧ ∃ es, es.Perm ds ∧ Bg n w0 w2 ∧ w2[(w ++ [MO.lst ds]).length]? = some (.lst ([] ++ es))) hn0 hb.l (by simp) hk (ds.length + 1) ds [] _ (Nat.lt_succ_self _) (by simpa using hl) ht ((hb.app _).app _) ea eb fun es w' hp hb' g => ⟨rfl, es, hp, hb', g⟩
  exact gd_weak lp fin (fun _ _ h => h.elim) (fun _ _ h => h.elim) (fun _ _ h => h.elim)
end
end Bk

set_option Elab.async false
set_option linter.all false
set_option autoImplicit false
set_option maxRecDepth 100000
set_option maxHeartbeats 4000000
/-! Bk4: names. -/
namespace Bk
open PySem L2 PyProof.Rows Si
/-- one step by the form of the code -/
local macro_rules | `(tactic| walk_at "g1") => `(tactic| with_reducible first
  | refine gd_seq ?_ | refine gd_nm ?_ | refine gd_asg ?_ | refine gd_ret ?_ | refine gd_if ?_ | refine gd_next ?_ | refine gd_expr ?_ | refine gd_par ?_ | refine gd_retN ?_ | refine gd_brk ?_ | refine gd_cnt ?_ | refine gd_for ?_
  | refine go_var rfl ?_ | refine go_c ?_ | refine go_op ?_ | refine go_call ?_ | refine go_callK ?_ | refine go_nil ?_ | refine go_cons ?_ | refine go_tup ?_ | refine go_lst ?_ | refine go_lstM ?_ | refine go_chain ?_ | refine go_and ?_ | refine go_or ?_ | refine go_not ?_
  | refine go_tru ?_ | refine go_asB ?_ | refine go_bAnd ?_ | refine go_bOr ?_ | refine go_bNot ?_ | refine go_bYes ?_ | refine go_if ?_ | refine go_neg ?_ | refine go_oNone ?_ | refine go_oSome ?_ | refine go_sl ?_ | refine go_isi ?_ | refine go_isi2 ?_
  | refine go_join ?_ | refine go_app ?_ | refine go_iter ?_ | refine go_zip ?_ | refine go_star ?_ | refine go_lenSet ?_ | refine go_enum ?_ | refine go_rng1 ?_ | refine go_rng2 ?_ | refine go_lc ?_ | refine go_lcM ?_
  | refine go_addI ?_ | refine go_subI ?_ | refine go_lt ?_ | refine go_le ?_ | refine go_gt ?_ | refine go_ge ?_ | refine go_eqI ?_ | refine go_neI ?_ | refine go_eqS ?_ | refine go_neS ?_ | refine go_lenL ?_ | refine go_lenT ?_ | refine go_lenS (by assumption) ?_
  | refine go_slL ?_ | refine go_slT ?_ | refine go_slS (by assumption) ?_ | refine go_ixL rfl ?_ | refine go_ixT rfl ?_ | refine go_intI ?_ | refine go_lstL ?_ | refine go_lstT ?_ | refine go_tupL ?_ | refine go_tupT ?_ | refine go_isN ?_ | refine go_notN ?_ | refine go_allM ?_
  | refine br_t ?_ | refine br_f ?_ | refine br_not ?_)
local macro_rules | `(tactic| walk_at "g2") => `(tactic| first
  | with_reducible refine ex_bl ?_ | with_reducible refine ex_int ?_ | with_reducible refine ex_str ?_ | with_reducible refine ex_nm ?_
  | with_reducible refine ex_zip ?_ | with_reducible refine ex_enum ?_
  | with_reducible refine ex_seq (by with_unfolding_all exact rfl) ?_
  | with_reducible refine ex_tg (by with_unfolding_all exact rfl) ?_
  | with_reducible refine ex_tru (by with_unfolding_all exact rfl) ?_
  | with_reducible refine ex_ty (by with_unfolding_all exact rfl) ?_
  | with_reducible refine ex_it (by with_unfolding_all exact rfl) ?_
  | with_reducible refine br_is (b := isB _ _) (by with_unfolding_all decide) ?_ | with_reducible refine br_isnt (b := isB _ _) (by with_unfolding_all decide) ?_
  | with_reducible refine br_is (b := isB _ _ || isB _ _) (by with_unfolding_all decide) ?_ | with_reducible refine br_isnt (b := isB _ _ || isB _ _) (by with_unfolding_all decide) ?_
  | with_reducible refine go_mulL ⟨by decide, by decide⟩ ?_ | with_reducible refine go_mulR ⟨by decide, by decide⟩ ?_ | with_reducible refine go_mod (by decide) ?_ | with_reducible refine go_div (by decide) (by decide) ?_
  | with_reducible refine go_inTt (by decide +kernel) (by decide +kernel) ?_ | with_reducible refine go_inTf (by decide +kernel) (by decide +kernel) ?_ | with_reducible refine go_niTt (by decide +kernel) (by decide +kernel) ?_ | with_reducible refine go_niTf (by decide +kernel) (by decide +kernel) ?_
  | (with_reducible refine an_rng ?hh ?_; case hh => (first | decide | omega))
  | (with_reducible refine an_rng2 ?hh ?_; case hh => (first | decide | omega))
  | (with_reducible refine an_le ?hh ?_; case hh => (first | decide | (simp only [List.length_cons, List.length_nil]; omega))))
local macro_rules | `(tactic| walk_at "gg") => `(tactic| repeat' (first | walk_at "g1" | walk_at "g2"))

/-- a name -/
structure NmOk (z : Str) : Prop where
  low : ∀ c ∈ z.cps.toList, 97 ≤ c ∧ c ≤ 122
  l1 : 1 ≤ z.length
  l6 : z.length ≤ 6
  nr : ∀ y ∈ (["age", "young", "none", "learn", "any"] : List Str), y ≠ z
theorem letter_in {c : Nat} (h : 97 ≤ c ∧ c ≤ 122) {w : Wd} : gIn (.str ⟨#[c]⟩) c_LETTERS w = .ok (.bl true) w := by
  have e : (Str.cps ("abcdefghijklmnopqrstuvwxyz" : Str)).toList = (List.range 26).map (97 + ·) := by decide +kernel
  show (match inD (.str ⟨#[c]⟩) c_LETTERS with | some b => R.ok (D.bl b) w | none => .stuck) = _
  have : inD (.str ⟨#[c]⟩) c_LETTERS = some (decide (c ∈ (Str.cps ("abcdefghijklmnopqrstuvwxyz" : Str)).toList)) := rfl
  rw [this, e, decide_eq_true]
  rw [List.mem_map]
  exact ⟨c - 97, List.mem_range.mpr (by omega), by omega⟩
section
variable {X : EX} {Q : D → Wd → Prop} {QA : List D → Wd → Prop} {w0 w : Wd} {n : Nat} {σ : En}
theorem is_word_ok {z : Str} (h : NmOk z) (q : Q (.bl true) w) : Go X (F_is_word [.str z] w) Q := by
  refine go_fn rfl ?_
  unfold M_is_word
  have hl : z.length ≤ 16777216 := Nat.le_trans h.l6 (by decide)
  walk_at "gg"
  refine br_y (by have := h.l1; omega) ?_
  walk_at "gg"
  refine br_y (by have := h.l6; omega) ?_
  walk_at "gg"
  refine lc_map (fun _ => .bl true) _ (by simpa [Si.signs, Str.length] using hl) (fun d hd => ?_) ?_
  · obtain ⟨c, hc, rfl⟩ := List.mem_map.mp hd
    walk_at "gg"
    exact go_ok (letter_in (h.low c hc)) ⟨rfl, rfl⟩
  · walk_at "gg"
    exact q
theorem is_name_ok {z : Str} (h : NmOk z) (q : Q (.bl true) w) : Go X (F_is_name [.str z] w) Q := by
  refine go_fn rfl ?_
  unfold M_is_name
  walk_at "gg"
  refine is_word_ok h ?_
  walk_at "gg"
  refine go_ok (a := D.bl true) (w' := w) ?_ q
  have n : ∀ y ∈ (["age", "young", "none", "learn", "any"] : List Str), (y == z) = false := fun y hy => beq_eq_false_iff_ne.mpr (h.nr y hy)
  have e : inD (.str z) c_RESERVED = some false := by
    show (if (flatD (.str z) && [D.str "age", D.str "young", D.str "none", D.str "learn", D.str "any"].all flatD) = true then some ([D.str "age", D.str "young", D.str "none", D.str "learn", D.str "any"].any fun d => eqF d (.str z)) else none) = _
    refine (if_pos rfl).trans ?_
    simp only [List.any_cons, List.any_nil, eqF]
    rw [n _ (by decide), n _ (by decide), n _ (by decide), n _ (by decide), n _ (by decide)]
    rfl
  unfold gNotIn
  have e2 : Si.dl (.str z) w = .str z := rfl
  have e3 : Si.dl c_RESERVED w = c_RESERVED := rfl
  rw [e2, e3, e]
  rfl
end
/-! the drawn names -/
def lets : List Nat := [98, 99, 100, 102, 103, 104, 106, 107, 108, 109, 112, 113, 114, 115, 116, 118, 119, 120, 122]
theorem lets_is : (Str.cps ("bcdfghjklmpqrstvwxz" : Str)).toList = lets := by decide +kernel
theorem nm_of {cs : List Nat} (h : ∀ c ∈ cs, c ∈ lets) (h1 : 1 ≤ cs.length) (h6 : cs.length ≤ 6) : NmOk (mkS cs) := by
  refine ⟨fun c hc => ?_, by rw [mkS_len]; exact h1, by rw [mkS_len]; exact h6, fun y hy e => ?_⟩
  · rw [mkS_cps] at hc
    exact (by decide : ∀ c ∈ lets, 97 ≤ c ∧ c ≤ 122) c (h c hc)
  · have e2 := congrArg (fun z : Str => z.cps.toList) e
    simp only [mkS_cps] at e2
    subst e2
    have : ∀ y ∈ (["age", "young", "none", "learn", "any"] : List Str), (y.cps.toList.all fun c => decide (c ∈ lets)) = false := by decide +kernel
    have h2 := this y hy
    rw [List.all_eq_false] at h2
    obtain ⟨c, hc, hd⟩ := h2
    exact hd (decide_eq_true (h c hc))
theorem cut_take {cs : List Nat} {a : Int} (h0 : 0 ≤ a) : cutS (mkS cs) none (some a) = mkS (cs.take a.toNat) := by
  obtain ⟨k, rfl⟩ := Int.eq_ofNat_of_zero_le h0
  unfold cutS
  rw [HT.sIx_none, HT.sIx_nat, mkS_cps, mkS_len, List.drop_zero, Nat.sub_zero, Int.toNat_natCast, Nat.min_def]
  split
  · rfl
  · rw [List.take_length, List.take_of_length_le (by omega)]; rfl
theorem cut_drop {cs : List Nat} {a : Int} (h0 : 0 ≤ a) : cutS (mkS cs) (some a) none = mkS (cs.drop a.toNat) := by
  obtain ⟨k, rfl⟩ := Int.eq_ofNat_of_zero_le h0
  unfold cutS
  rw [HT.sIx_none, HT.sIx_nat, mkS_cps, mkS_len, Int.toNat_natCast]
  have : (cs.drop (min k cs.length)).length ≤ cs.length - min k cs.length := by rw [List.length_drop]; omega
  rw [List.take_of_length_le this, Nat.min_def]
  split
  · rfl
  · rw [List.drop_length, List.drop_eq_nil_of_le (by omega)]; rfl
section
variable {X : EX} {Q : D → Wd → Prop} {QA : List D → Wd → Prop} {w0 w : Wd} {n : Nat} {σ : En}
theorem ones_of {P : Nat → Prop} : ∀ {ds ys : List D}, All2 (fun _ y => ∃ c, P c ∧ y = .str ⟨#[c]⟩) ds ys → ∃ cs : List Nat, ys = (cs.map fun c => D.str ⟨#[c]⟩) ∧ cs.length = ds.length ∧ ∀ c ∈ cs, P c
  | _, _, .nil => ⟨[], rfl, rfl, fun c h => by cases h⟩
  | _, _, .cons ⟨c, hc, e⟩ t => by
    obtain ⟨cs, h1, h2, h3⟩ := ones_of t
    refine ⟨c :: cs, by rw [h1, e]; rfl, by simp [h2], fun x hx => ?_⟩
    rcases List.mem_cons.mp hx with rfl | hx
    · exact hc
    · exact h3 x hx
theorem nodup_map_on {α β : Type} {f : α → β} : ∀ {l : List α}, (∀ i ∈ l, ∀ j ∈ l, f i = f j → i = j) → l.Nodup → (l.map f).Nodup
  | [], _, _ => .nil
  | x :: r, h, hn => by
    rw [List.nodup_cons] at hn
    rw [List.map_cons, List.nodup_cons]
    refine ⟨fun hm => ?_, nodup_map_on (fun i hi j hj => h i (List.mem_cons_of_mem _ hi) j (List.mem_cons_of_mem _ hj)) hn.2⟩
    obtain ⟨y, hy, e⟩ := List.mem_map.mp hm
    rw [h y (List.mem_cons_of_mem _ hy) x List.mem_cons_self e] at hy
    exact hn.1 hy
def nth (first : Int) (k : Nat) : Nat := lets.getD ((first + 5 * (k : Int)) % 19).toNat 0
def nmk (cs : List Nat) (a : Nat) (first : Int) (k : Nat) : Str := mkS (cs.take a ++ [nth first k] ++ cs.drop a)
theorem getD_of {l : List Nat} {i : Nat} (h : i < l.length) : l.getD i 0 = l[i] := by simp [List.getD, h]
theorem nmk_inj {cs : List Nat} {a : Nat} {first : Int} {i j : Nat} (hi : i < 19) (hj : j < 19) (h : nmk cs a first i = nmk cs a first j) : i = j := by
  have h2 := mkS_inj h
  have h3 : nth first i = nth first j := by
    have := List.append_cancel_left (List.append_cancel_right h2)
    simpa using this
  have hn : lets.Nodup := by decide
  have l : lets.length = 19 := rfl
  unfold nth at h3
  have b : ∀ k : Nat, ((first + 5 * (k : Int)) % 19).toNat < lets.length := fun k => by rw [l]; omega
  rw [getD_of (b i), getD_of (b j)] at h3
  have := (List.getElem_inj hn).mp h3
  omega
theorem nth_in {first : Int} {k : Nat} : nth first k ∈ lets ∧ L2.atI lets ((first + 5 * (k : Int)) % 19) = some (nth first k) := by
  have l : lets.length = 19 := rfl
  have b : ((first + 5 * (k : Int)) % 19).toNat < lets.length := by rw [l]; omega
  unfold nth
  rw [getD_of b]
  refine ⟨List.getElem_mem b, ?_⟩
  unfold L2.atI
  rw [ixN_nat (by omega) (by rw [l]; omega)]
  exact List.getElem?_eq_getElem b
theorem nmk_ok {cs : List Nat} {a : Nat} {first : Int} {k : Nat} (hc : ∀ c ∈ cs, c ∈ lets) (hl : cs.length ≤ 5) : NmOk (nmk cs a first k) := by
  have e : (cs.take a ++ [nth first k] ++ cs.drop a).length = cs.length + 1 := by simp only [List.length_append, List.length_take, List.length_drop, List.length_cons, List.length_nil]; omega
  refine nm_of (fun c h => ?_) (by omega) (by omega)
  simp only [List.mem_append, List.mem_singleton] at h
  rcases h with (h | h) | h
  · exact hc c (List.mem_of_mem_take h)
  · rw [h]; exact nth_in.1
  · exact hc c (List.mem_of_mem_drop h)
theorem namesb (hb : Bg n w0 w) {many : Nat} (hm : many ≤ 19) (q : ∀ (ns : List Str) w', ns.length = many → ns.Nodup → (∀ z ∈ ns, NmOk z) → Bg n w0 w' → Q (.lst (ns.map .str)) w') : Go X (F__law_names [.obj n, .int many] w) Q := by
  refine go_fn rfl ?_
  unfold M__law_names
  walk_at "gg"
  refine drb hb (by decide) (by decide) fun r w1 r0 r1 hb1 => ?_
  walk_at "gg"
  refine lc_draw (fun _ y => ∃ c, c ∈ lets ∧ y = .str ⟨#[c]⟩) _ (by simp only [rangeD, List.length_map, List.length_range]; omega) hb1 (fun d w hd hb => ?_) fun ys w2 ha hb2 => ?_
  · walk_at "gg"
    refine ofsb hb (by decide +kernel) (by decide +kernel) fun c w' hc hb' => ?_
    exact ⟨⟨c, lets_is ▸ hc, rfl⟩, hb'⟩
  obtain ⟨cs, rfl, hn, hc⟩ := ones_of ha
  simp only [rangeD, List.length_map, List.length_range] at hn
  refine go_joinO (by omega) ?_
  have hw : (mkS cs).length ≤ 16777216 := by rw [mkS_len]; omega
  walk_at "gg"
  refine drb hb2 (by omega) (by rw [mkS_len]; omega) fun a w3 a0 a1 hb3 => ?_
  walk_at "gg"
  refine drb hb3 (by decide) (by decide) fun f w4 f0 f1 hb4 => ?_
  walk_at "gg"
  refine lc_map (fun d => match d with | .int k => .str (nmk cs a.toNat f k.toNat) | d => d) _ (by simp only [rangeD, List.length_map, List.length_range]; omega) (fun d hd => ?_) ?_
  · obtain ⟨k, hk, rfl⟩ := List.mem_map.mp hd
    have e0 : (0 : Int) + (k : Nat) = (k : Int) := by omega
    rw [e0]
    walk_at "gg"
    refine go_ixS (by decide +kernel) (by rw [lets_is]; exact nth_in.2) ?_
    rw [cut_take a0]
    have hn2 : (mkS (cs.take a.toNat)).length ≤ 5 := by rw [mkS_len, List.length_take]; omega
    refine go_addS (by show _ + 1 ≤ _; omega) ?_
    rw [show (mkS (cs.take a.toNat) ++ (⟨#[nth f k]⟩ : Str)) = mkS (cs.take a.toNat ++ [nth f k]) from mkS_add (b := [nth f k])]
    walk_at "gg"
    rw [cut_drop a0]
    refine go_addS (by rw [mkS_len, mkS_len]; simp only [List.length_append, List.length_take, List.length_drop, List.length_cons, List.length_nil]; omega) ?_
    rw [mkS_add]
    exact ⟨rfl, rfl⟩
  · have e : ((rangeD 0 (many : Int).toNat).map fun d => match d with | .int k => D.str (nmk cs a.toNat f k.toNat) | d => d) = ((List.range many).map (nmk cs a.toNat f)).map .str := by
      unfold rangeD
      rw [List.map_map, List.map_map, Int.toNat_natCast]
      refine List.map_congr_left fun k _ => ?_
      show D.str (nmk cs a.toNat f ((0 : Int) + (k : Nat)).toNat) = _
      rw [show ((0 : Int) + (k : Nat)).toNat = k by omega]
      rfl
    rw [e]
    refine q _ _ (by simp) ?_ (fun z hz => ?_) hb4
    · exact nodup_map_on (fun i hi j hj h => nmk_inj (by have := List.mem_range.mp hi; omega) (by have := List.mem_range.mp hj; omega) h) List.nodup_range
    · obtain ⟨k, _, rfl⟩ := List.mem_map.mp hz
      exact nmk_ok hc (by omega)
end
end Bk

set_option Elab.async false
set_option linter.all false
set_option autoImplicit false
set_option maxRecDepth 100000
set_option maxHeartbeats 4000000
/-! Bk5: typed data; drawn tests, settings, moves. -/
namespace Bk
open PySem L2 PyProof.Rows Si
/-- one step by the form of the code -/
local macro_rules | `(tactic| walk_at "g1") => `(tactic| with_reducible first
  | refine gd_seq ?_ | refine gd_nm ?_ | refine gd_asg ?_ | refine gd_ret ?_ | refine gd_if ?_ | refine gd_next ?_ | refine gd_expr ?_ | refine gd_par ?_ | refine gd_retN ?_ | refine gd_brk ?_ | refine gd_cnt ?_ | refine gd_for ?_
  | refine go_var rfl ?_ | refine go_c ?_ | refine go_op ?_ | refine go_call ?_ | refine go_callK ?_ | refine go_nil ?_ | refine go_cons ?_ | refine go_tup ?_ | refine go_lst ?_ | refine go_lstM ?_ | refine go_chain ?_ | refine go_and ?_ | refine go_or ?_ | refine go_not ?_
  | refine go_tru ?_ | refine go_asB ?_ | refine go_bAnd ?_ | refine go_bOr ?_ | refine go_bNot ?_ | refine go_bYes ?_ | refine go_if ?_ | refine go_neg ?_ | refine go_oNone ?_ | refine go_oSome ?_ | refine go_sl ?_ | refine go_isi ?_ | refine go_isi2 ?_
  | refine go_join ?_ | refine go_app ?_ | refine go_iter ?_ | refine go_zip ?_ | refine go_star ?_ | refine go_lenSet ?_ | refine go_enum ?_ | refine go_rng1 ?_ | refine go_rng2 ?_ | refine go_lc ?_ | refine go_lcM ?_
  | refine go_addI ?_ | refine go_subI ?_ | refine go_lt ?_ | refine go_le ?_ | refine go_gt ?_ | refine go_ge ?_ | refine go_eqI ?_ | refine go_neI ?_ | refine go_eqS ?_ | refine go_neS ?_ | refine go_lenL ?_ | refine go_lenT ?_ | refine go_lenS (by assumption) ?_
  | refine go_slL ?_ | refine go_slT ?_ | refine go_slS (by assumption) ?_ | refine go_ixL rfl ?_ | refine go_ixT rfl ?_ | refine go_intI ?_ | refine go_lstL ?_ | refine go_lstT ?_ | refine go_tupL ?_ | refine go_tupT ?_ | refine go_isN ?_ | refine go_notN ?_ | refine go_allM ?_
  | refine br_t ?_ | refine br_f ?_ | refine br_not ?_)
local macro_rules | `(tactic| walk_at "g2") => `(tactic| first
  | with_reducible refine ex_bl ?_ | with_reducible refine ex_int ?_ | with_reducible refine ex_str ?_ | with_reducible refine ex_nm ?_
  | with_reducible refine ex_zip ?_ | with_reducible refine ex_enum ?_
  | with_reducible refine ex_seq (by with_unfolding_all exact rfl) ?_
  | with_reducible refine ex_tg (by with_unfolding_all exact rfl) ?_
  | with_reducible refine ex_tru (by with_unfolding_all exact rfl) ?_
  | with_reducible refine ex_ty (by with_unfolding_all exact rfl) ?_
  | with_reducible refine ex_it (by with_unfolding_all exact rfl) ?_
  | with_reducible refine br_is (b := isB _ _) (by with_unfolding_all decide) ?_ | with_reducible refine br_isnt (b := isB _ _) (by with_unfolding_all decide) ?_
  | with_reducible refine br_is (b := isB _ _ || isB _ _) (by with_unfolding_all decide) ?_ | with_reducible refine br_isnt (b := isB _ _ || isB _ _) (by with_unfolding_all decide) ?_
  | with_reducible refine go_mulL ⟨by decide, by decide⟩ ?_ | with_reducible refine go_mulR ⟨by decide, by decide⟩ ?_ | with_reducible refine go_mod (by decide) ?_ | with_reducible refine go_div (by decide) (by decide) ?_
  | with_reducible refine go_inTt (by decide +kernel) (by decide +kernel) ?_ | with_reducible refine go_inTf (by decide +kernel) (by decide +kernel) ?_ | with_reducible refine go_niTt (by decide +kernel) (by decide +kernel) ?_ | with_reducible refine go_niTf (by decide +kernel) (by decide +kernel) ?_
  | (with_reducible refine an_rng ?hh ?_; case hh => (first | decide | omega))
  | (with_reducible refine an_rng2 ?hh ?_; case hh => (first | decide | omega))
  | (with_reducible refine an_le ?hh ?_; case hh => (first | decide | (simp only [List.length_cons, List.length_nil]; omega))))
local macro_rules | `(tactic| walk_at "gg") => `(tactic| repeat' (first | walk_at "g1" | walk_at "g2"))

abbrev Prs := List (Str × Int)
def eP (p : Str × Int) : D := .tup [.str p.1, .int p.2]
abbrev eT (t : Prs) : D := .tup (t.map eP)
def eSt (p : Str × Str) : D := .tup [.str p.1, .str p.2]
abbrev eS (l : List Str) : List D := l.map .str
structure MarksOk (ma : List Str) : Prop where
  nd : ma.Nodup
  nm : ∀ z ∈ ma, NmOk z
  le : ma.length ≤ 3
structure TestsOk (ma : List Str) (t : Prs) : Prop where
  nd : (t.map (·.1)).Nodup
  le : t.length ≤ 8
  ok : ∀ p ∈ t, (p.1 ∈ ma ∧ 0 ≤ p.2 ∧ p.2 ≤ 1) ∨ ((p.1 = "age" ∨ p.1 = "young") ∧ 0 ≤ p.2 ∧ p.2 ≤ 6)
structure SetsOk (ma : List Str) (t : Prs) : Prop where
  nd : (t.map (·.1)).Nodup
  le : t.length ≤ 8
  ok : ∀ p ∈ t, p.1 ∈ ma ∧ 0 ≤ p.2 ∧ p.2 ≤ 1
structure StoresOk (st : List (Str × Str)) : Prop where
  nd : (st.map (·.1)).Nodup
  l1 : 1 ≤ st.length
  le : st.length ≤ 5
  ok : ∀ p ∈ st, NmOk p.1 ∧ (p.2 = "fine" ∨ p.2 = "coarse")
structure MovesOk (st : List (Str × Str)) (fo : Str) (t : Prs) : Prop where
  nd : (t.map (·.1)).Nodup
  le : t.length ≤ 8
  ok : ∀ p ∈ t, p.1 ∈ st.map (·.1) ∧ (p.2 = 1 ∨ (p.2 = -1 ∧ fo ≠ "most"))
theorem strOk_of {z : Str} (h : ∀ c ∈ z.cps.toList, c < 1114112) : PyData.strOk z = true := by
  unfold PyData.strOk
  rw [← Array.all_toList, List.all_eq_true]
  exact fun c hc => decide_eq_true (h c hc)
theorem NmOk.tm {z : Str} (h : NmOk z) {n : Nat} : tame n (.str z) = true := by
  have : PyData.strOk z = true := strOk_of fun c hc => by have := h.low c hc; omega
  cases n <;> (rw [tame]; exact this)
theorem tm_int {n : Nat} {i : Int} : tame n (.int i) = true := by cases n <;> rw [tame]
theorem tm_lit {n : Nat} {z : Str} (h : PyData.strOk z = true) : tame n (.str z) = true := by cases n <;> (rw [tame]; exact h)
theorem tm_P {n : Nat} {p : Str × Int} (h : ∀ n, tame n (.str p.1) = true) : tame (n + 1) (eP p) = true := tame_tup fun x hx => by
  simp only [List.mem_cons, List.not_mem_nil, or_false] at hx
  rcases hx with rfl | rfl
  · exact h n
  · exact tm_int
theorem tm_St {n : Nat} {p : Str × Str} (h : ∀ n, tame n (.str p.1) = true) (h2 : ∀ n, tame n (.str p.2) = true) : tame (n + 1) (eSt p) = true := tame_tup fun x hx => by
  simp only [List.mem_cons, List.not_mem_nil, or_false] at hx
  rcases hx with rfl | rfl
  · exact h n
  · exact h2 n
theorem perm_map_inv {α β : Type} {f : α → β} {es ds : List β} (p : es.Perm ds) : ∀ {l : List α}, ds = l.map f → ∃ l' : List α, es = l'.map f ∧ l'.Perm l := by
  induction p with
  | nil => intro l h; exact ⟨[], rfl, by cases l with | nil => exact .refl _ | cons => cases h⟩
  | cons x p ih =>
    intro l h
    cases l with
    | nil => cases h
    | cons a r =>
      rw [List.map_cons, List.cons.injEq] at h
      obtain ⟨l', e, q⟩ := ih h.2
      exact ⟨a :: l', by rw [List.map_cons, e, h.1], q.cons a⟩
  | swap x y r =>
    intro l h
    match l, h with
    | a :: b :: l0, h =>
      rw [List.map_cons, List.map_cons, List.cons.injEq, List.cons.injEq] at h
      exact ⟨b :: a :: l0, by rw [List.map_cons, List.map_cons, h.1, h.2.1, h.2.2], .swap _ _ _⟩
    | [a], h => simp at h
    | [], h => simp at h
  | trans _ _ ih1 ih2 =>
    intro l h
    obtain ⟨l2, e2, q2⟩ := ih2 h
    obtain ⟨l1, e1, q1⟩ := ih1 e2
    exact ⟨l1, e1, q1.trans q2⟩
theorem sub_map_inv {α β : Type} {f : α → β} {es ds : List β} (p : es.Sublist ds) : ∀ {l : List α}, ds = l.map f → ∃ l' : List α, es = l'.map f ∧ l'.Sublist l := by
  induction p with
  | slnil => intro l h; exact ⟨[], rfl, List.nil_sublist l⟩
  | cons x p ih =>
    intro l h
    cases l with
    | nil => cases h
    | cons a r =>
      rw [List.map_cons, List.cons.injEq] at h
      obtain ⟨l', e, q⟩ := ih h.2
      exact ⟨l', e, q.cons a⟩
  | cons_cons x p ih =>
    intro l h
    cases l with
    | nil => cases h
    | cons a r =>
      rw [List.map_cons, List.cons.injEq] at h
      obtain ⟨l', e, q⟩ := ih h.2
      exact ⟨a :: l', by rw [List.map_cons, e, h.1], q.cons_cons a⟩
/-- what the spec in cell m holds of what the draws read -/
structure Sq (n m : Nat) (w0 : Wd) (st : List (Str × Str)) (ma : List Str) (fo : Str) : Prop where
  ne : m ≠ n
  lt : n < w0.length
  ex : ∃ kvs, w0[m]? = some (.dct kvs) ∧ valD kvs (.inr "marks") = some (.lst (eS ma)) ∧ valD kvs (.inr "stores") = some (.lst (st.map eSt)) ∧ valD kvs (.inr "fold") = some (.str fo)
section
variable {X : EX} {Q : D → Wd → Prop} {QA : List D → Wd → Prop} {w0 w : Wd} {n m : Nat} {σ : En} {st : List (Str × Str)} {ma : List Str} {fo : Str}
theorem go_dget {kvs : List (Key × D)} {k : Str} {d : D} (h : w[m]? = some (.dct kvs)) (hv : valD kvs (.inr k) = some d) (q : Q d w) : Go X (gDGet (.obj m) (.str k) w) Q := by
  refine go_ok (a := d) (w' := w) ?_ q
  have e1 : dctL (.obj m) w = some (m, kvs) := by simp only [dctL, h]
  have e2 : keyD (.str k) = some (.inr k) := rfl
  unfold gDGet
  rw [e1, e2]
  dsimp only
  rw [hv]
theorem Sq.dma (hs : Sq n m w0 st ma fo) (hb : Bg n w0 w) (q : Q (.lst (eS ma)) w) : Go X (gDGet (.obj m) (.str "marks") w) Q :=
  let ⟨_, a, b, _, _⟩ := hs.ex; go_dget (hb.get a hs.ne) b q
theorem Sq.dst (hs : Sq n m w0 st ma fo) (hb : Bg n w0 w) (q : Q (.lst (st.map eSt)) w) : Go X (gDGet (.obj m) (.str "stores") w) Q :=
  let ⟨_, a, _, b, _⟩ := hs.ex; go_dget (hb.get a hs.ne) b q
theorem Sq.dfo (hs : Sq n m w0 st ma fo) (hb : Bg n w0 w) (q : Q (.str fo) w) : Go X (gDGet (.obj m) (.str "fold") w) Q :=
  let ⟨_, a, _, _, b⟩ := hs.ex; go_dget (hb.get a hs.ne) b q
def zp : D → Bool | .tup [_, .int i] => decide (i = 0) | _ => false
def zg : D → D | .tup [x, _] => x | d => d
theorem zip_sub : ∀ (ds ys : List D) (P : D → D → Prop), All2 P ds ys → (((zipD ds ys).filter zp).map zg).Sublist ds
  | _, _, _, .nil => List.Sublist.slnil
  | d :: r, y :: q, P, .cons h t => by
    have ih := zip_sub r q P t
    rw [zipD, List.filter_cons]
    by_cases hp : zp (.tup [d, y]) = true
    · rw [if_pos hp, List.map_cons]; exact ih.cons_cons d
    · rw [if_neg hp]; exact ih.cons d
theorem zip_in : ∀ {ds ys : List D}, All2 (fun _ y => ∃ i : Int, y = .int i) ds ys → ∀ {d : D}, d ∈ zipD ds ys → ∃ (x : D) (i : Int), d = .tup [x, .int i]
  | _, _, .nil, d, h => by cases h
  | x :: r, y :: q, .cons ⟨i, e⟩ t, d, h => by
    rw [zipD] at h
    rcases List.mem_cons.mp h with h | h
    · exact ⟨x, i, by rw [h, e]⟩
    · exact zip_in t h
theorem chosenb {ds : List D} {sh : Int} (hb : Bg n w0 w) (hl : ds.length ≤ 1000) (h0 : 0 < sh) (h1 : sh < 2 ^ 100) (q : ∀ (es : List D) w', es.Sublist ds → Bg n w0 w' → Q (.lst es) w') : Go X (F__law_chosen [.obj n, .lst ds, .int sh] w) Q := by
  refine go_fn rfl ?_
  unfold M__law_chosen
  walk_at "gg"
  refine lc_draw (fun _ y => ∃ i : Int, y = .int i) ds (by omega) hb (fun d w hd hb => ?_) fun ys w2 ha hb2 => ?_
  · walk_at "gg"
    exact drb hb h0 (by omega) fun r w' r0 r1 hb' => ⟨⟨r, rfl⟩, hb'⟩
  walk_at "gg"
  refine lc_filter zp zg (zipD ds ys) (by rw [zipD_len, ha.length_eq, Nat.min_self, ← ha.length_eq]; omega) (fun d hd => ?_) (q _ _ (zip_sub ds ys _ ha) hb2)
  obtain ⟨x, i, rfl⟩ := zip_in ha hd
  walk_at "gg"
  exact ⟨rfl, rfl, fun _ => go_var rfl ⟨rfl, rfl⟩⟩
def AgeOk (t : Prs) : Prop := t = [] ∨ ∃ (h : Str) (r : Int), 0 ≤ r ∧ r < 2 ∧ (h = "age" ∨ h = "young") ∧ t = [(h, r)]
theorem agesb (hb : Bg n w0 w) (q : ∀ (t : Prs) w', AgeOk t → Bg n w0 w' → Q (eT t) w') : Go X (F__law_ages [.obj n] w) Q := by
  refine go_fn rfl ?_
  unfold M__law_ages
  walk_at "gg"
  refine drb hb (by decide) (by decide) fun r w1 r0 r1 hb1 => ?_
  walk_at "gg"
  refine drb hb1 (by decide) (by decide) fun r2 w2 r20 r21 hb2 => ?_
  walk_at "gg"
  refine oflb hb2 (by simp) (by simp) fun d w3 hd hb3 => ?_
  simp only [List.mem_cons, List.not_mem_nil, or_false] at hd
  rcases hd with rfl | rfl | rfl | rfl | rfl
  · exact q [] _ (.inl rfl) hb3
  · exact q [] _ (.inl rfl) hb3
  · exact q [] _ (.inl rfl) hb3
  · exact q [("age", r)] _ (.inr ⟨_, r, r0, r1, .inl rfl, rfl⟩) hb3
  · exact q [("young", r2)] _ (.inr ⟨_, r2, r20, r21, .inr rfl, rfl⟩) hb3
/-- pairs drawn for the marks -/
theorem prs_of : ∀ {ma : List Str} {ys : List D}, All2 (fun d y => ∃ (z : Str) (r : Int), d = D.str z ∧ y = eP (z, r) ∧ 0 ≤ r ∧ r < 2) (eS ma) ys → ∃ t : Prs, ys = t.map eP ∧ t.map (·.1) = ma ∧ ∀ p ∈ t, 0 ≤ p.2 ∧ p.2 ≤ 1
  | [], _, .nil => ⟨[], rfl, rfl, fun p h => by cases h⟩
  | z :: r, _, .cons ⟨z', k, e1, e2, h0, h1⟩ t => by
    obtain ⟨t, a, b, c⟩ := prs_of t
    cases e1
    refine ⟨(z, k) :: t, by rw [e2, a]; rfl, by rw [List.map_cons, b], fun p hp => ?_⟩
    rcases List.mem_cons.mp hp with rfl | hp
    · exact ⟨h0, by show k ≤ 1; omega⟩
    · exact c p hp
theorem tests_tm {ma : List Str} (hma : MarksOk ma) {t : Prs} (h : TestsOk ma t) : ∀ d ∈ t.map eP, tame 1 d = true := by
  intro d hd
  obtain ⟨p, hp, rfl⟩ := List.mem_map.mp hd
  refine tm_P fun n => ?_
  rcases h.ok p hp with ⟨h1, _⟩ | ⟨h1 | h1, _⟩
  · exact (hma.nm _ h1).tm
  · rw [h1]; exact tm_lit (by decide +kernel)
  · rw [h1]; exact tm_lit (by decide +kernel)
theorem tests_join {ma : List Str} (hma : MarksOk ma) {t u : Prs} (hs : t.map (·.1) |>.Sublist ma) (hv : ∀ p ∈ t, 0 ≤ p.2 ∧ p.2 ≤ 1) (ha : AgeOk u) : TestsOk ma (t ++ u) := by
  have hl : t.length ≤ 3 := by have := hs.length_le; rw [List.length_map] at this; exact Nat.le_trans this hma.le
  have nin : ∀ z ∈ ma, z ≠ "age" ∧ z ≠ "young" := fun z hz => ⟨fun e => (hma.nm z hz).nr "age" (by decide) e.symm, fun e => (hma.nm z hz).nr "young" (by decide) e.symm⟩
  have hn : (t.map (·.1)).Nodup := hma.nd.sublist hs
  have hin : ∀ p ∈ t, p.1 ∈ ma := fun p hp => hs.subset (List.mem_map.mpr ⟨p, hp, rfl⟩)
  have old : ∀ p ∈ t, (p.1 ∈ ma ∧ 0 ≤ p.2 ∧ p.2 ≤ 1) ∨ ((p.1 = "age" ∨ p.1 = "young") ∧ 0 ≤ p.2 ∧ p.2 ≤ 6) := fun p hp => .inl ⟨hin p hp, hv p hp⟩
  rcases ha with rfl | ⟨h, r, r0, r1, hh, rfl⟩
  · rw [List.append_nil]; exact ⟨hn, by omega, old⟩
  · refine ⟨?_, by simp; omega, fun p hp => ?_⟩
    · rw [List.map_append, List.nodup_append]
      refine ⟨hn, by simp, fun a ha b hb e => ?_⟩
      obtain ⟨p, hp, rfl⟩ := List.mem_map.mp ha
      simp only [List.map_cons, List.map_nil, List.mem_singleton] at hb
      have e2 := e.trans hb
      rcases hh with rfl | rfl
      · exact (nin _ (hin p hp)).1 e2
      · exact (nin _ (hin p hp)).2 e2
    · rcases List.mem_append.mp hp with hp | hp
      · exact old p hp
      · rw [List.mem_singleton.mp hp]
        exact .inr ⟨hh, r0, by show r ≤ 6; omega⟩
theorem tests_perm {ma : List Str} {t u : Prs} (h : TestsOk ma t) (p : u.Perm t) : TestsOk ma u :=
  ⟨(p.map (·.1)).nodup_iff.mpr h.nd, by rw [p.length_eq]; exact h.le, fun x hx => h.ok x (p.mem_iff.mp hx)⟩
theorem drawn_testsb (hs : Sq n m w0 st ma fo) (hb : Bg n w0 w) (hma : MarksOk ma) (q : ∀ (t : Prs) w', TestsOk ma t → Bg n w0 w' → Q (eT t) w') : Go X (F__law_drawn_tests [.obj n, .obj m] w) Q := by
  refine go_fn rfl ?_
  unfold M__law_drawn_tests
  walk_at "gg"
  refine hs.dma hb ?_
  walk_at "gg"
  refine lc_draw (fun d y => ∃ (z : Str) (r : Int), d = D.str z ∧ y = eP (z, r) ∧ 0 ≤ r ∧ r < 2) _ (by have := hma.le; simp; omega) hb (fun d w hd hb => ?_) fun ys w2 ha hb2 => ?_
  · obtain ⟨z, _, rfl⟩ := List.mem_map.mp hd
    walk_at "gg"
    refine drb hb (by decide) (by decide) fun r w' r0 r1 hb' => ?_
    walk_at "gg"
    exact ⟨⟨z, r, rfl, rfl, r0, r1⟩, hb'⟩
  obtain ⟨t, rfl, h1, h2⟩ := prs_of ha
  walk_at "gg"
  have hl : t.length ≤ 3 := by have := congrArg List.length h1; rw [List.length_map] at this; have := hma.le; omega
  refine chosenb hb2 (by rw [List.length_map]; omega) (by decide) (by decide) fun es w3 he hb3 => ?_
  obtain ⟨t1, rfl, ht1⟩ := sub_map_inv he rfl
  walk_at "gg"
  refine agesb hb3 fun u w4 hu hb4 => ?_
  walk_at "gg"
  have hul : u.length ≤ 1 := by rcases hu with rfl | ⟨_, r, _, _, _, rfl⟩ <;> simp
  have ht1l := ht1.length_le
  have tok : TestsOk ma (t1 ++ u) := tests_join hma (h1 ▸ ht1.map _) (fun p hp => h2 p (ht1.subset hp)) hu
  refine go_addL (by rw [List.length_map, List.length_map]; omega) ?_
  rw [← List.map_append]
  walk_at "gg"
  refine mixedb (kk := 1) hb4 hs.lt (by rw [List.length_map, List.length_append]; omega) (by decide) (tests_tm hma tok) fun es w5 hp hb5 => ?_
  obtain ⟨t2, rfl, ht2⟩ := perm_map_inv hp rfl
  walk_at "gg"
  exact q t2 _ (tests_perm tok ht2) hb5
theorem settingsb (hs : Sq n m w0 st ma fo) (hb : Bg n w0 w) (hma : MarksOk ma) (q : ∀ (t : Prs) w', SetsOk ma t → Bg n w0 w' → Q (eT t) w') : Go X (F__law_settings [.obj n, .obj m] w) Q := by
  refine go_fn rfl ?_
  unfold M__law_settings
  walk_at "gg"
  refine hs.dma hb ?_
  walk_at "gg"
  refine lc_draw (fun d y => ∃ (z : Str) (r : Int), d = D.str z ∧ y = eP (z, r) ∧ 0 ≤ r ∧ r < 2) _ (by have := hma.le; simp; omega) hb (fun d w hd hb => ?_) fun ys w2 ha hb2 => ?_
  · obtain ⟨z, _, rfl⟩ := List.mem_map.mp hd
    walk_at "gg"
    refine drb hb (by decide) (by decide) fun r w' r0 r1 hb' => ?_
    walk_at "gg"
    exact ⟨⟨z, r, rfl, rfl, r0, r1⟩, hb'⟩
  obtain ⟨t, rfl, h1, h2⟩ := prs_of ha
  walk_at "gg"
  have hl : t.length ≤ 3 := by have := congrArg List.length h1; rw [List.length_map] at this; have := hma.le; omega
  refine chosenb hb2 (by rw [List.length_map]; omega) (by decide) (by decide) fun es w3 he hb3 => ?_
  obtain ⟨t1, rfl, ht1⟩ := sub_map_inv he rfl
  walk_at "gg"
  have hss : (t1.map (·.1)).Sublist ma := h1 ▸ ht1.map _
  exact q t1 _ ⟨hma.nd.sublist hss, by have := ht1.length_le; omega, fun p hp => ⟨hss.subset (List.mem_map.mpr ⟨p, hp, rfl⟩), h2 p (ht1.subset hp)⟩⟩ hb3
end
end Bk

set_option Elab.async false
set_option linter.all false
set_option autoImplicit false
set_option maxRecDepth 100000
set_option maxHeartbeats 4000000
/-! Bk6: drawn moves, steps, jobs, entries, readings. -/
namespace Bk
open PySem L2 PyProof.Rows Si
/-- one step by the form of the code -/
local macro_rules | `(tactic| walk_at "g1") => `(tactic| with_reducible first
  | refine gd_seq ?_ | refine gd_nm ?_ | refine gd_asg ?_ | refine gd_ret ?_ | refine gd_if ?_ | refine gd_next ?_ | refine gd_expr ?_ | refine gd_par ?_ | refine gd_retN ?_ | refine gd_brk ?_ | refine gd_cnt ?_ | refine gd_for ?_
  | refine go_var rfl ?_ | refine go_c ?_ | refine go_op ?_ | refine go_call ?_ | refine go_callK ?_ | refine go_nil ?_ | refine go_cons ?_ | refine go_tup ?_ | refine go_lst ?_ | refine go_lstM ?_ | refine go_chain ?_ | refine go_and ?_ | refine go_or ?_ | refine go_not ?_
  | refine go_tru ?_ | refine go_asB ?_ | refine go_bAnd ?_ | refine go_bOr ?_ | refine go_bNot ?_ | refine go_bYes ?_ | refine go_if ?_ | refine go_neg ?_ | refine go_oNone ?_ | refine go_oSome ?_ | refine go_sl ?_ | refine go_isi ?_ | refine go_isi2 ?_
  | refine go_join ?_ | refine go_app ?_ | refine go_iter ?_ | refine go_zip ?_ | refine go_star ?_ | refine go_lenSet ?_ | refine go_enum ?_ | refine go_rng1 ?_ | refine go_rng2 ?_ | refine go_lc ?_ | refine go_lcM ?_
  | refine go_addI ?_ | refine go_subI ?_ | refine go_lt ?_ | refine go_le ?_ | refine go_gt ?_ | refine go_ge ?_ | refine go_eqI ?_ | refine go_neI ?_ | refine go_eqS ?_ | refine go_neS ?_ | refine go_lenL ?_ | refine go_lenT ?_ | refine go_lenS (by assumption) ?_
  | refine go_slL ?_ | refine go_slT ?_ | refine go_slS (by assumption) ?_ | refine go_ixL rfl ?_ | refine go_ixT rfl ?_ | refine go_intI ?_ | refine go_lstL ?_ | refine go_lstT ?_ | refine go_tupL ?_ | refine go_tupT ?_ | refine go_isN ?_ | refine go_notN ?_ | refine go_allM ?_
  | refine br_t ?_ | refine br_f ?_ | refine br_not ?_)
local macro_rules | `(tactic| walk_at "g2") => `(tactic| first
  | with_reducible refine ex_bl ?_ | with_reducible refine ex_int ?_ | with_reducible refine ex_str ?_ | with_reducible refine ex_nm ?_
  | with_reducible refine ex_zip ?_ | with_reducible refine ex_enum ?_
  | with_reducible refine ex_seq (by with_unfolding_all exact rfl) ?_
  | with_reducible refine ex_tg (by with_unfolding_all exact rfl) ?_
  | with_reducible refine ex_tru (by with_unfolding_all exact rfl) ?_
  | with_reducible refine ex_ty (by with_unfolding_all exact rfl) ?_
  | with_reducible refine ex_it (by with_unfolding_all exact rfl) ?_
  | with_reducible refine br_is (b := isB _ _) (by with_unfolding_all decide) ?_ | with_reducible refine br_isnt (b := isB _ _) (by with_unfolding_all decide) ?_
  | with_reducible refine br_is (b := isB _ _ || isB _ _) (by with_unfolding_all decide) ?_ | with_reducible refine br_isnt (b := isB _ _ || isB _ _) (by with_unfolding_all decide) ?_
  | with_reducible refine go_mulL ⟨by decide, by decide⟩ ?_ | with_reducible refine go_mulR ⟨by decide, by decide⟩ ?_ | with_reducible refine go_mod (by decide) ?_ | with_reducible refine go_div (by decide) (by decide) ?_
  | with_reducible refine go_inTt (by decide +kernel) (by decide +kernel) ?_ | with_reducible refine go_inTf (by decide +kernel) (by decide +kernel) ?_ | with_reducible refine go_niTt (by decide +kernel) (by decide +kernel) ?_ | with_reducible refine go_niTf (by decide +kernel) (by decide +kernel) ?_
  | (with_reducible refine an_rng ?hh ?_; case hh => (first | decide | omega))
  | (with_reducible refine an_rng2 ?hh ?_; case hh => (first | decide | omega))
  | (with_reducible refine an_le ?hh ?_; case hh => (first | decide | (simp only [List.length_cons, List.length_nil]; omega))))
local macro_rules | `(tactic| walk_at "gg") => `(tactic| repeat' (first | walk_at "g1" | walk_at "g2"))

theorem cut_to {α : Type} {xs : List α} {a : Int} (h0 : 0 ≤ a) : cutD xs none (some a) = xs.take a.toNat := by
  obtain ⟨k, rfl⟩ := Int.eq_ofNat_of_zero_le h0
  unfold Si.cutD
  rw [HT.sIx_none, HT.sIx_nat, List.drop_zero, Nat.sub_zero, Int.toNat_natCast, Nat.min_def]
  split
  · rfl
  · rw [List.take_length, List.take_of_length_le (by omega)]
theorem cut_from {α : Type} {xs : List α} {a : Int} (h0 : 0 ≤ a) : cutD xs (some a) none = xs.drop a.toNat := by
  obtain ⟨k, rfl⟩ := Int.eq_ofNat_of_zero_le h0
  unfold Si.cutD
  rw [HT.sIx_none, HT.sIx_nat, Int.toNat_natCast]
  have : (xs.drop (min k xs.length)).length ≤ xs.length - min k xs.length := by rw [List.length_drop]; omega
  rw [List.take_of_length_le this, Nat.min_def]
  split
  · rfl
  · rw [List.drop_length, List.drop_eq_nil_of_le (by omega)]
theorem cut_mid {α : Type} {xs : List α} {a b : Int} (h0 : 0 ≤ a) (hb : a ≤ b) : cutD xs (some a) (some b) = (xs.take b.toNat).drop a.toNat := by
  obtain ⟨k, rfl⟩ := Int.eq_ofNat_of_zero_le h0
  obtain ⟨j, rfl⟩ := Int.eq_ofNat_of_zero_le (Int.le_trans h0 hb)
  unfold Si.cutD
  rw [HT.sIx_nat, HT.sIx_nat, Int.toNat_natCast, Int.toNat_natCast, List.drop_take]
  have hkj : k ≤ j := by omega
  by_cases h : k ≤ xs.length
  · rw [Nat.min_eq_left h]
    by_cases h2 : j ≤ xs.length
    · rw [Nat.min_eq_left h2]
    · rw [Nat.min_eq_right (by omega), List.take_of_length_le (by rw [List.length_drop]; omega), List.take_of_length_le (by rw [List.length_drop]; omega)]
  · rw [Nat.min_eq_right (by omega), List.drop_eq_nil_of_le (by omega), List.drop_eq_nil_of_le (by omega), List.take_nil, List.take_nil]
inductive Stp where
  | copy (t s : Str) | add (t s : Str) | drop (t : Str) | set (m : Str) (v : Int) | forget
def eStp : Stp → D
  | .copy t s => .tup [.str "copy", .str t, .str s]
  | .add t s => .tup [.str "add", .str t, .str s]
  | .drop t => .tup [.str "drop", .str t]
  | .set m v => .tup [.str "set", .str m, .int v]
  | .forget => .tup [.str "forget"]
structure Nt where
  w : Str
  t : Prs
  s : Prs
structure Ent where
  w : Str
  t : Prs
  k : Str
  m : Prs
  l : Bool
structure Jb where
  n : Str
  t : Prs
  d : Option Int
  s : List Stp
structure Rdg where
  w : Str
  t : Prs
  s : Option (List Str)
def eNt (x : Nt) : D := .tup [.str x.w, eT x.t, eT x.s]
def eEnt (x : Ent) : D := .tup [.str x.w, eT x.t, .str x.k, eT x.m, .bl x.l]
def eO : Option Int → D | none => .non | some i => .int i
def eJb (x : Jb) : D := .tup [.str x.n, eT x.t, eO x.d, .tup (x.s.map eStp)]
def eOS : Option (List Str) → D | none => .non | some l => .tup (eS l)
def eRdg (x : Rdg) : D := .tup [.str x.w, eT x.t, eOS x.s]
def PairOk (st : List (Str × Str)) (t s : Str) : Prop := ∃ pt ps, (t, pt) ∈ st ∧ (s, ps) ∈ st ∧ t ≠ s ∧ (pt = "coarse" ∨ ps = "fine")
def StpOk (st : List (Str × Str)) (ma : List Str) : Stp → Prop
  | .copy t s | .add t s => PairOk st t s
  | .drop t => t ∈ st.map (·.1)
  | .set m v => m ∈ ma ∧ 0 ≤ v ∧ v ≤ 1
  | .forget => True
structure NtOk (ma : List Str) (x : Nt) : Prop where
  w : x.w = "put" ∨ x.w = "take"
  t : TestsOk ma x.t
  s : SetsOk ma x.s
structure EntOk (st : List (Str × Str)) (ma : List Str) (fo : Str) (x : Ent) : Prop where
  w : x.w = "put" ∨ x.w = "take"
  t : TestsOk ma x.t
  k : x.k = "any" ∨ x.k = "no" ∨ x.k = "put" ∨ x.k = "take"
  m : MovesOk st fo x.m
structure JbOk (st : List (Str × Str)) (ma : List Str) (x : Jb) : Prop where
  n : NmOk x.n
  t : TestsOk ma x.t
  d : ∀ i, x.d = some i → 0 ≤ i ∧ i ≤ 6
  l1 : 1 ≤ x.s.length
  l5 : x.s.length ≤ 5
  s : ∀ y ∈ x.s, StpOk st ma y
structure RdgOk (st : List (Str × Str)) (ma : List Str) (x : Rdg) : Prop where
  w : x.w = "whole" ∨ x.w = "cut"
  t : TestsOk ma x.t
  s : ∀ l, x.s = some l → l.Nodup ∧ l.length ≤ 5 ∧ ∀ z ∈ l, ∃ p, (z, p) ∈ st ∧ (x.w = "whole" ∨ p = "fine")
section
variable {X : EX} {Q : D → Wd → Prop} {QA : List D → Wd → Prop} {w0 w : Wd} {n m : Nat} {σ : En} {st : List (Str × Str)} {ma : List Str} {fo : Str}
def d0 : D → D | .tup (x :: _) => x | d => d
theorem names_map : ∀ st : List (Str × Str), (st.map eSt).map d0 = eS (st.map (·.1))
  | [] => rfl
  | _ :: r => congrArg (_ :: ·) (names_map r)
theorem tm_names (hst : StoresOk st) {l : List Str} (h : ∀ z ∈ l, z ∈ st.map (·.1)) : ∀ d ∈ eS l, tame 1 d = true := by
  intro d hd
  obtain ⟨z, hz, rfl⟩ := List.mem_map.mp hd
  obtain ⟨p, hp, rfl⟩ := List.mem_map.mp (h z hz)
  exact (hst.ok p hp).1.tm
theorem moves_zip {st : List (Str × Str)} : ∀ {l : List Str} {ys : List D}, All2 (fun _ y => y = D.int 1 ∨ y = D.int (-1)) (eS l) ys → ∃ t : Prs, zipD (eS l) ys = t.map eP ∧ t.map (·.1) = l ∧ ∀ p ∈ t, p.2 = 1 ∨ p.2 = -1
  | [], _, .nil => ⟨[], rfl, rfl, fun p h => by cases h⟩
  | z :: r, _, .cons h t => by
    obtain ⟨t, a, b, c⟩ := moves_zip (st := st) t
    rcases h with rfl | rfl
    · refine ⟨(z, 1) :: t, congrArg (List.cons (eP (z, 1))) a, by rw [List.map_cons, b], fun p hp => ?_⟩
      rcases List.mem_cons.mp hp with rfl | hp
      · exact .inl rfl
      · exact c p hp
    · refine ⟨(z, -1) :: t, congrArg (List.cons (eP (z, -1))) a, by rw [List.map_cons, b], fun p hp => ?_⟩
      rcases List.mem_cons.mp hp with rfl | hp
      · exact .inr rfl
      · exact c p hp
theorem movesb {wd : Str} (hs : Sq n m w0 st ma fo) (hb : Bg n w0 w) (hst : StoresOk st) (q : ∀ (t : Prs) w', MovesOk st fo t → Bg n w0 w' → Q (eT t) w') : Go X (F__law_moves [.obj n, .obj m, .str wd] w) Q := by
  refine go_fn rfl ?_
  unfold M__law_moves
  walk_at "gg"
  refine hs.dst hb ?_
  walk_at "gg"
  have hle := hst.le
  refine lc_map d0 _ (by rw [List.length_map]; omega) (fun d hd => ?_) ?_
  · obtain ⟨p, hp, rfl⟩ := List.mem_map.mp hd
    unfold eSt
    walk_at "gg"
    exact ⟨rfl, rfl⟩
  rw [names_map]
  walk_at "gg"
  refine mixedb (kk := 1) hb hs.lt (by rw [List.length_map, List.length_map]; omega) (by decide) (tm_names hst fun z h => h) fun es w1 hp hb1 => ?_
  obtain ⟨l, rfl, hl⟩ := perm_map_inv hp rfl
  walk_at "gg"
  refine drb hb1 (by decide) (by decide) fun r w2 r0 r1 hb2 => ?_
  walk_at "gg"
  rw [cut_to (by omega), ← List.map_take]
  generalize hk : l.take (1 + r).toNat = l2
  have hsub : l2.Sublist l := hk ▸ List.take_sublist _ _
  have hnd : l2.Nodup := (hl.nodup_iff.mpr hst.nd).sublist hsub
  have hin : ∀ z ∈ l2, z ∈ st.map (·.1) := fun z hz => hl.mem_iff.mp (hsub.subset hz)
  have hlen : l2.length ≤ 5 := by have := hsub.length_le; have := hl.length_eq; rw [List.length_map] at this; omega
  walk_at "gg"
  refine hs.dfo hb2 ?_
  walk_at "gg"
  refine br_dec (fun hf => ?_) fun hf => ?_
  · walk_at "gg"
    refine lc_map (fun d => match d with | .str z => eP (z, 1) | d => d) _ (by rw [List.length_map]; omega) (fun d hd => ?_) ?_
    · obtain ⟨z, hz, rfl⟩ := List.mem_map.mp hd
      walk_at "gg"
      exact ⟨rfl, rfl⟩
    walk_at "gg"
    have e : (eS l2).map (fun d => match d with | .str z => eP (z, 1) | d => d) = (l2.map fun z => ((z, 1) : Str × Int)).map eP := by rw [List.map_map, List.map_map]; rfl
    rw [e]
    refine q _ _ ⟨by rw [List.map_map, show l2.map ((fun x : Str × Int => x.1) ∘ fun z => (z, 1)) = l2 from List.map_id l2]; exact hnd, by rw [List.length_map]; omega, fun p hp => ?_⟩ hb2
    obtain ⟨z, hz, rfl⟩ := List.mem_map.mp hp
    exact ⟨hin z hz, .inl rfl⟩
  walk_at "gg"
  refine br_two (fun d w => w = w2 ∧ ∃ i : Int, (i = 1 ∨ i = -1) ∧ d = .int i) (fun _ => ⟨rfl, 1, .inl rfl, rfl⟩) (fun _ => ⟨rfl, -1, .inr rfl, rfl⟩) fun d w3 ⟨e, i, hi, e2⟩ => ?_
  subst e e2
  walk_at "gg"
  refine lc_draw (fun _ y => y = D.int 1 ∨ y = D.int (-1)) _ (by rw [List.length_map]; omega) hb2 (fun d w hd hb => ?_) fun ys w3 ha hb3 => ?_
  · walk_at "gg"
    refine drb hb (by decide) (by decide) fun r w' r0 r1 hb' => ?_
    walk_at "gg"
    refine br_dec (fun _ => ?_) fun _ => ?_
    · walk_at "gg"
      refine ⟨?_, hb'⟩
      rcases hi with rfl | rfl
      · exact .inl rfl
      · exact .inr rfl
    · walk_at "gg"
      refine ⟨?_, hb'⟩
      rcases hi with rfl | rfl
      · exact .inr rfl
      · exact .inl rfl
  obtain ⟨t, e1, e2, e3⟩ := moves_zip (st := st) ha
  have htl : t.length ≤ 5 := by rw [← e2, List.length_map] at hlen; exact hlen
  walk_at "gg"
  rw [show zipD (List.map D.str l2) ys = t.map eP from e1]
  refine lc_map id _ (by rw [List.length_map]; omega) (fun d hd => ?_) ?_
  · obtain ⟨p, hp, rfl⟩ := List.mem_map.mp hd
    unfold eP
    walk_at "gg"
    exact ⟨rfl, rfl⟩
  rw [List.map_id]
  walk_at "gg"
  refine q t _ ⟨by rw [e2]; exact hnd, by omega, fun p hp => ⟨hin _ (by rw [← e2]; exact List.mem_map.mpr ⟨p, hp, rfl⟩), ?_⟩⟩ hb3
  rcases e3 p hp with h | h
  · exact .inl h
  · exact .inr ⟨h, hf⟩
end
end Bk

set_option Elab.async false
set_option linter.all false
set_option autoImplicit false
set_option maxRecDepth 100000
set_option maxHeartbeats 4000000
/-! Bk7: drawn steps, jobs, entries, readings. -/
namespace Bk
open PySem L2 PyProof.Rows Si
/-- one step by the form of the code -/
local macro_rules | `(tactic| walk_at "g1") => `(tactic| with_reducible first
  | refine gd_seq ?_ | refine gd_nm ?_ | refine gd_asg ?_ | refine gd_ret ?_ | refine gd_if ?_ | refine gd_next ?_ | refine gd_expr ?_ | refine gd_par ?_ | refine gd_retN ?_ | refine gd_brk ?_ | refine gd_cnt ?_ | refine gd_for ?_
  | refine go_var rfl ?_ | refine go_c ?_ | refine go_op ?_ | refine go_call ?_ | refine go_callK ?_ | refine go_nil ?_ | refine go_cons ?_ | refine go_tup ?_ | refine go_lst ?_ | refine go_lstM ?_ | refine go_chain ?_ | refine go_and ?_ | refine go_or ?_ | refine go_not ?_
  | refine go_tru ?_ | refine go_asB ?_ | refine go_bAnd ?_ | refine go_bOr ?_ | refine go_bNot ?_ | refine go_bYes ?_ | refine go_if ?_ | refine go_neg ?_ | refine go_oNone ?_ | refine go_oSome ?_ | refine go_sl ?_ | refine go_isi ?_ | refine go_isi2 ?_
  | refine go_join ?_ | refine go_app ?_ | refine go_iter ?_ | refine go_zip ?_ | refine go_star ?_ | refine go_lenSet ?_ | refine go_enum ?_ | refine go_rng1 ?_ | refine go_rng2 ?_ | refine go_lc ?_ | refine go_lcM ?_
  | refine go_addI ?_ | refine go_subI ?_ | refine go_lt ?_ | refine go_le ?_ | refine go_gt ?_ | refine go_ge ?_ | refine go_eqI ?_ | refine go_neI ?_ | refine go_eqS ?_ | refine go_neS ?_ | refine go_lenL ?_ | refine go_lenT ?_ | refine go_lenS (by assumption) ?_
  | refine go_slL ?_ | refine go_slT ?_ | refine go_slS (by assumption) ?_ | refine go_ixL rfl ?_ | refine go_ixT rfl ?_ | refine go_intI ?_ | refine go_lstL ?_ | refine go_lstT ?_ | refine go_tupL ?_ | refine go_tupT ?_ | refine go_isN ?_ | refine go_notN ?_ | refine go_allM ?_
  | refine br_t ?_ | refine br_f ?_ | refine br_not ?_)
local macro_rules | `(tactic| walk_at "g2") => `(tactic| first
  | with_reducible refine ex_bl ?_ | with_reducible refine ex_int ?_ | with_reducible refine ex_str ?_ | with_reducible refine ex_nm ?_
  | with_reducible refine ex_zip ?_ | with_reducible refine ex_enum ?_
  | with_reducible refine ex_seq (by with_unfolding_all exact rfl) ?_
  | with_reducible refine ex_tg (by with_unfolding_all exact rfl) ?_
  | with_reducible refine ex_tru (by with_unfolding_all exact rfl) ?_
  | with_reducible refine ex_ty (by with_unfolding_all exact rfl) ?_
  | with_reducible refine ex_it (by with_unfolding_all exact rfl) ?_
  | with_reducible refine br_is (b := isB _ _) (by with_unfolding_all decide) ?_ | with_reducible refine br_isnt (b := isB _ _) (by with_unfolding_all decide) ?_
  | with_reducible refine br_is (b := isB _ _ || isB _ _) (by with_unfolding_all decide) ?_ | with_reducible refine br_isnt (b := isB _ _ || isB _ _) (by with_unfolding_all decide) ?_
  | with_reducible refine go_mulL ⟨by decide, by decide⟩ ?_ | with_reducible refine go_mulR ⟨by decide, by decide⟩ ?_ | with_reducible refine go_mod (by decide) ?_ | with_reducible refine go_div (by decide) (by decide) ?_
  | with_reducible refine go_inTt (by decide +kernel) (by decide +kernel) ?_ | with_reducible refine go_inTf (by decide +kernel) (by decide +kernel) ?_ | with_reducible refine go_niTt (by decide +kernel) (by decide +kernel) ?_ | with_reducible refine go_niTf (by decide +kernel) (by decide +kernel) ?_
  | (with_reducible refine an_rng ?hh ?_; case hh => (first | decide | omega))
  | (with_reducible refine an_rng2 ?hh ?_; case hh => (first | decide | omega))
  | (with_reducible refine an_le ?hh ?_; case hh => (first | decide | (simp only [List.length_cons, List.length_nil]; omega))))
local macro_rules | `(tactic| walk_at "gg") => `(tactic| repeat' (first | walk_at "g1" | walk_at "g2"))

section
variable {X : EX} {Q : D → Wd → Prop} {QA : List D → Wd → Prop} {w0 w : Wd} {n m : Nat} {σ : En} {st : List (Str × Str)} {ma : List Str} {fo : Str}
def PairD (st : List (Str × Str)) (d : D) : Prop := ∃ t s, PairOk st t s ∧ d = .tup [.str t, .str s]
/-- what the loops over pairs keep: k pairs may still come -/
def InP (n : Nat) (w0 : Wd) (st : List (Str × Str)) (m a k : Nat) (σ : En) (w : Wd) : Prop :=
  (∃ o2 o3 o4 o5, σ = [some (.obj m), some (.obj a), o2, o3, o4, o5]) ∧ Bg n w0 w ∧ ∃ acc, w[a]? = some (.lst acc) ∧ acc.length + k ≤ 25 ∧ ∀ d ∈ acc, PairD st d
theorem pairsb (hs : Sq n m w0 st ma fo) (hb : Bg n w0 w) (hst : StoresOk st) (q : ∀ (ds : List D) w', ds.length ≤ 25 → (∀ d ∈ ds, PairD st d) → Bg n w0 w' → Q (.lst ds) w') : Go X (F__law_pairs [.obj m] w) Q := by
  refine go_fn rfl ?_
  unfold M__law_pairs
  walk_at "gg"
  have hb0 := hb.app [MO.lst []]
  refine hs.dst hb0 ?_
  walk_at "gg"
  have hal : w0.length ≤ w.length := hb.l
  have hle := hst.le
  refine gd_forL (fun r σ w' => (∀ p ∈ r, p ∈ st.map eSt) ∧ InP n w0 st m w.length (5 * r.length) σ w') ?_ ?_ _ _ _ ⟨fun p h => h, ⟨_, _, _, _, rfl⟩, hb0, [], by simp, by rw [List.length_map]; simp; omega, fun d h => by cases h⟩
  · rintro d r σ w1 ⟨hr, ⟨o2, o3, o4, o5, rfl⟩, hb1, acc, ha, hk, hp⟩
    obtain ⟨p, hpm, rfl⟩ := List.mem_map.mp (hr d List.mem_cons_self)
    obtain ⟨t, pt⟩ := p
    unfold eSt
    walk_at "gg"
    refine hs.dst hb1 ?_
    walk_at "gg"
    refine gd_forL (fun r2 σ w' => (∀ p ∈ r2, p ∈ st.map eSt) ∧ (∃ o4 o5, σ = [some (.obj m), some (.obj w.length), some (.str t), some (.str pt), o4, o5]) ∧ InP n w0 st m w.length (r2.length + 5 * r.length) σ w') ?_ ?_ _ _ _ ⟨fun p h => h, ⟨_, _, rfl⟩, ⟨_, _, _, _, rfl⟩, hb1, acc, ha, by rw [List.length_map]; simp only [List.length_cons] at hk; omega, hp⟩
    · rintro d r2 σ w2 ⟨hr2, ⟨o4, o5, rfl⟩, _, hb2, acc2, ha2, hk2, hp2⟩
      obtain ⟨p2, hpm2, rfl⟩ := List.mem_map.mp (hr2 d List.mem_cons_self)
      obtain ⟨s, ps⟩ := p2
      unfold eSt
      walk_at "gg"
      simp only [List.length_cons] at hk2
      have stay : InP n w0 st m w.length (r2.length + 5 * r.length) [some (.obj m), some (.obj w.length), some (.str t), some (.str pt), some (.str s), some (.str ps)] w2 := ⟨⟨_, _, _, _, rfl⟩, hb2, acc2, ha2, by omega, hp2⟩
      have more : t ≠ s → (pt = "coarse" ∨ ps = "fine") → InP n w0 st m w.length (r2.length + 5 * r.length) [some (.obj m), some (.obj w.length), some (.str t), some (.str pt), some (.str s), some (.str ps)] (w2.set w.length (.lst (acc2 ++ [.tup [.str t, .str s]]))) := fun h1 h2 =>
        ⟨⟨_, _, _, _, rfl⟩, hb2.setN hal _ hs.lt, _, List.getElem?_set_self (lt_of_get ha2), by simp; omega, fun d hd => by
          rcases List.mem_append.mp hd with hd | hd
          · exact hp2 d hd
          · exact ⟨t, s, ⟨pt, ps, hpm, hpm2, h1, h2⟩, List.mem_singleton.mp hd⟩⟩
      refine br_dec (fun h => ?_) fun h => ?_
      · walk_at "gg"
        exact ⟨fun p h => hr2 p (List.mem_cons_of_mem _ h), ⟨_, _, rfl⟩, stay⟩
      · walk_at "gg"
        refine br_dec (fun h2 => ?_) fun h2 => ?_
        · walk_at "gg"
          refine ⟨by rw [cel_of ha2]; rfl, ?_⟩
          walk_at "gg"
          exact ⟨w.length, acc2, cel_of ha2, by omega, fun p h => hr2 p (List.mem_cons_of_mem _ h), ⟨_, _, rfl⟩, more h (.inl h2)⟩
        · walk_at "gg"
          refine br_dec (fun h3 => ?_) fun h3 => ?_
          · walk_at "gg"
            refine ⟨by rw [cel_of ha2]; rfl, ?_⟩
            walk_at "gg"
            exact ⟨w.length, acc2, cel_of ha2, by omega, fun p h => hr2 p (List.mem_cons_of_mem _ h), ⟨_, _, rfl⟩, more h (.inr h3)⟩
          · walk_at "gg"
            exact ⟨fun p h => hr2 p (List.mem_cons_of_mem _ h), ⟨_, _, rfl⟩, stay⟩
    · rintro σ w2 ⟨_, _, h⟩
      simp only [List.length_nil, Nat.zero_add] at h
      exact ⟨fun p h => hr p (List.mem_cons_of_mem _ h), h⟩
  · rintro σ w1 ⟨_, ⟨o2, o3, o4, o5, rfl⟩, hb1, acc, ha, hk, hp⟩
    refine gd_toS (go_var rfl ?_)
    rw [cel_of ha]
    exact q acc _ (by simp only [List.length_nil] at hk; omega) hp (hb1.setN hal _ hs.lt)
theorem pairs_tm (hst : StoresOk st) {ds : List D} (h : ∀ d ∈ ds, PairD st d) : ∀ d ∈ ds, tame 1 d = true := by
  intro d hd
  obtain ⟨t, s, ⟨pt, ps, h1, h2, _⟩, rfl⟩ := h d hd
  exact tm_St (p := (t, s)) (fun n => (hst.ok _ h1).1.tm) fun n => (hst.ok _ h2).1.tm
theorem drawn_stepb (hs : Sq n m w0 st ma fo) (hb : Bg n w0 w) (hst : StoresOk st) (hma : MarksOk ma) (q : ∀ (y : Stp) w', StpOk st ma y → Bg n w0 w' → Q (eStp y) w') : Go X (F__law_drawn_step [.obj n, .obj m] w) Q := by
  refine go_fn rfl ?_
  unfold M__law_drawn_step
  walk_at "gg"
  refine pairsb hs hb hst fun ds w1 hl hp hb1 => ?_
  walk_at "gg"
  refine drb hb1 (by decide) (by decide) fun r w2 r0 r1 hb2 => ?_
  walk_at "gg"
  have tail : Gd X (fun x w1 => Q D.non w1) Q (fun x x_1 => False) (fun x x_1 => False)
      ((mSeq (mIfS (bAnd (asB (mOp gIn (mVar 3) (mTup (aCons (mC (.int 3)) (aCons (mC (.int 4)) aNil))))) (asB (mOp gNe (mOp gDGet (mVar 1) (mC (.str "marks"))) (mLst aNil)))) (mRet (mTup (aCons (mC (.str "set")) (aCons (mCall G__law_of (aCons (mVar 0) (aCons (mOp gDGet (mVar 1) (mC (.str "marks"))) aNil))) (aCons (mCall G__law_draw (aCons (mVar 0) (aCons (mC (.int 2)) aNil))) aNil))))) mNext)
  (mRet (mIf (asB (mOp gEq (mVar 3) (mC (.int 5)))) (mTup (aCons (mC (.str "forget")) aNil)) (mTup (aCons (mC (.str "drop")) (aCons (mOp gIx (mCall G__law_of (aCons (mVar 0) (aCons (mOp gDGet (mVar 1) (mC (.str "stores"))) aNil))) (mC (.int 0))) aNil))))))
      [some (.obj n), some (.obj m), some (.lst ds), some (.int r), none, none] w2) := by
    have last : Gd X (fun x w1 => Q D.non w1) Q (fun x x_1 => False) (fun x x_1 => False) (mRet (mIf (asB (mOp gEq (mVar 3) (mC (.int 5)))) (mTup (aCons (mC (.str "forget")) aNil)) (mTup (aCons (mC (.str "drop")) (aCons (mOp gIx (mCall G__law_of (aCons (mVar 0) (aCons (mOp gDGet (mVar 1) (mC (.str "stores"))) aNil))) (mC (.int 0))) aNil)))) [some (.obj n), some (.obj m), some (.lst ds), some (.int r), none, none] w2) := by
      walk_at "gg"
      refine br_dec (fun h => ?_) fun h => ?_
      · walk_at "gg"
        exact q .forget _ trivial hb2
      · walk_at "gg"
        refine hs.dst hb2 ?_
        walk_at "gg"
        have h1 := hst.l1
        have hle := hst.le
        refine oflb hb2 (by rw [List.length_map]; omega) (by rw [List.length_map]; omega) fun d w3 hd hb3 => ?_
        obtain ⟨p, hp, rfl⟩ := List.mem_map.mp hd
        unfold eSt
        walk_at "gg"
        exact q (.drop p.1) _ (List.mem_map.mpr ⟨p, hp, rfl⟩) hb3
    walk_at "gg"
    have e : gIn (.int r) (.tup [.int 3, .int 4]) w2 = .ok (D.bl (decide (r = 3 ∨ r = 4))) w2 := by
      show R.ok (D.bl ([D.int 3, D.int 4].any fun d => eqF d (.int r))) w2 = _
      simp only [List.any_cons, List.any_nil, eqF, Bool.or_false]
      congr 2
      rw [Bool.eq_iff_iff]
      simp only [Bool.or_eq_true, beq_iff_eq, decide_eq_true_eq]
      omega
    refine go_ok e ?_
    walk_at "gg"
    refine br_dec (fun h => ?_) fun h => ?_
    · walk_at "gg"
      refine hs.dma hb2 ?_
      walk_at "gg"
      refine go_neNil (k := 1) rfl rfl (tame_lst fun d hd => ?_) (by decide) ?_
      · obtain ⟨z, hz, rfl⟩ := List.mem_map.mp hd
        exact (hma.nm z hz).tm
      walk_at "gg"
      refine br_both (fun h2 => ?_) fun h2 => ?_
      · repeat' (first | exact last | walk_at "g1" | walk_at "g2")
      · walk_at "gg"
        refine hs.dma hb2 ?_
        walk_at "gg"
        have h3 : 0 < ma.length := by cases ma with | nil => cases h2 | cons => simp
        have hle := hma.le
        refine oflb hb2 (by rw [List.length_map]; exact h3) (by rw [List.length_map]; omega) fun d w3 hd hb3 => ?_
        obtain ⟨z, hz, rfl⟩ := List.mem_map.mp hd
        walk_at "gg"
        refine drb hb3 (by decide) (by decide) fun v w4 v0 v1 hb4 => ?_
        walk_at "gg"
        exact q (.set z v) _ ⟨hz, v0, by omega⟩ hb4
    · repeat' (first | exact last | walk_at "g1" | walk_at "g2")
  refine br_dec (fun h => ?_) fun h => ?_
  · walk_at "gg"
    refine go_neNil (k := 2) rfl rfl (tame_lst (pairs_tm hst hp)) (by decide) ?_
    walk_at "gg"
    refine br_both (fun h2 => ?_) fun h2 => ?_
    · repeat' (first | exact tail | walk_at "g1" | walk_at "g2")
    · walk_at "gg"
      have h3 : 0 < ds.length := by cases ds with | nil => cases h2 | cons => simp
      refine oflb hb2 h3 (by omega) fun d w3 hd hb3 => ?_
      obtain ⟨t, s, hts, rfl⟩ := hp d hd
      walk_at "gg"
      have hr : r = 0 ∨ r = 1 ∨ r = 2 := by omega
      rcases hr with rfl | rfl | rfl
      · walk_at "gg"
        exact q (.copy t s) _ hts hb3
      · walk_at "gg"
        exact q (.copy t s) _ hts hb3
      · walk_at "gg"
        exact q (.add t s) _ hts hb3
  · repeat' (first | exact tail | walk_at "g1" | walk_at "g2")
end
end Bk

set_option Elab.async false
set_option linter.all false
set_option autoImplicit false
set_option maxRecDepth 100000
set_option maxHeartbeats 4000000
/-! Bk8: drawn jobs, entries, readings. -/
namespace Bk
open PySem L2 PyProof.Rows Si
/-- one step by the form of the code -/
local macro_rules | `(tactic| walk_at "g1") => `(tactic| with_reducible first
  | refine gd_seq ?_ | refine gd_nm ?_ | refine gd_asg ?_ | refine gd_ret ?_ | refine gd_if ?_ | refine gd_next ?_ | refine gd_expr ?_ | refine gd_par ?_ | refine gd_retN ?_ | refine gd_brk ?_ | refine gd_cnt ?_ | refine gd_for ?_
  | refine go_var rfl ?_ | refine go_c ?_ | refine go_op ?_ | refine go_call ?_ | refine go_callK ?_ | refine go_nil ?_ | refine go_cons ?_ | refine go_tup ?_ | refine go_lst ?_ | refine go_lstM ?_ | refine go_chain ?_ | refine go_and ?_ | refine go_or ?_ | refine go_not ?_
  | refine go_tru ?_ | refine go_asB ?_ | refine go_bAnd ?_ | refine go_bOr ?_ | refine go_bNot ?_ | refine go_bYes ?_ | refine go_if ?_ | refine go_neg ?_ | refine go_oNone ?_ | refine go_oSome ?_ | refine go_sl ?_ | refine go_isi ?_ | refine go_isi2 ?_
  | refine go_join ?_ | refine go_app ?_ | refine go_iter ?_ | refine go_zip ?_ | refine go_star ?_ | refine go_lenSet ?_ | refine go_enum ?_ | refine go_rng1 ?_ | refine go_rng2 ?_ | refine go_lc ?_ | refine go_lcM ?_
  | refine go_addI ?_ | refine go_subI ?_ | refine go_lt ?_ | refine go_le ?_ | refine go_gt ?_ | refine go_ge ?_ | refine go_eqI ?_ | refine go_neI ?_ | refine go_eqS ?_ | refine go_neS ?_ | refine go_lenL ?_ | refine go_lenT ?_ | refine go_lenS (by assumption) ?_
  | refine go_slL ?_ | refine go_slT ?_ | refine go_slS (by assumption) ?_ | refine go_ixL rfl ?_ | refine go_ixT rfl ?_ | refine go_intI ?_ | refine go_lstL ?_ | refine go_lstT ?_ | refine go_tupL ?_ | refine go_tupT ?_ | refine go_isN ?_ | refine go_notN ?_ | refine go_allM ?_
  | refine br_t ?_ | refine br_f ?_ | refine br_not ?_)
local macro_rules | `(tactic| walk_at "g2") => `(tactic| first
  | with_reducible refine ex_bl ?_ | with_reducible refine ex_int ?_ | with_reducible refine ex_str ?_ | with_reducible refine ex_nm ?_
  | with_reducible refine ex_zip ?_ | with_reducible refine ex_enum ?_
  | with_reducible refine ex_seq (by with_unfolding_all exact rfl) ?_
  | with_reducible refine ex_tg (by with_unfolding_all exact rfl) ?_
  | with_reducible refine ex_tru (by with_unfolding_all exact rfl) ?_
  | with_reducible refine ex_ty (by with_unfolding_all exact rfl) ?_
  | with_reducible refine ex_it (by with_unfolding_all exact rfl) ?_
  | with_reducible refine br_is (b := isB _ _) (by with_unfolding_all decide) ?_ | with_reducible refine br_isnt (b := isB _ _) (by with_unfolding_all decide) ?_
  | with_reducible refine br_is (b := isB _ _ || isB _ _) (by with_unfolding_all decide) ?_ | with_reducible refine br_isnt (b := isB _ _ || isB _ _) (by with_unfolding_all decide) ?_
  | with_reducible refine go_mulL ⟨by decide, by decide⟩ ?_ | with_reducible refine go_mulR ⟨by decide, by decide⟩ ?_ | with_reducible refine go_mod (by decide) ?_ | with_reducible refine go_div (by decide) (by decide) ?_
  | with_reducible refine go_inTt (by decide +kernel) (by decide +kernel) ?_ | with_reducible refine go_inTf (by decide +kernel) (by decide +kernel) ?_ | with_reducible refine go_niTt (by decide +kernel) (by decide +kernel) ?_ | with_reducible refine go_niTf (by decide +kernel) (by decide +kernel) ?_
  | (with_reducible refine an_rng ?hh ?_; case hh => (first | decide | omega))
  | (with_reducible refine an_rng2 ?hh ?_; case hh => (first | decide | omega))
  | (with_reducible refine an_le ?hh ?_; case hh => (first | decide | (simp only [List.length_cons, List.length_nil]; omega))))
local macro_rules | `(tactic| walk_at "gg") => `(tactic| repeat' (first | walk_at "g1" | walk_at "g2"))

theorem range_len {i : Int} {k : Nat} : (rangeD i k).length = k := by simp [rangeD]
/-- what a drawing comprehension gathers, as typed data -/
theorem all2_map {α : Type} {f : α → D} {P : α → Prop} : ∀ {ds ys : List D}, All2 (fun _ y => ∃ x, P x ∧ y = f x) ds ys → ∃ l : List α, ys = l.map f ∧ l.length = ds.length ∧ ∀ x ∈ l, P x
  | _, _, .nil => ⟨[], rfl, rfl, fun c h => by cases h⟩
  | _, _, .cons ⟨c, hc, e⟩ t => by
    obtain ⟨cs, h1, h2, h3⟩ := all2_map t
    refine ⟨c :: cs, by rw [h1, e]; rfl, by simp [h2], fun x hx => ?_⟩
    rcases List.mem_cons.mp hx with rfl | hx
    · exact hc
    · exact h3 x hx
section
variable {X : EX} {Q : D → Wd → Prop} {QA : List D → Wd → Prop} {w0 w : Wd} {n m : Nat} {σ : En} {st : List (Str × Str)} {ma : List Str} {fo : Str}
/-- a comprehension whose element draws typed things -/
theorem lc_drawT {α : Type} {own : List Nat} {f : D → En → Wd → Option En} {me : En → Wd → R D} (P : α → Prop) (e : α → D) (ds : List D) (hl : ds.length ≤ 16777216) (hb : Bg n w0 w)
    (hs : ∀ d w, d ∈ ds → Bg n w0 w → ∃ σ1, f d (wipeD σ own) w = some σ1 ∧ Go EX0 (me σ1 w) fun y w2 => (∃ x, P x ∧ y = e x) ∧ Bg n w0 w2)
    (q : ∀ (l : List α) w', l.length = ds.length → (∀ x ∈ l, P x) → Bg n w0 w' → QA (l.map e) w') : Go X (lcL own f bYes me σ ds [] w) QA :=
  lc_draw (fun _ y => ∃ x, P x ∧ y = e x) ds hl hb hs fun ys w' ha hb' => by
    obtain ⟨l, rfl, h1, h2⟩ := all2_map ha
    exact q l w' h1 h2 hb'
theorem drawn_jobb {z : Str} {most : Int} (hs : Sq n m w0 st ma fo) (hb : Bg n w0 w) (hst : StoresOk st) (hma : MarksOk ma) (hz : NmOk z) (h0 : 0 < most) (h5 : most ≤ 5) (q : ∀ (x : Jb) w', JbOk st ma x → x.n = z → Bg n w0 w' → Q (eJb x) w') : Go X (F__law_drawn_job [.obj n, .obj m, .str z, .int most] w) Q := by
  refine go_fn rfl ?_
  unfold M__law_drawn_job
  walk_at "gg"
  refine drb hb h0 (by omega) fun r w1 r0 r1 hb1 => ?_
  walk_at "gg"
  refine lc_drawT (StpOk st ma) eStp _ (by rw [range_len]; omega) hb1 (fun d w hd hb => ?_) fun l w2 hl hp hb2 => ?_
  · walk_at "gg"
    exact drawn_stepb hs hb hst hma fun y w' hy hb' => ⟨⟨y, hy, rfl⟩, hb'⟩
  rw [range_len] at hl
  walk_at "gg"
  refine drawn_testsb hs hb2 hma fun t w3 ht hb3 => ?_
  walk_at "gg"
  refine oflb hb3 (by simp) (by simp) fun d w4 hd hb4 => ?_
  simp only [List.mem_cons, List.not_mem_nil, or_false] at hd
  have fin : ∀ o : Option Int, (∀ i, o = some i → 0 ≤ i ∧ i ≤ 6) → Q (.tup [.str z, eT t, eO o, .tup (l.map eStp)]) w4 := fun o ho => q ⟨z, t, o, l⟩ _ ⟨hz, ht, ho, by show 1 ≤ l.length; omega, by show l.length ≤ 5; omega, hp⟩ rfl hb4
  rcases hd with rfl | rfl | rfl | rfl
  · walk_at "gg"
    exact fin none fun i h => by cases h
  · walk_at "gg"
    exact fin (some 0) fun i h => by cases h; decide
  · walk_at "gg"
    exact fin (some 1) fun i h => by cases h; decide
  · walk_at "gg"
    exact fin (some 0) fun i h => by cases h; decide
theorem drawn_entryb {wd : Str} (hw : wd = "put" ∨ wd = "take") (hs : Sq n m w0 st ma fo) (hb : Bg n w0 w) (hst : StoresOk st) (hma : MarksOk ma) (q : ∀ (x : Ent) w', EntOk st ma fo x → Bg n w0 w' → Q (eEnt x) w') : Go X (F__law_drawn_entry [.obj n, .obj m, .str wd] w) Q := by
  refine go_fn rfl ?_
  unfold M__law_drawn_entry
  walk_at "gg"
  refine br_two (fun d w' => w' = w ∧ ∃ ds, d = .lst ds ∧ ds.length = 4 ∧ ∀ x ∈ ds, ∃ k : Str, x = .str k ∧ (k = "any" ∨ k = "no" ∨ k = "put" ∨ k = "take")) (fun _ => ?_) (fun _ => ?_) fun d w1 ⟨e, ds, e2, hl, hk⟩ => ?_
  · walk_at "gg"
    refine ⟨rfl, _, rfl, rfl, fun x hx => ?_⟩
    simp only [List.mem_cons, List.not_mem_nil, or_false] at hx
    rcases hx with rfl | rfl | rfl | rfl <;> exact ⟨_, rfl, by simp⟩
  · walk_at "gg"
    refine ⟨rfl, _, rfl, rfl, fun x hx => ?_⟩
    simp only [List.mem_cons, List.not_mem_nil, or_false] at hx
    rcases hx with rfl | rfl | rfl | rfl <;> exact ⟨_, rfl, by simp⟩
  subst e e2
  walk_at "gg"
  refine oflb hb (by omega) (by omega) fun d w2 hd hb2 => ?_
  obtain ⟨k, rfl, hk⟩ := hk d hd
  walk_at "gg"
  refine drawn_testsb hs hb2 hma fun t w3 ht hb3 => ?_
  walk_at "gg"
  refine movesb hs hb3 hst fun mv w4 hmv hb4 => ?_
  walk_at "gg"
  refine drb hb4 (by decide) (by decide) fun r w5 r0 r1 hb5 => ?_
  walk_at "gg"
  exact q ⟨wd, t, k, mv, decide (0 < r)⟩ _ ⟨hw, ht, hk, hmv⟩ hb5
theorem drawn_readingb {wd : Str} (hw : wd = "whole" ∨ wd = "cut") (hs : Sq n m w0 st ma fo) (hb : Bg n w0 w) (hst : StoresOk st) (hma : MarksOk ma) (q : ∀ (x : Rdg) w', RdgOk st ma x → Bg n w0 w' → Q (eRdg x) w') : Go X (F__law_drawn_reading [.obj n, .obj m, .str wd] w) Q := by
  refine go_fn rfl ?_
  unfold M__law_drawn_reading
  walk_at "gg"
  refine hs.dst hb ?_
  walk_at "gg"
  have hle := hst.le
  refine lc_filter (fun d => match d with | .tup [_, .str p] => decide (wd = "whole") || decide (p = "fine") | _ => false) d0 _ (by rw [List.length_map]; omega) (fun d hd => ?_) ?_
  · obtain ⟨p, hp, rfl⟩ := List.mem_map.mp hd
    unfold eSt
    walk_at "gg"
    refine br_dec (fun h => ?_) fun h => ?_
    · refine ⟨by simp [h], rfl, fun _ => go_var rfl ⟨rfl, rfl⟩⟩
    · walk_at "gg"
      exact ⟨by simp [h], rfl, fun _ => go_var rfl ⟨rfl, rfl⟩⟩
  have e1 : ∀ l : List (Str × Str), ((l.map eSt).filter (fun d => match d with | .tup [_, .str p] => decide (wd = "whole") || decide (p = "fine") | _ => false)).map d0 = eS ((l.filter fun p : Str × Str => decide (wd = "whole") || decide (p.2 = "fine")).map (·.1)) := by
    intro l
    rw [List.filter_map, ← names_map]
    rfl
  rw [e1]
  generalize hnn : ((st.filter fun p : Str × Str => decide (wd = "whole") || decide (p.2 = "fine")).map (·.1)) = nn
  have hsub : nn.Sublist (st.map (·.1)) := hnn ▸ (List.filter_sublist).map _
  have hnd := hst.nd.sublist hsub
  have hnl : nn.length ≤ 5 := by have := hsub.length_le; rw [List.length_map] at this; omega
  have hin : ∀ z ∈ nn, ∃ p, (z, p) ∈ st ∧ (wd = "whole" ∨ p = "fine") := by
    intro z hz
    rw [← hnn] at hz
    obtain ⟨p, hp, rfl⟩ := List.mem_map.mp hz
    have h := List.mem_filter.mp hp
    exact ⟨p.2, h.1, by simpa using h.2⟩
  have good : ∀ (l2 : List Str), l2.Perm nn → ∀ k : Nat, (l2.take k).Nodup ∧ (l2.take k).length ≤ 5 ∧ ∀ z ∈ l2.take k, ∃ p, (z, p) ∈ st ∧ (wd = "whole" ∨ p = "fine") := fun l2 hp k =>
    ⟨(hp.nodup_iff.mpr hnd).sublist (List.take_sublist _ _), by have := (List.take_sublist k l2).length_le; have := hp.length_eq; omega, fun z hz => hin z (hp.mem_iff.mp (List.mem_of_mem_take hz))⟩
  walk_at "gg"
  refine mixedb (kk := 1) hb hs.lt (by rw [List.length_map]; omega) (by decide) (tm_names hst fun z h => hsub.subset h) fun es w1 hp hb1 => ?_
  obtain ⟨l, rfl, hl⟩ := perm_map_inv hp rfl
  walk_at "gg"
  refine mixedb (kk := 1) hb1 hs.lt (by rw [List.length_map]; omega) (by decide) (tm_names hst fun z h => hsub.subset h) fun es w2 hp2 hb2 => ?_
  obtain ⟨l2, rfl, hl2⟩ := perm_map_inv hp2 rfl
  walk_at "gg"
  rw [cut_to (by decide), cut_to (by decide), ← List.map_take, ← List.map_take]
  refine oflb hb2 (by simp) (by simp) fun d w3 hd hb3 => ?_
  walk_at "gg"
  refine drawn_testsb hs hb3 hma fun t w4 ht hb4 => ?_
  walk_at "gg"
  simp only [List.mem_cons, List.not_mem_nil, or_false] at hd
  rcases hd with rfl | rfl | rfl | rfl
  · exact q ⟨wd, t, some _⟩ _ ⟨hw, ht, fun l' e => by cases e; exact good l hl _⟩ hb4
  · exact q ⟨wd, t, some _⟩ _ ⟨hw, ht, fun l' e => by cases e; exact good l2 hl2 _⟩ hb4
  · exact q ⟨wd, t, none⟩ _ ⟨hw, ht, fun l' e => by cases e⟩ hb4
  · exact q ⟨wd, t, some []⟩ _ ⟨hw, ht, fun l' e => by cases e; exact ⟨.nil, by simp, fun z hz => by cases hz⟩⟩ hb4
end
end Bk

set_option Elab.async false
set_option linter.all false
set_option autoImplicit false
set_option maxRecDepth 100000
set_option maxHeartbeats 4000000
/-! Bk9: drawn books' parts. -/
namespace Bk
open PySem L2 PyProof.Rows Si
/-- one step by the form of the code -/
local macro_rules | `(tactic| walk_at "g1") => `(tactic| with_reducible first
  | refine gd_seq ?_ | refine gd_nm ?_ | refine gd_asg ?_ | refine gd_ret ?_ | refine gd_if ?_ | refine gd_next ?_ | refine gd_expr ?_ | refine gd_par ?_ | refine gd_retN ?_ | refine gd_brk ?_ | refine gd_cnt ?_ | refine gd_for ?_
  | refine go_var rfl ?_ | refine go_c ?_ | refine go_op ?_ | refine go_call ?_ | refine go_callK ?_ | refine go_nil ?_ | refine go_cons ?_ | refine go_tup ?_ | refine go_lst ?_ | refine go_lstM ?_ | refine go_chain ?_ | refine go_and ?_ | refine go_or ?_ | refine go_not ?_
  | refine go_tru ?_ | refine go_asB ?_ | refine go_bAnd ?_ | refine go_bOr ?_ | refine go_bNot ?_ | refine go_bYes ?_ | refine go_if ?_ | refine go_neg ?_ | refine go_oNone ?_ | refine go_oSome ?_ | refine go_sl ?_ | refine go_isi ?_ | refine go_isi2 ?_
  | refine go_join ?_ | refine go_app ?_ | refine go_iter ?_ | refine go_zip ?_ | refine go_star ?_ | refine go_lenSet ?_ | refine go_enum ?_ | refine go_rng1 ?_ | refine go_rng2 ?_ | refine go_lc ?_ | refine go_lcM ?_
  | refine go_addI ?_ | refine go_subI ?_ | refine go_lt ?_ | refine go_le ?_ | refine go_gt ?_ | refine go_ge ?_ | refine go_eqI ?_ | refine go_neI ?_ | refine go_eqS ?_ | refine go_neS ?_ | refine go_lenL ?_ | refine go_lenT ?_ | refine go_lenS (by assumption) ?_
  | refine go_slL ?_ | refine go_slT ?_ | refine go_slS (by assumption) ?_ | refine go_ixL rfl ?_ | refine go_ixT rfl ?_ | refine go_intI ?_ | refine go_lstL ?_ | refine go_lstT ?_ | refine go_tupL ?_ | refine go_tupT ?_ | refine go_isN ?_ | refine go_notN ?_ | refine go_allM ?_
  | refine br_t ?_ | refine br_f ?_ | refine br_not ?_)
local macro_rules | `(tactic| walk_at "g2") => `(tactic| first
  | with_reducible refine ex_bl ?_ | with_reducible refine ex_int ?_ | with_reducible refine ex_str ?_ | with_reducible refine ex_nm ?_
  | with_reducible refine ex_zip ?_ | with_reducible refine ex_enum ?_
  | with_reducible refine ex_seq (by with_unfolding_all exact rfl) ?_
  | with_reducible refine ex_tg (by with_unfolding_all exact rfl) ?_
  | with_reducible refine ex_tru (by with_unfolding_all exact rfl) ?_
  | with_reducible refine ex_ty (by with_unfolding_all exact rfl) ?_
  | with_reducible refine ex_it (by with_unfolding_all exact rfl) ?_
  | with_reducible refine br_is (b := isB _ _) (by with_unfolding_all decide) ?_ | with_reducible refine br_isnt (b := isB _ _) (by with_unfolding_all decide) ?_
  | with_reducible refine br_is (b := isB _ _ || isB _ _) (by with_unfolding_all decide) ?_ | with_reducible refine br_isnt (b := isB _ _ || isB _ _) (by with_unfolding_all decide) ?_
  | with_reducible refine go_mulL ⟨by decide, by decide⟩ ?_ | with_reducible refine go_mulR ⟨by decide, by decide⟩ ?_ | with_reducible refine go_mod (by decide) ?_ | with_reducible refine go_div (by decide) (by decide) ?_
  | with_reducible refine go_inTt (by decide +kernel) (by decide +kernel) ?_ | with_reducible refine go_inTf (by decide +kernel) (by decide +kernel) ?_ | with_reducible refine go_niTt (by decide +kernel) (by decide +kernel) ?_ | with_reducible refine go_niTf (by decide +kernel) (by decide +kernel) ?_
  | (with_reducible refine an_rng ?hh ?_; case hh => (first | decide | omega))
  | (with_reducible refine an_rng2 ?hh ?_; case hh => (first | decide | omega))
  | (with_reducible refine an_le ?hh ?_; case hh => (first | decide | (simp only [List.length_cons, List.length_nil]; omega))))
local macro_rules | `(tactic| walk_at "gg") => `(tactic| repeat' (first | walk_at "g1" | walk_at "g2"))

structure Sp where
  wd : Int
  la : Int
  ba : Int
  fo : Str
  st : List (Str × Str)
  ma : List Str
  no : List Nt
  en : List Ent
  jo : List Jb
  re : List Rdg
structure SpOk (sp : Sp) : Prop where
  wd : 1 ≤ sp.wd ∧ sp.wd ≤ 6
  la : 0 ≤ sp.la ∧ sp.la ≤ 6
  ba : 0 ≤ sp.ba ∧ sp.ba ≤ 6
  fo : sp.fo = "sum" ∨ sp.fo = "most"
  st : StoresOk sp.st
  ma : MarksOk sp.ma
  dj : ∀ z ∈ sp.ma, z ∉ sp.st.map (·.1)
  nol : sp.no.length ≤ 8
  no : ∀ x ∈ sp.no, NtOk sp.ma x
  enl : sp.en.length ≤ 8
  en : ∀ x ∈ sp.en, EntOk sp.st sp.ma sp.fo x
  jol : sp.jo.length ≤ 4
  jon : (sp.jo.map (·.n)).Nodup
  jo : ∀ x ∈ sp.jo, JbOk sp.st sp.ma x
  rel : sp.re.length ≤ 8
  re : ∀ x ∈ sp.re, RdgOk sp.st sp.ma x
theorem valD_zip : ∀ {ks : List Key} {vs : List D} {i : Nat} {k : Key} {v : D}, ks[i]? = some k → (∀ x ∈ ks.take i, x ≠ k) → vs[i]? = some v → valD (ks.zip vs) k = some v
  | [], _, _, _, _, h, _, _ => by simp at h
  | _ :: _, [], _, _, _, _, _, h => by simp at h
  | a :: ks, b :: vs, 0, k, v, h, _, h2 => by
    simp at h h2
    subst h h2
    simp [valD]
  | a :: ks, b :: vs, i + 1, k, v, h, hn, h2 => by
    have ih := valD_zip (ks := ks) (vs := vs) (i := i) (k := k) (v := v) (by simpa using h) (fun x hx => hn x (by simp [hx])) (by simpa using h2)
    have ne : a ≠ k := hn a (by simp)
    unfold valD at ih ⊢
    rw [List.zip_cons_cons, List.find?_cons]
    simp only [ne, decide_false]
    exact ih
theorem putM_zip : ∀ {ks : List Key} {vs : List D} {i : Nat} {k : Key} {x : D}, ks.Nodup → ks[i]? = some k → (ks.zip vs).map (fun kv => if kv.1 = k then (kv.1, x) else kv) = ks.zip (vs.set i x)
  | [], _, _, _, _, _, h => by simp at h
  | _ :: _, [], _, _, _, _, _ => by simp
  | a :: ks, b :: vs, 0, k, x, hn, h => by
    simp at h
    subst h
    rw [List.nodup_cons] at hn
    rw [List.zip_cons_cons, List.map_cons, List.set_cons_zero, List.zip_cons_cons]
    simp only [if_true]
    congr 1
    rw [List.map_congr_left (g := id), List.map_id]
    intro kv hkv
    have : kv.1 ≠ a := fun e => hn.1 (e ▸ (List.of_mem_zip (a := kv.1) (b := kv.2) hkv).1)
    rw [if_neg this]; rfl
  | a :: ks, b :: vs, i + 1, k, x, hn, h => by
    rw [List.nodup_cons] at hn
    have hk : ks[i]? = some k := by simpa using h
    have ne : a ≠ k := fun e => hn.1 (e ▸ List.mem_of_getElem? hk)
    rw [List.zip_cons_cons, List.map_cons, List.set_cons_succ, List.zip_cons_cons, putM_zip hn.2 hk]
    rw [if_neg ne]
theorem putK_zip {ks : List Key} {vs : List D} {i : Nat} {k : Key} {x : D} (hn : ks.Nodup) (h : ks[i]? = some k) (hl : ks.length = vs.length) : putKD (ks.zip vs) k x = ks.zip (vs.set i x) := by
  unfold putKD
  have hi : i < ks.length := (List.getElem?_eq_some_iff.mp h).1
  have : ((ks.zip vs).any fun kv => decide (kv.1 = k)) = true := by
    rw [List.any_eq_true]
    refine ⟨(k, vs[i]'(by omega)), ?_, by simp⟩
    rw [List.mem_iff_getElem?]
    refine ⟨i, ?_⟩
    rw [List.getElem?_zip_eq_some]
    exact ⟨h, List.getElem?_eq_getElem (by omega)⟩
  rw [if_pos this, putM_zip hn h]
theorem merge_zip : ∀ {l acc : List (Key × D)}, (l.map (·.1)).Nodup → (∀ x ∈ l, ∀ y ∈ acc, y.1 ≠ x.1) → mergeD acc l = acc ++ l
  | [], acc, _, _ => by simp [mergeD]
  | x :: r, acc, hn, hd => by
    rw [List.map_cons, List.nodup_cons] at hn
    have e : putKD acc x.1 x.2 = acc ++ [x] := by
      unfold putKD
      rw [if_neg]
      rw [Bool.not_eq_true, List.any_eq_false]
      intro y hy
      simp only [decide_eq_true_eq]
      exact hd x List.mem_cons_self y hy
    have ih := merge_zip (l := r) (acc := acc ++ [x]) hn.2 fun z hz y hy => by
      rcases List.mem_append.mp hy with hy | hy
      · exact hd z (List.mem_cons_of_mem _ hz) y hy
      · rw [List.mem_singleton.mp hy]
        exact fun e => hn.1 (e ▸ List.mem_map.mpr ⟨z, hz, rfl⟩)
    show mergeD (putKD acc x.1 x.2) r = _
    rw [e, ih]; simp
theorem map_fst_zip : ∀ {ks : List Key} {vs : List D}, ks.length = vs.length → (ks.zip vs).map (·.1) = ks
  | [], _, _ => by simp
  | _ :: _, [], h => by simp at h
  | a :: ks, b :: vs, h => by rw [List.zip_cons_cons, List.map_cons, map_fst_zip (by simpa using h)]
theorem merge_keys {ks : List Key} {vs : List D} (hn : ks.Nodup) (hl : ks.length = vs.length) : mergeD [] (ks.zip vs) = ks.zip vs := by
  rw [merge_zip (by rw [map_fst_zip hl]; exact hn) (fun x _ y hy => by cases hy)]; rfl
def spK : List Key := [.inr "width", .inr "stores", .inr "late", .inr "back", .inr "fold", .inr "marks", .inr "notes", .inr "entries", .inr "jobs", .inr "readings", .inr "titles"]
theorem spK_nd : spK.Nodup := by decide +kernel
def spD (wd st la ba fo ma no en jo re ti : D) : List (Key × D) := spK.zip [wd, st, la, ba, fo, ma, no, en, jo, re, ti]
section
variable {wd st la ba fo ma no en jo re ti x : D}
theorem sp_wd : valD (spD wd st la ba fo ma no en jo re ti) (.inr "width") = some wd := valD_zip (i := 0) rfl (by decide +kernel) rfl
theorem sp_st : valD (spD wd st la ba fo ma no en jo re ti) (.inr "stores") = some st := valD_zip (i := 1) rfl (by decide +kernel) rfl
theorem sp_la : valD (spD wd st la ba fo ma no en jo re ti) (.inr "late") = some la := valD_zip (i := 2) rfl (by decide +kernel) rfl
theorem sp_ba : valD (spD wd st la ba fo ma no en jo re ti) (.inr "back") = some ba := valD_zip (i := 3) rfl (by decide +kernel) rfl
theorem sp_fo : valD (spD wd st la ba fo ma no en jo re ti) (.inr "fold") = some fo := valD_zip (i := 4) rfl (by decide +kernel) rfl
theorem sp_ma : valD (spD wd st la ba fo ma no en jo re ti) (.inr "marks") = some ma := valD_zip (i := 5) rfl (by decide +kernel) rfl
theorem sp_no : valD (spD wd st la ba fo ma no en jo re ti) (.inr "notes") = some no := valD_zip (i := 6) rfl (by decide +kernel) rfl
theorem sp_en : valD (spD wd st la ba fo ma no en jo re ti) (.inr "entries") = some en := valD_zip (i := 7) rfl (by decide +kernel) rfl
theorem sp_jo : valD (spD wd st la ba fo ma no en jo re ti) (.inr "jobs") = some jo := valD_zip (i := 8) rfl (by decide +kernel) rfl
theorem sp_re : valD (spD wd st la ba fo ma no en jo re ti) (.inr "readings") = some re := valD_zip (i := 9) rfl (by decide +kernel) rfl
theorem sp_ti : valD (spD wd st la ba fo ma no en jo re ti) (.inr "titles") = some ti := valD_zip (i := 10) rfl (by decide +kernel) rfl
theorem pu_no : putKD (spD wd st la ba fo ma no en jo re ti) (.inr "notes") x = spD wd st la ba fo ma x en jo re ti := putK_zip (i := 6) spK_nd rfl rfl
theorem pu_en : putKD (spD wd st la ba fo ma no en jo re ti) (.inr "entries") x = spD wd st la ba fo ma no x jo re ti := putK_zip (i := 7) spK_nd rfl rfl
theorem pu_jo : putKD (spD wd st la ba fo ma no en jo re ti) (.inr "jobs") x = spD wd st la ba fo ma no en x re ti := putK_zip (i := 8) spK_nd rfl rfl
theorem pu_re : putKD (spD wd st la ba fo ma no en jo re ti) (.inr "readings") x = spD wd st la ba fo ma no en jo x ti := putK_zip (i := 9) spK_nd rfl rfl
theorem mk_sp : mergeD [] (List.zip spK [wd, st, la, ba, fo, ma, no, en, jo, re, ti]) = spD wd st la ba fo ma no en jo re ti := merge_keys spK_nd rfl
end
end Bk

set_option Elab.async false
set_option linter.all false
set_option autoImplicit false
set_option maxRecDepth 100000
set_option maxHeartbeats 4000000
/-! Bk10: drawn specs. -/
namespace Bk
open PySem L2 PyProof.Rows Si
/-- one step by the form of the code -/
local macro_rules | `(tactic| walk_at "g1") => `(tactic| with_reducible first
  | refine gd_seq ?_ | refine gd_nm ?_ | refine gd_asg ?_ | refine gd_ret ?_ | refine gd_if ?_ | refine gd_next ?_ | refine gd_expr ?_ | refine gd_par ?_ | refine gd_retN ?_ | refine gd_brk ?_ | refine gd_cnt ?_ | refine gd_for ?_
  | refine go_var rfl ?_ | refine go_c ?_ | refine go_op ?_ | refine go_call ?_ | refine go_callK ?_ | refine go_nil ?_ | refine go_cons ?_ | refine go_tup ?_ | refine go_lst ?_ | refine go_lstM ?_ | refine go_chain ?_ | refine go_and ?_ | refine go_or ?_ | refine go_not ?_
  | refine go_tru ?_ | refine go_asB ?_ | refine go_bAnd ?_ | refine go_bOr ?_ | refine go_bNot ?_ | refine go_bYes ?_ | refine go_if ?_ | refine go_neg ?_ | refine go_oNone ?_ | refine go_oSome ?_ | refine go_sl ?_ | refine go_isi ?_ | refine go_isi2 ?_
  | refine go_join ?_ | refine go_app ?_ | refine go_iter ?_ | refine go_zip ?_ | refine go_star ?_ | refine go_lenSet ?_ | refine go_enum ?_ | refine go_rng1 ?_ | refine go_rng2 ?_ | refine go_lc ?_ | refine go_lcM ?_
  | refine go_addI ?_ | refine go_subI ?_ | refine go_lt ?_ | refine go_le ?_ | refine go_gt ?_ | refine go_ge ?_ | refine go_eqI ?_ | refine go_neI ?_ | refine go_eqS ?_ | refine go_neS ?_ | refine go_lenL ?_ | refine go_lenT ?_ | refine go_lenS (by assumption) ?_
  | refine go_slL ?_ | refine go_slT ?_ | refine go_slS (by assumption) ?_ | refine go_ixL rfl ?_ | refine go_ixT rfl ?_ | refine go_intI ?_ | refine go_lstL ?_ | refine go_lstT ?_ | refine go_tupL ?_ | refine go_tupT ?_ | refine go_isN ?_ | refine go_notN ?_ | refine go_allM ?_
  | refine br_t ?_ | refine br_f ?_ | refine br_not ?_)
local macro_rules | `(tactic| walk_at "g2") => `(tactic| first
  | with_reducible refine ex_bl ?_ | with_reducible refine ex_int ?_ | with_reducible refine ex_str ?_ | with_reducible refine ex_nm ?_
  | with_reducible refine ex_zip ?_ | with_reducible refine ex_enum ?_
  | with_reducible refine ex_seq (by with_unfolding_all exact rfl) ?_
  | with_reducible refine ex_tg (by with_unfolding_all exact rfl) ?_
  | with_reducible refine ex_tru (by with_unfolding_all exact rfl) ?_
  | with_reducible refine ex_ty (by with_unfolding_all exact rfl) ?_
  | with_reducible refine ex_it (by with_unfolding_all exact rfl) ?_
  | with_reducible refine br_is (b := isB _ _) (by with_unfolding_all decide) ?_ | with_reducible refine br_isnt (b := isB _ _) (by with_unfolding_all decide) ?_
  | with_reducible refine br_is (b := isB _ _ || isB _ _) (by with_unfolding_all decide) ?_ | with_reducible refine br_isnt (b := isB _ _ || isB _ _) (by with_unfolding_all decide) ?_
  | with_reducible refine go_mulL ⟨by decide, by decide⟩ ?_ | with_reducible refine go_mulR ⟨by decide, by decide⟩ ?_ | with_reducible refine go_mod (by decide) ?_ | with_reducible refine go_div (by decide) (by decide) ?_
  | with_reducible refine go_inTt (by decide +kernel) (by decide +kernel) ?_ | with_reducible refine go_inTf (by decide +kernel) (by decide +kernel) ?_ | with_reducible refine go_niTt (by decide +kernel) (by decide +kernel) ?_ | with_reducible refine go_niTf (by decide +kernel) (by decide +kernel) ?_
  | (with_reducible refine an_rng ?hh ?_; case hh => (first | decide | omega))
  | (with_reducible refine an_rng2 ?hh ?_; case hh => (first | decide | omega))
  | (with_reducible refine an_le ?hh ?_; case hh => (first | decide | (simp only [List.length_cons, List.length_nil]; omega))))
local macro_rules | `(tactic| walk_at "gg") => `(tactic| repeat' (first | walk_at "g1" | walk_at "g2"))

def Sp.dct (sp : Sp) (ti : List Str) : List (Key × D) :=
  spD (.int sp.wd) (.lst (sp.st.map eSt)) (.int sp.la) (.int sp.ba) (.str sp.fo) (.lst (eS sp.ma)) (.lst (sp.no.map eNt)) (.lst (sp.en.map eEnt)) (.lst (sp.jo.map eJb)) (.lst (sp.re.map eRdg)) (.lst (eS ti))
structure TiOk (ti : List Str) : Prop where
  nd : ti.Nodup
  nm : ∀ z ∈ ti, NmOk z
  le : ti.length = 4
theorem zip_st : ∀ (a b : List Str), zipD (eS a) (eS b) = (a.zip b).map eSt
  | [], _ => by simp [zipD]
  | _ :: _, [] => by simp [zipD]
  | x :: a, y :: b => by
    have ih := zip_st a b
    show D.tup [.str x, .str y] :: zipD (eS a) (eS b) = _
    rw [ih]
    rfl
theorem fst_zip {α β : Type} : ∀ {a : List α} {b : List β}, a.length = b.length → (a.zip b).map (·.1) = a
  | [], _, _ => by simp
  | _ :: _, [], h => by simp at h
  | x :: a, y :: b, h => by rw [List.zip_cons_cons, List.map_cons, fst_zip (by simpa using h)]
section
variable {X : EX} {Q : D → Wd → Prop} {QA : List D → Wd → Prop} {w0 w : Wd} {n m : Nat} {σ : En} {N B C : En → Wd → Prop} {T : D → Wd → Prop}
theorem go_mdct {ks : List Key} {mas : En → Wd → R (List D)} (h : Go X (mas σ w) fun ds w1 => Q (.obj w1.length) (w1 ++ [.dct (mergeD [] (ks.zip ds))])) : Go X (mDct ks mas σ w) Q := go_bind h
theorem gd_dput {me mo mi : En → Wd → R D} (h : Go X (me σ w) fun d w1 => Go X (mo σ w1) fun u w2 => Go X (mi σ w2) fun j w3 => ∃ m kvs k, dctL u w3 = some (m, kvs) ∧ keyD j = some k ∧ kvs.length < 16777216 ∧ N σ (w3.set m (.dct (putKD kvs k d)))) : Gd X N T B C (mDPut me mo mi σ w) :=
  gd_toS (go_weak h fun d w1 h => gd_toS (go_weak h fun u w2 h => gd_toS (go_weak h fun j w3 ⟨m, kvs, k, e1, e2, l, h⟩ => by
    rw [e1, e2]
    dsimp only
    rw [if_pos l]
    exact h)))
theorem bare_specb (hb : Bg n w0 w) (hn0 : n < w0.length) {W S M : Int} (hW : 1 ≤ W ∧ W ≤ 6) (hS : 1 ≤ S ∧ S ≤ 5) (hM : 0 ≤ M ∧ M ≤ 3)
    (q : ∀ (sp : Sp) (ti : List Str) (m : Nat) w', SpOk sp → sp.no = [] → sp.en = [] → sp.jo = [] → sp.re = [] → TiOk ti → w0.length ≤ m → w'[m]? = some (.dct (sp.dct ti)) → Bg n w0 w' → Q (.obj m) w') :
    Go X (F__law_bare_spec [.obj n, .int W, .int S, .int M] w) Q := by
  refine go_fn rfl ?_
  unfold M__law_bare_spec
  walk_at "gg"
  refine namesb hb (many := 12) (by decide) fun ns w1 hl hnd hnm hb1 => ?_
  walk_at "gg"
  refine drb hb1 (by omega) (by omega) fun r w2 r0 r1 hb2 => ?_
  walk_at "gg"
  refine drb hb2 (by omega) (by omega) fun k w3 k0 k1 hb3 => ?_
  walk_at "gg"
  rw [cut_mid (by decide) (by omega), ← List.map_take, ← List.map_drop]
  generalize hmm : (ns.take (5 + k).toNat).drop (5 : Int).toNat = mm
  walk_at "gg"
  refine lc_drawT (fun p : Str => p = "fine" ∨ p = "coarse") D.str _ (by rw [range_len]; omega) hb3 (fun d w hd hb => ?_) fun ps w4 hpl hps hb4 => ?_
  · walk_at "gg"
    refine oflb hb (by simp) (by simp) fun d w' hd hb' => ?_
    simp only [List.mem_cons, List.not_mem_nil, or_false] at hd
    rcases hd with rfl | rfl | rfl
    · exact ⟨⟨_, .inr rfl, rfl⟩, hb'⟩
    · exact ⟨⟨_, .inr rfl, rfl⟩, hb'⟩
    · exact ⟨⟨_, .inl rfl, rfl⟩, hb'⟩
  rw [range_len] at hpl
  walk_at "gg"
  refine go_addL (by rw [List.length_map]; simp only [List.length_cons, List.length_nil]; omega) ?_
  walk_at "gg"
  rw [cut_to (by omega), ← List.map_take, show [D.str "fine"] ++ List.map D.str ps = eS (("fine" : Str) :: ps) from rfl, show List.map D.str (ns.take (1 + r).toNat) = eS (ns.take (1 + r).toNat) from rfl, zip_st]
  generalize hst0 : (ns.take (1 + r).toNat).zip (("fine" : Str) :: ps) = st0
  have hlen : (ns.take (1 + r).toNat).length = (("fine" : Str) :: ps).length := by rw [List.length_take, hl, List.length_cons, hpl]; omega
  have hst1 : st0.map (·.1) = ns.take (1 + r).toNat := hst0 ▸ fst_zip hlen
  have hst2 : ∀ p ∈ st0, NmOk p.1 ∧ (p.2 = "fine" ∨ p.2 = "coarse") := by
    intro p hp
    rw [← hst0] at hp
    have h := List.of_mem_zip (a := p.1) (b := p.2) hp
    refine ⟨hnm _ (List.mem_of_mem_take h.1), ?_⟩
    rcases List.mem_cons.mp h.2 with h | h
    · exact .inl h
    · exact hps _ h
  have hst3 : st0.length = (1 + r).toNat := by rw [← List.length_map (f := (·.1)) (as := st0), hst1, List.length_take, hl]; omega
  refine lc_map id _ (by rw [List.length_map]; omega) (fun d hd => ?_) ?_
  · obtain ⟨p, hp, rfl⟩ := List.mem_map.mp hd
    unfold eSt
    walk_at "gg"
    exact ⟨rfl, rfl⟩
  rw [List.map_id]
  walk_at "gg"
  refine mixedb (kk := 1) hb4 hn0 (by rw [List.length_map]; omega) (by decide) (fun d hd => ?_) fun es w5 hp hb5 => ?_
  · obtain ⟨p, hp, rfl⟩ := List.mem_map.mp hd
    refine tm_St (fun n => (hst2 p hp).1.tm) fun n => ?_
    rcases (hst2 p hp).2 with h | h
    · rw [h]; exact tm_lit (by decide +kernel)
    · rw [h]; exact tm_lit (by decide +kernel)
  obtain ⟨st, rfl, hst⟩ := perm_map_inv hp rfl
  walk_at "gg"
  refine go_mdct ?_
  walk_at "gg"
  refine drb hb5 (by omega) (by omega) fun wd w6 d0 d1 hb6 => ?_
  walk_at "gg"
  refine drb hb6 (by decide) (by decide) fun la w7 l0 l1 hb7 => ?_
  walk_at "gg"
  refine drb hb7 (by decide) (by decide) fun ba w8 b0 b1 hb8 => ?_
  walk_at "gg"
  refine oflb hb8 (by simp) (by simp) fun fo w9 hfo hb9 => ?_
  walk_at "gg"
  rw [cut_from (by decide), ← List.map_drop]
  have hfo2 : ∃ f : Str, fo = .str f ∧ (f = "sum" ∨ f = "most") := by
    simp only [List.mem_cons, List.not_mem_nil, or_false] at hfo
    rcases hfo with rfl | rfl | rfl
    · exact ⟨_, rfl, .inl rfl⟩
    · exact ⟨_, rfl, .inl rfl⟩
    · exact ⟨_, rfl, .inr rfl⟩
  obtain ⟨f, rfl, hf⟩ := hfo2
  have pst : (st.map (·.1)).Perm (ns.take (1 + r).toNat) := hst1 ▸ hst.map _
  have hms : mm.Sublist ns := hmm ▸ (List.drop_sublist _ _).trans (List.take_sublist _ _)
  have hml : mm.length = k.toNat := by rw [← hmm, List.length_drop, List.length_take, hl]; omega
  refine q ⟨1 + wd, la, ba, f, st, mm, [], [], [], []⟩ (ns.drop (8 : Int).toNat) w9.length (w9 ++ [.dct _]) ?_ rfl rfl rfl rfl ⟨hnd.sublist (List.drop_sublist _ _), fun z hz => hnm z (List.mem_of_mem_drop hz), by rw [List.length_drop, hl]; rfl⟩ hb9.l ?_ (hb9.app _)
  · refine ⟨⟨by show 1 ≤ 1 + wd; omega, by show 1 + wd ≤ 6; omega⟩, ⟨l0, by show la ≤ 6; omega⟩, ⟨b0, by show ba ≤ 6; omega⟩, hf, ⟨pst.nodup_iff.mpr (hnd.sublist (List.take_sublist _ _)), by show 1 ≤ st.length; rw [hst.length_eq]; omega, by show st.length ≤ 5; rw [hst.length_eq]; omega, fun p hp => hst2 p (hst.mem_iff.mp hp)⟩, ⟨hnd.sublist hms, fun z hz => hnm z (hms.subset hz), by show mm.length ≤ 3; omega⟩, fun z hz h => ?_, by simp, fun x hx => (by cases hx), by simp, fun x hx => (by cases hx), by simp, by simp, fun x hx => (by cases hx), by simp, fun x hx => (by cases hx)⟩
    have h1 := pst.mem_iff.mp h
    have h2 : z ∈ ns.take 5 := (List.take_sublist_take_left (by omega)).subset h1
    have h3 : z ∈ ns.drop 5 := by
      have hz : z ∈ mm := hz
      rw [← hmm] at hz
      exact ((List.take_sublist _ _).drop 5).subset hz
    have hn2 := hnd
    rw [← List.take_append_drop 5 ns, List.nodup_append] at hn2
    exact hn2.2.2 z h2 z h3 rfl
  · rw [List.getElem?_append_right (Nat.le_refl _), Nat.sub_self]
    exact congrArg some (congrArg MO.dct mk_sp)
/-- the spec in cell m -/
structure SpAt (n m : Nat) (w : Wd) (sp : Sp) : Prop where
  ne : m ≠ n
  ex : ∃ ti, w[m]? = some (.dct (sp.dct ti))
theorem SpAt.bg {w w1 : Wd} {sp : Sp} (h : SpAt n m w sp) (b : Bg n w w1) : SpAt n m w1 sp := let ⟨ti, e⟩ := h.ex; ⟨h.ne, ti, b.get e h.ne⟩
theorem sq_of {w : Wd} {sp : Sp} {ti : List Str} (h : w[m]? = some (.dct (sp.dct ti))) (hne : m ≠ n) (hb : BagAt w n) : Sq n m w sp.st sp.ma sp.fo :=
  ⟨hne, BagAt.lt hb, _, h, sp_ma, sp_st, sp_fo⟩
theorem dct_len {sp : Sp} {ti : List Str} : (sp.dct ti).length < 16777216 := by
  unfold Sp.dct spD
  rw [List.length_zip]
  exact Nat.lt_of_le_of_lt (Nat.min_le_left _ _) (by decide)
theorem dctL_of {w : Wd} {kvs : List (Key × D)} (h : w[m]? = some (.dct kvs)) : dctL (.obj m) w = some (m, kvs) := by simp only [dctL, h]
theorem jobs_of {st : List (Str × Str)} {ma ti : List Str} : ∀ {is : List Nat} {ys : List D}, All2 (fun d y => ∃ (i : Nat) (z : Str) (x : Jb), d = .int i ∧ ti[i]? = some z ∧ x.n = z ∧ JbOk st ma x ∧ y = eJb x) (is.map fun (i : Nat) => D.int ((0 : Int) + (i : Nat))) ys →
    ∃ jl : List Jb, ys = jl.map eJb ∧ (∀ x ∈ jl, JbOk st ma x) ∧ jl.map (fun x => some x.n) = is.map (fun i => ti[i]?)
  | [], _, .nil => ⟨[], rfl, fun x h => (by cases h), rfl⟩
  | i :: is, _, .cons ⟨i', z, x, e1, e2, e3, e4, e5⟩ t => by
    obtain ⟨jl, a, b, c⟩ := jobs_of t
    have ei : i = i' := by have := D.int.inj e1; omega
    subst ei
    refine ⟨x :: jl, by rw [e5, a]; rfl, fun y hy => ?_, by rw [List.map_cons, List.map_cons, c, e2, e3]⟩
    rcases List.mem_cons.mp hy with rfl | hy
    · exact e4
    · exact b y hy
theorem jobs_nd {ti : List Str} {jl : List Jb} {k : Nat} (hn : ti.Nodup) (hk : k ≤ ti.length) (h : jl.map (fun x => some x.n) = (List.range k).map (fun i => ti[i]?)) : (jl.map (·.n)).Nodup ∧ jl.length = k := by
  have h1 : ((List.range k).map (fun i => ti[i]?)).Nodup := nodup_map_on (fun i hi j hj e => by
    have hi := List.mem_range.mp hi
    have hj := List.mem_range.mp hj
    rw [List.getElem?_eq_getElem (by omega), List.getElem?_eq_getElem (by omega)] at e
    exact (List.getElem_inj hn).mp (Option.some.inj e)) List.nodup_range
  rw [← h, show (fun x : Jb => some x.n) = some ∘ (fun x : Jb => x.n) from rfl, ← List.map_map] at h1
  refine ⟨List.Pairwise.of_map some (fun a b e e2 => e (congrArg some e2)) h1, ?_⟩
  have := congrArg List.length h
  simpa using this
theorem any_specb (hb : Bg n w0 w) (hn0 : n < w0.length) {W S M J P : Int} (hW : 1 ≤ W ∧ W ≤ 6) (hS : 1 ≤ S ∧ S ≤ 5) (hM : 0 ≤ M ∧ M ≤ 3) (hJ : 0 ≤ J ∧ J ≤ 4) (hP : 1 ≤ P ∧ P ≤ 5)
    (q : ∀ (sp : Sp) (m : Nat) w', SpOk sp → w0.length ≤ m → SpAt n m w' sp → Bg n w0 w' → Q (.obj m) w') :
    Go X (F__law_any_spec [.obj n, .tup [.int W, .int S, .int M, .int J], .int P] w) Q := by
  refine go_fn rfl ?_
  unfold M__law_any_spec
  walk_at "gg"
  refine bare_specb hb hn0 hW hS hM fun sp ti m w1 ok no en jo re tok hm at1 hb1 => ?_
  have hmn : m ≠ n := by omega
  walk_at "gg"
  refine gd_dput ?_
  walk_at "gg"
  -- the notes
  refine drb (Bg.refl hb1.b) (by decide) (by decide) fun r w2 r0 r1 hb2 => ?_
  walk_at "gg"
  have sq1 := sq_of at1 hmn hb1.b
  refine lc_drawT (NtOk sp.ma) eNt _ (by rw [range_len]; omega) hb2 (fun d w hd hb => ?_) fun nl w3 hnl hnp hb3 => ?_
  · walk_at "gg"
    refine oflb hb (by simp) (by simp) fun d w' hd hb' => ?_
    walk_at "gg"
    refine drawn_testsb sq1 hb' ok.ma fun t w5 ht hb5 => ?_
    walk_at "gg"
    refine settingsb sq1 hb5 ok.ma fun s w6 hs hb6 => ?_
    walk_at "gg"
    simp only [List.mem_cons, List.not_mem_nil, or_false] at hd
    rcases hd with rfl | rfl
    · exact ⟨⟨⟨_, t, s⟩, ⟨.inl rfl, ht, hs⟩, rfl⟩, hb6⟩
    · exact ⟨⟨⟨_, t, s⟩, ⟨.inr rfl, ht, hs⟩, rfl⟩, hb6⟩
  rw [range_len] at hnl
  walk_at "gg"
  have at3 := hb3.get at1 hmn
  refine ⟨m, _, .inr "notes", dctL_of at3, rfl, dct_len, ?_⟩
  rw [show putKD (sp.dct ti) (.inr "notes") (.lst (nl.map eNt)) = ({sp with no := nl} : Sp).dct ti from pu_no]
  have at4 : (w3.set m (.dct (({sp with no := nl} : Sp).dct ti)))[m]? = _ := List.getElem?_set_self (lt_of_get at3)
  have b4 := BagAt.set hb3.b hmn (.dct (({sp with no := nl} : Sp).dct ti))
  have hb4 : Bg n w0 (w3.set m (.dct (({sp with no := nl} : Sp).dct ti))) := (hb1.trans hb3).setN hm _ hn0
  generalize w3.set m (.dct (({sp with no := nl} : Sp).dct ti)) = w4 at at4 b4 hb4 ⊢
  -- the entries
  walk_at "gg"
  refine drb (Bg.refl b4) (by decide) (by decide) fun r5 w5 r50 r51 hb5 => ?_
  walk_at "gg"
  refine lc_drawT (fun p : Str => p = "put" ∨ p = "take") D.str _ (by rw [range_len]; omega) hb5 (fun d w hd hb => ?_) fun ps w6 hpl hps hb6 => ?_
  · walk_at "gg"
    refine oflb hb (by simp) (by simp) fun d w' hd hb' => ?_
    simp only [List.mem_cons, List.not_mem_nil, or_false] at hd
    rcases hd with rfl | rfl
    · exact ⟨⟨_, .inl rfl, rfl⟩, hb'⟩
    · exact ⟨⟨_, .inr rfl, rfl⟩, hb'⟩
  rw [range_len] at hpl
  walk_at "gg"
  refine go_addL (by rw [List.length_map]; simp only [List.length_cons, List.length_nil]; omega) ?_
  rw [show [D.str "put", D.str "take"] ++ List.map D.str ps = eS (("put" : Str) :: ("take" : Str) :: ps) from rfl]
  have hps2 : ∀ p ∈ (("put" : Str) :: ("take" : Str) :: ps), p = "put" ∨ p = "take" := by
    intro p hp
    rcases List.mem_cons.mp hp with hp | hp
    · exact .inl hp
    rcases List.mem_cons.mp hp with hp | hp
    · exact .inr hp
    · exact hps p hp
  have hps3 : (("put" : Str) :: ("take" : Str) :: ps).length ≤ 8 := by simp only [List.length_cons]; omega
  generalize (("put" : Str) :: ("take" : Str) :: ps) = pp at hps2 hps3 ⊢
  refine gd_seq (gd_dput ?_)
  walk_at "gg"
  refine mixedb (kk := 1) hb6 (BagAt.lt b4) (by rw [List.length_map]; omega) (by decide) (fun d hd => ?_) fun es w7 hp hb7 => ?_
  · obtain ⟨z, hz, rfl⟩ := List.mem_map.mp hd
    rcases hps2 z hz with h | h
    · rw [h]; exact tm_lit (by decide +kernel)
    · rw [h]; exact tm_lit (by decide +kernel)
  obtain ⟨pl, rfl, hpl2⟩ := perm_map_inv hp rfl
  walk_at "gg"
  have sq4 := sq_of at4 hmn b4
  have hpll := hpl2.length_eq
  refine lc_drawT (EntOk sp.st sp.ma sp.fo) eEnt _ (by rw [List.length_map]; omega) hb7 (fun d w hd hb => ?_) fun el w8 hel hep hb8 => ?_
  · obtain ⟨z, hz, rfl⟩ := List.mem_map.mp hd
    walk_at "gg"
    exact drawn_entryb (hps2 z (hpl2.mem_iff.mp hz)) sq4 hb ok.st ok.ma fun x w' hx hb' => ⟨⟨x, hx, rfl⟩, hb'⟩
  rw [List.length_map] at hel
  walk_at "gg"
  have at8 := hb8.get at4 hmn
  refine ⟨m, _, .inr "entries", dctL_of at8, rfl, dct_len, ?_⟩
  rw [show putKD (({sp with no := nl} : Sp).dct ti) (.inr "entries") (.lst (el.map eEnt)) = ({sp with no := nl, en := el} : Sp).dct ti from pu_en]
  have at9 : (w8.set m (.dct (({sp with no := nl, en := el} : Sp).dct ti)))[m]? = _ := List.getElem?_set_self (lt_of_get at8)
  have b9 := BagAt.set hb8.b hmn (.dct (({sp with no := nl, en := el} : Sp).dct ti))
  have hb9 : Bg n w0 (w8.set m (.dct (({sp with no := nl, en := el} : Sp).dct ti))) := (hb4.trans hb8).setN hm _ hn0
  generalize w8.set m (.dct (({sp with no := nl, en := el} : Sp).dct ti)) = w9 at at9 b9 hb9 ⊢
  -- the jobs
  walk_at "gg"
  refine gd_dput ?_
  walk_at "gg"
  refine drb (Bg.refl b9) (by omega) (by omega) fun r10 w10 r100 r101 hb10 => ?_
  walk_at "gg"
  have sq9 := sq_of at9 hmn b9
  refine lc_draw (fun d y => ∃ (i : Nat) (z : Str) (x : Jb), d = .int i ∧ ti[i]? = some z ∧ x.n = z ∧ JbOk sp.st sp.ma x ∧ y = eJb x) _ (by rw [range_len]; omega) hb10 (fun d w hd hb => ?_) fun ys w11 ha hb11 => ?_
  · obtain ⟨i, hi, rfl⟩ := List.mem_map.mp hd
    have hi2 := List.mem_range.mp hi
    rw [show ((0 : Int) + (i : Nat)) = (i : Int) by omega]
    walk_at "gg"
    refine go_dget (hb.get at9 hmn) sp_ti ?_
    walk_at "gg"
    have htl := tok.le
    have hz : ti[i]? = some (ti[i]'(by omega)) := List.getElem?_eq_getElem (by omega)
    refine go_ixL (d := .str (ti[i]'(by omega))) ?_ ?_
    · unfold L2.atI
      rw [ixN_nat (by omega) (by rw [List.length_map]; omega), Int.toNat_natCast]
      simp [hz]
    walk_at "gg"
    exact drawn_jobb sq9 hb ok.st ok.ma (tok.nm _ (List.getElem_mem _)) (by omega) (by omega) fun x w' hx hxn hb' => ⟨⟨i, _, x, rfl, hz, hxn, hx, rfl⟩, hb'⟩
  obtain ⟨jl, rfl, hjp, hjn⟩ := jobs_of ha
  obtain ⟨hjnd, hjl⟩ := jobs_nd tok.nd (by rw [tok.le]; omega) hjn
  walk_at "gg"
  have at11 := hb11.get at9 hmn
  refine ⟨m, _, .inr "jobs", dctL_of at11, rfl, dct_len, ?_⟩
  rw [show putKD (({sp with no := nl, en := el} : Sp).dct ti) (.inr "jobs") (.lst (jl.map eJb)) = ({sp with no := nl, en := el, jo := jl} : Sp).dct ti from pu_jo]
  have at12 : (w11.set m (.dct (({sp with no := nl, en := el, jo := jl} : Sp).dct ti)))[m]? = _ := List.getElem?_set_self (lt_of_get at11)
  have b12 := BagAt.set hb11.b hmn (.dct (({sp with no := nl, en := el, jo := jl} : Sp).dct ti))
  have hb12 : Bg n w0 (w11.set m (.dct (({sp with no := nl, en := el, jo := jl} : Sp).dct ti))) := (hb9.trans hb11).setN hm _ hn0
  generalize w11.set m (.dct (({sp with no := nl, en := el, jo := jl} : Sp).dct ti)) = w12 at at12 b12 hb12 ⊢
  -- the readings
  walk_at "gg"
  refine drb (Bg.refl b12) (by decide) (by decide) fun r13 w13 r130 r131 hb13 => ?_
  walk_at "gg"
  rw [cut_from r130]
  have hw : ∃ wl : List Str, [D.str "whole", D.str "cut", D.str "whole"].drop r13.toNat = eS wl ∧ wl.length ≤ 8 ∧ ∀ z ∈ wl, z = "whole" ∨ z = "cut" := by
    refine ⟨([("whole" : Str), "cut", "whole"]).drop r13.toNat, (List.map_drop (f := D.str) (l := [("whole" : Str), "cut", "whole"]) (i := r13.toNat)).symm, by rw [List.length_drop]; simp only [List.length_cons, List.length_nil]; omega, fun z hz => ?_⟩
    have := List.mem_of_mem_drop hz
    simp only [List.mem_cons, List.not_mem_nil, or_false] at this
    rcases this with h | h | h
    · exact .inl h
    · exact .inr h
    · exact .inl h
  obtain ⟨wl, e, hwl, hwp⟩ := hw
  rw [e]
  refine gd_dput ?_
  walk_at "gg"
  refine mixedb (kk := 1) hb13 (BagAt.lt b12) (by rw [List.length_map]; omega) (by decide) (fun d hd => ?_) fun es w14 hp hb14 => ?_
  · obtain ⟨z, hz, rfl⟩ := List.mem_map.mp hd
    rcases hwp z hz with h | h
    · rw [h]; exact tm_lit (by decide +kernel)
    · rw [h]; exact tm_lit (by decide +kernel)
  obtain ⟨ql, rfl, hql2⟩ := perm_map_inv hp rfl
  walk_at "gg"
  have sq12 := sq_of at12 hmn b12
  have hqll := hql2.length_eq
  refine lc_drawT (RdgOk sp.st sp.ma) eRdg _ (by rw [List.length_map]; omega) hb14 (fun d w hd hb => ?_) fun rl w15 hrl hrp hb15 => ?_
  · obtain ⟨z, hz, rfl⟩ := List.mem_map.mp hd
    walk_at "gg"
    exact drawn_readingb (hwp z (hql2.mem_iff.mp hz)) sq12 hb ok.st ok.ma fun x w' hx hb' => ⟨⟨x, hx, rfl⟩, hb'⟩
  rw [List.length_map] at hrl
  walk_at "gg"
  have at15 := hb15.get at12 hmn
  refine ⟨m, _, .inr "readings", dctL_of at15, rfl, dct_len, ?_⟩
  rw [show putKD (({sp with no := nl, en := el, jo := jl} : Sp).dct ti) (.inr "readings") (.lst (rl.map eRdg)) = ({sp with no := nl, en := el, jo := jl, re := rl} : Sp).dct ti from pu_re]
  walk_at "gg"
  refine q {sp with no := nl, en := el, jo := jl, re := rl} m _ ?_ hm ⟨hmn, ti, List.getElem?_set_self (lt_of_get at15)⟩ ((hb12.trans hb15).setN hm _ hn0)
  exact ⟨ok.wd, ok.la, ok.ba, ok.fo, ok.st, ok.ma, ok.dj, by show nl.length ≤ 8; omega, hnp, by show el.length ≤ 8; omega, hep, by show jl.length ≤ 4; omega, hjnd, hjp, by show rl.length ≤ 8; omega, hrp⟩
end
end Bk

set_option Elab.async false
set_option linter.all false
set_option autoImplicit false
set_option maxRecDepth 100000
set_option maxHeartbeats 4000000
/-! Bk11: what is right is let through. -/
namespace Bk
open PySem L2 PyProof.Rows Si
/-- one step by the form of the code -/
local macro_rules | `(tactic| walk_at "g1") => `(tactic| with_reducible first
  | refine gd_seq ?_ | refine gd_nm ?_ | refine gd_asg ?_ | refine gd_ret ?_ | refine gd_if ?_ | refine gd_next ?_ | refine gd_expr ?_ | refine gd_par ?_ | refine gd_retN ?_ | refine gd_brk ?_ | refine gd_cnt ?_ | refine gd_for ?_
  | refine go_var rfl ?_ | refine go_c ?_ | refine go_op ?_ | refine go_call ?_ | refine go_callK ?_ | refine go_nil ?_ | refine go_cons ?_ | refine go_tup ?_ | refine go_lst ?_ | refine go_lstM ?_ | refine go_chain ?_ | refine go_and ?_ | refine go_or ?_ | refine go_not ?_
  | refine go_tru ?_ | refine go_asB ?_ | refine go_bAnd ?_ | refine go_bOr ?_ | refine go_bNot ?_ | refine go_bYes ?_ | refine go_if ?_ | refine go_neg ?_ | refine go_oNone ?_ | refine go_oSome ?_ | refine go_sl ?_ | refine go_isi ?_ | refine go_isi2 ?_
  | refine go_join ?_ | refine go_app ?_ | refine go_iter ?_ | refine go_zip ?_ | refine go_star ?_ | refine go_lenSet ?_ | refine go_enum ?_ | refine go_rng1 ?_ | refine go_rng2 ?_ | refine go_lc ?_ | refine go_lcM ?_
  | refine go_addI ?_ | refine go_subI ?_ | refine go_lt ?_ | refine go_le ?_ | refine go_gt ?_ | refine go_ge ?_ | refine go_eqI ?_ | refine go_neI ?_ | refine go_eqS ?_ | refine go_neS ?_ | refine go_lenL ?_ | refine go_lenT ?_ | refine go_lenS (by assumption) ?_
  | refine go_slL ?_ | refine go_slT ?_ | refine go_slS (by assumption) ?_ | refine go_ixL rfl ?_ | refine go_ixT rfl ?_ | refine go_intI ?_ | refine go_lstL ?_ | refine go_lstT ?_ | refine go_tupL ?_ | refine go_tupT ?_ | refine go_isN ?_ | refine go_notN ?_ | refine go_allM ?_
  | refine br_t ?_ | refine br_f ?_ | refine br_not ?_)
local macro_rules | `(tactic| walk_at "g2") => `(tactic| first
  | with_reducible refine ex_bl ?_ | with_reducible refine ex_int ?_ | with_reducible refine ex_str ?_ | with_reducible refine ex_nm ?_
  | with_reducible refine ex_zip ?_ | with_reducible refine ex_enum ?_
  | with_reducible refine ex_seq (by with_unfolding_all exact rfl) ?_
  | with_reducible refine ex_tg (by with_unfolding_all exact rfl) ?_
  | with_reducible refine ex_tru (by with_unfolding_all exact rfl) ?_
  | with_reducible refine ex_ty (by with_unfolding_all exact rfl) ?_
  | with_reducible refine ex_it (by with_unfolding_all exact rfl) ?_
  | with_reducible refine br_is (b := isB _ _) (by with_unfolding_all decide) ?_ | with_reducible refine br_isnt (b := isB _ _) (by with_unfolding_all decide) ?_
  | with_reducible refine br_is (b := isB _ _ || isB _ _) (by with_unfolding_all decide) ?_ | with_reducible refine br_isnt (b := isB _ _ || isB _ _) (by with_unfolding_all decide) ?_
  | with_reducible refine go_mulL ⟨by decide, by decide⟩ ?_ | with_reducible refine go_mulR ⟨by decide, by decide⟩ ?_ | with_reducible refine go_mod (by decide) ?_ | with_reducible refine go_div (by decide) (by decide) ?_
  | with_reducible refine go_inTt (by decide +kernel) (by decide +kernel) ?_ | with_reducible refine go_inTf (by decide +kernel) (by decide +kernel) ?_ | with_reducible refine go_niTt (by decide +kernel) (by decide +kernel) ?_ | with_reducible refine go_niTf (by decide +kernel) (by decide +kernel) ?_
  | with_reducible refine br_y (by decide +kernel) ?_ | with_reducible refine br_n (by decide +kernel) ?_ | with_reducible refine br_y (by with_unfolding_all rfl) ?_ | with_reducible refine br_n (by simp only [List.length_cons, List.length_nil]; omega) ?_
  | (with_reducible refine an_rng ?hh ?_; case hh => (first | decide | omega))
  | (with_reducible refine an_rng2 ?hh ?_; case hh => (first | decide | omega))
  | (with_reducible refine an_le ?hh ?_; case hh => (first | decide | (simp only [List.length_cons, List.length_nil]; omega)))
  | fail)
local macro_rules | `(tactic| walk_at "gg") => `(tactic| repeat' (first | walk_at "g1" | walk_at "g2"))

/-- the places of a book in cell c -/
def plK (st : List (Str × Str)) : List (Key × D) := st.map fun p => (.inr p.1, .str p.2)
theorem plK_val : ∀ {st : List (Str × Str)} {t p : Str}, (st.map (·.1)).Nodup → (t, p) ∈ st → valD (plK st) (.inr t) = some (.str p)
  | [], _, _, _, h => by cases h
  | (a, b) :: r, t, p, hn, h => by
    rw [List.map_cons, List.nodup_cons] at hn
    unfold plK valD
    rw [List.map_cons, List.find?_cons]
    rcases List.mem_cons.mp h with h | h
    · cases h
      simp
    · have ne : a ≠ t := fun e => hn.1 (e ▸ List.mem_map.mpr ⟨_, h, rfl⟩)
      have ih := plK_val (t := t) (p := p) hn.2 h
      unfold plK valD at ih
      simp only [Sum.inr.injEq, ne, decide_false]
      exact ih
theorem plK_in {st : List (Str × Str)} {t : Str} (hn : (st.map (·.1)).Nodup) (h : t ∈ st.map (·.1)) : (valD (plK st) (.inr t)).isSome = true := by
  obtain ⟨p, hp, rfl⟩ := List.mem_map.mp h
  rw [plK_val hn (p := p.2) hp]
  rfl
section
variable {X : EX} {Q : D → Wd → Prop} {QA : List D → Wd → Prop} {w0 w : Wd} {n m c : Nat} {σ : En} {st : List (Str × Str)} {ma : List Str} {fo : Str}
theorem go_din {neg : Bool} {kvs : List (Key × D)} {z : Str} (h : w[c]? = some (.dct kvs)) (q : Q (.bl (if neg then !(valD kvs (.inr z)).isSome else (valD kvs (.inr z)).isSome)) w) : Go X (gDIn neg (.str z) (.obj c) w) Q := by
  refine go_ok (a := D.bl (if neg then !(valD kvs (.inr z)).isSome else (valD kvs (.inr z)).isSome)) (w' := w) ?_ q
  unfold gDIn
  rw [dctL_of h]
  rfl
theorem go_dinT {kvs : List (Key × D)} {z : Str} (h : w[c]? = some (.dct kvs)) (hv : (valD kvs (.inr z)).isSome = true) (q : Q (.bl true) w) : Go X (gDIn false (.str z) (.obj c) w) Q := go_din h (by rw [hv]; exact q)
theorem go_dinF {kvs : List (Key × D)} {z : Str} (h : w[c]? = some (.dct kvs)) (hv : (valD kvs (.inr z)).isSome = true) (q : Q (.bl false) w) : Go X (gDIn true (.str z) (.obj c) w) Q := go_din h (by rw [hv]; exact q)
theorem go_dkeys (h : w[c]? = some (.dct (plK st))) (q : Q (.lst (eS (st.map (·.1)))) w) : Go X (gDKeys [.obj c] w) Q := by
  refine go_ok (a := D.lst (eS (st.map (·.1)))) (w' := w) ?_ q
  simp only [gDKeys, dctL_of h]
  unfold plK
  simp only [List.map_map]
  rfl
theorem is_number_ok {k i j : Int} (h1 : i ≤ k) (h2 : k ≤ j) (q : Q (.bl true) w) : Go X (F_is_number [.int k, .int i, .int j] w) Q := by
  refine go_fn rfl ?_
  unfold M_is_number
  walk_at "gg"
  refine br_y h1 ?_
  walk_at "gg"
  rw [decide_eq_true h2]
  exact q
theorem is_list_ok {ds : List D} (q : Q (.bl true) w) : Go X (F_is_list [.lst ds] w) Q := by
  refine go_fn rfl ?_
  unfold M_is_list
  walk_at "gg"
  exact q
theorem is_pair_ok {z : Str} {d : D} (q : Q (.bl true) w) : Go X (F_is_pair [.tup [.str z, d]] w) Q := by
  refine go_fn rfl ?_
  unfold M_is_pair
  walk_at "gg"
  exact q
theorem are_pairs_ok {t : Prs} {hs : List Str} (hn : (t.map (·.1)).Nodup) (hl : t.length ≤ 1000) (hin : ∀ p ∈ t, p.1 ∈ hs) (q : Q (.bl true) w) : Go X (F_are_pairs [eT t, .lst (eS hs)] w) Q := by
  refine go_fn rfl ?_
  unfold M_are_pairs
  walk_at "gg"
  refine lc_map (fun _ => .bl true) _ (by rw [List.length_map]; omega) (fun d hd => ?_) ?_
  · obtain ⟨p, hp, rfl⟩ := List.mem_map.mp hd
    unfold eP
    walk_at "gg"
    exact is_pair_ok ⟨rfl, rfl⟩
  walk_at "gg"
  refine lc_map d0 _ (by rw [List.length_map]; omega) (fun d hd => ?_) ?_
  · obtain ⟨p, hp, rfl⟩ := List.mem_map.mp hd
    unfold eP
    walk_at "gg"
    exact ⟨rfl, rfl⟩
  have e : (t.map eP).map d0 = eS (t.map (·.1)) := by simp only [List.map_map]; rfl
  rw [e]
  walk_at "gg"
  refine lc_map (fun _ => .bl true) _ (by rw [List.length_map, List.length_map]; omega) (fun d hd => ?_) ?_
  · obtain ⟨z, hz, rfl⟩ := List.mem_map.mp hd
    obtain ⟨p, hp, rfl⟩ := List.mem_map.mp hz
    walk_at "gg"
    refine go_inS ?_
    rw [decide_eq_true (hin p hp)]
    exact ⟨rfl, rfl⟩
  walk_at "gg"
  refine ⟨t.map (·.1), by show stA _ = _; exact stA_eS _, by rw [List.length_map]; omega, ?_⟩
  walk_at "gg"
  have hr : (t.map (·.1)).reverse.Nodup := (List.reverse_perm _).nodup_iff.mpr hn
  rw [decide_eq_true (by rw [cntR_nd hr]; simp)]
  exact q
theorem is_tests_ok {t : Prs} (h : TestsOk ma t) (hma : MarksOk ma) (q : Q (.bl true) w) : Go X (F_is_tests [eT t, .lst (eS ma)] w) Q := by
  refine go_fn rfl ?_
  unfold M_is_tests
  walk_at "gg"
  have hle := hma.le
  refine ⟨by rw [List.length_append, List.length_map]; simp only [List.length_cons, List.length_nil]; omega, ?_⟩
  walk_at "gg"
  rw [show eS ma ++ [D.str "age", D.str "young"] = eS (ma ++ (["age", "young"] : List Str)) from (List.map_append (f := D.str) (l₁ := ma) (l₂ := ["age", "young"])).symm]
  have htl := h.le
  refine are_pairs_ok h.nd (by omega) (fun p hp => ?_) ?_
  · rcases h.ok p hp with h | ⟨h | h, _⟩
    · exact List.mem_append_left _ h.1
    · rw [h]; simp
    · rw [h]; simp
  walk_at "gg"
  refine lc_map (fun _ => .bl true) _ (by rw [List.length_map]; omega) (fun d hd => ?_) ?_
  · obtain ⟨p, hp, rfl⟩ := List.mem_map.mp hd
    unfold eP
    walk_at "gg"
    have e : gIn (.str p.1) (.tup [.str "age", .str "young"]) w = .ok (D.bl (decide (p.1 ∈ (["age", "young"] : List Str)))) w := by
      show R.ok (D.bl ((eS ["age", "young"]).any fun d => eqF d (.str p.1))) w = _
      rw [any_eqF]
    refine go_ok e ?_
    walk_at "gg"
    refine br_dec (fun h1 => ?_) fun h1 => ?_
    · walk_at "gg"
      refine is_number_ok ?_ ?_ ⟨rfl, rfl⟩ <;> (have := h.ok p hp; omega)
    · walk_at "gg"
      refine is_number_ok ?_ ?_ ⟨rfl, rfl⟩
      · have := h.ok p hp; omega
      · rcases h.ok p hp with h2 | h2
        · exact h2.2.2
        · exact absurd (by rcases h2.1 with h3 | h3 <;> rw [h3] <;> simp) h1
  walk_at "gg"
  exact q
theorem is_settings_ok {t : Prs} (h : SetsOk ma t) (q : Q (.bl true) w) : Go X (F_is_settings [eT t, .lst (eS ma)] w) Q := by
  refine go_fn rfl ?_
  unfold M_is_settings
  walk_at "gg"
  have htl := h.le
  refine are_pairs_ok h.nd (by omega) (fun p hp => (h.ok p hp).1) ?_
  walk_at "gg"
  refine lc_map (fun _ => .bl true) _ (by rw [List.length_map]; omega) (fun d hd => ?_) ?_
  · obtain ⟨p, hp, rfl⟩ := List.mem_map.mp hd
    unfold eP
    walk_at "gg"
    exact is_number_ok (h.ok p hp).2.1 (h.ok p hp).2.2 ⟨rfl, rfl⟩
  walk_at "gg"
  exact q
theorem is_message_ok {z : Str} (h : z = "put" ∨ z = "take") (q : Q (.bl true) w) : Go X (F_is_message [.str z] w) Q := by
  refine go_fn rfl ?_
  unfold M_is_message
  rcases h with rfl | rfl
  · walk_at "gg"
    exact q
  · walk_at "gg"
    exact q
theorem is_store_ok {p : Str × Str} (h : NmOk p.1 ∧ (p.2 = "fine" ∨ p.2 = "coarse")) (q : Q (.bl true) w) : Go X (F_is_store [eSt p] w) Q := by
  obtain ⟨a, b⟩ := p
  refine go_fn rfl ?_
  unfold M_is_store eSt
  walk_at "gg"
  refine is_pair_ok ?_
  walk_at "gg"
  refine is_name_ok h.1 ?_
  walk_at "gg"
  rcases h.2 with h | h
  · dsimp only at h
    subst h
    walk_at "gg"
    exact q
  · dsimp only at h
    subst h
    walk_at "gg"
    exact q
theorem is_note_ok {x : Nt} (h : NtOk ma x) (hma : MarksOk ma) (q : Q (.bl true) w) : Go X (F_is_note [eNt x, .lst (eS ma)] w) Q := by
  refine go_fn rfl ?_
  unfold M_is_note eNt
  walk_at "gg"
  refine is_message_ok h.w ?_
  walk_at "gg"
  refine is_tests_ok h.t hma ?_
  walk_at "gg"
  exact is_settings_ok h.s q
end
end Bk

set_option Elab.async false
set_option linter.all false
set_option autoImplicit false
set_option maxRecDepth 100000
set_option maxHeartbeats 4000000
/-! Bk12: entries, steps, jobs, readings that are right. -/
namespace Bk
open PySem L2 PyProof.Rows Si
/-- one step by the form of the code -/
local macro_rules | `(tactic| walk_at "g1") => `(tactic| with_reducible first
  | refine gd_seq ?_ | refine gd_nm ?_ | refine gd_asg ?_ | refine gd_ret ?_ | refine gd_if ?_ | refine gd_next ?_ | refine gd_expr ?_ | refine gd_par ?_ | refine gd_retN ?_ | refine gd_brk ?_ | refine gd_cnt ?_ | refine gd_for ?_
  | refine go_var rfl ?_ | refine go_c ?_ | refine go_op ?_ | refine go_call ?_ | refine go_callK ?_ | refine go_nil ?_ | refine go_cons ?_ | refine go_tup ?_ | refine go_lst ?_ | refine go_lstM ?_ | refine go_chain ?_ | refine go_and ?_ | refine go_or ?_ | refine go_not ?_
  | refine go_tru ?_ | refine go_asB ?_ | refine go_bAnd ?_ | refine go_bOr ?_ | refine go_bNot ?_ | refine go_bYes ?_ | refine go_if ?_ | refine go_neg ?_ | refine go_oNone ?_ | refine go_oSome ?_ | refine go_sl ?_ | refine go_isi ?_ | refine go_isi2 ?_
  | refine go_join ?_ | refine go_app ?_ | refine go_iter ?_ | refine go_zip ?_ | refine go_star ?_ | refine go_lenSet ?_ | refine go_enum ?_ | refine go_rng1 ?_ | refine go_rng2 ?_ | refine go_lc ?_ | refine go_lcM ?_
  | refine go_addI ?_ | refine go_subI ?_ | refine go_lt ?_ | refine go_le ?_ | refine go_gt ?_ | refine go_ge ?_ | refine go_eqI ?_ | refine go_neI ?_ | refine go_eqS ?_ | refine go_neS ?_ | refine go_lenL ?_ | refine go_lenT ?_ | refine go_lenS (by assumption) ?_
  | refine go_slL ?_ | refine go_slT ?_ | refine go_slS (by assumption) ?_ | refine go_ixL rfl ?_ | refine go_ixT rfl ?_ | refine go_intI ?_ | refine go_lstL ?_ | refine go_lstT ?_ | refine go_tupL ?_ | refine go_tupT ?_ | refine go_isN ?_ | refine go_notN ?_ | refine go_allM ?_
  | refine br_t ?_ | refine br_f ?_ | refine br_not ?_)
local macro_rules | `(tactic| walk_at "g2") => `(tactic| first
  | with_reducible refine ex_bl ?_ | with_reducible refine ex_int ?_ | with_reducible refine ex_str ?_ | with_reducible refine ex_nm ?_
  | with_reducible refine ex_zip ?_ | with_reducible refine ex_enum ?_
  | with_reducible refine ex_seq (by with_unfolding_all exact rfl) ?_
  | with_reducible refine ex_tg (by with_unfolding_all exact rfl) ?_
  | with_reducible refine ex_tru (by with_unfolding_all exact rfl) ?_
  | with_reducible refine ex_ty (by with_unfolding_all exact rfl) ?_
  | with_reducible refine ex_it (by with_unfolding_all exact rfl) ?_
  | with_reducible refine br_is (b := isB _ _) (by with_unfolding_all decide) ?_ | with_reducible refine br_isnt (b := isB _ _) (by with_unfolding_all decide) ?_
  | with_reducible refine br_is (b := isB _ _ || isB _ _) (by with_unfolding_all decide) ?_ | with_reducible refine br_isnt (b := isB _ _ || isB _ _) (by with_unfolding_all decide) ?_
  | with_reducible refine go_mulL ⟨by decide, by decide⟩ ?_ | with_reducible refine go_mulR ⟨by decide, by decide⟩ ?_ | with_reducible refine go_mod (by decide) ?_ | with_reducible refine go_div (by decide) (by decide) ?_
  | with_reducible refine go_inTt (by decide +kernel) (by decide +kernel) ?_ | with_reducible refine go_inTf (by decide +kernel) (by decide +kernel) ?_ | with_reducible refine go_niTt (by decide +kernel) (by decide +kernel) ?_ | with_reducible refine go_niTf (by decide +kernel) (by decide +kernel) ?_
  | with_reducible refine br_y (by decide +kernel) ?_ | with_reducible refine br_n (by decide +kernel) ?_ | with_reducible refine br_y (by with_unfolding_all rfl) ?_ | with_reducible refine br_n (by simp only [List.length_cons, List.length_nil]; omega) ?_
  | (with_reducible refine an_rng ?hh ?_; case hh => (first | decide | omega))
  | (with_reducible refine an_rng2 ?hh ?_; case hh => (first | decide | omega))
  | (with_reducible refine an_le ?hh ?_; case hh => (first | decide | (simp only [List.length_cons, List.length_nil]; omega)))
  | fail)
local macro_rules | `(tactic| walk_at "gg") => `(tactic| repeat' (first | walk_at "g1" | walk_at "g2"))

section
variable {X : EX} {Q : D → Wd → Prop} {QA : List D → Wd → Prop} {w0 w : Wd} {n m c : Nat} {σ : En} {st : List (Str × Str)} {ma : List Str} {fo : Str}
theorem is_entry_ok {x : Ent} (h : EntOk st ma fo x) (hst : StoresOk st) (hma : MarksOk ma) (hc : w[c]? = some (.dct (plK st))) (q : Q (.bl true) w) : Go X (F_is_entry [eEnt x, .obj c, .lst (eS ma), .str fo] w) Q := by
  obtain ⟨wd, t, k, mv, l⟩ := x
  obtain ⟨hw, ht, hk, hm⟩ := h
  dsimp only at hw ht hk hm
  rw [show eEnt ⟨wd, t, k, mv, l⟩ = .tup [.str wd, eT t, .str k, eT mv, .bl l] from rfl]
  refine go_fn rfl ?_
  unfold M_is_entry
  walk_at "gg"
  refine is_message_ok hw ?_
  walk_at "gg"
  refine is_tests_ok ht hma ?_
  walk_at "gg"
  have rest : Gd X (fun x w1 => Q D.non w1) Q (fun x x_1 => False) (fun x x_1 => False)
      ((mSeq (mIfS (bOr (bNot (mTru (mCall G_are_pairs (aCons (mVar 7) (aCons (mCall gDKeys (aCons (mVar 1) aNil)) aNil))))) (bNot (mTru (mIsi "bool" (mVar 8))))) (mRet (mC (.bl false))) mNext)
  (mSeq (mAsg (mIf (asB (mOp gEq (mVar 3) (mC (.str "most")))) (mC (.int 1)) (mNeg (mC (.int 1)))) (gNm 9))
  (mRet (mCall gAll (aCons (mLc (mIter (mVar 7)) [10, 11] (gTupD 2 (gConsD (gNm 10) (gConsD (gNm 11) gNilD))) bYes (mAnd (mCall G_is_number (aCons (mVar 11) (aCons (mVar 9) (aCons (mC (.int 1)) aNil)))) (mOp gNe (mVar 11) (mC (.int 0))))) aNil)))))
      [some (.tup [.str wd, eT t, .str k, eT mv, .bl l]), some (.obj c), some (.lst (eS ma)), some (.str fo), some (.str wd), some (eT t), some (.str k), some (eT mv), some (.bl l), none, none, none] w) := by
    walk_at "gg"
    refine go_dkeys hc ?_
    walk_at "gg"
    have hml := hm.le
    refine are_pairs_ok hm.nd (by omega) (fun p hp => (hm.ok p hp).1) ?_
    walk_at "gg"
    refine br_two (fun d w' => w' = w ∧ ∃ i : Int, d = .int i ∧ (i = 1 ∨ i = -1) ∧ (i = 1 → fo = "most")) (fun e => ⟨rfl, 1, rfl, .inl rfl, fun _ => of_decide_eq_true e⟩) (fun _ => ⟨rfl, -1, rfl, .inr rfl, fun e => by cases e⟩) fun d w' ⟨e1, i, e2, hi, hi2⟩ => ?_
    subst e1 e2
    walk_at "gg"
    refine lc_map (fun _ => .bl true) _ (by rw [List.length_map]; omega) (fun d hd => ?_) ?_
    · obtain ⟨p, hp, rfl⟩ := List.mem_map.mp hd
      have hp2 := (hm.ok p hp).2
      unfold eP
      walk_at "gg"
      have hp3 : i ≤ p.2 ∧ p.2 ≤ 1 ∧ p.2 ≠ 0 := by
        rcases hp2 with h1 | ⟨h1, h2⟩
        · omega
        · rcases hi with h3 | h3
          · exact absurd (hi2 h3) h2
          · omega
      refine is_number_ok hp3.1 hp3.2.1 ?_
      walk_at "gg"
      rw [decide_eq_false hp3.2.2]
      exact ⟨rfl, rfl⟩
    walk_at "gg"
    exact q
  rcases hk with rfl | rfl | rfl | rfl <;> (repeat' (first | exact rest | walk_at "g1" | walk_at "g2"))
theorem is_step_ok {y : Stp} (h : StpOk st ma y) (hst : StoresOk st) (hc : w[c]? = some (.dct (plK st))) (q : Q (.bl true) w) : Go X (F_is_step [eStp y, .obj c, .lst (eS ma)] w) Q := by
  have pair : ∀ t s : Str, PairOk st t s → (valD (plK st) (.inr t)).isSome = true ∧ (valD (plK st) (.inr s)).isSome = true ∧ t ≠ s ∧ ∃ pt ps, valD (plK st) (.inr t) = some (.str pt) ∧ valD (plK st) (.inr s) = some (.str ps) ∧ (pt = "coarse" ∨ ps = "fine") := by
    rintro t s ⟨pt, ps, h1, h2, h3, h4⟩
    have e1 := plK_val hst.nd h1
    have e2 := plK_val hst.nd h2
    exact ⟨by rw [e1]; rfl, by rw [e2]; rfl, h3, pt, ps, e1, e2, h4⟩
  refine go_fn rfl ?_
  unfold M_is_step
  cases y with
  | forget =>
    rw [show eStp .forget = .tup [.str "forget"] from rfl]
    walk_at "gg"
    refine lc_map (fun _ => .bl true) _ (by decide) (fun d hd => ?_) ?_
    · simp only [List.mem_cons, List.not_mem_nil, or_false] at hd
      subst hd
      walk_at "gg"
      exact ⟨rfl, rfl⟩
    walk_at "gg"
    refine go_ok (r := gEq _ _ _) (a := D.bl true) (w' := w) (by rfl) q
  | drop t =>
    have h : t ∈ st.map (·.1) := h
    rw [show eStp (.drop t) = .tup [.str "drop", .str t] from rfl]
    walk_at "gg"
    refine lc_map (fun _ => .bl true) _ (by simp) (fun d hd => ?_) ?_
    · simp only [List.mem_cons, List.not_mem_nil, or_false] at hd
      rcases hd with rfl | rfl <;> (walk_at "gg"; exact ⟨rfl, rfl⟩)
    walk_at "gg"
    exact go_dinT hc (plK_in hst.nd h) q
  | set z v =>
    have h : z ∈ ma ∧ 0 ≤ v ∧ v ≤ 1 := h
    rw [show eStp (.set z v) = .tup [.str "set", .str z, .int v] from rfl]
    walk_at "gg"
    refine lc_map (fun _ => .bl true) _ (by simp) (fun d hd => ?_) ?_
    · simp only [List.mem_cons, List.not_mem_nil, or_false] at hd
      rcases hd with rfl | rfl | rfl <;> (walk_at "gg"; exact ⟨rfl, rfl⟩)
    walk_at "gg"
    refine go_inS ?_
    rw [decide_eq_true h.1]
    walk_at "gg"
    exact is_number_ok h.2.1 h.2.2 q
  | copy t s =>
    obtain ⟨h1, h2, h3, pt, ps, h4, h5, h6⟩ := pair t s h
    rw [show eStp (.copy t s) = .tup [.str "copy", .str t, .str s] from rfl]
    walk_at "gg"
    refine lc_map (fun _ => .bl true) _ (by simp) (fun d hd => ?_) ?_
    · simp only [List.mem_cons, List.not_mem_nil, or_false] at hd
      rcases hd with rfl | rfl | rfl <;> (walk_at "gg"; exact ⟨rfl, rfl⟩)
    walk_at "gg"
    refine go_dinF hc h1 ?_
    walk_at "gg"
    refine go_dinF hc h2 ?_
    walk_at "gg"
    refine br_n h3 ?_
    walk_at "gg"
    refine go_dget hc h4 ?_
    walk_at "gg"
    refine br_dec (fun h => ?_) fun h => ?_
    · rw [decide_eq_true h]
      exact q
    walk_at "gg"
    refine go_dget hc h5 ?_
    walk_at "gg"
    rw [decide_eq_true (h6.resolve_left h)]
    exact q
  | add t s =>
    obtain ⟨h1, h2, h3, pt, ps, h4, h5, h6⟩ := pair t s h
    rw [show eStp (.add t s) = .tup [.str "add", .str t, .str s] from rfl]
    walk_at "gg"
    refine lc_map (fun _ => .bl true) _ (by simp) (fun d hd => ?_) ?_
    · simp only [List.mem_cons, List.not_mem_nil, or_false] at hd
      rcases hd with rfl | rfl | rfl <;> (walk_at "gg"; exact ⟨rfl, rfl⟩)
    walk_at "gg"
    refine go_dinF hc h1 ?_
    walk_at "gg"
    refine go_dinF hc h2 ?_
    walk_at "gg"
    refine br_n h3 ?_
    walk_at "gg"
    refine go_dget hc h4 ?_
    walk_at "gg"
    refine br_dec (fun h => ?_) fun h => ?_
    · rw [decide_eq_true h]
      exact q
    walk_at "gg"
    refine go_dget hc h5 ?_
    walk_at "gg"
    rw [decide_eq_true (h6.resolve_left h)]
    exact q
end
end Bk

set_option Elab.async false
set_option linter.all false
set_option autoImplicit false
set_option maxRecDepth 100000
set_option maxHeartbeats 4000000
/-! Bk13: jobs, readings, the checks. -/
namespace Bk
open PySem L2 PyProof.Rows Si
/-- one step by the form of the code -/
local macro_rules | `(tactic| walk_at "g1") => `(tactic| with_reducible first
  | refine gd_seq ?_ | refine gd_nm ?_ | refine gd_asg ?_ | refine gd_ret ?_ | refine gd_if ?_ | refine gd_next ?_ | refine gd_expr ?_ | refine gd_par ?_ | refine gd_retN ?_ | refine gd_brk ?_ | refine gd_cnt ?_ | refine gd_for ?_
  | refine go_var rfl ?_ | refine go_c ?_ | refine go_op ?_ | refine go_call ?_ | refine go_callK ?_ | refine go_nil ?_ | refine go_cons ?_ | refine go_tup ?_ | refine go_lst ?_ | refine go_lstM ?_ | refine go_chain ?_ | refine go_and ?_ | refine go_or ?_ | refine go_not ?_
  | refine go_tru ?_ | refine go_asB ?_ | refine go_bAnd ?_ | refine go_bOr ?_ | refine go_bNot ?_ | refine go_bYes ?_ | refine go_if ?_ | refine go_neg ?_ | refine go_oNone ?_ | refine go_oSome ?_ | refine go_sl ?_ | refine go_isi ?_ | refine go_isi2 ?_
  | refine go_join ?_ | refine go_app ?_ | refine go_iter ?_ | refine go_zip ?_ | refine go_star ?_ | refine go_lenSet ?_ | refine go_enum ?_ | refine go_rng1 ?_ | refine go_rng2 ?_ | refine go_lc ?_ | refine go_lcM ?_
  | refine go_addI ?_ | refine go_subI ?_ | refine go_lt ?_ | refine go_le ?_ | refine go_gt ?_ | refine go_ge ?_ | refine go_eqI ?_ | refine go_neI ?_ | refine go_eqS ?_ | refine go_neS ?_ | refine go_lenL ?_ | refine go_lenT ?_ | refine go_lenS (by assumption) ?_
  | refine go_slL ?_ | refine go_slT ?_ | refine go_slS (by assumption) ?_ | refine go_ixL rfl ?_ | refine go_ixT rfl ?_ | refine go_intI ?_ | refine go_lstL ?_ | refine go_lstT ?_ | refine go_tupL ?_ | refine go_tupT ?_ | refine go_isN ?_ | refine go_notN ?_ | refine go_allM ?_
  | refine br_t ?_ | refine br_f ?_ | refine br_not ?_)
local macro_rules | `(tactic| walk_at "g2") => `(tactic| first
  | with_reducible refine ex_bl ?_ | with_reducible refine ex_int ?_ | with_reducible refine ex_str ?_ | with_reducible refine ex_nm ?_
  | with_reducible refine ex_zip ?_ | with_reducible refine ex_enum ?_
  | with_reducible refine ex_seq (by with_unfolding_all exact rfl) ?_
  | with_reducible refine ex_tg (by with_unfolding_all exact rfl) ?_
  | with_reducible refine ex_tru (by with_unfolding_all exact rfl) ?_
  | with_reducible refine ex_ty (by with_unfolding_all exact rfl) ?_
  | with_reducible refine ex_it (by with_unfolding_all exact rfl) ?_
  | with_reducible refine br_is (b := Si.isNon _) (by with_unfolding_all rfl) ?_ | with_reducible refine br_isnt (b := Si.isNon _) (by with_unfolding_all rfl) ?_
  | with_reducible refine br_is (b := isB _ _) (by with_unfolding_all decide) ?_ | with_reducible refine br_isnt (b := isB _ _) (by with_unfolding_all decide) ?_
  | with_reducible refine br_is (b := isB _ _ || isB _ _) (by with_unfolding_all decide) ?_ | with_reducible refine br_isnt (b := isB _ _ || isB _ _) (by with_unfolding_all decide) ?_
  | with_reducible refine go_mulL ⟨by decide, by decide⟩ ?_ | with_reducible refine go_mulR ⟨by decide, by decide⟩ ?_ | with_reducible refine go_mod (by decide) ?_ | with_reducible refine go_div (by decide) (by decide) ?_
  | with_reducible refine go_inTt (by decide +kernel) (by decide +kernel) ?_ | with_reducible refine go_inTf (by decide +kernel) (by decide +kernel) ?_ | with_reducible refine go_niTt (by decide +kernel) (by decide +kernel) ?_ | with_reducible refine go_niTf (by decide +kernel) (by decide +kernel) ?_
  | with_reducible refine br_y (by decide +kernel) ?_ | with_reducible refine br_n (by decide +kernel) ?_ | with_reducible refine br_y (by with_unfolding_all rfl) ?_ | with_reducible refine br_n (by simp only [List.length_cons, List.length_nil]; omega) ?_
  | (with_reducible refine an_rng ?hh ?_; case hh => (first | decide | omega))
  | (with_reducible refine an_rng2 ?hh ?_; case hh => (first | decide | omega))
  | (with_reducible refine an_le ?hh ?_; case hh => (first | decide | (simp only [List.length_cons, List.length_nil]; omega)))
  | fail)
local macro_rules | `(tactic| walk_at "gg") => `(tactic| repeat' (first | walk_at "g1" | walk_at "g2"))

section
variable {X : EX} {Q : D → Wd → Prop} {QA : List D → Wd → Prop} {w0 w : Wd} {n m c : Nat} {σ : En} {st : List (Str × Str)} {ma : List Str} {fo : Str} {N B C : En → Wd → Prop} {T : D → Wd → Prop}
theorem is_job_ok {x : Jb} (h : JbOk st ma x) (hst : StoresOk st) (hma : MarksOk ma) (hc : w[c]? = some (.dct (plK st))) (q : Q (.bl true) w) : Go X (F_is_job [eJb x, .obj c, .lst (eS ma)] w) Q := by
  obtain ⟨z, t, d, s⟩ := x
  obtain ⟨hn, ht, hd, h1, h5, hs⟩ := h
  dsimp only at hn ht hd h1 h5 hs
  rw [show eJb ⟨z, t, d, s⟩ = .tup [.str z, eT t, eO d, .tup (s.map eStp)] from rfl]
  refine go_fn rfl ?_
  unfold M_is_job
  walk_at "gg"
  refine is_name_ok hn ?_
  walk_at "gg"
  refine is_tests_ok ht hma ?_
  walk_at "gg"
  have rest : Gd X (fun x w1 => Q D.non w1) Q (fun x x_1 => False) (fun x x_1 => False)
      ((mSeq (mAsg (mOp gIx (mVar 0) (mC (.int 3))) (gNm 3))
  (mSeq (mIfS (bOr (bNot (mTru (mIsi "tuple" (mVar 3)))) (bNot (asB (mChain gLe gLe (mC (.int 1)) (mCall gLen (aCons (mVar 3) aNil)) (mC (.int 5)))))) (mRet (mC (.bl false))) mNext)
  (mRet (mCall gAll (aCons (mLc (mIter (mVar 3)) [4] (gNm 4) bYes (mCall G_is_step (aCons (mVar 4) (aCons (mVar 1) (aCons (mVar 2) aNil))))) aNil)))))
      [some (.tup [.str z, eT t, eO d, .tup (s.map eStp)]), some (.obj c), some (.lst (eS ma)), none, none] w) := by
    walk_at "gg"
    refine br_y (by rw [List.length_map]; omega) ?_
    walk_at "gg"
    refine br_y (by rw [List.length_map]; omega) ?_
    walk_at "gg"
    refine lc_map (fun _ => .bl true) _ (by rw [List.length_map]; omega) (fun d hd => ?_) ?_
    · obtain ⟨y, hy, rfl⟩ := List.mem_map.mp hd
      walk_at "gg"
      exact is_step_ok (hs y hy) hst hc ⟨rfl, rfl⟩
    walk_at "gg"
    exact q
  cases d with
  | none =>
    rw [show eO none = .non from rfl] at rest ⊢
    repeat' (first | exact rest | walk_at "g1" | walk_at "g2")
  | some i =>
    rw [show eO (some i) = .int i from rfl] at rest ⊢
    walk_at "gg"
    refine is_number_ok (hd i rfl).1 (hd i rfl).2 ?_
    repeat' (first | exact rest | walk_at "g1" | walk_at "g2")
theorem is_reading_ok {x : Rdg} (h : RdgOk st ma x) (hst : StoresOk st) (hma : MarksOk ma) (hc : w[c]? = some (.dct (plK st))) (q : Q (.bl true) w) : Go X (F_is_reading [eRdg x, .obj c, .lst (eS ma)] w) Q := by
  obtain ⟨wd, t, s⟩ := x
  obtain ⟨hw, ht, hs⟩ := h
  dsimp only at hw ht hs
  rw [show eRdg ⟨wd, t, s⟩ = .tup [.str wd, eT t, eOS s] from rfl]
  refine go_fn rfl ?_
  unfold M_is_reading
  have rest : Gd X (fun x w1 => Q D.non w1) Q (fun x x_1 => False) (fun x x_1 => False)
      ((mSeq (mIfS (asB (mOp gIsN (mVar 5) (mC .non))) (mRet (mC (.bl true))) mNext)
  (mSeq (mIfS (bOr (bNot (mTru (mIsi "tuple" (mVar 5)))) (bNot (mTru (mCall gAll (aCons (mLc (mIter (mVar 5)) [7] (gNm 7) bYes (mAnd (mIsi "str" (mVar 7)) (mOp (gDIn false) (mVar 7) (mVar 1)))) aNil))))) (mRet (mC (.bl false))) mNext)
  (mSeq (mAsg (mOr (mOp gEq (mVar 3) (mC (.str "whole"))) (mCall gAll (aCons (mLc (mIter (mVar 5)) [7] (gNm 7) bYes (mOp gEq (mOp gDGet (mVar 1) (mVar 7)) (mC (.str "fine")))) aNil))) (gNm 6))
  (mRet (mAnd (mVar 6) (mOp gEq (mLenSet (mVar 5)) (mCall gLen (aCons (mVar 5) aNil))))))))
      [some (.tup [.str wd, eT t, eOS s]), some (.obj c), some (.lst (eS ma)), some (.str wd), some (eT t), some (eOS s), none, none] w) := by
    cases s with
    | none =>
      rw [show eOS none = .non from rfl]
      walk_at "gg"
      walk_at "gg"
      exact q
    | some l =>
      obtain ⟨hnd, hl5, hin⟩ := hs l rfl
      rw [show eOS (some l) = .tup (eS l) from rfl]
      walk_at "gg"
      walk_at "gg"
      refine lc_map (fun _ => .bl true) _ (by rw [List.length_map]; omega) (fun d hd => ?_) ?_
      · obtain ⟨z, hz, rfl⟩ := List.mem_map.mp hd
        obtain ⟨p, hp, _⟩ := hin z hz
        walk_at "gg"
        exact go_dinT hc (plK_in hst.nd (List.mem_map.mpr ⟨_, hp, rfl⟩)) ⟨rfl, rfl⟩
      walk_at "gg"
      have fin : ∀ σ : En, σ[5]? = some (some (.tup (eS l))) → σ[6]? = some (some (.bl true)) → Gd X (fun x w1 => Q D.non w1) Q (fun x x_1 => False) (fun x x_1 => False) (mRet (mAnd (mVar 6) (mOp gEq (mLenSet (mVar 5)) (mCall gLen (aCons (mVar 5) aNil)))) σ w) := by
        intro σ h5 h6
        refine gd_ret (go_and (go_var h6 ⟨true, rfl, go_op (go_lenSet (go_var h5 ⟨l, by show stA _ = _; exact stA_eS _, by omega, go_call (go_cons (go_var h5 (go_nil ?_)))⟩))⟩))
        walk_at "gg"
        have hr : l.reverse.Nodup := (List.reverse_perm _).nodup_iff.mpr hnd
        rw [decide_eq_true (by rw [cntR_nd hr]; simp)]
        exact q
      refine br_dec (fun h => ?_) fun h => ?_
      · rw [decide_eq_true h]
        exact fin _ rfl rfl
      walk_at "gg"
      refine lc_map (fun _ => .bl true) _ (by rw [List.length_map]; omega) (fun d hd => ?_) ?_
      · obtain ⟨z, hz, rfl⟩ := List.mem_map.mp hd
        obtain ⟨p, hp, hp2⟩ := hin z hz
        walk_at "gg"
        refine go_dget hc (plK_val hst.nd hp) ?_
        walk_at "gg"
        rw [decide_eq_true (hp2.resolve_left h)]
        exact ⟨rfl, rfl⟩
      refine go_nil (go_allM ?_)
      exact fin _ rfl rfl
  walk_at "gg"
  have wlk : Go X (F_is_tests [eT t, .lst (eS ma)] w) fun d w' => d = .bl true ∧ w' = w := is_tests_ok ht hma ⟨rfl, rfl⟩
  rcases hw with rfl | rfl
  · walk_at "gg"
    refine is_tests_ok ht hma ?_
    repeat' (first | exact rest | walk_at "g1" | walk_at "g2")
  · walk_at "gg"
    refine is_tests_ok ht hma ?_
    repeat' (first | exact rest | walk_at "g1" | walk_at "g2")
end
end Bk

set_option Elab.async false
set_option linter.all false
set_option autoImplicit false
set_option maxRecDepth 100000
set_option maxHeartbeats 4000000
/-! Bk14: the checks let right books through. -/
namespace Bk
open PySem L2 PyProof.Rows Si
/-- one step by the form of the code -/
local macro_rules | `(tactic| walk_at "g1") => `(tactic| with_reducible first
  | refine gd_seq ?_ | refine gd_nm ?_ | refine gd_asg ?_ | refine gd_ret ?_ | refine gd_if ?_ | refine gd_next ?_ | refine gd_expr ?_ | refine gd_par ?_ | refine gd_retN ?_ | refine gd_brk ?_ | refine gd_cnt ?_ | refine gd_for ?_
  | refine go_var rfl ?_ | refine go_c ?_ | refine go_op ?_ | refine go_call ?_ | refine go_callK ?_ | refine go_nil ?_ | refine go_cons ?_ | refine go_tup ?_ | refine go_lst ?_ | refine go_lstM ?_ | refine go_chain ?_ | refine go_and ?_ | refine go_or ?_ | refine go_not ?_
  | refine go_tru ?_ | refine go_asB ?_ | refine go_bAnd ?_ | refine go_bOr ?_ | refine go_bNot ?_ | refine go_bYes ?_ | refine go_if ?_ | refine go_neg ?_ | refine go_oNone ?_ | refine go_oSome ?_ | refine go_sl ?_ | refine go_isi ?_ | refine go_isi2 ?_
  | refine go_join ?_ | refine go_app ?_ | refine go_iter ?_ | refine go_zip ?_ | refine go_star ?_ | refine go_lenSet ?_ | refine go_enum ?_ | refine go_rng1 ?_ | refine go_rng2 ?_ | refine go_lc ?_ | refine go_lcM ?_
  | refine go_addI ?_ | refine go_subI ?_ | refine go_lt ?_ | refine go_le ?_ | refine go_gt ?_ | refine go_ge ?_ | refine go_eqI ?_ | refine go_neI ?_ | refine go_eqS ?_ | refine go_neS ?_ | refine go_lenL ?_ | refine go_lenT ?_ | refine go_lenS (by assumption) ?_
  | refine go_slL ?_ | refine go_slT ?_ | refine go_slS (by assumption) ?_ | refine go_ixL rfl ?_ | refine go_ixT rfl ?_ | refine go_intI ?_ | refine go_lstL ?_ | refine go_lstT ?_ | refine go_tupL ?_ | refine go_tupT ?_ | refine go_isN ?_ | refine go_notN ?_ | refine go_allM ?_
  | refine br_t ?_ | refine br_f ?_ | refine br_not ?_)
local macro_rules | `(tactic| walk_at "g2") => `(tactic| first
  | with_reducible refine ex_bl ?_ | with_reducible refine ex_int ?_ | with_reducible refine ex_str ?_ | with_reducible refine ex_nm ?_
  | with_reducible refine ex_zip ?_ | with_reducible refine ex_enum ?_
  | with_reducible refine ex_seq (by with_unfolding_all exact rfl) ?_
  | with_reducible refine ex_tg (by with_unfolding_all exact rfl) ?_
  | with_reducible refine ex_tru (by with_unfolding_all exact rfl) ?_
  | with_reducible refine ex_ty (by with_unfolding_all exact rfl) ?_
  | with_reducible refine ex_it (by with_unfolding_all exact rfl) ?_
  | with_reducible refine br_is (b := Si.isNon _) (by with_unfolding_all rfl) ?_ | with_reducible refine br_isnt (b := Si.isNon _) (by with_unfolding_all rfl) ?_
  | with_reducible refine br_is (b := isB _ _) (by with_unfolding_all decide) ?_ | with_reducible refine br_isnt (b := isB _ _) (by with_unfolding_all decide) ?_
  | with_reducible refine br_is (b := isB _ _ || isB _ _) (by with_unfolding_all decide) ?_ | with_reducible refine br_isnt (b := isB _ _ || isB _ _) (by with_unfolding_all decide) ?_
  | with_reducible refine go_mulL ⟨by decide, by decide⟩ ?_ | with_reducible refine go_mulR ⟨by decide, by decide⟩ ?_ | with_reducible refine go_mod (by decide) ?_ | with_reducible refine go_div (by decide) (by decide) ?_
  | with_reducible refine go_inTt (by decide +kernel) (by decide +kernel) ?_ | with_reducible refine go_inTf (by decide +kernel) (by decide +kernel) ?_ | with_reducible refine go_niTt (by decide +kernel) (by decide +kernel) ?_ | with_reducible refine go_niTf (by decide +kernel) (by decide +kernel) ?_
  | with_reducible refine br_y (by decide +kernel) ?_ | with_reducible refine br_n (by decide +kernel) ?_ | with_reducible refine br_y (by with_unfolding_all rfl) ?_ | with_reducible refine br_n (by simp only [List.length_cons, List.length_nil]; omega) ?_
  | (with_reducible refine an_rng ?hh ?_; case hh => (first | decide | omega))
  | (with_reducible refine an_rng2 ?hh ?_; case hh => (first | decide | omega))
  | (with_reducible refine an_le ?hh ?_; case hh => (first | decide | (simp only [List.length_cons, List.length_nil]; omega)))
  | fail)
local macro_rules | `(tactic| walk_at "gg") => `(tactic| repeat' (first | walk_at "g1" | walk_at "g2"))

section
variable {X : EX} {Q : D → Wd → Prop} {QA : List D → Wd → Prop} {w0 w : Wd} {n m c : Nat} {σ : En} {st : List (Str × Str)} {ma : List Str} {fo : Str} {N B C : En → Wd → Prop} {T : D → Wd → Prop}
/-- a for over enumerate of typed things -/
theorem enum_loop {α : Type} {f : D → En → Wd → Option En} {body : En → Wd → SR} (e : α → D) (l : List α) (J : List α → En → Wd → Prop)
    (hs : ∀ pre x post σ w, l = pre ++ x :: post → J pre σ w → ∃ σ1, f (.tup [.int (pre.length : Nat), e x]) σ w = some σ1 ∧ Gd X (J (pre ++ [x])) T N (J (pre ++ [x])) (body σ1 w))
    (he : ∀ σ w, J l σ w → N σ w) (h0 : J [] σ w) : Gd X N T B C (forL f body (enumD 0 (l.map e)) σ w) := by
  refine gd_forL (fun r σ w => ∃ pre post, l = pre ++ post ∧ r = enumD pre.length (post.map e) ∧ J pre σ w) ?_ ?_ _ _ _ ⟨[], l, rfl, rfl, h0⟩
  · rintro d r σ w ⟨pre, post, e1, e2, hJ⟩
    cases post with
    | nil => cases e2
    | cons x post =>
      rw [List.map_cons, enumD] at e2
      cases e2
      obtain ⟨σ1, h1, h2⟩ := hs pre x post σ w e1 hJ
      have nx : ∀ σ w, J (pre ++ [x]) σ w → ∃ pre' post', l = pre' ++ post' ∧ enumD (pre.length + 1) (post.map e) = enumD pre'.length (post'.map e) ∧ J pre' σ w := fun σ w h => ⟨pre ++ [x], post, by rw [e1]; simp, by simp, h⟩
      exact ⟨σ1, h1, gd_weak h2 nx (fun _ _ h => h) (fun _ _ h => h) nx⟩
  · rintro σ w ⟨pre, post, e1, e2, hJ⟩
    cases post with
    | nil => rw [List.append_nil] at e1; rw [e1] at he; exact he _ _ hJ
    | cons x post => rw [List.map_cons, enumD] at e2; cases e2
/-- new cells at the end -/
def Ap (w w' : Wd) : Prop := ∃ e, w' = w ++ e
theorem Ap.refl : Ap w w := ⟨[], by simp⟩
theorem Ap.trans {w1 w2 : Wd} (a : Ap w w1) (b : Ap w1 w2) : Ap w w2 := let ⟨e, h⟩ := a; let ⟨f, g⟩ := b; ⟨e ++ f, by rw [g, h, List.append_assoc]⟩
theorem Ap.get {w1 : Wd} {o : MO} (a : Ap w w1) (h : w[m]? = some o) : w1[m]? = some o := by
  obtain ⟨e, rfl⟩ := a
  rw [List.getElem?_append_left (lt_of_get h)]
  exact h
theorem check_stores_ok (hst : StoresOk st) (q : ∀ w', Ap w w' → Q .non w') : Go X (F_check_stores [.lst (st.map eSt)] w) Q := by
  refine go_fn rfl ?_
  unfold M_check_stores
  have h1 := hst.l1
  have h5 := hst.le
  walk_at "gg"
  refine is_list_ok ?_
  walk_at "gg"
  refine br_n (by rw [List.length_map]; omega) ?_
  walk_at "gg"
  refine enum_loop eSt st (fun pre σ w' => (∃ o2 o3, σ = [some (.lst (st.map eSt)), some (.obj w.length), o2, o3]) ∧ w' = w ++ [.lst (eS (pre.map (·.1)))]) ?_ ?_ ⟨⟨_, _, rfl⟩, rfl⟩
  · rintro pre x post σ w1 e ⟨⟨o2, o3, rfl⟩, rfl⟩
    have hx : x ∈ st := by rw [e]; simp
    have hl := congrArg List.length e
    rw [List.length_append, List.length_cons] at hl
    have hni : x.1 ∉ pre.map (·.1) := by
      have hn := hst.nd
      rw [e, List.map_append, List.map_cons, List.nodup_append] at hn
      exact fun h => hn.2.2 _ h _ List.mem_cons_self rfl
    have ha : (w ++ [MO.lst (eS (pre.map (·.1)))])[w.length]? = some (.lst (eS (pre.map (·.1)))) := by simp
    walk_at "gg"
    refine br_n (by omega) ?_
    walk_at "gg"
    refine is_store_ok (hst.ok x hx) ?_
    walk_at "gg"
    refine go_ixT (d := .str x.1) rfl ?_
    walk_at "gg"
    refine go_inC ha ?_
    walk_at "gg"
    refine br_n hni ?_
    walk_at "gg"
    refine ⟨by rw [cel_of ha]; rfl, ?_⟩
    walk_at "gg"
    refine go_ixT (d := .str x.1) rfl ?_
    refine ⟨w.length, _, cel_of ha, by rw [List.length_map, List.length_map]; omega, ⟨_, _, rfl⟩, ?_⟩
    rw [List.set_append_right _ _ (Nat.le_refl _), Nat.sub_self]
    simp
  · rintro σ w' ⟨_, rfl⟩
    exact q _ ⟨_, rfl⟩
theorem check_marks_ok {names : List Str} (hma : MarksOk ma) (hd : ∀ z ∈ ma, z ∉ names) (q : Q .non w) : Go X (F_check_marks [.lst (eS ma), .lst (eS names)] w) Q := by
  refine go_fn rfl ?_
  unfold M_check_marks
  have h5 := hma.le
  walk_at "gg"
  refine is_list_ok ?_
  walk_at "gg"
  refine enum_loop D.str ma (fun pre σ w' => (∃ o2 o3, σ = [some (.lst (eS ma)), some (.lst (eS names)), o2, o3]) ∧ w' = w) ?_ ?_ ⟨⟨_, _, rfl⟩, rfl⟩
  · rintro pre x post σ w1 e ⟨⟨o2, o3, rfl⟩, rfl⟩
    have hx : x ∈ ma := by rw [e]; simp
    have hl := congrArg List.length e
    rw [List.length_append, List.length_cons] at hl
    walk_at "gg"
    refine br_n (by omega) ?_
    walk_at "gg"
    refine is_name_ok (hma.nm x hx) ?_
    walk_at "gg"
    refine go_inS ?_
    walk_at "gg"
    refine br_n (hd x hx) ?_
    walk_at "gg"
    rw [cut_to (by omega), Int.toNat_natCast, ← List.map_take]
    refine go_inS ?_
    walk_at "gg"
    refine br_n ?_ ?_
    · have hn := hma.nd
      rw [e] at hn ⊢
      rw [List.take_left' rfl]
      rw [List.nodup_append] at hn
      exact fun h => hn.2.2 _ h _ List.mem_cons_self rfl
    walk_at "gg"
    exact ⟨⟨_, _, rfl⟩, rfl⟩
  · rintro σ w' ⟨_, rfl⟩
    exact q
theorem check_notes_ok {l : List Nt} (hl : l.length ≤ 8) (h : ∀ x ∈ l, NtOk ma x) (hma : MarksOk ma) (q : Q .non w) : Go X (F_check_notes [.lst (l.map eNt), .lst (eS ma)] w) Q := by
  refine go_fn rfl ?_
  unfold M_check_notes
  walk_at "gg"
  refine is_list_ok ?_
  walk_at "gg"
  refine enum_loop eNt l (fun pre σ w' => (∃ o2 o3, σ = [some (.lst (l.map eNt)), some (.lst (eS ma)), o2, o3]) ∧ w' = w) ?_ ?_ ⟨⟨_, _, rfl⟩, rfl⟩
  · rintro pre x post σ w1 e ⟨⟨o2, o3, rfl⟩, rfl⟩
    have hx : x ∈ l := by rw [e]; simp
    have hl2 := congrArg List.length e
    rw [List.length_append, List.length_cons] at hl2
    walk_at "gg"
    refine br_n (by omega) ?_
    walk_at "gg"
    refine is_note_ok (h x hx) hma ?_
    walk_at "gg"
    exact ⟨⟨_, _, rfl⟩, rfl⟩
  · rintro σ w' ⟨_, rfl⟩
    exact q
theorem check_entries_ok {l : List Ent} (hl : l.length ≤ 8) (h : ∀ x ∈ l, EntOk st ma fo x) (hst : StoresOk st) (hma : MarksOk ma) (hc : w[c]? = some (.dct (plK st))) (q : Q .non w) : Go X (F_check_entries [.lst (l.map eEnt), .obj c, .lst (eS ma), .str fo] w) Q := by
  refine go_fn rfl ?_
  unfold M_check_entries
  walk_at "gg"
  refine is_list_ok ?_
  walk_at "gg"
  refine enum_loop eEnt l (fun pre σ w' => (∃ o2 o3, σ = [some (.lst (l.map eEnt)), some (.obj c), some (.lst (eS ma)), some (.str fo), o2, o3]) ∧ w' = w) ?_ ?_ ⟨⟨_, _, rfl⟩, rfl⟩
  · rintro pre x post σ w1 e ⟨⟨o2, o3, rfl⟩, rfl⟩
    have hx : x ∈ l := by rw [e]; simp
    have hl2 := congrArg List.length e
    rw [List.length_append, List.length_cons] at hl2
    walk_at "gg"
    refine br_n (by omega) ?_
    walk_at "gg"
    refine is_entry_ok (h x hx) hst hma hc ?_
    walk_at "gg"
    exact ⟨⟨_, _, rfl⟩, rfl⟩
  · rintro σ w' ⟨_, rfl⟩
    exact q
theorem check_readings_ok {l : List Rdg} (hl : l.length ≤ 8) (h : ∀ x ∈ l, RdgOk st ma x) (hst : StoresOk st) (hma : MarksOk ma) (hc : w[c]? = some (.dct (plK st))) (q : Q .non w) : Go X (F_check_readings [.lst (l.map eRdg), .obj c, .lst (eS ma)] w) Q := by
  refine go_fn rfl ?_
  unfold M_check_readings
  walk_at "gg"
  refine is_list_ok ?_
  walk_at "gg"
  refine enum_loop eRdg l (fun pre σ w' => (∃ o2 o3, σ = [some (.lst (l.map eRdg)), some (.obj c), some (.lst (eS ma)), o2, o3]) ∧ w' = w) ?_ ?_ ⟨⟨_, _, rfl⟩, rfl⟩
  · rintro pre x post σ w1 e ⟨⟨o2, o3, rfl⟩, rfl⟩
    have hx : x ∈ l := by rw [e]; simp
    have hl2 := congrArg List.length e
    rw [List.length_append, List.length_cons] at hl2
    walk_at "gg"
    refine br_n (by omega) ?_
    walk_at "gg"
    refine is_reading_ok (h x hx) hst hma hc ?_
    walk_at "gg"
    exact ⟨⟨_, _, rfl⟩, rfl⟩
  · rintro σ w' ⟨_, rfl⟩
    exact q
theorem check_jobs_ok {l : List Jb} (hl : l.length ≤ 4) (hn : (l.map (·.n)).Nodup) (h : ∀ x ∈ l, JbOk st ma x) (hst : StoresOk st) (hma : MarksOk ma) (hc : w[c]? = some (.dct (plK st))) (q : ∀ w', Ap w w' → Q .non w') : Go X (F_check_jobs [.lst (l.map eJb), .obj c, .lst (eS ma)] w) Q := by
  refine go_fn rfl ?_
  unfold M_check_jobs
  walk_at "gg"
  refine is_list_ok ?_
  walk_at "gg"
  refine enum_loop eJb l (fun pre σ w' => (∃ o2 o3, σ = [some (.lst (l.map eJb)), some (.obj c), some (.lst (eS ma)), some (.obj w.length), o2, o3]) ∧ w' = w ++ [.lst (eS (pre.map (·.n)))]) ?_ ?_ ⟨⟨_, _, rfl⟩, rfl⟩
  · rintro pre x post σ w1 e ⟨⟨o2, o3, rfl⟩, rfl⟩
    have hx : x ∈ l := by rw [e]; simp
    have hl2 := congrArg List.length e
    rw [List.length_append, List.length_cons] at hl2
    have hni : x.n ∉ pre.map (·.n) := by
      rw [e, List.map_append, List.map_cons, List.nodup_append] at hn
      exact fun h => hn.2.2 _ h _ List.mem_cons_self rfl
    have ha : (w ++ [MO.lst (eS (pre.map (·.n)))])[w.length]? = some (.lst (eS (pre.map (·.n)))) := by simp
    walk_at "gg"
    refine br_n (by omega) ?_
    walk_at "gg"
    refine is_job_ok (h x hx) hst hma (Ap.get ⟨_, rfl⟩ hc) ?_
    walk_at "gg"
    refine go_ixT (d := .str x.n) rfl ?_
    walk_at "gg"
    refine go_inC ha ?_
    walk_at "gg"
    refine br_n hni ?_
    walk_at "gg"
    refine ⟨by rw [cel_of ha]; rfl, ?_⟩
    walk_at "gg"
    refine go_ixT (d := .str x.n) rfl ?_
    refine ⟨w.length, _, cel_of ha, by rw [List.length_map, List.length_map]; omega, ⟨_, _, rfl⟩, ?_⟩
    rw [List.set_append_right _ _ (Nat.le_refl _), Nat.sub_self]
    simp
  · rintro σ w' ⟨_, rfl⟩
    exact q _ ⟨_, rfl⟩
end
end Bk

set_option Elab.async false
set_option linter.all false
set_option autoImplicit false
set_option maxRecDepth 100000
set_option maxHeartbeats 4000000
/-! Bk15: a book is made. -/
namespace Bk
open PySem L2 PyProof.Rows Si
/-- one step by the form of the code -/
local macro_rules | `(tactic| walk_at "g1") => `(tactic| with_reducible first
  | refine gd_seq ?_ | refine gd_nm ?_ | refine gd_asg ?_ | refine gd_ret ?_ | refine gd_if ?_ | refine gd_next ?_ | refine gd_expr ?_ | refine gd_par ?_ | refine gd_retN ?_ | refine gd_brk ?_ | refine gd_cnt ?_ | refine gd_for ?_
  | refine go_var rfl ?_ | refine go_c ?_ | refine go_op ?_ | refine go_call ?_ | refine go_callK ?_ | refine go_nil ?_ | refine go_cons ?_ | refine go_tup ?_ | refine go_lst ?_ | refine go_lstM ?_ | refine go_chain ?_ | refine go_and ?_ | refine go_or ?_ | refine go_not ?_
  | refine go_tru ?_ | refine go_asB ?_ | refine go_bAnd ?_ | refine go_bOr ?_ | refine go_bNot ?_ | refine go_bYes ?_ | refine go_if ?_ | refine go_neg ?_ | refine go_oNone ?_ | refine go_oSome ?_ | refine go_sl ?_ | refine go_isi ?_ | refine go_isi2 ?_
  | refine go_join ?_ | refine go_app ?_ | refine go_iter ?_ | refine go_zip ?_ | refine go_star ?_ | refine go_lenSet ?_ | refine go_enum ?_ | refine go_rng1 ?_ | refine go_rng2 ?_ | refine go_lc ?_ | refine go_lcM ?_
  | refine go_addI ?_ | refine go_subI ?_ | refine go_lt ?_ | refine go_le ?_ | refine go_gt ?_ | refine go_ge ?_ | refine go_eqI ?_ | refine go_neI ?_ | refine go_eqS ?_ | refine go_neS ?_ | refine go_lenL ?_ | refine go_lenT ?_ | refine go_lenS (by assumption) ?_
  | refine go_slL ?_ | refine go_slT ?_ | refine go_slS (by assumption) ?_ | refine go_ixL rfl ?_ | refine go_ixT rfl ?_ | refine go_intI ?_ | refine go_lstL ?_ | refine go_lstT ?_ | refine go_tupL ?_ | refine go_tupT ?_ | refine go_isN ?_ | refine go_notN ?_ | refine go_allM ?_
  | refine br_t ?_ | refine br_f ?_ | refine br_not ?_)
local macro_rules | `(tactic| walk_at "g2") => `(tactic| first
  | with_reducible refine ex_bl ?_ | with_reducible refine ex_int ?_ | with_reducible refine ex_str ?_ | with_reducible refine ex_nm ?_
  | with_reducible refine ex_zip ?_ | with_reducible refine ex_enum ?_
  | with_reducible refine ex_seq (by with_unfolding_all exact rfl) ?_
  | with_reducible refine ex_tg (by with_unfolding_all exact rfl) ?_
  | with_reducible refine ex_tru (by with_unfolding_all exact rfl) ?_
  | with_reducible refine ex_ty (by with_unfolding_all exact rfl) ?_
  | with_reducible refine ex_it (by with_unfolding_all exact rfl) ?_
  | with_reducible refine br_is (b := Si.isNon _) (by with_unfolding_all rfl) ?_ | with_reducible refine br_isnt (b := Si.isNon _) (by with_unfolding_all rfl) ?_
  | with_reducible refine br_is (b := isB _ _) (by with_unfolding_all decide) ?_ | with_reducible refine br_isnt (b := isB _ _) (by with_unfolding_all decide) ?_
  | with_reducible refine br_is (b := isB _ _ || isB _ _) (by with_unfolding_all decide) ?_ | with_reducible refine br_isnt (b := isB _ _ || isB _ _) (by with_unfolding_all decide) ?_
  | with_reducible refine go_mulL ⟨by decide, by decide⟩ ?_ | with_reducible refine go_mulR ⟨by decide, by decide⟩ ?_ | with_reducible refine go_mod (by decide) ?_ | with_reducible refine go_div (by decide) (by decide) ?_
  | with_reducible refine go_inTt (by decide +kernel) (by decide +kernel) ?_ | with_reducible refine go_inTf (by decide +kernel) (by decide +kernel) ?_ | with_reducible refine go_niTt (by decide +kernel) (by decide +kernel) ?_ | with_reducible refine go_niTf (by decide +kernel) (by decide +kernel) ?_
  | with_reducible refine br_y (by decide +kernel) ?_ | with_reducible refine br_n (by decide +kernel) ?_ | with_reducible refine br_y (by with_unfolding_all rfl) ?_ | with_reducible refine br_n (by simp only [List.length_cons, List.length_nil]; omega) ?_
  | (with_reducible refine an_rng ?hh ?_; case hh => (first | decide | omega))
  | (with_reducible refine an_rng2 ?hh ?_; case hh => (first | decide | omega))
  | (with_reducible refine an_le ?hh ?_; case hh => (first | decide | (simp only [List.length_cons, List.length_nil]; omega)))
  | fail)
local macro_rules | `(tactic| walk_at "gg") => `(tactic| repeat' (first | walk_at "g1" | walk_at "g2"))

theorem lookup_zip : ∀ {ks : List Str} {vs : List D} {i : Nat} {k : Str} {v : D}, ks[i]? = some k → (∀ x ∈ ks.take i, x ≠ k) → vs[i]? = some v → (ks.zip vs).lookup k = some v
  | [], _, _, _, _, h, _, _ => by simp at h
  | _ :: _, [], _, _, _, _, _, h => by simp at h
  | a :: ks, b :: vs, 0, k, v, h, _, h2 => by
    simp at h h2
    subst h h2
    simp [List.lookup]
  | a :: ks, b :: vs, i + 1, k, v, h, hn, h2 => by
    have ih := lookup_zip (ks := ks) (vs := vs) (i := i) (k := k) (v := v) (by simpa using h) (fun x hx => hn x (by simp [hx])) (by simpa using h2)
    have ne : k ≠ a := fun e => hn a (by simp) e.symm
    rw [List.zip_cons_cons, List.lookup_cons, beq_eq_false_iff_ne.mpr ne]
    exact ih
theorem lookup_no : ∀ {ks : List Str} {vs : List D} {k : Str}, (∀ x ∈ ks, x ≠ k) → (ks.zip vs).lookup k = none
  | [], _, _, _ => rfl
  | _ :: _, [], _, _ => rfl
  | a :: ks, b :: vs, k, h => by
    have ne : k ≠ a := fun e => h a (by simp) e.symm
    rw [List.zip_cons_cons, List.lookup_cons, beq_eq_false_iff_ne.mpr ne]
    exact lookup_no fun x hx => h x (List.mem_cons_of_mem _ hx)
theorem putD_new : ∀ {fs : List (Str × D)} {f : Str} {d : D}, (∀ x ∈ fs.map (·.1), x ≠ f) → putD f d fs = fs ++ [(f, d)]
  | [], _, _, _ => rfl
  | (g, x) :: r, f, d, h => by
    have ne : g ≠ f := h g (by simp)
    rw [putD, if_neg ne, putD_new fun y hy => h y (by simp only [List.map_cons, List.mem_cons]; exact .inr hy)]
    rfl
section
variable {X : EX} {Q : D → Wd → Prop} {QA : List D → Wd → Prop} {w0 w : Wd} {n m c b : Nat} {σ : En} {st : List (Str × Str)} {ma : List Str} {fo : Str} {N B C : En → Wd → Prop} {T : D → Wd → Prop}
theorem insL_of {cn : Str} {fs : List (Str × D)} (h : w[b]? = some (.ins cn fs)) : insL (.obj b) w = some (b, cn, fs) := by simp only [insL, h]
theorem go_fld {cs : List Str} {f : Str} {ma : En → Wd → R D} (h : Go X (ma σ w) fun u w1 => ∃ b c fs d, u = .obj b ∧ w1[b]? = some (.ins c fs) ∧ c ∈ cs ∧ fs.lookup f = some d ∧ Q d w1) : Go X (mFld cs f ma σ w) Q :=
  go_bind (go_weak h fun _ _ ⟨b, c, fs, d, e, e1, e2, e3, h⟩ => by
    subst e
    rw [insL_of e1]
    dsimp only
    rw [if_pos e2, e3]
    exact h)
theorem go_meth {c m : Str} {G : List D → Wd → R D} {mo : En → Wd → R D} {mas : En → Wd → R (List D)} (h : Go X (mo σ w) fun u w1 => ∃ b fs, u = .obj b ∧ w1[b]? = some (.ins c fs) ∧ fs.lookup m = none ∧ Go X (mas σ w1) fun us w2 => Go X (G (.obj b :: us) w2) Q) : Go X (mMeth c m G mo mas σ w) Q :=
  go_bind (go_weak h fun _ _ ⟨b, fs, e, e1, e2, h⟩ => by
    subst e
    rw [insL_of e1]
    dsimp only
    rw [if_pos ⟨rfl, e2⟩]
    exact go_bind h)
theorem go_methK {c m : Str} {G : List D → Wd → R D} {pm : List Nat} {mo : En → Wd → R D} {mas mks : En → Wd → R (List D)} (h : Go X (mo σ w) fun u w1 => ∃ b fs, u = .obj b ∧ w1[b]? = some (.ins c fs) ∧ fs.lookup m = none ∧ Go X (mas σ w1) fun us w2 => Go X (mks σ w2) fun zs w3 => Go X (G (permL pm (.obj b :: (us ++ zs))) w3) Q) : Go X (mMethK c m G pm mo mas mks σ w) Q :=
  go_bind (go_weak h fun _ _ ⟨b, fs, e, e1, e2, h⟩ => by
    subst e
    rw [insL_of e1]
    dsimp only
    rw [if_pos ⟨rfl, e2⟩]
    exact go_bind (go_weak h fun _ _ h => go_bind h))
theorem go_make {c : Str} {G : List D → Wd → R D} {pm : List Nat} {dms : List D} {mas mks : En → Wd → R (List D)} (h : Go X (mas σ w) fun us w1 => Go X (mks σ w1) fun zs w2 => Go X (G (permL pm (.obj w2.length :: (us ++ (zs ++ dms)))) (w2 ++ [.ins c []])) fun d w3 => d = .non ∧ Q (.obj w2.length) w3) : Go X (mMake c G pm dms mas mks σ w) Q :=
  go_bind (go_weak h fun us w1 h => go_bind (go_weak h fun zs w2 h => by
    unfold made
    cases e : G (permL pm (.obj w2.length :: (us ++ (zs ++ dms)))) (w2 ++ [.ins c []]) with
    | ok d w3 => rw [e] at h; obtain ⟨h1, h2⟩ := h; subst h1; exact h2
    | err x fs w3 => rw [e] at h; exact h
    | stuck => rw [e] at h; exact h.elim))
theorem gd_setF {cs : List Str} {f : Str} {mo mv : En → Wd → R D} (h : Go X (mv σ w) fun d w1 => Go X (mo σ w1) fun u w2 => ∃ b c fs, u = .obj b ∧ w2[b]? = some (.ins c fs) ∧ c ∈ cs ∧ fs.length < 1000 ∧ N σ (w2.set b (.ins c (putD f d fs)))) : Gd X N T B C (mSetF cs f mo mv σ w) :=
  gd_toS (go_weak h fun d w1 h => gd_toS (go_weak h fun u w2 ⟨b, c, fs, e, e1, e2, e3, h⟩ => by
    subst e
    rw [insL_of e1]
    dsimp only
    rw [if_pos ⟨e2, e3⟩]
    exact h))
/-- new attributes, one after another -/
theorem putAll_new {cs : List Str} {cn : Str} (hcs : cn ∈ cs) : ∀ {fs : List Str} {ds : List D} {w : Wd} {old : List (Str × D)}, w[b]? = some (.ins cn old) → fs.length = ds.length → old.length + fs.length < 1000 → (old.map (·.1) ++ fs).Nodup → putAllD cs fs (.obj b) ds w = some (w.set b (.ins cn (old ++ fs.zip ds)))
  | [], [], w, old, h, _, _, _ => by
    rw [putAllD]
    have : w.set b (.ins cn (old ++ [])) = w := by
      rw [List.append_nil]
      refine List.ext_getElem? fun i => ?_
      by_cases hi : b = i
      · subst hi
        rw [List.getElem?_set_self (lt_of_get h), h]
      · rw [List.getElem?_set_ne hi]
    rw [List.zip_nil_left, this]
  | [], _ :: _, _, _, _, h, _, _ => by simp at h
  | _ :: _, [], _, _, _, h, _, _ => by simp at h
  | f :: fs, d :: ds, w, old, h, hl, hs, hn => by
    rw [putAllD, insL_of h]
    dsimp only
    simp only [List.length_cons] at hs
    rw [if_pos ⟨hcs, by omega⟩]
    have hnf : ∀ x ∈ old.map (·.1), x ≠ f := fun x hx e => by
      rw [List.nodup_append] at hn
      exact hn.2.2 x hx f List.mem_cons_self e
    rw [putD_new hnf]
    rw [putAll_new hcs (old := old ++ [(f, d)]) (List.getElem?_set_self (lt_of_get h)) (by simpa using hl) (by simp; omega) (by simpa using hn)]
    rw [List.set_set, List.append_assoc]
    rfl
theorem gd_asgF {cs fs : List Str} {i : Nat} {mv : En → Wd → R D} {b : Nat} (hi : σ[i]? = some (some (.obj b)))
    (h : Go X (mv σ w) fun d w1 => ∃ ds cn old, d = .tup ds ∧ w1[b]? = some (.ins cn old) ∧ cn ∈ cs ∧ fs.length = ds.length ∧ old.length + fs.length < 1000 ∧ (old.map (·.1) ++ fs).Nodup ∧ N σ (w1.set b (.ins cn (old ++ fs.zip ds)))) : Gd X N T B C (mAsgF cs fs i mv σ w) :=
  gd_toS (go_weak h fun d w1 ⟨ds, cn, old, e, e1, hcs, e2, e3, e4, h⟩ => by
    subst e
    rw [hi]
    dsimp only
    rw [if_pos e2.symm, putAll_new hcs e1 e2 e3 e4]
    exact h)
/-- a dict comprehension over pairs with different names -/
theorem go_dcP {it : En → Wd → R (List D)} {own : List Nat} {f : D → En → Wd → Option En} {mk mv : En → Wd → R D} (h : Go X (it σ w) fun ds w1 => ds = st.map eSt ∧ w1 = w) (hn : (st.map (·.1)).Nodup) (hl : st.length ≤ 1000)
    (hs : ∀ p ∈ st, ∃ σ1, f (eSt p) (wipeD σ own) w = some σ1 ∧ mk σ1 w = .ok (.str p.1) w ∧ mv σ1 w = .ok (.str p.2) w) (q : Q (.obj w.length) (w ++ [.dct (plK st)])) : Go X (mDc it own f bYes mk mv σ w) Q := by
  refine go_bind (go_weak h ?_)
  rintro ds w1 ⟨rfl, rfl⟩
  have lp : ∀ (r pre : List (Str × Str)), st = pre ++ r → dcL own f bYes mk mv σ (r.map eSt) (plK pre) w1 = .ok (plK st) w1 := by
    intro r
    induction r with
    | nil => intro pre e; rw [List.append_nil] at e; rw [e]; rfl
    | cons p r ih =>
      intro pre e
      obtain ⟨σ1, e1, e2, e3⟩ := hs p (by rw [e]; simp)
      have hp : putKD (plK pre) (.inr p.1) (.str p.2) = plK (pre ++ [p]) := by
        unfold putKD
        rw [if_neg]
        · unfold plK; simp
        · rw [Bool.not_eq_true, List.any_eq_false]
          intro kv hkv
          obtain ⟨y, hy, rfl⟩ := List.mem_map.mp hkv
          rw [e, List.map_append, List.map_cons, List.nodup_append] at hn
          simp only [decide_eq_true_eq]
          exact fun e2 => hn.2.2 y.1 (List.mem_map.mpr ⟨y, hy, rfl⟩) p.1 List.mem_cons_self (Sum.inr.inj e2)
      have hlen : (plK pre).length < 16777216 := by
        have := congrArg List.length e
        rw [List.length_append, List.length_cons] at this
        unfold plK
        rw [List.length_map]
        omega
      rw [List.map_cons, dcL]
      simp only [e1, bYes, e2, e3, keyD, hlen, if_true, hp]
      exact ih (pre ++ [p]) (by rw [e]; simp)
  rw [show ([] : List (Key × D)) = plK [] from rfl, lp st [] rfl]
  exact q
end
end Bk

set_option Elab.async false
set_option linter.all false
set_option autoImplicit false
set_option maxRecDepth 100000
set_option maxHeartbeats 4000000
/-! Bk16: a book is made. -/
namespace Bk
open PySem L2 PyProof.Rows Si
/-- one step by the form of the code -/
local macro_rules | `(tactic| walk_at "g1") => `(tactic| with_reducible first
  | refine gd_seq ?_ | refine gd_nm ?_ | refine gd_asg ?_ | refine gd_ret ?_ | refine gd_if ?_ | refine gd_next ?_ | refine gd_expr ?_ | refine gd_par ?_ | refine gd_retN ?_ | refine gd_brk ?_ | refine gd_cnt ?_ | refine gd_for ?_
  | refine go_var rfl ?_ | refine go_c ?_ | refine go_op ?_ | refine go_call ?_ | refine go_callK ?_ | refine go_nil ?_ | refine go_cons ?_ | refine go_tup ?_ | refine go_lst ?_ | refine go_lstM ?_ | refine go_chain ?_ | refine go_and ?_ | refine go_or ?_ | refine go_not ?_
  | refine go_tru ?_ | refine go_asB ?_ | refine go_bAnd ?_ | refine go_bOr ?_ | refine go_bNot ?_ | refine go_bYes ?_ | refine go_if ?_ | refine go_neg ?_ | refine go_oNone ?_ | refine go_oSome ?_ | refine go_sl ?_ | refine go_isi ?_ | refine go_isi2 ?_
  | refine go_join ?_ | refine go_app ?_ | refine go_iter ?_ | refine go_zip ?_ | refine go_star ?_ | refine go_lenSet ?_ | refine go_enum ?_ | refine go_rng1 ?_ | refine go_rng2 ?_ | refine go_lc ?_ | refine go_lcM ?_
  | refine go_addI ?_ | refine go_subI ?_ | refine go_lt ?_ | refine go_le ?_ | refine go_gt ?_ | refine go_ge ?_ | refine go_eqI ?_ | refine go_neI ?_ | refine go_eqS ?_ | refine go_neS ?_ | refine go_lenL ?_ | refine go_lenT ?_ | refine go_lenS (by assumption) ?_
  | refine go_slL ?_ | refine go_slT ?_ | refine go_slS (by assumption) ?_ | refine go_ixL rfl ?_ | refine go_ixT rfl ?_ | refine go_intI ?_ | refine go_lstL ?_ | refine go_lstT ?_ | refine go_tupL ?_ | refine go_tupT ?_ | refine go_isN ?_ | refine go_notN ?_ | refine go_allM ?_
  | refine br_t ?_ | refine br_f ?_ | refine br_not ?_)
local macro_rules | `(tactic| walk_at "g2") => `(tactic| first
  | with_reducible refine ex_bl ?_ | with_reducible refine ex_int ?_ | with_reducible refine ex_str ?_ | with_reducible refine ex_nm ?_
  | with_reducible refine ex_zip ?_ | with_reducible refine ex_enum ?_
  | with_reducible refine ex_seq (by with_unfolding_all exact rfl) ?_
  | with_reducible refine ex_tg (by with_unfolding_all exact rfl) ?_
  | with_reducible refine ex_tru (by with_unfolding_all exact rfl) ?_
  | with_reducible refine ex_ty (by with_unfolding_all exact rfl) ?_
  | with_reducible refine ex_it (by with_unfolding_all exact rfl) ?_
  | with_reducible refine br_is (b := Si.isNon _) (by with_unfolding_all rfl) ?_ | with_reducible refine br_isnt (b := Si.isNon _) (by with_unfolding_all rfl) ?_
  | with_reducible refine br_is (b := isB _ _) (by with_unfolding_all decide) ?_ | with_reducible refine br_isnt (b := isB _ _) (by with_unfolding_all decide) ?_
  | with_reducible refine br_is (b := isB _ _ || isB _ _) (by with_unfolding_all decide) ?_ | with_reducible refine br_isnt (b := isB _ _ || isB _ _) (by with_unfolding_all decide) ?_
  | with_reducible refine go_mulL ⟨by decide, by decide⟩ ?_ | with_reducible refine go_mulR ⟨by decide, by decide⟩ ?_ | with_reducible refine go_mod (by decide) ?_ | with_reducible refine go_div (by decide) (by decide) ?_
  | with_reducible refine go_inTt (by decide +kernel) (by decide +kernel) ?_ | with_reducible refine go_inTf (by decide +kernel) (by decide +kernel) ?_ | with_reducible refine go_niTt (by decide +kernel) (by decide +kernel) ?_ | with_reducible refine go_niTf (by decide +kernel) (by decide +kernel) ?_
  | with_reducible refine br_y (by decide +kernel) ?_ | with_reducible refine br_n (by decide +kernel) ?_ | with_reducible refine br_y (by with_unfolding_all rfl) ?_ | with_reducible refine br_n (by simp only [List.length_cons, List.length_nil]; omega) ?_
  | (with_reducible refine an_rng ?hh ?_; case hh => (first | decide | omega))
  | (with_reducible refine an_rng2 ?hh ?_; case hh => (first | decide | omega))
  | (with_reducible refine an_le ?hh ?_; case hh => (first | decide | (simp only [List.length_cons, List.length_nil]; omega)))
  | fail)
local macro_rules | `(tactic| walk_at "gg") => `(tactic| repeat' (first | walk_at "g1" | walk_at "g2"))

def isAge (p : Str × Int) : Bool := decide (p.1 ∈ (["age", "young"] : List Str))
def Sp.tests (sp : Sp) : List Prs := sp.no.map (·.t) ++ sp.en.map (·.t) ++ sp.jo.map (·.t) ++ sp.re.map (·.t)
def agesIn (l : List Prs) : List Int := (l.map fun t => (t.filter isAge).map (·.2)).flatten
def waitsIn (l : List Jb) : List Int := l.filterMap (·.d)
def Sp.nums (sp : Sp) : List Int := 0 :: (agesIn sp.tests ++ waitsIn sp.jo)
def Sp.top (sp : Sp) : Int := sp.wd + topI (sp.la :: sp.ba :: sp.nums)
def bkK : List Str := ["own_width", "own_late", "own_back", "own_fold", "own_stores", "own_marks", "own_notes", "own_entries", "own_jobs", "own_readings"]
def Sp.fs10 (sp : Sp) : List (Str × D) := bkK.zip [.int sp.wd, .int sp.la, .int sp.ba, .str sp.fo, .lst (sp.st.map eSt), .lst (eS sp.ma), .lst (sp.no.map eNt), .lst (sp.en.map eEnt), .lst (sp.jo.map eJb), .lst (sp.re.map eRdg)]
def Sp.fs (sp : Sp) : List (Str × D) := (bkK ++ (["own_top"] : List Str)).zip [.int sp.wd, .int sp.la, .int sp.ba, .str sp.fo, .lst (sp.st.map eSt), .lst (eS sp.ma), .lst (sp.no.map eNt), .lst (sp.en.map eEnt), .lst (sp.jo.map eJb), .lst (sp.re.map eRdg), .int sp.top]
def d1 : D → D | .tup (_ :: x :: _) => x | d => d
theorem inA_ints : ∀ l : List Int, inA (l.map D.int) = some l
  | [] => rfl
  | x :: r => by rw [List.map_cons, inA, inA_ints r]; rfl
section
variable {X : EX} {Q : D → Wd → Prop} {QA : List D → Wd → Prop} {w0 w : Wd} {n m c b : Nat} {σ : En} {sp : Sp}
/-- the two lists of rows of a comprehension with two clauses -/
theorem go_lc2 {it : En → Wd → R (List D)} {own own1 : List Nat} {f : D → En → Wd → Option En} {mt : En → Wd → R Bool} {mi1 : En → Wd → R (List D)} {f1 : D → En → Wd → Option En} {mt1 : En → Wd → R Bool} {me : En → Wd → R D}
    (g : D → List D) (ds : List D) (h : Go X (it σ w) fun ds' w1 => ds' = ds ∧ w1 = w)
    (hs : ∀ d ∈ ds, ∃ σ1, f d (wipeD σ own) w = some σ1 ∧ mt σ1 w = .ok true w ∧ ∃ ds1, mi1 σ1 w = .ok ds1 w ∧ ∀ acc, acc.length + (g d).length ≤ 16777216 → lcL own1 f1 mt1 me σ1 ds1 acc w = .ok (acc ++ g d) w)
    (hl : (ds.map g).flatten.length ≤ 16777216) (q : Q (.lst (ds.map g).flatten) w) : Go X (mLc2 it own own1 f mt mi1 f1 mt1 me σ w) Q := by
  refine go_bind (go_weak h ?_)
  rintro ds' w1 ⟨rfl, rfl⟩
  have lp : ∀ (r : List D) (acc : List D), (∀ d ∈ r, d ∈ ds') → acc.length + (r.map g).flatten.length ≤ 16777216 → lc2L own own1 f mt mi1 f1 mt1 me σ r acc w1 = .ok (acc ++ (r.map g).flatten) w1 := by
    intro r
    induction r with
    | nil => intro acc _ _; simp [lc2L]
    | cons d r ih =>
      intro acc hm hl
      obtain ⟨σ1, e1, e2, ds1, e3, e4⟩ := hs d (hm d List.mem_cons_self)
      rw [List.map_cons, List.flatten_cons, List.length_append] at hl
      rw [lc2L]
      simp only [e1, e2, e3, e4 acc (by omega)]
      rw [ih _ (fun x hx => hm x (List.mem_cons_of_mem _ hx)) (by rw [List.length_append]; omega), List.map_cons, List.flatten_cons, List.append_assoc]
  rw [lp ds' [] (fun _ h => h) (by simpa using hl)]
  exact q
theorem go_eq {α : Type} {r : R α} {a : α} {w' : Wd} (h : Go EX0 r fun a' w2 => a' = a ∧ w2 = w') : r = .ok a w' := by
  obtain ⟨x, y, e, h1, h2⟩ := go_get h
  rw [e, h1, h2]
/-- filter and reckon, from what is gathered so far -/
theorem lc_filA {own : List Nat} {f : D → En → Wd → Option En} {mt : En → Wd → R Bool} {me : En → Wd → R D} (p : D → Bool) (g : D → D) : ∀ (ds acc : List D),
    (∀ d, d ∈ ds → ∃ σ1, f d (wipeD σ own) w = some σ1 ∧ mt σ1 w = .ok (p d) w ∧ (p d = true → me σ1 w = .ok (g d) w)) → acc.length + ((ds.filter p).map g).length ≤ 16777216 → lcL own f mt me σ ds acc w = .ok (acc ++ (ds.filter p).map g) w
  | [], acc, _, _ => by simp [lcL]
  | d :: r, acc, hs, hl => by
    obtain ⟨σ1, e1, e2, e3⟩ := hs d List.mem_cons_self
    rw [lcL]
    cases hp : p d with
    | true =>
      rw [List.filter_cons, if_pos hp, List.map_cons, List.length_cons] at hl
      have hlt : acc.length < 16777216 := by omega
      simp only [e1, e2, hp, e3 hp, hlt, if_true]
      rw [lc_filA p g r _ (fun x hx => hs x (List.mem_cons_of_mem _ hx)) (by rw [List.length_append]; simp only [List.length_cons, List.length_nil]; omega), List.filter_cons, if_pos hp]
      simp
    | false =>
      rw [List.filter_cons, if_neg (by simp [hp])] at hl
      simp only [e1, e2, hp]
      rw [lc_filA p g r _ (fun x hx => hs x (List.mem_cons_of_mem _ hx)) hl, List.filter_cons, if_neg (by simp [hp])]
def sec : D → D | .tup [_, y] => y | d => d
theorem ages_g (t : Prs) : ((t.map eP).filter fun d => match d with | .tup [.str h, _] => decide (h ∈ (["age", "young"] : List Str)) | _ => false).map sec = ((t.filter isAge).map (·.2)).map D.int := by
  rw [List.filter_map, List.map_map, List.map_map]
  rfl
theorem ages_len : ∀ {l : List Prs}, (∀ t ∈ l, t.length ≤ 8) → (agesIn l).length ≤ 8 * l.length
  | [], _ => by simp [agesIn]
  | t :: r, h => by
    have ih := ages_len (l := r) fun x hx => h x (List.mem_cons_of_mem _ hx)
    have h1 := h t List.mem_cons_self
    have h2 := List.length_filter_le isAge t
    unfold agesIn at ih ⊢
    rw [List.map_cons, List.flatten_cons, List.length_append, List.length_map, List.length_cons]
    omega
theorem SpOk.tl (ok : SpOk sp) : (∀ t ∈ sp.tests, TestsOk sp.ma t) ∧ sp.tests.length ≤ 28 := by
  refine ⟨fun t ht => ?_, ?_⟩
  · unfold Sp.tests at ht
    rcases List.mem_append.mp ht with ht | ht
    rcases List.mem_append.mp ht with ht | ht
    rcases List.mem_append.mp ht with ht | ht
    · obtain ⟨x, hx, rfl⟩ := List.mem_map.mp ht; exact (ok.no x hx).t
    · obtain ⟨x, hx, rfl⟩ := List.mem_map.mp ht; exact (ok.en x hx).t
    · obtain ⟨x, hx, rfl⟩ := List.mem_map.mp ht; exact (ok.jo x hx).t
    · obtain ⟨x, hx, rfl⟩ := List.mem_map.mp ht; exact (ok.re x hx).t
  · have h1 := ok.nol
    have h2 := ok.enl
    have h3 := ok.jol
    have h4 := ok.rel
    unfold Sp.tests
    simp only [List.length_append, List.length_map]
    omega
def trd : D → D | .tup (_ :: _ :: x :: _) => x | d => d
def wtp : D → Bool | .tup (_ :: _ :: x :: _) => !Si.isNon x | _ => false
theorem waits_g : ∀ l : List Jb, ((l.map eJb).filter wtp).map trd = (waitsIn l).map D.int
  | [] => rfl
  | ⟨z, t, none, s⟩ :: r => by
    have ih := waits_g r
    rw [List.map_cons, List.filter_cons, if_neg (by simp [eJb, wtp, eO, Si.isNon]), ih]
    rfl
  | ⟨z, t, some i, s⟩ :: r => by
    have ih := waits_g r
    rw [List.map_cons, List.filter_cons, if_pos (by simp [eJb, wtp, eO, Si.isNon]), List.map_cons, ih]
    rfl
theorem waits_len (l : List Jb) : (waitsIn l).length ≤ l.length := List.length_filterMap_le _ _
theorem numbersb {fs : List (Str × D)} (ok : SpOk sp) (hb : w[b]? = some (.ins "Book" fs)) (h1 : fs.lookup ("own_notes" : Str) = some (.lst (sp.no.map eNt))) (h2 : fs.lookup ("own_entries" : Str) = some (.lst (sp.en.map eEnt))) (h3 : fs.lookup ("own_jobs" : Str) = some (.lst (sp.jo.map eJb))) (h4 : fs.lookup ("own_readings" : Str) = some (.lst (sp.re.map eRdg))) (q : Q (.lst (sp.nums.map .int)) w) : Go X (F_Book_numbers [.obj b] w) Q := by
  have l1 := ok.nol
  have l2 := ok.enl
  have l3 := ok.jol
  have l4 := ok.rel
  refine go_fn rfl ?_
  unfold M_Book_numbers
  walk_at "gg"
  refine go_fld (go_var rfl ⟨b, _, fs, _, rfl, hb, List.mem_singleton.mpr rfl, h1, ?_⟩)
  walk_at "gg"
  refine go_fld (go_var rfl ⟨b, _, fs, _, rfl, hb, List.mem_singleton.mpr rfl, h2, ?_⟩)
  walk_at "gg"
  refine go_fld (go_var rfl ⟨b, _, fs, _, rfl, hb, List.mem_singleton.mpr rfl, h3, ?_⟩)
  walk_at "gg"
  refine go_fld (go_var rfl ⟨b, _, fs, _, rfl, hb, List.mem_singleton.mpr rfl, h4, ?_⟩)
  walk_at "gg"
  refine ⟨by simp only [List.length_append, List.length_map, List.length_nil]; omega, ?_⟩
  walk_at "gg"
  refine lc_map d1 _ (by simp only [List.length_append, List.length_map, List.length_nil]; omega) (fun d hd => ?_) ?_
  · have hd2 : ∃ x y r, d = .tup (x :: y :: r) := by
      simp only [List.mem_append, List.mem_map, List.not_mem_nil, or_false] at hd
      rcases hd with ⟨x, _, rfl⟩ | ⟨x, _, rfl⟩ | ⟨x, _, rfl⟩ | ⟨x, _, rfl⟩
      · exact ⟨_, _, _, rfl⟩
      · exact ⟨_, _, _, rfl⟩
      · exact ⟨_, _, _, rfl⟩
      · exact ⟨_, _, _, rfl⟩
    obtain ⟨x, y, r, rfl⟩ := hd2
    walk_at "gg"
    refine go_ixT (d := y) ?_ ⟨rfl, rfl⟩
    unfold L2.atI
    rw [ixN_nat (by decide) (by simp only [List.length_cons]; omega)]
    rfl
  have e : (List.map eNt sp.no ++ (List.map eEnt sp.en ++ (List.map eJb sp.jo ++ (List.map eRdg sp.re ++ [])))).map d1 = sp.tests.map eT := by
    unfold Sp.tests
    simp only [List.map_append, List.map_map, List.map_nil, List.append_nil, List.append_assoc]
    rfl
  rw [e]
  walk_at "gg"
  refine go_lc2 (fun d => match d with | .tup ps => (ps.filter fun d => match d with | .tup [.str h, _] => decide (h ∈ (["age", "young"] : List Str)) | _ => false).map sec | _ => []) (sp.tests.map eT) (go_iter (go_var rfl ⟨_, rfl, rfl, rfl⟩)) (fun d hd => ?_) ?_ ?_
  · obtain ⟨t, ht, rfl⟩ := List.mem_map.mp hd
    refine ⟨_, rfl, rfl, t.map eP, rfl, fun acc hacc => ?_⟩
    refine lc_filA _ _ _ _ (fun d hd => ?_) hacc
    obtain ⟨p, hp, rfl⟩ := List.mem_map.mp hd
    refine ⟨_, rfl, go_eq ?_, fun _ => go_eq ?_⟩
    · unfold eP
      walk_at "gg"
      have e : gIn (.str p.1) (.tup [.str "age", .str "young"]) w = .ok (D.bl (decide (p.1 ∈ (["age", "young"] : List Str)))) w := by
        show R.ok (D.bl ((eS ["age", "young"]).any fun d => eqF d (.str p.1))) w = _
        rw [any_eqF]
      refine go_ok e ?_
      walk_at "gg"
      exact ⟨rfl, rfl⟩
    · unfold eP
      walk_at "gg"
      exact ⟨rfl, rfl⟩
  · have e2 : ((sp.tests.map eT).map fun d => match d with | .tup ps => (ps.filter fun d => match d with | .tup [.str h, _] => decide (h ∈ (["age", "young"] : List Str)) | _ => false).map sec | _ => []).flatten = (agesIn sp.tests).map D.int := by
      rw [List.map_map]
      unfold agesIn
      rw [List.map_flatten, List.map_map]
      congr 1
      exact List.map_congr_left fun t _ => ages_g t
    rw [e2, List.length_map]
    have h1 := ok.tl
    have h2 := ages_len fun t ht => (h1.1 t ht).le
    omega
  · have e2 : ((sp.tests.map eT).map fun d => match d with | .tup ps => (ps.filter fun d => match d with | .tup [.str h, _] => decide (h ∈ (["age", "young"] : List Str)) | _ => false).map sec | _ => []).flatten = (agesIn sp.tests).map D.int := by
      rw [List.map_map]
      unfold agesIn
      rw [List.map_flatten, List.map_map]
      congr 1
      exact List.map_congr_left fun t _ => ages_g t
    rw [e2]
    have h9 := ok.tl
    have hal := ages_len fun t ht => (h9.1 t ht).le
    have hwl := waits_len sp.jo
    walk_at "gg"
    refine go_fld (go_var rfl ⟨b, _, fs, _, rfl, hb, List.mem_singleton.mpr rfl, h3, ?_⟩)
    walk_at "gg"
    refine lc_filter wtp trd _ (by rw [List.length_map]; omega) (fun d hd => ?_) ?_
    · obtain ⟨⟨z, t, o, s⟩, hx, rfl⟩ := List.mem_map.mp hd
      rw [show eJb ⟨z, t, o, s⟩ = .tup [.str z, eT t, eO o, .tup (s.map eStp)] from rfl]
      walk_at "gg"
      refine ⟨rfl, rfl, fun _ => ?_⟩
      walk_at "gg"
      exact ⟨rfl, rfl⟩
    rw [waits_g]
    walk_at "gg"
    refine ⟨by simp only [List.length_append, List.length_map, List.length_nil, List.length_cons]; omega, ?_⟩
    have e3 : D.int 0 :: ((agesIn sp.tests).map D.int ++ ((waitsIn sp.jo).map D.int ++ [])) = sp.nums.map .int := by
      unfold Sp.nums
      rw [List.append_nil, List.map_cons, List.map_append]
    rw [e3]
    exact q
end
end Bk

set_option Elab.async false
set_option linter.all false
set_option autoImplicit false
set_option maxRecDepth 100000
set_option maxHeartbeats 4000000
/-! Bk17: a book is made. -/
namespace Bk
open PySem L2 PyProof.Rows Si
/-- one step by the form of the code -/
local macro_rules | `(tactic| walk_at "g1") => `(tactic| with_reducible first
  | refine gd_seq ?_ | refine gd_nm ?_ | refine gd_asg ?_ | refine gd_ret ?_ | refine gd_if ?_ | refine gd_next ?_ | refine gd_expr ?_ | refine gd_par ?_ | refine gd_retN ?_ | refine gd_brk ?_ | refine gd_cnt ?_ | refine gd_for ?_
  | refine go_var rfl ?_ | refine go_c ?_ | refine go_op ?_ | refine go_call ?_ | refine go_callK ?_ | refine go_nil ?_ | refine go_cons ?_ | refine go_tup ?_ | refine go_lst ?_ | refine go_lstM ?_ | refine go_chain ?_ | refine go_and ?_ | refine go_or ?_ | refine go_not ?_
  | refine go_tru ?_ | refine go_asB ?_ | refine go_bAnd ?_ | refine go_bOr ?_ | refine go_bNot ?_ | refine go_bYes ?_ | refine go_if ?_ | refine go_neg ?_ | refine go_oNone ?_ | refine go_oSome ?_ | refine go_sl ?_ | refine go_isi ?_ | refine go_isi2 ?_
  | refine go_join ?_ | refine go_app ?_ | refine go_iter ?_ | refine go_zip ?_ | refine go_star ?_ | refine go_lenSet ?_ | refine go_enum ?_ | refine go_rng1 ?_ | refine go_rng2 ?_ | refine go_lc ?_ | refine go_lcM ?_
  | refine go_addI ?_ | refine go_subI ?_ | refine go_lt ?_ | refine go_le ?_ | refine go_gt ?_ | refine go_ge ?_ | refine go_eqI ?_ | refine go_neI ?_ | refine go_eqS ?_ | refine go_neS ?_ | refine go_lenL ?_ | refine go_lenT ?_ | refine go_lenS (by assumption) ?_
  | refine go_slL ?_ | refine go_slT ?_ | refine go_slS (by assumption) ?_ | refine go_ixL rfl ?_ | refine go_ixT rfl ?_ | refine go_intI ?_ | refine go_lstL ?_ | refine go_lstT ?_ | refine go_tupL ?_ | refine go_tupT ?_ | refine go_isN ?_ | refine go_notN ?_ | refine go_allM ?_
  | refine br_t ?_ | refine br_f ?_ | refine br_not ?_)
local macro_rules | `(tactic| walk_at "g2") => `(tactic| first
  | with_reducible refine ex_bl ?_ | with_reducible refine ex_int ?_ | with_reducible refine ex_str ?_ | with_reducible refine ex_nm ?_
  | with_reducible refine ex_zip ?_ | with_reducible refine ex_enum ?_
  | with_reducible refine ex_seq (by with_unfolding_all exact rfl) ?_
  | with_reducible refine ex_tg (by with_unfolding_all exact rfl) ?_
  | with_reducible refine ex_tru (by with_unfolding_all exact rfl) ?_
  | with_reducible refine ex_ty (by with_unfolding_all exact rfl) ?_
  | with_reducible refine ex_it (by with_unfolding_all exact rfl) ?_
  | with_reducible refine br_is (b := Si.isNon _) (by with_unfolding_all rfl) ?_ | with_reducible refine br_isnt (b := Si.isNon _) (by with_unfolding_all rfl) ?_
  | with_reducible refine br_is (b := isB _ _) (by with_unfolding_all decide) ?_ | with_reducible refine br_isnt (b := isB _ _) (by with_unfolding_all decide) ?_
  | with_reducible refine br_is (b := isB _ _ || isB _ _) (by with_unfolding_all decide) ?_ | with_reducible refine br_isnt (b := isB _ _ || isB _ _) (by with_unfolding_all decide) ?_
  | with_reducible refine go_mulL ⟨by decide, by decide⟩ ?_ | with_reducible refine go_mulR ⟨by decide, by decide⟩ ?_ | with_reducible refine go_mod (by decide) ?_ | with_reducible refine go_div (by decide) (by decide) ?_
  | with_reducible refine go_inTt (by decide +kernel) (by decide +kernel) ?_ | with_reducible refine go_inTf (by decide +kernel) (by decide +kernel) ?_ | with_reducible refine go_niTt (by decide +kernel) (by decide +kernel) ?_ | with_reducible refine go_niTf (by decide +kernel) (by decide +kernel) ?_
  | with_reducible refine br_y (by decide +kernel) ?_ | with_reducible refine br_n (by decide +kernel) ?_ | with_reducible refine br_y (by with_unfolding_all rfl) ?_ | with_reducible refine br_n (by simp only [List.length_cons, List.length_nil]; omega) ?_
  | (with_reducible refine an_rng ?hh ?_; case hh => (first | decide | omega))
  | (with_reducible refine an_rng2 ?hh ?_; case hh => (first | decide | omega))
  | (with_reducible refine an_le ?hh ?_; case hh => (first | decide | (simp only [List.length_cons, List.length_nil]; omega)))
  | fail)
local macro_rules | `(tactic| walk_at "gg") => `(tactic| repeat' (first | walk_at "g1" | walk_at "g2"))

theorem bkK_nd : bkK.Nodup := by decide +kernel
section
variable {sp : Sp}
theorem l10_no : sp.fs10.lookup ("own_notes" : Str) = some (.lst (sp.no.map eNt)) := lookup_zip (i := 6) rfl (by decide +kernel) rfl
theorem l10_en : sp.fs10.lookup ("own_entries" : Str) = some (.lst (sp.en.map eEnt)) := lookup_zip (i := 7) rfl (by decide +kernel) rfl
theorem l10_jo : sp.fs10.lookup ("own_jobs" : Str) = some (.lst (sp.jo.map eJb)) := lookup_zip (i := 8) rfl (by decide +kernel) rfl
theorem l10_re : sp.fs10.lookup ("own_readings" : Str) = some (.lst (sp.re.map eRdg)) := lookup_zip (i := 9) rfl (by decide +kernel) rfl
theorem l10_len : sp.fs10.length = 10 := rfl
theorem l10_num : sp.fs10.lookup ("numbers" : Str) = none := lookup_no (ks := bkK) (by decide +kernel)
theorem bk_wd : sp.fs.lookup ("own_width" : Str) = some (.int sp.wd) := lookup_zip (i := 0) rfl (by decide +kernel) rfl
theorem bk_la : sp.fs.lookup ("own_late" : Str) = some (.int sp.la) := lookup_zip (i := 1) rfl (by decide +kernel) rfl
theorem bk_ba : sp.fs.lookup ("own_back" : Str) = some (.int sp.ba) := lookup_zip (i := 2) rfl (by decide +kernel) rfl
theorem bk_fo : sp.fs.lookup ("own_fold" : Str) = some (.str sp.fo) := lookup_zip (i := 3) rfl (by decide +kernel) rfl
theorem bk_st : sp.fs.lookup ("own_stores" : Str) = some (.lst (sp.st.map eSt)) := lookup_zip (i := 4) rfl (by decide +kernel) rfl
theorem bk_ma : sp.fs.lookup ("own_marks" : Str) = some (.lst (eS sp.ma)) := lookup_zip (i := 5) rfl (by decide +kernel) rfl
theorem bk_no : sp.fs.lookup ("own_notes" : Str) = some (.lst (sp.no.map eNt)) := lookup_zip (i := 6) rfl (by decide +kernel) rfl
theorem bk_en : sp.fs.lookup ("own_entries" : Str) = some (.lst (sp.en.map eEnt)) := lookup_zip (i := 7) rfl (by decide +kernel) rfl
theorem bk_jo : sp.fs.lookup ("own_jobs" : Str) = some (.lst (sp.jo.map eJb)) := lookup_zip (i := 8) rfl (by decide +kernel) rfl
theorem bk_re : sp.fs.lookup ("own_readings" : Str) = some (.lst (sp.re.map eRdg)) := lookup_zip (i := 9) rfl (by decide +kernel) rfl
theorem bk_tp : sp.fs.lookup ("own_top" : Str) = some (.int sp.top) := lookup_zip (i := 10) rfl (by decide +kernel) rfl
theorem bk_none {k : Str} (h : ∀ x ∈ bkK ++ (["own_top"] : List Str), x ≠ k) : sp.fs.lookup k = none := lookup_no h
end
/-- all but cell b stays, new cells at the end -/
structure Nb (b : Nat) (w w' : Wd) : Prop where
  l : w.length ≤ w'.length
  k : ∀ k, k < w.length → k ≠ b → w'[k]? = w[k]?
section
variable {X : EX} {Q : D → Wd → Prop} {QA : List D → Wd → Prop} {w0 w : Wd} {n m c b : Nat} {σ : En} {sp : Sp}
theorem Nb.refl : Nb b w w := ⟨Nat.le_refl _, fun _ _ _ => rfl⟩
theorem Nb.ap {w1 w2 : Wd} (h : Nb b w w1) (a : Ap w1 w2) : Nb b w w2 := by
  obtain ⟨e, rfl⟩ := a
  exact ⟨by have := h.l; simp; omega, fun k hk hn => (List.getElem?_append_left (Nat.lt_of_lt_of_le hk h.l)).trans (h.k k hk hn)⟩
theorem Nb.set {w1 : Wd} (h : Nb b w w1) (o : MO) : Nb b w (w1.set b o) := ⟨by simpa using h.l, fun k hk hn => (List.getElem?_set_ne (Ne.symm hn)).trans (h.k k hk hn)⟩
theorem initb (ok : SpOk sp) (hb : w[b]? = some (.ins "Book" [])) (q : ∀ w', Nb b w w' → w'[b]? = some (.ins "Book" sp.fs) → Q .non w') :
    Go X (F_Book___init__ [.obj b, .int sp.wd, .lst (sp.st.map eSt), .int sp.la, .int sp.ba, .str sp.fo, .lst (eS sp.ma), .lst (sp.no.map eNt), .lst (sp.en.map eEnt), .lst (sp.jo.map eJb), .lst (sp.re.map eRdg)] w) Q := by
  refine go_fn rfl ?_
  unfold M_Book___init__
  walk_at "gg"
  refine is_number_ok ok.wd.1 ok.wd.2 ?_
  walk_at "gg"
  refine check_stores_ok ok.st fun w1 a1 => ?_
  walk_at "gg"
  refine gd_forL (fun r σ w' => (∀ d ∈ r, ∃ i : Int, d = .int i ∧ 0 ≤ i ∧ i ≤ 6) ∧ w' = w1 ∧ ∃ o, σ = [some (.obj b), some (.int sp.wd), some (.lst (sp.st.map eSt)), some (.int sp.la), some (.int sp.ba), some (.str sp.fo), some (.lst (eS sp.ma)), some (.lst (sp.no.map eNt)), some (.lst (sp.en.map eEnt)), some (.lst (sp.jo.map eJb)), some (.lst (sp.re.map eRdg)), o, none, none, none, none]) ?_ ?_ _ _ _ ⟨fun d hd => ?_, rfl, _, rfl⟩
  · rintro d r σ w' ⟨hd, rfl, o, rfl⟩
    obtain ⟨i, rfl, i0, i1⟩ := hd d List.mem_cons_self
    walk_at "gg"
    refine is_number_ok i0 i1 ?_
    walk_at "gg"
    exact ⟨fun x hx => hd x (List.mem_cons_of_mem _ hx), rfl, _, rfl⟩
  · rintro σ w' ⟨_, rfl, o, rfl⟩
    walk_at "gg"
    refine go_weak (Q := fun d w2 => d = .bl false ∧ w2 = w') ?_ fun d w2 ⟨e1, e2⟩ => ?_
    · rcases ok.fo with h | h
      · rw [h]; exact go_niTt (by decide +kernel) (by decide +kernel) ⟨rfl, rfl⟩
      · rw [h]; exact go_niTt (by decide +kernel) (by decide +kernel) ⟨rfl, rfl⟩
    subst e1 e2
    walk_at "gg"
    refine go_dcP (go_iter (go_var rfl ⟨_, rfl, rfl, rfl⟩)) ok.st.nd (by have := ok.st.le; omega) (fun p hp => ⟨_, rfl, rfl, rfl⟩) ?_
    have a2 : Ap w (w2 ++ [.dct (plK sp.st)]) := a1.trans ⟨_, rfl⟩
    have hc : (w2 ++ [MO.dct (plK sp.st)])[w2.length]? = some (.dct (plK sp.st)) := by simp
    generalize w2 ++ [MO.dct (plK sp.st)] = w3 at a2 hc ⊢
    walk_at "gg"
    refine go_dkeys hc ?_
    walk_at "gg"
    refine check_marks_ok ok.ma ok.dj ?_
    walk_at "gg"
    refine check_notes_ok ok.nol ok.no ok.ma ?_
    walk_at "gg"
    refine check_entries_ok ok.enl ok.en ok.st ok.ma hc ?_
    walk_at "gg"
    refine check_jobs_ok ok.jol ok.jon ok.jo ok.st ok.ma hc fun w4 a4 => ?_
    walk_at "gg"
    refine check_readings_ok ok.rel ok.re ok.st ok.ma (a4.get hc) ?_
    have h4 : w4[b]? = some (.ins "Book" []) := (a2.trans a4).get hb
    have n4 : Nb b w w4 := Nb.refl.ap (a2.trans a4)
    refine gd_seq (gd_asgF (b := b) rfl ?_)
    walk_at "gg"
    refine ⟨_, _, _, rfl, h4, List.mem_singleton.mpr rfl, rfl, by decide +kernel, by decide +kernel, ?_⟩
    have n5 := n4.set (MO.ins "Book" (([] : List (Str × D)) ++ List.zip (["own_width", "own_late", "own_back", "own_fold"] : List Str) [D.int sp.wd, .int sp.la, .int sp.ba, .str sp.fo]))
    have h5 := List.getElem?_set_self (a := MO.ins "Book" (([] : List (Str × D)) ++ List.zip (["own_width", "own_late", "own_back", "own_fold"] : List Str) [D.int sp.wd, .int sp.la, .int sp.ba, .str sp.fo])) (lt_of_get h4)
    generalize w4.set b (MO.ins "Book" (([] : List (Str × D)) ++ List.zip (["own_width", "own_late", "own_back", "own_fold"] : List Str) [D.int sp.wd, .int sp.la, .int sp.ba, .str sp.fo])) = w5 at n5 h5 ⊢
    refine gd_seq (gd_asgF (b := b) rfl ?_)
    walk_at "gg"
    refine ⟨_, _, _, rfl, h5, List.mem_singleton.mpr rfl, rfl, ?_, ?_, ?_⟩
    · simp
    · rw [List.nil_append, fst_zip (by rfl)]; decide +kernel
    have e6 : ([] : List (Str × D)) ++ List.zip (["own_width", "own_late", "own_back", "own_fold"] : List Str) [D.int sp.wd, .int sp.la, .int sp.ba, .str sp.fo] ++ List.zip (["own_stores", "own_marks", "own_notes"] : List Str) [D.lst (sp.st.map eSt), .lst (eS sp.ma), .lst (sp.no.map eNt)]
      = List.zip (["own_width", "own_late", "own_back", "own_fold", "own_stores", "own_marks", "own_notes"] : List Str) [D.int sp.wd, .int sp.la, .int sp.ba, .str sp.fo, .lst (sp.st.map eSt), .lst (eS sp.ma), .lst (sp.no.map eNt)] := rfl
    rw [e6]
    have n6 := n5.set (MO.ins "Book" (List.zip (["own_width", "own_late", "own_back", "own_fold", "own_stores", "own_marks", "own_notes"] : List Str) [D.int sp.wd, .int sp.la, .int sp.ba, .str sp.fo, .lst (sp.st.map eSt), .lst (eS sp.ma), .lst (sp.no.map eNt)]))
    have h6 := List.getElem?_set_self (a := MO.ins "Book" (List.zip (["own_width", "own_late", "own_back", "own_fold", "own_stores", "own_marks", "own_notes"] : List Str) [D.int sp.wd, .int sp.la, .int sp.ba, .str sp.fo, .lst (sp.st.map eSt), .lst (eS sp.ma), .lst (sp.no.map eNt)])) (lt_of_get h5)
    generalize w5.set b (MO.ins "Book" (List.zip (["own_width", "own_late", "own_back", "own_fold", "own_stores", "own_marks", "own_notes"] : List Str) [D.int sp.wd, .int sp.la, .int sp.ba, .str sp.fo, .lst (sp.st.map eSt), .lst (eS sp.ma), .lst (sp.no.map eNt)])) = w6 at n6 h6 ⊢
    refine gd_seq (gd_asgF (b := b) rfl ?_)
    walk_at "gg"
    refine ⟨_, _, _, rfl, h6, List.mem_singleton.mpr rfl, rfl, ?_, ?_, ?_⟩
    · simp
    · rw [fst_zip (by rfl)]; decide +kernel
    have e7 : List.zip (["own_width", "own_late", "own_back", "own_fold", "own_stores", "own_marks", "own_notes"] : List Str) [D.int sp.wd, .int sp.la, .int sp.ba, .str sp.fo, .lst (sp.st.map eSt), .lst (eS sp.ma), .lst (sp.no.map eNt)] ++ List.zip (["own_entries", "own_jobs", "own_readings"] : List Str) [D.lst (sp.en.map eEnt), .lst (sp.jo.map eJb), .lst (sp.re.map eRdg)] = sp.fs10 := rfl
    rw [e7]
    have n7 := n6.set (MO.ins "Book" sp.fs10)
    have h7 := List.getElem?_set_self (a := MO.ins "Book" sp.fs10) (lt_of_get h6)
    generalize w6.set b (MO.ins "Book" sp.fs10) = w7 at n7 h7 ⊢
    refine gd_seq (gd_nm (go_meth (go_var rfl ⟨b, _, rfl, h7, l10_num, go_nil ?_⟩)))
    refine numbersb ok h7 l10_no l10_en l10_jo l10_re ?_
    refine gd_setF ?_
    walk_at "gg"
    have hnl : sp.nums.length ≤ 300 := by
      have h9 := ok.tl
      have hal := ages_len fun t ht => (h9.1 t ht).le
      have hwl := waits_len sp.jo
      have := ok.jol
      unfold Sp.nums
      rw [List.length_cons, List.length_append]
      omega
    have e8 : gMaxN (.int sp.la :: .int sp.ba :: (sp.nums.map .int ++ [])) w7 = .ok (.int (topI (sp.la :: sp.ba :: sp.nums))) w7 := by
      unfold gMaxN
      rw [List.append_nil, show D.int sp.la :: .int sp.ba :: sp.nums.map .int = (sp.la :: sp.ba :: sp.nums).map .int from rfl, inA_ints]
      dsimp only
      rw [if_pos ⟨by simp only [List.length_cons]; omega, by simp only [List.length_cons]; omega⟩]
    refine go_ok e8 ?_
    walk_at "gg"
    refine ⟨b, _, _, rfl, h7, List.mem_singleton.mpr rfl, by rw [l10_len]; decide, ?_⟩
    have hk : sp.fs10.map (·.1) = bkK := fst_zip rfl
    have e9 : putD "own_top" (.int (sp.wd + topI (sp.la :: sp.ba :: sp.nums))) sp.fs10 = sp.fs := by
      rw [putD_new (by rw [hk]; decide +kernel)]
      rfl
    rw [e9]
    exact q _ (n7.set _) (List.getElem?_set_self (lt_of_get h7))
  · simp only [List.mem_cons, List.not_mem_nil, or_false] at hd
    rcases hd with rfl | rfl
    · exact ⟨_, rfl, ok.la⟩
    · exact ⟨_, rfl, ok.ba⟩
/-- the book of sp in cell b -/
structure BkAt (n b : Nat) (w : Wd) (sp : Sp) : Prop where
  ne : b ≠ n
  at_ : w[b]? = some (.ins "Book" sp.fs)
theorem BkAt.bg {w w1 : Wd} (h : BkAt n b w sp) (a : Bg n w w1) : BkAt n b w1 sp := ⟨h.ne, a.get h.at_ h.ne⟩
theorem permL_11 {a0 a1 a2 a3 a4 a5 a6 a7 a8 a9 a10 : D} : permL [0, 1, 2, 3, 4, 5, 6, 7, 8, 9, 10] [a0, a1, a2, a3, a4, a5, a6, a7, a8, a9, a10] = [a0, a1, a2, a3, a4, a5, a6, a7, a8, a9, a10] := by
  simp [permL]
theorem law_bookb (ok : SpOk sp) (hs : SpAt n m w sp) (hb : Bg n w0 w) (q : ∀ b w', BkAt n b w' sp → w0.length ≤ b → b ≠ m → Bg n w0 w' → Bg n w w' → Q (.obj b) w') : Go X (F__law_book [.obj m] w) Q := by
  obtain ⟨ti, at_⟩ := hs.ex
  refine go_fn rfl ?_
  unfold M__law_book
  refine gd_ret (go_make ?_)
  walk_at "gg"
  refine go_dget at_ sp_wd ?_
  walk_at "gg"
  refine go_dget at_ sp_st ?_
  walk_at "gg"
  refine go_dget at_ sp_la ?_
  walk_at "gg"
  refine go_dget at_ sp_ba ?_
  walk_at "gg"
  refine go_dget at_ sp_fo ?_
  walk_at "gg"
  refine go_dget at_ sp_ma ?_
  walk_at "gg"
  refine go_dget at_ sp_no ?_
  walk_at "gg"
  refine go_dget at_ sp_en ?_
  walk_at "gg"
  refine go_dget at_ sp_jo ?_
  walk_at "gg"
  refine go_dget at_ sp_re ?_
  walk_at "gg"
  simp only [List.cons_append, List.nil_append, List.append_nil]
  rw [permL_11]
  have hbn := BagAt.lt hb.b
  refine initb ok (by simp) fun w' nb h' => ⟨rfl, ?_⟩
  have g : Bg n w w' := by
    refine ⟨?_, ?_, fun k hk hn => ?_⟩
    · obtain ⟨a, b, c, d, e, f⟩ := BagAt.app hb.b [MO.ins "Book" []]
      exact ⟨a, b, c, d, (nb.k n (by simp; omega) (by omega)).trans e, f⟩
    · have := nb.l; simp at this; omega
    · rw [nb.k k (by simp; omega) (by omega), List.getElem?_append_left hk]
  exact q _ _ ⟨by omega, h'⟩ hb.l (fun e => by have := lt_of_get at_; omega) (hb.trans g) g
end
end Bk

set_option Elab.async false
set_option linter.all false
set_option autoImplicit false
set_option maxRecDepth 100000
set_option maxHeartbeats 4000000
/-! Bk18: the rules that apply, as a book tells them. -/
namespace Bk
open PySem L2 PyProof.Rows Si
/-- one step by the form of the code -/
local macro_rules | `(tactic| walk_at "g1") => `(tactic| with_reducible first
  | refine gd_seq ?_ | refine gd_nm ?_ | refine gd_asg ?_ | refine gd_ret ?_ | refine gd_if ?_ | refine gd_next ?_ | refine gd_expr ?_ | refine gd_par ?_ | refine gd_retN ?_ | refine gd_brk ?_ | refine gd_cnt ?_ | refine gd_for ?_
  | refine go_var rfl ?_ | refine go_c ?_ | refine go_op ?_ | refine go_call ?_ | refine go_callK ?_ | refine go_nil ?_ | refine go_cons ?_ | refine go_tup ?_ | refine go_lst ?_ | refine go_lstM ?_ | refine go_chain ?_ | refine go_and ?_ | refine go_or ?_ | refine go_not ?_
  | refine go_tru ?_ | refine go_asB ?_ | refine go_bAnd ?_ | refine go_bOr ?_ | refine go_bNot ?_ | refine go_bYes ?_ | refine go_if ?_ | refine go_neg ?_ | refine go_oNone ?_ | refine go_oSome ?_ | refine go_sl ?_ | refine go_isi ?_ | refine go_isi2 ?_
  | refine go_join ?_ | refine go_app ?_ | refine go_iter ?_ | refine go_zip ?_ | refine go_star ?_ | refine go_lenSet ?_ | refine go_enum ?_ | refine go_rng1 ?_ | refine go_rng2 ?_ | refine go_lc ?_ | refine go_lcM ?_
  | refine go_addI ?_ | refine go_subI ?_ | refine go_lt ?_ | refine go_le ?_ | refine go_gt ?_ | refine go_ge ?_ | refine go_eqI ?_ | refine go_neI ?_ | refine go_eqS ?_ | refine go_neS ?_ | refine go_lenL ?_ | refine go_lenT ?_ | refine go_lenS (by assumption) ?_
  | refine go_slL ?_ | refine go_slT ?_ | refine go_slS (by assumption) ?_ | refine go_ixL rfl ?_ | refine go_ixT rfl ?_ | refine go_intI ?_ | refine go_lstL ?_ | refine go_lstT ?_ | refine go_tupL ?_ | refine go_tupT ?_ | refine go_isN ?_ | refine go_notN ?_ | refine go_allM ?_
  | refine br_t ?_ | refine br_f ?_ | refine br_not ?_)
local macro_rules | `(tactic| walk_at "g2") => `(tactic| first
  | with_reducible refine ex_bl ?_ | with_reducible refine ex_int ?_ | with_reducible refine ex_str ?_ | with_reducible refine ex_nm ?_
  | with_reducible refine ex_zip ?_ | with_reducible refine ex_enum ?_
  | with_reducible refine ex_seq (by with_unfolding_all exact rfl) ?_
  | with_reducible refine ex_tg (by with_unfolding_all exact rfl) ?_
  | with_reducible refine ex_tru (by with_unfolding_all exact rfl) ?_
  | with_reducible refine ex_ty (by with_unfolding_all exact rfl) ?_
  | with_reducible refine ex_it (by with_unfolding_all exact rfl) ?_
  | with_reducible refine br_is (b := Si.isNon _) (by with_unfolding_all rfl) ?_ | with_reducible refine br_isnt (b := Si.isNon _) (by with_unfolding_all rfl) ?_
  | with_reducible refine br_is (b := isB _ _) (by with_unfolding_all decide) ?_ | with_reducible refine br_isnt (b := isB _ _) (by with_unfolding_all decide) ?_
  | with_reducible refine br_is (b := isB _ _ || isB _ _) (by with_unfolding_all decide) ?_ | with_reducible refine br_isnt (b := isB _ _ || isB _ _) (by with_unfolding_all decide) ?_
  | with_reducible refine go_mulL ⟨by decide, by decide⟩ ?_ | with_reducible refine go_mulR ⟨by decide, by decide⟩ ?_ | with_reducible refine go_mod (by decide) ?_ | with_reducible refine go_div (by decide) (by decide) ?_
  | with_reducible refine go_inTt (by decide +kernel) (by decide +kernel) ?_ | with_reducible refine go_inTf (by decide +kernel) (by decide +kernel) ?_ | with_reducible refine go_niTt (by decide +kernel) (by decide +kernel) ?_ | with_reducible refine go_niTf (by decide +kernel) (by decide +kernel) ?_
  | with_reducible refine br_y (by decide +kernel) ?_ | with_reducible refine br_n (by decide +kernel) ?_ | with_reducible refine br_y (by with_unfolding_all rfl) ?_ | with_reducible refine br_n (by simp only [List.length_cons, List.length_nil]; omega) ?_
  | (with_reducible refine an_rng ?hh ?_; case hh => (first | decide | omega))
  | (with_reducible refine an_rng2 ?hh ?_; case hh => (first | decide | omega))
  | (with_reducible refine an_le ?hh ?_; case hh => (first | decide | (simp only [List.length_cons, List.length_nil]; omega)))
  | fail)
local macro_rules | `(tactic| walk_at "gg") => `(tactic| repeat' (first | walk_at "g1" | walk_at "g2"))

def ix : List Str → Str → Nat
  | [], _ => 0
  | x :: r, z => if x = z then 0 else ix r z + 1
theorem ix_lt : ∀ {l : List Str} {z : Str}, z ∈ l → ix l z < l.length
  | x :: r, z, h => by
    rw [ix]
    split
    · simp
    · rename_i e
      have := ix_lt (l := r) (z := z) ((List.mem_cons.mp h).resolve_left fun e2 => e e2.symm)
      simp only [List.length_cons]
      omega
theorem ix_find : ∀ {l : List Str} {z : Str}, z ∈ l → (l.map D.str).findIdx? (fun d => eqF d (.str z)) = some (ix l z)
  | x :: r, z, h => by
    rw [ix, List.map_cons, List.findIdx?_cons]
    by_cases e : x = z
    · rw [if_pos e, if_pos (by simp [eqF, e])]
    · rw [if_neg e, if_neg (by simp [eqF, e])]
      rw [ix_find ((List.mem_cons.mp h).resolve_left fun e2 => e e2.symm)]
      rfl
def Sp.pass1 (sp : Sp) (mk : List Int) (time : Int) (p : Str × Int) : Bool :=
  if p.1 = "age" then decide (sp.wd + p.2 ≤ time) else if p.1 = "young" then decide (time < sp.wd + p.2) else decide (mk.getD (ix sp.ma p.1) 0 = p.2)
def Sp.passes (sp : Sp) (mk : List Int) (time : Int) (t : Prs) : Bool := t.all (sp.pass1 mk time)
def Sp.settled (sp : Sp) (mk : List Int) (s : Prs) : List Int := s.foldl (fun m p => m.set (ix sp.ma p.1) p.2) mk
def Sp.noted (sp : Sp) (wd : Str) (mk : List Int) (time : Int) : List Int := match sp.no.find? (fun x => decide (x.w = wd) && sp.passes mk time x.t) with
  | some x => sp.settled mk x.s
  | none => mk
def eOE : Option Ent → D | some x => eEnt x | none => .non
def Sp.entry (sp : Sp) (wd : Str) (mk : List Int) (time : Int) (kn : Str) : Option Ent := sp.en.find? fun x => decide (x.w = wd) && (decide (x.k ∈ (["any", kn] : List Str)) && sp.passes mk time x.t)
def eOR : Option Rdg → D | some x => eOS x.s | none => .non
def Sp.reading (sp : Sp) (wd : Str) (mk : List Int) (time : Int) : Option Rdg := sp.re.find? fun x => decide (x.w = wd) && sp.passes mk time x.t
abbrev eI (mk : List Int) : D := .tup (mk.map .int)
section
variable {X : EX} {Q : D → Wd → Prop} {QA : List D → Wd → Prop} {w0 w : Wd} {n m c b : Nat} {σ : En} {sp : Sp} {N B C : En → Wd → Prop} {T : D → Wd → Prop} {mk : List Int} {time : Int}
theorem list_loop {α : Type} {f : D → En → Wd → Option En} {body : En → Wd → SR} (e : α → D) (l : List α) (J : List α → En → Wd → Prop)
    (hs : ∀ pre x post σ w, l = pre ++ x :: post → J pre σ w → ∃ σ1, f (e x) σ w = some σ1 ∧ Gd X (J (pre ++ [x])) T N (J (pre ++ [x])) (body σ1 w))
    (he : ∀ σ w, J l σ w → N σ w) (h0 : J [] σ w) : Gd X N T B C (forL f body (l.map e) σ w) := by
  refine gd_forL (fun r σ w => ∃ pre post, l = pre ++ post ∧ r = post.map e ∧ J pre σ w) ?_ ?_ _ _ _ ⟨[], l, rfl, rfl, h0⟩
  · rintro d r σ w ⟨pre, post, e1, e2, hJ⟩
    cases post with
    | nil => cases e2
    | cons x post =>
      rw [List.map_cons] at e2
      cases e2
      obtain ⟨σ1, h1, h2⟩ := hs pre x post σ w e1 hJ
      have nx : ∀ σ w, J (pre ++ [x]) σ w → ∃ pre' post', l = pre' ++ post' ∧ post.map e = post'.map e ∧ J pre' σ w := fun σ w h => ⟨pre ++ [x], post, by rw [e1]; simp, rfl, h⟩
      exact ⟨σ1, h1, gd_weak h2 nx (fun _ _ h => h) (fun _ _ h => h) nx⟩
  · rintro σ w ⟨pre, post, e1, e2, hJ⟩
    cases post with
    | nil => rw [List.append_nil] at e1; rw [e1] at he; exact he _ _ hJ
    | cons x post => rw [List.map_cons] at e2; cases e2
theorem go_index {mo me : En → Wd → R D} {l : List Str} (h : Go X (mo σ w) fun u w1 => u = .lst (eS l) ∧ Go X (me σ w1) fun d w2 => ∃ z, d = .str z ∧ z ∈ l ∧ Q (.int (ix l z : Nat)) w2) : Go X (mIndex mo me σ w) Q :=
  go_bind (go_weak h fun _ _ ⟨e, h⟩ => by
    subst e
    exact go_bind (go_weak h fun _ _ ⟨z, e, hz, q⟩ => by
      subst e
      refine go_ok (a := D.int (ix l z : Nat)) ?_ q
      unfold gIndex
      rw [der_lst]
      dsimp only
      rw [flat_eS, ix_find hz]
      rfl))
theorem go_ixI {mk : List Int} {i : Nat} (h : i < mk.length) (q : Q (.int (mk.getD i 0)) w) : Go X (gIx (eI mk) (.int (i : Nat)) w) Q := by
  refine go_ixT (d := .int (mk.getD i 0)) ?_ q
  unfold L2.atI
  rw [ixN_nat (by omega) (by rw [List.length_map]; omega), Int.toNat_natCast]
  simp [List.getD, h]
theorem go_fldB {f : Str} {mo : En → Wd → R D} {d : D} (hb : BkAt n b w sp) (hl : sp.fs.lookup f = some d) (h : mo σ w = .ok (.obj b) w) (q : Q d w) : Go X (mFld ["Book"] f mo σ w) Q :=
  go_fld (go_ok h ⟨b, _, _, d, rfl, hb.at_, List.mem_singleton.mpr rfl, hl, q⟩)
theorem passesb {t : Prs} (hb : BkAt n b w sp) (ok : SpOk sp) (ht : TestsOk sp.ma t) (hm : mk.length = sp.ma.length) (q : Q (.bl (sp.passes mk time t)) w) : Go X (F_Book_passes [.obj b, eT t, eI mk, .int time] w) Q := by
  refine go_fn rfl ?_
  unfold M_Book_passes
  walk_at "gg"
  refine list_loop eP t (fun pre σ w' => w' = w ∧ pre.all (sp.pass1 mk time) = true ∧ ∃ o4 o5 o6, σ = [some (.obj b), some (eT t), some (eI mk), some (.int time), o4, o5, o6]) ?_ ?_ ⟨rfl, rfl, _, _, _, rfl⟩
  · rintro pre p post σ w' e ⟨rfl, hp, o4, o5, o6, rfl⟩
    have hpt : p ∈ t := by rw [e]; simp
    have good : ∀ g : Bool, g = sp.pass1 mk time p → ∀ σ : En, σ[6]? = some (some (.bl g)) → (∃ o4 o5 o6, σ = [some (.obj b), some (eT t), some (eI mk), some (.int time), o4, o5, o6]) →
        Gd X (fun σ w'' => w'' = w' ∧ (pre ++ [p]).all (sp.pass1 mk time) = true ∧ ∃ o4 o5 o6, σ = [some (.obj b), some (eT t), some (eI mk), some (.int time), o4, o5, o6]) Q (fun σ1 w1 => Gd X (fun _ w1 => Q .non w1) Q (fun _ _ => False) (fun _ _ => False) (mRet (mC (.bl true)) σ1 w1)) (fun σ w'' => w'' = w' ∧ (pre ++ [p]).all (sp.pass1 mk time) = true ∧ ∃ o4 o5 o6, σ = [some (.obj b), some (eT t), some (eI mk), some (.int time), o4, o5, o6]) (mIfS (bNot (mTru (mVar 6))) (mRet (mC (.bl false))) mNext σ w') := by
      intro g hg σ h6 hσ
      refine gd_if (go_bNot (go_tru (go_var h6 ⟨g, rfl, ?_⟩)))
      cases g with
      | false =>
        walk_at "gg"
        have : sp.passes mk time t = false := by
          unfold Sp.passes
          rw [List.all_eq_false]
          exact ⟨p, hpt, by rw [← hg]; simp⟩
        rw [this] at q
        exact q
      | true =>
        walk_at "gg"
        exact ⟨rfl, by rw [List.all_append, hp, List.all_cons, List.all_nil, ← hg]; rfl, hσ⟩
    unfold eP
    walk_at "gg"
    refine br_dec (fun h => ?_) fun h => ?_
    · walk_at "gg"
      refine go_fldB hb bk_wd rfl ?_
      repeat' (first | exact good _ (by unfold Sp.pass1; rw [if_pos h]) _ rfl ⟨_, _, _, rfl⟩ | walk_at "g1" | walk_at "g2")
    · walk_at "gg"
      refine br_dec (fun h2 => ?_) fun h2 => ?_
      · walk_at "gg"
        refine go_fldB hb bk_wd rfl ?_
        repeat' (first | exact good _ (by unfold Sp.pass1; rw [if_neg h, if_pos h2]) _ rfl ⟨_, _, _, rfl⟩ | walk_at "g1" | walk_at "g2")
      · have hin : p.1 ∈ sp.ma := by
          rcases ht.ok p hpt with h3 | ⟨h3 | h3, _⟩
          · exact h3.1
          · exact absurd h3 h
          · exact absurd h3 h2
        walk_at "gg"
        refine go_index (l := sp.ma) (go_fldB hb bk_ma rfl ⟨rfl, ?_⟩)
        refine go_var rfl ⟨_, rfl, hin, ?_⟩
        refine go_ixI (by rw [hm]; exact ix_lt hin) ?_
        repeat' (first | exact good _ (by unfold Sp.pass1; rw [if_neg h, if_neg h2]) _ rfl ⟨_, _, _, rfl⟩ | walk_at "g1" | walk_at "g2")
  · rintro σ w' ⟨rfl, hp, _⟩
    walk_at "gg"
    have : sp.passes mk time t = true := hp
    rw [this] at q
    exact q
end
end Bk

set_option Elab.async false
set_option linter.all false
set_option autoImplicit false
set_option maxRecDepth 100000
set_option maxHeartbeats 4000000
/-! Bk19: the rules that apply, as a book and the law tell them. -/
namespace Bk
open PySem L2 PyProof.Rows Si
/-- one step by the form of the code -/
local macro_rules | `(tactic| walk_at "g1") => `(tactic| with_reducible first
  | refine gd_seq ?_ | refine gd_nm ?_ | refine gd_asg ?_ | refine gd_ret ?_ | refine gd_if ?_ | refine gd_next ?_ | refine gd_expr ?_ | refine gd_par ?_ | refine gd_retN ?_ | refine gd_brk ?_ | refine gd_cnt ?_ | refine gd_for ?_
  | refine go_var rfl ?_ | refine go_c ?_ | refine go_op ?_ | refine go_call ?_ | refine go_callK ?_ | refine go_nil ?_ | refine go_cons ?_ | refine go_tup ?_ | refine go_lst ?_ | refine go_lstM ?_ | refine go_chain ?_ | refine go_and ?_ | refine go_or ?_ | refine go_not ?_
  | refine go_tru ?_ | refine go_asB ?_ | refine go_bAnd ?_ | refine go_bOr ?_ | refine go_bNot ?_ | refine go_bYes ?_ | refine go_if ?_ | refine go_neg ?_ | refine go_oNone ?_ | refine go_oSome ?_ | refine go_sl ?_ | refine go_isi ?_ | refine go_isi2 ?_
  | refine go_join ?_ | refine go_app ?_ | refine go_iter ?_ | refine go_zip ?_ | refine go_star ?_ | refine go_lenSet ?_ | refine go_enum ?_ | refine go_rng1 ?_ | refine go_rng2 ?_ | refine go_lc ?_ | refine go_lcM ?_
  | refine go_addI ?_ | refine go_subI ?_ | refine go_lt ?_ | refine go_le ?_ | refine go_gt ?_ | refine go_ge ?_ | refine go_eqI ?_ | refine go_neI ?_ | refine go_eqS ?_ | refine go_neS ?_ | refine go_lenL ?_ | refine go_lenT ?_ | refine go_lenS (by assumption) ?_
  | refine go_slL ?_ | refine go_slT ?_ | refine go_slS (by assumption) ?_ | refine go_ixL rfl ?_ | refine go_ixT rfl ?_ | refine go_intI ?_ | refine go_lstL ?_ | refine go_lstT ?_ | refine go_tupL ?_ | refine go_tupT ?_ | refine go_isN ?_ | refine go_notN ?_ | refine go_allM ?_
  | refine br_t ?_ | refine br_f ?_ | refine br_not ?_)
local macro_rules | `(tactic| walk_at "g2") => `(tactic| first
  | with_reducible refine ex_bl ?_ | with_reducible refine ex_int ?_ | with_reducible refine ex_str ?_ | with_reducible refine ex_nm ?_
  | with_reducible refine ex_zip ?_ | with_reducible refine ex_enum ?_
  | with_reducible refine ex_seq (by with_unfolding_all exact rfl) ?_
  | with_reducible refine ex_tg (by with_unfolding_all exact rfl) ?_
  | with_reducible refine ex_tru (by with_unfolding_all exact rfl) ?_
  | with_reducible refine ex_ty (by with_unfolding_all exact rfl) ?_
  | with_reducible refine ex_it (by with_unfolding_all exact rfl) ?_
  | with_reducible refine br_is (b := Si.isNon _) (by with_unfolding_all rfl) ?_ | with_reducible refine br_isnt (b := Si.isNon _) (by with_unfolding_all rfl) ?_
  | with_reducible refine br_is (b := isB _ _) (by with_unfolding_all decide) ?_ | with_reducible refine br_isnt (b := isB _ _) (by with_unfolding_all decide) ?_
  | with_reducible refine br_is (b := isB _ _ || isB _ _) (by with_unfolding_all decide) ?_ | with_reducible refine br_isnt (b := isB _ _ || isB _ _) (by with_unfolding_all decide) ?_
  | with_reducible refine go_mulL ⟨by decide, by decide⟩ ?_ | with_reducible refine go_mulR ⟨by decide, by decide⟩ ?_ | with_reducible refine go_mod (by decide) ?_ | with_reducible refine go_div (by decide) (by decide) ?_
  | with_reducible refine go_inTt (by decide +kernel) (by decide +kernel) ?_ | with_reducible refine go_inTf (by decide +kernel) (by decide +kernel) ?_ | with_reducible refine go_niTt (by decide +kernel) (by decide +kernel) ?_ | with_reducible refine go_niTf (by decide +kernel) (by decide +kernel) ?_
  | with_reducible refine br_y (by decide +kernel) ?_ | with_reducible refine br_n (by decide +kernel) ?_ | with_reducible refine br_y (by with_unfolding_all rfl) ?_ | with_reducible refine br_n (by simp only [List.length_cons, List.length_nil]; omega) ?_
  | (with_reducible refine an_rng ?hh ?_; case hh => (first | decide | omega))
  | (with_reducible refine an_rng2 ?hh ?_; case hh => (first | decide | omega))
  | (with_reducible refine an_le ?hh ?_; case hh => (first | decide | (simp only [List.length_cons, List.length_nil]; omega)))
  | fail)
local macro_rules | `(tactic| walk_at "gg") => `(tactic| repeat' (first | walk_at "g1" | walk_at "g2"))

section
variable {X : EX} {Q : D → Wd → Prop} {QA : List D → Wd → Prop} {w0 w : Wd} {n m c b : Nat} {σ : En} {sp : Sp} {N B C : En → Wd → Prop} {T : D → Wd → Prop} {mk : List Int} {time : Int}
theorem SpAt.dwd (h : SpAt n m w sp) (q : Q (.int sp.wd) w) : Go X (gDGet (.obj m) (.str "width") w) Q := let ⟨_, e⟩ := h.ex; go_dget e sp_wd q
theorem SpAt.dst (h : SpAt n m w sp) (q : Q (.lst (sp.st.map eSt)) w) : Go X (gDGet (.obj m) (.str "stores") w) Q := let ⟨_, e⟩ := h.ex; go_dget e sp_st q
theorem SpAt.dla (h : SpAt n m w sp) (q : Q (.int sp.la) w) : Go X (gDGet (.obj m) (.str "late") w) Q := let ⟨_, e⟩ := h.ex; go_dget e sp_la q
theorem SpAt.dba (h : SpAt n m w sp) (q : Q (.int sp.ba) w) : Go X (gDGet (.obj m) (.str "back") w) Q := let ⟨_, e⟩ := h.ex; go_dget e sp_ba q
theorem SpAt.dfo (h : SpAt n m w sp) (q : Q (.str sp.fo) w) : Go X (gDGet (.obj m) (.str "fold") w) Q := let ⟨_, e⟩ := h.ex; go_dget e sp_fo q
theorem SpAt.dma (h : SpAt n m w sp) (q : Q (.lst (eS sp.ma)) w) : Go X (gDGet (.obj m) (.str "marks") w) Q := let ⟨_, e⟩ := h.ex; go_dget e sp_ma q
theorem SpAt.dno (h : SpAt n m w sp) (q : Q (.lst (sp.no.map eNt)) w) : Go X (gDGet (.obj m) (.str "notes") w) Q := let ⟨_, e⟩ := h.ex; go_dget e sp_no q
theorem SpAt.den (h : SpAt n m w sp) (q : Q (.lst (sp.en.map eEnt)) w) : Go X (gDGet (.obj m) (.str "entries") w) Q := let ⟨_, e⟩ := h.ex; go_dget e sp_en q
theorem SpAt.djo (h : SpAt n m w sp) (q : Q (.lst (sp.jo.map eJb)) w) : Go X (gDGet (.obj m) (.str "jobs") w) Q := let ⟨_, e⟩ := h.ex; go_dget e sp_jo q
theorem SpAt.dre (h : SpAt n m w sp) (q : Q (.lst (sp.re.map eRdg)) w) : Go X (gDGet (.obj m) (.str "readings") w) Q := let ⟨_, e⟩ := h.ex; go_dget e sp_re q
theorem SpAt.ap {w1 : Wd} (h : SpAt n m w sp) (a : Ap w w1) : SpAt n m w1 sp := let ⟨ti, e⟩ := h.ex; ⟨h.ne, ti, a.get e⟩
theorem BkAt.ap {w1 : Wd} (h : BkAt n b w sp) (a : Ap w w1) : BkAt n b w1 sp := ⟨h.ne, a.get h.at_⟩
theorem Bg.ap {w1 w2 : Wd} (h : Bg n w w1) (a : Ap w1 w2) : Bg n w w2 := by obtain ⟨e, rfl⟩ := a; exact h.app e
theorem law_passesb {t : Prs} (hb : SpAt n m w sp) (ok : SpOk sp) (ht : TestsOk sp.ma t) (hm : mk.length = sp.ma.length) (q : Q (.bl (sp.passes mk time t)) w) : Go X (F__law_passes [.obj m, eT t, eI mk, .int time] w) Q := by
  refine go_fn rfl ?_
  unfold M__law_passes
  walk_at "gg"
  refine list_loop eP t (fun pre σ w' => w' = w ∧ pre.all (sp.pass1 mk time) = true ∧ ∃ o4 o5 o6, σ = [some (.obj m), some (eT t), some (eI mk), some (.int time), o4, o5, o6]) ?_ ?_ ⟨rfl, rfl, _, _, _, rfl⟩
  · rintro pre p post σ w' e ⟨rfl, hp, o4, o5, o6, rfl⟩
    have hpt : p ∈ t := by rw [e]; simp
    have good : ∀ g : Bool, g = sp.pass1 mk time p → ∀ σ : En, σ[6]? = some (some (.bl g)) → (∃ o4 o5 o6, σ = [some (.obj m), some (eT t), some (eI mk), some (.int time), o4, o5, o6]) →
        Gd X (fun σ w'' => w'' = w' ∧ (pre ++ [p]).all (sp.pass1 mk time) = true ∧ ∃ o4 o5 o6, σ = [some (.obj m), some (eT t), some (eI mk), some (.int time), o4, o5, o6]) Q (fun σ1 w1 => Gd X (fun _ w1 => Q .non w1) Q (fun _ _ => False) (fun _ _ => False) (mRet (mC (.bl true)) σ1 w1)) (fun σ w'' => w'' = w' ∧ (pre ++ [p]).all (sp.pass1 mk time) = true ∧ ∃ o4 o5 o6, σ = [some (.obj m), some (eT t), some (eI mk), some (.int time), o4, o5, o6]) (mIfS (bNot (mTru (mVar 6))) (mRet (mC (.bl false))) mNext σ w') := by
      intro g hg σ h6 hσ
      refine gd_if (go_bNot (go_tru (go_var h6 ⟨g, rfl, ?_⟩)))
      cases g with
      | false =>
        walk_at "gg"
        have : sp.passes mk time t = false := by
          unfold Sp.passes
          rw [List.all_eq_false]
          exact ⟨p, hpt, by rw [← hg]; simp⟩
        rw [this] at q
        exact q
      | true =>
        walk_at "gg"
        exact ⟨rfl, by rw [List.all_append, hp, List.all_cons, List.all_nil, ← hg]; rfl, hσ⟩
    unfold eP
    walk_at "gg"
    refine br_dec (fun h => ?_) fun h => ?_
    · walk_at "gg"
      refine hb.dwd ?_
      repeat' (first | exact good _ (by unfold Sp.pass1; rw [if_pos h]) _ rfl ⟨_, _, _, rfl⟩ | walk_at "g1" | walk_at "g2")
    · walk_at "gg"
      refine br_dec (fun h2 => ?_) fun h2 => ?_
      · walk_at "gg"
        refine hb.dwd ?_
        repeat' (first | exact good _ (by unfold Sp.pass1; rw [if_neg h, if_pos h2]) _ rfl ⟨_, _, _, rfl⟩ | walk_at "g1" | walk_at "g2")
      · have hin : p.1 ∈ sp.ma := by
          rcases ht.ok p hpt with h3 | ⟨h3 | h3, _⟩
          · exact h3.1
          · exact absurd h3 h
          · exact absurd h3 h2
        walk_at "gg"
        refine go_index (l := sp.ma) (go_op (go_var rfl (go_c (hb.dma ⟨rfl, ?_⟩))))
        refine go_var rfl ⟨_, rfl, hin, ?_⟩
        refine go_ixI (by rw [hm]; exact ix_lt hin) ?_
        repeat' (first | exact good _ (by unfold Sp.pass1; rw [if_neg h, if_neg h2]) _ rfl ⟨_, _, _, rfl⟩ | walk_at "g1" | walk_at "g2")
  · rintro σ w' ⟨rfl, hp, _⟩
    walk_at "gg"
    have : sp.passes mk time t = true := hp
    rw [this] at q
    exact q
theorem gd_setI {me mo mi : En → Wd → R D} (h : Go X (me σ w) fun d w1 => Go X (mo σ w1) fun u w2 => Go X (mi σ w2) fun j w3 => ∃ a ds k i, cellL u w3 = some (a, ds) ∧ j = .int k ∧ ixN ds.length k = some i ∧ N σ (w3.set a (.lst (ds.set i d)))) : Gd X N T B C (mSetI me mo mi σ w) :=
  gd_toS (go_weak h fun d w1 h => gd_toS (go_weak h fun u w2 h => gd_toS (go_weak h fun j w3 ⟨a, ds, k, i, e1, e2, e3, h⟩ => by
    subst e2
    rw [e1]
    dsimp only
    rw [e3]
    exact h)))
theorem settled_len (s : Prs) : ∀ (mk : List Int), (sp.settled mk s).length = mk.length := by
  unfold Sp.settled
  induction s with
  | nil => intro mk; rfl
  | cons p r ih => intro mk; rw [List.foldl_cons, ih, List.length_set]
theorem go_lstM {ds : List D} (q : Q (.obj w.length) (w ++ [.lst ds])) : Go X (gLstOfM [.tup ds] w) Q := q
theorem go_tupC {a : Nat} {ds : List D} (h : w[a]? = some (.lst ds)) (q : Q (.tup ds) w) : Go X (gTupOf [.obj a] w) Q := by
  refine go_ok (a := D.tup ds) (w' := w) ?_ q
  simp only [gTupOf, der_of h]
theorem settledb {s : Prs} (hb : BkAt n b w sp) (hs : SetsOk sp.ma s) (hm : mk.length = sp.ma.length) (q : ∀ w', Ap w w' → Q (eI (sp.settled mk s)) w') : Go X (F_Book_settled [.obj b, eI mk, eT s] w) Q := by
  refine go_fn rfl ?_
  unfold M_Book_settled
  refine gd_seq (gd_nm (go_call (go_cons (go_var rfl (go_nil (go_lstM ?_))))))
  walk_at "gg"
  refine list_loop eP s (fun pre σ w' => w' = w ++ [.lst ((sp.settled mk pre).map .int)] ∧ ∃ o4 o5, σ = [some (.obj b), some (eI mk), some (eT s), some (.obj w.length), o4, o5]) ?_ ?_ ⟨rfl, _, _, rfl⟩
  · rintro pre p post σ w' e ⟨rfl, o4, o5, rfl⟩
    have hps : p ∈ s := by rw [e]; simp
    have hin := (hs.ok p hps).1
    have hb2 := hb.ap (w1 := w ++ [.lst ((sp.settled mk pre).map .int)]) ⟨_, rfl⟩
    have ha : (w ++ [MO.lst ((sp.settled mk pre).map .int)])[w.length]? = some (.lst ((sp.settled mk pre).map .int)) := by simp
    unfold eP
    walk_at "gg"
    refine gd_setI (go_var rfl (go_var rfl (go_index (l := sp.ma) (go_fldB hb2 bk_ma rfl ⟨rfl, go_var rfl ⟨_, rfl, hin, ?_⟩⟩))))
    have hl : ix sp.ma p.1 < (sp.settled mk pre).length := by rw [settled_len, hm]; exact ix_lt hin
    refine ⟨w.length, _, _, _, cel_of ha, rfl, ixN_nat (by omega) (by rw [List.length_map]; omega), ?_, _, _, rfl⟩
    rw [List.set_append_right _ _ (Nat.le_refl _), Nat.sub_self, Int.toNat_natCast, ← List.map_set]
    have e5 : sp.settled mk (pre ++ [p]) = (sp.settled mk pre).set (ix sp.ma p.1) p.2 := by unfold Sp.settled; rw [List.foldl_append]; rfl
    rw [e5]
    rfl
  · rintro σ w' ⟨rfl, o4, o5, rfl⟩
    walk_at "gg"
    refine go_tupC (a := w.length) (ds := (sp.settled mk s).map .int) (by simp) ?_
    exact q _ ⟨_, rfl⟩
theorem law_setb {s : Prs} (hb : SpAt n m w sp) (hs : SetsOk sp.ma s) (hm : mk.length = sp.ma.length) (q : ∀ w', Ap w w' → Q (eI (sp.settled mk s)) w') : Go X (F__law_set [.obj m, eI mk, eT s] w) Q := by
  refine go_fn rfl ?_
  unfold M__law_set
  refine gd_seq (gd_nm (go_call (go_cons (go_var rfl (go_nil (go_lstM ?_))))))
  walk_at "gg"
  refine list_loop eP s (fun pre σ w' => w' = w ++ [.lst ((sp.settled mk pre).map .int)] ∧ ∃ o4 o5, σ = [some (.obj m), some (eI mk), some (eT s), some (.obj w.length), o4, o5]) ?_ ?_ ⟨rfl, _, _, rfl⟩
  · rintro pre p post σ w' e ⟨rfl, o4, o5, rfl⟩
    have hps : p ∈ s := by rw [e]; simp
    have hin := (hs.ok p hps).1
    have hb2 := hb.ap (w1 := w ++ [.lst ((sp.settled mk pre).map .int)]) ⟨_, rfl⟩
    have ha : (w ++ [MO.lst ((sp.settled mk pre).map .int)])[w.length]? = some (.lst ((sp.settled mk pre).map .int)) := by simp
    unfold eP
    walk_at "gg"
    refine gd_setI (go_var rfl (go_var rfl (go_index (l := sp.ma) (go_op (go_var rfl (go_c (hb2.dma ⟨rfl, go_var rfl ⟨_, rfl, hin, ?_⟩⟩)))))))
    have hl : ix sp.ma p.1 < (sp.settled mk pre).length := by rw [settled_len, hm]; exact ix_lt hin
    refine ⟨w.length, _, _, _, cel_of ha, rfl, ixN_nat (by omega) (by rw [List.length_map]; omega), ?_, _, _, rfl⟩
    rw [List.set_append_right _ _ (Nat.le_refl _), Nat.sub_self, Int.toNat_natCast, ← List.map_set]
    have e5 : sp.settled mk (pre ++ [p]) = (sp.settled mk pre).set (ix sp.ma p.1) p.2 := by unfold Sp.settled; rw [List.foldl_append]; rfl
    rw [e5]
    rfl
  · rintro σ w' ⟨rfl, o4, o5, rfl⟩
    walk_at "gg"
    refine go_tupC (a := w.length) (ds := (sp.settled mk s).map .int) (by simp) ?_
    exact q _ ⟨_, rfl⟩
end
end Bk

set_option Elab.async false
set_option linter.all false
set_option autoImplicit false
set_option maxRecDepth 100000
set_option maxHeartbeats 4000000
/-! Bk20: notes, entries, readings that apply, as a book and the law tell them. -/
namespace Bk
open PySem L2 PyProof.Rows Si
/-- one step by the form of the code -/
local macro_rules | `(tactic| walk_at "g1") => `(tactic| with_reducible first
  | refine gd_seq ?_ | refine gd_nm ?_ | refine gd_asg ?_ | refine gd_ret ?_ | refine gd_if ?_ | refine gd_next ?_ | refine gd_expr ?_ | refine gd_par ?_ | refine gd_retN ?_ | refine gd_brk ?_ | refine gd_cnt ?_ | refine gd_for ?_
  | refine go_var rfl ?_ | refine go_c ?_ | refine go_op ?_ | refine go_call ?_ | refine go_callK ?_ | refine go_nil ?_ | refine go_cons ?_ | refine go_tup ?_ | refine go_lst ?_ | refine go_lstM ?_ | refine go_chain ?_ | refine go_and ?_ | refine go_or ?_ | refine go_not ?_
  | refine go_tru ?_ | refine go_asB ?_ | refine go_bAnd ?_ | refine go_bOr ?_ | refine go_bNot ?_ | refine go_bYes ?_ | refine go_if ?_ | refine go_neg ?_ | refine go_oNone ?_ | refine go_oSome ?_ | refine go_sl ?_ | refine go_isi ?_ | refine go_isi2 ?_
  | refine go_join ?_ | refine go_app ?_ | refine go_iter ?_ | refine go_zip ?_ | refine go_star ?_ | refine go_lenSet ?_ | refine go_enum ?_ | refine go_rng1 ?_ | refine go_rng2 ?_ | refine go_lc ?_ | refine go_lcM ?_
  | refine go_addI ?_ | refine go_subI ?_ | refine go_lt ?_ | refine go_le ?_ | refine go_gt ?_ | refine go_ge ?_ | refine go_eqI ?_ | refine go_neI ?_ | refine go_eqS ?_ | refine go_neS ?_ | refine go_lenL ?_ | refine go_lenT ?_ | refine go_lenS (by assumption) ?_
  | refine go_slL ?_ | refine go_slT ?_ | refine go_slS (by assumption) ?_ | refine go_ixL rfl ?_ | refine go_ixT rfl ?_ | refine go_intI ?_ | refine go_lstL ?_ | refine go_lstT ?_ | refine go_tupL ?_ | refine go_tupT ?_ | refine go_isN ?_ | refine go_notN ?_ | refine go_allM ?_
  | refine br_t ?_ | refine br_f ?_ | refine br_not ?_)
local macro_rules | `(tactic| walk_at "g2") => `(tactic| first
  | with_reducible refine ex_bl ?_ | with_reducible refine ex_int ?_ | with_reducible refine ex_str ?_ | with_reducible refine ex_nm ?_
  | with_reducible refine ex_zip ?_ | with_reducible refine ex_enum ?_
  | with_reducible refine ex_seq (by with_unfolding_all exact rfl) ?_
  | with_reducible refine ex_tg (by with_unfolding_all exact rfl) ?_
  | with_reducible refine ex_tru (by with_unfolding_all exact rfl) ?_
  | with_reducible refine ex_ty (by with_unfolding_all exact rfl) ?_
  | with_reducible refine ex_it (by with_unfolding_all exact rfl) ?_
  | with_reducible refine br_is (b := Si.isNon _) (by with_unfolding_all rfl) ?_ | with_reducible refine br_isnt (b := Si.isNon _) (by with_unfolding_all rfl) ?_
  | with_reducible refine br_is (b := isB _ _) (by with_unfolding_all decide) ?_ | with_reducible refine br_isnt (b := isB _ _) (by with_unfolding_all decide) ?_
  | with_reducible refine br_is (b := isB _ _ || isB _ _) (by with_unfolding_all decide) ?_ | with_reducible refine br_isnt (b := isB _ _ || isB _ _) (by with_unfolding_all decide) ?_
  | with_reducible refine go_mulL ⟨by decide, by decide⟩ ?_ | with_reducible refine go_mulR ⟨by decide, by decide⟩ ?_ | with_reducible refine go_mod (by decide) ?_ | with_reducible refine go_div (by decide) (by decide) ?_
  | with_reducible refine go_inTt (by decide +kernel) (by decide +kernel) ?_ | with_reducible refine go_inTf (by decide +kernel) (by decide +kernel) ?_ | with_reducible refine go_niTt (by decide +kernel) (by decide +kernel) ?_ | with_reducible refine go_niTf (by decide +kernel) (by decide +kernel) ?_
  | with_reducible refine br_y (by decide +kernel) ?_ | with_reducible refine br_n (by decide +kernel) ?_ | with_reducible refine br_y (by with_unfolding_all rfl) ?_ | with_reducible refine br_n (by simp only [List.length_cons, List.length_nil]; omega) ?_
  | (with_reducible refine an_rng ?hh ?_; case hh => (first | decide | omega))
  | (with_reducible refine an_rng2 ?hh ?_; case hh => (first | decide | omega))
  | (with_reducible refine an_le ?hh ?_; case hh => (first | decide | (simp only [List.length_cons, List.length_nil]; omega)))
  | fail)
local macro_rules | `(tactic| walk_at "gg") => `(tactic| repeat' (first | walk_at "g1" | walk_at "g2"))

theorem find_of {α : Type} {p : α → Bool} : ∀ {pre post : List α} {x : α}, (∀ y ∈ pre, p y = false) → p x = true → (pre ++ x :: post).find? p = some x
  | [], post, x, _, h => by rw [List.nil_append, List.find?_cons, h]
  | y :: r, post, x, hn, h => by
    rw [List.cons_append, List.find?_cons, hn y List.mem_cons_self]
    exact find_of (fun z hz => hn z (List.mem_cons_of_mem _ hz)) h
theorem find_no {α : Type} {p : α → Bool} {l : List α} (h : ∀ y ∈ l, p y = false) : l.find? p = none := by
  rw [List.find?_eq_none]
  intro x hx
  rw [h x hx]
  simp
theorem find_head {α : Type} {p : α → Bool} : ∀ (l : List α), (l.filter p).head? = l.find? p
  | [] => rfl
  | x :: r => by
    rw [List.filter_cons, List.find?_cons]
    cases h : p x with
    | true => rfl
    | false => exact find_head r
theorem bkN_passes {sp : Sp} : sp.fs.lookup ("passes" : Str) = none := bk_none (by decide +kernel)
theorem bkN_settled {sp : Sp} : sp.fs.lookup ("settled" : Str) = none := bk_none (by decide +kernel)
theorem bkN_noted {sp : Sp} : sp.fs.lookup ("noted" : Str) = none := bk_none (by decide +kernel)
theorem bkN_entry {sp : Sp} : sp.fs.lookup ("entry" : Str) = none := bk_none (by decide +kernel)
theorem bkN_reading {sp : Sp} : sp.fs.lookup ("reading" : Str) = none := bk_none (by decide +kernel)
section
variable {X : EX} {Q : D → Wd → Prop} {QA : List D → Wd → Prop} {w0 w : Wd} {n m c b : Nat} {σ : En} {sp : Sp} {N B C : En → Wd → Prop} {T : D → Wd → Prop} {mk : List Int} {time : Int} {wd kn : Str}
theorem notedb (hb : BkAt n b w sp) (ok : SpOk sp) (hm : mk.length = sp.ma.length) (q : ∀ w', Ap w w' → Q (eI (sp.noted wd mk time)) w') : Go X (F_Book_noted [.obj b, .str wd, eI mk, .int time] w) Q := by
  refine go_fn rfl ?_
  unfold M_Book_noted
  walk_at "gg"
  refine go_fldB hb bk_no rfl ?_
  walk_at "gg"
  refine list_loop eNt sp.no (fun pre σ w' => w' = w ∧ (∀ x ∈ pre, (decide (x.w = wd) && sp.passes mk time x.t) = false) ∧ ∃ o4 o5 o6, σ = [some (.obj b), some (.str wd), some (eI mk), some (.int time), o4, o5, o6]) ?_ ?_ ⟨rfl, (fun x hx => (by cases hx)), _, _, _, rfl⟩
  · rintro pre x post σ w' e ⟨rfl, hp, o4, o5, o6, rfl⟩
    have hx : x ∈ sp.no := by rw [e]; simp
    have hxo := ok.no x hx
    have nx : (decide (x.w = wd) && sp.passes mk time x.t) = false → ∀ y ∈ pre ++ [x], (decide (y.w = wd) && sp.passes mk time y.t) = false := fun h y hy => by
      rcases List.mem_append.mp hy with hy | hy
      · exact hp y hy
      · rw [List.mem_singleton.mp hy]; exact h
    unfold eNt
    walk_at "gg"
    refine br_dec (fun h => ?_) fun h => ?_
    · walk_at "gg"
      refine go_meth (go_var rfl ⟨b, _, rfl, hb.at_, bkN_passes, ?_⟩)
      walk_at "gg"
      refine passesb hb ok hxo.t hm ?_
      walk_at "gg"
      refine br_both (fun h2 => ?_) fun h2 => ?_
      · walk_at "gg"
        refine go_meth (go_var rfl ⟨b, _, rfl, hb.at_, bkN_settled, ?_⟩)
        walk_at "gg"
        refine settledb hb hxo.s hm fun w2 a2 => ?_
        have : sp.noted wd mk time = sp.settled mk x.s := by
          unfold Sp.noted
          rw [e, find_of hp (by simp [h, h2])]
        rw [← this]
        exact q _ a2
      · walk_at "gg"
        exact ⟨rfl, nx (by simp [h2]), _, _, _, rfl⟩
    · walk_at "gg"
      exact ⟨rfl, nx (by simp [h]), _, _, _, rfl⟩
  · rintro σ w' ⟨rfl, hp, o4, o5, o6, rfl⟩
    walk_at "gg"
    have : sp.noted wd mk time = mk := by
      unfold Sp.noted
      rw [find_no hp]
    rw [← this]
    exact q _ .refl
theorem entryb (hb : BkAt n b w sp) (ok : SpOk sp) (hm : mk.length = sp.ma.length) (q : Q (eOE (sp.entry wd mk time kn)) w) : Go X (F_Book_entry [.obj b, .str wd, eI mk, .int time, .str kn] w) Q := by
  refine go_fn rfl ?_
  unfold M_Book_entry
  walk_at "gg"
  refine go_fldB hb bk_en rfl ?_
  walk_at "gg"
  refine list_loop eEnt sp.en (fun pre σ w' => w' = w ∧ (∀ x ∈ pre, (decide (x.w = wd) && (decide (x.k ∈ (["any", kn] : List Str)) && sp.passes mk time x.t)) = false) ∧ ∃ o5, σ = [some (.obj b), some (.str wd), some (eI mk), some (.int time), some (.str kn), o5]) ?_ ?_ ⟨rfl, (fun x hx => (by cases hx)), _, rfl⟩
  · rintro pre x post σ w' e ⟨rfl, hp, o5, rfl⟩
    have hx : x ∈ sp.en := by rw [e]; simp
    have hxo := ok.en x hx
    have nx : (decide (x.w = wd) && (decide (x.k ∈ (["any", kn] : List Str)) && sp.passes mk time x.t)) = false → ∀ y ∈ pre ++ [x], (decide (y.w = wd) && (decide (y.k ∈ (["any", kn] : List Str)) && sp.passes mk time y.t)) = false := fun h y hy => by
      rcases List.mem_append.mp hy with hy | hy
      · exact hp y hy
      · rw [List.mem_singleton.mp hy]; exact h
    have ek : gIn (.str x.k) (.tup [.str "any", .str kn]) w' = .ok (D.bl (decide (x.k ∈ (["any", kn] : List Str)))) w' := by
      show R.ok (D.bl ((eS ["any", kn]).any fun d => eqF d (.str x.k))) w' = _
      rw [any_eqF]
    have hret : (decide (x.w = wd) && (decide (x.k ∈ (["any", kn] : List Str)) && sp.passes mk time x.t)) = true → Q (eEnt x) w' := fun h => by
      have : sp.entry wd mk time kn = some x := by
        unfold Sp.entry
        rw [e, find_of hp h]
      rw [this] at q
      exact q
    obtain ⟨xw, xt, xk, xm, xl⟩ := x
    rw [show eEnt ⟨xw, xt, xk, xm, xl⟩ = .tup [.str xw, eT xt, .str xk, eT xm, .bl xl] from rfl] at hret ⊢
    dsimp only at ek hret nx
    walk_at "gg"
    refine br_dec (fun h => ?_) fun h => ?_
    · walk_at "gg"
      refine go_ok ek ?_
      walk_at "gg"
      refine br_dec (fun h3 => ?_) fun h3 => ?_
      · walk_at "gg"
        refine go_meth (go_var rfl ⟨b, _, rfl, hb.at_, bkN_passes, ?_⟩)
        walk_at "gg"
        refine passesb hb ok hxo.t hm ?_
        walk_at "gg"
        refine br_both (fun h2 => ?_) fun h2 => ?_
        · walk_at "gg"
          exact hret (by rw [decide_eq_true h, decide_eq_true h3, h2]; rfl)
        · walk_at "gg"
          exact ⟨rfl, nx (by rw [h2]; simp), _, rfl⟩
      · walk_at "gg"
        exact ⟨rfl, nx (by rw [decide_eq_false h3]; simp), _, rfl⟩
    · walk_at "gg"
      exact ⟨rfl, nx (by rw [decide_eq_false h]; simp), _, rfl⟩
  · rintro σ w' ⟨rfl, hp, o5, rfl⟩
    walk_at "gg"
    have : sp.entry wd mk time kn = none := find_no hp
    rw [this] at q
    exact q
theorem readingb (hb : BkAt n b w sp) (ok : SpOk sp) (hm : mk.length = sp.ma.length) (q : Q (eOR (sp.reading wd mk time)) w) : Go X (F_Book_reading [.obj b, .str wd, eI mk, .int time] w) Q := by
  refine go_fn rfl ?_
  unfold M_Book_reading
  walk_at "gg"
  refine go_fldB hb bk_re rfl ?_
  walk_at "gg"
  refine list_loop eRdg sp.re (fun pre σ w' => w' = w ∧ (∀ x ∈ pre, (decide (x.w = wd) && sp.passes mk time x.t) = false) ∧ ∃ o4 o5 o6, σ = [some (.obj b), some (.str wd), some (eI mk), some (.int time), o4, o5, o6]) ?_ ?_ ⟨rfl, (fun x hx => (by cases hx)), _, _, _, rfl⟩
  · rintro pre x post σ w' e ⟨rfl, hp, o4, o5, o6, rfl⟩
    have hx : x ∈ sp.re := by rw [e]; simp
    have hxo := ok.re x hx
    have nx : (decide (x.w = wd) && sp.passes mk time x.t) = false → ∀ y ∈ pre ++ [x], (decide (y.w = wd) && sp.passes mk time y.t) = false := fun h y hy => by
      rcases List.mem_append.mp hy with hy | hy
      · exact hp y hy
      · rw [List.mem_singleton.mp hy]; exact h
    unfold eRdg
    walk_at "gg"
    refine br_dec (fun h => ?_) fun h => ?_
    · walk_at "gg"
      refine go_meth (go_var rfl ⟨b, _, rfl, hb.at_, bkN_passes, ?_⟩)
      walk_at "gg"
      refine passesb hb ok hxo.t hm ?_
      walk_at "gg"
      refine br_both (fun h2 => ?_) fun h2 => ?_
      · walk_at "gg"
        have : sp.reading wd mk time = some x := by
          unfold Sp.reading
          rw [e, find_of hp (by simp [h, h2])]
        rw [this] at q
        exact q
      · walk_at "gg"
        exact ⟨rfl, nx (by simp [h2]), _, _, _, rfl⟩
    · walk_at "gg"
      exact ⟨rfl, nx (by simp [h]), _, _, _, rfl⟩
  · rintro σ w' ⟨rfl, hp, o4, o5, o6, rfl⟩
    walk_at "gg"
    have : sp.reading wd mk time = none := find_no hp
    rw [this] at q
    exact q
end
end Bk

set_option Elab.async false
set_option linter.all false
set_option autoImplicit false
set_option maxRecDepth 100000
set_option maxHeartbeats 4000000
/-! Bk21: notes, entries, readings that apply, as the law tells them; the top. -/
namespace Bk
open PySem L2 PyProof.Rows Si
/-- one step by the form of the code -/
local macro_rules | `(tactic| walk_at "g1") => `(tactic| with_reducible first
  | refine gd_seq ?_ | refine gd_nm ?_ | refine gd_asg ?_ | refine gd_ret ?_ | refine gd_if ?_ | refine gd_next ?_ | refine gd_expr ?_ | refine gd_par ?_ | refine gd_retN ?_ | refine gd_brk ?_ | refine gd_cnt ?_ | refine gd_for ?_
  | refine go_var rfl ?_ | refine go_c ?_ | refine go_op ?_ | refine go_call ?_ | refine go_callK ?_ | refine go_nil ?_ | refine go_cons ?_ | refine go_tup ?_ | refine go_lst ?_ | refine go_lstM ?_ | refine go_chain ?_ | refine go_and ?_ | refine go_or ?_ | refine go_not ?_
  | refine go_tru ?_ | refine go_asB ?_ | refine go_bAnd ?_ | refine go_bOr ?_ | refine go_bNot ?_ | refine go_bYes ?_ | refine go_if ?_ | refine go_neg ?_ | refine go_oNone ?_ | refine go_oSome ?_ | refine go_sl ?_ | refine go_isi ?_ | refine go_isi2 ?_
  | refine go_join ?_ | refine go_app ?_ | refine go_iter ?_ | refine go_zip ?_ | refine go_star ?_ | refine go_lenSet ?_ | refine go_enum ?_ | refine go_rng1 ?_ | refine go_rng2 ?_ | refine go_lc ?_ | refine go_lcM ?_
  | refine go_addI ?_ | refine go_subI ?_ | refine go_lt ?_ | refine go_le ?_ | refine go_gt ?_ | refine go_ge ?_ | refine go_eqI ?_ | refine go_neI ?_ | refine go_eqS ?_ | refine go_neS ?_ | refine go_lenL ?_ | refine go_lenT ?_ | refine go_lenS (by assumption) ?_
  | refine go_slL ?_ | refine go_slT ?_ | refine go_slS (by assumption) ?_ | refine go_ixL rfl ?_ | refine go_ixT rfl ?_ | refine go_intI ?_ | refine go_lstL ?_ | refine go_lstT ?_ | refine go_tupL ?_ | refine go_tupT ?_ | refine go_isN ?_ | refine go_notN ?_ | refine go_allM ?_
  | refine br_t ?_ | refine br_f ?_ | refine br_not ?_)
local macro_rules | `(tactic| walk_at "g2") => `(tactic| first
  | with_reducible refine ex_bl ?_ | with_reducible refine ex_int ?_ | with_reducible refine ex_str ?_ | with_reducible refine ex_nm ?_
  | with_reducible refine ex_zip ?_ | with_reducible refine ex_enum ?_
  | with_reducible refine ex_seq (by with_unfolding_all exact rfl) ?_
  | with_reducible refine ex_tg (by with_unfolding_all exact rfl) ?_
  | with_reducible refine ex_tru (by with_unfolding_all exact rfl) ?_
  | with_reducible refine ex_ty (by with_unfolding_all exact rfl) ?_
  | with_reducible refine ex_it (by with_unfolding_all exact rfl) ?_
  | with_reducible refine br_is (b := Si.isNon _) (by with_unfolding_all rfl) ?_ | with_reducible refine br_isnt (b := Si.isNon _) (by with_unfolding_all rfl) ?_
  | with_reducible refine br_is (b := isB _ _) (by with_unfolding_all decide) ?_ | with_reducible refine br_isnt (b := isB _ _) (by with_unfolding_all decide) ?_
  | with_reducible refine br_is (b := isB _ _ || isB _ _) (by with_unfolding_all decide) ?_ | with_reducible refine br_isnt (b := isB _ _ || isB _ _) (by with_unfolding_all decide) ?_
  | with_reducible refine go_mulL ⟨by decide, by decide⟩ ?_ | with_reducible refine go_mulR ⟨by decide, by decide⟩ ?_ | with_reducible refine go_mod (by decide) ?_ | with_reducible refine go_div (by decide) (by decide) ?_
  | with_reducible refine go_inTt (by decide +kernel) (by decide +kernel) ?_ | with_reducible refine go_inTf (by decide +kernel) (by decide +kernel) ?_ | with_reducible refine go_niTt (by decide +kernel) (by decide +kernel) ?_ | with_reducible refine go_niTf (by decide +kernel) (by decide +kernel) ?_
  | with_reducible refine br_y (by decide +kernel) ?_ | with_reducible refine br_n (by decide +kernel) ?_ | with_reducible refine br_y (by with_unfolding_all rfl) ?_ | with_reducible refine br_n (by simp only [List.length_cons, List.length_nil]; omega) ?_
  | (with_reducible refine an_rng ?hh ?_; case hh => (first | decide | omega))
  | (with_reducible refine an_rng2 ?hh ?_; case hh => (first | decide | omega))
  | (with_reducible refine an_le ?hh ?_; case hh => (first | decide | (simp only [List.length_cons, List.length_nil]; omega)))
  | fail)
local macro_rules | `(tactic| walk_at "gg") => `(tactic| repeat' (first | walk_at "g1" | walk_at "g2"))

theorem fine_all {n : Nat} : ∀ {xs : List D}, (∀ x ∈ xs, x.fine n = true) → fineA n xs = true
  | [], _ => by rw [fineA]
  | x :: r, h => by rw [fineA, h x List.mem_cons_self, fine_all fun y hy => h y (List.mem_cons_of_mem _ hy)]; rfl
theorem fine_tup {n : Nat} {xs : List D} (hl : xs.length ≤ 16777216) (h : ∀ x ∈ xs, x.fine n = true) : (D.tup xs).fine (n + 1) = true := by
  rw [D.fine, decide_eq_true hl, fine_all h]; rfl
theorem fine_lst {n : Nat} {xs : List D} (hl : xs.length ≤ 16777216) (h : ∀ x ∈ xs, x.fine n = true) : (D.lst xs).fine (n + 1) = true := by
  rw [D.fine, decide_eq_true hl, fine_all h]; rfl
theorem fine_str {n : Nat} {z : Str} : (D.str z).fine n = true := by cases n <;> rw [D.fine]
theorem fine_int {n : Nat} {z : Int} : (D.int z).fine n = true := by cases n <;> rw [D.fine]
theorem fine_bl {n : Nat} {z : Bool} : (D.bl z).fine n = true := by cases n <;> rw [D.fine]
theorem fine_non {n : Nat} : D.non.fine n = true := by cases n <;> rw [D.fine]
theorem fine_eP {n : Nat} {p : Str × Int} : (eP p).fine (n + 1) = true := fine_tup (by simp) fun x hx => by
  simp only [List.mem_cons, List.not_mem_nil, or_false] at hx
  rcases hx with rfl | rfl
  · exact fine_str
  · exact fine_int
theorem fine_eT {n : Nat} {t : Prs} (h : t.length ≤ 1000) : (eT t).fine (n + 2) = true := fine_tup (by rw [List.length_map]; omega) fun x hx => by
  obtain ⟨p, _, rfl⟩ := List.mem_map.mp hx
  exact fine_eP
theorem fine_eI {n : Nat} {t : List Int} (h : t.length ≤ 1000) : (eI t).fine (n + 1) = true := fine_tup (by rw [List.length_map]; omega) fun x hx => by
  obtain ⟨p, _, rfl⟩ := List.mem_map.mp hx
  exact fine_int
theorem fine_eEnt {n : Nat} {x : Ent} (h1 : x.t.length ≤ 1000) (h2 : x.m.length ≤ 1000) : (eEnt x).fine (n + 3) = true := fine_tup (by simp) fun y hy => by
  simp only [List.mem_cons, List.not_mem_nil, or_false] at hy
  rcases hy with rfl | rfl | rfl | rfl | rfl
  · exact fine_str
  · exact fine_eT h1
  · exact fine_str
  · exact fine_eT h2
  · exact fine_bl
theorem fine_eOS {n : Nat} {o : Option (List Str)} (h : ∀ l, o = some l → l.length ≤ 1000) : (eOS o).fine (n + 1) = true := by
  cases o with
  | none => exact fine_non
  | some l =>
    refine fine_tup (by have := h l rfl; rw [List.length_map]; omega) fun x hx => ?_
    obtain ⟨p, _, rfl⟩ := List.mem_map.mp hx
    exact fine_str
section
variable {st : List (Str × Str)} {ma : List Str} {fo : Str}
theorem tm_eT {n : Nat} {t : Prs} (h : ∀ p ∈ t, ∀ n, tame n (.str p.1) = true) : tame (n + 2) (eT t) = true := tame_tup fun x hx => by
  obtain ⟨p, hp, rfl⟩ := List.mem_map.mp hx
  exact tm_P (h p hp)
theorem TestsOk.tm {t : Prs} (h : TestsOk ma t) (hma : MarksOk ma) : ∀ p ∈ t, ∀ n, tame n (.str p.1) = true := fun p hp n => by
  rcases h.ok p hp with ⟨h1, _⟩ | ⟨h1 | h1, _⟩
  · exact (hma.nm _ h1).tm
  · rw [h1]; exact tm_lit (by decide +kernel)
  · rw [h1]; exact tm_lit (by decide +kernel)
theorem tm_eNt {n : Nat} {x : Nt} (h : NtOk ma x) (hma : MarksOk ma) : tame (n + 3) (eNt x) = true := tame_tup fun y hy => by
  simp only [List.mem_cons, List.not_mem_nil, or_false] at hy
  rcases hy with rfl | rfl | rfl
  · rcases h.w with e | e <;> rw [e] <;> exact tm_lit (by decide +kernel)
  · exact tm_eT (h.t.tm hma)
  · exact tm_eT fun p hp n => (hma.nm _ (h.s.ok p hp).1).tm
theorem tm_eEnt {n : Nat} {x : Ent} (h : EntOk st ma fo x) (hst : StoresOk st) (hma : MarksOk ma) : tame (n + 3) (eEnt x) = true := tame_tup fun y hy => by
  simp only [List.mem_cons, List.not_mem_nil, or_false] at hy
  rcases hy with rfl | rfl | rfl | rfl | rfl
  · rcases h.w with e | e <;> rw [e] <;> exact tm_lit (by decide +kernel)
  · exact tm_eT (h.t.tm hma)
  · rcases h.k with e | e | e | e <;> rw [e] <;> exact tm_lit (by decide +kernel)
  · refine tm_eT fun p hp n => ?_
    obtain ⟨q, hq, e⟩ := List.mem_map.mp (h.m.ok p hp).1
    rw [← e]
    exact (hst.ok q hq).1.tm
  · rw [tame]
theorem tm_eRdg {n : Nat} {x : Rdg} (h : RdgOk st ma x) (hst : StoresOk st) (hma : MarksOk ma) : tame (n + 3) (eRdg x) = true := tame_tup fun y hy => by
  simp only [List.mem_cons, List.not_mem_nil, or_false] at hy
  rcases hy with rfl | rfl | rfl
  · rcases h.w with e | e <;> rw [e] <;> exact tm_lit (by decide +kernel)
  · exact tm_eT (h.t.tm hma)
  · cases e : x.s with
    | none => rw [eOS, tame]
    | some l =>
      refine tame_tup fun y hy => ?_
      obtain ⟨z, hz, rfl⟩ := List.mem_map.mp hy
      obtain ⟨p, hp, _⟩ := (h.s l e).2.2 z hz
      exact (hst.ok _ hp).1.tm
end
section
variable {X : EX} {Q : D → Wd → Prop} {QA : List D → Wd → Prop} {w0 w : Wd} {n m c b : Nat} {σ : En} {sp : Sp} {N B C : En → Wd → Prop} {T : D → Wd → Prop} {mk : List Int} {time : Int} {wd kn : Str}
theorem lc_filterT {α : Type} {own : List Nat} {f : D → En → Wd → Option En} {mt : En → Wd → R Bool} {me : En → Wd → R D} (e : α → D) (p : α → Bool) (g : α → D) (l : List α) (hl : l.length ≤ 16777216)
    (hs : ∀ x, x ∈ l → ∃ σ1, f (e x) (wipeD σ own) w = some σ1 ∧ Go EX0 (mt σ1 w) fun b w1 => b = p x ∧ w1 = w ∧ (p x = true → Go EX0 (me σ1 w) fun y w2 => y = g x ∧ w2 = w))
    (q : QA ((l.filter p).map g) w) : Go X (lcL own f mt me σ (l.map e) [] w) QA := by
  refine go_lcL (fun acc r w' => w' = w ∧ ∃ pre post, l = pre ++ post ∧ r = post.map e ∧ acc = (pre.filter p).map g) ?_ ?_ _ _ _ ⟨rfl, [], l, rfl, rfl, rfl⟩
  · rintro acc d r w' ⟨rfl, pre, post, e1, e2, ha⟩
    cases post with
    | nil => cases e2
    | cons x post =>
      rw [List.map_cons] at e2
      cases e2
      obtain ⟨σ1, h0, h1⟩ := hs x (by rw [e1]; simp)
      refine ⟨σ1, h0, go_weak h1 fun b w1 h => ?_⟩
      obtain ⟨rfl, rfl, h2⟩ := h
      cases hp : p x with
      | true =>
        refine br_t (go_weak (h2 hp) fun y w2 h => ⟨?_, h.2, pre ++ [x], post, by rw [e1]; simp, rfl, ?_⟩)
        · have e2 := congrArg List.length e1
          have e3 := List.length_filter_le p pre
          simp only [List.length_append, List.length_cons] at e2
          rw [ha, List.length_map]
          omega
        · rw [ha, h.1]; simp [hp]
      | false =>
        refine br_f ⟨rfl, pre ++ [x], post, by rw [e1]; simp, rfl, ?_⟩
        rw [ha]; simp [hp]
  · rintro acc w' ⟨rfl, pre, post, e1, e2, ha⟩
    cases post with
    | nil => rw [List.append_nil] at e1; subst e1; rw [ha]; exact q
    | cons => cases e2
theorem law_notedb (hb : SpAt n m w sp) (ok : SpOk sp) (hm : mk.length = sp.ma.length) (q : ∀ w', Ap w w' → Q (eI (sp.noted wd mk time)) w') : Go X (F__law_noted [.obj m, .str wd, eI mk, .int time] w) Q := by
  refine go_fn rfl ?_
  unfold M__law_noted
  walk_at "gg"
  refine hb.dno ?_
  walk_at "gg"
  have hl := ok.nol
  refine lc_filterT eNt (fun x => decide (x.w = wd) && sp.passes mk time x.t) eNt sp.no (by omega) (fun x hx => ?_) ?_
  · obtain ⟨xw, xt, xs⟩ := x
    have hxo := ok.no _ hx
    rw [show eNt ⟨xw, xt, xs⟩ = .tup [.str xw, eT xt, eT xs] from rfl]
    walk_at "gg"
    refine br_dec (fun h => ?_) fun h => ?_
    · walk_at "gg"
      refine law_passesb hb ok hxo.t hm ?_
      walk_at "gg"
      exact ⟨by rw [decide_eq_true h]; rfl, rfl, fun _ => go_var rfl ⟨rfl, rfl⟩⟩
    · exact ⟨by rw [decide_eq_false h]; rfl, rfl, fun _ => go_var rfl ⟨rfl, rfl⟩⟩
  walk_at "gg"
  refine go_neNil (k := 4) rfl rfl (tame_lst fun d hd => ?_) (by decide) ?_
  · obtain ⟨x, hx, rfl⟩ := List.mem_map.mp hd
    exact tm_eNt (ok.no x (List.mem_filter.mp hx).1) ok.ma
  have hf := find_head (p := fun x : Nt => decide (x.w = wd) && sp.passes mk time x.t) sp.no
  cases e : sp.no.filter (fun x => decide (x.w = wd) && sp.passes mk time x.t) with
  | nil =>
    rw [e] at hf
    walk_at "gg"
    refine br_is rfl ?_
    walk_at "gg"
    have : sp.noted wd mk time = mk := by unfold Sp.noted; rw [← hf]; rfl
    rw [← this]
    exact q _ .refl
  | cons x r =>
    rw [e] at hf
    have hxo := ok.no x (List.mem_filter.mp (by rw [e]; exact List.mem_cons_self)).1
    obtain ⟨xw, xt, xs⟩ := x
    walk_at "gg"
    refine br_isnt rfl ?_
    rw [List.map_cons, show eNt ⟨xw, xt, xs⟩ = .tup [.str xw, eT xt, eT xs] from rfl]
    walk_at "gg"
    refine go_ixL (d := .tup [.str xw, eT xt, eT xs]) (by unfold L2.atI; rw [ixN_nat (by decide) (by simp)]; rfl) ?_
    walk_at "gg"
    refine law_setb hb hxo.s hm fun w2 a2 => ?_
    have : sp.noted wd mk time = sp.settled mk xs := by unfold Sp.noted; rw [← hf]; rfl
    rw [← this]
    exact q _ a2
end
end Bk

set_option Elab.async false
set_option linter.all false
set_option autoImplicit false
set_option maxRecDepth 100000
set_option maxHeartbeats 4000000
/-! Bk22: entries and readings as the law tells them; the top. -/
namespace Bk
open PySem L2 PyProof.Rows Si
/-- one step by the form of the code -/
local macro_rules | `(tactic| walk_at "g1") => `(tactic| with_reducible first
  | refine gd_seq ?_ | refine gd_nm ?_ | refine gd_asg ?_ | refine gd_ret ?_ | refine gd_if ?_ | refine gd_next ?_ | refine gd_expr ?_ | refine gd_par ?_ | refine gd_retN ?_ | refine gd_brk ?_ | refine gd_cnt ?_ | refine gd_for ?_
  | refine go_var rfl ?_ | refine go_c ?_ | refine go_op ?_ | refine go_call ?_ | refine go_callK ?_ | refine go_nil ?_ | refine go_cons ?_ | refine go_tup ?_ | refine go_lst ?_ | refine go_lstM ?_ | refine go_chain ?_ | refine go_and ?_ | refine go_or ?_ | refine go_not ?_
  | refine go_tru ?_ | refine go_asB ?_ | refine go_bAnd ?_ | refine go_bOr ?_ | refine go_bNot ?_ | refine go_bYes ?_ | refine go_if ?_ | refine go_neg ?_ | refine go_oNone ?_ | refine go_oSome ?_ | refine go_sl ?_ | refine go_isi ?_ | refine go_isi2 ?_
  | refine go_join ?_ | refine go_app ?_ | refine go_iter ?_ | refine go_zip ?_ | refine go_star ?_ | refine go_lenSet ?_ | refine go_enum ?_ | refine go_rng1 ?_ | refine go_rng2 ?_ | refine go_lc ?_ | refine go_lcM ?_
  | refine go_addI ?_ | refine go_subI ?_ | refine go_lt ?_ | refine go_le ?_ | refine go_gt ?_ | refine go_ge ?_ | refine go_eqI ?_ | refine go_neI ?_ | refine go_eqS ?_ | refine go_neS ?_ | refine go_lenL ?_ | refine go_lenT ?_ | refine go_lenS (by assumption) ?_
  | refine go_slL ?_ | refine go_slT ?_ | refine go_slS (by assumption) ?_ | refine go_ixL rfl ?_ | refine go_ixT rfl ?_ | refine go_intI ?_ | refine go_lstL ?_ | refine go_lstT ?_ | refine go_tupL ?_ | refine go_tupT ?_ | refine go_isN ?_ | refine go_notN ?_ | refine go_allM ?_
  | refine br_t ?_ | refine br_f ?_ | refine br_not ?_)
local macro_rules | `(tactic| walk_at "g2") => `(tactic| first
  | with_reducible refine ex_bl ?_ | with_reducible refine ex_int ?_ | with_reducible refine ex_str ?_ | with_reducible refine ex_nm ?_
  | with_reducible refine ex_zip ?_ | with_reducible refine ex_enum ?_
  | with_reducible refine ex_seq (by with_unfolding_all exact rfl) ?_
  | with_reducible refine ex_tg (by with_unfolding_all exact rfl) ?_
  | with_reducible refine ex_tru (by with_unfolding_all exact rfl) ?_
  | with_reducible refine ex_ty (by with_unfolding_all exact rfl) ?_
  | with_reducible refine ex_it (by with_unfolding_all exact rfl) ?_
  | with_reducible refine br_is (b := Si.isNon _) (by with_unfolding_all rfl) ?_ | with_reducible refine br_isnt (b := Si.isNon _) (by with_unfolding_all rfl) ?_
  | with_reducible refine br_is (b := isB _ _) (by with_unfolding_all decide) ?_ | with_reducible refine br_isnt (b := isB _ _) (by with_unfolding_all decide) ?_
  | with_reducible refine br_is (b := isB _ _ || isB _ _) (by with_unfolding_all decide) ?_ | with_reducible refine br_isnt (b := isB _ _ || isB _ _) (by with_unfolding_all decide) ?_
  | with_reducible refine go_mulL ⟨by decide, by decide⟩ ?_ | with_reducible refine go_mulR ⟨by decide, by decide⟩ ?_ | with_reducible refine go_mod (by decide) ?_ | with_reducible refine go_div (by decide) (by decide) ?_
  | with_reducible refine go_inTt (by decide +kernel) (by decide +kernel) ?_ | with_reducible refine go_inTf (by decide +kernel) (by decide +kernel) ?_ | with_reducible refine go_niTt (by decide +kernel) (by decide +kernel) ?_ | with_reducible refine go_niTf (by decide +kernel) (by decide +kernel) ?_
  | with_reducible refine br_y (by decide +kernel) ?_ | with_reducible refine br_n (by decide +kernel) ?_ | with_reducible refine br_y (by with_unfolding_all rfl) ?_ | with_reducible refine br_n (by simp only [List.length_cons, List.length_nil]; omega) ?_
  | (with_reducible refine an_rng ?hh ?_; case hh => (first | decide | omega))
  | (with_reducible refine an_rng2 ?hh ?_; case hh => (first | decide | omega))
  | (with_reducible refine an_le ?hh ?_; case hh => (first | decide | (simp only [List.length_cons, List.length_nil]; omega)))
  | fail)
local macro_rules | `(tactic| walk_at "gg") => `(tactic| repeat' (first | walk_at "g1" | walk_at "g2"))

theorem top_mem : ∀ {l : List Int}, l ≠ [] → topI l ∈ l
  | [], h => absurd rfl h
  | [i], _ => by simp [topI]
  | i :: j :: r, _ => by
    have ih := top_mem (l := j :: r) (by simp)
    show (if topI (j :: r) > i then topI (j :: r) else i) ∈ _
    split
    · exact List.mem_cons_of_mem _ ih
    · exact List.mem_cons_self
theorem top_ge : ∀ {l : List Int} {y : Int}, y ∈ l → y ≤ topI l
  | [i], y, h => by rw [List.mem_singleton.mp h]; exact Int.le_refl _
  | i :: j :: r, y, h => by
    show y ≤ (if topI (j :: r) > i then topI (j :: r) else i)
    rcases List.mem_cons.mp h with rfl | h
    · split <;> omega
    · have ih := top_ge (l := j :: r) h
      split <;> omega
theorem top_eq {l m : List Int} (hl : l ≠ []) (hm : m ≠ []) (h1 : ∀ y ∈ l, ∃ z ∈ m, y ≤ z) (h2 : ∀ y ∈ m, ∃ z ∈ l, y ≤ z) : topI l = topI m := by
  obtain ⟨z, hz, a⟩ := h1 _ (top_mem hl)
  obtain ⟨y, hy, b⟩ := h2 _ (top_mem hm)
  have c := top_ge hz
  have d := top_ge hy
  omega
section
variable {X : EX} {Q : D → Wd → Prop} {QA : List D → Wd → Prop} {w0 w : Wd} {n m c b : Nat} {σ : En} {sp : Sp} {N B C : En → Wd → Prop} {T : D → Wd → Prop} {mk : List Int} {time : Int} {wd kn : Str}
theorem lc_mapT {α : Type} {own : List Nat} {f : D → En → Wd → Option En} {me : En → Wd → R D} (e : α → D) (g : α → D) (l : List α) (hl : l.length ≤ 16777216)
    (hs : ∀ x, x ∈ l → ∃ σ1, f (e x) (wipeD σ own) w = some σ1 ∧ Go EX0 (me σ1 w) fun y w2 => y = g x ∧ w2 = w) (q : QA (l.map g) w) : Go X (lcL own f bYes me σ (l.map e) [] w) QA :=
  lc_filterT e (fun _ => true) g l hl (fun x hx => let ⟨σ1, h1, h2⟩ := hs x hx; ⟨σ1, h1, rfl, rfl, fun _ => h2⟩) (by rw [List.filter_eq_self.mpr (fun _ _ => rfl)]; exact q)
theorem noted_len : (sp.noted wd mk time).length = mk.length := by
  unfold Sp.noted
  split
  · exact settled_len _ _
  · rfl
theorem entry_fine {n : Nat} (ok : SpOk sp) : (eOE (sp.entry wd mk time kn)).fine (n + 3) = true := by
  cases e : sp.entry wd mk time kn with
  | none => exact fine_non
  | some x =>
    have hx := ok.en x (List.mem_of_find?_eq_some e)
    exact fine_eEnt (by have := hx.t.le; omega) (by have := hx.m.le; omega)
theorem reading_fine {n : Nat} (ok : SpOk sp) : (eOR (sp.reading wd mk time)).fine (n + 1) = true := by
  cases e : sp.reading wd mk time with
  | none => exact fine_non
  | some x =>
    have hx := ok.re x (List.mem_of_find?_eq_some e)
    exact fine_eOS fun l hl => by have := (hx.s l hl).2.1; omega
theorem permL_4321 {a b c d : D} : permL [0, 3, 2, 1] [a, b, c, d] = [a, d, c, b] := by simp [permL]
theorem permL_04321 {a b c d e : D} : permL [0, 4, 3, 2, 1] [a, b, c, d, e] = [a, e, d, c, b] := by simp [permL]
theorem permL_0231 {a b c d : D} : permL [0, 2, 3, 1] [a, b, c, d] = [a, c, d, b] := by simp [permL]
theorem law_entryb (hb : SpAt n m w sp) (ok : SpOk sp) (hm : mk.length = sp.ma.length) (q : Q (eOE (sp.entry wd mk time kn)) w) : Go X (F__law_entry [.obj m, .str wd, eI mk, .int time, .str kn] w) Q := by
  refine go_fn rfl ?_
  unfold M__law_entry
  walk_at "gg"
  refine hb.den ?_
  walk_at "gg"
  have hl := ok.enl
  refine lc_filterT eEnt (fun x => decide (x.w = wd) && (decide (x.k ∈ (["any", kn] : List Str)) && sp.passes mk time x.t)) eEnt sp.en (by omega) (fun x hx => ?_) ?_
  · obtain ⟨xw, xt, xk, xm, xl⟩ := x
    have hxo := ok.en _ hx
    have ek : gIn (.str xk) (.tup [.str "any", .str kn]) w = .ok (D.bl (decide (xk ∈ (["any", kn] : List Str)))) w := by
      show R.ok (D.bl ((eS ["any", kn]).any fun d => eqF d (.str xk))) w = _
      rw [any_eqF]
    rw [show eEnt ⟨xw, xt, xk, xm, xl⟩ = .tup [.str xw, eT xt, .str xk, eT xm, .bl xl] from rfl]
    walk_at "gg"
    refine br_dec (fun h => ?_) fun h => ?_
    · walk_at "gg"
      refine go_ok ek ?_
      walk_at "gg"
      refine br_dec (fun h3 => ?_) fun h3 => ?_
      · walk_at "gg"
        refine law_passesb hb ok hxo.t hm ?_
        walk_at "gg"
        exact ⟨by rw [decide_eq_true h, decide_eq_true h3]; rfl, rfl, fun _ => go_var rfl ⟨rfl, rfl⟩⟩
      · exact ⟨by rw [decide_eq_false h3]; simp, rfl, fun _ => go_var rfl ⟨rfl, rfl⟩⟩
    · exact ⟨by rw [decide_eq_false h]; rfl, rfl, fun _ => go_var rfl ⟨rfl, rfl⟩⟩
  walk_at "gg"
  refine go_neNil (k := 4) rfl rfl (tame_lst fun d hd => ?_) (by decide) ?_
  · obtain ⟨x, hx, rfl⟩ := List.mem_map.mp hd
    exact tm_eEnt (ok.en x (List.mem_filter.mp hx).1) ok.st ok.ma
  have hf := find_head (p := fun x : Ent => decide (x.w = wd) && (decide (x.k ∈ (["any", kn] : List Str)) && sp.passes mk time x.t)) sp.en
  have hq : sp.entry wd mk time kn = (sp.en.filter fun x => decide (x.w = wd) && (decide (x.k ∈ (["any", kn] : List Str)) && sp.passes mk time x.t)).head? := hf.symm
  rw [hq] at q
  cases e : sp.en.filter (fun x => decide (x.w = wd) && (decide (x.k ∈ (["any", kn] : List Str)) && sp.passes mk time x.t)) with
  | nil =>
    rw [e] at q
    walk_at "gg"
    refine br_is rfl ?_
    walk_at "gg"
    exact q
  | cons x r =>
    rw [e] at q
    walk_at "gg"
    refine br_isnt rfl ?_
    walk_at "gg"
    refine go_ixL (d := eEnt x) (by unfold L2.atI; rw [ixN_nat (by decide) (by simp)]; rfl) ?_
    exact q
theorem law_readingb (hb : SpAt n m w sp) (ok : SpOk sp) (hm : mk.length = sp.ma.length) (q : Q (eOR (sp.reading wd mk time)) w) : Go X (F__law_reading [.obj m, .str wd, eI mk, .int time] w) Q := by
  refine go_fn rfl ?_
  unfold M__law_reading
  walk_at "gg"
  refine hb.dre ?_
  walk_at "gg"
  have hl := ok.rel
  refine lc_filterT eRdg (fun x => decide (x.w = wd) && sp.passes mk time x.t) eRdg sp.re (by omega) (fun x hx => ?_) ?_
  · obtain ⟨xw, xt, xs⟩ := x
    have hxo := ok.re _ hx
    rw [show eRdg ⟨xw, xt, xs⟩ = .tup [.str xw, eT xt, eOS xs] from rfl]
    walk_at "gg"
    refine br_dec (fun h => ?_) fun h => ?_
    · walk_at "gg"
      refine law_passesb hb ok hxo.t hm ?_
      walk_at "gg"
      exact ⟨by rw [decide_eq_true h]; rfl, rfl, fun _ => go_var rfl ⟨rfl, rfl⟩⟩
    · exact ⟨by rw [decide_eq_false h]; rfl, rfl, fun _ => go_var rfl ⟨rfl, rfl⟩⟩
  walk_at "gg"
  refine go_neNil (k := 4) rfl rfl (tame_lst fun d hd => ?_) (by decide) ?_
  · obtain ⟨x, hx, rfl⟩ := List.mem_map.mp hd
    exact tm_eRdg (ok.re x (List.mem_filter.mp hx).1) ok.st ok.ma
  have hq : sp.reading wd mk time = (sp.re.filter fun x => decide (x.w = wd) && sp.passes mk time x.t).head? := (find_head sp.re).symm
  rw [hq] at q
  cases e : sp.re.filter (fun x => decide (x.w = wd) && sp.passes mk time x.t) with
  | nil =>
    rw [e] at q
    walk_at "gg"
    refine br_is rfl ?_
    walk_at "gg"
    exact q
  | cons x r =>
    rw [e] at q
    obtain ⟨xw, xt, xs⟩ := x
    walk_at "gg"
    refine br_isnt rfl ?_
    rw [List.map_cons, show eRdg ⟨xw, xt, xs⟩ = .tup [.str xw, eT xt, eOS xs] from rfl]
    walk_at "gg"
    refine go_ixL (d := .tup [.str xw, eT xt, eOS xs]) (by unfold L2.atI; rw [ixN_nat (by decide) (by simp)]; rfl) ?_
    walk_at "gg"
    exact q
/-- a row of rules: what stands at place 1 -/
def rowT (sp : Sp) : List (D × Prs) := sp.no.map (fun x => (eNt x, x.t)) ++ sp.en.map (fun x => (eEnt x, x.t)) ++ sp.jo.map (fun x => (eJb x, x.t)) ++ sp.re.map (fun x => (eRdg x, x.t))
theorem rowT_d : (rowT sp).map (·.1) = sp.no.map eNt ++ sp.en.map eEnt ++ sp.jo.map eJb ++ sp.re.map eRdg := by
  unfold rowT
  simp only [List.map_append, List.map_map]
  rfl
theorem rowT_t : (rowT sp).map (·.2) = sp.tests := by
  unfold rowT Sp.tests
  simp only [List.map_append, List.map_map]
  rfl
theorem rowT_ix {p : D × Prs} (h : p ∈ rowT sp) (q : Q (eT p.2) w) : Go X (gIx p.1 (.int 1) w) Q := by
  unfold rowT at h
  simp only [List.mem_append, List.mem_map] at h
  have one : ∀ (a c : D) (r : List D), L2.atI (a :: c :: r) 1 = some c := fun a c r => by
    unfold L2.atI
    rw [ixN_nat (by decide) (by simp only [List.length_cons]; omega)]
    rfl
  rcases h with ((⟨x, _, rfl⟩ | ⟨x, _, rfl⟩) | ⟨x, _, rfl⟩) | ⟨x, _, rfl⟩ <;> exact go_ixT (one _ _ _) q
theorem agesIn_app (a b : List Prs) : agesIn (a ++ b) = agesIn a ++ agesIn b := by unfold agesIn; rw [List.map_append, List.flatten_append]
theorem agesIn_one (t : Prs) : agesIn [t] = (t.filter isAge).map (·.2) := by unfold agesIn; simp
theorem ages_val (ok : SpOk sp) {l : List Prs} (hl : ∀ t ∈ l, t ∈ sp.tests) : ∀ y ∈ agesIn l, y ≤ 6 := by
  intro y hy
  unfold agesIn at hy
  obtain ⟨ys, h1, h2⟩ := List.mem_flatten.mp hy
  obtain ⟨t, ht, rfl⟩ := List.mem_map.mp h1
  obtain ⟨p, hp, rfl⟩ := List.mem_map.mp h2
  have hp2 := (List.mem_filter.mp hp).1
  rcases (ok.tl.1 t (hl t ht)).ok p hp2 with h | h
  · omega
  · exact h.2.2
theorem waits_val (ok : SpOk sp) : ∀ y ∈ waitsIn sp.jo, y ≤ 6 := by
  intro y hy
  unfold waitsIn at hy
  obtain ⟨x, hx, e⟩ := List.mem_filterMap.mp hy
  exact ((ok.jo x hx).d y e).2
theorem top_bounds (ok : SpOk sp) : 1 ≤ sp.top ∧ sp.top ≤ 12 := by
  have h1 : topI (sp.la :: sp.ba :: sp.nums) ∈ (sp.la :: sp.ba :: sp.nums) := top_mem (by simp)
  have h2 : (0 : Int) ≤ topI (sp.la :: sp.ba :: sp.nums) := top_ge (by unfold Sp.nums; simp)
  have h3 : topI (sp.la :: sp.ba :: sp.nums) ≤ 6 := by
    unfold Sp.nums at h1 ⊢
    simp only [List.mem_cons, List.mem_append] at h1
    have a := ok.la
    have b := ok.ba
    rcases h1 with h | h | h | h | h
    · omega
    · omega
    · omega
    · exact ages_val ok (fun t ht => ht) _ h
    · exact waits_val ok _ h
  have := ok.wd
  unfold Sp.top
  omega
theorem law_topb (hb : SpAt n m w sp) (ok : SpOk sp) (q : Q (.int sp.top) w) : Go X (F__law_top [.obj m] w) Q := by
  have l1 := ok.nol
  have l2 := ok.enl
  have l3 := ok.jol
  have l4 := ok.rel
  have h9 := ok.tl
  refine go_fn rfl ?_
  unfold M__law_top
  walk_at "gg"
  refine hb.dla ?_
  walk_at "gg"
  refine hb.dba ?_
  walk_at "gg"
  refine hb.djo ?_
  walk_at "gg"
  refine lc_filter wtp trd _ (by rw [List.length_map]; omega) (fun d hd => ?_) ?_
  · obtain ⟨⟨z, t, o, s⟩, hx, rfl⟩ := List.mem_map.mp hd
    rw [show eJb ⟨z, t, o, s⟩ = .tup [.str z, eT t, eO o, .tup (s.map eStp)] from rfl]
    walk_at "gg"
    refine ⟨rfl, rfl, fun _ => ?_⟩
    walk_at "gg"
    exact ⟨rfl, rfl⟩
  rw [waits_g]
  walk_at "gg"
  have hwl := waits_len sp.jo
  refine go_addL (by rw [List.length_map]; simp only [List.length_cons, List.length_nil]; omega) ?_
  walk_at "gg"
  refine hb.dno ?_
  walk_at "gg"
  refine hb.den ?_
  walk_at "gg"
  refine go_addL (by simp only [List.length_map]; omega) ?_
  walk_at "gg"
  refine hb.djo ?_
  walk_at "gg"
  refine go_addL (by simp only [List.length_append, List.length_map]; omega) ?_
  walk_at "gg"
  refine hb.dre ?_
  walk_at "gg"
  refine go_addL (by simp only [List.length_append, List.length_map]; omega) ?_
  walk_at "gg"
  rw [← rowT_d]
  refine list_loop (fun p : D × Prs => p.1) (rowT sp) (fun pre σ w' => w' = w ∧ ∃ o2 o3 o4 o5 o6, σ = [some (.obj m), some (.lst ((sp.la :: sp.ba :: (waitsIn sp.jo ++ agesIn (pre.map (·.2)))).map .int)), o2, o3, o4, o5, o6]) ?_ ?_ ⟨rfl, _, _, _, _, _, by simp [agesIn]; rfl⟩
  · rintro pre p post σ w' e ⟨rfl, o2, o3, o4, o5, o6, rfl⟩
    have hp : p ∈ rowT sp := by rw [e]; simp
    have hpt : p.2 ∈ sp.tests := by rw [← rowT_t]; exact List.mem_map.mpr ⟨p, hp, rfl⟩
    have hpl := (h9.1 _ hpt).le
    have hpre : ∀ t ∈ pre.map (·.2), t ∈ sp.tests := fun t ht => by rw [← rowT_t, e, List.map_append]; exact List.mem_append_left _ ht
    have hal := ages_len (l := pre.map (·.2)) fun t ht => (h9.1 t (hpre t ht)).le
    have hpn : (pre.map (·.2)).length ≤ 28 := by
      have := congrArg List.length (rowT_t (sp := sp))
      rw [e] at this
      simp only [List.map_append, List.length_append, List.length_map] at this ⊢
      omega
    refine ex_nm ?_
    walk_at "gg"
    refine rowT_ix hp ?_
    walk_at "gg"
    refine lc_filterT eP isAge (fun p => .int p.2) p.2 (by omega) (fun x hx => ?_) ?_
    · unfold eP
      walk_at "gg"
      have ea : gIn (.str x.1) (.tup [.str "age", .str "young"]) w' = .ok (D.bl (isAge x)) w' := by
        show R.ok (D.bl ((eS ["age", "young"]).any fun d => eqF d (.str x.1))) w' = _
        rw [any_eqF]
        rfl
      refine go_ok ea ?_
      walk_at "gg"
      refine ⟨rfl, rfl, fun _ => ?_⟩
      walk_at "gg"
      exact ⟨rfl, rfl⟩
    walk_at "gg"
    have hfl := List.length_filter_le isAge p.2
    refine go_addL (by simp only [List.length_map, List.length_cons, List.length_append]; omega) ?_
    refine ⟨rfl, o2, some p.1, o4, o5, o6, ?_⟩
    have e5 : ((sp.la :: sp.ba :: (waitsIn sp.jo ++ agesIn (pre.map (·.2)))).map D.int) ++ (p.2.filter isAge).map (fun p => D.int p.2) = (sp.la :: sp.ba :: (waitsIn sp.jo ++ agesIn ((pre ++ [p]).map (·.2)))).map D.int := by
      rw [List.map_append (l₁ := pre), agesIn_app, show [p].map (fun x : D × Prs => x.2) = [p.2] from rfl, agesIn_one]
      simp only [List.map_cons, List.map_append, List.cons_append, List.append_assoc, List.map_map]
      rfl
    rw [e5]
    rfl
  · rintro σ w' ⟨rfl, o2, o3, o4, o5, o6, rfl⟩
    walk_at "gg"
    refine hb.dwd ?_
    walk_at "gg"
    have e6 : gMaxL [.lst ((sp.la :: sp.ba :: (waitsIn sp.jo ++ agesIn ((rowT sp).map (·.2)))).map .int)] w' = .ok (.int (topI (sp.la :: sp.ba :: sp.nums))) w' := by
      simp only [gMaxL, der_lst, Option.bind, inA_ints]
      rw [if_pos (by simp), rowT_t]
      congr 2
      refine top_eq (by simp) (by simp) (fun y hy => ?_) fun y hy => ?_
      · refine ⟨y, ?_, Int.le_refl _⟩
        unfold Sp.nums
        simp only [List.mem_cons, List.mem_append] at hy ⊢
        rcases hy with h | h | h | h
        · exact .inl h
        · exact .inr (.inl h)
        · exact .inr (.inr (.inr (.inr h)))
        · exact .inr (.inr (.inr (.inl h)))
      · unfold Sp.nums at hy
        simp only [List.mem_cons, List.mem_append] at hy
        rcases hy with h | h | h | h | h
        · exact ⟨y, by simp [h], Int.le_refl _⟩
        · exact ⟨y, by simp [h], Int.le_refl _⟩
        · exact ⟨sp.la, by simp, by have := ok.la; omega⟩
        · exact ⟨y, by simp [h], Int.le_refl _⟩
        · exact ⟨y, by simp [h], Int.le_refl _⟩
    refine go_ok e6 ?_
    walk_at "gg"
    exact q
end
end Bk

set_option Elab.async false
set_option linter.all false
set_option autoImplicit false
set_option maxRecDepth 100000
set_option maxHeartbeats 4000000
namespace K10
open PySem L2 PyProof.Rows Si Bk
/-! ### what the module holds -/
def top (i : Nat) : Stmt := PySem.Challenge.pw_coarseonce_k10_rules_that_apply.main.body.getD i (.Pass ⟨0, 0, 0, 0⟩)
structure Bl (mg : Str → Option Value) : Prop where
  b_list : mg "list" = none
  b_tuple : mg "tuple" = none
  b_int : mg "int" = none
  b_len : mg "len" = none
  b_isinstance : mg "isinstance" = none
  b_bool : mg "bool" = none
  b_str : mg "str" = none
  b_all : mg "all" = none
  b_zip : mg "zip" = none
  b_range : mg "range" = none
  b_enumerate : mg "enumerate" = none
  b_set : mg "set" = none
  b_max : mg "max" = none
structure Cn (K : PySem.W.Frag) (mg : Str → Option Value) : Prop where
  c_LETTERS : CN K mg "LETTERS" c_LETTERS
  c_RESERVED : CN K mg "RESERVED" c_RESERVED
  c_MOST_STORES : CN K mg "MOST_STORES" c_MOST_STORES
  c_MOST_MARKS : CN K mg "MOST_MARKS" c_MOST_MARKS
  c_MOST_WAIT : CN K mg "MOST_WAIT" c_MOST_WAIT
  c_MOST_ITEMS : CN K mg "MOST_ITEMS" c_MOST_ITEMS
  c_MOST_JOBS : CN K mg "MOST_JOBS" c_MOST_JOBS
  c_MOST_WIDTH : CN K mg "MOST_WIDTH" c_MOST_WIDTH
structure Lf (K : PySem.W.Frag) (cl : Str → Option Addr) : Prop where
  f_own_width : CF K cl ["Book"] "own_width"
  f_own_marks : CF K cl ["Book"] "own_marks"
  f_own_notes : CF K cl ["Book"] "own_notes"
  f_own_entries : CF K cl ["Book"] "own_entries"
  f_own_readings : CF K cl ["Book"] "own_readings"
  f_own_jobs : CF K cl ["Book"] "own_jobs"
  f_own_fold : CF K cl ["Book"] "own_fold"
  f_own_back : CF K cl ["Book"] "own_back"
  f_own_late : CF K cl ["Book"] "own_late"
  f_own_stores : CF K cl ["Book"] "own_stores"
  f_own_top : CF K cl ["Book"] "own_top"
section
variable {P : Program} {w : World} {K : PySem.W.Frag} {mg : Str → Option Value} {base : Heap} {cl : Str → Option Addr}

/-! ### Book.passes -/
abbrev st_Book_passes : Stmt := (inClass (top 43) 16)
def N_Book_passes : List Str := ["self", "tests", "marks", "time", "head", "number", "good"]
theorem sc_Book_passes : FnScope N_Book_passes ["self", "tests", "marks", "time"] (defScope st_Book_passes) := ⟨rfl, rfl, rfl, by decide +kernel, rfl, by decide +kernel, by decide +kernel⟩
theorem ok_Book_passes (B : Bl mg) (C : Cn K mg) (L : Lf K cl)    {f : Addr} {fd : FuncData} (F_ : Fun K "passes" "Book.passes" st_Book_passes f fd) : SF P w K cl mg base 2 f fd ["self", "tests", "marks", "time"] F_Book_passes := by
  refine sf_mk F_ sc_Book_passes rfl rfl fun cdv A outer s H E hr => ?_
  have hu := hu64 hr
  have hu5 := hu65 hr
  have tk : Takes (cxOf (L2.CX P w) P w K mg base N_Book_passes "Book.passes" (defScope st_Book_passes) f cdv A outer s H E) (fun cls d _ H => E cls d H) := takes_of rfl rfl rfl rfl
  have hx : Passes (L2.CX P w) (cxOf (L2.CX P w) P w K mg base N_Book_passes "Book.passes" (defScope st_Book_passes) f cdv A outer s H E) E := passes_call tk fun _ _ _ _ h => h
  have hpo := passes_of (X := (cxOf (L2.CX P w) P w K mg base N_Book_passes "Book.passes" (defScope st_Book_passes) f cdv A outer s H E)) rfl
  exact (sb_cons (ss_for hpo rfl (si_seq (se_var (pv 1))) (sg_tup rfl (sgs_cons (sg_name (pg_name (i := 4) (sc_Book_passes).nd rfl (by first | exact Or.inl rfl | exact Or.inr rfl))) (sgs_cons (sg_name (pg_name (i := 5) (sc_Book_passes).nd rfl (by first | exact Or.inl rfl | exact Or.inr rfl))) sgs_nil))) (sb_cons (ss_if (st_cmp (op_eqA hu) gr_eq (se_var (pv 4)) se_str (nomark _)) (sb_one (ss_set (i := 6) (sc_Book_passes).nd rfl (by first | exact Or.inl rfl | exact Or.inr rfl) (se_cmp op_ge gr_ge (se_var (pv 3)) (se_op op_addA gr_add (se_fld (se_var (pv 0)) L.f_own_width) (se_var (pv 5))) (nomark _)))) (sb_one (ss_if (st_cmp (op_eqA hu) gr_eq (se_var (pv 4)) se_str (nomark _)) (sb_one (ss_set (i := 6) (sc_Book_passes).nd rfl (by first | exact Or.inl rfl | exact Or.inr rfl) (se_cmp op_lt gr_lt (se_var (pv 3)) (se_op op_addA gr_add (se_fld (se_var (pv 0)) L.f_own_width) (se_var (pv 5))) (nomark _)))) (sb_one (ss_set (i := 6) (sc_Book_passes).nd rfl (by first | exact Or.inl rfl | exact Or.inr rfl) (se_cmp (op_eqA hu) gr_eq (se_ix (se_var (pv 2)) (se_index (se_fld (se_var (pv 0)) L.f_own_marks) (se_var (pv 4))) (fun _ _ => rfl)) (se_var (pv 5)) (nomark _)))))))
  (sb_one (ss_if (st_not (st_truth (se_var (pv 6)) (fun _ => rfl))) (sb_one (ss_ret se_bl)) sb_nil))))
  (sb_one (ss_ret se_bl)))
/-! ### Book.settled -/
abbrev st_Book_settled : Stmt := (inClass (top 43) 17)
def N_Book_settled : List Str := ["self", "marks", "settings", "found", "mark", "number"]
theorem sc_Book_settled : FnScope N_Book_settled ["self", "marks", "settings"] (defScope st_Book_settled) := ⟨rfl, rfl, rfl, by decide +kernel, rfl, by decide +kernel, by decide +kernel⟩
theorem ok_Book_settled (B : Bl mg) (C : Cn K mg) (L : Lf K cl)    {f : Addr} {fd : FuncData} (F_ : Fun K "settled" "Book.settled" st_Book_settled f fd) : SF P w K cl mg base 2 f fd ["self", "marks", "settings"] F_Book_settled := by
  refine sf_mk F_ sc_Book_settled rfl rfl fun cdv A outer s H E hr => ?_
  have hu := hu64 hr
  have hu5 := hu65 hr
  have tk : Takes (cxOf (L2.CX P w) P w K mg base N_Book_settled "Book.settled" (defScope st_Book_settled) f cdv A outer s H E) (fun cls d _ H => E cls d H) := takes_of rfl rfl rfl rfl
  have hx : Passes (L2.CX P w) (cxOf (L2.CX P w) P w K mg base N_Book_settled "Book.settled" (defScope st_Book_settled) f cdv A outer s H E) E := passes_call tk fun _ _ _ _ h => h
  have hpo := passes_of (X := (cxOf (L2.CX P w) P w K mg base N_Book_settled "Book.settled" (defScope st_Book_settled) f cdv A outer s H E)) rfl
  exact (sb_cons (ss_set (i := 3) (sc_Book_settled).nd rfl (by first | exact Or.inl rfl | exact Or.inr rfl) (se_listCM rfl B.b_list (sa_cons (se_var (pv 1)) sa_nil)))
  (sb_cons (ss_for hpo rfl (si_seq (se_var (pv 2))) (sg_tup rfl (sgs_cons (sg_name (pg_name (i := 4) (sc_Book_settled).nd rfl (by first | exact Or.inl rfl | exact Or.inr rfl))) (sgs_cons (sg_name (pg_name (i := 5) (sc_Book_settled).nd rfl (by first | exact Or.inl rfl | exact Or.inr rfl))) sgs_nil))) (sb_one (ss_setI (se_var (pv 5)) (se_var (pv 3)) (se_index (se_fld (se_var (pv 0)) L.f_own_marks) (se_var (pv 4))))))
  (sb_one (ss_ret (se_tupleC rfl B.b_tuple (sa_cons (se_var (pv 3)) sa_nil))))))
/-! ### Book.noted -/
abbrev st_Book_noted : Stmt := (inClass (top 43) 18)
def N_Book_noted : List Str := ["self", "word", "marks", "time", "own", "tests", "settings"]
theorem sc_Book_noted : FnScope N_Book_noted ["self", "word", "marks", "time"] (defScope st_Book_noted) := ⟨rfl, rfl, rfl, by decide +kernel, rfl, by decide +kernel, by decide +kernel⟩
theorem ok_Book_noted (B : Bl mg) (C : Cn K mg) (L : Lf K cl) {C_Book : Addr} (c_Book : ClO K cl "Book" C_Book) {f_Book_passes : Addr} {fd_Book_passes : FuncData} (h_Book_passes : AtM P w K cl mg base 2 C_Book "passes" "Book.passes" st_Book_passes ["self", "tests", "marks", "time"] f_Book_passes fd_Book_passes G_Book_passes) {f_Book_settled : Addr} {fd_Book_settled : FuncData} (h_Book_settled : AtM P w K cl mg base 2 C_Book "settled" "Book.settled" st_Book_settled ["self", "marks", "settings"] f_Book_settled fd_Book_settled G_Book_settled)  {f : Addr} {fd : FuncData} (F_ : Fun K "noted" "Book.noted" st_Book_noted f fd) : SF P w K cl mg base 4 f fd ["self", "word", "marks", "time"] F_Book_noted := by
  refine sf_mk F_ sc_Book_noted rfl rfl fun cdv A outer s H E hr => ?_
  have hu := hu64 hr
  have hu5 := hu65 hr
  have tk : Takes (cxOf (L2.CX P w) P w K mg base N_Book_noted "Book.noted" (defScope st_Book_noted) f cdv A outer s H E) (fun cls d _ H => E cls d H) := takes_of rfl rfl rfl rfl
  have hx : Passes (L2.CX P w) (cxOf (L2.CX P w) P w K mg base N_Book_noted "Book.noted" (defScope st_Book_noted) f cdv A outer s H E) E := passes_call tk fun _ _ _ _ h => h
  have hpo := passes_of (X := (cxOf (L2.CX P w) P w K mg base N_Book_noted "Book.noted" (defScope st_Book_noted) f cdv A outer s H E)) rfl
  exact (sb_cons (ss_for hpo rfl (si_seq (se_fld (se_var (pv 0)) L.f_own_notes)) (sg_tup rfl (sgs_cons (sg_name (pg_name (i := 4) (sc_Book_noted).nd rfl (by first | exact Or.inl rfl | exact Or.inr rfl))) (sgs_cons (sg_name (pg_name (i := 5) (sc_Book_noted).nd rfl (by first | exact Or.inl rfl | exact Or.inr rfl))) (sgs_cons (sg_name (pg_name (i := 6) (sc_Book_noted).nd rfl (by first | exact Or.inl rfl | exact Or.inr rfl))) sgs_nil)))) (sb_one (ss_if (st_of (sw_and (st_cmp (op_eqA hu) gr_eq (se_var (pv 4)) (se_var (pv 1)) (nomark _)) (sw_and1 (st_truth (se_meth (se_var (pv 0)) c_Book.e c_Book.c h_Book_passes.m h_Book_passes.ok (hr.mono (by decide)) h_Book_passes.b hx (sa_cons (se_var (pv 5)) (sa_cons (se_var (pv 2)) (sa_cons (se_var (pv 3)) sa_nil)))) (fun _ => rfl))))) (sb_one (ss_ret (se_meth (se_var (pv 0)) c_Book.e c_Book.c h_Book_settled.m h_Book_settled.ok (hr.mono (by decide)) h_Book_settled.b hx (sa_cons (se_var (pv 2)) (sa_cons (se_var (pv 6)) sa_nil))))) sb_nil)))
  (sb_one (ss_ret (se_var (pv 2)))))
/-! ### Book.entry -/
abbrev st_Book_entry : Stmt := (inClass (top 43) 19)
def N_Book_entry : List Str := ["self", "word", "marks", "time", "known", "entry"]
theorem sc_Book_entry : FnScope N_Book_entry ["self", "word", "marks", "time", "known"] (defScope st_Book_entry) := ⟨rfl, rfl, rfl, by decide +kernel, rfl, by decide +kernel, by decide +kernel⟩
theorem ok_Book_entry (B : Bl mg) (C : Cn K mg) (L : Lf K cl) {C_Book : Addr} (c_Book : ClO K cl "Book" C_Book) {f_Book_passes : Addr} {fd_Book_passes : FuncData} (h_Book_passes : AtM P w K cl mg base 2 C_Book "passes" "Book.passes" st_Book_passes ["self", "tests", "marks", "time"] f_Book_passes fd_Book_passes G_Book_passes)  {f : Addr} {fd : FuncData} (F_ : Fun K "entry" "Book.entry" st_Book_entry f fd) : SF P w K cl mg base 4 f fd ["self", "word", "marks", "time", "known"] F_Book_entry := by
  refine sf_mk F_ sc_Book_entry rfl rfl fun cdv A outer s H E hr => ?_
  have hu := hu64 hr
  have hu5 := hu65 hr
  have tk : Takes (cxOf (L2.CX P w) P w K mg base N_Book_entry "Book.entry" (defScope st_Book_entry) f cdv A outer s H E) (fun cls d _ H => E cls d H) := takes_of rfl rfl rfl rfl
  have hx : Passes (L2.CX P w) (cxOf (L2.CX P w) P w K mg base N_Book_entry "Book.entry" (defScope st_Book_entry) f cdv A outer s H E) E := passes_call tk fun _ _ _ _ h => h
  have hpo := passes_of (X := (cxOf (L2.CX P w) P w K mg base N_Book_entry "Book.entry" (defScope st_Book_entry) f cdv A outer s H E)) rfl
  exact (sb_cons (ss_for hpo rfl (si_seq (se_fld (se_var (pv 0)) L.f_own_entries)) (sg_name (pg_name (i := 5) (sc_Book_entry).nd rfl (by first | exact Or.inl rfl | exact Or.inr rfl))) (sb_one (ss_if (st_of (sw_and (st_cmp (op_eqA hu) gr_eq (se_ix (se_var (pv 5)) se_int (fun _ _ => rfl)) (se_var (pv 1)) (nomark _)) (sw_and (st_cmp (op_inA hu5) gr_in (se_ix (se_var (pv 5)) se_int (fun _ _ => rfl)) (se_tup (sa_cons se_str (sa_cons (se_var (pv 4)) sa_nil))) (by rfl)) (sw_and1 (st_truth (se_meth (se_var (pv 0)) c_Book.e c_Book.c h_Book_passes.m h_Book_passes.ok (hr.mono (by decide)) h_Book_passes.b hx (sa_cons (se_ix (se_var (pv 5)) se_int (fun _ _ => rfl)) (sa_cons (se_var (pv 2)) (sa_cons (se_var (pv 3)) sa_nil)))) (fun _ => rfl)))))) (sb_one (ss_ret (se_var (pv 5)))) sb_nil)))
  (sb_one (ss_ret se_non)))
/-! ### Book.reading -/
abbrev st_Book_reading : Stmt := (inClass (top 43) 20)
def N_Book_reading : List Str := ["self", "word", "marks", "time", "own", "tests", "stores"]
theorem sc_Book_reading : FnScope N_Book_reading ["self", "word", "marks", "time"] (defScope st_Book_reading) := ⟨rfl, rfl, rfl, by decide +kernel, rfl, by decide +kernel, by decide +kernel⟩
theorem ok_Book_reading (B : Bl mg) (C : Cn K mg) (L : Lf K cl) {C_Book : Addr} (c_Book : ClO K cl "Book" C_Book) {f_Book_passes : Addr} {fd_Book_passes : FuncData} (h_Book_passes : AtM P w K cl mg base 2 C_Book "passes" "Book.passes" st_Book_passes ["self", "tests", "marks", "time"] f_Book_passes fd_Book_passes G_Book_passes)  {f : Addr} {fd : FuncData} (F_ : Fun K "reading" "Book.reading" st_Book_reading f fd) : SF P w K cl mg base 4 f fd ["self", "word", "marks", "time"] F_Book_reading := by
  refine sf_mk F_ sc_Book_reading rfl rfl fun cdv A outer s H E hr => ?_
  have hu := hu64 hr
  have hu5 := hu65 hr
  have tk : Takes (cxOf (L2.CX P w) P w K mg base N_Book_reading "Book.reading" (defScope st_Book_reading) f cdv A outer s H E) (fun cls d _ H => E cls d H) := takes_of rfl rfl rfl rfl
  have hx : Passes (L2.CX P w) (cxOf (L2.CX P w) P w K mg base N_Book_reading "Book.reading" (defScope st_Book_reading) f cdv A outer s H E) E := passes_call tk fun _ _ _ _ h => h
  have hpo := passes_of (X := (cxOf (L2.CX P w) P w K mg base N_Book_reading "Book.reading" (defScope st_Book_reading) f cdv A outer s H E)) rfl
  exact (sb_cons (ss_for hpo rfl (si_seq (se_fld (se_var (pv 0)) L.f_own_readings)) (sg_tup rfl (sgs_cons (sg_name (pg_name (i := 4) (sc_Book_reading).nd rfl (by first | exact Or.inl rfl | exact Or.inr rfl))) (sgs_cons (sg_name (pg_name (i := 5) (sc_Book_reading).nd rfl (by first | exact Or.inl rfl | exact Or.inr rfl))) (sgs_cons (sg_name (pg_name (i := 6) (sc_Book_reading).nd rfl (by first | exact Or.inl rfl | exact Or.inr rfl))) sgs_nil)))) (sb_one (ss_if (st_of (sw_and (st_cmp (op_eqA hu) gr_eq (se_var (pv 4)) (se_var (pv 1)) (nomark _)) (sw_and1 (st_truth (se_meth (se_var (pv 0)) c_Book.e c_Book.c h_Book_passes.m h_Book_passes.ok (hr.mono (by decide)) h_Book_passes.b hx (sa_cons (se_var (pv 5)) (sa_cons (se_var (pv 2)) (sa_cons (se_var (pv 3)) sa_nil)))) (fun _ => rfl))))) (sb_one (ss_ret (se_var (pv 6)))) sb_nil)))
  (sb_one (ss_ret se_non)))
/-! ### _law_bag -/
abbrev st__law_bag : Stmt := (top 45)
def N__law_bag : List Str := ["_law_script", "_law_cells", "_law_mark", "_law_cell"]
theorem sc__law_bag : FnScope N__law_bag ["_law_script"] (defScope st__law_bag) := ⟨rfl, rfl, rfl, by decide +kernel, rfl, by decide +kernel, by decide +kernel⟩
theorem ok__law_bag (B : Bl mg) (C : Cn K mg) (L : Lf K cl)    {f : Addr} {fd : FuncData} (F_ : Fun K "_law_bag" "_law_bag" st__law_bag f fd) : SF P w K cl mg base 2 f fd ["_law_script"] F__law_bag := by
  refine sf_mk F_ sc__law_bag rfl rfl fun cdv A outer s H E hr => ?_
  have hu := hu64 hr
  have hu5 := hu65 hr
  have tk : Takes (cxOf (L2.CX P w) P w K mg base N__law_bag "_law_bag" (defScope st__law_bag) f cdv A outer s H E) (fun cls d _ H => E cls d H) := takes_of rfl rfl rfl rfl
  have hx : Passes (L2.CX P w) (cxOf (L2.CX P w) P w K mg base N__law_bag "_law_bag" (defScope st__law_bag) f cdv A outer s H E) E := passes_call tk fun _ _ _ _ h => h
  have hpo := passes_of (X := (cxOf (L2.CX P w) P w K mg base N__law_bag "_law_bag" (defScope st__law_bag) f cdv A outer s H E)) rfl
  exact (sb_cons (ss_setLc (i := 1) (own := [("_law_cell", 3)]) rfl (sc__law_bag).nd rfl rfl (sw_true rfl rfl rfl (by decide +kernel)) (si_seq (se_slice (se_var (pv 0)) so_none (so_some se_int))) (blkOk_by (own := [("_law_cell", 3)]) (N := N__law_bag) (sc := defScope st__law_bag) (by decide +kernel)) (fun _ _ _ _ _ => (sg_name (pg_name (i := 3) (sc__law_bag).nd rfl (by first | exact Or.inl rfl | exact Or.inr rfl)))) (fun _ _ _ _ _ => sts_nil) (fun _ _ _ _ _ => (se_intC rfl B.b_int (sa_cons (se_var (pv 3)) sa_nil))))
  (sb_cons (ss_set (i := 2) (sc__law_bag).nd rfl (by first | exact Or.inl rfl | exact Or.inr rfl) (se_op op_addA gr_add se_int (se_op op_mulA gr_mul se_int (se_len rfl B.b_len (sa_cons (se_var (pv 1)) sa_nil)))))
  (sb_cons (ss_for hpo rfl (si_seq (se_var (pv 1))) (sg_name (pg_name (i := 3) (sc__law_bag).nd rfl (by first | exact Or.inl rfl | exact Or.inr rfl))) (sb_one (ss_set (i := 2) (sc__law_bag).nd rfl (by first | exact Or.inl rfl | exact Or.inr rfl) (se_op op_mod gr_mod (se_intC rfl B.b_int (sa_cons (se_op op_addA gr_add (se_op op_mulA gr_mul (se_var (pv 2)) se_int) (se_var (pv 3))) sa_nil)) se_int))))
  (sb_one (ss_ret (se_lstM (sa_cons (se_var (pv 1)) (sa_cons se_int (sa_cons se_int (sa_cons (se_var (pv 2)) sa_nil))))))))))
/-! ### _law_draw -/
abbrev st__law_draw : Stmt := (top 46)
def N__law_draw : List Str := ["_law_bag_here", "_law_many", "_law_cell", "_law_first", "_law_second", "_law_digit"]
theorem sc__law_draw : FnScope N__law_draw ["_law_bag_here", "_law_many"] (defScope st__law_draw) := ⟨rfl, rfl, rfl, by decide +kernel, rfl, by decide +kernel, by decide +kernel⟩
theorem ok__law_draw (B : Bl mg) (C : Cn K mg) (L : Lf K cl)    {f : Addr} {fd : FuncData} (F_ : Fun K "_law_draw" "_law_draw" st__law_draw f fd) : SF P w K cl mg base 2 f fd ["_law_bag_here", "_law_many"] F__law_draw := by
  refine sf_mk F_ sc__law_draw rfl rfl fun cdv A outer s H E hr => ?_
  have hu := hu64 hr
  have hu5 := hu65 hr
  have tk : Takes (cxOf (L2.CX P w) P w K mg base N__law_draw "_law_draw" (defScope st__law_draw) f cdv A outer s H E) (fun cls d _ H => E cls d H) := takes_of rfl rfl rfl rfl
  have hx : Passes (L2.CX P w) (cxOf (L2.CX P w) P w K mg base N__law_draw "_law_draw" (defScope st__law_draw) f cdv A outer s H E) E := passes_call tk fun _ _ _ _ h => h
  have hpo := passes_of (X := (cxOf (L2.CX P w) P w K mg base N__law_draw "_law_draw" (defScope st__law_draw) f cdv A outer s H E)) rfl
  exact (sb_cons (ss_if (st_cmp op_lt gr_lt (se_ix (se_var (pv 0)) se_int (fun _ _ => rfl)) se_int (nomark _)) (sb_cons (ss_setI (se_op op_addA gr_add (se_ix (se_var (pv 0)) se_int (fun _ _ => rfl)) se_int) (se_var (pv 0)) se_int)
  (sb_cons (ss_set (i := 2) (sc__law_draw).nd rfl (by first | exact Or.inl rfl | exact Or.inr rfl) (se_op op_addA gr_add (se_ix (se_var (pv 0)) se_int (fun _ _ => rfl)) (se_op op_mulA gr_mul (se_ix (se_var (pv 0)) se_int (fun _ _ => rfl)) se_int)))
  (sb_cons (ss_if (st_cmp op_le gr_le (se_ix (se_var (pv 0)) se_int (fun _ _ => rfl)) (se_len rfl B.b_len (sa_cons (se_ix (se_var (pv 0)) se_int (fun _ _ => rfl)) sa_nil)) (nomark _)) (sb_one (ss_set (i := 2) (sc__law_draw).nd rfl (by first | exact Or.inl rfl | exact Or.inr rfl) (se_ix (se_ix (se_var (pv 0)) se_int (fun _ _ => rfl)) (se_op op_sub gr_sub (se_ix (se_var (pv 0)) se_int (fun _ _ => rfl)) se_int) (fun _ _ => rfl)))) sb_nil)
  (sb_cons (ss_if (st_of (sw_or (st_cmp op_gt gr_gt (se_ix (se_var (pv 0)) se_int (fun _ _ => rfl)) (se_len rfl B.b_len (sa_cons (se_ix (se_var (pv 0)) se_int (fun _ _ => rfl)) sa_nil)) (nomark _)) (sw_or1 (st_cmp op_lt gr_lt (se_var (pv 2)) (se_op op_pow gr_pow se_int se_int) (nomark _))))) (sb_cons (ss_set (i := 3) (sc__law_draw).nd rfl (by first | exact Or.inl rfl | exact Or.inr rfl) (se_op op_mod gr_mod (se_intC rfl B.b_int (sa_cons (se_op op_addA gr_add (se_op op_addA gr_add (se_op op_mulA gr_mul (se_var (pv 2)) se_int) (se_op op_mulA gr_mul (se_ix (se_var (pv 0)) se_int (fun _ _ => rfl)) se_int)) (se_ix (se_var (pv 0)) se_int (fun _ _ => rfl))) sa_nil)) se_int))
  (sb_cons (ss_set (i := 4) (sc__law_draw).nd rfl (by first | exact Or.inl rfl | exact Or.inr rfl) (se_op op_mod gr_mod (se_intC rfl B.b_int (sa_cons (se_op op_addA gr_add (se_op op_mulA gr_mul (se_var (pv 3)) (se_var (pv 3))) (se_op op_mulA gr_mul (se_ix (se_var (pv 0)) se_int (fun _ _ => rfl)) se_int)) sa_nil)) se_int))
  (sb_one (ss_ret (se_op op_mod gr_mod (se_op op_fdivW gr_div (se_op op_mod gr_mod (se_intC rfl B.b_int (sa_cons (se_op op_addA gr_add (se_op op_mulA gr_mul (se_var (pv 4)) se_int) (se_var (pv 3))) sa_nil)) se_int) se_int) (se_var (pv 1))))))) sb_nil)
  (sb_one (ss_setI (se_var (pv 2)) (se_var (pv 0)) se_int)))))) sb_nil)
  (sb_cons (ss_set (i := 5) (sc__law_draw).nd rfl (by first | exact Or.inl rfl | exact Or.inr rfl) (se_op op_mod gr_mod (se_intC rfl B.b_int (sa_cons (se_ix (se_var (pv 0)) se_int (fun _ _ => rfl)) sa_nil)) (se_var (pv 1))))
  (sb_cons (ss_setI (se_op op_fdivW gr_div (se_intC rfl B.b_int (sa_cons (se_ix (se_var (pv 0)) se_int (fun _ _ => rfl)) sa_nil)) (se_var (pv 1))) (se_var (pv 0)) se_int)
  (sb_one (ss_ret (se_var (pv 5)))))))
/-! ### _law_same -/
abbrev st__law_same : Stmt := (top 49)
def N__law_same : List Str := ["_law_found", "_law_due", "_law_one", "_law_two"]
theorem sc__law_same : FnScope N__law_same ["_law_found", "_law_due"] (defScope st__law_same) := ⟨rfl, rfl, rfl, by decide +kernel, rfl, by decide +kernel, by decide +kernel⟩
theorem ok__law_same (B : Bl mg) (C : Cn K mg) (L : Lf K cl)    {f : Addr} {fd : FuncData} {k : Nat} (F_ : Fun K "_law_same" "_law_same" st__law_same f fd) (g__law_same : mg "_law_same" = some (.ref f)) (b_ : Binds K fd ["_law_found", "_law_due"] []) {G__law_same : List D → Wd → R D} (h__law_same : SF P w K cl mg base k f fd ["_law_found", "_law_due"] G__law_same) : SF P w K cl mg base (k + 1) f fd ["_law_found", "_law_due"] (F__law_same G__law_same) := by
  refine sf_mk F_ sc__law_same rfl rfl fun cdv A outer s H E hr => ?_
  have hu := hu64 hr
  have hu5 := hu65 hr
  have tk : Takes (cxOf (L2.CX P w) P w K mg base N__law_same "_law_same" (defScope st__law_same) f cdv A outer s H E) (fun cls d _ H => E cls d H) := takes_of rfl rfl rfl rfl
  have hx : Passes (L2.CX P w) (cxOf (L2.CX P w) P w K mg base N__law_same "_law_same" (defScope st__law_same) f cdv A outer s H E) E := passes_call tk fun _ _ _ _ h => h
  have hpo := passes_of (X := (cxOf (L2.CX P w) P w K mg base N__law_same "_law_same" (defScope st__law_same) f cdv A outer s H E)) rfl
  exact (sb_cons (ss_if (st_cmp op_isN gr_isN (se_var (pv 1)) se_non (nomark _)) (sb_one (ss_ret (se_cmp op_isN gr_isN (se_var (pv 0)) se_non (nomark _)))) sb_nil)
  (sb_cons (ss_if (st_of (sw_or (st_truth (se_isi (T' := "bool") (se_var (pv 1)) rfl B.b_isinstance rfl B.b_bool (by decide +kernel) (by decide)) (fun _ => rfl)) (sw_or1 (st_truth (se_isi (T' := "bool") (se_var (pv 0)) rfl B.b_isinstance rfl B.b_bool (by decide +kernel) (by decide)) (fun _ => rfl))))) (sb_one (ss_ret (se_and (se_isi (T' := "bool") (se_var (pv 1)) rfl B.b_isinstance rfl B.b_bool (by decide +kernel) (by decide)) (se_and (se_isi (T' := "bool") (se_var (pv 0)) rfl B.b_isinstance rfl B.b_bool (by decide +kernel) (by decide)) (se_one (se_cmp (op_eqA hu) gr_eq (se_var (pv 0)) (se_var (pv 1)) (nomark _))))))) sb_nil)
  (sb_cons (ss_if (st_truth (se_isi2 (T' := "int") (U' := "str") (se_var (pv 1)) rfl B.b_isinstance rfl B.b_int (by decide +kernel) (by decide) rfl B.b_str (by decide +kernel) (by decide)) (fun _ => rfl)) (sb_one (ss_ret (se_and (se_isi2 (T' := "int") (U' := "str") (se_var (pv 0)) rfl B.b_isinstance rfl B.b_int (by decide +kernel) (by decide) rfl B.b_str (by decide +kernel) (by decide)) (se_and (se_cmp (op_eqA hu) gr_eq (se_isi (T' := "int") (se_var (pv 0)) rfl B.b_isinstance rfl B.b_int (by decide +kernel) (by decide)) (se_isi (T' := "int") (se_var (pv 1)) rfl B.b_isinstance rfl B.b_int (by decide +kernel) (by decide)) (nomark _)) (se_one (se_cmp (op_eqA hu) gr_eq (se_var (pv 0)) (se_var (pv 1)) (nomark _))))))) sb_nil)
  (sb_cons (ss_if (st_of (sw_or (st_cmp (op_neA hu) gr_ne (se_isi (T' := "list") (se_var (pv 1)) rfl B.b_isinstance rfl B.b_list (by decide +kernel) (by decide)) (se_isi (T' := "list") (se_var (pv 0)) rfl B.b_isinstance rfl B.b_list (by decide +kernel) (by decide)) (nomark _)) (sw_or1 (st_cmp (op_neA hu) gr_ne (se_isi (T' := "tuple") (se_var (pv 1)) rfl B.b_isinstance rfl B.b_tuple (by decide +kernel) (by decide)) (se_isi (T' := "tuple") (se_var (pv 0)) rfl B.b_isinstance rfl B.b_tuple (by decide +kernel) (by decide)) (nomark _))))) (sb_one (ss_ret se_bl)) sb_nil)
  (sb_cons (ss_if (st_not (st_truth (se_isi2 (T' := "list") (U' := "tuple") (se_var (pv 0)) rfl B.b_isinstance rfl B.b_list (by decide +kernel) (by decide) rfl B.b_tuple (by decide +kernel) (by decide)) (fun _ => rfl))) (sb_one (ss_ret se_bl)) sb_nil)
  (sb_one (ss_ret (se_and (se_cmp (op_eqA hu) gr_eq (se_len rfl B.b_len (sa_cons (se_var (pv 0)) sa_nil)) (se_len rfl B.b_len (sa_cons (se_var (pv 1)) sa_nil)) (nomark _)) (se_one (se_all rfl rfl B.b_all (sa_cons (se_lc (own := [("_law_one", 2), ("_law_two", 3)]) rfl (sc__law_same).nd (si_zip rfl B.b_zip (sa_cons (se_var (pv 0)) (sa_cons (se_var (pv 1)) sa_nil))) (blkOk_by (own := [("_law_one", 2), ("_law_two", 3)]) (N := N__law_same) (sc := defScope st__law_same) (by decide +kernel)) (fun _ _ _ _ _ => (sg_tup rfl (sgs_cons (sg_name (pg_name (i := 2) (sc__law_same).nd rfl (by first | exact Or.inl rfl | exact Or.inr rfl))) (sgs_cons (sg_name (pg_name (i := 3) (sc__law_same).nd rfl (by first | exact Or.inl rfl | exact Or.inr rfl))) sgs_nil)))) (fun _ _ _ _ _ => sts_nil) (fun _ _ _ _ _ => (se_fn h__law_same hr rfl g__law_same F_.kp b_ passL (sa_cons (se_var (pv 2)) (sa_cons (se_var (pv 3)) sa_nil))))) sa_nil)))))))))))
/-! ### _law_of -/
abbrev st__law_of : Stmt := (top 47)
def N__law_of : List Str := ["_law_bag_here", "_law_some"]
theorem sc__law_of : FnScope N__law_of ["_law_bag_here", "_law_some"] (defScope st__law_of) := ⟨rfl, rfl, rfl, by decide +kernel, rfl, by decide +kernel, by decide +kernel⟩
theorem ok__law_of (B : Bl mg) (C : Cn K mg) (L : Lf K cl)  {f__law_draw : Addr} {fd__law_draw : FuncData} (h__law_draw : At P w K cl mg base 2 "_law_draw" st__law_draw ["_law_bag_here", "_law_many"] f__law_draw fd__law_draw G__law_draw)  {f : Addr} {fd : FuncData} (F_ : Fun K "_law_of" "_law_of" st__law_of f fd) : SF P w K cl mg base 4 f fd ["_law_bag_here", "_law_some"] F__law_of := by
  refine sf_mk F_ sc__law_of rfl rfl fun cdv A outer s H E hr => ?_
  have hu := hu64 hr
  have hu5 := hu65 hr
  have tk : Takes (cxOf (L2.CX P w) P w K mg base N__law_of "_law_of" (defScope st__law_of) f cdv A outer s H E) (fun cls d _ H => E cls d H) := takes_of rfl rfl rfl rfl
  have hx : Passes (L2.CX P w) (cxOf (L2.CX P w) P w K mg base N__law_of "_law_of" (defScope st__law_of) f cdv A outer s H E) E := passes_call tk fun _ _ _ _ h => h
  have hpo := passes_of (X := (cxOf (L2.CX P w) P w K mg base N__law_of "_law_of" (defScope st__law_of) f cdv A outer s H E)) rfl
  exact (sb_one (ss_ret (se_ix (se_var (pv 1)) (se_fn h__law_draw.ok (hr.mono (by decide)) rfl h__law_draw.g h__law_draw.F.kp h__law_draw.b hx (sa_cons (se_var (pv 0)) (sa_cons (se_len rfl B.b_len (sa_cons (se_var (pv 1)) sa_nil)) sa_nil))) (fun _ _ => rfl))))
/-! ### _law_mixed -/
abbrev st__law_mixed : Stmt := (top 48)
def N__law_mixed : List Str := ["_law_bag_here", "_law_some", "_law_left", "_law_found"]
theorem sc__law_mixed : FnScope N__law_mixed ["_law_bag_here", "_law_some"] (defScope st__law_mixed) := ⟨rfl, rfl, rfl, by decide +kernel, rfl, by decide +kernel, by decide +kernel⟩
theorem ok__law_mixed (B : Bl mg) (C : Cn K mg) (L : Lf K cl)  {f__law_draw : Addr} {fd__law_draw : FuncData} (h__law_draw : At P w K cl mg base 2 "_law_draw" st__law_draw ["_law_bag_here", "_law_many"] f__law_draw fd__law_draw G__law_draw)  {f : Addr} {fd : FuncData} (F_ : Fun K "_law_mixed" "_law_mixed" st__law_mixed f fd) : SF P w K cl mg base 4 f fd ["_law_bag_here", "_law_some"] F__law_mixed := by
  refine sf_mk F_ sc__law_mixed rfl rfl fun cdv A outer s H E hr => ?_
  have hu := hu64 hr
  have hu5 := hu65 hr
  have tk : Takes (cxOf (L2.CX P w) P w K mg base N__law_mixed "_law_mixed" (defScope st__law_mixed) f cdv A outer s H E) (fun cls d _ H => E cls d H) := takes_of rfl rfl rfl rfl
  have hx : Passes (L2.CX P w) (cxOf (L2.CX P w) P w K mg base N__law_mixed "_law_mixed" (defScope st__law_mixed) f cdv A outer s H E) E := passes_call tk fun _ _ _ _ h => h
  have hpo := passes_of (X := (cxOf (L2.CX P w) P w K mg base N__law_mixed "_law_mixed" (defScope st__law_mixed) f cdv A outer s H E)) rfl
  exact (sb_cons (ss_par (i := 2) (j := 3) rfl (sc__law_mixed).nd rfl rfl (by decide) rfl rfl (sa_cons (se_listCM rfl B.b_list (sa_cons (se_var (pv 1)) sa_nil)) (sa_cons (se_lstM sa_nil) sa_nil)) (by rfl))
  (sb_cons (ss_while fuel__law_mixed hpo (st_cmp (op_neA hu) gr_ne (se_var (pv 2)) (se_lst sa_nil) (nomark _)) (sb_one (ss_expr (se_append (se_var (pv 3)) (se_popAt (se_var (pv 2)) (se_fn h__law_draw.ok (hr.mono (by decide)) rfl h__law_draw.g h__law_draw.F.kp h__law_draw.b hx (sa_cons (se_var (pv 0)) (sa_cons (se_len rfl B.b_len (sa_cons (se_var (pv 2)) sa_nil)) sa_nil))))))))
  (sb_one (ss_retF (se_var (pv 3))))))
/-! ### _law_ages -/
abbrev st__law_ages : Stmt := (top 51)
def N__law_ages : List Str := ["_law_bag_here"]
theorem sc__law_ages : FnScope N__law_ages ["_law_bag_here"] (defScope st__law_ages) := ⟨rfl, rfl, rfl, by decide +kernel, rfl, by decide +kernel, by decide +kernel⟩
theorem ok__law_ages (B : Bl mg) (C : Cn K mg) (L : Lf K cl)  {f__law_draw : Addr} {fd__law_draw : FuncData} (h__law_draw : At P w K cl mg base 2 "_law_draw" st__law_draw ["_law_bag_here", "_law_many"] f__law_draw fd__law_draw G__law_draw) {f__law_of : Addr} {fd__law_of : FuncData} (h__law_of : At P w K cl mg base 4 "_law_of" st__law_of ["_law_bag_here", "_law_some"] f__law_of fd__law_of G__law_of)  {f : Addr} {fd : FuncData} (F_ : Fun K "_law_ages" "_law_ages" st__law_ages f fd) : SF P w K cl mg base 6 f fd ["_law_bag_here"] F__law_ages := by
  refine sf_mk F_ sc__law_ages rfl rfl fun cdv A outer s H E hr => ?_
  have hu := hu64 hr
  have hu5 := hu65 hr
  have tk : Takes (cxOf (L2.CX P w) P w K mg base N__law_ages "_law_ages" (defScope st__law_ages) f cdv A outer s H E) (fun cls d _ H => E cls d H) := takes_of rfl rfl rfl rfl
  have hx : Passes (L2.CX P w) (cxOf (L2.CX P w) P w K mg base N__law_ages "_law_ages" (defScope st__law_ages) f cdv A outer s H E) E := passes_call tk fun _ _ _ _ h => h
  have hpo := passes_of (X := (cxOf (L2.CX P w) P w K mg base N__law_ages "_law_ages" (defScope st__law_ages) f cdv A outer s H E)) rfl
  exact (sb_one (ss_ret (se_fn h__law_of.ok (hr.mono (by decide)) rfl h__law_of.g h__law_of.F.kp h__law_of.b hx (sa_cons (se_var (pv 0)) (sa_cons (se_lst (sa_cons (se_tup sa_nil) (sa_cons (se_tup sa_nil) (sa_cons (se_tup sa_nil) (sa_cons (se_tup (sa_cons (se_tup (sa_cons se_str (sa_cons (se_fn h__law_draw.ok (hr.mono (by decide)) rfl h__law_draw.g h__law_draw.F.kp h__law_draw.b hx (sa_cons (se_var (pv 0)) (sa_cons se_int sa_nil))) sa_nil))) sa_nil)) (sa_cons (se_tup (sa_cons (se_tup (sa_cons se_str (sa_cons (se_fn h__law_draw.ok (hr.mono (by decide)) rfl h__law_draw.g h__law_draw.F.kp h__law_draw.b hx (sa_cons (se_var (pv 0)) (sa_cons se_int sa_nil))) sa_nil))) sa_nil)) sa_nil)))))) sa_nil)))))
/-! ### _law_chosen -/
abbrev st__law_chosen : Stmt := (top 52)
def N__law_chosen : List Str := ["_law_bag_here", "_law_some", "_law_share", "_law_digits", "_law_one", "_law_digit"]
theorem sc__law_chosen : FnScope N__law_chosen ["_law_bag_here", "_law_some", "_law_share"] (defScope st__law_chosen) := ⟨rfl, rfl, rfl, by decide +kernel, rfl, by decide +kernel, by decide +kernel⟩
theorem ok__law_chosen (B : Bl mg) (C : Cn K mg) (L : Lf K cl)  {f__law_draw : Addr} {fd__law_draw : FuncData} (h__law_draw : At P w K cl mg base 2 "_law_draw" st__law_draw ["_law_bag_here", "_law_many"] f__law_draw fd__law_draw G__law_draw)  {f : Addr} {fd : FuncData} (F_ : Fun K "_law_chosen" "_law_chosen" st__law_chosen f fd) : SF P w K cl mg base 4 f fd ["_law_bag_here", "_law_some", "_law_share"] F__law_chosen := by
  refine sf_mk F_ sc__law_chosen rfl rfl fun cdv A outer s H E hr => ?_
  have hu := hu64 hr
  have hu5 := hu65 hr
  have tk : Takes (cxOf (L2.CX P w) P w K mg base N__law_chosen "_law_chosen" (defScope st__law_chosen) f cdv A outer s H E) (fun cls d _ H => E cls d H) := takes_of rfl rfl rfl rfl
  have hx : Passes (L2.CX P w) (cxOf (L2.CX P w) P w K mg base N__law_chosen "_law_chosen" (defScope st__law_chosen) f cdv A outer s H E) E := passes_call tk fun _ _ _ _ h => h
  have hpo := passes_of (X := (cxOf (L2.CX P w) P w K mg base N__law_chosen "_law_chosen" (defScope st__law_chosen) f cdv A outer s H E)) rfl
  exact (sb_cons (ss_setLc (i := 3) (own := [("_law_one", 4)]) rfl (sc__law_chosen).nd rfl rfl (sw_true rfl rfl rfl (by decide +kernel)) (si_seq (se_var (pv 1))) (blkOk_by (own := [("_law_one", 4)]) (N := N__law_chosen) (sc := defScope st__law_chosen) (by decide +kernel)) (fun _ _ _ _ _ => (sg_name (pg_name (i := 4) (sc__law_chosen).nd rfl (by first | exact Or.inl rfl | exact Or.inr rfl)))) (fun _ _ _ _ _ => sts_nil) (fun _ _ _ _ _ => (se_fn h__law_draw.ok (hr.mono (by decide)) rfl h__law_draw.g h__law_draw.F.kp h__law_draw.b passL (sa_cons (se_var (pv 0)) (sa_cons (se_var (pv 2)) sa_nil)))))
  (sb_one (ss_ret (se_lc (own := [("_law_one", 4), ("_law_digit", 5)]) rfl (sc__law_chosen).nd (si_zip rfl B.b_zip (sa_cons (se_var (pv 1)) (sa_cons (se_var (pv 3)) sa_nil))) (blkOk_by (own := [("_law_one", 4), ("_law_digit", 5)]) (N := N__law_chosen) (sc := defScope st__law_chosen) (by decide +kernel)) (fun _ _ _ _ _ => (sg_tup rfl (sgs_cons (sg_name (pg_name (i := 4) (sc__law_chosen).nd rfl (by first | exact Or.inl rfl | exact Or.inr rfl))) (sgs_cons (sg_name (pg_name (i := 5) (sc__law_chosen).nd rfl (by first | exact Or.inl rfl | exact Or.inr rfl))) sgs_nil)))) (fun _ _ _ _ _ => (sts_one (st_cmp (op_eqA hu) gr_eq (se_var (pv 5)) se_int (nomark _)))) (fun _ _ _ _ _ => (se_var (pv 4)))))))
/-! ### _law_drawn_tests -/
abbrev st__law_drawn_tests : Stmt := (top 53)
def N__law_drawn_tests : List Str := ["_law_bag_here", "_law_spec", "_law_found", "_law_mark"]
theorem sc__law_drawn_tests : FnScope N__law_drawn_tests ["_law_bag_here", "_law_spec"] (defScope st__law_drawn_tests) := ⟨rfl, rfl, rfl, by decide +kernel, rfl, by decide +kernel, by decide +kernel⟩
theorem ok__law_drawn_tests (B : Bl mg) (C : Cn K mg) (L : Lf K cl)  {f__law_draw : Addr} {fd__law_draw : FuncData} (h__law_draw : At P w K cl mg base 2 "_law_draw" st__law_draw ["_law_bag_here", "_law_many"] f__law_draw fd__law_draw G__law_draw) {f__law_chosen : Addr} {fd__law_chosen : FuncData} (h__law_chosen : At P w K cl mg base 4 "_law_chosen" st__law_chosen ["_law_bag_here", "_law_some", "_law_share"] f__law_chosen fd__law_chosen G__law_chosen) {f__law_ages : Addr} {fd__law_ages : FuncData} (h__law_ages : At P w K cl mg base 6 "_law_ages" st__law_ages ["_law_bag_here"] f__law_ages fd__law_ages G__law_ages) {f__law_mixed : Addr} {fd__law_mixed : FuncData} (h__law_mixed : At P w K cl mg base 4 "_law_mixed" st__law_mixed ["_law_bag_here", "_law_some"] f__law_mixed fd__law_mixed G__law_mixed)  {f : Addr} {fd : FuncData} (F_ : Fun K "_law_drawn_tests" "_law_drawn_tests" st__law_drawn_tests f fd) : SF P w K cl mg base 8 f fd ["_law_bag_here", "_law_spec"] F__law_drawn_tests := by
  refine sf_mk F_ sc__law_drawn_tests rfl rfl fun cdv A outer s H E hr => ?_
  have hu := hu64 hr
  have hu5 := hu65 hr
  have tk : Takes (cxOf (L2.CX P w) P w K mg base N__law_drawn_tests "_law_drawn_tests" (defScope st__law_drawn_tests) f cdv A outer s H E) (fun cls d _ H => E cls d H) := takes_of rfl rfl rfl rfl
  have hx : Passes (L2.CX P w) (cxOf (L2.CX P w) P w K mg base N__law_drawn_tests "_law_drawn_tests" (defScope st__law_drawn_tests) f cdv A outer s H E) E := passes_call tk fun _ _ _ _ h => h
  have hpo := passes_of (X := (cxOf (L2.CX P w) P w K mg base N__law_drawn_tests "_law_drawn_tests" (defScope st__law_drawn_tests) f cdv A outer s H E)) rfl
  exact (sb_cons (ss_set (i := 2) (sc__law_drawn_tests).nd rfl (by first | exact Or.inl rfl | exact Or.inr rfl) (se_fn h__law_chosen.ok (hr.mono (by decide)) rfl h__law_chosen.g h__law_chosen.F.kp h__law_chosen.b hx (sa_cons (se_var (pv 0)) (sa_cons (se_lc (own := [("_law_mark", 3)]) rfl (sc__law_drawn_tests).nd (si_seq (se_dget hu (se_var (pv 1)) se_str (fun _ _ => rfl))) (blkOk_by (own := [("_law_mark", 3)]) (N := N__law_drawn_tests) (sc := defScope st__law_drawn_tests) (by decide +kernel)) (fun _ _ _ _ _ => (sg_name (pg_name (i := 3) (sc__law_drawn_tests).nd rfl (by first | exact Or.inl rfl | exact Or.inr rfl)))) (fun _ _ _ _ _ => sts_nil) (fun _ _ _ _ _ => (se_tup (sa_cons (se_var (pv 3)) (sa_cons (se_fn h__law_draw.ok (hr.mono (by decide)) rfl h__law_draw.g h__law_draw.F.kp h__law_draw.b passL (sa_cons (se_var (pv 0)) (sa_cons se_int sa_nil))) sa_nil))))) (sa_cons se_int sa_nil)))))
  (sb_one (ss_ret (se_tupleC rfl B.b_tuple (sa_cons (se_fn h__law_mixed.ok (hr.mono (by decide)) rfl h__law_mixed.g h__law_mixed.F.kp h__law_mixed.b hx (sa_cons (se_var (pv 0)) (sa_cons (se_op op_addA gr_add (se_var (pv 2)) (se_listC rfl B.b_list (sa_cons (se_fn h__law_ages.ok (hr.mono (by decide)) rfl h__law_ages.g h__law_ages.F.kp h__law_ages.b hx (sa_cons (se_var (pv 0)) sa_nil)) sa_nil))) sa_nil))) sa_nil)))))
/-! ### _law_settings -/
abbrev st__law_settings : Stmt := (top 54)
def N__law_settings : List Str := ["_law_bag_here", "_law_spec", "_law_mark"]
theorem sc__law_settings : FnScope N__law_settings ["_law_bag_here", "_law_spec"] (defScope st__law_settings) := ⟨rfl, rfl, rfl, by decide +kernel, rfl, by decide +kernel, by decide +kernel⟩
theorem ok__law_settings (B : Bl mg) (C : Cn K mg) (L : Lf K cl)  {f__law_draw : Addr} {fd__law_draw : FuncData} (h__law_draw : At P w K cl mg base 2 "_law_draw" st__law_draw ["_law_bag_here", "_law_many"] f__law_draw fd__law_draw G__law_draw) {f__law_chosen : Addr} {fd__law_chosen : FuncData} (h__law_chosen : At P w K cl mg base 4 "_law_chosen" st__law_chosen ["_law_bag_here", "_law_some", "_law_share"] f__law_chosen fd__law_chosen G__law_chosen)  {f : Addr} {fd : FuncData} (F_ : Fun K "_law_settings" "_law_settings" st__law_settings f fd) : SF P w K cl mg base 6 f fd ["_law_bag_here", "_law_spec"] F__law_settings := by
  refine sf_mk F_ sc__law_settings rfl rfl fun cdv A outer s H E hr => ?_
  have hu := hu64 hr
  have hu5 := hu65 hr
  have tk : Takes (cxOf (L2.CX P w) P w K mg base N__law_settings "_law_settings" (defScope st__law_settings) f cdv A outer s H E) (fun cls d _ H => E cls d H) := takes_of rfl rfl rfl rfl
  have hx : Passes (L2.CX P w) (cxOf (L2.CX P w) P w K mg base N__law_settings "_law_settings" (defScope st__law_settings) f cdv A outer s H E) E := passes_call tk fun _ _ _ _ h => h
  have hpo := passes_of (X := (cxOf (L2.CX P w) P w K mg base N__law_settings "_law_settings" (defScope st__law_settings) f cdv A outer s H E)) rfl
  exact (sb_one (ss_ret (se_tupleC rfl B.b_tuple (sa_cons (se_fn h__law_chosen.ok (hr.mono (by decide)) rfl h__law_chosen.g h__law_chosen.F.kp h__law_chosen.b hx (sa_cons (se_var (pv 0)) (sa_cons (se_lc (own := [("_law_mark", 2)]) rfl (sc__law_settings).nd (si_seq (se_dget hu (se_var (pv 1)) se_str (fun _ _ => rfl))) (blkOk_by (own := [("_law_mark", 2)]) (N := N__law_settings) (sc := defScope st__law_settings) (by decide +kernel)) (fun _ _ _ _ _ => (sg_name (pg_name (i := 2) (sc__law_settings).nd rfl (by first | exact Or.inl rfl | exact Or.inr rfl)))) (fun _ _ _ _ _ => sts_nil) (fun _ _ _ _ _ => (se_tup (sa_cons (se_var (pv 2)) (sa_cons (se_fn h__law_draw.ok (hr.mono (by decide)) rfl h__law_draw.g h__law_draw.F.kp h__law_draw.b passL (sa_cons (se_var (pv 0)) (sa_cons se_int sa_nil))) sa_nil))))) (sa_cons se_int sa_nil)))) sa_nil))))
/-! ### _law_pairs -/
abbrev st__law_pairs : Stmt := (top 56)
def N__law_pairs : List Str := ["_law_spec", "_law_found", "_law_target", "_law_place", "_law_source", "_law_other"]
theorem sc__law_pairs : FnScope N__law_pairs ["_law_spec"] (defScope st__law_pairs) := ⟨rfl, rfl, rfl, by decide +kernel, rfl, by decide +kernel, by decide +kernel⟩
theorem ok__law_pairs (B : Bl mg) (C : Cn K mg) (L : Lf K cl)    {f : Addr} {fd : FuncData} (F_ : Fun K "_law_pairs" "_law_pairs" st__law_pairs f fd) : SF P w K cl mg base 2 f fd ["_law_spec"] F__law_pairs := by
  refine sf_mk F_ sc__law_pairs rfl rfl fun cdv A outer s H E hr => ?_
  have hu := hu64 hr
  have hu5 := hu65 hr
  have tk : Takes (cxOf (L2.CX P w) P w K mg base N__law_pairs "_law_pairs" (defScope st__law_pairs) f cdv A outer s H E) (fun cls d _ H => E cls d H) := takes_of rfl rfl rfl rfl
  have hx : Passes (L2.CX P w) (cxOf (L2.CX P w) P w K mg base N__law_pairs "_law_pairs" (defScope st__law_pairs) f cdv A outer s H E) E := passes_call tk fun _ _ _ _ h => h
  have hpo := passes_of (X := (cxOf (L2.CX P w) P w K mg base N__law_pairs "_law_pairs" (defScope st__law_pairs) f cdv A outer s H E)) rfl
  exact (sb_cons (ss_set (i := 1) (sc__law_pairs).nd rfl (by first | exact Or.inl rfl | exact Or.inr rfl) (se_lstM sa_nil))
  (sb_cons (ss_for hpo rfl (si_seq (se_dget hu (se_var (pv 0)) se_str (fun _ _ => rfl))) (sg_tup rfl (sgs_cons (sg_name (pg_name (i := 2) (sc__law_pairs).nd rfl (by first | exact Or.inl rfl | exact Or.inr rfl))) (sgs_cons (sg_name (pg_name (i := 3) (sc__law_pairs).nd rfl (by first | exact Or.inl rfl | exact Or.inr rfl))) sgs_nil))) (sb_one (ss_for hpo rfl (si_seq (se_dget hu (se_var (pv 0)) se_str (fun _ _ => rfl))) (sg_tup rfl (sgs_cons (sg_name (pg_name (i := 4) (sc__law_pairs).nd rfl (by first | exact Or.inl rfl | exact Or.inr rfl))) (sgs_cons (sg_name (pg_name (i := 5) (sc__law_pairs).nd rfl (by first | exact Or.inl rfl | exact Or.inr rfl))) sgs_nil))) (sb_one (ss_if (st_of (sw_and (st_cmp (op_neA hu) gr_ne (se_var (pv 2)) (se_var (pv 4)) (nomark _)) (sw_and1 (st_of (sw_or (st_cmp (op_eqA hu) gr_eq (se_var (pv 3)) se_str (nomark _)) (sw_or1 (st_cmp (op_eqA hu) gr_eq (se_var (pv 5)) se_str (nomark _)))))))) (sb_one (ss_expr (se_append (se_var (pv 1)) (se_tup (sa_cons (se_var (pv 2)) (sa_cons (se_var (pv 4)) sa_nil)))))) sb_nil)))))
  (sb_one (ss_retF (se_var (pv 1))))))
/-! ### _law_drawn_step -/
abbrev st__law_drawn_step : Stmt := (top 57)
def N__law_drawn_step : List Str := ["_law_bag_here", "_law_spec", "_law_pairs_here", "_law_way", "_law_target", "_law_source"]
theorem sc__law_drawn_step : FnScope N__law_drawn_step ["_law_bag_here", "_law_spec"] (defScope st__law_drawn_step) := ⟨rfl, rfl, rfl, by decide +kernel, rfl, by decide +kernel, by decide +kernel⟩
theorem ok__law_drawn_step (B : Bl mg) (C : Cn K mg) (L : Lf K cl)  {f__law_draw : Addr} {fd__law_draw : FuncData} (h__law_draw : At P w K cl mg base 2 "_law_draw" st__law_draw ["_law_bag_here", "_law_many"] f__law_draw fd__law_draw G__law_draw) {f__law_pairs : Addr} {fd__law_pairs : FuncData} (h__law_pairs : At P w K cl mg base 2 "_law_pairs" st__law_pairs ["_law_spec"] f__law_pairs fd__law_pairs G__law_pairs) {f__law_of : Addr} {fd__law_of : FuncData} (h__law_of : At P w K cl mg base 4 "_law_of" st__law_of ["_law_bag_here", "_law_some"] f__law_of fd__law_of G__law_of)  {f : Addr} {fd : FuncData} (F_ : Fun K "_law_drawn_step" "_law_drawn_step" st__law_drawn_step f fd) : SF P w K cl mg base 6 f fd ["_law_bag_here", "_law_spec"] F__law_drawn_step := by
  refine sf_mk F_ sc__law_drawn_step rfl rfl fun cdv A outer s H E hr => ?_
  have hu := hu64 hr
  have hu5 := hu65 hr
  have tk : Takes (cxOf (L2.CX P w) P w K mg base N__law_drawn_step "_law_drawn_step" (defScope st__law_drawn_step) f cdv A outer s H E) (fun cls d _ H => E cls d H) := takes_of rfl rfl rfl rfl
  have hx : Passes (L2.CX P w) (cxOf (L2.CX P w) P w K mg base N__law_drawn_step "_law_drawn_step" (defScope st__law_drawn_step) f cdv A outer s H E) E := passes_call tk fun _ _ _ _ h => h
  have hpo := passes_of (X := (cxOf (L2.CX P w) P w K mg base N__law_drawn_step "_law_drawn_step" (defScope st__law_drawn_step) f cdv A outer s H E)) rfl
  exact (sb_cons (ss_par (i := 2) (j := 3) rfl (sc__law_drawn_step).nd rfl rfl (by decide) rfl rfl (sa_cons (se_fn h__law_pairs.ok (hr.mono (by decide)) rfl h__law_pairs.g h__law_pairs.F.kp h__law_pairs.b hx (sa_cons (se_var (pv 1)) sa_nil)) (sa_cons (se_fn h__law_draw.ok (hr.mono (by decide)) rfl h__law_draw.g h__law_draw.F.kp h__law_draw.b hx (sa_cons (se_var (pv 0)) (sa_cons se_int sa_nil))) sa_nil)) (by rfl))
  (sb_cons (ss_if (st_of (sw_and (st_cmp op_lt gr_lt (se_var (pv 3)) se_int (nomark _)) (sw_and1 (st_cmp (op_neA hu) gr_ne (se_var (pv 2)) (se_lst sa_nil) (nomark _))))) (sb_cons (ss_asg (se_fn h__law_of.ok (hr.mono (by decide)) rfl h__law_of.g h__law_of.F.kp h__law_of.b hx (sa_cons (se_var (pv 0)) (sa_cons (se_var (pv 2)) sa_nil))) (sg_tup rfl (sgs_cons (sg_name (pg_name (i := 4) (sc__law_drawn_step).nd rfl (by first | exact Or.inl rfl | exact Or.inr rfl))) (sgs_cons (sg_name (pg_name (i := 5) (sc__law_drawn_step).nd rfl (by first | exact Or.inl rfl | exact Or.inr rfl))) sgs_nil))))
  (sb_one (ss_ret (se_tup (sa_cons (se_ix (se_lst (sa_cons se_str (sa_cons se_str (sa_cons se_str sa_nil)))) (se_var (pv 3)) (fun _ _ => rfl)) (sa_cons (se_var (pv 4)) (sa_cons (se_var (pv 5)) sa_nil))))))) sb_nil)
  (sb_cons (ss_if (st_of (sw_and (st_cmp (op_inA hu5) gr_in (se_var (pv 3)) (se_tup (sa_cons se_int (sa_cons se_int sa_nil))) (by rfl)) (sw_and1 (st_cmp (op_neA hu) gr_ne (se_dget hu (se_var (pv 1)) se_str (fun _ _ => rfl)) (se_lst sa_nil) (nomark _))))) (sb_one (ss_ret (se_tup (sa_cons se_str (sa_cons (se_fn h__law_of.ok (hr.mono (by decide)) rfl h__law_of.g h__law_of.F.kp h__law_of.b hx (sa_cons (se_var (pv 0)) (sa_cons (se_dget hu (se_var (pv 1)) se_str (fun _ _ => rfl)) sa_nil))) (sa_cons (se_fn h__law_draw.ok (hr.mono (by decide)) rfl h__law_draw.g h__law_draw.F.kp h__law_draw.b hx (sa_cons (se_var (pv 0)) (sa_cons se_int sa_nil))) sa_nil)))))) sb_nil)
  (sb_one (ss_ret (se_if (st_cmp (op_eqA hu) gr_eq (se_var (pv 3)) se_int (nomark _)) (se_tup (sa_cons se_str sa_nil)) (se_tup (sa_cons se_str (sa_cons (se_ix (se_fn h__law_of.ok (hr.mono (by decide)) rfl h__law_of.g h__law_of.F.kp h__law_of.b hx (sa_cons (se_var (pv 0)) (sa_cons (se_dget hu (se_var (pv 1)) se_str (fun _ _ => rfl)) sa_nil))) se_int (fun _ _ => rfl)) sa_nil)))))))))
/-! ### _law_drawn_job -/
abbrev st__law_drawn_job : Stmt := (top 58)
def N__law_drawn_job : List Str := ["_law_bag_here", "_law_spec", "_law_name", "_law_most", "_law_steps", "_law_k"]
theorem sc__law_drawn_job : FnScope N__law_drawn_job ["_law_bag_here", "_law_spec", "_law_name", "_law_most"] (defScope st__law_drawn_job) := ⟨rfl, rfl, rfl, by decide +kernel, rfl, by decide +kernel, by decide +kernel⟩
theorem ok__law_drawn_job (B : Bl mg) (C : Cn K mg) (L : Lf K cl)  {f__law_draw : Addr} {fd__law_draw : FuncData} (h__law_draw : At P w K cl mg base 2 "_law_draw" st__law_draw ["_law_bag_here", "_law_many"] f__law_draw fd__law_draw G__law_draw) {f__law_drawn_step : Addr} {fd__law_drawn_step : FuncData} (h__law_drawn_step : At P w K cl mg base 6 "_law_drawn_step" st__law_drawn_step ["_law_bag_here", "_law_spec"] f__law_drawn_step fd__law_drawn_step G__law_drawn_step) {f__law_of : Addr} {fd__law_of : FuncData} (h__law_of : At P w K cl mg base 4 "_law_of" st__law_of ["_law_bag_here", "_law_some"] f__law_of fd__law_of G__law_of) {f__law_drawn_tests : Addr} {fd__law_drawn_tests : FuncData} (h__law_drawn_tests : At P w K cl mg base 8 "_law_drawn_tests" st__law_drawn_tests ["_law_bag_here", "_law_spec"] f__law_drawn_tests fd__law_drawn_tests G__law_drawn_tests)  {f : Addr} {fd : FuncData} (F_ : Fun K "_law_drawn_job" "_law_drawn_job" st__law_drawn_job f fd) : SF P w K cl mg base 10 f fd ["_law_bag_here", "_law_spec", "_law_name", "_law_most"] F__law_drawn_job := by
  refine sf_mk F_ sc__law_drawn_job rfl rfl fun cdv A outer s H E hr => ?_
  have hu := hu64 hr
  have hu5 := hu65 hr
  have tk : Takes (cxOf (L2.CX P w) P w K mg base N__law_drawn_job "_law_drawn_job" (defScope st__law_drawn_job) f cdv A outer s H E) (fun cls d _ H => E cls d H) := takes_of rfl rfl rfl rfl
  have hx : Passes (L2.CX P w) (cxOf (L2.CX P w) P w K mg base N__law_drawn_job "_law_drawn_job" (defScope st__law_drawn_job) f cdv A outer s H E) E := passes_call tk fun _ _ _ _ h => h
  have hpo := passes_of (X := (cxOf (L2.CX P w) P w K mg base N__law_drawn_job "_law_drawn_job" (defScope st__law_drawn_job) f cdv A outer s H E)) rfl
  exact (sb_cons (ss_set (i := 4) (sc__law_drawn_job).nd rfl (by first | exact Or.inl rfl | exact Or.inr rfl) (se_tupleC rfl B.b_tuple (sa_cons (se_lc (own := [("_law_k", 5)]) rfl (sc__law_drawn_job).nd (si_rng1 rfl B.b_range (se_op op_addA gr_add se_int (se_fn h__law_draw.ok (hr.mono (by decide)) rfl h__law_draw.g h__law_draw.F.kp h__law_draw.b hx (sa_cons (se_var (pv 0)) (sa_cons (se_var (pv 3)) sa_nil))))) (blkOk_by (own := [("_law_k", 5)]) (N := N__law_drawn_job) (sc := defScope st__law_drawn_job) (by decide +kernel)) (fun _ _ _ _ _ => (sg_name (pg_name (i := 5) (sc__law_drawn_job).nd rfl (by first | exact Or.inl rfl | exact Or.inr rfl)))) (fun _ _ _ _ _ => sts_nil) (fun _ _ _ _ _ => (se_fn h__law_drawn_step.ok (hr.mono (by decide)) rfl h__law_drawn_step.g h__law_drawn_step.F.kp h__law_drawn_step.b passL (sa_cons (se_var (pv 0)) (sa_cons (se_var (pv 1)) sa_nil))))) sa_nil)))
  (sb_one (ss_ret (se_tup (sa_cons (se_var (pv 2)) (sa_cons (se_fn h__law_drawn_tests.ok (hr.mono (by decide)) rfl h__law_drawn_tests.g h__law_drawn_tests.F.kp h__law_drawn_tests.b hx (sa_cons (se_var (pv 0)) (sa_cons (se_var (pv 1)) sa_nil))) (sa_cons (se_fn h__law_of.ok (hr.mono (by decide)) rfl h__law_of.g h__law_of.F.kp h__law_of.b hx (sa_cons (se_var (pv 0)) (sa_cons (se_lst (sa_cons se_non (sa_cons se_int (sa_cons se_int (sa_cons se_int sa_nil))))) sa_nil))) (sa_cons (se_var (pv 4)) sa_nil))))))))
/-! ### _law_moves -/
abbrev st__law_moves : Stmt := (top 55)
def N__law_moves : List Str := ["_law_bag_here", "_law_spec", "_law_word_z", "_law_names_here", "_law_some", "_law_sign", "_law_signs", "_law_name", "_law_place", "_law_number"]
theorem sc__law_moves : FnScope N__law_moves ["_law_bag_here", "_law_spec", "_law_word_z"] (defScope st__law_moves) := ⟨rfl, rfl, rfl, by decide +kernel, rfl, by decide +kernel, by decide +kernel⟩
theorem ok__law_moves (B : Bl mg) (C : Cn K mg) (L : Lf K cl)  {f__law_mixed : Addr} {fd__law_mixed : FuncData} (h__law_mixed : At P w K cl mg base 4 "_law_mixed" st__law_mixed ["_law_bag_here", "_law_some"] f__law_mixed fd__law_mixed G__law_mixed) {f__law_draw : Addr} {fd__law_draw : FuncData} (h__law_draw : At P w K cl mg base 2 "_law_draw" st__law_draw ["_law_bag_here", "_law_many"] f__law_draw fd__law_draw G__law_draw)  {f : Addr} {fd : FuncData} (F_ : Fun K "_law_moves" "_law_moves" st__law_moves f fd) : SF P w K cl mg base 6 f fd ["_law_bag_here", "_law_spec", "_law_word_z"] F__law_moves := by
  refine sf_mk F_ sc__law_moves rfl rfl fun cdv A outer s H E hr => ?_
  have hu := hu64 hr
  have hu5 := hu65 hr
  have tk : Takes (cxOf (L2.CX P w) P w K mg base N__law_moves "_law_moves" (defScope st__law_moves) f cdv A outer s H E) (fun cls d _ H => E cls d H) := takes_of rfl rfl rfl rfl
  have hx : Passes (L2.CX P w) (cxOf (L2.CX P w) P w K mg base N__law_moves "_law_moves" (defScope st__law_moves) f cdv A outer s H E) E := passes_call tk fun _ _ _ _ h => h
  have hpo := passes_of (X := (cxOf (L2.CX P w) P w K mg base N__law_moves "_law_moves" (defScope st__law_moves) f cdv A outer s H E)) rfl
  exact (sb_cons (ss_set (i := 3) (sc__law_moves).nd rfl (by first | exact Or.inl rfl | exact Or.inr rfl) (se_fn h__law_mixed.ok (hr.mono (by decide)) rfl h__law_mixed.g h__law_mixed.F.kp h__law_mixed.b hx (sa_cons (se_var (pv 0)) (sa_cons (se_lc (own := [("_law_name", 7), ("_law_place", 8)]) rfl (sc__law_moves).nd (si_seq (se_dget hu (se_var (pv 1)) se_str (fun _ _ => rfl))) (blkOk_by (own := [("_law_name", 7), ("_law_place", 8)]) (N := N__law_moves) (sc := defScope st__law_moves) (by decide +kernel)) (fun _ _ _ _ _ => (sg_tup rfl (sgs_cons (sg_name (pg_name (i := 7) (sc__law_moves).nd rfl (by first | exact Or.inl rfl | exact Or.inr rfl))) (sgs_cons (sg_name (pg_name (i := 8) (sc__law_moves).nd rfl (by first | exact Or.inl rfl | exact Or.inr rfl))) sgs_nil)))) (fun _ _ _ _ _ => sts_nil) (fun _ _ _ _ _ => (se_var (pv 7)))) sa_nil))))
  (sb_cons (ss_set (i := 4) (sc__law_moves).nd rfl (by first | exact Or.inl rfl | exact Or.inr rfl) (se_slice (se_var (pv 3)) so_none (so_some (se_op op_addA gr_add se_int (se_fn h__law_draw.ok (hr.mono (by decide)) rfl h__law_draw.g h__law_draw.F.kp h__law_draw.b hx (sa_cons (se_var (pv 0)) (sa_cons se_int sa_nil)))))))
  (sb_cons (ss_if (st_cmp (op_eqA hu) gr_eq (se_dget hu (se_var (pv 1)) se_str (fun _ _ => rfl)) se_str (nomark _)) (sb_one (ss_ret (se_tupleC rfl B.b_tuple (sa_cons (se_lc (own := [("_law_name", 7)]) rfl (sc__law_moves).nd (si_seq (se_var (pv 4))) (blkOk_by (own := [("_law_name", 7)]) (N := N__law_moves) (sc := defScope st__law_moves) (by decide +kernel)) (fun _ _ _ _ _ => (sg_name (pg_name (i := 7) (sc__law_moves).nd rfl (by first | exact Or.inl rfl | exact Or.inr rfl)))) (fun _ _ _ _ _ => sts_nil) (fun _ _ _ _ _ => (se_tup (sa_cons (se_var (pv 7)) (sa_cons se_int sa_nil))))) sa_nil)))) sb_nil)
  (sb_cons (ss_set (i := 5) (sc__law_moves).nd rfl (by first | exact Or.inl rfl | exact Or.inr rfl) (se_if (st_cmp (op_eqA hu) gr_eq (se_var (pv 2)) se_str (nomark _)) se_int (se_neg se_int)))
  (sb_cons (ss_setLc (i := 6) (own := [("_law_name", 7)]) rfl (sc__law_moves).nd rfl rfl (sw_true rfl rfl rfl (by decide +kernel)) (si_seq (se_var (pv 4))) (blkOk_by (own := [("_law_name", 7)]) (N := N__law_moves) (sc := defScope st__law_moves) (by decide +kernel)) (fun _ _ _ _ _ => (sg_name (pg_name (i := 7) (sc__law_moves).nd rfl (by first | exact Or.inl rfl | exact Or.inr rfl)))) (fun _ _ _ _ _ => sts_nil) (fun _ _ _ _ _ => (se_if (st_cmp op_gt gr_gt (se_fn h__law_draw.ok (hr.mono (by decide)) rfl h__law_draw.g h__law_draw.F.kp h__law_draw.b passL (sa_cons (se_var (pv 0)) (sa_cons se_int sa_nil))) se_int (nomark _)) (se_var (pv 5)) (se_op op_sub gr_sub se_int (se_var (pv 5))))))
  (sb_one (ss_ret (se_tupleC rfl B.b_tuple (sa_cons (se_lc (own := [("_law_name", 7), ("_law_number", 9)]) rfl (sc__law_moves).nd (si_zip rfl B.b_zip (sa_cons (se_var (pv 4)) (sa_cons (se_var (pv 6)) sa_nil))) (blkOk_by (own := [("_law_name", 7), ("_law_number", 9)]) (N := N__law_moves) (sc := defScope st__law_moves) (by decide +kernel)) (fun _ _ _ _ _ => (sg_tup rfl (sgs_cons (sg_name (pg_name (i := 7) (sc__law_moves).nd rfl (by first | exact Or.inl rfl | exact Or.inr rfl))) (sgs_cons (sg_name (pg_name (i := 9) (sc__law_moves).nd rfl (by first | exact Or.inl rfl | exact Or.inr rfl))) sgs_nil)))) (fun _ _ _ _ _ => sts_nil) (fun _ _ _ _ _ => (se_tup (sa_cons (se_var (pv 7)) (sa_cons (se_var (pv 9)) sa_nil))))) sa_nil)))))))))
/-! ### _law_drawn_entry -/
abbrev st__law_drawn_entry : Stmt := (top 59)
def N__law_drawn_entry : List Str := ["_law_bag_here", "_law_spec", "_law_word_z", "_law_known_z"]
theorem sc__law_drawn_entry : FnScope N__law_drawn_entry ["_law_bag_here", "_law_spec", "_law_word_z"] (defScope st__law_drawn_entry) := ⟨rfl, rfl, rfl, by decide +kernel, rfl, by decide +kernel, by decide +kernel⟩
theorem ok__law_drawn_entry (B : Bl mg) (C : Cn K mg) (L : Lf K cl)  {f__law_of : Addr} {fd__law_of : FuncData} (h__law_of : At P w K cl mg base 4 "_law_of" st__law_of ["_law_bag_here", "_law_some"] f__law_of fd__law_of G__law_of) {f__law_draw : Addr} {fd__law_draw : FuncData} (h__law_draw : At P w K cl mg base 2 "_law_draw" st__law_draw ["_law_bag_here", "_law_many"] f__law_draw fd__law_draw G__law_draw) {f__law_moves : Addr} {fd__law_moves : FuncData} (h__law_moves : At P w K cl mg base 6 "_law_moves" st__law_moves ["_law_bag_here", "_law_spec", "_law_word_z"] f__law_moves fd__law_moves G__law_moves) {f__law_drawn_tests : Addr} {fd__law_drawn_tests : FuncData} (h__law_drawn_tests : At P w K cl mg base 8 "_law_drawn_tests" st__law_drawn_tests ["_law_bag_here", "_law_spec"] f__law_drawn_tests fd__law_drawn_tests G__law_drawn_tests)  {f : Addr} {fd : FuncData} (F_ : Fun K "_law_drawn_entry" "_law_drawn_entry" st__law_drawn_entry f fd) : SF P w K cl mg base 10 f fd ["_law_bag_here", "_law_spec", "_law_word_z"] F__law_drawn_entry := by
  refine sf_mk F_ sc__law_drawn_entry rfl rfl fun cdv A outer s H E hr => ?_
  have hu := hu64 hr
  have hu5 := hu65 hr
  have tk : Takes (cxOf (L2.CX P w) P w K mg base N__law_drawn_entry "_law_drawn_entry" (defScope st__law_drawn_entry) f cdv A outer s H E) (fun cls d _ H => E cls d H) := takes_of rfl rfl rfl rfl
  have hx : Passes (L2.CX P w) (cxOf (L2.CX P w) P w K mg base N__law_drawn_entry "_law_drawn_entry" (defScope st__law_drawn_entry) f cdv A outer s H E) E := passes_call tk fun _ _ _ _ h => h
  have hpo := passes_of (X := (cxOf (L2.CX P w) P w K mg base N__law_drawn_entry "_law_drawn_entry" (defScope st__law_drawn_entry) f cdv A outer s H E)) rfl
  exact (sb_cons (ss_set (i := 3) (sc__law_drawn_entry).nd rfl (by first | exact Or.inl rfl | exact Or.inr rfl) (se_fn h__law_of.ok (hr.mono (by decide)) rfl h__law_of.g h__law_of.F.kp h__law_of.b hx (sa_cons (se_var (pv 0)) (sa_cons (se_if (st_cmp (op_eqA hu) gr_eq (se_var (pv 2)) se_str (nomark _)) (se_lst (sa_cons se_str (sa_cons se_str (sa_cons se_str (sa_cons se_str sa_nil))))) (se_lst (sa_cons se_str (sa_cons se_str (sa_cons se_str (sa_cons se_str sa_nil)))))) sa_nil))))
  (sb_one (ss_ret (se_tup (sa_cons (se_var (pv 2)) (sa_cons (se_fn h__law_drawn_tests.ok (hr.mono (by decide)) rfl h__law_drawn_tests.g h__law_drawn_tests.F.kp h__law_drawn_tests.b hx (sa_cons (se_var (pv 0)) (sa_cons (se_var (pv 1)) sa_nil))) (sa_cons (se_var (pv 3)) (sa_cons (se_fn h__law_moves.ok (hr.mono (by decide)) rfl h__law_moves.g h__law_moves.F.kp h__law_moves.b hx (sa_cons (se_var (pv 0)) (sa_cons (se_var (pv 1)) (sa_cons (se_var (pv 2)) sa_nil)))) (sa_cons (se_cmp op_gt gr_gt (se_fn h__law_draw.ok (hr.mono (by decide)) rfl h__law_draw.g h__law_draw.F.kp h__law_draw.b hx (sa_cons (se_var (pv 0)) (sa_cons se_int sa_nil))) se_int (nomark _)) sa_nil)))))))))
/-! ### _law_drawn_reading -/
abbrev st__law_drawn_reading : Stmt := (top 60)
def N__law_drawn_reading : List Str := ["_law_bag_here", "_law_spec", "_law_word_z", "_law_names_here", "_law_some", "_law_name", "_law_place"]
theorem sc__law_drawn_reading : FnScope N__law_drawn_reading ["_law_bag_here", "_law_spec", "_law_word_z"] (defScope st__law_drawn_reading) := ⟨rfl, rfl, rfl, by decide +kernel, rfl, by decide +kernel, by decide +kernel⟩
theorem ok__law_drawn_reading (B : Bl mg) (C : Cn K mg) (L : Lf K cl)  {f__law_mixed : Addr} {fd__law_mixed : FuncData} (h__law_mixed : At P w K cl mg base 4 "_law_mixed" st__law_mixed ["_law_bag_here", "_law_some"] f__law_mixed fd__law_mixed G__law_mixed) {f__law_of : Addr} {fd__law_of : FuncData} (h__law_of : At P w K cl mg base 4 "_law_of" st__law_of ["_law_bag_here", "_law_some"] f__law_of fd__law_of G__law_of) {f__law_drawn_tests : Addr} {fd__law_drawn_tests : FuncData} (h__law_drawn_tests : At P w K cl mg base 8 "_law_drawn_tests" st__law_drawn_tests ["_law_bag_here", "_law_spec"] f__law_drawn_tests fd__law_drawn_tests G__law_drawn_tests)  {f : Addr} {fd : FuncData} (F_ : Fun K "_law_drawn_reading" "_law_drawn_reading" st__law_drawn_reading f fd) : SF P w K cl mg base 10 f fd ["_law_bag_here", "_law_spec", "_law_word_z"] F__law_drawn_reading := by
  refine sf_mk F_ sc__law_drawn_reading rfl rfl fun cdv A outer s H E hr => ?_
  have hu := hu64 hr
  have hu5 := hu65 hr
  have tk : Takes (cxOf (L2.CX P w) P w K mg base N__law_drawn_reading "_law_drawn_reading" (defScope st__law_drawn_reading) f cdv A outer s H E) (fun cls d _ H => E cls d H) := takes_of rfl rfl rfl rfl
  have hx : Passes (L2.CX P w) (cxOf (L2.CX P w) P w K mg base N__law_drawn_reading "_law_drawn_reading" (defScope st__law_drawn_reading) f cdv A outer s H E) E := passes_call tk fun _ _ _ _ h => h
  have hpo := passes_of (X := (cxOf (L2.CX P w) P w K mg base N__law_drawn_reading "_law_drawn_reading" (defScope st__law_drawn_reading) f cdv A outer s H E)) rfl
  exact (sb_cons (ss_setLc (i := 3) (own := [("_law_name", 5), ("_law_place", 6)]) rfl (sc__law_drawn_reading).nd rfl rfl (sw_true rfl rfl rfl (by decide +kernel)) (si_seq (se_dget hu (se_var (pv 1)) se_str (fun _ _ => rfl))) (blkOk_by (own := [("_law_name", 5), ("_law_place", 6)]) (N := N__law_drawn_reading) (sc := defScope st__law_drawn_reading) (by decide +kernel)) (fun _ _ _ _ _ => (sg_tup rfl (sgs_cons (sg_name (pg_name (i := 5) (sc__law_drawn_reading).nd rfl (by first | exact Or.inl rfl | exact Or.inr rfl))) (sgs_cons (sg_name (pg_name (i := 6) (sc__law_drawn_reading).nd rfl (by first | exact Or.inl rfl | exact Or.inr rfl))) sgs_nil)))) (fun _ _ _ _ _ => (sts_one (st_of (sw_or (st_cmp (op_eqA hu) gr_eq (se_var (pv 2)) se_str (nomark _)) (sw_or1 (st_cmp (op_eqA hu) gr_eq (se_var (pv 6)) se_str (nomark _))))))) (fun _ _ _ _ _ => (se_var (pv 5))))
  (sb_cons (ss_set (i := 4) (sc__law_drawn_reading).nd rfl (by first | exact Or.inl rfl | exact Or.inr rfl) (se_fn h__law_of.ok (hr.mono (by decide)) rfl h__law_of.g h__law_of.F.kp h__law_of.b hx (sa_cons (se_var (pv 0)) (sa_cons (se_lst (sa_cons (se_tupleC rfl B.b_tuple (sa_cons (se_slice (se_fn h__law_mixed.ok (hr.mono (by decide)) rfl h__law_mixed.g h__law_mixed.F.kp h__law_mixed.b hx (sa_cons (se_var (pv 0)) (sa_cons (se_var (pv 3)) sa_nil))) so_none (so_some se_int)) sa_nil)) (sa_cons (se_tupleC rfl B.b_tuple (sa_cons (se_slice (se_fn h__law_mixed.ok (hr.mono (by decide)) rfl h__law_mixed.g h__law_mixed.F.kp h__law_mixed.b hx (sa_cons (se_var (pv 0)) (sa_cons (se_var (pv 3)) sa_nil))) so_none (so_some se_int)) sa_nil)) (sa_cons se_non (sa_cons (se_tup sa_nil) sa_nil))))) sa_nil))))
  (sb_one (ss_ret (se_tup (sa_cons (se_var (pv 2)) (sa_cons (se_fn h__law_drawn_tests.ok (hr.mono (by decide)) rfl h__law_drawn_tests.g h__law_drawn_tests.F.kp h__law_drawn_tests.b hx (sa_cons (se_var (pv 0)) (sa_cons (se_var (pv 1)) sa_nil))) (sa_cons (se_var (pv 4)) sa_nil))))))))
/-! ### _law_names -/
abbrev st__law_names : Stmt := (top 50)
def N__law_names : List Str := ["_law_bag_here", "_law_many", "_law_letters", "_law_stem", "_law_at", "_law_first", "_law_k"]
theorem sc__law_names : FnScope N__law_names ["_law_bag_here", "_law_many"] (defScope st__law_names) := ⟨rfl, rfl, rfl, by decide +kernel, rfl, by decide +kernel, by decide +kernel⟩
theorem ok__law_names (B : Bl mg) (C : Cn K mg) (L : Lf K cl)  {f__law_draw : Addr} {fd__law_draw : FuncData} (h__law_draw : At P w K cl mg base 2 "_law_draw" st__law_draw ["_law_bag_here", "_law_many"] f__law_draw fd__law_draw G__law_draw) {f__law_of : Addr} {fd__law_of : FuncData} (h__law_of : At P w K cl mg base 4 "_law_of" st__law_of ["_law_bag_here", "_law_some"] f__law_of fd__law_of G__law_of)  {f : Addr} {fd : FuncData} (F_ : Fun K "_law_names" "_law_names" st__law_names f fd) : SF P w K cl mg base 6 f fd ["_law_bag_here", "_law_many"] F__law_names := by
  refine sf_mk F_ sc__law_names rfl rfl fun cdv A outer s H E hr => ?_
  have hu := hu64 hr
  have hu5 := hu65 hr
  have tk : Takes (cxOf (L2.CX P w) P w K mg base N__law_names "_law_names" (defScope st__law_names) f cdv A outer s H E) (fun cls d _ H => E cls d H) := takes_of rfl rfl rfl rfl
  have hx : Passes (L2.CX P w) (cxOf (L2.CX P w) P w K mg base N__law_names "_law_names" (defScope st__law_names) f cdv A outer s H E) E := passes_call tk fun _ _ _ _ h => h
  have hpo := passes_of (X := (cxOf (L2.CX P w) P w K mg base N__law_names "_law_names" (defScope st__law_names) f cdv A outer s H E)) rfl
  exact (sb_cons (ss_set (i := 2) (sc__law_names).nd rfl (by first | exact Or.inl rfl | exact Or.inr rfl) se_str)
  (sb_cons (ss_set (i := 3) (sc__law_names).nd rfl (by first | exact Or.inl rfl | exact Or.inr rfl) (se_join se_str (se_lc (own := [("_law_k", 6)]) rfl (sc__law_names).nd (si_rng1 rfl B.b_range (se_fn h__law_draw.ok (hr.mono (by decide)) rfl h__law_draw.g h__law_draw.F.kp h__law_draw.b hx (sa_cons (se_var (pv 0)) (sa_cons se_int sa_nil)))) (blkOk_by (own := [("_law_k", 6)]) (N := N__law_names) (sc := defScope st__law_names) (by decide +kernel)) (fun _ _ _ _ _ => (sg_name (pg_name (i := 6) (sc__law_names).nd rfl (by first | exact Or.inl rfl | exact Or.inr rfl)))) (fun _ _ _ _ _ => sts_nil) (fun _ _ _ _ _ => (se_fn h__law_of.ok (hr.mono (by decide)) rfl h__law_of.g h__law_of.F.kp h__law_of.b passL (sa_cons (se_var (pv 0)) (sa_cons (se_var (pv 2)) sa_nil)))))))
  (sb_cons (ss_asg (se_tup (sa_cons (se_fn h__law_draw.ok (hr.mono (by decide)) rfl h__law_draw.g h__law_draw.F.kp h__law_draw.b hx (sa_cons (se_var (pv 0)) (sa_cons (se_op op_addA gr_add (se_len rfl B.b_len (sa_cons (se_var (pv 3)) sa_nil)) se_int) sa_nil))) (sa_cons (se_fn h__law_draw.ok (hr.mono (by decide)) rfl h__law_draw.g h__law_draw.F.kp h__law_draw.b hx (sa_cons (se_var (pv 0)) (sa_cons se_int sa_nil))) sa_nil))) (sg_tup rfl (sgs_cons (sg_name (pg_name (i := 4) (sc__law_names).nd rfl (by first | exact Or.inl rfl | exact Or.inr rfl))) (sgs_cons (sg_name (pg_name (i := 5) (sc__law_names).nd rfl (by first | exact Or.inl rfl | exact Or.inr rfl))) sgs_nil))))
  (sb_one (ss_ret (se_lc (own := [("_law_k", 6)]) rfl (sc__law_names).nd (si_rng1 rfl B.b_range (se_var (pv 1))) (blkOk_by (own := [("_law_k", 6)]) (N := N__law_names) (sc := defScope st__law_names) (by decide +kernel)) (fun _ _ _ _ _ => (sg_name (pg_name (i := 6) (sc__law_names).nd rfl (by first | exact Or.inl rfl | exact Or.inr rfl)))) (fun _ _ _ _ _ => sts_nil) (fun _ _ _ _ _ => (se_op op_addA gr_add (se_op op_addA gr_add (se_slice (se_var (pv 3)) so_none (so_some (se_var (pv 4)))) (se_ix (se_var (pv 2)) (se_op op_mod gr_mod (se_intC rfl B.b_int (sa_cons (se_op op_addA gr_add (se_var (pv 5)) (se_op op_mulA gr_mul se_int (se_var (pv 6)))) sa_nil)) se_int) (fun _ _ => rfl))) (se_slice (se_var (pv 3)) (so_some (se_var (pv 4))) so_none)))))))))
/-! ### _law_bare_spec -/
abbrev st__law_bare_spec : Stmt := (top 61)
def N__law_bare_spec : List Str := ["_law_bag_here", "_law_most_width", "_law_most_stores", "_law_most_marks", "_law_names_here", "_law_many", "_law_marks_z", "_law_places", "_law_stores", "_law_k", "_law_name", "_law_place"]
theorem sc__law_bare_spec : FnScope N__law_bare_spec ["_law_bag_here", "_law_most_width", "_law_most_stores", "_law_most_marks"] (defScope st__law_bare_spec) := ⟨rfl, rfl, rfl, by decide +kernel, rfl, by decide +kernel, by decide +kernel⟩
theorem ok__law_bare_spec (B : Bl mg) (C : Cn K mg) (L : Lf K cl)  {f__law_names : Addr} {fd__law_names : FuncData} (h__law_names : At P w K cl mg base 6 "_law_names" st__law_names ["_law_bag_here", "_law_many"] f__law_names fd__law_names G__law_names) {f__law_draw : Addr} {fd__law_draw : FuncData} (h__law_draw : At P w K cl mg base 2 "_law_draw" st__law_draw ["_law_bag_here", "_law_many"] f__law_draw fd__law_draw G__law_draw) {f__law_of : Addr} {fd__law_of : FuncData} (h__law_of : At P w K cl mg base 4 "_law_of" st__law_of ["_law_bag_here", "_law_some"] f__law_of fd__law_of G__law_of) {f__law_mixed : Addr} {fd__law_mixed : FuncData} (h__law_mixed : At P w K cl mg base 4 "_law_mixed" st__law_mixed ["_law_bag_here", "_law_some"] f__law_mixed fd__law_mixed G__law_mixed)  {f : Addr} {fd : FuncData} (F_ : Fun K "_law_bare_spec" "_law_bare_spec" st__law_bare_spec f fd) : SF P w K cl mg base 8 f fd ["_law_bag_here", "_law_most_width", "_law_most_stores", "_law_most_marks"] F__law_bare_spec := by
  refine sf_mk F_ sc__law_bare_spec rfl rfl fun cdv A outer s H E hr => ?_
  have hu := hu64 hr
  have hu5 := hu65 hr
  have tk : Takes (cxOf (L2.CX P w) P w K mg base N__law_bare_spec "_law_bare_spec" (defScope st__law_bare_spec) f cdv A outer s H E) (fun cls d _ H => E cls d H) := takes_of rfl rfl rfl rfl
  have hx : Passes (L2.CX P w) (cxOf (L2.CX P w) P w K mg base N__law_bare_spec "_law_bare_spec" (defScope st__law_bare_spec) f cdv A outer s H E) E := passes_call tk fun _ _ _ _ h => h
  have hpo := passes_of (X := (cxOf (L2.CX P w) P w K mg base N__law_bare_spec "_law_bare_spec" (defScope st__law_bare_spec) f cdv A outer s H E)) rfl
  exact (sb_cons (ss_set (i := 4) (sc__law_bare_spec).nd rfl (by first | exact Or.inl rfl | exact Or.inr rfl) (se_fn h__law_names.ok (hr.mono (by decide)) rfl h__law_names.g h__law_names.F.kp h__law_names.b hx (sa_cons (se_var (pv 0)) (sa_cons se_int sa_nil))))
  (sb_cons (ss_par (i := 5) (j := 6) rfl (sc__law_bare_spec).nd rfl rfl (by decide) rfl rfl (sa_cons (se_op op_addA gr_add se_int (se_fn h__law_draw.ok (hr.mono (by decide)) rfl h__law_draw.g h__law_draw.F.kp h__law_draw.b hx (sa_cons (se_var (pv 0)) (sa_cons (se_var (pv 2)) sa_nil)))) (sa_cons (se_slice (se_var (pv 4)) (so_some se_int) (so_some (se_op op_addA gr_add se_int (se_fn h__law_draw.ok (hr.mono (by decide)) rfl h__law_draw.g h__law_draw.F.kp h__law_draw.b hx (sa_cons (se_var (pv 0)) (sa_cons (se_op op_addA gr_add (se_var (pv 3)) se_int) sa_nil)))))) sa_nil)) (by rfl))
  (sb_cons (ss_set (i := 7) (sc__law_bare_spec).nd rfl (by first | exact Or.inl rfl | exact Or.inr rfl) (se_op op_addA gr_add (se_lst (sa_cons se_str sa_nil)) (se_lc (own := [("_law_k", 9)]) rfl (sc__law_bare_spec).nd (si_rng1 rfl B.b_range (se_op op_sub gr_sub (se_var (pv 5)) se_int)) (blkOk_by (own := [("_law_k", 9)]) (N := N__law_bare_spec) (sc := defScope st__law_bare_spec) (by decide +kernel)) (fun _ _ _ _ _ => (sg_name (pg_name (i := 9) (sc__law_bare_spec).nd rfl (by first | exact Or.inl rfl | exact Or.inr rfl)))) (fun _ _ _ _ _ => sts_nil) (fun _ _ _ _ _ => (se_fn h__law_of.ok (hr.mono (by decide)) rfl h__law_of.g h__law_of.F.kp h__law_of.b passL (sa_cons (se_var (pv 0)) (sa_cons (se_lst (sa_cons se_str (sa_cons se_str (sa_cons se_str sa_nil)))) sa_nil)))))))
  (sb_cons (ss_set (i := 8) (sc__law_bare_spec).nd rfl (by first | exact Or.inl rfl | exact Or.inr rfl) (se_fn h__law_mixed.ok (hr.mono (by decide)) rfl h__law_mixed.g h__law_mixed.F.kp h__law_mixed.b hx (sa_cons (se_var (pv 0)) (sa_cons (se_lc (own := [("_law_name", 10), ("_law_place", 11)]) rfl (sc__law_bare_spec).nd (si_zip rfl B.b_zip (sa_cons (se_slice (se_var (pv 4)) so_none (so_some (se_var (pv 5)))) (sa_cons (se_var (pv 7)) sa_nil))) (blkOk_by (own := [("_law_name", 10), ("_law_place", 11)]) (N := N__law_bare_spec) (sc := defScope st__law_bare_spec) (by decide +kernel)) (fun _ _ _ _ _ => (sg_tup rfl (sgs_cons (sg_name (pg_name (i := 10) (sc__law_bare_spec).nd rfl (by first | exact Or.inl rfl | exact Or.inr rfl))) (sgs_cons (sg_name (pg_name (i := 11) (sc__law_bare_spec).nd rfl (by first | exact Or.inl rfl | exact Or.inr rfl))) sgs_nil)))) (fun _ _ _ _ _ => sts_nil) (fun _ _ _ _ _ => (se_tup (sa_cons (se_var (pv 10)) (sa_cons (se_var (pv 11)) sa_nil))))) sa_nil))))
  (sb_one (ss_ret (se_disp (ks := [.inr "width", .inr "stores", .inr "late", .inr "back", .inr "fold", .inr "marks", .inr "notes", .inr "entries", .inr "jobs", .inr "readings", .inr "titles"]) (spr_cons (kk := .inr "width") se_str (se_op op_addA gr_add se_int (se_fn h__law_draw.ok (hr.mono (by decide)) rfl h__law_draw.g h__law_draw.F.kp h__law_draw.b hx (sa_cons (se_var (pv 0)) (sa_cons (se_var (pv 1)) sa_nil)))) (spr_cons (kk := .inr "stores") se_str (se_var (pv 8)) (spr_cons (kk := .inr "late") se_str (se_fn h__law_draw.ok (hr.mono (by decide)) rfl h__law_draw.g h__law_draw.F.kp h__law_draw.b hx (sa_cons (se_var (pv 0)) (sa_cons se_int sa_nil))) (spr_cons (kk := .inr "back") se_str (se_fn h__law_draw.ok (hr.mono (by decide)) rfl h__law_draw.g h__law_draw.F.kp h__law_draw.b hx (sa_cons (se_var (pv 0)) (sa_cons se_int sa_nil))) (spr_cons (kk := .inr "fold") se_str (se_fn h__law_of.ok (hr.mono (by decide)) rfl h__law_of.g h__law_of.F.kp h__law_of.b hx (sa_cons (se_var (pv 0)) (sa_cons (se_lst (sa_cons se_str (sa_cons se_str (sa_cons se_str sa_nil)))) sa_nil))) (spr_cons (kk := .inr "marks") se_str (se_var (pv 6)) (spr_cons (kk := .inr "notes") se_str (se_lst sa_nil) (spr_cons (kk := .inr "entries") se_str (se_lst sa_nil) (spr_cons (kk := .inr "jobs") se_str (se_lst sa_nil) (spr_cons (kk := .inr "readings") se_str (se_lst sa_nil) (spr_cons (kk := .inr "titles") se_str (se_slice (se_var (pv 4)) (so_some se_int) so_none) spr_nil))))))))))) (by decide))))))))
/-! ### _law_any_spec -/
abbrev st__law_any_spec : Stmt := (top 62)
def N__law_any_spec : List Str := ["_law_bag_here", "_law_sizes", "_law_most_steps", "_law_spec", "_law_words", "_law_k", "_law_word_z"]
theorem sc__law_any_spec : FnScope N__law_any_spec ["_law_bag_here", "_law_sizes", "_law_most_steps"] (defScope st__law_any_spec) := ⟨rfl, rfl, rfl, by decide +kernel, rfl, by decide +kernel, by decide +kernel⟩
theorem ok__law_any_spec (B : Bl mg) (C : Cn K mg) (L : Lf K cl)  {f__law_bare_spec : Addr} {fd__law_bare_spec : FuncData} (h__law_bare_spec : At P w K cl mg base 8 "_law_bare_spec" st__law_bare_spec ["_law_bag_here", "_law_most_width", "_law_most_stores", "_law_most_marks"] f__law_bare_spec fd__law_bare_spec G__law_bare_spec) {f__law_draw : Addr} {fd__law_draw : FuncData} (h__law_draw : At P w K cl mg base 2 "_law_draw" st__law_draw ["_law_bag_here", "_law_many"] f__law_draw fd__law_draw G__law_draw) {f__law_settings : Addr} {fd__law_settings : FuncData} (h__law_settings : At P w K cl mg base 6 "_law_settings" st__law_settings ["_law_bag_here", "_law_spec"] f__law_settings fd__law_settings G__law_settings) {f__law_drawn_tests : Addr} {fd__law_drawn_tests : FuncData} (h__law_drawn_tests : At P w K cl mg base 8 "_law_drawn_tests" st__law_drawn_tests ["_law_bag_here", "_law_spec"] f__law_drawn_tests fd__law_drawn_tests G__law_drawn_tests) {f__law_of : Addr} {fd__law_of : FuncData} (h__law_of : At P w K cl mg base 4 "_law_of" st__law_of ["_law_bag_here", "_law_some"] f__law_of fd__law_of G__law_of) {f__law_mixed : Addr} {fd__law_mixed : FuncData} (h__law_mixed : At P w K cl mg base 4 "_law_mixed" st__law_mixed ["_law_bag_here", "_law_some"] f__law_mixed fd__law_mixed G__law_mixed) {f__law_drawn_entry : Addr} {fd__law_drawn_entry : FuncData} (h__law_drawn_entry : At P w K cl mg base 10 "_law_drawn_entry" st__law_drawn_entry ["_law_bag_here", "_law_spec", "_law_word_z"] f__law_drawn_entry fd__law_drawn_entry G__law_drawn_entry) {f__law_drawn_job : Addr} {fd__law_drawn_job : FuncData} (h__law_drawn_job : At P w K cl mg base 10 "_law_drawn_job" st__law_drawn_job ["_law_bag_here", "_law_spec", "_law_name", "_law_most"] f__law_drawn_job fd__law_drawn_job G__law_drawn_job) {f__law_drawn_reading : Addr} {fd__law_drawn_reading : FuncData} (h__law_drawn_reading : At P w K cl mg base 10 "_law_drawn_reading" st__law_drawn_reading ["_law_bag_here", "_law_spec", "_law_word_z"] f__law_drawn_reading fd__law_drawn_reading G__law_drawn_reading)  {f : Addr} {fd : FuncData} (F_ : Fun K "_law_any_spec" "_law_any_spec" st__law_any_spec f fd) : SF P w K cl mg base 12 f fd ["_law_bag_here", "_law_sizes", "_law_most_steps"] F__law_any_spec := by
  refine sf_mk F_ sc__law_any_spec rfl rfl fun cdv A outer s H E hr => ?_
  have hu := hu64 hr
  have hu5 := hu65 hr
  have tk : Takes (cxOf (L2.CX P w) P w K mg base N__law_any_spec "_law_any_spec" (defScope st__law_any_spec) f cdv A outer s H E) (fun cls d _ H => E cls d H) := takes_of rfl rfl rfl rfl
  have hx : Passes (L2.CX P w) (cxOf (L2.CX P w) P w K mg base N__law_any_spec "_law_any_spec" (defScope st__law_any_spec) f cdv A outer s H E) E := passes_call tk fun _ _ _ _ h => h
  have hpo := passes_of (X := (cxOf (L2.CX P w) P w K mg base N__law_any_spec "_law_any_spec" (defScope st__law_any_spec) f cdv A outer s H E)) rfl
  exact (sb_cons (ss_set (i := 3) (sc__law_any_spec).nd rfl (by first | exact Or.inl rfl | exact Or.inr rfl) (se_fn h__law_bare_spec.ok (hr.mono (by decide)) rfl h__law_bare_spec.g h__law_bare_spec.F.kp h__law_bare_spec.b hx (sa_cons (se_var (pv 0)) (sa_cons (se_ix (se_var (pv 1)) se_int (fun _ _ => rfl)) (sa_cons (se_ix (se_var (pv 1)) se_int (fun _ _ => rfl)) (sa_cons (se_ix (se_var (pv 1)) se_int (fun _ _ => rfl)) sa_nil))))))
  (sb_cons (ss_dput hu (se_lc (own := [("_law_k", 5)]) rfl (sc__law_any_spec).nd (si_rng1 rfl B.b_range (se_fn h__law_draw.ok (hr.mono (by decide)) rfl h__law_draw.g h__law_draw.F.kp h__law_draw.b hx (sa_cons (se_var (pv 0)) (sa_cons se_int sa_nil)))) (blkOk_by (own := [("_law_k", 5)]) (N := N__law_any_spec) (sc := defScope st__law_any_spec) (by decide +kernel)) (fun _ _ _ _ _ => (sg_name (pg_name (i := 5) (sc__law_any_spec).nd rfl (by first | exact Or.inl rfl | exact Or.inr rfl)))) (fun _ _ _ _ _ => sts_nil) (fun _ _ _ _ _ => (se_tup (sa_cons (se_fn h__law_of.ok (hr.mono (by decide)) rfl h__law_of.g h__law_of.F.kp h__law_of.b passL (sa_cons (se_var (pv 0)) (sa_cons (se_lst (sa_cons se_str (sa_cons se_str sa_nil))) sa_nil))) (sa_cons (se_fn h__law_drawn_tests.ok (hr.mono (by decide)) rfl h__law_drawn_tests.g h__law_drawn_tests.F.kp h__law_drawn_tests.b passL (sa_cons (se_var (pv 0)) (sa_cons (se_var (pv 3)) sa_nil))) (sa_cons (se_fn h__law_settings.ok (hr.mono (by decide)) rfl h__law_settings.g h__law_settings.F.kp h__law_settings.b passL (sa_cons (se_var (pv 0)) (sa_cons (se_var (pv 3)) sa_nil))) sa_nil)))))) (se_var (pv 3)) se_str)
  (sb_cons (ss_set (i := 4) (sc__law_any_spec).nd rfl (by first | exact Or.inl rfl | exact Or.inr rfl) (se_op op_addA gr_add (se_lst (sa_cons se_str (sa_cons se_str sa_nil))) (se_lc (own := [("_law_k", 5)]) rfl (sc__law_any_spec).nd (si_rng1 rfl B.b_range (se_fn h__law_draw.ok (hr.mono (by decide)) rfl h__law_draw.g h__law_draw.F.kp h__law_draw.b hx (sa_cons (se_var (pv 0)) (sa_cons se_int sa_nil)))) (blkOk_by (own := [("_law_k", 5)]) (N := N__law_any_spec) (sc := defScope st__law_any_spec) (by decide +kernel)) (fun _ _ _ _ _ => (sg_name (pg_name (i := 5) (sc__law_any_spec).nd rfl (by first | exact Or.inl rfl | exact Or.inr rfl)))) (fun _ _ _ _ _ => sts_nil) (fun _ _ _ _ _ => (se_fn h__law_of.ok (hr.mono (by decide)) rfl h__law_of.g h__law_of.F.kp h__law_of.b passL (sa_cons (se_var (pv 0)) (sa_cons (se_lst (sa_cons se_str (sa_cons se_str sa_nil))) sa_nil)))))))
  (sb_cons (ss_dput hu (se_lc (own := [("_law_word_z", 6)]) rfl (sc__law_any_spec).nd (si_seq (se_fn h__law_mixed.ok (hr.mono (by decide)) rfl h__law_mixed.g h__law_mixed.F.kp h__law_mixed.b hx (sa_cons (se_var (pv 0)) (sa_cons (se_var (pv 4)) sa_nil)))) (blkOk_by (own := [("_law_word_z", 6)]) (N := N__law_any_spec) (sc := defScope st__law_any_spec) (by decide +kernel)) (fun _ _ _ _ _ => (sg_name (pg_name (i := 6) (sc__law_any_spec).nd rfl (by first | exact Or.inl rfl | exact Or.inr rfl)))) (fun _ _ _ _ _ => sts_nil) (fun _ _ _ _ _ => (se_fn h__law_drawn_entry.ok (hr.mono (by decide)) rfl h__law_drawn_entry.g h__law_drawn_entry.F.kp h__law_drawn_entry.b passL (sa_cons (se_var (pv 0)) (sa_cons (se_var (pv 3)) (sa_cons (se_var (pv 6)) sa_nil)))))) (se_var (pv 3)) se_str)
  (sb_cons (ss_dput hu (se_lc (own := [("_law_k", 5)]) rfl (sc__law_any_spec).nd (si_rng1 rfl B.b_range (se_fn h__law_draw.ok (hr.mono (by decide)) rfl h__law_draw.g h__law_draw.F.kp h__law_draw.b hx (sa_cons (se_var (pv 0)) (sa_cons (se_op op_addA gr_add (se_ix (se_var (pv 1)) se_int (fun _ _ => rfl)) se_int) sa_nil)))) (blkOk_by (own := [("_law_k", 5)]) (N := N__law_any_spec) (sc := defScope st__law_any_spec) (by decide +kernel)) (fun _ _ _ _ _ => (sg_name (pg_name (i := 5) (sc__law_any_spec).nd rfl (by first | exact Or.inl rfl | exact Or.inr rfl)))) (fun _ _ _ _ _ => sts_nil) (fun _ _ _ _ _ => (se_fn h__law_drawn_job.ok (hr.mono (by decide)) rfl h__law_drawn_job.g h__law_drawn_job.F.kp h__law_drawn_job.b passL (sa_cons (se_var (pv 0)) (sa_cons (se_var (pv 3)) (sa_cons (se_ix (se_dget hu (se_var (pv 3)) se_str (fun _ _ => rfl)) (se_var (pv 5)) (fun _ _ => rfl)) (sa_cons (se_var (pv 2)) sa_nil))))))) (se_var (pv 3)) se_str)
  (sb_cons (ss_set (i := 4) (sc__law_any_spec).nd rfl (by first | exact Or.inl rfl | exact Or.inr rfl) (se_slice (se_lst (sa_cons se_str (sa_cons se_str (sa_cons se_str sa_nil)))) (so_some (se_fn h__law_draw.ok (hr.mono (by decide)) rfl h__law_draw.g h__law_draw.F.kp h__law_draw.b hx (sa_cons (se_var (pv 0)) (sa_cons se_int sa_nil)))) so_none))
  (sb_cons (ss_dput hu (se_lc (own := [("_law_word_z", 6)]) rfl (sc__law_any_spec).nd (si_seq (se_fn h__law_mixed.ok (hr.mono (by decide)) rfl h__law_mixed.g h__law_mixed.F.kp h__law_mixed.b hx (sa_cons (se_var (pv 0)) (sa_cons (se_var (pv 4)) sa_nil)))) (blkOk_by (own := [("_law_word_z", 6)]) (N := N__law_any_spec) (sc := defScope st__law_any_spec) (by decide +kernel)) (fun _ _ _ _ _ => (sg_name (pg_name (i := 6) (sc__law_any_spec).nd rfl (by first | exact Or.inl rfl | exact Or.inr rfl)))) (fun _ _ _ _ _ => sts_nil) (fun _ _ _ _ _ => (se_fn h__law_drawn_reading.ok (hr.mono (by decide)) rfl h__law_drawn_reading.g h__law_drawn_reading.F.kp h__law_drawn_reading.b passL (sa_cons (se_var (pv 0)) (sa_cons (se_var (pv 3)) (sa_cons (se_var (pv 6)) sa_nil)))))) (se_var (pv 3)) se_str)
  (sb_one (ss_ret (se_var (pv 3)))))))))))
/-! ### is_number -/
abbrev st_is_number : Stmt := (top 24)
def N_is_number : List Str := ["value", "least", "most"]
theorem sc_is_number : FnScope N_is_number ["value", "least", "most"] (defScope st_is_number) := ⟨rfl, rfl, rfl, by decide +kernel, rfl, by decide +kernel, by decide +kernel⟩
theorem ok_is_number (B : Bl mg) (C : Cn K mg) (L : Lf K cl)    {f : Addr} {fd : FuncData} (F_ : Fun K "is_number" "is_number" st_is_number f fd) : SF P w K cl mg base 2 f fd ["value", "least", "most"] F_is_number := by
  refine sf_mk F_ sc_is_number rfl rfl fun cdv A outer s H E hr => ?_
  have hu := hu64 hr
  have hu5 := hu65 hr
  have tk : Takes (cxOf (L2.CX P w) P w K mg base N_is_number "is_number" (defScope st_is_number) f cdv A outer s H E) (fun cls d _ H => E cls d H) := takes_of rfl rfl rfl rfl
  have hx : Passes (L2.CX P w) (cxOf (L2.CX P w) P w K mg base N_is_number "is_number" (defScope st_is_number) f cdv A outer s H E) E := passes_call tk fun _ _ _ _ h => h
  have hpo := passes_of (X := (cxOf (L2.CX P w) P w K mg base N_is_number "is_number" (defScope st_is_number) f cdv A outer s H E)) rfl
  exact (sb_one (ss_ret (se_and (se_isi (T' := "int") (se_var (pv 0)) rfl B.b_isinstance rfl B.b_int (by decide +kernel) (by decide)) (se_and (se_not (se_isi (T' := "bool") (se_var (pv 0)) rfl B.b_isinstance rfl B.b_bool (by decide +kernel) (by decide))) (se_one (se_chain op_le op_le gr_le gr_le (se_var (pv 1)) (se_var (pv 0)) (se_var (pv 2))))))))
/-! ### is_list -/
abbrev st_is_list : Stmt := (top 25)
def N_is_list : List Str := ["value"]
theorem sc_is_list : FnScope N_is_list ["value"] (defScope st_is_list) := ⟨rfl, rfl, rfl, by decide +kernel, rfl, by decide +kernel, by decide +kernel⟩
theorem ok_is_list (B : Bl mg) (C : Cn K mg) (L : Lf K cl)    {f : Addr} {fd : FuncData} (F_ : Fun K "is_list" "is_list" st_is_list f fd) : SF P w K cl mg base 2 f fd ["value"] F_is_list := by
  refine sf_mk F_ sc_is_list rfl rfl fun cdv A outer s H E hr => ?_
  have hu := hu64 hr
  have hu5 := hu65 hr
  have tk : Takes (cxOf (L2.CX P w) P w K mg base N_is_list "is_list" (defScope st_is_list) f cdv A outer s H E) (fun cls d _ H => E cls d H) := takes_of rfl rfl rfl rfl
  have hx : Passes (L2.CX P w) (cxOf (L2.CX P w) P w K mg base N_is_list "is_list" (defScope st_is_list) f cdv A outer s H E) E := passes_call tk fun _ _ _ _ h => h
  have hpo := passes_of (X := (cxOf (L2.CX P w) P w K mg base N_is_list "is_list" (defScope st_is_list) f cdv A outer s H E)) rfl
  exact (sb_one (ss_ret (se_isi2 (T' := "list") (U' := "tuple") (se_var (pv 0)) rfl B.b_isinstance rfl B.b_list (by decide +kernel) (by decide) rfl B.b_tuple (by decide +kernel) (by decide))))
/-! ### is_word -/
abbrev st_is_word : Stmt := (top 22)
def N_is_word : List Str := ["value", "sign"]
theorem sc_is_word : FnScope N_is_word ["value"] (defScope st_is_word) := ⟨rfl, rfl, rfl, by decide +kernel, rfl, by decide +kernel, by decide +kernel⟩
theorem ok_is_word (B : Bl mg) (C : Cn K mg) (L : Lf K cl)    {f : Addr} {fd : FuncData} (F_ : Fun K "is_word" "is_word" st_is_word f fd) : SF P w K cl mg base 2 f fd ["value"] F_is_word := by
  refine sf_mk F_ sc_is_word rfl rfl fun cdv A outer s H E hr => ?_
  have hu := hu64 hr
  have hu5 := hu65 hr
  have tk : Takes (cxOf (L2.CX P w) P w K mg base N_is_word "is_word" (defScope st_is_word) f cdv A outer s H E) (fun cls d _ H => E cls d H) := takes_of rfl rfl rfl rfl
  have hx : Passes (L2.CX P w) (cxOf (L2.CX P w) P w K mg base N_is_word "is_word" (defScope st_is_word) f cdv A outer s H E) E := passes_call tk fun _ _ _ _ h => h
  have hpo := passes_of (X := (cxOf (L2.CX P w) P w K mg base N_is_word "is_word" (defScope st_is_word) f cdv A outer s H E)) rfl
  exact (sb_one (ss_ret (se_and (se_isi (T' := "str") (se_var (pv 0)) rfl B.b_isinstance rfl B.b_str (by decide +kernel) (by decide)) (se_and (se_chain op_le op_le gr_le gr_le se_int (se_len rfl B.b_len (sa_cons (se_var (pv 0)) sa_nil)) se_int) (se_one (se_all rfl rfl B.b_all (sa_cons (se_lc (own := [("sign", 1)]) rfl (sc_is_word).nd (si_seq (se_var (pv 0))) (blkOk_by (own := [("sign", 1)]) (N := N_is_word) (sc := defScope st_is_word) (by decide +kernel)) (fun _ _ _ _ _ => (sg_name (pg_name (i := 1) (sc_is_word).nd rfl (by first | exact Or.inl rfl | exact Or.inr rfl)))) (fun _ _ _ _ _ => sts_nil) (fun _ _ _ _ _ => (se_cmp (op_inA hu5) gr_in (se_var (pv 1)) (se_cn rfl C.c_LETTERS) (by rfl)))) sa_nil)))))))
/-! ### is_name -/
abbrev st_is_name : Stmt := (top 23)
def N_is_name : List Str := ["value"]
theorem sc_is_name : FnScope N_is_name ["value"] (defScope st_is_name) := ⟨rfl, rfl, rfl, by decide +kernel, rfl, by decide +kernel, by decide +kernel⟩
theorem ok_is_name (B : Bl mg) (C : Cn K mg) (L : Lf K cl)  {f_is_word : Addr} {fd_is_word : FuncData} (h_is_word : At P w K cl mg base 2 "is_word" st_is_word ["value"] f_is_word fd_is_word G_is_word)  {f : Addr} {fd : FuncData} (F_ : Fun K "is_name" "is_name" st_is_name f fd) : SF P w K cl mg base 4 f fd ["value"] F_is_name := by
  refine sf_mk F_ sc_is_name rfl rfl fun cdv A outer s H E hr => ?_
  have hu := hu64 hr
  have hu5 := hu65 hr
  have tk : Takes (cxOf (L2.CX P w) P w K mg base N_is_name "is_name" (defScope st_is_name) f cdv A outer s H E) (fun cls d _ H => E cls d H) := takes_of rfl rfl rfl rfl
  have hx : Passes (L2.CX P w) (cxOf (L2.CX P w) P w K mg base N_is_name "is_name" (defScope st_is_name) f cdv A outer s H E) E := passes_call tk fun _ _ _ _ h => h
  have hpo := passes_of (X := (cxOf (L2.CX P w) P w K mg base N_is_name "is_name" (defScope st_is_name) f cdv A outer s H E)) rfl
  exact (sb_one (ss_ret (se_and (se_fn h_is_word.ok (hr.mono (by decide)) rfl h_is_word.g h_is_word.F.kp h_is_word.b hx (sa_cons (se_var (pv 0)) sa_nil)) (se_one (se_cmp (op_notInA hu5) gr_notIn (se_var (pv 0)) (se_cn rfl C.c_RESERVED) (by rfl))))))
/-! ### is_pair -/
abbrev st_is_pair : Stmt := (top 26)
def N_is_pair : List Str := ["value"]
theorem sc_is_pair : FnScope N_is_pair ["value"] (defScope st_is_pair) := ⟨rfl, rfl, rfl, by decide +kernel, rfl, by decide +kernel, by decide +kernel⟩
theorem ok_is_pair (B : Bl mg) (C : Cn K mg) (L : Lf K cl)    {f : Addr} {fd : FuncData} (F_ : Fun K "is_pair" "is_pair" st_is_pair f fd) : SF P w K cl mg base 2 f fd ["value"] F_is_pair := by
  refine sf_mk F_ sc_is_pair rfl rfl fun cdv A outer s H E hr => ?_
  have hu := hu64 hr
  have hu5 := hu65 hr
  have tk : Takes (cxOf (L2.CX P w) P w K mg base N_is_pair "is_pair" (defScope st_is_pair) f cdv A outer s H E) (fun cls d _ H => E cls d H) := takes_of rfl rfl rfl rfl
  have hx : Passes (L2.CX P w) (cxOf (L2.CX P w) P w K mg base N_is_pair "is_pair" (defScope st_is_pair) f cdv A outer s H E) E := passes_call tk fun _ _ _ _ h => h
  have hpo := passes_of (X := (cxOf (L2.CX P w) P w K mg base N_is_pair "is_pair" (defScope st_is_pair) f cdv A outer s H E)) rfl
  exact (sb_one (ss_ret (se_and (se_isi (T' := "tuple") (se_var (pv 0)) rfl B.b_isinstance rfl B.b_tuple (by decide +kernel) (by decide)) (se_and (se_cmp (op_eqA hu) gr_eq (se_len rfl B.b_len (sa_cons (se_var (pv 0)) sa_nil)) se_int (nomark _)) (se_one (se_isi (T' := "str") (se_ix (se_var (pv 0)) se_int (fun _ _ => rfl)) rfl B.b_isinstance rfl B.b_str (by decide +kernel) (by decide)))))))
/-! ### is_store -/
abbrev st_is_store : Stmt := (top 30)
def N_is_store : List Str := ["value"]
theorem sc_is_store : FnScope N_is_store ["value"] (defScope st_is_store) := ⟨rfl, rfl, rfl, by decide +kernel, rfl, by decide +kernel, by decide +kernel⟩
theorem ok_is_store (B : Bl mg) (C : Cn K mg) (L : Lf K cl)  {f_is_pair : Addr} {fd_is_pair : FuncData} (h_is_pair : At P w K cl mg base 2 "is_pair" st_is_pair ["value"] f_is_pair fd_is_pair G_is_pair) {f_is_name : Addr} {fd_is_name : FuncData} (h_is_name : At P w K cl mg base 4 "is_name" st_is_name ["value"] f_is_name fd_is_name G_is_name)  {f : Addr} {fd : FuncData} (F_ : Fun K "is_store" "is_store" st_is_store f fd) : SF P w K cl mg base 6 f fd ["value"] F_is_store := by
  refine sf_mk F_ sc_is_store rfl rfl fun cdv A outer s H E hr => ?_
  have hu := hu64 hr
  have hu5 := hu65 hr
  have tk : Takes (cxOf (L2.CX P w) P w K mg base N_is_store "is_store" (defScope st_is_store) f cdv A outer s H E) (fun cls d _ H => E cls d H) := takes_of rfl rfl rfl rfl
  have hx : Passes (L2.CX P w) (cxOf (L2.CX P w) P w K mg base N_is_store "is_store" (defScope st_is_store) f cdv A outer s H E) E := passes_call tk fun _ _ _ _ h => h
  have hpo := passes_of (X := (cxOf (L2.CX P w) P w K mg base N_is_store "is_store" (defScope st_is_store) f cdv A outer s H E)) rfl
  exact (sb_one (ss_ret (se_and (se_fn h_is_pair.ok (hr.mono (by decide)) rfl h_is_pair.g h_is_pair.F.kp h_is_pair.b hx (sa_cons (se_var (pv 0)) sa_nil)) (se_and (se_fn h_is_name.ok (hr.mono (by decide)) rfl h_is_name.g h_is_name.F.kp h_is_name.b hx (sa_cons (se_ix (se_var (pv 0)) se_int (fun _ _ => rfl)) sa_nil)) (se_and (se_isi (T' := "str") (se_ix (se_var (pv 0)) se_int (fun _ _ => rfl)) rfl B.b_isinstance rfl B.b_str (by decide +kernel) (by decide)) (se_one (se_cmp (op_inA hu5) gr_in (se_ix (se_var (pv 0)) se_int (fun _ _ => rfl)) (se_tup (sa_cons se_str (sa_cons se_str sa_nil))) (by rfl))))))))
/-! ### check_stores -/
abbrev st_check_stores : Stmt := (top 37)
def N_check_stores : List Str := ["stores", "names", "at", "store"]
theorem sc_check_stores : FnScope N_check_stores ["stores"] (defScope st_check_stores) := ⟨rfl, rfl, rfl, by decide +kernel, rfl, by decide +kernel, by decide +kernel⟩
theorem ok_check_stores (B : Bl mg) (C : Cn K mg) (L : Lf K cl)  {f_is_list : Addr} {fd_is_list : FuncData} (h_is_list : At P w K cl mg base 2 "is_list" st_is_list ["value"] f_is_list fd_is_list G_is_list) {f_is_store : Addr} {fd_is_store : FuncData} (h_is_store : At P w K cl mg base 6 "is_store" st_is_store ["value"] f_is_store fd_is_store G_is_store)  {f : Addr} {fd : FuncData} (F_ : Fun K "check_stores" "check_stores" st_check_stores f fd) : SF P w K cl mg base 8 f fd ["stores"] F_check_stores := by
  refine sf_mk F_ sc_check_stores rfl rfl fun cdv A outer s H E hr => ?_
  have hu := hu64 hr
  have hu5 := hu65 hr
  have tk : Takes (cxOf (L2.CX P w) P w K mg base N_check_stores "check_stores" (defScope st_check_stores) f cdv A outer s H E) (fun cls d _ H => E cls d H) := takes_of rfl rfl rfl rfl
  have hx : Passes (L2.CX P w) (cxOf (L2.CX P w) P w K mg base N_check_stores "check_stores" (defScope st_check_stores) f cdv A outer s H E) E := passes_call tk fun _ _ _ _ h => h
  have hpo := passes_of (X := (cxOf (L2.CX P w) P w K mg base N_check_stores "check_stores" (defScope st_check_stores) f cdv A outer s H E)) rfl
  exact (sb_cons (ss_if (st_of (sw_or (st_not (st_truth (se_fn h_is_list.ok (hr.mono (by decide)) rfl h_is_list.g h_is_list.F.kp h_is_list.b hx (sa_cons (se_var (pv 0)) sa_nil)) (fun _ => rfl))) (sw_or1 (st_cmp (op_eqA hu) gr_eq (se_len rfl B.b_len (sa_cons (se_var (pv 0)) sa_nil)) se_int (nomark _))))) (sb_one ss_never) sb_nil)
  (sb_cons (ss_set (i := 1) (sc_check_stores).nd rfl (by first | exact Or.inl rfl | exact Or.inr rfl) (se_lstM sa_nil))
  (sb_one (ss_for hpo rfl (si_enum rfl B.b_enumerate (sa_cons (se_var (pv 0)) sa_nil)) (sg_tup rfl (sgs_cons (sg_name (pg_name (i := 2) (sc_check_stores).nd rfl (by first | exact Or.inl rfl | exact Or.inr rfl))) (sgs_cons (sg_name (pg_name (i := 3) (sc_check_stores).nd rfl (by first | exact Or.inl rfl | exact Or.inr rfl))) sgs_nil))) (sb_cons (ss_if (st_of (sw_or (st_cmp op_ge gr_ge (se_var (pv 2)) (se_cn rfl C.c_MOST_STORES) (nomark _)) (sw_or (st_not (st_truth (se_fn h_is_store.ok (hr.mono (by decide)) rfl h_is_store.g h_is_store.F.kp h_is_store.b hx (sa_cons (se_var (pv 3)) sa_nil)) (fun _ => rfl))) (sw_or1 (st_cmp (op_inA hu5) gr_in (se_ix (se_var (pv 3)) se_int (fun _ _ => rfl)) (se_var (pv 1)) (by rfl)))))) (sb_one ss_never) sb_nil)
  (sb_one (ss_expr (se_append (se_var (pv 1)) (se_ix (se_var (pv 3)) se_int (fun _ _ => rfl))))))))))
/-! ### check_marks -/
abbrev st_check_marks : Stmt := (top 38)
def N_check_marks : List Str := ["marks", "names", "at", "mark"]
theorem sc_check_marks : FnScope N_check_marks ["marks", "names"] (defScope st_check_marks) := ⟨rfl, rfl, rfl, by decide +kernel, rfl, by decide +kernel, by decide +kernel⟩
theorem ok_check_marks (B : Bl mg) (C : Cn K mg) (L : Lf K cl)  {f_is_list : Addr} {fd_is_list : FuncData} (h_is_list : At P w K cl mg base 2 "is_list" st_is_list ["value"] f_is_list fd_is_list G_is_list) {f_is_name : Addr} {fd_is_name : FuncData} (h_is_name : At P w K cl mg base 4 "is_name" st_is_name ["value"] f_is_name fd_is_name G_is_name)  {f : Addr} {fd : FuncData} (F_ : Fun K "check_marks" "check_marks" st_check_marks f fd) : SF P w K cl mg base 6 f fd ["marks", "names"] F_check_marks := by
  refine sf_mk F_ sc_check_marks rfl rfl fun cdv A outer s H E hr => ?_
  have hu := hu64 hr
  have hu5 := hu65 hr
  have tk : Takes (cxOf (L2.CX P w) P w K mg base N_check_marks "check_marks" (defScope st_check_marks) f cdv A outer s H E) (fun cls d _ H => E cls d H) := takes_of rfl rfl rfl rfl
  have hx : Passes (L2.CX P w) (cxOf (L2.CX P w) P w K mg base N_check_marks "check_marks" (defScope st_check_marks) f cdv A outer s H E) E := passes_call tk fun _ _ _ _ h => h
  have hpo := passes_of (X := (cxOf (L2.CX P w) P w K mg base N_check_marks "check_marks" (defScope st_check_marks) f cdv A outer s H E)) rfl
  exact (sb_cons (ss_if (st_not (st_truth (se_fn h_is_list.ok (hr.mono (by decide)) rfl h_is_list.g h_is_list.F.kp h_is_list.b hx (sa_cons (se_var (pv 0)) sa_nil)) (fun _ => rfl))) (sb_one ss_never) sb_nil)
  (sb_one (ss_for hpo rfl (si_enum rfl B.b_enumerate (sa_cons (se_var (pv 0)) sa_nil)) (sg_tup rfl (sgs_cons (sg_name (pg_name (i := 2) (sc_check_marks).nd rfl (by first | exact Or.inl rfl | exact Or.inr rfl))) (sgs_cons (sg_name (pg_name (i := 3) (sc_check_marks).nd rfl (by first | exact Or.inl rfl | exact Or.inr rfl))) sgs_nil))) (sb_one (ss_if (st_of (sw_or (st_cmp op_ge gr_ge (se_var (pv 2)) (se_cn rfl C.c_MOST_MARKS) (nomark _)) (sw_or (st_not (st_truth (se_fn h_is_name.ok (hr.mono (by decide)) rfl h_is_name.g h_is_name.F.kp h_is_name.b hx (sa_cons (se_var (pv 3)) sa_nil)) (fun _ => rfl))) (sw_or (st_cmp (op_inA hu5) gr_in (se_var (pv 3)) (se_var (pv 1)) (by rfl)) (sw_or1 (st_cmp (op_inA hu5) gr_in (se_var (pv 3)) (se_slice (se_var (pv 0)) so_none (so_some (se_var (pv 2)))) (by rfl))))))) (sb_one ss_never) sb_nil)))))
/-! ### are_pairs -/
abbrev st_are_pairs : Stmt := (top 27)
def N_are_pairs : List Str := ["value", "heads", "found", "pair", "head"]
theorem sc_are_pairs : FnScope N_are_pairs ["value", "heads"] (defScope st_are_pairs) := ⟨rfl, rfl, rfl, by decide +kernel, rfl, by decide +kernel, by decide +kernel⟩
theorem ok_are_pairs (B : Bl mg) (C : Cn K mg) (L : Lf K cl)  {f_is_pair : Addr} {fd_is_pair : FuncData} (h_is_pair : At P w K cl mg base 2 "is_pair" st_is_pair ["value"] f_is_pair fd_is_pair G_is_pair)  {f : Addr} {fd : FuncData} (F_ : Fun K "are_pairs" "are_pairs" st_are_pairs f fd) : SF P w K cl mg base 4 f fd ["value", "heads"] F_are_pairs := by
  refine sf_mk F_ sc_are_pairs rfl rfl fun cdv A outer s H E hr => ?_
  have hu := hu64 hr
  have hu5 := hu65 hr
  have tk : Takes (cxOf (L2.CX P w) P w K mg base N_are_pairs "are_pairs" (defScope st_are_pairs) f cdv A outer s H E) (fun cls d _ H => E cls d H) := takes_of rfl rfl rfl rfl
  have hx : Passes (L2.CX P w) (cxOf (L2.CX P w) P w K mg base N_are_pairs "are_pairs" (defScope st_are_pairs) f cdv A outer s H E) E := passes_call tk fun _ _ _ _ h => h
  have hpo := passes_of (X := (cxOf (L2.CX P w) P w K mg base N_are_pairs "are_pairs" (defScope st_are_pairs) f cdv A outer s H E)) rfl
  exact (sb_cons (ss_if (st_of (sw_or (st_not (st_truth (se_isi (T' := "tuple") (se_var (pv 0)) rfl B.b_isinstance rfl B.b_tuple (by decide +kernel) (by decide)) (fun _ => rfl))) (sw_or1 (st_not (st_truth (se_all rfl rfl B.b_all (sa_cons (se_lc (own := [("pair", 3)]) rfl (sc_are_pairs).nd (si_seq (se_var (pv 0))) (blkOk_by (own := [("pair", 3)]) (N := N_are_pairs) (sc := defScope st_are_pairs) (by decide +kernel)) (fun _ _ _ _ _ => (sg_name (pg_name (i := 3) (sc_are_pairs).nd rfl (by first | exact Or.inl rfl | exact Or.inr rfl)))) (fun _ _ _ _ _ => sts_nil) (fun _ _ _ _ _ => (se_fn h_is_pair.ok (hr.mono (by decide)) rfl h_is_pair.g h_is_pair.F.kp h_is_pair.b passL (sa_cons (se_var (pv 3)) sa_nil)))) sa_nil)) (fun _ => rfl)))))) (sb_one (ss_ret se_bl)) sb_nil)
  (sb_cons (ss_setLc (i := 2) (own := [("pair", 3)]) rfl (sc_are_pairs).nd rfl rfl (sw_true rfl rfl rfl (by decide +kernel)) (si_seq (se_var (pv 0))) (blkOk_by (own := [("pair", 3)]) (N := N_are_pairs) (sc := defScope st_are_pairs) (by decide +kernel)) (fun _ _ _ _ _ => (sg_name (pg_name (i := 3) (sc_are_pairs).nd rfl (by first | exact Or.inl rfl | exact Or.inr rfl)))) (fun _ _ _ _ _ => sts_nil) (fun _ _ _ _ _ => (se_ix (se_var (pv 3)) se_int (fun _ _ => rfl))))
  (sb_one (ss_ret (se_and (se_all rfl rfl B.b_all (sa_cons (se_lc (own := [("head", 4)]) rfl (sc_are_pairs).nd (si_seq (se_var (pv 2))) (blkOk_by (own := [("head", 4)]) (N := N_are_pairs) (sc := defScope st_are_pairs) (by decide +kernel)) (fun _ _ _ _ _ => (sg_name (pg_name (i := 4) (sc_are_pairs).nd rfl (by first | exact Or.inl rfl | exact Or.inr rfl)))) (fun _ _ _ _ _ => sts_nil) (fun _ _ _ _ _ => (se_cmp (op_inA hu5) gr_in (se_var (pv 4)) (se_var (pv 1)) (by rfl)))) sa_nil)) (se_one (se_cmp (op_eqA hu) gr_eq (se_lenSet rfl rfl B.b_len rfl B.b_set (se_var (pv 2))) (se_len rfl B.b_len (sa_cons (se_var (pv 2)) sa_nil)) (nomark _))))))))
/-! ### is_tests -/
abbrev st_is_tests : Stmt := (top 28)
def N_is_tests : List Str := ["value", "marks", "head", "number"]
theorem sc_is_tests : FnScope N_is_tests ["value", "marks"] (defScope st_is_tests) := ⟨rfl, rfl, rfl, by decide +kernel, rfl, by decide +kernel, by decide +kernel⟩
theorem ok_is_tests (B : Bl mg) (C : Cn K mg) (L : Lf K cl)  {f_are_pairs : Addr} {fd_are_pairs : FuncData} (h_are_pairs : At P w K cl mg base 4 "are_pairs" st_are_pairs ["value", "heads"] f_are_pairs fd_are_pairs G_are_pairs) {f_is_number : Addr} {fd_is_number : FuncData} (h_is_number : At P w K cl mg base 2 "is_number" st_is_number ["value", "least", "most"] f_is_number fd_is_number G_is_number)  {f : Addr} {fd : FuncData} (F_ : Fun K "is_tests" "is_tests" st_is_tests f fd) : SF P w K cl mg base 6 f fd ["value", "marks"] F_is_tests := by
  refine sf_mk F_ sc_is_tests rfl rfl fun cdv A outer s H E hr => ?_
  have hu := hu64 hr
  have hu5 := hu65 hr
  have tk : Takes (cxOf (L2.CX P w) P w K mg base N_is_tests "is_tests" (defScope st_is_tests) f cdv A outer s H E) (fun cls d _ H => E cls d H) := takes_of rfl rfl rfl rfl
  have hx : Passes (L2.CX P w) (cxOf (L2.CX P w) P w K mg base N_is_tests "is_tests" (defScope st_is_tests) f cdv A outer s H E) E := passes_call tk fun _ _ _ _ h => h
  have hpo := passes_of (X := (cxOf (L2.CX P w) P w K mg base N_is_tests "is_tests" (defScope st_is_tests) f cdv A outer s H E)) rfl
  exact (sb_cons (ss_if (st_not (st_truth (se_fn h_are_pairs.ok (hr.mono (by decide)) rfl h_are_pairs.g h_are_pairs.F.kp h_are_pairs.b hx (sa_cons (se_var (pv 0)) (sa_cons (se_lst (sa_star (se_var (pv 1)) (sa_cons se_str (sa_cons se_str sa_nil)))) sa_nil))) (fun _ => rfl))) (sb_one (ss_ret se_bl)) sb_nil)
  (sb_one (ss_ret (se_all rfl rfl B.b_all (sa_cons (se_lc (own := [("head", 2), ("number", 3)]) rfl (sc_is_tests).nd (si_seq (se_var (pv 0))) (blkOk_by (own := [("head", 2), ("number", 3)]) (N := N_is_tests) (sc := defScope st_is_tests) (by decide +kernel)) (fun _ _ _ _ _ => (sg_tup rfl (sgs_cons (sg_name (pg_name (i := 2) (sc_is_tests).nd rfl (by first | exact Or.inl rfl | exact Or.inr rfl))) (sgs_cons (sg_name (pg_name (i := 3) (sc_is_tests).nd rfl (by first | exact Or.inl rfl | exact Or.inr rfl))) sgs_nil)))) (fun _ _ _ _ _ => sts_nil) (fun _ _ _ _ _ => (se_fn h_is_number.ok (hr.mono (by decide)) rfl h_is_number.g h_is_number.F.kp h_is_number.b passL (sa_cons (se_var (pv 3)) (sa_cons se_int (sa_cons (se_if (st_cmp (op_inA hu5) gr_in (se_var (pv 2)) (se_tup (sa_cons se_str (sa_cons se_str sa_nil))) (by rfl)) (se_cn rfl C.c_MOST_WAIT) se_int) sa_nil)))))) sa_nil)))))
/-! ### is_settings -/
abbrev st_is_settings : Stmt := (top 29)
def N_is_settings : List Str := ["value", "marks", "mark", "number"]
theorem sc_is_settings : FnScope N_is_settings ["value", "marks"] (defScope st_is_settings) := ⟨rfl, rfl, rfl, by decide +kernel, rfl, by decide +kernel, by decide +kernel⟩
theorem ok_is_settings (B : Bl mg) (C : Cn K mg) (L : Lf K cl)  {f_are_pairs : Addr} {fd_are_pairs : FuncData} (h_are_pairs : At P w K cl mg base 4 "are_pairs" st_are_pairs ["value", "heads"] f_are_pairs fd_are_pairs G_are_pairs) {f_is_number : Addr} {fd_is_number : FuncData} (h_is_number : At P w K cl mg base 2 "is_number" st_is_number ["value", "least", "most"] f_is_number fd_is_number G_is_number)  {f : Addr} {fd : FuncData} (F_ : Fun K "is_settings" "is_settings" st_is_settings f fd) : SF P w K cl mg base 6 f fd ["value", "marks"] F_is_settings := by
  refine sf_mk F_ sc_is_settings rfl rfl fun cdv A outer s H E hr => ?_
  have hu := hu64 hr
  have hu5 := hu65 hr
  have tk : Takes (cxOf (L2.CX P w) P w K mg base N_is_settings "is_settings" (defScope st_is_settings) f cdv A outer s H E) (fun cls d _ H => E cls d H) := takes_of rfl rfl rfl rfl
  have hx : Passes (L2.CX P w) (cxOf (L2.CX P w) P w K mg base N_is_settings "is_settings" (defScope st_is_settings) f cdv A outer s H E) E := passes_call tk fun _ _ _ _ h => h
  have hpo := passes_of (X := (cxOf (L2.CX P w) P w K mg base N_is_settings "is_settings" (defScope st_is_settings) f cdv A outer s H E)) rfl
  exact (sb_one (ss_ret (se_and (se_fn h_are_pairs.ok (hr.mono (by decide)) rfl h_are_pairs.g h_are_pairs.F.kp h_are_pairs.b hx (sa_cons (se_var (pv 0)) (sa_cons (se_var (pv 1)) sa_nil))) (se_one (se_all rfl rfl B.b_all (sa_cons (se_lc (own := [("mark", 2), ("number", 3)]) rfl (sc_is_settings).nd (si_seq (se_var (pv 0))) (blkOk_by (own := [("mark", 2), ("number", 3)]) (N := N_is_settings) (sc := defScope st_is_settings) (by decide +kernel)) (fun _ _ _ _ _ => (sg_tup rfl (sgs_cons (sg_name (pg_name (i := 2) (sc_is_settings).nd rfl (by first | exact Or.inl rfl | exact Or.inr rfl))) (sgs_cons (sg_name (pg_name (i := 3) (sc_is_settings).nd rfl (by first | exact Or.inl rfl | exact Or.inr rfl))) sgs_nil)))) (fun _ _ _ _ _ => sts_nil) (fun _ _ _ _ _ => (se_fn h_is_number.ok (hr.mono (by decide)) rfl h_is_number.g h_is_number.F.kp h_is_number.b passL (sa_cons (se_var (pv 3)) (sa_cons se_int (sa_cons se_int sa_nil)))))) sa_nil))))))
/-! ### is_message -/
abbrev st_is_message : Stmt := (top 32)
def N_is_message : List Str := ["value"]
theorem sc_is_message : FnScope N_is_message ["value"] (defScope st_is_message) := ⟨rfl, rfl, rfl, by decide +kernel, rfl, by decide +kernel, by decide +kernel⟩
theorem ok_is_message (B : Bl mg) (C : Cn K mg) (L : Lf K cl)    {f : Addr} {fd : FuncData} (F_ : Fun K "is_message" "is_message" st_is_message f fd) : SF P w K cl mg base 2 f fd ["value"] F_is_message := by
  refine sf_mk F_ sc_is_message rfl rfl fun cdv A outer s H E hr => ?_
  have hu := hu64 hr
  have hu5 := hu65 hr
  have tk : Takes (cxOf (L2.CX P w) P w K mg base N_is_message "is_message" (defScope st_is_message) f cdv A outer s H E) (fun cls d _ H => E cls d H) := takes_of rfl rfl rfl rfl
  have hx : Passes (L2.CX P w) (cxOf (L2.CX P w) P w K mg base N_is_message "is_message" (defScope st_is_message) f cdv A outer s H E) E := passes_call tk fun _ _ _ _ h => h
  have hpo := passes_of (X := (cxOf (L2.CX P w) P w K mg base N_is_message "is_message" (defScope st_is_message) f cdv A outer s H E)) rfl
  exact (sb_one (ss_ret (se_and (se_isi (T' := "str") (se_var (pv 0)) rfl B.b_isinstance rfl B.b_str (by decide +kernel) (by decide)) (se_one (se_cmp (op_inA hu5) gr_in (se_var (pv 0)) (se_tup (sa_cons se_str (sa_cons se_str sa_nil))) (by rfl))))))
/-! ### is_note -/
abbrev st_is_note : Stmt := (top 31)
def N_is_note : List Str := ["value", "marks"]
theorem sc_is_note : FnScope N_is_note ["value", "marks"] (defScope st_is_note) := ⟨rfl, rfl, rfl, by decide +kernel, rfl, by decide +kernel, by decide +kernel⟩
theorem ok_is_note (B : Bl mg) (C : Cn K mg) (L : Lf K cl)  {f_is_message : Addr} {fd_is_message : FuncData} (h_is_message : At P w K cl mg base 2 "is_message" st_is_message ["value"] f_is_message fd_is_message G_is_message) {f_is_tests : Addr} {fd_is_tests : FuncData} (h_is_tests : At P w K cl mg base 6 "is_tests" st_is_tests ["value", "marks"] f_is_tests fd_is_tests G_is_tests) {f_is_settings : Addr} {fd_is_settings : FuncData} (h_is_settings : At P w K cl mg base 6 "is_settings" st_is_settings ["value", "marks"] f_is_settings fd_is_settings G_is_settings)  {f : Addr} {fd : FuncData} (F_ : Fun K "is_note" "is_note" st_is_note f fd) : SF P w K cl mg base 8 f fd ["value", "marks"] F_is_note := by
  refine sf_mk F_ sc_is_note rfl rfl fun cdv A outer s H E hr => ?_
  have hu := hu64 hr
  have hu5 := hu65 hr
  have tk : Takes (cxOf (L2.CX P w) P w K mg base N_is_note "is_note" (defScope st_is_note) f cdv A outer s H E) (fun cls d _ H => E cls d H) := takes_of rfl rfl rfl rfl
  have hx : Passes (L2.CX P w) (cxOf (L2.CX P w) P w K mg base N_is_note "is_note" (defScope st_is_note) f cdv A outer s H E) E := passes_call tk fun _ _ _ _ h => h
  have hpo := passes_of (X := (cxOf (L2.CX P w) P w K mg base N_is_note "is_note" (defScope st_is_note) f cdv A outer s H E)) rfl
  exact (sb_cons (ss_if (st_of (sw_or (st_not (st_truth (se_isi (T' := "tuple") (se_var (pv 0)) rfl B.b_isinstance rfl B.b_tuple (by decide +kernel) (by decide)) (fun _ => rfl))) (sw_or (st_cmp (op_neA hu) gr_ne (se_len rfl B.b_len (sa_cons (se_var (pv 0)) sa_nil)) se_int (nomark _)) (sw_or1 (st_not (st_truth (se_fn h_is_message.ok (hr.mono (by decide)) rfl h_is_message.g h_is_message.F.kp h_is_message.b hx (sa_cons (se_ix (se_var (pv 0)) se_int (fun _ _ => rfl)) sa_nil)) (fun _ => rfl))))))) (sb_one (ss_ret se_bl)) sb_nil)
  (sb_one (ss_ret (se_and (se_fn h_is_tests.ok (hr.mono (by decide)) rfl h_is_tests.g h_is_tests.F.kp h_is_tests.b hx (sa_cons (se_ix (se_var (pv 0)) se_int (fun _ _ => rfl)) (sa_cons (se_var (pv 1)) sa_nil))) (se_one (se_fn h_is_settings.ok (hr.mono (by decide)) rfl h_is_settings.g h_is_settings.F.kp h_is_settings.b hx (sa_cons (se_ix (se_var (pv 0)) se_int (fun _ _ => rfl)) (sa_cons (se_var (pv 1)) sa_nil))))))))
/-! ### check_notes -/
abbrev st_check_notes : Stmt := (top 39)
def N_check_notes : List Str := ["notes", "marks", "at", "note"]
theorem sc_check_notes : FnScope N_check_notes ["notes", "marks"] (defScope st_check_notes) := ⟨rfl, rfl, rfl, by decide +kernel, rfl, by decide +kernel, by decide +kernel⟩
theorem ok_check_notes (B : Bl mg) (C : Cn K mg) (L : Lf K cl)  {f_is_list : Addr} {fd_is_list : FuncData} (h_is_list : At P w K cl mg base 2 "is_list" st_is_list ["value"] f_is_list fd_is_list G_is_list) {f_is_note : Addr} {fd_is_note : FuncData} (h_is_note : At P w K cl mg base 8 "is_note" st_is_note ["value", "marks"] f_is_note fd_is_note G_is_note)  {f : Addr} {fd : FuncData} (F_ : Fun K "check_notes" "check_notes" st_check_notes f fd) : SF P w K cl mg base 10 f fd ["notes", "marks"] F_check_notes := by
  refine sf_mk F_ sc_check_notes rfl rfl fun cdv A outer s H E hr => ?_
  have hu := hu64 hr
  have hu5 := hu65 hr
  have tk : Takes (cxOf (L2.CX P w) P w K mg base N_check_notes "check_notes" (defScope st_check_notes) f cdv A outer s H E) (fun cls d _ H => E cls d H) := takes_of rfl rfl rfl rfl
  have hx : Passes (L2.CX P w) (cxOf (L2.CX P w) P w K mg base N_check_notes "check_notes" (defScope st_check_notes) f cdv A outer s H E) E := passes_call tk fun _ _ _ _ h => h
  have hpo := passes_of (X := (cxOf (L2.CX P w) P w K mg base N_check_notes "check_notes" (defScope st_check_notes) f cdv A outer s H E)) rfl
  exact (sb_cons (ss_if (st_not (st_truth (se_fn h_is_list.ok (hr.mono (by decide)) rfl h_is_list.g h_is_list.F.kp h_is_list.b hx (sa_cons (se_var (pv 0)) sa_nil)) (fun _ => rfl))) (sb_one ss_never) sb_nil)
  (sb_one (ss_for hpo rfl (si_enum rfl B.b_enumerate (sa_cons (se_var (pv 0)) sa_nil)) (sg_tup rfl (sgs_cons (sg_name (pg_name (i := 2) (sc_check_notes).nd rfl (by first | exact Or.inl rfl | exact Or.inr rfl))) (sgs_cons (sg_name (pg_name (i := 3) (sc_check_notes).nd rfl (by first | exact Or.inl rfl | exact Or.inr rfl))) sgs_nil))) (sb_one (ss_if (st_of (sw_or (st_cmp op_ge gr_ge (se_var (pv 2)) (se_cn rfl C.c_MOST_ITEMS) (nomark _)) (sw_or1 (st_not (st_truth (se_fn h_is_note.ok (hr.mono (by decide)) rfl h_is_note.g h_is_note.F.kp h_is_note.b hx (sa_cons (se_var (pv 3)) (sa_cons (se_var (pv 1)) sa_nil))) (fun _ => rfl)))))) (sb_one ss_never) sb_nil)))))
/-! ### is_entry -/
abbrev st_is_entry : Stmt := (top 33)
def N_is_entry : List Str := ["value", "places", "marks", "fold", "word", "tests", "known", "moves", "learn", "least", "store", "number"]
theorem sc_is_entry : FnScope N_is_entry ["value", "places", "marks", "fold"] (defScope st_is_entry) := ⟨rfl, rfl, rfl, by decide +kernel, rfl, by decide +kernel, by decide +kernel⟩
theorem ok_is_entry (B : Bl mg) (C : Cn K mg) (L : Lf K cl)  {f_is_message : Addr} {fd_is_message : FuncData} (h_is_message : At P w K cl mg base 2 "is_message" st_is_message ["value"] f_is_message fd_is_message G_is_message) {f_is_tests : Addr} {fd_is_tests : FuncData} (h_is_tests : At P w K cl mg base 6 "is_tests" st_is_tests ["value", "marks"] f_is_tests fd_is_tests G_is_tests) {f_are_pairs : Addr} {fd_are_pairs : FuncData} (h_are_pairs : At P w K cl mg base 4 "are_pairs" st_are_pairs ["value", "heads"] f_are_pairs fd_are_pairs G_are_pairs) {f_is_number : Addr} {fd_is_number : FuncData} (h_is_number : At P w K cl mg base 2 "is_number" st_is_number ["value", "least", "most"] f_is_number fd_is_number G_is_number)  {f : Addr} {fd : FuncData} (F_ : Fun K "is_entry" "is_entry" st_is_entry f fd) : SF P w K cl mg base 8 f fd ["value", "places", "marks", "fold"] F_is_entry := by
  refine sf_mk F_ sc_is_entry rfl rfl fun cdv A outer s H E hr => ?_
  have hu := hu64 hr
  have hu5 := hu65 hr
  have tk : Takes (cxOf (L2.CX P w) P w K mg base N_is_entry "is_entry" (defScope st_is_entry) f cdv A outer s H E) (fun cls d _ H => E cls d H) := takes_of rfl rfl rfl rfl
  have hx : Passes (L2.CX P w) (cxOf (L2.CX P w) P w K mg base N_is_entry "is_entry" (defScope st_is_entry) f cdv A outer s H E) E := passes_call tk fun _ _ _ _ h => h
  have hpo := passes_of (X := (cxOf (L2.CX P w) P w K mg base N_is_entry "is_entry" (defScope st_is_entry) f cdv A outer s H E)) rfl
  exact (sb_cons (ss_if (st_of (sw_or (st_not (st_truth (se_isi (T' := "tuple") (se_var (pv 0)) rfl B.b_isinstance rfl B.b_tuple (by decide +kernel) (by decide)) (fun _ => rfl))) (sw_or (st_cmp (op_neA hu) gr_ne (se_len rfl B.b_len (sa_cons (se_var (pv 0)) sa_nil)) se_int (nomark _)) (sw_or1 (st_not (st_truth (se_fn h_is_message.ok (hr.mono (by decide)) rfl h_is_message.g h_is_message.F.kp h_is_message.b hx (sa_cons (se_ix (se_var (pv 0)) se_int (fun _ _ => rfl)) sa_nil)) (fun _ => rfl))))))) (sb_one (ss_ret se_bl)) sb_nil)
  (sb_cons (ss_asg (se_var (pv 0)) (sg_tup rfl (sgs_cons (sg_name (pg_name (i := 4) (sc_is_entry).nd rfl (by first | exact Or.inl rfl | exact Or.inr rfl))) (sgs_cons (sg_name (pg_name (i := 5) (sc_is_entry).nd rfl (by first | exact Or.inl rfl | exact Or.inr rfl))) (sgs_cons (sg_name (pg_name (i := 6) (sc_is_entry).nd rfl (by first | exact Or.inl rfl | exact Or.inr rfl))) (sgs_cons (sg_name (pg_name (i := 7) (sc_is_entry).nd rfl (by first | exact Or.inl rfl | exact Or.inr rfl))) (sgs_cons (sg_name (pg_name (i := 8) (sc_is_entry).nd rfl (by first | exact Or.inl rfl | exact Or.inr rfl))) sgs_nil)))))))
  (sb_cons (ss_if (st_of (sw_or (st_not (st_truth (se_fn h_is_tests.ok (hr.mono (by decide)) rfl h_is_tests.g h_is_tests.F.kp h_is_tests.b hx (sa_cons (se_var (pv 5)) (sa_cons (se_var (pv 2)) sa_nil))) (fun _ => rfl))) (sw_or (st_not (st_truth (se_isi (T' := "str") (se_var (pv 6)) rfl B.b_isinstance rfl B.b_str (by decide +kernel) (by decide)) (fun _ => rfl))) (sw_or1 (st_cmp (op_notInA hu5) gr_notIn (se_var (pv 6)) (se_tup (sa_cons se_str (sa_cons se_str (sa_cons se_str (sa_cons se_str sa_nil))))) (by rfl)))))) (sb_one (ss_ret se_bl)) sb_nil)
  (sb_cons (ss_if (st_of (sw_or (st_not (st_truth (se_fn h_are_pairs.ok (hr.mono (by decide)) rfl h_are_pairs.g h_are_pairs.F.kp h_are_pairs.b hx (sa_cons (se_var (pv 7)) (sa_cons (se_listD rfl rfl B.b_list (sa_cons (se_var (pv 1)) sa_nil)) sa_nil))) (fun _ => rfl))) (sw_or1 (st_not (st_truth (se_isi (T' := "bool") (se_var (pv 8)) rfl B.b_isinstance rfl B.b_bool (by decide +kernel) (by decide)) (fun _ => rfl)))))) (sb_one (ss_ret se_bl)) sb_nil)
  (sb_cons (ss_set (i := 9) (sc_is_entry).nd rfl (by first | exact Or.inl rfl | exact Or.inr rfl) (se_if (st_cmp (op_eqA hu) gr_eq (se_var (pv 3)) se_str (nomark _)) se_int (se_neg se_int)))
  (sb_one (ss_ret (se_all rfl rfl B.b_all (sa_cons (se_lc (own := [("store", 10), ("number", 11)]) rfl (sc_is_entry).nd (si_seq (se_var (pv 7))) (blkOk_by (own := [("store", 10), ("number", 11)]) (N := N_is_entry) (sc := defScope st_is_entry) (by decide +kernel)) (fun _ _ _ _ _ => (sg_tup rfl (sgs_cons (sg_name (pg_name (i := 10) (sc_is_entry).nd rfl (by first | exact Or.inl rfl | exact Or.inr rfl))) (sgs_cons (sg_name (pg_name (i := 11) (sc_is_entry).nd rfl (by first | exact Or.inl rfl | exact Or.inr rfl))) sgs_nil)))) (fun _ _ _ _ _ => sts_nil) (fun _ _ _ _ _ => (se_and (se_fn h_is_number.ok (hr.mono (by decide)) rfl h_is_number.g h_is_number.F.kp h_is_number.b passL (sa_cons (se_var (pv 11)) (sa_cons (se_var (pv 9)) (sa_cons se_int sa_nil)))) (se_one (se_cmp (op_neA hu) gr_ne (se_var (pv 11)) se_int (nomark _)))))) sa_nil)))))))))
/-! ### check_entries -/
abbrev st_check_entries : Stmt := (top 40)
def N_check_entries : List Str := ["entries", "places", "marks", "fold", "at", "entry"]
theorem sc_check_entries : FnScope N_check_entries ["entries", "places", "marks", "fold"] (defScope st_check_entries) := ⟨rfl, rfl, rfl, by decide +kernel, rfl, by decide +kernel, by decide +kernel⟩
theorem ok_check_entries (B : Bl mg) (C : Cn K mg) (L : Lf K cl)  {f_is_list : Addr} {fd_is_list : FuncData} (h_is_list : At P w K cl mg base 2 "is_list" st_is_list ["value"] f_is_list fd_is_list G_is_list) {f_is_entry : Addr} {fd_is_entry : FuncData} (h_is_entry : At P w K cl mg base 8 "is_entry" st_is_entry ["value", "places", "marks", "fold"] f_is_entry fd_is_entry G_is_entry)  {f : Addr} {fd : FuncData} (F_ : Fun K "check_entries" "check_entries" st_check_entries f fd) : SF P w K cl mg base 10 f fd ["entries", "places", "marks", "fold"] F_check_entries := by
  refine sf_mk F_ sc_check_entries rfl rfl fun cdv A outer s H E hr => ?_
  have hu := hu64 hr
  have hu5 := hu65 hr
  have tk : Takes (cxOf (L2.CX P w) P w K mg base N_check_entries "check_entries" (defScope st_check_entries) f cdv A outer s H E) (fun cls d _ H => E cls d H) := takes_of rfl rfl rfl rfl
  have hx : Passes (L2.CX P w) (cxOf (L2.CX P w) P w K mg base N_check_entries "check_entries" (defScope st_check_entries) f cdv A outer s H E) E := passes_call tk fun _ _ _ _ h => h
  have hpo := passes_of (X := (cxOf (L2.CX P w) P w K mg base N_check_entries "check_entries" (defScope st_check_entries) f cdv A outer s H E)) rfl
  exact (sb_cons (ss_if (st_not (st_truth (se_fn h_is_list.ok (hr.mono (by decide)) rfl h_is_list.g h_is_list.F.kp h_is_list.b hx (sa_cons (se_var (pv 0)) sa_nil)) (fun _ => rfl))) (sb_one ss_never) sb_nil)
  (sb_one (ss_for hpo rfl (si_enum rfl B.b_enumerate (sa_cons (se_var (pv 0)) sa_nil)) (sg_tup rfl (sgs_cons (sg_name (pg_name (i := 4) (sc_check_entries).nd rfl (by first | exact Or.inl rfl | exact Or.inr rfl))) (sgs_cons (sg_name (pg_name (i := 5) (sc_check_entries).nd rfl (by first | exact Or.inl rfl | exact Or.inr rfl))) sgs_nil))) (sb_one (ss_if (st_of (sw_or (st_cmp op_ge gr_ge (se_var (pv 4)) (se_cn rfl C.c_MOST_ITEMS) (nomark _)) (sw_or1 (st_not (st_truth (se_fn h_is_entry.ok (hr.mono (by decide)) rfl h_is_entry.g h_is_entry.F.kp h_is_entry.b hx (sa_cons (se_var (pv 5)) (sa_cons (se_var (pv 1)) (sa_cons (se_var (pv 2)) (sa_cons (se_var (pv 3)) sa_nil))))) (fun _ => rfl)))))) (sb_one ss_never) sb_nil)))))
/-! ### is_step -/
abbrev st_is_step : Stmt := (top 34)
def N_is_step : List Str := ["value", "places", "marks", "word", "rest", "item"]
theorem sc_is_step : FnScope N_is_step ["value", "places", "marks"] (defScope st_is_step) := ⟨rfl, rfl, rfl, by decide +kernel, rfl, by decide +kernel, by decide +kernel⟩
theorem ok_is_step (B : Bl mg) (C : Cn K mg) (L : Lf K cl)  {f_is_number : Addr} {fd_is_number : FuncData} (h_is_number : At P w K cl mg base 2 "is_number" st_is_number ["value", "least", "most"] f_is_number fd_is_number G_is_number)  {f : Addr} {fd : FuncData} (F_ : Fun K "is_step" "is_step" st_is_step f fd) : SF P w K cl mg base 4 f fd ["value", "places", "marks"] F_is_step := by
  refine sf_mk F_ sc_is_step rfl rfl fun cdv A outer s H E hr => ?_
  have hu := hu64 hr
  have hu5 := hu65 hr
  have tk : Takes (cxOf (L2.CX P w) P w K mg base N_is_step "is_step" (defScope st_is_step) f cdv A outer s H E) (fun cls d _ H => E cls d H) := takes_of rfl rfl rfl rfl
  have hx : Passes (L2.CX P w) (cxOf (L2.CX P w) P w K mg base N_is_step "is_step" (defScope st_is_step) f cdv A outer s H E) E := passes_call tk fun _ _ _ _ h => h
  have hpo := passes_of (X := (cxOf (L2.CX P w) P w K mg base N_is_step "is_step" (defScope st_is_step) f cdv A outer s H E)) rfl
  exact (sb_cons (ss_if (st_of (sw_or (st_not (st_truth (se_isi (T' := "tuple") (se_var (pv 0)) rfl B.b_isinstance rfl B.b_tuple (by decide +kernel) (by decide)) (fun _ => rfl))) (sw_or (st_cmp (op_eqA hu) gr_eq (se_len rfl B.b_len (sa_cons (se_var (pv 0)) sa_nil)) se_int (nomark _)) (sw_or1 (st_not (st_truth (se_all rfl rfl B.b_all (sa_cons (se_lc (own := [("item", 5)]) rfl (sc_is_step).nd (si_seq (se_var (pv 0))) (blkOk_by (own := [("item", 5)]) (N := N_is_step) (sc := defScope st_is_step) (by decide +kernel)) (fun _ _ _ _ _ => (sg_name (pg_name (i := 5) (sc_is_step).nd rfl (by first | exact Or.inl rfl | exact Or.inr rfl)))) (fun _ _ _ _ _ => sts_nil) (fun _ _ _ _ _ => (se_isi2 (T' := "str") (U' := "int") (se_var (pv 5)) rfl B.b_isinstance rfl B.b_str (by decide +kernel) (by decide) rfl B.b_int (by decide +kernel) (by decide)))) sa_nil)) (fun _ => rfl))))))) (sb_one (ss_ret se_bl)) sb_nil)
  (sb_cons (ss_par (i := 3) (j := 4) rfl (sc_is_step).nd rfl rfl (by decide) rfl rfl (sa_cons (se_ix (se_var (pv 0)) se_int (fun _ _ => rfl)) (sa_cons (se_slice (se_var (pv 0)) (so_some se_int) so_none) sa_nil)) (by rfl))
  (sb_cons (ss_if (st_cmp (op_eqA hu) gr_eq (se_var (pv 3)) se_str (nomark _)) (sb_one (ss_ret (se_cmp (op_eqA hu) gr_eq (se_var (pv 4)) (se_tup sa_nil) (nomark _)))) sb_nil)
  (sb_cons (ss_if (st_cmp (op_eqA hu) gr_eq (se_var (pv 3)) se_str (nomark _)) (sb_one (ss_ret (se_and (se_cmp (op_eqA hu) gr_eq (se_len rfl B.b_len (sa_cons (se_var (pv 4)) sa_nil)) se_int (nomark _)) (se_one (se_cmp (op_din hu5) (gr_din false) (se_ix (se_var (pv 4)) se_int (fun _ _ => rfl)) (se_var (pv 1)) (by rfl)))))) sb_nil)
  (sb_cons (ss_if (st_cmp (op_neA hu) gr_ne (se_len rfl B.b_len (sa_cons (se_var (pv 4)) sa_nil)) se_int (nomark _)) (sb_one (ss_ret se_bl)) sb_nil)
  (sb_cons (ss_if (st_cmp (op_eqA hu) gr_eq (se_var (pv 3)) se_str (nomark _)) (sb_one (ss_ret (se_and (se_cmp (op_inA hu5) gr_in (se_ix (se_var (pv 4)) se_int (fun _ _ => rfl)) (se_var (pv 2)) (by rfl)) (se_one (se_fn h_is_number.ok (hr.mono (by decide)) rfl h_is_number.g h_is_number.F.kp h_is_number.b hx (sa_cons (se_ix (se_var (pv 4)) se_int (fun _ _ => rfl)) (sa_cons se_int (sa_cons se_int sa_nil)))))))) sb_nil)
  (sb_cons (ss_if (st_of (sw_or (st_cmp (op_notInA hu5) gr_notIn (se_var (pv 3)) (se_tup (sa_cons se_str (sa_cons se_str sa_nil))) (by rfl)) (sw_or (st_cmp (op_dnotin hu5) (gr_din true) (se_ix (se_var (pv 4)) se_int (fun _ _ => rfl)) (se_var (pv 1)) (by rfl)) (sw_or (st_cmp (op_dnotin hu5) (gr_din true) (se_ix (se_var (pv 4)) se_int (fun _ _ => rfl)) (se_var (pv 1)) (by rfl)) (sw_or1 (st_cmp (op_eqA hu) gr_eq (se_ix (se_var (pv 4)) se_int (fun _ _ => rfl)) (se_ix (se_var (pv 4)) se_int (fun _ _ => rfl)) (nomark _))))))) (sb_one (ss_ret se_bl)) sb_nil)
  (sb_one (ss_ret (se_or (se_cmp (op_eqA hu) gr_eq (se_dget hu (se_var (pv 1)) (se_ix (se_var (pv 4)) se_int (fun _ _ => rfl)) (fun _ _ => rfl)) se_str (nomark _)) (se_one (se_cmp (op_eqA hu) gr_eq (se_dget hu (se_var (pv 1)) (se_ix (se_var (pv 4)) se_int (fun _ _ => rfl)) (fun _ _ => rfl)) se_str (nomark _)))))))))))))
/-! ### is_job -/
abbrev st_is_job : Stmt := (top 35)
def N_is_job : List Str := ["value", "places", "marks", "steps", "step"]
theorem sc_is_job : FnScope N_is_job ["value", "places", "marks"] (defScope st_is_job) := ⟨rfl, rfl, rfl, by decide +kernel, rfl, by decide +kernel, by decide +kernel⟩
theorem ok_is_job (B : Bl mg) (C : Cn K mg) (L : Lf K cl)  {f_is_name : Addr} {fd_is_name : FuncData} (h_is_name : At P w K cl mg base 4 "is_name" st_is_name ["value"] f_is_name fd_is_name G_is_name) {f_is_tests : Addr} {fd_is_tests : FuncData} (h_is_tests : At P w K cl mg base 6 "is_tests" st_is_tests ["value", "marks"] f_is_tests fd_is_tests G_is_tests) {f_is_number : Addr} {fd_is_number : FuncData} (h_is_number : At P w K cl mg base 2 "is_number" st_is_number ["value", "least", "most"] f_is_number fd_is_number G_is_number) {f_is_step : Addr} {fd_is_step : FuncData} (h_is_step : At P w K cl mg base 4 "is_step" st_is_step ["value", "places", "marks"] f_is_step fd_is_step G_is_step)  {f : Addr} {fd : FuncData} (F_ : Fun K "is_job" "is_job" st_is_job f fd) : SF P w K cl mg base 8 f fd ["value", "places", "marks"] F_is_job := by
  refine sf_mk F_ sc_is_job rfl rfl fun cdv A outer s H E hr => ?_
  have hu := hu64 hr
  have hu5 := hu65 hr
  have tk : Takes (cxOf (L2.CX P w) P w K mg base N_is_job "is_job" (defScope st_is_job) f cdv A outer s H E) (fun cls d _ H => E cls d H) := takes_of rfl rfl rfl rfl
  have hx : Passes (L2.CX P w) (cxOf (L2.CX P w) P w K mg base N_is_job "is_job" (defScope st_is_job) f cdv A outer s H E) E := passes_call tk fun _ _ _ _ h => h
  have hpo := passes_of (X := (cxOf (L2.CX P w) P w K mg base N_is_job "is_job" (defScope st_is_job) f cdv A outer s H E)) rfl
  exact (sb_cons (ss_if (st_of (sw_or (st_not (st_truth (se_isi (T' := "tuple") (se_var (pv 0)) rfl B.b_isinstance rfl B.b_tuple (by decide +kernel) (by decide)) (fun _ => rfl))) (sw_or (st_cmp (op_neA hu) gr_ne (se_len rfl B.b_len (sa_cons (se_var (pv 0)) sa_nil)) se_int (nomark _)) (sw_or (st_not (st_truth (se_fn h_is_name.ok (hr.mono (by decide)) rfl h_is_name.g h_is_name.F.kp h_is_name.b hx (sa_cons (se_ix (se_var (pv 0)) se_int (fun _ _ => rfl)) sa_nil)) (fun _ => rfl))) (sw_or1 (st_not (st_truth (se_fn h_is_tests.ok (hr.mono (by decide)) rfl h_is_tests.g h_is_tests.F.kp h_is_tests.b hx (sa_cons (se_ix (se_var (pv 0)) se_int (fun _ _ => rfl)) (sa_cons (se_var (pv 2)) sa_nil))) (fun _ => rfl)))))))) (sb_one (ss_ret se_bl)) sb_nil)
  (sb_cons (ss_if (st_of (sw_and (st_cmp op_notN gr_notN (se_ix (se_var (pv 0)) se_int (fun _ _ => rfl)) se_non (nomark _)) (sw_and1 (st_not (st_truth (se_fn h_is_number.ok (hr.mono (by decide)) rfl h_is_number.g h_is_number.F.kp h_is_number.b hx (sa_cons (se_ix (se_var (pv 0)) se_int (fun _ _ => rfl)) (sa_cons se_int (sa_cons (se_cn rfl C.c_MOST_WAIT) sa_nil)))) (fun _ => rfl)))))) (sb_one (ss_ret se_bl)) sb_nil)
  (sb_cons (ss_set (i := 3) (sc_is_job).nd rfl (by first | exact Or.inl rfl | exact Or.inr rfl) (se_ix (se_var (pv 0)) se_int (fun _ _ => rfl)))
  (sb_cons (ss_if (st_of (sw_or (st_not (st_truth (se_isi (T' := "tuple") (se_var (pv 3)) rfl B.b_isinstance rfl B.b_tuple (by decide +kernel) (by decide)) (fun _ => rfl))) (sw_or1 (st_not (st_chain op_le op_le gr_le gr_le se_int (se_len rfl B.b_len (sa_cons (se_var (pv 3)) sa_nil)) se_int))))) (sb_one (ss_ret se_bl)) sb_nil)
  (sb_one (ss_ret (se_all rfl rfl B.b_all (sa_cons (se_lc (own := [("step", 4)]) rfl (sc_is_job).nd (si_seq (se_var (pv 3))) (blkOk_by (own := [("step", 4)]) (N := N_is_job) (sc := defScope st_is_job) (by decide +kernel)) (fun _ _ _ _ _ => (sg_name (pg_name (i := 4) (sc_is_job).nd rfl (by first | exact Or.inl rfl | exact Or.inr rfl)))) (fun _ _ _ _ _ => sts_nil) (fun _ _ _ _ _ => (se_fn h_is_step.ok (hr.mono (by decide)) rfl h_is_step.g h_is_step.F.kp h_is_step.b passL (sa_cons (se_var (pv 4)) (sa_cons (se_var (pv 1)) (sa_cons (se_var (pv 2)) sa_nil)))))) sa_nil))))))))
/-! ### check_jobs -/
abbrev st_check_jobs : Stmt := (top 41)
def N_check_jobs : List Str := ["jobs", "places", "marks", "names", "at", "job"]
theorem sc_check_jobs : FnScope N_check_jobs ["jobs", "places", "marks"] (defScope st_check_jobs) := ⟨rfl, rfl, rfl, by decide +kernel, rfl, by decide +kernel, by decide +kernel⟩
theorem ok_check_jobs (B : Bl mg) (C : Cn K mg) (L : Lf K cl)  {f_is_list : Addr} {fd_is_list : FuncData} (h_is_list : At P w K cl mg base 2 "is_list" st_is_list ["value"] f_is_list fd_is_list G_is_list) {f_is_job : Addr} {fd_is_job : FuncData} (h_is_job : At P w K cl mg base 8 "is_job" st_is_job ["value", "places", "marks"] f_is_job fd_is_job G_is_job)  {f : Addr} {fd : FuncData} (F_ : Fun K "check_jobs" "check_jobs" st_check_jobs f fd) : SF P w K cl mg base 10 f fd ["jobs", "places", "marks"] F_check_jobs := by
  refine sf_mk F_ sc_check_jobs rfl rfl fun cdv A outer s H E hr => ?_
  have hu := hu64 hr
  have hu5 := hu65 hr
  have tk : Takes (cxOf (L2.CX P w) P w K mg base N_check_jobs "check_jobs" (defScope st_check_jobs) f cdv A outer s H E) (fun cls d _ H => E cls d H) := takes_of rfl rfl rfl rfl
  have hx : Passes (L2.CX P w) (cxOf (L2.CX P w) P w K mg base N_check_jobs "check_jobs" (defScope st_check_jobs) f cdv A outer s H E) E := passes_call tk fun _ _ _ _ h => h
  have hpo := passes_of (X := (cxOf (L2.CX P w) P w K mg base N_check_jobs "check_jobs" (defScope st_check_jobs) f cdv A outer s H E)) rfl
  exact (sb_cons (ss_if (st_not (st_truth (se_fn h_is_list.ok (hr.mono (by decide)) rfl h_is_list.g h_is_list.F.kp h_is_list.b hx (sa_cons (se_var (pv 0)) sa_nil)) (fun _ => rfl))) (sb_one ss_never) sb_nil)
  (sb_cons (ss_set (i := 3) (sc_check_jobs).nd rfl (by first | exact Or.inl rfl | exact Or.inr rfl) (se_lstM sa_nil))
  (sb_one (ss_for hpo rfl (si_enum rfl B.b_enumerate (sa_cons (se_var (pv 0)) sa_nil)) (sg_tup rfl (sgs_cons (sg_name (pg_name (i := 4) (sc_check_jobs).nd rfl (by first | exact Or.inl rfl | exact Or.inr rfl))) (sgs_cons (sg_name (pg_name (i := 5) (sc_check_jobs).nd rfl (by first | exact Or.inl rfl | exact Or.inr rfl))) sgs_nil))) (sb_cons (ss_if (st_of (sw_or (st_cmp op_ge gr_ge (se_var (pv 4)) (se_cn rfl C.c_MOST_JOBS) (nomark _)) (sw_or (st_not (st_truth (se_fn h_is_job.ok (hr.mono (by decide)) rfl h_is_job.g h_is_job.F.kp h_is_job.b hx (sa_cons (se_var (pv 5)) (sa_cons (se_var (pv 1)) (sa_cons (se_var (pv 2)) sa_nil)))) (fun _ => rfl))) (sw_or1 (st_cmp (op_inA hu5) gr_in (se_ix (se_var (pv 5)) se_int (fun _ _ => rfl)) (se_var (pv 3)) (by rfl)))))) (sb_one ss_never) sb_nil)
  (sb_one (ss_expr (se_append (se_var (pv 3)) (se_ix (se_var (pv 5)) se_int (fun _ _ => rfl))))))))))
/-! ### is_reading -/
abbrev st_is_reading : Stmt := (top 36)
def N_is_reading : List Str := ["value", "places", "marks", "word", "tests", "stores", "fine", "store"]
theorem sc_is_reading : FnScope N_is_reading ["value", "places", "marks"] (defScope st_is_reading) := ⟨rfl, rfl, rfl, by decide +kernel, rfl, by decide +kernel, by decide +kernel⟩
theorem ok_is_reading (B : Bl mg) (C : Cn K mg) (L : Lf K cl)  {f_is_tests : Addr} {fd_is_tests : FuncData} (h_is_tests : At P w K cl mg base 6 "is_tests" st_is_tests ["value", "marks"] f_is_tests fd_is_tests G_is_tests)  {f : Addr} {fd : FuncData} (F_ : Fun K "is_reading" "is_reading" st_is_reading f fd) : SF P w K cl mg base 8 f fd ["value", "places", "marks"] F_is_reading := by
  refine sf_mk F_ sc_is_reading rfl rfl fun cdv A outer s H E hr => ?_
  have hu := hu64 hr
  have hu5 := hu65 hr
  have tk : Takes (cxOf (L2.CX P w) P w K mg base N_is_reading "is_reading" (defScope st_is_reading) f cdv A outer s H E) (fun cls d _ H => E cls d H) := takes_of rfl rfl rfl rfl
  have hx : Passes (L2.CX P w) (cxOf (L2.CX P w) P w K mg base N_is_reading "is_reading" (defScope st_is_reading) f cdv A outer s H E) E := passes_call tk fun _ _ _ _ h => h
  have hpo := passes_of (X := (cxOf (L2.CX P w) P w K mg base N_is_reading "is_reading" (defScope st_is_reading) f cdv A outer s H E)) rfl
  exact (sb_cons (ss_if (st_of (sw_or (st_not (st_truth (se_isi (T' := "tuple") (se_var (pv 0)) rfl B.b_isinstance rfl B.b_tuple (by decide +kernel) (by decide)) (fun _ => rfl))) (sw_or (st_cmp (op_neA hu) gr_ne (se_len rfl B.b_len (sa_cons (se_var (pv 0)) sa_nil)) se_int (nomark _)) (sw_or1 (st_not (st_truth (se_isi (T' := "str") (se_ix (se_var (pv 0)) se_int (fun _ _ => rfl)) rfl B.b_isinstance rfl B.b_str (by decide +kernel) (by decide)) (fun _ => rfl))))))) (sb_one (ss_ret se_bl)) sb_nil)
  (sb_cons (ss_asg (se_var (pv 0)) (sg_tup rfl (sgs_cons (sg_name (pg_name (i := 3) (sc_is_reading).nd rfl (by first | exact Or.inl rfl | exact Or.inr rfl))) (sgs_cons (sg_name (pg_name (i := 4) (sc_is_reading).nd rfl (by first | exact Or.inl rfl | exact Or.inr rfl))) (sgs_cons (sg_name (pg_name (i := 5) (sc_is_reading).nd rfl (by first | exact Or.inl rfl | exact Or.inr rfl))) sgs_nil)))))
  (sb_cons (ss_if (st_of (sw_or (st_cmp (op_notInA hu5) gr_notIn (se_var (pv 3)) (se_tup (sa_cons se_str (sa_cons se_str sa_nil))) (by rfl)) (sw_or1 (st_not (st_truth (se_fn h_is_tests.ok (hr.mono (by decide)) rfl h_is_tests.g h_is_tests.F.kp h_is_tests.b hx (sa_cons (se_var (pv 4)) (sa_cons (se_var (pv 2)) sa_nil))) (fun _ => rfl)))))) (sb_one (ss_ret se_bl)) sb_nil)
  (sb_cons (ss_if (st_cmp op_isN gr_isN (se_var (pv 5)) se_non (nomark _)) (sb_one (ss_ret se_bl)) sb_nil)
  (sb_cons (ss_if (st_of (sw_or (st_not (st_truth (se_isi (T' := "tuple") (se_var (pv 5)) rfl B.b_isinstance rfl B.b_tuple (by decide +kernel) (by decide)) (fun _ => rfl))) (sw_or1 (st_not (st_truth (se_all rfl rfl B.b_all (sa_cons (se_lc (own := [("store", 7)]) rfl (sc_is_reading).nd (si_seq (se_var (pv 5))) (blkOk_by (own := [("store", 7)]) (N := N_is_reading) (sc := defScope st_is_reading) (by decide +kernel)) (fun _ _ _ _ _ => (sg_name (pg_name (i := 7) (sc_is_reading).nd rfl (by first | exact Or.inl rfl | exact Or.inr rfl)))) (fun _ _ _ _ _ => sts_nil) (fun _ _ _ _ _ => (se_and (se_isi (T' := "str") (se_var (pv 7)) rfl B.b_isinstance rfl B.b_str (by decide +kernel) (by decide)) (se_one (se_cmp (op_din hu5) (gr_din false) (se_var (pv 7)) (se_var (pv 1)) (by rfl)))))) sa_nil)) (fun _ => rfl)))))) (sb_one (ss_ret se_bl)) sb_nil)
  (sb_cons (ss_set (i := 6) (sc_is_reading).nd rfl (by first | exact Or.inl rfl | exact Or.inr rfl) (se_or (se_cmp (op_eqA hu) gr_eq (se_var (pv 3)) se_str (nomark _)) (se_one (se_all rfl rfl B.b_all (sa_cons (se_lc (own := [("store", 7)]) rfl (sc_is_reading).nd (si_seq (se_var (pv 5))) (blkOk_by (own := [("store", 7)]) (N := N_is_reading) (sc := defScope st_is_reading) (by decide +kernel)) (fun _ _ _ _ _ => (sg_name (pg_name (i := 7) (sc_is_reading).nd rfl (by first | exact Or.inl rfl | exact Or.inr rfl)))) (fun _ _ _ _ _ => sts_nil) (fun _ _ _ _ _ => (se_cmp (op_eqA hu) gr_eq (se_dget hu (se_var (pv 1)) (se_var (pv 7)) (fun _ _ => rfl)) se_str (nomark _)))) sa_nil)))))
  (sb_one (ss_ret (se_and (se_var (pv 6)) (se_one (se_cmp (op_eqA hu) gr_eq (se_lenSet rfl rfl B.b_len rfl B.b_set (se_var (pv 5))) (se_len rfl B.b_len (sa_cons (se_var (pv 5)) sa_nil)) (nomark _))))))))))))
/-! ### check_readings -/
abbrev st_check_readings : Stmt := (top 42)
def N_check_readings : List Str := ["readings", "places", "marks", "at", "reading"]
theorem sc_check_readings : FnScope N_check_readings ["readings", "places", "marks"] (defScope st_check_readings) := ⟨rfl, rfl, rfl, by decide +kernel, rfl, by decide +kernel, by decide +kernel⟩
theorem ok_check_readings (B : Bl mg) (C : Cn K mg) (L : Lf K cl)  {f_is_list : Addr} {fd_is_list : FuncData} (h_is_list : At P w K cl mg base 2 "is_list" st_is_list ["value"] f_is_list fd_is_list G_is_list) {f_is_reading : Addr} {fd_is_reading : FuncData} (h_is_reading : At P w K cl mg base 8 "is_reading" st_is_reading ["value", "places", "marks"] f_is_reading fd_is_reading G_is_reading)  {f : Addr} {fd : FuncData} (F_ : Fun K "check_readings" "check_readings" st_check_readings f fd) : SF P w K cl mg base 10 f fd ["readings", "places", "marks"] F_check_readings := by
  refine sf_mk F_ sc_check_readings rfl rfl fun cdv A outer s H E hr => ?_
  have hu := hu64 hr
  have hu5 := hu65 hr
  have tk : Takes (cxOf (L2.CX P w) P w K mg base N_check_readings "check_readings" (defScope st_check_readings) f cdv A outer s H E) (fun cls d _ H => E cls d H) := takes_of rfl rfl rfl rfl
  have hx : Passes (L2.CX P w) (cxOf (L2.CX P w) P w K mg base N_check_readings "check_readings" (defScope st_check_readings) f cdv A outer s H E) E := passes_call tk fun _ _ _ _ h => h
  have hpo := passes_of (X := (cxOf (L2.CX P w) P w K mg base N_check_readings "check_readings" (defScope st_check_readings) f cdv A outer s H E)) rfl
  exact (sb_cons (ss_if (st_not (st_truth (se_fn h_is_list.ok (hr.mono (by decide)) rfl h_is_list.g h_is_list.F.kp h_is_list.b hx (sa_cons (se_var (pv 0)) sa_nil)) (fun _ => rfl))) (sb_one ss_never) sb_nil)
  (sb_one (ss_for hpo rfl (si_enum rfl B.b_enumerate (sa_cons (se_var (pv 0)) sa_nil)) (sg_tup rfl (sgs_cons (sg_name (pg_name (i := 3) (sc_check_readings).nd rfl (by first | exact Or.inl rfl | exact Or.inr rfl))) (sgs_cons (sg_name (pg_name (i := 4) (sc_check_readings).nd rfl (by first | exact Or.inl rfl | exact Or.inr rfl))) sgs_nil))) (sb_one (ss_if (st_of (sw_or (st_cmp op_ge gr_ge (se_var (pv 3)) (se_cn rfl C.c_MOST_ITEMS) (nomark _)) (sw_or1 (st_not (st_truth (se_fn h_is_reading.ok (hr.mono (by decide)) rfl h_is_reading.g h_is_reading.F.kp h_is_reading.b hx (sa_cons (se_var (pv 4)) (sa_cons (se_var (pv 1)) (sa_cons (se_var (pv 2)) sa_nil)))) (fun _ => rfl)))))) (sb_one ss_never) sb_nil)))))
/-! ### Book.numbers -/
abbrev st_Book_numbers : Stmt := (inClass (top 43) 2)
def N_Book_numbers : List Str := ["self", "tests", "ages", "row", "some", "head", "number", "job"]
theorem sc_Book_numbers : FnScope N_Book_numbers ["self"] (defScope st_Book_numbers) := ⟨rfl, rfl, rfl, by decide +kernel, rfl, by decide +kernel, by decide +kernel⟩
theorem ok_Book_numbers (B : Bl mg) (C : Cn K mg) (L : Lf K cl)    {f : Addr} {fd : FuncData} (F_ : Fun K "numbers" "Book.numbers" st_Book_numbers f fd) : SF P w K cl mg base 2 f fd ["self"] F_Book_numbers := by
  refine sf_mk F_ sc_Book_numbers rfl rfl fun cdv A outer s H E hr => ?_
  have hu := hu64 hr
  have hu5 := hu65 hr
  have tk : Takes (cxOf (L2.CX P w) P w K mg base N_Book_numbers "Book.numbers" (defScope st_Book_numbers) f cdv A outer s H E) (fun cls d _ H => E cls d H) := takes_of rfl rfl rfl rfl
  have hx : Passes (L2.CX P w) (cxOf (L2.CX P w) P w K mg base N_Book_numbers "Book.numbers" (defScope st_Book_numbers) f cdv A outer s H E) E := passes_call tk fun _ _ _ _ h => h
  have hpo := passes_of (X := (cxOf (L2.CX P w) P w K mg base N_Book_numbers "Book.numbers" (defScope st_Book_numbers) f cdv A outer s H E)) rfl
  exact (sb_cons (ss_setLc (i := 1) (own := [("row", 3)]) rfl (sc_Book_numbers).nd rfl rfl (sw_true rfl rfl rfl (by decide +kernel)) (si_seq (se_lst (sa_star (se_fld (se_var (pv 0)) L.f_own_notes) (sa_star (se_fld (se_var (pv 0)) L.f_own_entries) (sa_star (se_fld (se_var (pv 0)) L.f_own_jobs) (sa_star (se_fld (se_var (pv 0)) L.f_own_readings) sa_nil)))))) (blkOk_by (own := [("row", 3)]) (N := N_Book_numbers) (sc := defScope st_Book_numbers) (by decide +kernel)) (fun _ _ _ _ _ => (sg_name (pg_name (i := 3) (sc_Book_numbers).nd rfl (by first | exact Or.inl rfl | exact Or.inr rfl)))) (fun _ _ _ _ _ => sts_nil) (fun _ _ _ _ _ => (se_ix (se_var (pv 3)) se_int (fun _ _ => rfl))))
  (sb_cons (ss_setLc2 (i := 2) (own := [("some", 4), ("head", 5), ("number", 6)]) (vs1 := [5, 6]) (sl := [4]) (sl1 := [5, 6]) rfl (sc_Book_numbers).nd rfl rfl (sw_true rfl rfl rfl (by decide +kernel)) (si_seq (se_var (pv 1))) (blkOk_by (own := [("some", 4), ("head", 5), ("number", 6)]) (N := N_Book_numbers) (sc := defScope st_Book_numbers) (by decide +kernel)) (by decide) (fun _ _ _ _ _ => (sg_name (pg_name (i := 4) (sc_Book_numbers).nd rfl (by first | exact Or.inl rfl | exact Or.inr rfl)))) (fun _ _ _ _ _ => sts_nil) (fun _ _ _ _ _ => (si_seq (se_var (pv 4)))) (fun _ _ _ _ _ => (sg_tup rfl (sgs_cons (sg_name (pg_name (i := 5) (sc_Book_numbers).nd rfl (by first | exact Or.inl rfl | exact Or.inr rfl))) (sgs_cons (sg_name (pg_name (i := 6) (sc_Book_numbers).nd rfl (by first | exact Or.inl rfl | exact Or.inr rfl))) sgs_nil)))) (fun _ _ _ _ _ => (sts_one (st_cmp (op_inA hu5) gr_in (se_var (pv 5)) (se_tup (sa_cons se_str (sa_cons se_str sa_nil))) (by rfl)))) (fun _ _ _ _ _ => (se_var (pv 6))))
  (sb_one (ss_ret (se_lst (sa_cons se_int (sa_star (se_var (pv 2)) (sa_star (se_lc (own := [("job", 7)]) rfl (sc_Book_numbers).nd (si_seq (se_fld (se_var (pv 0)) L.f_own_jobs)) (blkOk_by (own := [("job", 7)]) (N := N_Book_numbers) (sc := defScope st_Book_numbers) (by decide +kernel)) (fun _ _ _ _ _ => (sg_name (pg_name (i := 7) (sc_Book_numbers).nd rfl (by first | exact Or.inl rfl | exact Or.inr rfl)))) (fun _ _ _ _ _ => (sts_one (st_cmp op_notN gr_notN (se_ix (se_var (pv 7)) se_int (fun _ _ => rfl)) se_non (nomark _)))) (fun _ _ _ _ _ => (se_ix (se_var (pv 7)) se_int (fun _ _ => rfl)))) sa_nil))))))))
/-! ### Book.__init__ -/
abbrev st_Book___init__ : Stmt := (inClass (top 43) 0)
def N_Book___init__ : List Str := ["self", "width", "stores", "late", "back", "fold", "marks", "notes", "entries", "jobs", "readings", "limit", "places", "numbers", "name", "place"]
theorem sc_Book___init__ : FnScope N_Book___init__ ["self", "width", "stores", "late", "back", "fold", "marks", "notes", "entries", "jobs", "readings"] (defScope st_Book___init__) := ⟨rfl, rfl, rfl, by decide +kernel, rfl, by decide +kernel, by decide +kernel⟩
theorem ok_Book___init__ (B : Bl mg) (C : Cn K mg) (L : Lf K cl) {C_Book : Addr} (c_Book : ClO K cl "Book" C_Book) {f_is_number : Addr} {fd_is_number : FuncData} (h_is_number : At P w K cl mg base 2 "is_number" st_is_number ["value", "least", "most"] f_is_number fd_is_number G_is_number) {f_check_stores : Addr} {fd_check_stores : FuncData} (h_check_stores : At P w K cl mg base 8 "check_stores" st_check_stores ["stores"] f_check_stores fd_check_stores G_check_stores) {f_check_marks : Addr} {fd_check_marks : FuncData} (h_check_marks : At P w K cl mg base 6 "check_marks" st_check_marks ["marks", "names"] f_check_marks fd_check_marks G_check_marks) {f_check_notes : Addr} {fd_check_notes : FuncData} (h_check_notes : At P w K cl mg base 10 "check_notes" st_check_notes ["notes", "marks"] f_check_notes fd_check_notes G_check_notes) {f_check_entries : Addr} {fd_check_entries : FuncData} (h_check_entries : At P w K cl mg base 10 "check_entries" st_check_entries ["entries", "places", "marks", "fold"] f_check_entries fd_check_entries G_check_entries) {f_check_jobs : Addr} {fd_check_jobs : FuncData} (h_check_jobs : At P w K cl mg base 10 "check_jobs" st_check_jobs ["jobs", "places", "marks"] f_check_jobs fd_check_jobs G_check_jobs) {f_check_readings : Addr} {fd_check_readings : FuncData} (h_check_readings : At P w K cl mg base 10 "check_readings" st_check_readings ["readings", "places", "marks"] f_check_readings fd_check_readings G_check_readings) {f_Book_numbers : Addr} {fd_Book_numbers : FuncData} (h_Book_numbers : AtM P w K cl mg base 2 C_Book "numbers" "Book.numbers" st_Book_numbers ["self"] f_Book_numbers fd_Book_numbers G_Book_numbers)  {f : Addr} {fd : FuncData} {kws : List (Str × V)} (F_ : FunD K "__init__" "Book.__init__" (defArgs st_Book___init__) (defBody st_Book___init__) (defScope st_Book___init__) [] kws f fd) : SF P w K cl mg base 12 f fd ["self", "width", "stores", "late", "back", "fold", "marks", "notes", "entries", "jobs", "readings"] F_Book___init__ := by
  refine sf_mkD F_ sc_Book___init__ rfl rfl fun cdv A outer s H E hr => ?_
  have hu := hu64 hr
  have hu5 := hu65 hr
  have tk : Takes (cxOf (L2.CX P w) P w K mg base N_Book___init__ "Book.__init__" (defScope st_Book___init__) f cdv A outer s H E) (fun cls d _ H => E cls d H) := takes_of rfl rfl rfl rfl
  have hx : Passes (L2.CX P w) (cxOf (L2.CX P w) P w K mg base N_Book___init__ "Book.__init__" (defScope st_Book___init__) f cdv A outer s H E) E := passes_call tk fun _ _ _ _ h => h
  have hpo := passes_of (X := (cxOf (L2.CX P w) P w K mg base N_Book___init__ "Book.__init__" (defScope st_Book___init__) f cdv A outer s H E)) rfl
  exact (sb_cons (ss_if (st_not (st_truth (se_fn h_is_number.ok (hr.mono (by decide)) rfl h_is_number.g h_is_number.F.kp h_is_number.b hx (sa_cons (se_var (pv 1)) (sa_cons se_int (sa_cons (se_cn rfl C.c_MOST_WIDTH) sa_nil)))) (fun _ => rfl))) (sb_one ss_never) sb_nil)
  (sb_cons (ss_expr (se_fn h_check_stores.ok (hr.mono (by decide)) rfl h_check_stores.g h_check_stores.F.kp h_check_stores.b hx (sa_cons (se_var (pv 2)) sa_nil)))
  (sb_cons (ss_for hpo rfl (si_seq (se_tup (sa_cons (se_var (pv 3)) (sa_cons (se_var (pv 4)) sa_nil)))) (sg_name (pg_name (i := 11) (sc_Book___init__).nd rfl (by first | exact Or.inl rfl | exact Or.inr rfl))) (sb_one (ss_if (st_not (st_truth (se_fn h_is_number.ok (hr.mono (by decide)) rfl h_is_number.g h_is_number.F.kp h_is_number.b hx (sa_cons (se_var (pv 11)) (sa_cons se_int (sa_cons (se_cn rfl C.c_MOST_WAIT) sa_nil)))) (fun _ => rfl))) (sb_one ss_never) sb_nil)))
  (sb_cons (ss_if (st_of (sw_or (st_not (st_truth (se_isi (T' := "str") (se_var (pv 5)) rfl B.b_isinstance rfl B.b_str (by decide +kernel) (by decide)) (fun _ => rfl))) (sw_or1 (st_cmp (op_notInA hu5) gr_notIn (se_var (pv 5)) (se_tup (sa_cons se_str (sa_cons se_str sa_nil))) (by rfl))))) (sb_one ss_never) sb_nil)
  (sb_cons (ss_setDc (i := 12) (own := [("name", 14), ("place", 15)]) rfl (sc_Book___init__).nd rfl rfl (sw_trueD rfl rfl rfl (by decide +kernel)) (si_seq (se_var (pv 2))) (blkOk_by (own := [("name", 14), ("place", 15)]) (N := N_Book___init__) (sc := defScope st_Book___init__) (by decide +kernel)) (fun _ _ _ _ _ => (sg_tup rfl (sgs_cons (sg_name (pg_name (i := 14) (sc_Book___init__).nd rfl (by first | exact Or.inl rfl | exact Or.inr rfl))) (sgs_cons (sg_name (pg_name (i := 15) (sc_Book___init__).nd rfl (by first | exact Or.inl rfl | exact Or.inr rfl))) sgs_nil)))) (fun _ _ _ _ _ => sts_nil) (fun _ _ _ _ _ => (se_var (pv 14))) (fun _ _ _ _ _ => (se_var (pv 15))))
  (sb_cons (ss_expr (se_fn h_check_marks.ok (hr.mono (by decide)) rfl h_check_marks.g h_check_marks.F.kp h_check_marks.b hx (sa_cons (se_var (pv 6)) (sa_cons (se_listD rfl rfl B.b_list (sa_cons (se_var (pv 12)) sa_nil)) sa_nil))))
  (sb_cons (ss_expr (se_fn h_check_notes.ok (hr.mono (by decide)) rfl h_check_notes.g h_check_notes.F.kp h_check_notes.b hx (sa_cons (se_var (pv 7)) (sa_cons (se_var (pv 6)) sa_nil))))
  (sb_cons (ss_expr (se_fn h_check_entries.ok (hr.mono (by decide)) rfl h_check_entries.g h_check_entries.F.kp h_check_entries.b hx (sa_cons (se_var (pv 8)) (sa_cons (se_var (pv 12)) (sa_cons (se_var (pv 6)) (sa_cons (se_var (pv 5)) sa_nil))))))
  (sb_cons (ss_expr (se_fn h_check_jobs.ok (hr.mono (by decide)) rfl h_check_jobs.g h_check_jobs.F.kp h_check_jobs.b hx (sa_cons (se_var (pv 9)) (sa_cons (se_var (pv 12)) (sa_cons (se_var (pv 6)) sa_nil)))))
  (sb_cons (ss_expr (se_fn h_check_readings.ok (hr.mono (by decide)) rfl h_check_readings.g h_check_readings.F.kp h_check_readings.b hx (sa_cons (se_var (pv 10)) (sa_cons (se_var (pv 12)) (sa_cons (se_var (pv 6)) sa_nil)))))
  (sb_cons (ss_asgF rfl (se_tup (sa_cons (se_var (pv 1)) (sa_cons (se_var (pv 3)) (sa_cons (se_var (pv 4)) (sa_cons (se_var (pv 5)) sa_nil))))) (sgf_cons (se_var (pv 0)) L.f_own_width (sgf_cons (se_var (pv 0)) L.f_own_late (sgf_cons (se_var (pv 0)) L.f_own_back (sgf_cons (se_var (pv 0)) L.f_own_fold sgf_nil)))))
  (sb_cons (ss_asgF rfl (se_tup (sa_cons (se_listC rfl B.b_list (sa_cons (se_var (pv 2)) sa_nil)) (sa_cons (se_listC rfl B.b_list (sa_cons (se_var (pv 6)) sa_nil)) (sa_cons (se_listC rfl B.b_list (sa_cons (se_var (pv 7)) sa_nil)) sa_nil)))) (sgf_cons (se_var (pv 0)) L.f_own_stores (sgf_cons (se_var (pv 0)) L.f_own_marks (sgf_cons (se_var (pv 0)) L.f_own_notes sgf_nil))))
  (sb_cons (ss_asgF rfl (se_tup (sa_cons (se_listC rfl B.b_list (sa_cons (se_var (pv 8)) sa_nil)) (sa_cons (se_listC rfl B.b_list (sa_cons (se_var (pv 9)) sa_nil)) (sa_cons (se_listC rfl B.b_list (sa_cons (se_var (pv 10)) sa_nil)) sa_nil)))) (sgf_cons (se_var (pv 0)) L.f_own_entries (sgf_cons (se_var (pv 0)) L.f_own_jobs (sgf_cons (se_var (pv 0)) L.f_own_readings sgf_nil))))
  (sb_cons (ss_set (i := 13) (sc_Book___init__).nd rfl (by first | exact Or.inl rfl | exact Or.inr rfl) (se_meth0 (se_var (pv 0)) c_Book.e c_Book.c h_Book_numbers.m h_Book_numbers.ok (hr.mono (by decide)) h_Book_numbers.b hx))
  (sb_one (ss_setF (se_var (pv 0)) (se_op op_addA gr_add (se_var (pv 1)) (se_callS (cr_maxN rfl) gc_maxN rfl B.b_max (by decide +kernel) (sa_cons (se_var (pv 3)) (sa_cons (se_var (pv 4)) (sa_star (se_var (pv 13)) sa_nil))))) L.f_own_top))))))))))))))))
/-! ### _law_book -/
abbrev st__law_book : Stmt := (top 63)
def N__law_book : List Str := ["_law_spec"]
theorem sc__law_book : FnScope N__law_book ["_law_spec"] (defScope st__law_book) := ⟨rfl, rfl, rfl, by decide +kernel, rfl, by decide +kernel, by decide +kernel⟩
theorem ok__law_book (B : Bl mg) (C : Cn K mg) (L : Lf K cl) {C_Book : Addr} (c_Book : ClO K cl "Book" C_Book) {f_Book___init__ : Addr} {fd_Book___init__ : FuncData} (h_Book___init__ : AtK P w K cl mg base 12 C_Book "Book" ["self", "width", "stores", "late", "back", "fold", "marks", "notes", "entries", "jobs", "readings"] f_Book___init__ fd_Book___init__ G_Book___init__) (kb_Book___init___2_late_back_fold_marks_notes_entries_jobs_readings : KBs K fd_Book___init__ ["self", "width", "stores", "late", "back", "fold", "marks", "notes", "entries", "jobs", "readings"] 3 ["late", "back", "fold", "marks", "notes", "entries", "jobs", "readings"] [0, 1, 2, 3, 4, 5, 6, 7, 8, 9, 10] []) {f : Addr} {fd : FuncData} (F_ : Fun K "_law_book" "_law_book" st__law_book f fd) : SF P w K cl mg base 14 f fd ["_law_spec"] F__law_book := by
  obtain ⟨mvs_Book___init___2_late_back_fold_marks_notes_entries_jobs_readings, mv_Book___init___2_late_back_fold_marks_notes_entries_jobs_readings, kb_Book___init___2_late_back_fold_marks_notes_entries_jobs_readings⟩ := kb_Book___init___2_late_back_fold_marks_notes_entries_jobs_readings
  refine sf_mk F_ sc__law_book rfl rfl fun cdv A outer s H E hr => ?_
  have hu := hu64 hr
  have hu5 := hu65 hr
  have tk : Takes (cxOf (L2.CX P w) P w K mg base N__law_book "_law_book" (defScope st__law_book) f cdv A outer s H E) (fun cls d _ H => E cls d H) := takes_of rfl rfl rfl rfl
  have hx : Passes (L2.CX P w) (cxOf (L2.CX P w) P w K mg base N__law_book "_law_book" (defScope st__law_book) f cdv A outer s H E) E := passes_call tk fun _ _ _ _ h => h
  have hpo := passes_of (X := (cxOf (L2.CX P w) P w K mg base N__law_book "_law_book" (defScope st__law_book) f cdv A outer s H E)) rfl
  exact (sb_one (ss_ret (se_makeK c_Book.e h_Book___init__.M h_Book___init__.ok (hr.mono (by decide)) rfl h_Book___init__.g kb_Book___init___2_late_back_fold_marks_notes_entries_jobs_readings.1 kb_Book___init___2_late_back_fold_marks_notes_entries_jobs_readings.2 hx (sa_cons (se_dget hu (se_var (pv 0)) se_str (fun _ _ => rfl)) (sa_cons (se_listC rfl B.b_list (sa_cons (se_dget hu (se_var (pv 0)) se_str (fun _ _ => rfl)) sa_nil)) sa_nil)) (sk_cons (se_dget hu (se_var (pv 0)) se_str (fun _ _ => rfl)) (sk_cons (se_dget hu (se_var (pv 0)) se_str (fun _ _ => rfl)) (sk_cons (se_dget hu (se_var (pv 0)) se_str (fun _ _ => rfl)) (sk_cons (se_listC rfl B.b_list (sa_cons (se_dget hu (se_var (pv 0)) se_str (fun _ _ => rfl)) sa_nil)) (sk_cons (se_listC rfl B.b_list (sa_cons (se_dget hu (se_var (pv 0)) se_str (fun _ _ => rfl)) sa_nil)) (sk_cons (se_listC rfl B.b_list (sa_cons (se_dget hu (se_var (pv 0)) se_str (fun _ _ => rfl)) sa_nil)) (sk_cons (se_listC rfl B.b_list (sa_cons (se_dget hu (se_var (pv 0)) se_str (fun _ _ => rfl)) sa_nil)) (sk_cons (se_listC rfl B.b_list (sa_cons (se_dget hu (se_var (pv 0)) se_str (fun _ _ => rfl)) sa_nil)) sk_nil)))))))) (aCons_len (aCons_len (fun _ _ _ _ => aNil_len))) (aCons_len (aCons_len (aCons_len (aCons_len (aCons_len (aCons_len (aCons_len (aCons_len (fun _ _ _ _ => aNil_len))))))))))))
/-! ### _law_passes -/
abbrev st__law_passes : Stmt := (top 64)
def N__law_passes : List Str := ["_law_spec", "_law_tests", "_law_marks_z", "_law_time_z", "_law_head", "_law_number", "_law_good"]
theorem sc__law_passes : FnScope N__law_passes ["_law_spec", "_law_tests", "_law_marks_z", "_law_time_z"] (defScope st__law_passes) := ⟨rfl, rfl, rfl, by decide +kernel, rfl, by decide +kernel, by decide +kernel⟩
theorem ok__law_passes (B : Bl mg) (C : Cn K mg) (L : Lf K cl)    {f : Addr} {fd : FuncData} (F_ : Fun K "_law_passes" "_law_passes" st__law_passes f fd) : SF P w K cl mg base 2 f fd ["_law_spec", "_law_tests", "_law_marks_z", "_law_time_z"] F__law_passes := by
  refine sf_mk F_ sc__law_passes rfl rfl fun cdv A outer s H E hr => ?_
  have hu := hu64 hr
  have hu5 := hu65 hr
  have tk : Takes (cxOf (L2.CX P w) P w K mg base N__law_passes "_law_passes" (defScope st__law_passes) f cdv A outer s H E) (fun cls d _ H => E cls d H) := takes_of rfl rfl rfl rfl
  have hx : Passes (L2.CX P w) (cxOf (L2.CX P w) P w K mg base N__law_passes "_law_passes" (defScope st__law_passes) f cdv A outer s H E) E := passes_call tk fun _ _ _ _ h => h
  have hpo := passes_of (X := (cxOf (L2.CX P w) P w K mg base N__law_passes "_law_passes" (defScope st__law_passes) f cdv A outer s H E)) rfl
  exact (sb_cons (ss_for hpo rfl (si_seq (se_var (pv 1))) (sg_tup rfl (sgs_cons (sg_name (pg_name (i := 4) (sc__law_passes).nd rfl (by first | exact Or.inl rfl | exact Or.inr rfl))) (sgs_cons (sg_name (pg_name (i := 5) (sc__law_passes).nd rfl (by first | exact Or.inl rfl | exact Or.inr rfl))) sgs_nil))) (sb_cons (ss_if (st_cmp (op_eqA hu) gr_eq (se_var (pv 4)) se_str (nomark _)) (sb_one (ss_set (i := 6) (sc__law_passes).nd rfl (by first | exact Or.inl rfl | exact Or.inr rfl) (se_cmp op_ge gr_ge (se_var (pv 3)) (se_op op_addA gr_add (se_dget hu (se_var (pv 0)) se_str (fun _ _ => rfl)) (se_var (pv 5))) (nomark _)))) (sb_one (ss_if (st_cmp (op_eqA hu) gr_eq (se_var (pv 4)) se_str (nomark _)) (sb_one (ss_set (i := 6) (sc__law_passes).nd rfl (by first | exact Or.inl rfl | exact Or.inr rfl) (se_cmp op_lt gr_lt (se_var (pv 3)) (se_op op_addA gr_add (se_dget hu (se_var (pv 0)) se_str (fun _ _ => rfl)) (se_var (pv 5))) (nomark _)))) (sb_one (ss_set (i := 6) (sc__law_passes).nd rfl (by first | exact Or.inl rfl | exact Or.inr rfl) (se_cmp (op_eqA hu) gr_eq (se_ix (se_var (pv 2)) (se_index (se_dget hu (se_var (pv 0)) se_str (fun _ _ => rfl)) (se_var (pv 4))) (fun _ _ => rfl)) (se_var (pv 5)) (nomark _)))))))
  (sb_one (ss_if (st_not (st_truth (se_var (pv 6)) (fun _ => rfl))) (sb_one (ss_ret se_bl)) sb_nil))))
  (sb_one (ss_ret se_bl)))
/-! ### _law_top -/
abbrev st__law_top : Stmt := (top 65)
def N__law_top : List Str := ["_law_spec", "_law_found", "_law_rules", "_law_row", "_law_job", "_law_head", "_law_number"]
theorem sc__law_top : FnScope N__law_top ["_law_spec"] (defScope st__law_top) := ⟨rfl, rfl, rfl, by decide +kernel, rfl, by decide +kernel, by decide +kernel⟩
theorem ok__law_top (B : Bl mg) (C : Cn K mg) (L : Lf K cl)    {f : Addr} {fd : FuncData} (F_ : Fun K "_law_top" "_law_top" st__law_top f fd) : SF P w K cl mg base 2 f fd ["_law_spec"] F__law_top := by
  refine sf_mk F_ sc__law_top rfl rfl fun cdv A outer s H E hr => ?_
  have hu := hu64 hr
  have hu5 := hu65 hr
  have tk : Takes (cxOf (L2.CX P w) P w K mg base N__law_top "_law_top" (defScope st__law_top) f cdv A outer s H E) (fun cls d _ H => E cls d H) := takes_of rfl rfl rfl rfl
  have hx : Passes (L2.CX P w) (cxOf (L2.CX P w) P w K mg base N__law_top "_law_top" (defScope st__law_top) f cdv A outer s H E) E := passes_call tk fun _ _ _ _ h => h
  have hpo := passes_of (X := (cxOf (L2.CX P w) P w K mg base N__law_top "_law_top" (defScope st__law_top) f cdv A outer s H E)) rfl
  exact (sb_cons (ss_set (i := 1) (sc__law_top).nd rfl (by first | exact Or.inl rfl | exact Or.inr rfl) (se_op op_addA gr_add (se_lst (sa_cons (se_dget hu (se_var (pv 0)) se_str (fun _ _ => rfl)) (sa_cons (se_dget hu (se_var (pv 0)) se_str (fun _ _ => rfl)) sa_nil))) (se_lc (own := [("_law_job", 4)]) rfl (sc__law_top).nd (si_seq (se_dget hu (se_var (pv 0)) se_str (fun _ _ => rfl))) (blkOk_by (own := [("_law_job", 4)]) (N := N__law_top) (sc := defScope st__law_top) (by decide +kernel)) (fun _ _ _ _ _ => (sg_name (pg_name (i := 4) (sc__law_top).nd rfl (by first | exact Or.inl rfl | exact Or.inr rfl)))) (fun _ _ _ _ _ => (sts_one (st_cmp op_notN gr_notN (se_ix (se_var (pv 4)) se_int (fun _ _ => rfl)) se_non (nomark _)))) (fun _ _ _ _ _ => (se_ix (se_var (pv 4)) se_int (fun _ _ => rfl))))))
  (sb_cons (ss_set (i := 2) (sc__law_top).nd rfl (by first | exact Or.inl rfl | exact Or.inr rfl) (se_op op_addA gr_add (se_dget hu (se_var (pv 0)) se_str (fun _ _ => rfl)) (se_dget hu (se_var (pv 0)) se_str (fun _ _ => rfl))))
  (sb_cons (ss_for hpo rfl (si_seq (se_op op_addA gr_add (se_op op_addA gr_add (se_var (pv 2)) (se_dget hu (se_var (pv 0)) se_str (fun _ _ => rfl))) (se_dget hu (se_var (pv 0)) se_str (fun _ _ => rfl)))) (sg_name (pg_name (i := 3) (sc__law_top).nd rfl (by first | exact Or.inl rfl | exact Or.inr rfl))) (sb_one (ss_set (i := 1) (sc__law_top).nd rfl (by first | exact Or.inl rfl | exact Or.inr rfl) (se_op op_addA gr_add (se_var (pv 1)) (se_lc (own := [("_law_head", 5), ("_law_number", 6)]) rfl (sc__law_top).nd (si_seq (se_ix (se_var (pv 3)) se_int (fun _ _ => rfl))) (blkOk_by (own := [("_law_head", 5), ("_law_number", 6)]) (N := N__law_top) (sc := defScope st__law_top) (by decide +kernel)) (fun _ _ _ _ _ => (sg_tup rfl (sgs_cons (sg_name (pg_name (i := 5) (sc__law_top).nd rfl (by first | exact Or.inl rfl | exact Or.inr rfl))) (sgs_cons (sg_name (pg_name (i := 6) (sc__law_top).nd rfl (by first | exact Or.inl rfl | exact Or.inr rfl))) sgs_nil)))) (fun _ _ _ _ _ => (sts_one (st_cmp (op_inA hu5) gr_in (se_var (pv 5)) (se_tup (sa_cons se_str (sa_cons se_str sa_nil))) (by rfl)))) (fun _ _ _ _ _ => (se_var (pv 6))))))))
  (sb_one (ss_ret (se_op op_addA gr_add (se_dget hu (se_var (pv 0)) se_str (fun _ _ => rfl)) (se_call (cr_max rfl) gc_maxL rfl B.b_max (by decide +kernel) (sa_cons (se_var (pv 1)) sa_nil))))))))
/-! ### _law_set -/
abbrev st__law_set : Stmt := (top 66)
def N__law_set : List Str := ["_law_spec", "_law_marks_z", "_law_settings_here", "_law_found", "_law_mark", "_law_number"]
theorem sc__law_set : FnScope N__law_set ["_law_spec", "_law_marks_z", "_law_settings_here"] (defScope st__law_set) := ⟨rfl, rfl, rfl, by decide +kernel, rfl, by decide +kernel, by decide +kernel⟩
theorem ok__law_set (B : Bl mg) (C : Cn K mg) (L : Lf K cl)    {f : Addr} {fd : FuncData} (F_ : Fun K "_law_set" "_law_set" st__law_set f fd) : SF P w K cl mg base 2 f fd ["_law_spec", "_law_marks_z", "_law_settings_here"] F__law_set := by
  refine sf_mk F_ sc__law_set rfl rfl fun cdv A outer s H E hr => ?_
  have hu := hu64 hr
  have hu5 := hu65 hr
  have tk : Takes (cxOf (L2.CX P w) P w K mg base N__law_set "_law_set" (defScope st__law_set) f cdv A outer s H E) (fun cls d _ H => E cls d H) := takes_of rfl rfl rfl rfl
  have hx : Passes (L2.CX P w) (cxOf (L2.CX P w) P w K mg base N__law_set "_law_set" (defScope st__law_set) f cdv A outer s H E) E := passes_call tk fun _ _ _ _ h => h
  have hpo := passes_of (X := (cxOf (L2.CX P w) P w K mg base N__law_set "_law_set" (defScope st__law_set) f cdv A outer s H E)) rfl
  exact (sb_cons (ss_set (i := 3) (sc__law_set).nd rfl (by first | exact Or.inl rfl | exact Or.inr rfl) (se_listCM rfl B.b_list (sa_cons (se_var (pv 1)) sa_nil)))
  (sb_cons (ss_for hpo rfl (si_seq (se_var (pv 2))) (sg_tup rfl (sgs_cons (sg_name (pg_name (i := 4) (sc__law_set).nd rfl (by first | exact Or.inl rfl | exact Or.inr rfl))) (sgs_cons (sg_name (pg_name (i := 5) (sc__law_set).nd rfl (by first | exact Or.inl rfl | exact Or.inr rfl))) sgs_nil))) (sb_one (ss_setI (se_var (pv 5)) (se_var (pv 3)) (se_index (se_dget hu (se_var (pv 0)) se_str (fun _ _ => rfl)) (se_var (pv 4))))))
  (sb_one (ss_ret (se_tupleC rfl B.b_tuple (sa_cons (se_var (pv 3)) sa_nil))))))
/-! ### _law_noted -/
abbrev st__law_noted : Stmt := (top 67)
def N__law_noted : List Str := ["_law_spec", "_law_word_z", "_law_marks_z", "_law_time_z", "_law_some", "_law_note"]
theorem sc__law_noted : FnScope N__law_noted ["_law_spec", "_law_word_z", "_law_marks_z", "_law_time_z"] (defScope st__law_noted) := ⟨rfl, rfl, rfl, by decide +kernel, rfl, by decide +kernel, by decide +kernel⟩
theorem ok__law_noted (B : Bl mg) (C : Cn K mg) (L : Lf K cl)  {f__law_passes : Addr} {fd__law_passes : FuncData} (h__law_passes : At P w K cl mg base 2 "_law_passes" st__law_passes ["_law_spec", "_law_tests", "_law_marks_z", "_law_time_z"] f__law_passes fd__law_passes G__law_passes) {f__law_set : Addr} {fd__law_set : FuncData} (h__law_set : At P w K cl mg base 2 "_law_set" st__law_set ["_law_spec", "_law_marks_z", "_law_settings_here"] f__law_set fd__law_set G__law_set)  {f : Addr} {fd : FuncData} (F_ : Fun K "_law_noted" "_law_noted" st__law_noted f fd) : SF P w K cl mg base 4 f fd ["_law_spec", "_law_word_z", "_law_marks_z", "_law_time_z"] F__law_noted := by
  refine sf_mk F_ sc__law_noted rfl rfl fun cdv A outer s H E hr => ?_
  have hu := hu64 hr
  have hu5 := hu65 hr
  have tk : Takes (cxOf (L2.CX P w) P w K mg base N__law_noted "_law_noted" (defScope st__law_noted) f cdv A outer s H E) (fun cls d _ H => E cls d H) := takes_of rfl rfl rfl rfl
  have hx : Passes (L2.CX P w) (cxOf (L2.CX P w) P w K mg base N__law_noted "_law_noted" (defScope st__law_noted) f cdv A outer s H E) E := passes_call tk fun _ _ _ _ h => h
  have hpo := passes_of (X := (cxOf (L2.CX P w) P w K mg base N__law_noted "_law_noted" (defScope st__law_noted) f cdv A outer s H E)) rfl
  exact (sb_cons (ss_setLc (i := 4) (own := [("_law_note", 5)]) rfl (sc__law_noted).nd rfl rfl (sw_true rfl rfl rfl (by decide +kernel)) (si_seq (se_dget hu (se_var (pv 0)) se_str (fun _ _ => rfl))) (blkOk_by (own := [("_law_note", 5)]) (N := N__law_noted) (sc := defScope st__law_noted) (by decide +kernel)) (fun _ _ _ _ _ => (sg_name (pg_name (i := 5) (sc__law_noted).nd rfl (by first | exact Or.inl rfl | exact Or.inr rfl)))) (fun _ _ _ _ _ => (sts_one (st_of (sw_and (st_cmp (op_eqA hu) gr_eq (se_ix (se_var (pv 5)) se_int (fun _ _ => rfl)) (se_var (pv 1)) (nomark _)) (sw_and1 (st_truth (se_fn h__law_passes.ok (hr.mono (by decide)) rfl h__law_passes.g h__law_passes.F.kp h__law_passes.b passL (sa_cons (se_var (pv 0)) (sa_cons (se_ix (se_var (pv 5)) se_int (fun _ _ => rfl)) (sa_cons (se_var (pv 2)) (sa_cons (se_var (pv 3)) sa_nil))))) (fun _ => rfl))))))) (fun _ _ _ _ _ => (se_var (pv 5))))
  (sb_one (ss_ret (se_if (st_cmp (op_neA hu) gr_ne (se_var (pv 4)) (se_lst sa_nil) (nomark _)) (se_fn h__law_set.ok (hr.mono (by decide)) rfl h__law_set.g h__law_set.F.kp h__law_set.b hx (sa_cons (se_var (pv 0)) (sa_cons (se_var (pv 2)) (sa_cons (se_ix (se_ix (se_var (pv 4)) se_int (fun _ _ => rfl)) se_int (fun _ _ => rfl)) sa_nil)))) (se_var (pv 2))))))
/-! ### _law_entry -/
abbrev st__law_entry : Stmt := (top 68)
def N__law_entry : List Str := ["_law_spec", "_law_word_z", "_law_marks_z", "_law_time_z", "_law_known_z", "_law_some", "_law_entry_here"]
theorem sc__law_entry : FnScope N__law_entry ["_law_spec", "_law_word_z", "_law_marks_z", "_law_time_z", "_law_known_z"] (defScope st__law_entry) := ⟨rfl, rfl, rfl, by decide +kernel, rfl, by decide +kernel, by decide +kernel⟩
theorem ok__law_entry (B : Bl mg) (C : Cn K mg) (L : Lf K cl)  {f__law_passes : Addr} {fd__law_passes : FuncData} (h__law_passes : At P w K cl mg base 2 "_law_passes" st__law_passes ["_law_spec", "_law_tests", "_law_marks_z", "_law_time_z"] f__law_passes fd__law_passes G__law_passes)  {f : Addr} {fd : FuncData} (F_ : Fun K "_law_entry" "_law_entry" st__law_entry f fd) : SF P w K cl mg base 4 f fd ["_law_spec", "_law_word_z", "_law_marks_z", "_law_time_z", "_law_known_z"] F__law_entry := by
  refine sf_mk F_ sc__law_entry rfl rfl fun cdv A outer s H E hr => ?_
  have hu := hu64 hr
  have hu5 := hu65 hr
  have tk : Takes (cxOf (L2.CX P w) P w K mg base N__law_entry "_law_entry" (defScope st__law_entry) f cdv A outer s H E) (fun cls d _ H => E cls d H) := takes_of rfl rfl rfl rfl
  have hx : Passes (L2.CX P w) (cxOf (L2.CX P w) P w K mg base N__law_entry "_law_entry" (defScope st__law_entry) f cdv A outer s H E) E := passes_call tk fun _ _ _ _ h => h
  have hpo := passes_of (X := (cxOf (L2.CX P w) P w K mg base N__law_entry "_law_entry" (defScope st__law_entry) f cdv A outer s H E)) rfl
  exact (sb_cons (ss_setLc (i := 5) (own := [("_law_entry_here", 6)]) rfl (sc__law_entry).nd rfl rfl (sw_true rfl rfl rfl (by decide +kernel)) (si_seq (se_dget hu (se_var (pv 0)) se_str (fun _ _ => rfl))) (blkOk_by (own := [("_law_entry_here", 6)]) (N := N__law_entry) (sc := defScope st__law_entry) (by decide +kernel)) (fun _ _ _ _ _ => (sg_name (pg_name (i := 6) (sc__law_entry).nd rfl (by first | exact Or.inl rfl | exact Or.inr rfl)))) (fun _ _ _ _ _ => (sts_one (st_of (sw_and (st_cmp (op_eqA hu) gr_eq (se_ix (se_var (pv 6)) se_int (fun _ _ => rfl)) (se_var (pv 1)) (nomark _)) (sw_and (st_cmp (op_inA hu5) gr_in (se_ix (se_var (pv 6)) se_int (fun _ _ => rfl)) (se_tup (sa_cons se_str (sa_cons (se_var (pv 4)) sa_nil))) (by rfl)) (sw_and1 (st_truth (se_fn h__law_passes.ok (hr.mono (by decide)) rfl h__law_passes.g h__law_passes.F.kp h__law_passes.b passL (sa_cons (se_var (pv 0)) (sa_cons (se_ix (se_var (pv 6)) se_int (fun _ _ => rfl)) (sa_cons (se_var (pv 2)) (sa_cons (se_var (pv 3)) sa_nil))))) (fun _ => rfl)))))))) (fun _ _ _ _ _ => (se_var (pv 6))))
  (sb_one (ss_ret (se_if (st_cmp (op_neA hu) gr_ne (se_var (pv 5)) (se_lst sa_nil) (nomark _)) (se_ix (se_var (pv 5)) se_int (fun _ _ => rfl)) se_non))))
/-! ### _law_reading -/
abbrev st__law_reading : Stmt := (top 69)
def N__law_reading : List Str := ["_law_spec", "_law_word_z", "_law_marks_z", "_law_time_z", "_law_some", "_law_row"]
theorem sc__law_reading : FnScope N__law_reading ["_law_spec", "_law_word_z", "_law_marks_z", "_law_time_z"] (defScope st__law_reading) := ⟨rfl, rfl, rfl, by decide +kernel, rfl, by decide +kernel, by decide +kernel⟩
theorem ok__law_reading (B : Bl mg) (C : Cn K mg) (L : Lf K cl)  {f__law_passes : Addr} {fd__law_passes : FuncData} (h__law_passes : At P w K cl mg base 2 "_law_passes" st__law_passes ["_law_spec", "_law_tests", "_law_marks_z", "_law_time_z"] f__law_passes fd__law_passes G__law_passes)  {f : Addr} {fd : FuncData} (F_ : Fun K "_law_reading" "_law_reading" st__law_reading f fd) : SF P w K cl mg base 4 f fd ["_law_spec", "_law_word_z", "_law_marks_z", "_law_time_z"] F__law_reading := by
  refine sf_mk F_ sc__law_reading rfl rfl fun cdv A outer s H E hr => ?_
  have hu := hu64 hr
  have hu5 := hu65 hr
  have tk : Takes (cxOf (L2.CX P w) P w K mg base N__law_reading "_law_reading" (defScope st__law_reading) f cdv A outer s H E) (fun cls d _ H => E cls d H) := takes_of rfl rfl rfl rfl
  have hx : Passes (L2.CX P w) (cxOf (L2.CX P w) P w K mg base N__law_reading "_law_reading" (defScope st__law_reading) f cdv A outer s H E) E := passes_call tk fun _ _ _ _ h => h
  have hpo := passes_of (X := (cxOf (L2.CX P w) P w K mg base N__law_reading "_law_reading" (defScope st__law_reading) f cdv A outer s H E)) rfl
  exact (sb_cons (ss_setLc (i := 4) (own := [("_law_row", 5)]) rfl (sc__law_reading).nd rfl rfl (sw_true rfl rfl rfl (by decide +kernel)) (si_seq (se_dget hu (se_var (pv 0)) se_str (fun _ _ => rfl))) (blkOk_by (own := [("_law_row", 5)]) (N := N__law_reading) (sc := defScope st__law_reading) (by decide +kernel)) (fun _ _ _ _ _ => (sg_name (pg_name (i := 5) (sc__law_reading).nd rfl (by first | exact Or.inl rfl | exact Or.inr rfl)))) (fun _ _ _ _ _ => (sts_one (st_of (sw_and (st_cmp (op_eqA hu) gr_eq (se_ix (se_var (pv 5)) se_int (fun _ _ => rfl)) (se_var (pv 1)) (nomark _)) (sw_and1 (st_truth (se_fn h__law_passes.ok (hr.mono (by decide)) rfl h__law_passes.g h__law_passes.F.kp h__law_passes.b passL (sa_cons (se_var (pv 0)) (sa_cons (se_ix (se_var (pv 5)) se_int (fun _ _ => rfl)) (sa_cons (se_var (pv 2)) (sa_cons (se_var (pv 3)) sa_nil))))) (fun _ => rfl))))))) (fun _ _ _ _ _ => (se_var (pv 5))))
  (sb_one (ss_ret (se_if (st_cmp (op_neA hu) gr_ne (se_var (pv 4)) (se_lst sa_nil) (nomark _)) (se_ix (se_ix (se_var (pv 4)) se_int (fun _ _ => rfl)) se_int (fun _ _ => rfl)) se_non))))
/-! ### law -/
abbrev st_law : Stmt := (top 70)
def N_law : List Str := ["_law_script", "_law_bag_here", "_law_turn", "_law_spec", "_law_made", "_law_time_z", "_law_marks_z", "_law_rules", "_law_found", "_law_word_z", "_law_due", "_law_known_z", "_law_mark", "_law_row"]
theorem sc_law : FnScope N_law ["_law_script"] (defScope st_law) := ⟨rfl, rfl, rfl, by decide +kernel, rfl, by decide +kernel, by decide +kernel⟩
def M_law : En → Wd → SR :=
  (mSeq (mAsg (mCall G__law_bag (aCons (mVar 0) aNil)) (gNm 1))
  (mSeq (mFor (mRng (aCons (mC (.int 3)) aNil)) (gNm 2) (mSeq (mAsg (mCall G__law_any_spec (aCons (mVar 1) (aCons (mTup (aCons (mC (.int 3)) (aCons (mC (.int 3)) (aCons (mC (.int 2)) (aCons (mC (.int 1)) aNil))))) (aCons (mC (.int 2)) aNil)))) (gNm 3))
  (mSeq (mAsg (mCall G__law_book (aCons (mVar 3) aNil)) (gNm 4))
  (mFor (mRng (aCons (mOp gAdd (mCall G__law_top (aCons (mVar 3) aNil)) (mC (.int 3))) aNil)) (gNm 5) (mSeq (mAsg (mCall gTupOf (aCons (mLc (mIter (mOp gDGet (mVar 3) (mC (.str "marks")))) [12] (gNm 12) bYes (mCall G__law_draw (aCons (mVar 1) (aCons (mC (.int 2)) aNil)))) aNil)) (gNm 6))
  (mSeq (mAsg (mOp gAdd (mOp gAdd (mOp gAdd (mOp gDGet (mVar 3) (mC (.str "notes"))) (mOp gDGet (mVar 3) (mC (.str "entries")))) (mOp gDGet (mVar 3) (mC (.str "jobs")))) (mOp gDGet (mVar 3) (mC (.str "readings")))) (gNm 7))
  (mSeq (mAsg (mLc (mIter (mVar 7)) [13] (gNm 13) bYes (mMeth "Book" "passes" G_Book_passes (mVar 4) (aCons (mOp gIx (mVar 13) (mC (.int 1))) (aCons (mVar 6) (aCons (mVar 5) aNil))))) (gNm 8))
  (mSeq (mIfS (bNot (mTru (mCall G__law_same (aCons (mVar 8) (aCons (mLc (mIter (mVar 7)) [13] (gNm 13) bYes (mCall G__law_passes (aCons (mVar 3) (aCons (mOp gIx (mVar 13) (mC (.int 1))) (aCons (mVar 6) (aCons (mVar 5) aNil)))))) aNil))))) (mRet (mC (.bl false))) mNext)
  (mSeq (mFor (mIter (mLst (aCons (mC (.str "put")) (aCons (mC (.str "take")) aNil)))) (gNm 9) (mSeq (mAsg (mCall G__law_noted (aCons (mVar 3) (aCons (mVar 9) (aCons (mVar 6) (aCons (mVar 5) aNil))))) (gNm 10))
  (mSeq (mIfS (bNot (mTru (mCall G__law_same (aCons (mLst (aCons (mMeth "Book" "noted" G_Book_noted (mVar 4) (aCons (mVar 9) (aCons (mVar 6) (aCons (mVar 5) aNil)))) (aCons (mMethK "Book" "noted" G_Book_noted [0, 3, 2, 1] (mVar 4) aNil (aCons (mVar 5) (aCons (mVar 6) (aCons (mVar 9) aNil)))) aNil))) (aCons (mLst (aCons (mVar 10) (aCons (mVar 10) aNil))) aNil))))) (mRet (mC (.bl false))) mNext)
  (mFor (mIter (mLst (aCons (mC (.str "no")) (aCons (mC (.str "put")) (aCons (mC (.str "take")) aNil))))) (gNm 11) (mSeq (mAsg (mCall G__law_entry (aCons (mVar 3) (aCons (mVar 9) (aCons (mVar 6) (aCons (mVar 5) (aCons (mVar 11) aNil)))))) (gNm 10))
  (mSeq (mAsg (mLst (aCons (mMeth "Book" "entry" G_Book_entry (mVar 4) (aCons (mVar 9) (aCons (mVar 6) (aCons (mVar 5) (aCons (mVar 11) aNil))))) (aCons (mMethK "Book" "entry" G_Book_entry [0, 4, 3, 2, 1] (mVar 4) aNil (aCons (mVar 11) (aCons (mVar 5) (aCons (mVar 6) (aCons (mVar 9) aNil))))) aNil))) (gNm 8))
  (mIfS (bNot (mTru (mCall G__law_same (aCons (mVar 8) (aCons (mLst (aCons (mVar 10) (aCons (mVar 10) aNil))) aNil))))) (mRet (mC (.bl false))) mNext)))))))
  (mSeq (mAsg (mLc (mIter (mLst (aCons (mC (.str "whole")) (aCons (mC (.str "cut")) aNil)))) [9] (gNm 9) bYes (mCall G__law_reading (aCons (mVar 3) (aCons (mVar 9) (aCons (mVar 6) (aCons (mVar 5) aNil)))))) (gNm 10))
  (mSeq (mAsg (mLst (aCons (mMeth "Book" "reading" G_Book_reading (mVar 4) (aCons (mC (.str "whole")) (aCons (mVar 6) (aCons (mVar 5) aNil)))) (aCons (mMethK "Book" "reading" G_Book_reading [0, 2, 3, 1] (mVar 4) aNil (aCons (mVar 5) (aCons (mC (.str "cut")) (aCons (mVar 6) aNil)))) aNil))) (gNm 8))
  (mIfS (bNot (mTru (mCall G__law_same (aCons (mVar 8) (aCons (mVar 10) aNil))))) (mRet (mC (.bl false))) mNext))))))))))))
  (mRet (mC (.bl true)))))
def F_law : List D → Wd → R D := fnD 14 1 M_law
theorem ok_law (B : Bl mg) (C : Cn K mg) (L : Lf K cl) {C_Book : Addr} (c_Book : ClO K cl "Book" C_Book) {f__law_bag : Addr} {fd__law_bag : FuncData} (h__law_bag : At P w K cl mg base 2 "_law_bag" st__law_bag ["_law_script"] f__law_bag fd__law_bag G__law_bag) {f__law_any_spec : Addr} {fd__law_any_spec : FuncData} (h__law_any_spec : At P w K cl mg base 12 "_law_any_spec" st__law_any_spec ["_law_bag_here", "_law_sizes", "_law_most_steps"] f__law_any_spec fd__law_any_spec G__law_any_spec) {f__law_book : Addr} {fd__law_book : FuncData} (h__law_book : At P w K cl mg base 14 "_law_book" st__law_book ["_law_spec"] f__law_book fd__law_book G__law_book) {f__law_top : Addr} {fd__law_top : FuncData} (h__law_top : At P w K cl mg base 2 "_law_top" st__law_top ["_law_spec"] f__law_top fd__law_top G__law_top) {f__law_draw : Addr} {fd__law_draw : FuncData} (h__law_draw : At P w K cl mg base 2 "_law_draw" st__law_draw ["_law_bag_here", "_law_many"] f__law_draw fd__law_draw G__law_draw) {f_Book_passes : Addr} {fd_Book_passes : FuncData} (h_Book_passes : AtM P w K cl mg base 2 C_Book "passes" "Book.passes" st_Book_passes ["self", "tests", "marks", "time"] f_Book_passes fd_Book_passes G_Book_passes) {f__law_passes : Addr} {fd__law_passes : FuncData} (h__law_passes : At P w K cl mg base 2 "_law_passes" st__law_passes ["_law_spec", "_law_tests", "_law_marks_z", "_law_time_z"] f__law_passes fd__law_passes G__law_passes) {f__law_same : Addr} {fd__law_same : FuncData} (h__law_same : At P w K cl mg base 6 "_law_same" st__law_same ["_law_found", "_law_due"] f__law_same fd__law_same G__law_same) {f__law_noted : Addr} {fd__law_noted : FuncData} (h__law_noted : At P w K cl mg base 4 "_law_noted" st__law_noted ["_law_spec", "_law_word_z", "_law_marks_z", "_law_time_z"] f__law_noted fd__law_noted G__law_noted) {f_Book_noted : Addr} {fd_Book_noted : FuncData} (h_Book_noted : AtM P w K cl mg base 4 C_Book "noted" "Book.noted" st_Book_noted ["self", "word", "marks", "time"] f_Book_noted fd_Book_noted G_Book_noted) {f__law_entry : Addr} {fd__law_entry : FuncData} (h__law_entry : At P w K cl mg base 4 "_law_entry" st__law_entry ["_law_spec", "_law_word_z", "_law_marks_z", "_law_time_z", "_law_known_z"] f__law_entry fd__law_entry G__law_entry) {f_Book_entry : Addr} {fd_Book_entry : FuncData} (h_Book_entry : AtM P w K cl mg base 4 C_Book "entry" "Book.entry" st_Book_entry ["self", "word", "marks", "time", "known"] f_Book_entry fd_Book_entry G_Book_entry) {f__law_reading : Addr} {fd__law_reading : FuncData} (h__law_reading : At P w K cl mg base 4 "_law_reading" st__law_reading ["_law_spec", "_law_word_z", "_law_marks_z", "_law_time_z"] f__law_reading fd__law_reading G__law_reading) {f_Book_reading : Addr} {fd_Book_reading : FuncData} (h_Book_reading : AtM P w K cl mg base 4 C_Book "reading" "Book.reading" st_Book_reading ["self", "word", "marks", "time"] f_Book_reading fd_Book_reading G_Book_reading)  {f : Addr} {fd : FuncData} (F_ : Fun K "law" "law" st_law f fd) : SF P w K cl mg base 16 f fd ["_law_script"] F_law := by
  refine sf_mk F_ sc_law rfl rfl fun cdv A outer s H E hr => ?_
  have hu := hu64 hr
  have hu5 := hu65 hr
  have tk : Takes (cxOf (L2.CX P w) P w K mg base N_law "law" (defScope st_law) f cdv A outer s H E) (fun cls d _ H => E cls d H) := takes_of rfl rfl rfl rfl
  have hx : Passes (L2.CX P w) (cxOf (L2.CX P w) P w K mg base N_law "law" (defScope st_law) f cdv A outer s H E) E := passes_call tk fun _ _ _ _ h => h
  have hpo := passes_of (X := (cxOf (L2.CX P w) P w K mg base N_law "law" (defScope st_law) f cdv A outer s H E)) rfl
  exact (sb_cons (ss_set (i := 1) (sc_law).nd rfl (by first | exact Or.inl rfl | exact Or.inr rfl) (se_fn h__law_bag.ok (hr.mono (by decide)) rfl h__law_bag.g h__law_bag.F.kp h__law_bag.b hx (sa_cons (se_var (pv 0)) sa_nil)))
  (sb_cons (ss_for hpo rfl (si_rng1 rfl B.b_range se_int) (sg_name (pg_name (i := 2) (sc_law).nd rfl (by first | exact Or.inl rfl | exact Or.inr rfl))) (sb_cons (ss_set (i := 3) (sc_law).nd rfl (by first | exact Or.inl rfl | exact Or.inr rfl) (se_fn h__law_any_spec.ok (hr.mono (by decide)) rfl h__law_any_spec.g h__law_any_spec.F.kp h__law_any_spec.b hx (sa_cons (se_var (pv 1)) (sa_cons (se_tup (sa_cons se_int (sa_cons se_int (sa_cons se_int (sa_cons se_int sa_nil))))) (sa_cons se_int sa_nil)))))
  (sb_cons (ss_set (i := 4) (sc_law).nd rfl (by first | exact Or.inl rfl | exact Or.inr rfl) (se_fn h__law_book.ok (hr.mono (by decide)) rfl h__law_book.g h__law_book.F.kp h__law_book.b hx (sa_cons (se_var (pv 3)) sa_nil)))
  (sb_one (ss_for hpo rfl (si_rng1 rfl B.b_range (se_op op_addA gr_add (se_fn h__law_top.ok (hr.mono (by decide)) rfl h__law_top.g h__law_top.F.kp h__law_top.b hx (sa_cons (se_var (pv 3)) sa_nil)) se_int)) (sg_name (pg_name (i := 5) (sc_law).nd rfl (by first | exact Or.inl rfl | exact Or.inr rfl))) (sb_cons (ss_set (i := 6) (sc_law).nd rfl (by first | exact Or.inl rfl | exact Or.inr rfl) (se_tupleC rfl B.b_tuple (sa_cons (se_lc (own := [("_law_mark", 12)]) rfl (sc_law).nd (si_seq (se_dget hu (se_var (pv 3)) se_str (fun _ _ => rfl))) (blkOk_by (own := [("_law_mark", 12)]) (N := N_law) (sc := defScope st_law) (by decide +kernel)) (fun _ _ _ _ _ => (sg_name (pg_name (i := 12) (sc_law).nd rfl (by first | exact Or.inl rfl | exact Or.inr rfl)))) (fun _ _ _ _ _ => sts_nil) (fun _ _ _ _ _ => (se_fn h__law_draw.ok (hr.mono (by decide)) rfl h__law_draw.g h__law_draw.F.kp h__law_draw.b passL (sa_cons (se_var (pv 1)) (sa_cons se_int sa_nil))))) sa_nil)))
  (sb_cons (ss_set (i := 7) (sc_law).nd rfl (by first | exact Or.inl rfl | exact Or.inr rfl) (se_op op_addA gr_add (se_op op_addA gr_add (se_op op_addA gr_add (se_dget hu (se_var (pv 3)) se_str (fun _ _ => rfl)) (se_dget hu (se_var (pv 3)) se_str (fun _ _ => rfl))) (se_dget hu (se_var (pv 3)) se_str (fun _ _ => rfl))) (se_dget hu (se_var (pv 3)) se_str (fun _ _ => rfl))))
  (sb_cons (ss_setLc (i := 8) (own := [("_law_row", 13)]) rfl (sc_law).nd rfl rfl (sw_true rfl rfl rfl (by decide +kernel)) (si_seq (se_var (pv 7))) (blkOk_by (own := [("_law_row", 13)]) (N := N_law) (sc := defScope st_law) (by decide +kernel)) (fun _ _ _ _ _ => (sg_name (pg_name (i := 13) (sc_law).nd rfl (by first | exact Or.inl rfl | exact Or.inr rfl)))) (fun _ _ _ _ _ => sts_nil) (fun _ _ _ _ _ => (se_meth (se_var (pv 4)) c_Book.e c_Book.c h_Book_passes.m h_Book_passes.ok (hr.mono (by decide)) h_Book_passes.b passL (sa_cons (se_ix (se_var (pv 13)) se_int (fun _ _ => rfl)) (sa_cons (se_var (pv 6)) (sa_cons (se_var (pv 5)) sa_nil))))))
  (sb_cons (ss_if (st_not (st_truth (se_fn h__law_same.ok (hr.mono (by decide)) rfl h__law_same.g h__law_same.F.kp h__law_same.b hx (sa_cons (se_var (pv 8)) (sa_cons (se_lc (own := [("_law_row", 13)]) rfl (sc_law).nd (si_seq (se_var (pv 7))) (blkOk_by (own := [("_law_row", 13)]) (N := N_law) (sc := defScope st_law) (by decide +kernel)) (fun _ _ _ _ _ => (sg_name (pg_name (i := 13) (sc_law).nd rfl (by first | exact Or.inl rfl | exact Or.inr rfl)))) (fun _ _ _ _ _ => sts_nil) (fun _ _ _ _ _ => (se_fn h__law_passes.ok (hr.mono (by decide)) rfl h__law_passes.g h__law_passes.F.kp h__law_passes.b passL (sa_cons (se_var (pv 3)) (sa_cons (se_ix (se_var (pv 13)) se_int (fun _ _ => rfl)) (sa_cons (se_var (pv 6)) (sa_cons (se_var (pv 5)) sa_nil))))))) sa_nil))) (fun _ => rfl))) (sb_one (ss_ret se_bl)) sb_nil)
  (sb_cons (ss_for hpo rfl (si_seq (se_lst (sa_cons se_str (sa_cons se_str sa_nil)))) (sg_name (pg_name (i := 9) (sc_law).nd rfl (by first | exact Or.inl rfl | exact Or.inr rfl))) (sb_cons (ss_set (i := 10) (sc_law).nd rfl (by first | exact Or.inl rfl | exact Or.inr rfl) (se_fn h__law_noted.ok (hr.mono (by decide)) rfl h__law_noted.g h__law_noted.F.kp h__law_noted.b hx (sa_cons (se_var (pv 3)) (sa_cons (se_var (pv 9)) (sa_cons (se_var (pv 6)) (sa_cons (se_var (pv 5)) sa_nil))))))
  (sb_cons (ss_if (st_not (st_truth (se_fn h__law_same.ok (hr.mono (by decide)) rfl h__law_same.g h__law_same.F.kp h__law_same.b hx (sa_cons (se_lst (sa_cons (se_meth (se_var (pv 4)) c_Book.e c_Book.c h_Book_noted.m h_Book_noted.ok (hr.mono (by decide)) h_Book_noted.b hx (sa_cons (se_var (pv 9)) (sa_cons (se_var (pv 6)) (sa_cons (se_var (pv 5)) sa_nil)))) (sa_cons (se_methK0 (se_var (pv 4)) c_Book.e c_Book.c h_Book_noted.m h_Book_noted.ok (hr.mono (by decide)) (kb_mk h_Book_noted.F (n := 1) (ks := ["time", "marks", "word"]) (pm := [0, 3, 2, 1]) fun _ _ _ _ _ _ us ws h1 h2 => match us, ws, h1, h2 with | [_], [_, _, _], _, _ => rfl) hx (sk_cons (se_var (pv 5)) (sk_cons (se_var (pv 6)) (sk_cons (se_var (pv 9)) sk_nil))) (aCons_len (aCons_len (aCons_len (fun _ _ _ _ => aNil_len))))) sa_nil))) (sa_cons (se_lst (sa_cons (se_var (pv 10)) (sa_cons (se_var (pv 10)) sa_nil))) sa_nil))) (fun _ => rfl))) (sb_one (ss_ret se_bl)) sb_nil)
  (sb_one (ss_for hpo rfl (si_seq (se_lst (sa_cons se_str (sa_cons se_str (sa_cons se_str sa_nil))))) (sg_name (pg_name (i := 11) (sc_law).nd rfl (by first | exact Or.inl rfl | exact Or.inr rfl))) (sb_cons (ss_set (i := 10) (sc_law).nd rfl (by first | exact Or.inl rfl | exact Or.inr rfl) (se_fn h__law_entry.ok (hr.mono (by decide)) rfl h__law_entry.g h__law_entry.F.kp h__law_entry.b hx (sa_cons (se_var (pv 3)) (sa_cons (se_var (pv 9)) (sa_cons (se_var (pv 6)) (sa_cons (se_var (pv 5)) (sa_cons (se_var (pv 11)) sa_nil)))))))
  (sb_cons (ss_set (i := 8) (sc_law).nd rfl (by first | exact Or.inl rfl | exact Or.inr rfl) (se_lst (sa_cons (se_meth (se_var (pv 4)) c_Book.e c_Book.c h_Book_entry.m h_Book_entry.ok (hr.mono (by decide)) h_Book_entry.b hx (sa_cons (se_var (pv 9)) (sa_cons (se_var (pv 6)) (sa_cons (se_var (pv 5)) (sa_cons (se_var (pv 11)) sa_nil))))) (sa_cons (se_methK0 (se_var (pv 4)) c_Book.e c_Book.c h_Book_entry.m h_Book_entry.ok (hr.mono (by decide)) (kb_mk h_Book_entry.F (n := 1) (ks := ["known", "time", "marks", "word"]) (pm := [0, 4, 3, 2, 1]) fun _ _ _ _ _ _ us ws h1 h2 => match us, ws, h1, h2 with | [_], [_, _, _, _], _, _ => rfl) hx (sk_cons (se_var (pv 11)) (sk_cons (se_var (pv 5)) (sk_cons (se_var (pv 6)) (sk_cons (se_var (pv 9)) sk_nil)))) (aCons_len (aCons_len (aCons_len (aCons_len (fun _ _ _ _ => aNil_len)))))) sa_nil))))
  (sb_one (ss_if (st_not (st_truth (se_fn h__law_same.ok (hr.mono (by decide)) rfl h__law_same.g h__law_same.F.kp h__law_same.b hx (sa_cons (se_var (pv 8)) (sa_cons (se_lst (sa_cons (se_var (pv 10)) (sa_cons (se_var (pv 10)) sa_nil))) sa_nil))) (fun _ => rfl))) (sb_one (ss_ret se_bl)) sb_nil)))))))))
  (sb_cons (ss_setLc (i := 10) (own := [("_law_word_z", 9)]) rfl (sc_law).nd rfl rfl (sw_true rfl rfl rfl (by decide +kernel)) (si_seq (se_lst (sa_cons se_str (sa_cons se_str sa_nil)))) (blkOk_by (own := [("_law_word_z", 9)]) (N := N_law) (sc := defScope st_law) (by decide +kernel)) (fun _ _ _ _ _ => (sg_name (pg_name (i := 9) (sc_law).nd rfl (by first | exact Or.inl rfl | exact Or.inr rfl)))) (fun _ _ _ _ _ => sts_nil) (fun _ _ _ _ _ => (se_fn h__law_reading.ok (hr.mono (by decide)) rfl h__law_reading.g h__law_reading.F.kp h__law_reading.b passL (sa_cons (se_var (pv 3)) (sa_cons (se_var (pv 9)) (sa_cons (se_var (pv 6)) (sa_cons (se_var (pv 5)) sa_nil)))))))
  (sb_cons (ss_set (i := 8) (sc_law).nd rfl (by first | exact Or.inl rfl | exact Or.inr rfl) (se_lst (sa_cons (se_meth (se_var (pv 4)) c_Book.e c_Book.c h_Book_reading.m h_Book_reading.ok (hr.mono (by decide)) h_Book_reading.b hx (sa_cons se_str (sa_cons (se_var (pv 6)) (sa_cons (se_var (pv 5)) sa_nil)))) (sa_cons (se_methK0 (se_var (pv 4)) c_Book.e c_Book.c h_Book_reading.m h_Book_reading.ok (hr.mono (by decide)) (kb_mk h_Book_reading.F (n := 1) (ks := ["time", "word", "marks"]) (pm := [0, 2, 3, 1]) fun _ _ _ _ _ _ us ws h1 h2 => match us, ws, h1, h2 with | [_], [_, _, _], _, _ => rfl) hx (sk_cons (se_var (pv 5)) (sk_cons se_str (sk_cons (se_var (pv 6)) sk_nil))) (aCons_len (aCons_len (aCons_len (fun _ _ _ _ => aNil_len))))) sa_nil))))
  (sb_one (ss_if (st_not (st_truth (se_fn h__law_same.ok (hr.mono (by decide)) rfl h__law_same.g h__law_same.F.kp h__law_same.b hx (sa_cons (se_var (pv 8)) (sa_cons (se_var (pv 10)) sa_nil))) (fun _ => rfl))) (sb_one (ss_ret se_bl)) sb_nil))))))))))))))
  (sb_one (ss_ret se_bl))))
abbrev G_law := F_law
end

end K10
set_option Elab.async false
set_option linter.all false
set_option autoImplicit false
set_option maxRecDepth 100000
set_option maxHeartbeats 4000000
namespace K10
open PySem L2 PyProof.Rows Si Bk
/-- one step by the form of the code -/
local macro_rules | `(tactic| walk_at "g1") => `(tactic| with_reducible first
  | refine gd_seq ?_ | refine gd_nm ?_ | refine gd_asg ?_ | refine gd_ret ?_ | refine gd_if ?_ | refine gd_next ?_ | refine gd_expr ?_ | refine gd_par ?_ | refine gd_retN ?_ | refine gd_brk ?_ | refine gd_cnt ?_ | refine gd_for ?_
  | refine go_var rfl ?_ | refine go_c ?_ | refine go_op ?_ | refine go_call ?_ | refine go_callK ?_ | refine go_nil ?_ | refine go_cons ?_ | refine go_tup ?_ | refine go_lst ?_ | refine go_lstM ?_ | refine go_chain ?_ | refine go_and ?_ | refine go_or ?_ | refine go_not ?_
  | refine go_tru ?_ | refine go_asB ?_ | refine go_bAnd ?_ | refine go_bOr ?_ | refine go_bNot ?_ | refine go_bYes ?_ | refine go_if ?_ | refine go_neg ?_ | refine go_oNone ?_ | refine go_oSome ?_ | refine go_sl ?_ | refine go_isi ?_ | refine go_isi2 ?_
  | refine go_join ?_ | refine go_app ?_ | refine go_iter ?_ | refine go_zip ?_ | refine go_star ?_ | refine go_lenSet ?_ | refine go_enum ?_ | refine go_rng1 ?_ | refine go_rng2 ?_ | refine go_lc ?_ | refine go_lcM ?_
  | refine go_addI ?_ | refine go_subI ?_ | refine go_lt ?_ | refine go_le ?_ | refine go_gt ?_ | refine go_ge ?_ | refine go_eqI ?_ | refine go_neI ?_ | refine go_eqS ?_ | refine go_neS ?_ | refine go_lenL ?_ | refine go_lenT ?_ | refine go_lenS (by assumption) ?_
  | refine go_slL ?_ | refine go_slT ?_ | refine go_slS (by assumption) ?_ | refine go_ixL rfl ?_ | refine go_ixT rfl ?_ | refine go_intI ?_ | refine go_lstL ?_ | refine go_lstT ?_ | refine go_tupL ?_ | refine go_tupT ?_ | refine go_isN ?_ | refine go_notN ?_ | refine go_allM ?_
  | refine br_t ?_ | refine br_f ?_ | refine br_not ?_)
local macro_rules | `(tactic| walk_at "g2") => `(tactic| first
  | with_reducible refine ex_bl ?_ | with_reducible refine ex_int ?_ | with_reducible refine ex_str ?_ | with_reducible refine ex_nm ?_
  | with_reducible refine ex_zip ?_ | with_reducible refine ex_enum ?_
  | with_reducible refine ex_seq (by with_unfolding_all exact rfl) ?_
  | with_reducible refine ex_tg (by with_unfolding_all exact rfl) ?_
  | with_reducible refine ex_tru (by with_unfolding_all exact rfl) ?_
  | with_reducible refine ex_ty (by with_unfolding_all exact rfl) ?_
  | with_reducible refine ex_it (by with_unfolding_all exact rfl) ?_
  | with_reducible refine br_is (b := Si.isNon _) (by with_unfolding_all rfl) ?_ | with_reducible refine br_isnt (b := Si.isNon _) (by with_unfolding_all rfl) ?_
  | with_reducible refine br_is (b := isB _ _) (by with_unfolding_all decide) ?_ | with_reducible refine br_isnt (b := isB _ _) (by with_unfolding_all decide) ?_
  | with_reducible refine br_is (b := isB _ _ || isB _ _) (by with_unfolding_all decide) ?_ | with_reducible refine br_isnt (b := isB _ _ || isB _ _) (by with_unfolding_all decide) ?_
  | with_reducible refine go_mulL ⟨by decide, by decide⟩ ?_ | with_reducible refine go_mulR ⟨by decide, by decide⟩ ?_ | with_reducible refine go_mod (by decide) ?_ | with_reducible refine go_div (by decide) (by decide) ?_
  | with_reducible refine go_inTt (by decide +kernel) (by decide +kernel) ?_ | with_reducible refine go_inTf (by decide +kernel) (by decide +kernel) ?_ | with_reducible refine go_niTt (by decide +kernel) (by decide +kernel) ?_ | with_reducible refine go_niTf (by decide +kernel) (by decide +kernel) ?_
  | with_reducible refine br_y (by decide +kernel) ?_ | with_reducible refine br_n (by decide +kernel) ?_ | with_reducible refine br_y (by with_unfolding_all rfl) ?_ | with_reducible refine br_n (by simp only [List.length_cons, List.length_nil]; omega) ?_
  | (with_reducible refine an_rng ?hh ?_; case hh => (first | decide | omega))
  | (with_reducible refine an_rng2 ?hh ?_; case hh => (first | decide | omega))
  | (with_reducible refine an_le ?hh ?_; case hh => (first | decide | (simp only [List.length_cons, List.length_nil]; omega)))
  | fail)
local macro_rules | `(tactic| walk_at "gg") => `(tactic| repeat' (first | walk_at "g1" | walk_at "g2"))

section
variable {X : EX} {Q : D → Wd → Prop} {w0 w : Wd} {n m c b : Nat} {σ : En} {sp : Bk.Sp}
/-- what holds all along: the bag, the spec, the book -/
structure In3 (m b : Nat) (w : Wd) (sp : Bk.Sp) : Prop where
  bg : BagAt w 0
  s : SpAt 0 m w sp
  bk : BkAt 0 b w sp
theorem In3.go {w1 : Wd} (h : In3 m b w sp) (g : Bg 0 w w1) : In3 m b w1 sp := ⟨g.b, h.s.bg g, h.bk.bg g⟩
theorem In3.ap {w1 : Wd} (h : In3 m b w sp) (a : Ap w w1) : In3 m b w1 sp := h.go ((Bg.refl h.bg).ap a)
end
theorem law_go (ns : List Int) (hl : ns.length ≤ 63) : Go EX0 (F_law [.scr ns] []) fun d _ => d = .bl true := by
  refine go_fn rfl ?_
  unfold M_law
  walk_at "gg"
  refine go_bag hl fun b hb => ?_
  walk_at "gg"
  refine gd_forL (fun _ σ w => BagAt w 0 ∧ ∃ o2 o3 o4 o5 o6 o7 o8 o9 o10 o11 o12 o13, σ = [some (.scr ns), some (.obj 0), o2, o3, o4, o5, o6, o7, o8, o9, o10, o11, o12, o13]) ?_ ?_ _ _ _ ⟨hb, _, _, _, _, _, _, _, _, _, _, _, _, rfl⟩
  · rintro d r σ w ⟨hb, o2, o3, o4, o5, o6, o7, o8, o9, o10, o11, o12, o13, rfl⟩
    walk_at "gg"
    refine any_specb (Bg.refl hb) (BagAt.lt hb) (by decide) (by decide) (by decide) (by decide) (by decide) fun sp m w1 ok hm hs hb1 => ?_
    walk_at "gg"
    refine law_bookb ok hs (Bg.refl hb1.b) fun bk w2 hbk _ _ hb2 _ => ?_
    have hI : In3 m bk w2 sp := ⟨hb2.b, hs.bg hb2, hbk⟩
    walk_at "gg"
    refine law_topb hI.s ok ?_
    have htb := top_bounds ok
    walk_at "gg"
    refine gd_forL (fun r σ w => (∀ d ∈ r, ∃ i : Int, d = .int i) ∧ In3 m bk w sp ∧ ∃ o2 o5 o6 o7 o8 o9 o10 o11 o12 o13, σ = [some (.scr ns), some (.obj 0), o2, some (.obj m), some (.obj bk), o5, o6, o7, o8, o9, o10, o11, o12, o13]) ?_ ?_ _ _ _ ⟨fun d hd => ?_, hI, _, _, _, _, _, _, _, _, _, _, rfl⟩
    · rintro d r σ w3 ⟨hr, hI, o2, o5, o6, o7, o8, o9, o10, o11, o12, o13, rfl⟩
      obtain ⟨time, rfl⟩ := hr _ List.mem_cons_self
      walk_at "gg"
      refine hI.s.dma ?_
      walk_at "gg"
      have hml := ok.ma.le
      refine lc_drawT (fun _ : Int => True) D.int _ (by rw [List.length_map]; omega) (Bg.refl hI.bg) (fun d w hd hb => ?_) fun mk w4 hmk _ hb4 => ?_
      · walk_at "gg"
        exact drb hb (by decide) (by decide) fun r w' _ _ hb' => ⟨⟨r, trivial, rfl⟩, hb'⟩
      rw [List.length_map] at hmk
      have hI4 := hI.go hb4
      walk_at "gg"
      have l1 := ok.nol
      have l2 := ok.enl
      have l3 := ok.jol
      have l4 := ok.rel
      refine hI4.s.dno ?_
      walk_at "gg"
      refine hI4.s.den ?_
      walk_at "gg"
      refine go_addL (by simp only [List.length_map]; omega) ?_
      walk_at "gg"
      refine hI4.s.djo ?_
      walk_at "gg"
      refine go_addL (by simp only [List.length_append, List.length_map]; omega) ?_
      walk_at "gg"
      refine hI4.s.dre ?_
      walk_at "gg"
      refine go_addL (by simp only [List.length_append, List.length_map]; omega) ?_
      walk_at "gg"
      rw [← rowT_d]
      have hrl : (rowT sp).length ≤ 28 := by
        have := congrArg List.length (rowT_d (sp := sp))
        simp only [List.length_map, List.length_append] at this
        omega
      have hrt : ∀ p ∈ rowT sp, TestsOk sp.ma p.2 := fun p hp => ok.tl.1 _ (by rw [← rowT_t]; exact List.mem_map.mpr ⟨p, hp, rfl⟩)
      refine lc_mapT (fun p : D × Prs => p.1) (fun p => .bl (sp.passes mk time p.2)) (rowT sp) (by omega) (fun p hp => ?_) ?_
      · refine ex_nm (go_meth (go_var rfl ⟨bk, _, rfl, hI4.bk.at_, bkN_passes, ?_⟩))
        walk_at "gg"
        refine rowT_ix hp ?_
        walk_at "gg"
        exact passesb hI4.bk ok (hrt p hp) hmk ⟨rfl, rfl⟩
      walk_at "gg"
      refine lc_mapT (fun p : D × Prs => p.1) (fun p => .bl (sp.passes mk time p.2)) (rowT sp) (by omega) (fun p hp => ?_) ?_
      · refine ex_nm ?_
        walk_at "gg"
        refine rowT_ix hp ?_
        walk_at "gg"
        exact law_passesb hI4.s ok (hrt p hp) hmk ⟨rfl, rfl⟩
      walk_at "gg"
      refine go_same (n := 5) rfl (fine_lst (by rw [List.length_map]; omega) fun x hx => ?_) ?_
      · obtain ⟨p, _, rfl⟩ := List.mem_map.mp hx
        exact fine_bl
      walk_at "gg"
      -- the two words
      refine gd_forL (fun r σ w => (∀ d ∈ r, ∃ z : Str, d = .str z) ∧ In3 m bk w sp ∧ ∃ o2 o7 o8 o9 o10 o11 o12 o13, σ = [some (.scr ns), some (.obj 0), o2, some (.obj m), some (.obj bk), some (.int time), some (eI mk), o7, o8, o9, o10, o11, o12, o13]) ?_ ?_ _ _ _ ⟨fun d hd => ?_, hI4, _, _, _, _, _, _, _, _, rfl⟩
      · rintro d r2 σ w5 ⟨hr2, hI5, o2, o7, o8, o9, o10, o11, o12, o13, rfl⟩
        obtain ⟨z, rfl⟩ := hr2 _ List.mem_cons_self
        walk_at "gg"
        refine law_notedb hI5.s ok hmk fun w6 a6 => ?_
        have hI6 := hI5.ap a6
        walk_at "gg"
        refine go_meth (go_var rfl ⟨bk, _, rfl, hI6.bk.at_, bkN_noted, ?_⟩)
        walk_at "gg"
        refine notedb hI6.bk ok hmk fun w7 a7 => ?_
        have hI7 := hI6.ap a7
        walk_at "gg"
        refine go_methK (go_var rfl ⟨bk, _, rfl, hI7.bk.at_, bkN_noted, ?_⟩)
        walk_at "gg"
        simp only [List.cons_append, List.nil_append, List.append_nil]
        rw [permL_4321]
        refine notedb hI7.bk ok hmk fun w8 a8 => ?_
        have hI8 := hI7.ap a8
        walk_at "gg"
        refine go_same (n := 5) rfl (fine_lst (by simp) fun x hx => ?_) ?_
        · simp only [List.mem_cons, List.not_mem_nil, or_false] at hx
          rcases hx with rfl | rfl <;> exact fine_eI (by rw [noted_len, hmk]; omega)
        walk_at "gg"
        -- the three words
        refine gd_forL (fun r σ w => (∀ d ∈ r, ∃ z : Str, d = .str z) ∧ In3 m bk w sp ∧ ∃ o2 o7 o8 o10 o11 o12 o13, σ = [some (.scr ns), some (.obj 0), o2, some (.obj m), some (.obj bk), some (.int time), some (eI mk), o7, o8, some (.str z), o10, o11, o12, o13]) ?_ ?_ _ _ _ ⟨fun d hd => ?_, hI8, _, _, _, _, _, _, _, rfl⟩
        · rintro d r3 σ w9 ⟨hr3, hI9, o2, o7, o8, o10, o11, o12, o13, rfl⟩
          obtain ⟨kn, rfl⟩ := hr3 _ List.mem_cons_self
          walk_at "gg"
          refine law_entryb hI9.s ok hmk ?_
          walk_at "gg"
          refine go_meth (go_var rfl ⟨bk, _, rfl, hI9.bk.at_, bkN_entry, ?_⟩)
          walk_at "gg"
          refine entryb hI9.bk ok hmk ?_
          walk_at "gg"
          refine go_methK (go_var rfl ⟨bk, _, rfl, hI9.bk.at_, bkN_entry, ?_⟩)
          walk_at "gg"
          simp only [List.cons_append, List.nil_append, List.append_nil]
          rw [permL_04321]
          refine entryb hI9.bk ok hmk ?_
          walk_at "gg"
          refine go_same (n := 5) rfl (fine_lst (by simp) fun x hx => ?_) ?_
          · simp only [List.mem_cons, List.not_mem_nil, or_false] at hx
            rcases hx with rfl | rfl <;> exact entry_fine ok
          walk_at "gg"
          exact ⟨fun x hx => hr3 x (List.mem_cons_of_mem _ hx), hI9, _, _, _, _, _, _, _, rfl⟩
        · rintro σ w9 ⟨_, hI9, o2, o7, o8, o10, o11, o12, o13, rfl⟩
          exact ⟨fun x hx => hr2 x (List.mem_cons_of_mem _ hx), hI9, _, _, _, _, _, _, _, _, rfl⟩
        · simp only [List.mem_cons, List.not_mem_nil, or_false] at hd
          rcases hd with rfl | rfl | rfl <;> exact ⟨_, rfl⟩
      · rintro σ w5 ⟨_, hI5, o2, o7, o8, o9, o10, o11, o12, o13, rfl⟩
        walk_at "gg"
        refine lc_mapT D.str (fun z => eOR (sp.reading z mk time)) (["whole", "cut"] : List Str) (by simp) (fun z hz => ?_) ?_
        · refine ex_nm ?_
          walk_at "gg"
          exact law_readingb hI5.s ok hmk ⟨rfl, rfl⟩
        walk_at "gg"
        refine go_meth (go_var rfl ⟨bk, _, rfl, hI5.bk.at_, bkN_reading, ?_⟩)
        walk_at "gg"
        refine readingb hI5.bk ok hmk ?_
        walk_at "gg"
        refine go_methK (go_var rfl ⟨bk, _, rfl, hI5.bk.at_, bkN_reading, ?_⟩)
        walk_at "gg"
        simp only [List.cons_append, List.nil_append, List.append_nil]
        rw [permL_0231]
        refine readingb hI5.bk ok hmk ?_
        walk_at "gg"
        refine go_same (n := 5) rfl (fine_lst (by simp) fun x hx => ?_) ?_
        · simp only [List.mem_cons, List.not_mem_nil, or_false] at hx
          rcases hx with rfl | rfl <;> exact reading_fine ok
        walk_at "gg"
        exact ⟨fun x hx => hr x (List.mem_cons_of_mem _ hx), hI5, _, _, _, _, _, _, _, _, _, _, rfl⟩
      · simp only [List.mem_cons, List.not_mem_nil, or_false] at hd
        rcases hd with rfl | rfl <;> exact ⟨_, rfl⟩
    · rintro σ w3 ⟨_, hI, o2, o5, o6, o7, o8, o9, o10, o11, o12, o13, rfl⟩
      exact ⟨hI.bg, _, _, _, _, _, _, _, _, _, _, _, _, rfl⟩
    · obtain ⟨k, _, rfl⟩ := List.mem_map.mp hd
      exact ⟨_, rfl⟩
  · rintro σ w ⟨_, o2, o3, o4, o5, o6, o7, o8, o9, o10, o11, o12, o13, rfl⟩
    walk_at "gg"
    rfl
theorem law_true (ns : List Int) (hl : ns.length ≤ 63) : ∃ w, F_law [.scr ns] [] = .ok (.bl true) w := by
  obtain ⟨d, w, e, h⟩ := go_get (law_go ns hl)
  exact ⟨w, by rw [e, h]⟩
end K10

set_option Elab.async false
set_option linter.all false
set_option autoImplicit false
set_option maxRecDepth 100000
set_option maxHeartbeats 4000000
namespace K10
open PySem L2 PyProof.Rows Si Bk
def da_Book_passes : DefA := ⟨(mA "Book" "passes"), "passes", "Book.passes", defArgs st_Book_passes, defBody st_Book_passes, defScope st_Book_passes, []⟩
def da_Book_settled : DefA := ⟨(mA "Book" "settled"), "settled", "Book.settled", defArgs st_Book_settled, defBody st_Book_settled, defScope st_Book_settled, []⟩
def da_Book_noted : DefA := ⟨(mA "Book" "noted"), "noted", "Book.noted", defArgs st_Book_noted, defBody st_Book_noted, defScope st_Book_noted, []⟩
def da_Book_entry : DefA := ⟨(mA "Book" "entry"), "entry", "Book.entry", defArgs st_Book_entry, defBody st_Book_entry, defScope st_Book_entry, []⟩
def da_Book_reading : DefA := ⟨(mA "Book" "reading"), "reading", "Book.reading", defArgs st_Book_reading, defBody st_Book_reading, defScope st_Book_reading, []⟩
def da__law_bag : DefA := ⟨(gA "_law_bag"), "_law_bag", "_law_bag", defArgs st__law_bag, defBody st__law_bag, defScope st__law_bag, []⟩
def da__law_draw : DefA := ⟨(gA "_law_draw"), "_law_draw", "_law_draw", defArgs st__law_draw, defBody st__law_draw, defScope st__law_draw, []⟩
def da__law_same : DefA := ⟨(gA "_law_same"), "_law_same", "_law_same", defArgs st__law_same, defBody st__law_same, defScope st__law_same, []⟩
def da__law_of : DefA := ⟨(gA "_law_of"), "_law_of", "_law_of", defArgs st__law_of, defBody st__law_of, defScope st__law_of, []⟩
def da__law_mixed : DefA := ⟨(gA "_law_mixed"), "_law_mixed", "_law_mixed", defArgs st__law_mixed, defBody st__law_mixed, defScope st__law_mixed, []⟩
def da__law_ages : DefA := ⟨(gA "_law_ages"), "_law_ages", "_law_ages", defArgs st__law_ages, defBody st__law_ages, defScope st__law_ages, []⟩
def da__law_chosen : DefA := ⟨(gA "_law_chosen"), "_law_chosen", "_law_chosen", defArgs st__law_chosen, defBody st__law_chosen, defScope st__law_chosen, []⟩
def da__law_drawn_tests : DefA := ⟨(gA "_law_drawn_tests"), "_law_drawn_tests", "_law_drawn_tests", defArgs st__law_drawn_tests, defBody st__law_drawn_tests, defScope st__law_drawn_tests, []⟩
def da__law_settings : DefA := ⟨(gA "_law_settings"), "_law_settings", "_law_settings", defArgs st__law_settings, defBody st__law_settings, defScope st__law_settings, []⟩
def da__law_pairs : DefA := ⟨(gA "_law_pairs"), "_law_pairs", "_law_pairs", defArgs st__law_pairs, defBody st__law_pairs, defScope st__law_pairs, []⟩
def da__law_drawn_step : DefA := ⟨(gA "_law_drawn_step"), "_law_drawn_step", "_law_drawn_step", defArgs st__law_drawn_step, defBody st__law_drawn_step, defScope st__law_drawn_step, []⟩
def da__law_drawn_job : DefA := ⟨(gA "_law_drawn_job"), "_law_drawn_job", "_law_drawn_job", defArgs st__law_drawn_job, defBody st__law_drawn_job, defScope st__law_drawn_job, []⟩
def da__law_moves : DefA := ⟨(gA "_law_moves"), "_law_moves", "_law_moves", defArgs st__law_moves, defBody st__law_moves, defScope st__law_moves, []⟩
def da__law_drawn_entry : DefA := ⟨(gA "_law_drawn_entry"), "_law_drawn_entry", "_law_drawn_entry", defArgs st__law_drawn_entry, defBody st__law_drawn_entry, defScope st__law_drawn_entry, []⟩
def da__law_drawn_reading : DefA := ⟨(gA "_law_drawn_reading"), "_law_drawn_reading", "_law_drawn_reading", defArgs st__law_drawn_reading, defBody st__law_drawn_reading, defScope st__law_drawn_reading, []⟩
def da__law_names : DefA := ⟨(gA "_law_names"), "_law_names", "_law_names", defArgs st__law_names, defBody st__law_names, defScope st__law_names, []⟩
def da__law_bare_spec : DefA := ⟨(gA "_law_bare_spec"), "_law_bare_spec", "_law_bare_spec", defArgs st__law_bare_spec, defBody st__law_bare_spec, defScope st__law_bare_spec, []⟩
def da__law_any_spec : DefA := ⟨(gA "_law_any_spec"), "_law_any_spec", "_law_any_spec", defArgs st__law_any_spec, defBody st__law_any_spec, defScope st__law_any_spec, []⟩
def da_is_number : DefA := ⟨(gA "is_number"), "is_number", "is_number", defArgs st_is_number, defBody st_is_number, defScope st_is_number, []⟩
def da_is_list : DefA := ⟨(gA "is_list"), "is_list", "is_list", defArgs st_is_list, defBody st_is_list, defScope st_is_list, []⟩
def da_is_word : DefA := ⟨(gA "is_word"), "is_word", "is_word", defArgs st_is_word, defBody st_is_word, defScope st_is_word, []⟩
def da_is_name : DefA := ⟨(gA "is_name"), "is_name", "is_name", defArgs st_is_name, defBody st_is_name, defScope st_is_name, []⟩
def da_is_pair : DefA := ⟨(gA "is_pair"), "is_pair", "is_pair", defArgs st_is_pair, defBody st_is_pair, defScope st_is_pair, []⟩
def da_is_store : DefA := ⟨(gA "is_store"), "is_store", "is_store", defArgs st_is_store, defBody st_is_store, defScope st_is_store, []⟩
def da_check_stores : DefA := ⟨(gA "check_stores"), "check_stores", "check_stores", defArgs st_check_stores, defBody st_check_stores, defScope st_check_stores, []⟩
def da_check_marks : DefA := ⟨(gA "check_marks"), "check_marks", "check_marks", defArgs st_check_marks, defBody st_check_marks, defScope st_check_marks, []⟩
def da_are_pairs : DefA := ⟨(gA "are_pairs"), "are_pairs", "are_pairs", defArgs st_are_pairs, defBody st_are_pairs, defScope st_are_pairs, []⟩
def da_is_tests : DefA := ⟨(gA "is_tests"), "is_tests", "is_tests", defArgs st_is_tests, defBody st_is_tests, defScope st_is_tests, []⟩
def da_is_settings : DefA := ⟨(gA "is_settings"), "is_settings", "is_settings", defArgs st_is_settings, defBody st_is_settings, defScope st_is_settings, []⟩
def da_is_message : DefA := ⟨(gA "is_message"), "is_message", "is_message", defArgs st_is_message, defBody st_is_message, defScope st_is_message, []⟩
def da_is_note : DefA := ⟨(gA "is_note"), "is_note", "is_note", defArgs st_is_note, defBody st_is_note, defScope st_is_note, []⟩
def da_check_notes : DefA := ⟨(gA "check_notes"), "check_notes", "check_notes", defArgs st_check_notes, defBody st_check_notes, defScope st_check_notes, []⟩
def da_is_entry : DefA := ⟨(gA "is_entry"), "is_entry", "is_entry", defArgs st_is_entry, defBody st_is_entry, defScope st_is_entry, []⟩
def da_check_entries : DefA := ⟨(gA "check_entries"), "check_entries", "check_entries", defArgs st_check_entries, defBody st_check_entries, defScope st_check_entries, []⟩
def da_is_step : DefA := ⟨(gA "is_step"), "is_step", "is_step", defArgs st_is_step, defBody st_is_step, defScope st_is_step, []⟩
def da_is_job : DefA := ⟨(gA "is_job"), "is_job", "is_job", defArgs st_is_job, defBody st_is_job, defScope st_is_job, []⟩
def da_check_jobs : DefA := ⟨(gA "check_jobs"), "check_jobs", "check_jobs", defArgs st_check_jobs, defBody st_check_jobs, defScope st_check_jobs, []⟩
def da_is_reading : DefA := ⟨(gA "is_reading"), "is_reading", "is_reading", defArgs st_is_reading, defBody st_is_reading, defScope st_is_reading, []⟩
def da_check_readings : DefA := ⟨(gA "check_readings"), "check_readings", "check_readings", defArgs st_check_readings, defBody st_check_readings, defScope st_check_readings, []⟩
def da_Book_numbers : DefA := ⟨(mA "Book" "numbers"), "numbers", "Book.numbers", defArgs st_Book_numbers, defBody st_Book_numbers, defScope st_Book_numbers, []⟩
def da_Book___init__ : DefA := ⟨(mA "Book" "__init__"), "__init__", "Book.__init__", defArgs st_Book___init__, defBody st_Book___init__, defScope st_Book___init__, [("late", fun K => V.int (0)), ("back", fun K => V.int (0)), ("fold", fun K => V.str "sum"), ("marks", fun K => V.ref (kA (mA "Book" "__init__") "marks" K)), ("notes", fun K => V.ref (kA (mA "Book" "__init__") "notes" K)), ("entries", fun K => V.ref (kA (mA "Book" "__init__") "entries" K)), ("jobs", fun K => V.ref (kA (mA "Book" "__init__") "jobs" K)), ("readings", fun K => V.ref (kA (mA "Book" "__init__") "readings" K))]⟩
def da__law_book : DefA := ⟨(gA "_law_book"), "_law_book", "_law_book", defArgs st__law_book, defBody st__law_book, defScope st__law_book, []⟩
def da__law_passes : DefA := ⟨(gA "_law_passes"), "_law_passes", "_law_passes", defArgs st__law_passes, defBody st__law_passes, defScope st__law_passes, []⟩
def da__law_top : DefA := ⟨(gA "_law_top"), "_law_top", "_law_top", defArgs st__law_top, defBody st__law_top, defScope st__law_top, []⟩
def da__law_set : DefA := ⟨(gA "_law_set"), "_law_set", "_law_set", defArgs st__law_set, defBody st__law_set, defScope st__law_set, []⟩
def da__law_noted : DefA := ⟨(gA "_law_noted"), "_law_noted", "_law_noted", defArgs st__law_noted, defBody st__law_noted, defScope st__law_noted, []⟩
def da__law_entry : DefA := ⟨(gA "_law_entry"), "_law_entry", "_law_entry", defArgs st__law_entry, defBody st__law_entry, defScope st__law_entry, []⟩
def da__law_reading : DefA := ⟨(gA "_law_reading"), "_law_reading", "_law_reading", defArgs st__law_reading, defBody st__law_reading, defScope st__law_reading, []⟩
def da_law : DefA := ⟨(gA "law"), "law", "law", defArgs st_law, defBody st_law, defScope st_law, []⟩
def ds0 : List DefA := [da_Book_passes, da_Book_settled, da_Book_noted, da_Book_entry, da_Book_reading, da__law_bag, da__law_draw, da__law_same, da__law_of, da__law_mixed, da__law_ages, da__law_chosen, da__law_drawn_tests, da__law_settings, da__law_pairs, da__law_drawn_step, da__law_drawn_job, da__law_moves, da__law_drawn_entry, da__law_drawn_reading, da__law_names, da__law_bare_spec, da__law_any_spec, da_is_number, da_is_list, da_is_word, da_is_name, da_is_pair, da_is_store, da_check_stores]
def ds1 : List DefA := [da_check_marks, da_are_pairs, da_is_tests, da_is_settings, da_is_message, da_is_note, da_check_notes, da_is_entry, da_check_entries, da_is_step, da_is_job, da_check_jobs, da_is_reading, da_check_readings, da_Book_numbers, da_Book___init__, da__law_book, da__law_passes, da__law_top, da__law_set, da__law_noted, da__law_entry, da__law_reading, da_law]
def ds : List DefA := ds0 ++ ds1
def fs0 : List FB := [fGlo "Book", fCls "Book", fNoat "Book" "own_width", fNoat "Book" "own_marks", fNoat "Book" "own_notes", fNoat "Book" "own_entries", fNoat "Book" "own_readings", fNoat "Book" "own_jobs", fNoat "Book" "own_fold", fNoat "Book" "own_back", fNoat "Book" "own_late", fNoat "Book" "own_stores", fNoat "Book" "own_top", fTup (kA (mA "Book" "__init__") "marks") [], fTup (kA (mA "Book" "__init__") "notes") [], fTup (kA (mA "Book" "__init__") "entries") [], fTup (kA (mA "Book" "__init__") "jobs") [], fTup (kA (mA "Book" "__init__") "readings") [], fStr "LETTERS" "abcdefghijklmnopqrstuvwxyz", fGlo "RESERVED", fTup (gA "RESERVED") [.str "age", .str "young", .str "none", .str "learn", .str "any"], fInt "MOST_STORES" 5, fInt "MOST_MARKS" 3, fInt "MOST_WAIT" 6, fInt "MOST_ITEMS" 8, fInt "MOST_JOBS" 4, fInt "MOST_WIDTH" 6, fFree "list", fFree "tuple", fFree "int"]
def fs1 : List FB := [fFree "len", fFree "isinstance", fFree "bool", fFree "str", fFree "all", fFree "zip", fFree "range", fFree "enumerate", fFree "set", fFree "max", fGlo "law", fMeth "Book" "passes", fMeth "Book" "settled", fMeth "Book" "noted", fMeth "Book" "entry", fMeth "Book" "reading", fGlo "_law_bag", fGlo "_law_draw", fGlo "_law_same", fGlo "_law_of", fGlo "_law_mixed", fGlo "_law_ages", fGlo "_law_chosen", fGlo "_law_drawn_tests", fGlo "_law_settings", fGlo "_law_pairs", fGlo "_law_drawn_step", fGlo "_law_drawn_job", fGlo "_law_moves", fGlo "_law_drawn_entry"]
def fs2 : List FB := [fGlo "_law_drawn_reading", fGlo "_law_names", fGlo "_law_bare_spec", fGlo "_law_any_spec", fGlo "is_number", fGlo "is_list", fGlo "is_word", fGlo "is_name", fGlo "is_pair", fGlo "is_store", fGlo "check_stores", fGlo "check_marks", fGlo "are_pairs", fGlo "is_tests", fGlo "is_settings", fGlo "is_message", fGlo "is_note", fGlo "check_notes", fGlo "is_entry", fGlo "check_entries", fGlo "is_step", fGlo "is_job", fGlo "check_jobs", fGlo "is_reading", fGlo "check_readings", fMeth "Book" "numbers", fMkr "Book", fGlo "_law_book", fGlo "_law_passes", fGlo "_law_top"]
def fs3 : List FB := [fGlo "_law_set", fGlo "_law_noted", fGlo "_law_entry", fGlo "_law_reading"]
def fs : List FB := fs0 ++ fs1 ++ fs2 ++ fs3
def nm0 : List Str := ["_wall", "CountError", "Missing", "InvalidNumber", "InvalidFold", "InvalidStore", "InvalidMark", "InvalidNote", "InvalidEntry", "InvalidJob", "InvalidReading", "UnknownName", "MOST_WAIT", "LETTERS", "RESERVED", "MOST_WIDTH", "MOST_STORES", "MOST_MARKS", "MOST_JOBS", "MOST_ITEMS", "is_word", "is_name", "is_number", "is_list", "is_pair", "are_pairs", "is_tests", "is_settings", "is_store", "is_note"]
def nm1 : List Str := ["is_message", "is_entry", "is_step", "is_job", "is_reading", "check_stores", "check_marks", "check_notes", "check_entries", "check_jobs", "check_readings", "Book", "_law_bag", "_law_draw", "_law_of", "_law_mixed", "_law_same", "_law_names", "_law_ages", "_law_chosen", "_law_drawn_tests", "_law_settings", "_law_moves", "_law_pairs", "_law_drawn_step", "_law_drawn_job", "_law_drawn_entry", "_law_drawn_reading", "_law_bare_spec", "_law_any_spec"]
def nm2 : List Str := ["_law_book", "_law_passes", "_law_top", "_law_set", "_law_noted", "_law_entry", "_law_reading"]
def nms : List Str := nm0 ++ nm1 ++ nm2
abbrev Rw : PySem.W.OpenRow := PySem.W.OpenLaw.row PySem.Challenge.rw_coarseonce_k10_rules_that_apply
abbrev hk : PySem.W.Hook := hookA fs ds
def ob (s : PySem.W.SharedT) : AlA := obsAG fs ds (HandSHeadRun.getT s)
theorem ob_eq (s : PySem.W.SharedT) : ob s = hk.obs s.abs := obsAG_eq (HandSHeadRun.getT_eq s)
set_option maxHeartbeats 0 in
theorem run (w : World) : HandSHeadRun.RunEq Rw (PySem.W.view Rw.prog [70]) hk ob 12000 nms w := by
  intro os
  kernel_rfl
theorem facts {l : PySem.W.OpenLaw} {w : World} {K : PySem.W.Frag} {h : Heap} {mg : Str → Option Value} {fa : Addr} (X : K.In h) (G : h.Ns mainGlobals mg) (hfa : mg "law" = some (.ref fa)) (c : SaysA fs ds K) :
    ∃ fd : FuncData, (∀ (s : Shared) (v : Value), BindsTo s fd ⟨[v], []⟩ [("_law_script", v)]) ∧ ∀ base : Heap, K.In base → base.Ns mainGlobals mg → SF l.prog w K (clsAt K) mg base 16 fa fd ["_law_script"] F_law := by
  have c_Book : ClO K (clsAt K) "Book" (He.ga K "Book") := cls_clO (c.fact 0 (f := fGlo "Book") rfl) (c.fact 1 (f := fCls "Book") rfl)
  have fl_own_width : CF K (clsAt K) ["Book"] "own_width" := (cf_cons c_Book (He.noat_ok (c.fact 2 (f := fNoat "Book" "own_width") rfl)) cf_nil)
  have fl_own_marks : CF K (clsAt K) ["Book"] "own_marks" := (cf_cons c_Book (He.noat_ok (c.fact 3 (f := fNoat "Book" "own_marks") rfl)) cf_nil)
  have fl_own_notes : CF K (clsAt K) ["Book"] "own_notes" := (cf_cons c_Book (He.noat_ok (c.fact 4 (f := fNoat "Book" "own_notes") rfl)) cf_nil)
  have fl_own_entries : CF K (clsAt K) ["Book"] "own_entries" := (cf_cons c_Book (He.noat_ok (c.fact 5 (f := fNoat "Book" "own_entries") rfl)) cf_nil)
  have fl_own_readings : CF K (clsAt K) ["Book"] "own_readings" := (cf_cons c_Book (He.noat_ok (c.fact 6 (f := fNoat "Book" "own_readings") rfl)) cf_nil)
  have fl_own_jobs : CF K (clsAt K) ["Book"] "own_jobs" := (cf_cons c_Book (He.noat_ok (c.fact 7 (f := fNoat "Book" "own_jobs") rfl)) cf_nil)
  have fl_own_fold : CF K (clsAt K) ["Book"] "own_fold" := (cf_cons c_Book (He.noat_ok (c.fact 8 (f := fNoat "Book" "own_fold") rfl)) cf_nil)
  have fl_own_back : CF K (clsAt K) ["Book"] "own_back" := (cf_cons c_Book (He.noat_ok (c.fact 9 (f := fNoat "Book" "own_back") rfl)) cf_nil)
  have fl_own_late : CF K (clsAt K) ["Book"] "own_late" := (cf_cons c_Book (He.noat_ok (c.fact 10 (f := fNoat "Book" "own_late") rfl)) cf_nil)
  have fl_own_stores : CF K (clsAt K) ["Book"] "own_stores" := (cf_cons c_Book (He.noat_ok (c.fact 11 (f := fNoat "Book" "own_stores") rfl)) cf_nil)
  have fl_own_top : CF K (clsAt K) ["Book"] "own_top" := (cf_cons c_Book (He.noat_ok (c.fact 12 (f := fNoat "Book" "own_top") rfl)) cf_nil)
  obtain ⟨fd_Book_passes, F_Book_passes⟩ := c.def_ 0 (d := da_Book_passes) rfl
  replace F_Book_passes : Fun K "passes" "Book.passes" st_Book_passes ((mA "Book" "passes") K) fd_Book_passes := funOf F_Book_passes
  have b_Book_passes := F_Book_passes.binds (ps := ["self", "tests", "marks", "time"]) fun _ _ _ _ _ _ us hl => match us, hl with | [_, _, _, _], _ => rfl
  obtain ⟨fd_Book_settled, F_Book_settled⟩ := c.def_ 1 (d := da_Book_settled) rfl
  replace F_Book_settled : Fun K "settled" "Book.settled" st_Book_settled ((mA "Book" "settled") K) fd_Book_settled := funOf F_Book_settled
  have b_Book_settled := F_Book_settled.binds (ps := ["self", "marks", "settings"]) fun _ _ _ _ _ _ us hl => match us, hl with | [_, _, _], _ => rfl
  obtain ⟨fd_Book_noted, F_Book_noted⟩ := c.def_ 2 (d := da_Book_noted) rfl
  replace F_Book_noted : Fun K "noted" "Book.noted" st_Book_noted ((mA "Book" "noted") K) fd_Book_noted := funOf F_Book_noted
  have b_Book_noted := F_Book_noted.binds (ps := ["self", "word", "marks", "time"]) fun _ _ _ _ _ _ us hl => match us, hl with | [_, _, _, _], _ => rfl
  obtain ⟨fd_Book_entry, F_Book_entry⟩ := c.def_ 3 (d := da_Book_entry) rfl
  replace F_Book_entry : Fun K "entry" "Book.entry" st_Book_entry ((mA "Book" "entry") K) fd_Book_entry := funOf F_Book_entry
  have b_Book_entry := F_Book_entry.binds (ps := ["self", "word", "marks", "time", "known"]) fun _ _ _ _ _ _ us hl => match us, hl with | [_, _, _, _, _], _ => rfl
  obtain ⟨fd_Book_reading, F_Book_reading⟩ := c.def_ 4 (d := da_Book_reading) rfl
  replace F_Book_reading : Fun K "reading" "Book.reading" st_Book_reading ((mA "Book" "reading") K) fd_Book_reading := funOf F_Book_reading
  have b_Book_reading := F_Book_reading.binds (ps := ["self", "word", "marks", "time"]) fun _ _ _ _ _ _ us hl => match us, hl with | [_, _, _, _], _ => rfl
  obtain ⟨fd__law_bag, F__law_bag⟩ := c.def_ 5 (d := da__law_bag) rfl
  replace F__law_bag : Fun K "_law_bag" "_law_bag" st__law_bag ((gA "_law_bag") K) fd__law_bag := funOf F__law_bag
  have b__law_bag := F__law_bag.binds (ps := ["_law_script"]) fun _ _ _ _ _ _ us hl => match us, hl with | [_], _ => rfl
  obtain ⟨fd__law_draw, F__law_draw⟩ := c.def_ 6 (d := da__law_draw) rfl
  replace F__law_draw : Fun K "_law_draw" "_law_draw" st__law_draw ((gA "_law_draw") K) fd__law_draw := funOf F__law_draw
  have b__law_draw := F__law_draw.binds (ps := ["_law_bag_here", "_law_many"]) fun _ _ _ _ _ _ us hl => match us, hl with | [_, _], _ => rfl
  obtain ⟨fd__law_same, F__law_same⟩ := c.def_ 7 (d := da__law_same) rfl
  replace F__law_same : Fun K "_law_same" "_law_same" st__law_same ((gA "_law_same") K) fd__law_same := funOf F__law_same
  have b__law_same := F__law_same.binds (ps := ["_law_found", "_law_due"]) fun _ _ _ _ _ _ us hl => match us, hl with | [_, _], _ => rfl
  obtain ⟨fd__law_of, F__law_of⟩ := c.def_ 8 (d := da__law_of) rfl
  replace F__law_of : Fun K "_law_of" "_law_of" st__law_of ((gA "_law_of") K) fd__law_of := funOf F__law_of
  have b__law_of := F__law_of.binds (ps := ["_law_bag_here", "_law_some"]) fun _ _ _ _ _ _ us hl => match us, hl with | [_, _], _ => rfl
  obtain ⟨fd__law_mixed, F__law_mixed⟩ := c.def_ 9 (d := da__law_mixed) rfl
  replace F__law_mixed : Fun K "_law_mixed" "_law_mixed" st__law_mixed ((gA "_law_mixed") K) fd__law_mixed := funOf F__law_mixed
  have b__law_mixed := F__law_mixed.binds (ps := ["_law_bag_here", "_law_some"]) fun _ _ _ _ _ _ us hl => match us, hl with | [_, _], _ => rfl
  obtain ⟨fd__law_ages, F__law_ages⟩ := c.def_ 10 (d := da__law_ages) rfl
  replace F__law_ages : Fun K "_law_ages" "_law_ages" st__law_ages ((gA "_law_ages") K) fd__law_ages := funOf F__law_ages
  have b__law_ages := F__law_ages.binds (ps := ["_law_bag_here"]) fun _ _ _ _ _ _ us hl => match us, hl with | [_], _ => rfl
  obtain ⟨fd__law_chosen, F__law_chosen⟩ := c.def_ 11 (d := da__law_chosen) rfl
  replace F__law_chosen : Fun K "_law_chosen" "_law_chosen" st__law_chosen ((gA "_law_chosen") K) fd__law_chosen := funOf F__law_chosen
  have b__law_chosen := F__law_chosen.binds (ps := ["_law_bag_here", "_law_some", "_law_share"]) fun _ _ _ _ _ _ us hl => match us, hl with | [_, _, _], _ => rfl
  obtain ⟨fd__law_drawn_tests, F__law_drawn_tests⟩ := c.def_ 12 (d := da__law_drawn_tests) rfl
  replace F__law_drawn_tests : Fun K "_law_drawn_tests" "_law_drawn_tests" st__law_drawn_tests ((gA "_law_drawn_tests") K) fd__law_drawn_tests := funOf F__law_drawn_tests
  have b__law_drawn_tests := F__law_drawn_tests.binds (ps := ["_law_bag_here", "_law_spec"]) fun _ _ _ _ _ _ us hl => match us, hl with | [_, _], _ => rfl
  obtain ⟨fd__law_settings, F__law_settings⟩ := c.def_ 13 (d := da__law_settings) rfl
  replace F__law_settings : Fun K "_law_settings" "_law_settings" st__law_settings ((gA "_law_settings") K) fd__law_settings := funOf F__law_settings
  have b__law_settings := F__law_settings.binds (ps := ["_law_bag_here", "_law_spec"]) fun _ _ _ _ _ _ us hl => match us, hl with | [_, _], _ => rfl
  obtain ⟨fd__law_pairs, F__law_pairs⟩ := c.def_ 14 (d := da__law_pairs) rfl
  replace F__law_pairs : Fun K "_law_pairs" "_law_pairs" st__law_pairs ((gA "_law_pairs") K) fd__law_pairs := funOf F__law_pairs
  have b__law_pairs := F__law_pairs.binds (ps := ["_law_spec"]) fun _ _ _ _ _ _ us hl => match us, hl with | [_], _ => rfl
  obtain ⟨fd__law_drawn_step, F__law_drawn_step⟩ := c.def_ 15 (d := da__law_drawn_step) rfl
  replace F__law_drawn_step : Fun K "_law_drawn_step" "_law_drawn_step" st__law_drawn_step ((gA "_law_drawn_step") K) fd__law_drawn_step := funOf F__law_drawn_step
  have b__law_drawn_step := F__law_drawn_step.binds (ps := ["_law_bag_here", "_law_spec"]) fun _ _ _ _ _ _ us hl => match us, hl with | [_, _], _ => rfl
  obtain ⟨fd__law_drawn_job, F__law_drawn_job⟩ := c.def_ 16 (d := da__law_drawn_job) rfl
  replace F__law_drawn_job : Fun K "_law_drawn_job" "_law_drawn_job" st__law_drawn_job ((gA "_law_drawn_job") K) fd__law_drawn_job := funOf F__law_drawn_job
  have b__law_drawn_job := F__law_drawn_job.binds (ps := ["_law_bag_here", "_law_spec", "_law_name", "_law_most"]) fun _ _ _ _ _ _ us hl => match us, hl with | [_, _, _, _], _ => rfl
  obtain ⟨fd__law_moves, F__law_moves⟩ := c.def_ 17 (d := da__law_moves) rfl
  replace F__law_moves : Fun K "_law_moves" "_law_moves" st__law_moves ((gA "_law_moves") K) fd__law_moves := funOf F__law_moves
  have b__law_moves := F__law_moves.binds (ps := ["_law_bag_here", "_law_spec", "_law_word_z"]) fun _ _ _ _ _ _ us hl => match us, hl with | [_, _, _], _ => rfl
  obtain ⟨fd__law_drawn_entry, F__law_drawn_entry⟩ := c.def_ 18 (d := da__law_drawn_entry) rfl
  replace F__law_drawn_entry : Fun K "_law_drawn_entry" "_law_drawn_entry" st__law_drawn_entry ((gA "_law_drawn_entry") K) fd__law_drawn_entry := funOf F__law_drawn_entry
  have b__law_drawn_entry := F__law_drawn_entry.binds (ps := ["_law_bag_here", "_law_spec", "_law_word_z"]) fun _ _ _ _ _ _ us hl => match us, hl with | [_, _, _], _ => rfl
  obtain ⟨fd__law_drawn_reading, F__law_drawn_reading⟩ := c.def_ 19 (d := da__law_drawn_reading) rfl
  replace F__law_drawn_reading : Fun K "_law_drawn_reading" "_law_drawn_reading" st__law_drawn_reading ((gA "_law_drawn_reading") K) fd__law_drawn_reading := funOf F__law_drawn_reading
  have b__law_drawn_reading := F__law_drawn_reading.binds (ps := ["_law_bag_here", "_law_spec", "_law_word_z"]) fun _ _ _ _ _ _ us hl => match us, hl with | [_, _, _], _ => rfl
  obtain ⟨fd__law_names, F__law_names⟩ := c.def_ 20 (d := da__law_names) rfl
  replace F__law_names : Fun K "_law_names" "_law_names" st__law_names ((gA "_law_names") K) fd__law_names := funOf F__law_names
  have b__law_names := F__law_names.binds (ps := ["_law_bag_here", "_law_many"]) fun _ _ _ _ _ _ us hl => match us, hl with | [_, _], _ => rfl
  obtain ⟨fd__law_bare_spec, F__law_bare_spec⟩ := c.def_ 21 (d := da__law_bare_spec) rfl
  replace F__law_bare_spec : Fun K "_law_bare_spec" "_law_bare_spec" st__law_bare_spec ((gA "_law_bare_spec") K) fd__law_bare_spec := funOf F__law_bare_spec
  have b__law_bare_spec := F__law_bare_spec.binds (ps := ["_law_bag_here", "_law_most_width", "_law_most_stores", "_law_most_marks"]) fun _ _ _ _ _ _ us hl => match us, hl with | [_, _, _, _], _ => rfl
  obtain ⟨fd__law_any_spec, F__law_any_spec⟩ := c.def_ 22 (d := da__law_any_spec) rfl
  replace F__law_any_spec : Fun K "_law_any_spec" "_law_any_spec" st__law_any_spec ((gA "_law_any_spec") K) fd__law_any_spec := funOf F__law_any_spec
  have b__law_any_spec := F__law_any_spec.binds (ps := ["_law_bag_here", "_law_sizes", "_law_most_steps"]) fun _ _ _ _ _ _ us hl => match us, hl with | [_, _, _], _ => rfl
  obtain ⟨fd_is_number, F_is_number⟩ := c.def_ 23 (d := da_is_number) rfl
  replace F_is_number : Fun K "is_number" "is_number" st_is_number ((gA "is_number") K) fd_is_number := funOf F_is_number
  have b_is_number := F_is_number.binds (ps := ["value", "least", "most"]) fun _ _ _ _ _ _ us hl => match us, hl with | [_, _, _], _ => rfl
  obtain ⟨fd_is_list, F_is_list⟩ := c.def_ 24 (d := da_is_list) rfl
  replace F_is_list : Fun K "is_list" "is_list" st_is_list ((gA "is_list") K) fd_is_list := funOf F_is_list
  have b_is_list := F_is_list.binds (ps := ["value"]) fun _ _ _ _ _ _ us hl => match us, hl with | [_], _ => rfl
  obtain ⟨fd_is_word, F_is_word⟩ := c.def_ 25 (d := da_is_word) rfl
  replace F_is_word : Fun K "is_word" "is_word" st_is_word ((gA "is_word") K) fd_is_word := funOf F_is_word
  have b_is_word := F_is_word.binds (ps := ["value"]) fun _ _ _ _ _ _ us hl => match us, hl with | [_], _ => rfl
  obtain ⟨fd_is_name, F_is_name⟩ := c.def_ 26 (d := da_is_name) rfl
  replace F_is_name : Fun K "is_name" "is_name" st_is_name ((gA "is_name") K) fd_is_name := funOf F_is_name
  have b_is_name := F_is_name.binds (ps := ["value"]) fun _ _ _ _ _ _ us hl => match us, hl with | [_], _ => rfl
  obtain ⟨fd_is_pair, F_is_pair⟩ := c.def_ 27 (d := da_is_pair) rfl
  replace F_is_pair : Fun K "is_pair" "is_pair" st_is_pair ((gA "is_pair") K) fd_is_pair := funOf F_is_pair
  have b_is_pair := F_is_pair.binds (ps := ["value"]) fun _ _ _ _ _ _ us hl => match us, hl with | [_], _ => rfl
  obtain ⟨fd_is_store, F_is_store⟩ := c.def_ 28 (d := da_is_store) rfl
  replace F_is_store : Fun K "is_store" "is_store" st_is_store ((gA "is_store") K) fd_is_store := funOf F_is_store
  have b_is_store := F_is_store.binds (ps := ["value"]) fun _ _ _ _ _ _ us hl => match us, hl with | [_], _ => rfl
  obtain ⟨fd_check_stores, F_check_stores⟩ := c.def_ 29 (d := da_check_stores) rfl
  replace F_check_stores : Fun K "check_stores" "check_stores" st_check_stores ((gA "check_stores") K) fd_check_stores := funOf F_check_stores
  have b_check_stores := F_check_stores.binds (ps := ["stores"]) fun _ _ _ _ _ _ us hl => match us, hl with | [_], _ => rfl
  obtain ⟨fd_check_marks, F_check_marks⟩ := c.def_ 30 (d := da_check_marks) rfl
  replace F_check_marks : Fun K "check_marks" "check_marks" st_check_marks ((gA "check_marks") K) fd_check_marks := funOf F_check_marks
  have b_check_marks := F_check_marks.binds (ps := ["marks", "names"]) fun _ _ _ _ _ _ us hl => match us, hl with | [_, _], _ => rfl
  obtain ⟨fd_are_pairs, F_are_pairs⟩ := c.def_ 31 (d := da_are_pairs) rfl
  replace F_are_pairs : Fun K "are_pairs" "are_pairs" st_are_pairs ((gA "are_pairs") K) fd_are_pairs := funOf F_are_pairs
  have b_are_pairs := F_are_pairs.binds (ps := ["value", "heads"]) fun _ _ _ _ _ _ us hl => match us, hl with | [_, _], _ => rfl
  obtain ⟨fd_is_tests, F_is_tests⟩ := c.def_ 32 (d := da_is_tests) rfl
  replace F_is_tests : Fun K "is_tests" "is_tests" st_is_tests ((gA "is_tests") K) fd_is_tests := funOf F_is_tests
  have b_is_tests := F_is_tests.binds (ps := ["value", "marks"]) fun _ _ _ _ _ _ us hl => match us, hl with | [_, _], _ => rfl
  obtain ⟨fd_is_settings, F_is_settings⟩ := c.def_ 33 (d := da_is_settings) rfl
  replace F_is_settings : Fun K "is_settings" "is_settings" st_is_settings ((gA "is_settings") K) fd_is_settings := funOf F_is_settings
  have b_is_settings := F_is_settings.binds (ps := ["value", "marks"]) fun _ _ _ _ _ _ us hl => match us, hl with | [_, _], _ => rfl
  obtain ⟨fd_is_message, F_is_message⟩ := c.def_ 34 (d := da_is_message) rfl
  replace F_is_message : Fun K "is_message" "is_message" st_is_message ((gA "is_message") K) fd_is_message := funOf F_is_message
  have b_is_message := F_is_message.binds (ps := ["value"]) fun _ _ _ _ _ _ us hl => match us, hl with | [_], _ => rfl
  obtain ⟨fd_is_note, F_is_note⟩ := c.def_ 35 (d := da_is_note) rfl
  replace F_is_note : Fun K "is_note" "is_note" st_is_note ((gA "is_note") K) fd_is_note := funOf F_is_note
  have b_is_note := F_is_note.binds (ps := ["value", "marks"]) fun _ _ _ _ _ _ us hl => match us, hl with | [_, _], _ => rfl
  obtain ⟨fd_check_notes, F_check_notes⟩ := c.def_ 36 (d := da_check_notes) rfl
  replace F_check_notes : Fun K "check_notes" "check_notes" st_check_notes ((gA "check_notes") K) fd_check_notes := funOf F_check_notes
  have b_check_notes := F_check_notes.binds (ps := ["notes", "marks"]) fun _ _ _ _ _ _ us hl => match us, hl with | [_, _], _ => rfl
  obtain ⟨fd_is_entry, F_is_entry⟩ := c.def_ 37 (d := da_is_entry) rfl
  replace F_is_entry : Fun K "is_entry" "is_entry" st_is_entry ((gA "is_entry") K) fd_is_entry := funOf F_is_entry
  have b_is_entry := F_is_entry.binds (ps := ["value", "places", "marks", "fold"]) fun _ _ _ _ _ _ us hl => match us, hl with | [_, _, _, _], _ => rfl
  obtain ⟨fd_check_entries, F_check_entries⟩ := c.def_ 38 (d := da_check_entries) rfl
  replace F_check_entries : Fun K "check_entries" "check_entries" st_check_entries ((gA "check_entries") K) fd_check_entries := funOf F_check_entries
  have b_check_entries := F_check_entries.binds (ps := ["entries", "places", "marks", "fold"]) fun _ _ _ _ _ _ us hl => match us, hl with | [_, _, _, _], _ => rfl
  obtain ⟨fd_is_step, F_is_step⟩ := c.def_ 39 (d := da_is_step) rfl
  replace F_is_step : Fun K "is_step" "is_step" st_is_step ((gA "is_step") K) fd_is_step := funOf F_is_step
  have b_is_step := F_is_step.binds (ps := ["value", "places", "marks"]) fun _ _ _ _ _ _ us hl => match us, hl with | [_, _, _], _ => rfl
  obtain ⟨fd_is_job, F_is_job⟩ := c.def_ 40 (d := da_is_job) rfl
  replace F_is_job : Fun K "is_job" "is_job" st_is_job ((gA "is_job") K) fd_is_job := funOf F_is_job
  have b_is_job := F_is_job.binds (ps := ["value", "places", "marks"]) fun _ _ _ _ _ _ us hl => match us, hl with | [_, _, _], _ => rfl
  obtain ⟨fd_check_jobs, F_check_jobs⟩ := c.def_ 41 (d := da_check_jobs) rfl
  replace F_check_jobs : Fun K "check_jobs" "check_jobs" st_check_jobs ((gA "check_jobs") K) fd_check_jobs := funOf F_check_jobs
  have b_check_jobs := F_check_jobs.binds (ps := ["jobs", "places", "marks"]) fun _ _ _ _ _ _ us hl => match us, hl with | [_, _, _], _ => rfl
  obtain ⟨fd_is_reading, F_is_reading⟩ := c.def_ 42 (d := da_is_reading) rfl
  replace F_is_reading : Fun K "is_reading" "is_reading" st_is_reading ((gA "is_reading") K) fd_is_reading := funOf F_is_reading
  have b_is_reading := F_is_reading.binds (ps := ["value", "places", "marks"]) fun _ _ _ _ _ _ us hl => match us, hl with | [_, _, _], _ => rfl
  obtain ⟨fd_check_readings, F_check_readings⟩ := c.def_ 43 (d := da_check_readings) rfl
  replace F_check_readings : Fun K "check_readings" "check_readings" st_check_readings ((gA "check_readings") K) fd_check_readings := funOf F_check_readings
  have b_check_readings := F_check_readings.binds (ps := ["readings", "places", "marks"]) fun _ _ _ _ _ _ us hl => match us, hl with | [_, _, _], _ => rfl
  obtain ⟨fd_Book_numbers, F_Book_numbers⟩ := c.def_ 44 (d := da_Book_numbers) rfl
  replace F_Book_numbers : Fun K "numbers" "Book.numbers" st_Book_numbers ((mA "Book" "numbers") K) fd_Book_numbers := funOf F_Book_numbers
  have b_Book_numbers := F_Book_numbers.binds (ps := ["self"]) fun _ _ _ _ _ _ us hl => match us, hl with | [_], _ => rfl
  obtain ⟨fd_Book___init__, F_Book___init__⟩ := c.def_ 45 (d := da_Book___init__) rfl
  replace F_Book___init__ : FunD K "__init__" "Book.__init__" (defArgs st_Book___init__) (defBody st_Book___init__) (defScope st_Book___init__) [] [("late", V.int (0)), ("back", V.int (0)), ("fold", V.str "sum"), ("marks", V.ref (kA (mA "Book" "__init__") "marks" K)), ("notes", V.ref (kA (mA "Book" "__init__") "notes" K)), ("entries", V.ref (kA (mA "Book" "__init__") "entries" K)), ("jobs", V.ref (kA (mA "Book" "__init__") "jobs" K)), ("readings", V.ref (kA (mA "Book" "__init__") "readings" K))] ((mA "Book" "__init__") K) fd_Book___init__ := F_Book___init__
  obtain ⟨fd__law_book, F__law_book⟩ := c.def_ 46 (d := da__law_book) rfl
  replace F__law_book : Fun K "_law_book" "_law_book" st__law_book ((gA "_law_book") K) fd__law_book := funOf F__law_book
  have b__law_book := F__law_book.binds (ps := ["_law_spec"]) fun _ _ _ _ _ _ us hl => match us, hl with | [_], _ => rfl
  obtain ⟨fd__law_passes, F__law_passes⟩ := c.def_ 47 (d := da__law_passes) rfl
  replace F__law_passes : Fun K "_law_passes" "_law_passes" st__law_passes ((gA "_law_passes") K) fd__law_passes := funOf F__law_passes
  have b__law_passes := F__law_passes.binds (ps := ["_law_spec", "_law_tests", "_law_marks_z", "_law_time_z"]) fun _ _ _ _ _ _ us hl => match us, hl with | [_, _, _, _], _ => rfl
  obtain ⟨fd__law_top, F__law_top⟩ := c.def_ 48 (d := da__law_top) rfl
  replace F__law_top : Fun K "_law_top" "_law_top" st__law_top ((gA "_law_top") K) fd__law_top := funOf F__law_top
  have b__law_top := F__law_top.binds (ps := ["_law_spec"]) fun _ _ _ _ _ _ us hl => match us, hl with | [_], _ => rfl
  obtain ⟨fd__law_set, F__law_set⟩ := c.def_ 49 (d := da__law_set) rfl
  replace F__law_set : Fun K "_law_set" "_law_set" st__law_set ((gA "_law_set") K) fd__law_set := funOf F__law_set
  have b__law_set := F__law_set.binds (ps := ["_law_spec", "_law_marks_z", "_law_settings_here"]) fun _ _ _ _ _ _ us hl => match us, hl with | [_, _, _], _ => rfl
  obtain ⟨fd__law_noted, F__law_noted⟩ := c.def_ 50 (d := da__law_noted) rfl
  replace F__law_noted : Fun K "_law_noted" "_law_noted" st__law_noted ((gA "_law_noted") K) fd__law_noted := funOf F__law_noted
  have b__law_noted := F__law_noted.binds (ps := ["_law_spec", "_law_word_z", "_law_marks_z", "_law_time_z"]) fun _ _ _ _ _ _ us hl => match us, hl with | [_, _, _, _], _ => rfl
  obtain ⟨fd__law_entry, F__law_entry⟩ := c.def_ 51 (d := da__law_entry) rfl
  replace F__law_entry : Fun K "_law_entry" "_law_entry" st__law_entry ((gA "_law_entry") K) fd__law_entry := funOf F__law_entry
  have b__law_entry := F__law_entry.binds (ps := ["_law_spec", "_law_word_z", "_law_marks_z", "_law_time_z", "_law_known_z"]) fun _ _ _ _ _ _ us hl => match us, hl with | [_, _, _, _, _], _ => rfl
  obtain ⟨fd__law_reading, F__law_reading⟩ := c.def_ 52 (d := da__law_reading) rfl
  replace F__law_reading : Fun K "_law_reading" "_law_reading" st__law_reading ((gA "_law_reading") K) fd__law_reading := funOf F__law_reading
  have b__law_reading := F__law_reading.binds (ps := ["_law_spec", "_law_word_z", "_law_marks_z", "_law_time_z"]) fun _ _ _ _ _ _ us hl => match us, hl with | [_, _, _, _], _ => rfl
  obtain ⟨fd_law, F_law⟩ := c.def_ 53 (d := da_law) rfl
  have F0_law : FunD K "law" "law" (defArgs st_law) (defBody st_law) (defScope st_law) [] [] ((gA "law") K) fd_law := F_law
  replace F_law : Fun K "law" "law" st_law ((gA "law") K) fd_law := funOf F_law
  have K_LETTERS : CN K mg "LETTERS" c_LETTERS := cn_str X G (c.fact 18 (f := fStr "LETTERS" "abcdefghijklmnopqrstuvwxyz") rfl)
  have K_RESERVED : CN K mg "RESERVED" c_RESERVED := cn_tup X G (c.fact 19 (f := fGlo "RESERVED") rfl) (c.fact 20 (f := fTup (gA "RESERVED") [.str "age", .str "young", .str "none", .str "learn", .str "any"]) rfl) fun _ => .cons (.str _) (.cons (.str _) (.cons (.str _) (.cons (.str _) (.cons (.str _) (.nil)))))
  have K_MOST_STORES : CN K mg "MOST_STORES" c_MOST_STORES := cn_int X G (c.fact 21 (f := fInt "MOST_STORES" 5) rfl)
  have K_MOST_MARKS : CN K mg "MOST_MARKS" c_MOST_MARKS := cn_int X G (c.fact 22 (f := fInt "MOST_MARKS" 3) rfl)
  have K_MOST_WAIT : CN K mg "MOST_WAIT" c_MOST_WAIT := cn_int X G (c.fact 23 (f := fInt "MOST_WAIT" 6) rfl)
  have K_MOST_ITEMS : CN K mg "MOST_ITEMS" c_MOST_ITEMS := cn_int X G (c.fact 24 (f := fInt "MOST_ITEMS" 8) rfl)
  have K_MOST_JOBS : CN K mg "MOST_JOBS" c_MOST_JOBS := cn_int X G (c.fact 25 (f := fInt "MOST_JOBS" 4) rfl)
  have K_MOST_WIDTH : CN K mg "MOST_WIDTH" c_MOST_WIDTH := cn_int X G (c.fact 26 (f := fInt "MOST_WIDTH" 6) rfl)
  have B : Bl mg := ⟨He.free_ok X G (c.fact 27 (f := fFree "list") rfl), He.free_ok X G (c.fact 28 (f := fFree "tuple") rfl), He.free_ok X G (c.fact 29 (f := fFree "int") rfl), He.free_ok X G (c.fact 30 (f := fFree "len") rfl), He.free_ok X G (c.fact 31 (f := fFree "isinstance") rfl), He.free_ok X G (c.fact 32 (f := fFree "bool") rfl), He.free_ok X G (c.fact 33 (f := fFree "str") rfl), He.free_ok X G (c.fact 34 (f := fFree "all") rfl), He.free_ok X G (c.fact 35 (f := fFree "zip") rfl), He.free_ok X G (c.fact 36 (f := fFree "range") rfl), He.free_ok X G (c.fact 37 (f := fFree "enumerate") rfl), He.free_ok X G (c.fact 38 (f := fFree "set") rfl), He.free_ok X G (c.fact 39 (f := fFree "max") rfl)⟩
  have C : Cn K mg := ⟨K_LETTERS, K_RESERVED, K_MOST_STORES, K_MOST_MARKS, K_MOST_WAIT, K_MOST_ITEMS, K_MOST_JOBS, K_MOST_WIDTH⟩
  have L : Lf K (clsAt K) := ⟨fl_own_width, fl_own_marks, fl_own_notes, fl_own_entries, fl_own_readings, fl_own_jobs, fl_own_fold, fl_own_back, fl_own_late, fl_own_stores, fl_own_top⟩
  have e := hfa.symm.trans (He.glo_ok X G (c.fact 40 (f := fGlo "law") rfl))
  cases e
  have bl := FunD.bindsA (ps := ["_law_script"]) F0_law fun _ _ _ _ _ _ us hl => match us, hl with | [_], _ => rfl
  refine ⟨fd_law, fun s v => bl s [v] rfl, fun base _ _ => ?_⟩
  have h_Book_passes : AtM l.prog w K (clsAt K) mg base 2 (He.ga K "Book") "passes" "Book.passes" st_Book_passes ["self", "tests", "marks", "time"] ((mA "Book" "passes") K) fd_Book_passes G_Book_passes := ⟨F_Book_passes, He.meth_ok (c.fact 41 (f := fMeth "Book" "passes") rfl), b_Book_passes, ok_Book_passes B C L    F_Book_passes⟩
  have h_Book_settled : AtM l.prog w K (clsAt K) mg base 2 (He.ga K "Book") "settled" "Book.settled" st_Book_settled ["self", "marks", "settings"] ((mA "Book" "settled") K) fd_Book_settled G_Book_settled := ⟨F_Book_settled, He.meth_ok (c.fact 42 (f := fMeth "Book" "settled") rfl), b_Book_settled, ok_Book_settled B C L    F_Book_settled⟩
  have h_Book_noted : AtM l.prog w K (clsAt K) mg base 4 (He.ga K "Book") "noted" "Book.noted" st_Book_noted ["self", "word", "marks", "time"] ((mA "Book" "noted") K) fd_Book_noted G_Book_noted := ⟨F_Book_noted, He.meth_ok (c.fact 43 (f := fMeth "Book" "noted") rfl), b_Book_noted, ok_Book_noted B C L c_Book h_Book_passes h_Book_settled  F_Book_noted⟩
  have h_Book_entry : AtM l.prog w K (clsAt K) mg base 4 (He.ga K "Book") "entry" "Book.entry" st_Book_entry ["self", "word", "marks", "time", "known"] ((mA "Book" "entry") K) fd_Book_entry G_Book_entry := ⟨F_Book_entry, He.meth_ok (c.fact 44 (f := fMeth "Book" "entry") rfl), b_Book_entry, ok_Book_entry B C L c_Book h_Book_passes  F_Book_entry⟩
  have h_Book_reading : AtM l.prog w K (clsAt K) mg base 4 (He.ga K "Book") "reading" "Book.reading" st_Book_reading ["self", "word", "marks", "time"] ((mA "Book" "reading") K) fd_Book_reading G_Book_reading := ⟨F_Book_reading, He.meth_ok (c.fact 45 (f := fMeth "Book" "reading") rfl), b_Book_reading, ok_Book_reading B C L c_Book h_Book_passes  F_Book_reading⟩
  have h__law_bag : At l.prog w K (clsAt K) mg base 2 "_law_bag" st__law_bag ["_law_script"] ((gA "_law_bag") K) fd__law_bag G__law_bag := ⟨F__law_bag, (He.glo_ok X G (c.fact 46 (f := fGlo "_law_bag") rfl)), b__law_bag, ok__law_bag B C L    F__law_bag⟩
  have h__law_draw : At l.prog w K (clsAt K) mg base 2 "_law_draw" st__law_draw ["_law_bag_here", "_law_many"] ((gA "_law_draw") K) fd__law_draw G__law_draw := ⟨F__law_draw, (He.glo_ok X G (c.fact 47 (f := fGlo "_law_draw") rfl)), b__law_draw, ok__law_draw B C L    F__law_draw⟩
  have h__law_same : At l.prog w K (clsAt K) mg base 6 "_law_same" st__law_same ["_law_found", "_law_due"] ((gA "_law_same") K) fd__law_same G__law_same := ⟨F__law_same, (He.glo_ok X G (c.fact 48 (f := fGlo "_law_same") rfl)), b__law_same, rec__law_same fun k GG hG => ok__law_same B C L    F__law_same (He.glo_ok X G (c.fact 48 (f := fGlo "_law_same") rfl)) b__law_same hG⟩
  have h__law_of : At l.prog w K (clsAt K) mg base 4 "_law_of" st__law_of ["_law_bag_here", "_law_some"] ((gA "_law_of") K) fd__law_of G__law_of := ⟨F__law_of, (He.glo_ok X G (c.fact 49 (f := fGlo "_law_of") rfl)), b__law_of, ok__law_of B C L  h__law_draw  F__law_of⟩
  have h__law_mixed : At l.prog w K (clsAt K) mg base 4 "_law_mixed" st__law_mixed ["_law_bag_here", "_law_some"] ((gA "_law_mixed") K) fd__law_mixed G__law_mixed := ⟨F__law_mixed, (He.glo_ok X G (c.fact 50 (f := fGlo "_law_mixed") rfl)), b__law_mixed, ok__law_mixed B C L  h__law_draw  F__law_mixed⟩
  have h__law_ages : At l.prog w K (clsAt K) mg base 6 "_law_ages" st__law_ages ["_law_bag_here"] ((gA "_law_ages") K) fd__law_ages G__law_ages := ⟨F__law_ages, (He.glo_ok X G (c.fact 51 (f := fGlo "_law_ages") rfl)), b__law_ages, ok__law_ages B C L  h__law_draw h__law_of  F__law_ages⟩
  have h__law_chosen : At l.prog w K (clsAt K) mg base 4 "_law_chosen" st__law_chosen ["_law_bag_here", "_law_some", "_law_share"] ((gA "_law_chosen") K) fd__law_chosen G__law_chosen := ⟨F__law_chosen, (He.glo_ok X G (c.fact 52 (f := fGlo "_law_chosen") rfl)), b__law_chosen, ok__law_chosen B C L  h__law_draw  F__law_chosen⟩
  have h__law_drawn_tests : At l.prog w K (clsAt K) mg base 8 "_law_drawn_tests" st__law_drawn_tests ["_law_bag_here", "_law_spec"] ((gA "_law_drawn_tests") K) fd__law_drawn_tests G__law_drawn_tests := ⟨F__law_drawn_tests, (He.glo_ok X G (c.fact 53 (f := fGlo "_law_drawn_tests") rfl)), b__law_drawn_tests, ok__law_drawn_tests B C L  h__law_draw h__law_chosen h__law_ages h__law_mixed  F__law_drawn_tests⟩
  have h__law_settings : At l.prog w K (clsAt K) mg base 6 "_law_settings" st__law_settings ["_law_bag_here", "_law_spec"] ((gA "_law_settings") K) fd__law_settings G__law_settings := ⟨F__law_settings, (He.glo_ok X G (c.fact 54 (f := fGlo "_law_settings") rfl)), b__law_settings, ok__law_settings B C L  h__law_draw h__law_chosen  F__law_settings⟩
  have h__law_pairs : At l.prog w K (clsAt K) mg base 2 "_law_pairs" st__law_pairs ["_law_spec"] ((gA "_law_pairs") K) fd__law_pairs G__law_pairs := ⟨F__law_pairs, (He.glo_ok X G (c.fact 55 (f := fGlo "_law_pairs") rfl)), b__law_pairs, ok__law_pairs B C L    F__law_pairs⟩
  have h__law_drawn_step : At l.prog w K (clsAt K) mg base 6 "_law_drawn_step" st__law_drawn_step ["_law_bag_here", "_law_spec"] ((gA "_law_drawn_step") K) fd__law_drawn_step G__law_drawn_step := ⟨F__law_drawn_step, (He.glo_ok X G (c.fact 56 (f := fGlo "_law_drawn_step") rfl)), b__law_drawn_step, ok__law_drawn_step B C L  h__law_draw h__law_pairs h__law_of  F__law_drawn_step⟩
  have h__law_drawn_job : At l.prog w K (clsAt K) mg base 10 "_law_drawn_job" st__law_drawn_job ["_law_bag_here", "_law_spec", "_law_name", "_law_most"] ((gA "_law_drawn_job") K) fd__law_drawn_job G__law_drawn_job := ⟨F__law_drawn_job, (He.glo_ok X G (c.fact 57 (f := fGlo "_law_drawn_job") rfl)), b__law_drawn_job, ok__law_drawn_job B C L  h__law_draw h__law_drawn_step h__law_of h__law_drawn_tests  F__law_drawn_job⟩
  have h__law_moves : At l.prog w K (clsAt K) mg base 6 "_law_moves" st__law_moves ["_law_bag_here", "_law_spec", "_law_word_z"] ((gA "_law_moves") K) fd__law_moves G__law_moves := ⟨F__law_moves, (He.glo_ok X G (c.fact 58 (f := fGlo "_law_moves") rfl)), b__law_moves, ok__law_moves B C L  h__law_mixed h__law_draw  F__law_moves⟩
  have h__law_drawn_entry : At l.prog w K (clsAt K) mg base 10 "_law_drawn_entry" st__law_drawn_entry ["_law_bag_here", "_law_spec", "_law_word_z"] ((gA "_law_drawn_entry") K) fd__law_drawn_entry G__law_drawn_entry := ⟨F__law_drawn_entry, (He.glo_ok X G (c.fact 59 (f := fGlo "_law_drawn_entry") rfl)), b__law_drawn_entry, ok__law_drawn_entry B C L  h__law_of h__law_draw h__law_moves h__law_drawn_tests  F__law_drawn_entry⟩
  have h__law_drawn_reading : At l.prog w K (clsAt K) mg base 10 "_law_drawn_reading" st__law_drawn_reading ["_law_bag_here", "_law_spec", "_law_word_z"] ((gA "_law_drawn_reading") K) fd__law_drawn_reading G__law_drawn_reading := ⟨F__law_drawn_reading, (He.glo_ok X G (c.fact 60 (f := fGlo "_law_drawn_reading") rfl)), b__law_drawn_reading, ok__law_drawn_reading B C L  h__law_mixed h__law_of h__law_drawn_tests  F__law_drawn_reading⟩
  have h__law_names : At l.prog w K (clsAt K) mg base 6 "_law_names" st__law_names ["_law_bag_here", "_law_many"] ((gA "_law_names") K) fd__law_names G__law_names := ⟨F__law_names, (He.glo_ok X G (c.fact 61 (f := fGlo "_law_names") rfl)), b__law_names, ok__law_names B C L  h__law_draw h__law_of  F__law_names⟩
  have h__law_bare_spec : At l.prog w K (clsAt K) mg base 8 "_law_bare_spec" st__law_bare_spec ["_law_bag_here", "_law_most_width", "_law_most_stores", "_law_most_marks"] ((gA "_law_bare_spec") K) fd__law_bare_spec G__law_bare_spec := ⟨F__law_bare_spec, (He.glo_ok X G (c.fact 62 (f := fGlo "_law_bare_spec") rfl)), b__law_bare_spec, ok__law_bare_spec B C L  h__law_names h__law_draw h__law_of h__law_mixed  F__law_bare_spec⟩
  have h__law_any_spec : At l.prog w K (clsAt K) mg base 12 "_law_any_spec" st__law_any_spec ["_law_bag_here", "_law_sizes", "_law_most_steps"] ((gA "_law_any_spec") K) fd__law_any_spec G__law_any_spec := ⟨F__law_any_spec, (He.glo_ok X G (c.fact 63 (f := fGlo "_law_any_spec") rfl)), b__law_any_spec, ok__law_any_spec B C L  h__law_bare_spec h__law_draw h__law_settings h__law_drawn_tests h__law_of h__law_mixed h__law_drawn_entry h__law_drawn_job h__law_drawn_reading  F__law_any_spec⟩
  have h_is_number : At l.prog w K (clsAt K) mg base 2 "is_number" st_is_number ["value", "least", "most"] ((gA "is_number") K) fd_is_number G_is_number := ⟨F_is_number, (He.glo_ok X G (c.fact 64 (f := fGlo "is_number") rfl)), b_is_number, ok_is_number B C L    F_is_number⟩
  have h_is_list : At l.prog w K (clsAt K) mg base 2 "is_list" st_is_list ["value"] ((gA "is_list") K) fd_is_list G_is_list := ⟨F_is_list, (He.glo_ok X G (c.fact 65 (f := fGlo "is_list") rfl)), b_is_list, ok_is_list B C L    F_is_list⟩
  have h_is_word : At l.prog w K (clsAt K) mg base 2 "is_word" st_is_word ["value"] ((gA "is_word") K) fd_is_word G_is_word := ⟨F_is_word, (He.glo_ok X G (c.fact 66 (f := fGlo "is_word") rfl)), b_is_word, ok_is_word B C L    F_is_word⟩
  have h_is_name : At l.prog w K (clsAt K) mg base 4 "is_name" st_is_name ["value"] ((gA "is_name") K) fd_is_name G_is_name := ⟨F_is_name, (He.glo_ok X G (c.fact 67 (f := fGlo "is_name") rfl)), b_is_name, ok_is_name B C L  h_is_word  F_is_name⟩
  have h_is_pair : At l.prog w K (clsAt K) mg base 2 "is_pair" st_is_pair ["value"] ((gA "is_pair") K) fd_is_pair G_is_pair := ⟨F_is_pair, (He.glo_ok X G (c.fact 68 (f := fGlo "is_pair") rfl)), b_is_pair, ok_is_pair B C L    F_is_pair⟩
  have h_is_store : At l.prog w K (clsAt K) mg base 6 "is_store" st_is_store ["value"] ((gA "is_store") K) fd_is_store G_is_store := ⟨F_is_store, (He.glo_ok X G (c.fact 69 (f := fGlo "is_store") rfl)), b_is_store, ok_is_store B C L  h_is_pair h_is_name  F_is_store⟩
  have h_check_stores : At l.prog w K (clsAt K) mg base 8 "check_stores" st_check_stores ["stores"] ((gA "check_stores") K) fd_check_stores G_check_stores := ⟨F_check_stores, (He.glo_ok X G (c.fact 70 (f := fGlo "check_stores") rfl)), b_check_stores, ok_check_stores B C L  h_is_list h_is_store  F_check_stores⟩
  have h_check_marks : At l.prog w K (clsAt K) mg base 6 "check_marks" st_check_marks ["marks", "names"] ((gA "check_marks") K) fd_check_marks G_check_marks := ⟨F_check_marks, (He.glo_ok X G (c.fact 71 (f := fGlo "check_marks") rfl)), b_check_marks, ok_check_marks B C L  h_is_list h_is_name  F_check_marks⟩
  have h_are_pairs : At l.prog w K (clsAt K) mg base 4 "are_pairs" st_are_pairs ["value", "heads"] ((gA "are_pairs") K) fd_are_pairs G_are_pairs := ⟨F_are_pairs, (He.glo_ok X G (c.fact 72 (f := fGlo "are_pairs") rfl)), b_are_pairs, ok_are_pairs B C L  h_is_pair  F_are_pairs⟩
  have h_is_tests : At l.prog w K (clsAt K) mg base 6 "is_tests" st_is_tests ["value", "marks"] ((gA "is_tests") K) fd_is_tests G_is_tests := ⟨F_is_tests, (He.glo_ok X G (c.fact 73 (f := fGlo "is_tests") rfl)), b_is_tests, ok_is_tests B C L  h_are_pairs h_is_number  F_is_tests⟩
  have h_is_settings : At l.prog w K (clsAt K) mg base 6 "is_settings" st_is_settings ["value", "marks"] ((gA "is_settings") K) fd_is_settings G_is_settings := ⟨F_is_settings, (He.glo_ok X G (c.fact 74 (f := fGlo "is_settings") rfl)), b_is_settings, ok_is_settings B C L  h_are_pairs h_is_number  F_is_settings⟩
  have h_is_message : At l.prog w K (clsAt K) mg base 2 "is_message" st_is_message ["value"] ((gA "is_message") K) fd_is_message G_is_message := ⟨F_is_message, (He.glo_ok X G (c.fact 75 (f := fGlo "is_message") rfl)), b_is_message, ok_is_message B C L    F_is_message⟩
  have h_is_note : At l.prog w K (clsAt K) mg base 8 "is_note" st_is_note ["value", "marks"] ((gA "is_note") K) fd_is_note G_is_note := ⟨F_is_note, (He.glo_ok X G (c.fact 76 (f := fGlo "is_note") rfl)), b_is_note, ok_is_note B C L  h_is_message h_is_tests h_is_settings  F_is_note⟩
  have h_check_notes : At l.prog w K (clsAt K) mg base 10 "check_notes" st_check_notes ["notes", "marks"] ((gA "check_notes") K) fd_check_notes G_check_notes := ⟨F_check_notes, (He.glo_ok X G (c.fact 77 (f := fGlo "check_notes") rfl)), b_check_notes, ok_check_notes B C L  h_is_list h_is_note  F_check_notes⟩
  have h_is_entry : At l.prog w K (clsAt K) mg base 8 "is_entry" st_is_entry ["value", "places", "marks", "fold"] ((gA "is_entry") K) fd_is_entry G_is_entry := ⟨F_is_entry, (He.glo_ok X G (c.fact 78 (f := fGlo "is_entry") rfl)), b_is_entry, ok_is_entry B C L  h_is_message h_is_tests h_are_pairs h_is_number  F_is_entry⟩
  have h_check_entries : At l.prog w K (clsAt K) mg base 10 "check_entries" st_check_entries ["entries", "places", "marks", "fold"] ((gA "check_entries") K) fd_check_entries G_check_entries := ⟨F_check_entries, (He.glo_ok X G (c.fact 79 (f := fGlo "check_entries") rfl)), b_check_entries, ok_check_entries B C L  h_is_list h_is_entry  F_check_entries⟩
  have h_is_step : At l.prog w K (clsAt K) mg base 4 "is_step" st_is_step ["value", "places", "marks"] ((gA "is_step") K) fd_is_step G_is_step := ⟨F_is_step, (He.glo_ok X G (c.fact 80 (f := fGlo "is_step") rfl)), b_is_step, ok_is_step B C L  h_is_number  F_is_step⟩
  have h_is_job : At l.prog w K (clsAt K) mg base 8 "is_job" st_is_job ["value", "places", "marks"] ((gA "is_job") K) fd_is_job G_is_job := ⟨F_is_job, (He.glo_ok X G (c.fact 81 (f := fGlo "is_job") rfl)), b_is_job, ok_is_job B C L  h_is_name h_is_tests h_is_number h_is_step  F_is_job⟩
  have h_check_jobs : At l.prog w K (clsAt K) mg base 10 "check_jobs" st_check_jobs ["jobs", "places", "marks"] ((gA "check_jobs") K) fd_check_jobs G_check_jobs := ⟨F_check_jobs, (He.glo_ok X G (c.fact 82 (f := fGlo "check_jobs") rfl)), b_check_jobs, ok_check_jobs B C L  h_is_list h_is_job  F_check_jobs⟩
  have h_is_reading : At l.prog w K (clsAt K) mg base 8 "is_reading" st_is_reading ["value", "places", "marks"] ((gA "is_reading") K) fd_is_reading G_is_reading := ⟨F_is_reading, (He.glo_ok X G (c.fact 83 (f := fGlo "is_reading") rfl)), b_is_reading, ok_is_reading B C L  h_is_tests  F_is_reading⟩
  have h_check_readings : At l.prog w K (clsAt K) mg base 10 "check_readings" st_check_readings ["readings", "places", "marks"] ((gA "check_readings") K) fd_check_readings G_check_readings := ⟨F_check_readings, (He.glo_ok X G (c.fact 84 (f := fGlo "check_readings") rfl)), b_check_readings, ok_check_readings B C L  h_is_list h_is_reading  F_check_readings⟩
  have h_Book_numbers : AtM l.prog w K (clsAt K) mg base 2 (He.ga K "Book") "numbers" "Book.numbers" st_Book_numbers ["self"] ((mA "Book" "numbers") K) fd_Book_numbers G_Book_numbers := ⟨F_Book_numbers, He.meth_ok (c.fact 85 (f := fMeth "Book" "numbers") rfl), b_Book_numbers, ok_Book_numbers B C L    F_Book_numbers⟩
  have h_Book___init__ : AtK l.prog w K (clsAt K) mg base 12 (He.ga K "Book") "Book" ["self", "width", "stores", "late", "back", "fold", "marks", "notes", "entries", "jobs", "readings"] ((mA "Book" "__init__") K) fd_Book___init__ G_Book___init__ := ⟨He.mkr_ok (c.fact 86 (f := fMkr "Book") rfl), (He.glo_ok X G (c.fact 0 (f := fGlo "Book") rfl)), ok_Book___init__ B C L c_Book h_is_number h_check_stores h_check_marks h_check_notes h_check_entries h_check_jobs h_check_readings h_Book_numbers  F_Book___init__⟩
  have kb_Book___init___2_late_back_fold_marks_notes_entries_jobs_readings : KBs K fd_Book___init__ ["self", "width", "stores", "late", "back", "fold", "marks", "notes", "entries", "jobs", "readings"] 3 ["late", "back", "fold", "marks", "notes", "entries", "jobs", "readings"] [0, 1, 2, 3, 4, 5, 6, 7, 8, 9, 10] [] := kbs_mk F_Book___init__ 3 ["late", "back", "fold", "marks", "notes", "entries", "jobs", "readings"] [] [0, 1, 2, 3, 4, 5, 6, 7, 8, 9, 10] [] (by simp) mem_nilA (fun s => .nil) fun _ _ _ _ _ _ us mv ws h1 h2 h3 => match us, mv, ws, h1, h2, h3 with | [_, _, _], [], [_, _, _, _, _, _, _, _], _, _, _ => rfl
  have h__law_book : At l.prog w K (clsAt K) mg base 14 "_law_book" st__law_book ["_law_spec"] ((gA "_law_book") K) fd__law_book G__law_book := ⟨F__law_book, (He.glo_ok X G (c.fact 87 (f := fGlo "_law_book") rfl)), b__law_book, ok__law_book B C L c_Book h_Book___init__ kb_Book___init___2_late_back_fold_marks_notes_entries_jobs_readings F__law_book⟩
  have h__law_passes : At l.prog w K (clsAt K) mg base 2 "_law_passes" st__law_passes ["_law_spec", "_law_tests", "_law_marks_z", "_law_time_z"] ((gA "_law_passes") K) fd__law_passes G__law_passes := ⟨F__law_passes, (He.glo_ok X G (c.fact 88 (f := fGlo "_law_passes") rfl)), b__law_passes, ok__law_passes B C L    F__law_passes⟩
  have h__law_top : At l.prog w K (clsAt K) mg base 2 "_law_top" st__law_top ["_law_spec"] ((gA "_law_top") K) fd__law_top G__law_top := ⟨F__law_top, (He.glo_ok X G (c.fact 89 (f := fGlo "_law_top") rfl)), b__law_top, ok__law_top B C L    F__law_top⟩
  have h__law_set : At l.prog w K (clsAt K) mg base 2 "_law_set" st__law_set ["_law_spec", "_law_marks_z", "_law_settings_here"] ((gA "_law_set") K) fd__law_set G__law_set := ⟨F__law_set, (He.glo_ok X G (c.fact 90 (f := fGlo "_law_set") rfl)), b__law_set, ok__law_set B C L    F__law_set⟩
  have h__law_noted : At l.prog w K (clsAt K) mg base 4 "_law_noted" st__law_noted ["_law_spec", "_law_word_z", "_law_marks_z", "_law_time_z"] ((gA "_law_noted") K) fd__law_noted G__law_noted := ⟨F__law_noted, (He.glo_ok X G (c.fact 91 (f := fGlo "_law_noted") rfl)), b__law_noted, ok__law_noted B C L  h__law_passes h__law_set  F__law_noted⟩
  have h__law_entry : At l.prog w K (clsAt K) mg base 4 "_law_entry" st__law_entry ["_law_spec", "_law_word_z", "_law_marks_z", "_law_time_z", "_law_known_z"] ((gA "_law_entry") K) fd__law_entry G__law_entry := ⟨F__law_entry, (He.glo_ok X G (c.fact 92 (f := fGlo "_law_entry") rfl)), b__law_entry, ok__law_entry B C L  h__law_passes  F__law_entry⟩
  have h__law_reading : At l.prog w K (clsAt K) mg base 4 "_law_reading" st__law_reading ["_law_spec", "_law_word_z", "_law_marks_z", "_law_time_z"] ((gA "_law_reading") K) fd__law_reading G__law_reading := ⟨F__law_reading, (He.glo_ok X G (c.fact 93 (f := fGlo "_law_reading") rfl)), b__law_reading, ok__law_reading B C L  h__law_passes  F__law_reading⟩
  exact ok_law B C L c_Book h__law_bag h__law_any_spec h__law_book h__law_top h__law_draw h_Book_passes h__law_passes h__law_same h__law_noted h_Book_noted h__law_entry h_Book_entry h__law_reading h_Book_reading  F_law
end K10
open PySem PySem.W PySem.Calls PyProof.Rows
set_option maxRecDepth 100000 in
set_option maxHeartbeats 0 in
theorem PySem.Challenge.cw_coarseonce_k10_rules_that_apply_holds : PySem.Challenge.rw_coarseonce_k10_rules_that_apply.Holds := by
  w_on; o_law
  refine HandSHeadRun.head_any (r := OpenLaw.row PySem.Challenge.rw_coarseonce_k10_rules_that_apply) (q := view (OpenLaw.row PySem.Challenge.rw_coarseonce_k10_rules_that_apply).prog [70]) (H := K10.hk) (ob := K10.ob) (M := 12000) (loose := K10.nms) (d := HandSHeadRun.topDef (OpenLaw.row PySem.Challenge.rw_coarseonce_k10_rules_that_apply).prog 70) (kwd := []) K10.ob_eq
    (by kernel_rfl) (fun s => by kernel_rfl) K10.run (by kernel_rfl) (by kernel_rfl) (by kernel_rfl) (by rfl) (by first | assumption | decide +kernel) (by decide +kernel) ⟨rfl, rfl, rfl, rfl, rfl, by decide +kernel⟩ ?hw ?hc
  case hw => w_witness2
  case hc =>
    refine Si.walk_lawA (l := PySem.Challenge.rw_coarseonce_k10_rules_that_apply) (k := 16) (x := "_law_script") (G := K10.F_law) rfl (by kernel_rfl) ⟨rfl, by decide, by decide⟩ ?F K10.law_true
    intro w K mg fa h KX c G hmg0
    have hmg : mg ("law" : PySem.Str) = some (.ref fa) := by
      have e : (HandSHeadRun.topDef (OpenLaw.row PySem.Challenge.rw_coarseonce_k10_rules_that_apply).prog 70).name = ("law" : PySem.Str) := by kernel_rfl
      rw [← e]
      exact hmg0
    exact K10.facts KX G hmg c

