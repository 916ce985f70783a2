import PyProof.Rows.All
import Wide.All
import OpenK.AllK
import Wide.FinOn
import HandS.ForMost
import HandS.ForExc
import HandS.Flow
import HandS.Deep
import HandS.IsInst
import HandS.CallSlots
import HandS.Wide
import HandS.Zip
import HandS.TupAny
import HandS.TupMul
import HandS.Lambda
import KE.KDflt
import HandS.Defaults
import HandS.MakeKwOnly
import HandS.Codes
import HandS.Property
import HandS.Dict
import HandS.DictComp
import HandS.More
import HandS.Star
import HandS.Strs
import HandS.Small
import HandS.Style
import KE.KStateDown
import HandS.Ends
import HandS.Head0
import HandS.Head1
import HandS.Head2
import HandS.HeadHook1
import HandS.HeadHook2
import HandS.TupLe
import KE.KDictZip
import PyProof.ListNew
import HandS.ExcInit
import HandS.ExcField
import HandS.HotCalls
import KE.KExcInit
import PyProof.ExcBaseAll.LookupError
import PyProof.ExcBaseAll.IndexError
import KE.KTryMore
import KE.KNestM
import HandS.EndTab
import KE.GoesEnum
import HandS.SortInts
import HandS.Conv
import KE.OsSort
import PyProof.TupleOfSeq
import PyProof.InstNe
import HandS.SlotsOwn
import PySem.Challenge.RW_coarseonce_k13_whole_combinations_are_co
set_option Elab.async false
set_option linter.all false
set_option autoImplicit false
set_option maxRecDepth 100000
set_option maxHeartbeats 4000000
set_option Elab.async false
set_option linter.all false
set_option autoImplicit false
set_option maxRecDepth 100000
set_option maxHeartbeats 4000000
set_option Elab.async false
set_option linter.all false
set_option autoImplicit false
set_option maxRecDepth 100000
set_option maxHeartbeats 4000000
set_option Elab.async false
set_option linter.all false
set_option autoImplicit false
set_option maxRecDepth 100000
set_option maxHeartbeats 4000000
set_option Elab.async false
set_option linter.all false
set_option autoImplicit false
set_option maxRecDepth 100000
set_option maxHeartbeats 4000000
set_option Elab.async false
set_option linter.all false
set_option autoImplicit false
set_option maxRecDepth 100000
set_option maxHeartbeats 4000000
set_option Elab.async false
set_option linter.all false
set_option autoImplicit false
set_option maxRecDepth 100000
set_option maxHeartbeats 4000000
set_option Elab.async false
set_option linter.all false
set_option autoImplicit false
set_option maxRecDepth 100000
set_option maxHeartbeats 4000000
set_option Elab.async false
set_option linter.all false
set_option autoImplicit false
set_option maxRecDepth 100000
set_option maxHeartbeats 4000000
set_option Elab.async false
set_option linter.all false
set_option autoImplicit false
set_option maxRecDepth 100000
set_option maxHeartbeats 4000000
set_option Elab.async false
set_option linter.all false
set_option autoImplicit false
set_option maxRecDepth 100000
set_option maxHeartbeats 4000000
set_option Elab.async false
set_option linter.all false
set_option autoImplicit false
set_option maxRecDepth 100000
set_option maxHeartbeats 4000000
set_option Elab.async false
set_option linter.all false
set_option autoImplicit false
set_option maxRecDepth 100000
set_option maxHeartbeats 4000000
set_option Elab.async false
set_option linter.all false
set_option autoImplicit false
set_option maxRecDepth 100000
set_option maxHeartbeats 4000000
set_option Elab.async false
set_option linter.all false
set_option autoImplicit false
set_option maxRecDepth 100000
set_option maxHeartbeats 4000000
set_option Elab.async false
set_option linter.all false
set_option autoImplicit false
set_option maxRecDepth 100000
set_option maxHeartbeats 4000000
set_option Elab.async false
set_option linter.all false
set_option autoImplicit false
set_option maxRecDepth 100000
set_option maxHeartbeats 4000000
set_option Elab.async false
set_option linter.all false
set_option autoImplicit false
set_option maxRecDepth 100000
set_option maxHeartbeats 4000000
set_option Elab.async false
set_option linter.all false
set_option autoImplicit false
set_option maxRecDepth 100000
set_option maxHeartbeats 4000000
set_option Elab.async false
set_option linter.all false
set_option autoImplicit false
set_option maxRecDepth 100000
set_option maxHeartbeats 4000000
set_option Elab.async false
set_option linter.all false
set_option autoImplicit false
set_option maxRecDepth 100000
set_option maxHeartbeats 4000000
set_option Elab.async false
set_option linter.all false
set_option autoImplicit false
set_option maxRecDepth 100000
set_option maxHeartbeats 4000000
set_option Elab.async false
set_option linter.all false
set_option autoImplicit false
set_option maxRecDepth 100000
set_option maxHeartbeats 4000000
set_option Elab.async false
set_option linter.all false
set_option autoImplicit false
set_option maxRecDepth 100000
set_option maxHeartbeats 4000000
set_option Elab.async false
set_option linter.all false
set_option autoImplicit false
set_option maxRecDepth 100000
set_option maxHeartbeats 4000000
set_option Elab.async false
set_option linter.all false
set_option autoImplicit false
set_option maxRecDepth 100000
set_option maxHeartbeats 4000000
namespace Si
open PySem L2 PyProof.Rows
/-- a def of the text: where its function object stands, its parts, its keyword-only defaults -/
structure DefA where
  ad : PySem.W.Frag → Addr
  name : Str
  qual : Str
  params : Arguments
  body : List Stmt
  scope : Scope
  kwd : List (Str × (PySem.W.Frag → V)) := []
def fnA (K : PySem.W.Frag) (d : DefA) : He.FnW := match K.lookup (d.ad K) with
  | some ⟨_, _, .func fd, _⟩ => some (fd.name, fd.qualname, fd.params, fd.body, fd.scope, fd.globals, fd.closure, fd.builtins)
  | _ => none
def DefA.val (d : DefA) : He.FnW := some (d.name, d.qual, d.params, .stmts d.body, d.scope, mainGlobals, [], builtinsNs)
def DefA.kws (K : PySem.W.Frag) (d : DefA) : List (Str × V) := d.kwd.map fun q => (q.1, q.2 K)
def DefA.ok (K : PySem.W.Frag) (d : DefA) : Bool := PySem.W.keepIn K (.ref (d.ad K)) && (match K.lookup (d.ad K) with
  | some ⟨_, _, .func fd, _⟩ => PySem.W.codeIn K fd.code d.qual && (He.dflB K fd.defaults [] && He.kwdB K fd.kwdefaults (d.kws K))
  | _ => false)
def gA (x : Str) : PySem.W.Frag → Addr := fun K => He.ga K x
def mA (C m : Str) : PySem.W.Frag → Addr := fun K => He.ma K (He.ga K C) m
abbrev FB := PySem.W.Frag → Bool
def fGlo (x : Str) : FB := fun K => (He.Fa.glo x).ok K
def fFree (x : Str) : FB := fun K => (He.Fa.free x).ok K
def fInt (x : Str) (i : Int) : FB := fun K => (He.Fa.int x i).ok K
def fCls (x : Str) : FB := fun K => (He.Fa.cls x).ok K
def fNoat (x f : Str) : FB := fun K => (He.Fa.noat x f).ok K
def fMeth (x m : Str) : FB := fun K => (He.Fa.meth x m).ok K
def fMkr (x : Str) : FB := fun K => (He.Fa.mkr x).ok K
abbrev AlA : Type := Bool × List He.FnW
def obsA (fa : List FB) (fn : List DefA) (K : PySem.W.Frag) : AlA := ((fa.all fun f => f K) && fn.all fun d => d.ok K, fn.map fun d => fnA K d)
def valA (fn : List DefA) : AlA := (true, fn.map DefA.val)
def SaysA (fa : List FB) (fn : List DefA) (K : PySem.W.Frag) : Prop := obsA fa fn K = valA fn
/-- the addresses that can be reached, each once (m: a mask of those met) -/
def walkG (g : Addr → Option Obj) : Nat → List Addr → Nat → List Addr
  | 0, _, _ => []
  | _ + 1, [], _ => []
  | f + 1, a :: r, m => match Nat.beq (Nat.land (Nat.shiftRight m a) 1) 1 with
    | true => walkG g f r m
    | false => a :: HandSHeadRun.frNat (Nat.lor m (Nat.shiftLeft 1 a)) fun m => walkG g f (match g a with
      | some o => He.refsD o ++ r
      | none => r) m
def frK {α : Type} : PySem.W.Frag → (PySem.W.Frag → α) → α
  | [], k => k []
  | (a, o) :: r, k => frK r fun r => HandSHeadRun.frNat a fun a => k ((a, o) :: r)
theorem frK_eq {α : Type} : ∀ (K : PySem.W.Frag) (k : PySem.W.Frag → α), frK K k = k K
  | [], k => rfl
  | (a, o) :: r, k => by
    show frK r (fun r => HandSHeadRun.frNat a fun a => k ((a, o) :: r)) = _
    rw [frK_eq r, HandSHeadRun.frNat_eq]
end Si

set_option Elab.async false
set_option linter.all false
set_option autoImplicit false
set_option maxRecDepth 100000
set_option maxHeartbeats 4000000
set_option Elab.async false
set_option linter.all false
set_option autoImplicit false
set_option maxRecDepth 100000
set_option maxHeartbeats 4000000
set_option Elab.async false
set_option linter.all false
set_option autoImplicit false
set_option maxRecDepth 100000
set_option maxHeartbeats 4000000
set_option Elab.async false
set_option linter.all false
set_option autoImplicit false
set_option maxRecDepth 100000
set_option maxHeartbeats 4000000
set_option Elab.async false
set_option linter.all false
set_option autoImplicit false
set_option maxRecDepth 100000
set_option maxHeartbeats 4000000
set_option Elab.async false
set_option linter.all false
set_option autoImplicit false
set_option maxRecDepth 100000
set_option maxHeartbeats 4000000
set_option Elab.async false
set_option linter.all false
set_option autoImplicit false
set_option maxRecDepth 100000
set_option maxHeartbeats 4000000
set_option Elab.async false
set_option linter.all false
set_option autoImplicit false
set_option maxRecDepth 100000
set_option maxHeartbeats 4000000
set_option Elab.async false
set_option linter.all false
set_option autoImplicit false
set_option maxRecDepth 100000
set_option maxHeartbeats 4000000
set_option Elab.async false
set_option linter.all false
set_option autoImplicit false
set_option maxRecDepth 100000
set_option maxHeartbeats 4000000
set_option Elab.async false
set_option linter.all false
set_option autoImplicit false
set_option maxRecDepth 100000
set_option maxHeartbeats 4000000
set_option Elab.async false
set_option linter.all false
set_option autoImplicit false
set_option maxRecDepth 100000
set_option maxHeartbeats 4000000
set_option Elab.async false
set_option linter.all false
set_option autoImplicit false
set_option maxRecDepth 100000
set_option maxHeartbeats 4000000
set_option Elab.async false
set_option linter.all false
set_option autoImplicit false
set_option maxRecDepth 100000
set_option maxHeartbeats 4000000
set_option Elab.async false
set_option linter.all false
set_option autoImplicit false
set_option maxRecDepth 100000
set_option maxHeartbeats 4000000
set_option Elab.async false
set_option linter.all false
set_option autoImplicit false
set_option maxRecDepth 100000
set_option maxHeartbeats 4000000
set_option Elab.async false
set_option linter.all false
set_option autoImplicit false
set_option maxRecDepth 100000
set_option maxHeartbeats 4000000
set_option Elab.async false
set_option linter.all false
set_option autoImplicit false
set_option maxRecDepth 100000
set_option maxHeartbeats 4000000
set_option Elab.async false
set_option linter.all false
set_option autoImplicit false
set_option maxRecDepth 100000
set_option maxHeartbeats 4000000
set_option Elab.async false
set_option linter.all false
set_option autoImplicit false
set_option maxRecDepth 100000
set_option maxHeartbeats 4000000
set_option Elab.async false
set_option linter.all false
set_option autoImplicit false
set_option maxRecDepth 100000
set_option maxHeartbeats 4000000
set_option Elab.async false
set_option linter.all false
set_option autoImplicit false
set_option maxRecDepth 100000
set_option maxHeartbeats 4000000
set_option Elab.async false
set_option linter.all false
set_option autoImplicit false
set_option maxRecDepth 100000
set_option maxHeartbeats 4000000
set_option Elab.async false
set_option linter.all false
set_option autoImplicit false
set_option maxRecDepth 100000
set_option maxHeartbeats 4000000
set_option Elab.async false
set_option linter.all false
set_option autoImplicit false
set_option maxRecDepth 100000
set_option maxHeartbeats 4000000
set_option Elab.async false
set_option linter.all false
set_option autoImplicit false
set_option maxRecDepth 100000
set_option maxHeartbeats 4000000
set_option Elab.async false
set_option linter.all false
set_option autoImplicit false
set_option maxRecDepth 100000
set_option maxHeartbeats 4000000
set_option Elab.async false
set_option linter.all false
set_option autoImplicit false
set_option maxRecDepth 100000
set_option maxHeartbeats 4000000
set_option Elab.async false
set_option linter.all false
set_option autoImplicit false
set_option maxRecDepth 100000
set_option maxHeartbeats 4000000
set_option Elab.async false
set_option linter.all false
set_option autoImplicit false
set_option maxRecDepth 100000
set_option maxHeartbeats 4000000
set_option Elab.async false
set_option linter.all false
set_option autoImplicit false
set_option maxRecDepth 100000
set_option maxHeartbeats 4000000
set_option Elab.async false
set_option linter.all false
set_option autoImplicit false
set_option maxRecDepth 100000
set_option maxHeartbeats 4000000
set_option Elab.async false
set_option linter.all false
set_option autoImplicit false
set_option maxRecDepth 100000
set_option maxHeartbeats 4000000
set_option Elab.async false
set_option linter.all false
set_option autoImplicit false
set_option maxRecDepth 100000
set_option maxHeartbeats 4000000
set_option Elab.async false
set_option linter.all false
set_option autoImplicit false
set_option maxRecDepth 100000
set_option maxHeartbeats 4000000
set_option Elab.async false
set_option linter.all false
set_option autoImplicit false
set_option maxRecDepth 100000
set_option maxHeartbeats 4000000
set_option Elab.async false
set_option linter.all false
set_option autoImplicit false
set_option maxRecDepth 100000
set_option maxHeartbeats 4000000
set_option Elab.async false
set_option linter.all false
set_option autoImplicit false
set_option maxRecDepth 100000
namespace Bh
def g (l : List Int) (i : Nat) : Int := l.getD i 0
end Bh

set_option Elab.async false
set_option linter.all false
set_option autoImplicit false
set_option maxRecDepth 100000
set_option Elab.async false
set_option linter.all false
set_option autoImplicit false
set_option maxRecDepth 100000
set_option Elab.async false
set_option linter.all false
set_option autoImplicit false
set_option maxRecDepth 100000
set_option Elab.async false
set_option linter.all false
set_option autoImplicit false
set_option maxRecDepth 100000
set_option Elab.async false
set_option linter.all false
set_option autoImplicit false
set_option maxRecDepth 100000
set_option maxHeartbeats 4000000
set_option Elab.async false
set_option linter.all false
set_option autoImplicit false
set_option maxRecDepth 100000
set_option maxHeartbeats 4000000
namespace Si
open PySem PySem.W PySem.Calls PyProof.Rows L2
/-- own classes, then the line tl -/
def refT (tl : List Value) : List Value → Bool
  | .ref _ :: r => refT tl r
  | l => l == tl
end Si

set_option Elab.async false
set_option linter.all false
set_option autoImplicit false
set_option maxRecDepth 100000
set_option maxHeartbeats 4000000
set_option Elab.async false
set_option linter.all false
set_option autoImplicit false
set_option maxRecDepth 100000
set_option maxHeartbeats 4000000
set_option Elab.async false
set_option linter.all false
set_option autoImplicit false
set_option maxRecDepth 100000
set_option maxHeartbeats 4000000
set_option Elab.async false
set_option linter.all false
set_option autoImplicit false
set_option maxRecDepth 100000
set_option maxHeartbeats 4000000
set_option Elab.async false
set_option linter.all false
set_option autoImplicit false
set_option maxRecDepth 100000
set_option maxHeartbeats 4000000
set_option Elab.async false
set_option linter.all false
set_option autoImplicit false
set_option maxRecDepth 100000
set_option maxHeartbeats 4000000
set_option Elab.async false
set_option linter.all false
set_option autoImplicit false
set_option maxRecDepth 100000
set_option maxHeartbeats 4000000
set_option Elab.async false
set_option linter.all false
set_option autoImplicit false
set_option maxRecDepth 100000
set_option maxHeartbeats 4000000
namespace Si
open PySem L2 LamX PyProof.Rows
/-- the code object of the def at ad, its table -/
def tabOf (ad : PySem.W.Frag → Addr) (K : PySem.W.Frag) : Option (Addr × Addr) := match K.lookup (ad K) with
  | some ⟨_, _, .func fd, _⟩ => (match fd.code with
    | .ref c => (match K.lookup c with
      | some ⟨_, _, .fields vs, _⟩ => (match (vs[11]? : Option Value) with
        | some (.ref P) => some (c, P)
        | _ => none)
      | _ => none)
    | _ => none)
  | _ => none
def fTab (ad : PySem.W.Frag → Addr) : FB := fun K => match tabOf ad K with
  | some p => PySem.W.codeHdIn K p.1 p.2 && (K.lookup p.2).isNone
  | none => false
def emptyAt (g : Addr → Option Obj) (ad : PySem.W.Frag → Addr) (K : PySem.W.Frag) : Bool := match tabOf ad K with
  | some p => (match g p.2 with
    | some ⟨.none, none, .fields vs, sl⟩ => Nat.beq vs.size 0 && Nat.beq sl.size 0
    | _ => false)
  | none => false
def stripL (g : Addr → Option Obj) (as : List Addr) : List Addr := as.filter fun a => match g a with
  | some ⟨.none, _, .fields vs, _⟩ => !(Nat.beq vs.size 0)
  | _ => true
def obsT (fa : List FB) (fn : List DefA) (ad : PySem.W.Frag → Addr) (g : Addr → Option Obj) (K : PySem.W.Frag) : AlA := ((obsA fa fn K).1 && emptyAt g ad K, (obsA fa fn K).2)
def obsTG (fa : List FB) (fn : List DefA) (ad : PySem.W.Frag → Addr) (g : Addr → Option Obj) : AlA := frK (He.frG g (stripL g (walkG g 5000 [mainGlobals] 0))) (obsT fa fn ad g)
def SaysT (fa : List FB) (fn : List DefA) (ad : PySem.W.Frag → Addr) (h : Heap) (K : PySem.W.Frag) : Prop := K.In h ∧ SaysA fa fn K ∧ ∀ p, tabOf ad K = some p → h.get? p.2 = some { cls := .none, data := .fields #[] }
theorem emptyAt_ok {g : Addr → Option Obj} {ad : PySem.W.Frag → Addr} {K : PySem.W.Frag} (h : emptyAt g ad K = true) : ∀ p, tabOf ad K = some p → g p.2 = some { cls := .none, data := .fields #[] } := by
  intro p e
  unfold emptyAt at h
  rw [e] at h
  dsimp only at h
  split at h
  · rename_i vs sl hg
    obtain ⟨h1, h2⟩ := He.ba h
    have e1 : vs = #[] := Array.size_eq_zero_iff.mp (Nat.eq_of_beq_eq_true h1)
    have e2 : sl = #[] := Array.size_eq_zero_iff.mp (Nat.eq_of_beq_eq_true h2)
    subst e1
    subst e2
    exact hg
  · cases h
def hookT (fa : List FB) (fn : List DefA) (ad : PySem.W.Frag → Addr) : PySem.W.Hook where
  α := AlA
  obs := fun s => obsTG fa fn ad s.heap.get?
  val := fun _ => valA fn
  says := fun _ h => ∃ K, SaysT fa fn ad h K
  of := fun _ s e => by
    have e1 : obsT fa fn ad s.heap.get? (He.frG s.heap.get? (stripL s.heap.get? (walkG s.heap.get? 5000 [mainGlobals] 0))) = valA fn := (frK_eq _ _).symm.trans e
    have e2 := congrArg Prod.fst e1
    have e3 := congrArg Prod.snd e1
    obtain ⟨h1, h2⟩ := He.ba (show ((obsA fa fn _).1 && emptyAt _ ad _) = true from e2)
    exact ⟨_, He.frG_in, Prod.ext h1 e3, emptyAt_ok h2⟩
  keeps := fun _ _ _ ⟨K, hK, c, t⟩ k => ⟨K, PySem.W.Frag.In.keeps hK k, c, fun p hp => k _ _ (t p hp)⟩
theorem obsTG_eq {fa : List FB} {fn : List DefA} {ad : PySem.W.Frag → Addr} {g : Addr → Option Obj} {s : Shared} (h : ∀ a, g a = s.heap.get? a) : obsTG fa fn ad g = (hookT fa fn ad).obs s := by
  have e : g = s.heap.get? := funext h
  rw [e] <;> rfl
end Si

set_option Elab.async false
set_option linter.all false
set_option autoImplicit false
set_option maxRecDepth 100000
set_option maxHeartbeats 4000000
namespace Si
open PySem L2 L2H LamX PyProof.Rows
abbrev tlV : List Value := [.type "ValueError", .type "Exception", .type "BaseException", .type "object"]
abbrev tlL : List Value := [.type "LookupError", .type "Exception", .type "BaseException", .type "object"]
abbrev tlI : List Value := [.type "IndexError", .type "LookupError", .type "Exception", .type "BaseException", .type "object"]
def fBse (nid : String) (bm : List Value) : Bool := (refT tlV bm && decide (nid = "ValueError.__new__")) || ((refT tlL bm && decide (nid = "LookupError.__new__")) || (refT tlI bm && decide (nid = "IndexError.__new__")))
def fOex (c : Str) : FB := fun K => (match K.lookup (He.ga K c) with
  | some ⟨.type t, _, .cls ⟨_, _, .ref C :: bm, _, _, true, _, _, _, _, false⟩, sl⟩ => decide (t = "type") && (decide (C = He.ga K c) && (match sl.toList with
    | [_, _, _, _, some (.builtin nid), _] => fBse nid bm
    | _ => false))
  | _ => false) && (He.eqO (PySem.W.findIn K (.ref (He.ga K c)) "__setattr__") (some (some (.builtin "object.__setattr__"))) && (decide (PySem.W.subIn K (.ref (He.ga K c)) (.type "BaseException") = some true) &&
    (decide (PySem.W.typeIn K (.ref (He.ga K c)) = some (.type "type")) && PySem.W.keepIn K (.ref (He.ga K c)))))
def fTyF (c m : Str) : FB := fun K => decide (PySem.W.typeIn K (.ref (He.ma K (He.ga K c) m)) = some (.type "function"))
end Si

set_option Elab.async false
set_option linter.all false
set_option autoImplicit false
set_option maxRecDepth 100000
set_option maxHeartbeats 4000000
set_option Elab.async false
set_option linter.all false
set_option autoImplicit false
set_option maxRecDepth 100000
set_option maxHeartbeats 4000000
set_option Elab.async false
set_option linter.all false
set_option autoImplicit false
set_option maxRecDepth 100000
set_option maxHeartbeats 4000000
set_option Elab.async false
set_option linter.all false
set_option autoImplicit false
set_option maxRecDepth 100000
set_option maxHeartbeats 4000000
set_option Elab.async false
set_option linter.all false
set_option autoImplicit false
set_option maxRecDepth 100000
set_option maxHeartbeats 4000000
set_option Elab.async false
set_option linter.all false
set_option autoImplicit false
set_option maxRecDepth 100000
set_option maxHeartbeats 4000000
set_option Elab.async false
set_option linter.all false
set_option autoImplicit false
set_option maxRecDepth 100000
set_option maxHeartbeats 4000000
set_option Elab.async false
set_option linter.all false
set_option autoImplicit false
set_option maxRecDepth 100000
set_option maxHeartbeats 4000000
set_option Elab.async false
set_option linter.all false
set_option autoImplicit false
set_option maxRecDepth 100000
set_option maxHeartbeats 4000000
set_option Elab.async false
set_option linter.all false
set_option autoImplicit false
set_option maxRecDepth 100000
set_option maxHeartbeats 4000000
set_option Elab.async false
set_option linter.all false
set_option autoImplicit false
set_option maxRecDepth 100000
set_option maxHeartbeats 4000000
set_option Elab.async false
set_option linter.all false
set_option autoImplicit false
set_option maxRecDepth 100000
set_option maxHeartbeats 4000000
set_option Elab.async false
set_option linter.all false
set_option autoImplicit false
set_option maxRecDepth 100000
set_option maxHeartbeats 4000000
set_option Elab.async false
set_option linter.all false
set_option autoImplicit false
set_option maxRecDepth 100000
set_option maxHeartbeats 4000000
namespace K13
open PySem L2 PyProof.Rows Si
def top (i : Nat) : Stmt := PySem.Challenge.pw_coarseonce_k13_whole_combinations_are_co.main.body.getD i (.Pass ⟨0, 0, 0, 0⟩)
abbrev st_is_number : Stmt := (top 6)
abbrev st_Hull___init___R : Stmt := (inClass (top 12) 0)
abbrev st_is_integers : Stmt := (top 9)
abbrev st_common : Stmt := (top 10)
abbrev st_shortened : Stmt := (top 11)
abbrev st_Hull_left_of : Stmt := (inClass (top 12) 4)
abbrev st_Hull_take_R : Stmt := (inClass (top 12) 5)
abbrev st_Hull___contains__ : Stmt := (inClass (top 12) 6)
abbrev st__law_bag : Stmt := (top 14)
abbrev st__law_draw : Stmt := (top 15)
abbrev st__law_of : Stmt := (top 16)
abbrev st__law_same : Stmt := (top 17)
abbrev st__law_left : Stmt := (top 18)
abbrev st__law_covers : Stmt := (top 19)
abbrev st__law_keep : Stmt := (top 20)
abbrev st__law_lot : Stmt := (top 21)
abbrev st_Hull___len__ : Stmt := (inClass (top 12) 9)
abbrev st__law_wide_so_R : Stmt := (top 22)
abbrev st_law : Stmt := (top 23)
abbrev st_InvalidNumber___init__ : Stmt := (inClass (top 3) 0)
abbrev st_InvalidRow___init__ : Stmt := (inClass (top 4) 0)
def da_is_number : DefA := ⟨(gA "is_number"), "is_number", "is_number", defArgs st_is_number, defBody st_is_number, defScope st_is_number, []⟩
def da_Hull___init___R : DefA := ⟨(mA "Hull" "__init__"), "__init__", "Hull.__init__", defArgs st_Hull___init___R, defBody st_Hull___init___R, defScope st_Hull___init___R, []⟩
def da_is_integers : DefA := ⟨(gA "is_integers"), "is_integers", "is_integers", defArgs st_is_integers, defBody st_is_integers, defScope st_is_integers, []⟩
def da_common : DefA := ⟨(gA "common"), "common", "common", defArgs st_common, defBody st_common, defScope st_common, []⟩
def da_shortened : DefA := ⟨(gA "shortened"), "shortened", "shortened", defArgs st_shortened, defBody st_shortened, defScope st_shortened, []⟩
def da_Hull_left_of : DefA := ⟨(mA "Hull" "left_of"), "left_of", "Hull.left_of", defArgs st_Hull_left_of, defBody st_Hull_left_of, defScope st_Hull_left_of, []⟩
def da_Hull_take_R : DefA := ⟨(mA "Hull" "take"), "take", "Hull.take", defArgs st_Hull_take_R, defBody st_Hull_take_R, defScope st_Hull_take_R, []⟩
def da_Hull___contains__ : DefA := ⟨(mA "Hull" "__contains__"), "__contains__", "Hull.__contains__", defArgs st_Hull___contains__, defBody st_Hull___contains__, defScope st_Hull___contains__, []⟩
def da__law_bag : DefA := ⟨(gA "_law_bag"), "_law_bag", "_law_bag", defArgs st__law_bag, defBody st__law_bag, defScope st__law_bag, []⟩
def da__law_draw : DefA := ⟨(gA "_law_draw"), "_law_draw", "_law_draw", defArgs st__law_draw, defBody st__law_draw, defScope st__law_draw, []⟩
def da__law_of : DefA := ⟨(gA "_law_of"), "_law_of", "_law_of", defArgs st__law_of, defBody st__law_of, defScope st__law_of, []⟩
def da__law_same : DefA := ⟨(gA "_law_same"), "_law_same", "_law_same", defArgs st__law_same, defBody st__law_same, defScope st__law_same, []⟩
def da__law_left : DefA := ⟨(gA "_law_left"), "_law_left", "_law_left", defArgs st__law_left, defBody st__law_left, defScope st__law_left, []⟩
def da__law_covers : DefA := ⟨(gA "_law_covers"), "_law_covers", "_law_covers", defArgs st__law_covers, defBody st__law_covers, defScope st__law_covers, []⟩
def da__law_keep : DefA := ⟨(gA "_law_keep"), "_law_keep", "_law_keep", defArgs st__law_keep, defBody st__law_keep, defScope st__law_keep, []⟩
def da__law_lot : DefA := ⟨(gA "_law_lot"), "_law_lot", "_law_lot", defArgs st__law_lot, defBody st__law_lot, defScope st__law_lot, []⟩
def da_Hull___len__ : DefA := ⟨(mA "Hull" "__len__"), "__len__", "Hull.__len__", defArgs st_Hull___len__, defBody st_Hull___len__, defScope st_Hull___len__, []⟩
def da__law_wide_so_R : DefA := ⟨(gA "_law_wide_so"), "_law_wide_so", "_law_wide_so", defArgs st__law_wide_so_R, defBody st__law_wide_so_R, defScope st__law_wide_so_R, []⟩
def da_law : DefA := ⟨(gA "law"), "law", "law", defArgs st_law, defBody st_law, defScope st_law, []⟩
def da_InvalidNumber___init__ : DefA := ⟨(mA "InvalidNumber" "__init__"), "__init__", "InvalidNumber.__init__", defArgs st_InvalidNumber___init__, defBody st_InvalidNumber___init__, defScope st_InvalidNumber___init__, []⟩
def da_InvalidRow___init__ : DefA := ⟨(mA "InvalidRow" "__init__"), "__init__", "InvalidRow.__init__", defArgs st_InvalidRow___init__, defBody st_InvalidRow___init__, defScope st_InvalidRow___init__, []⟩
def ds0 : List DefA := [da_is_number, da_Hull___init___R, da_is_integers, da_common, da_shortened, da_Hull_left_of, da_Hull_take_R, da_Hull___contains__, da__law_bag, da__law_draw, da__law_of, da__law_same, da__law_left, da__law_covers, da__law_keep, da__law_lot, da_Hull___len__, da__law_wide_so_R, da_law, da_InvalidNumber___init__, da_InvalidRow___init__]
def ds : List DefA := ds0
def fs0 : List FB := [fGlo "Hull", fCls "Hull", fNoat "Hull" "own_size", fNoat "Hull" "own_rows", fNoat "Hull" "own_lines", fGlo "InvalidNumber", fOex "InvalidNumber", fNoat "InvalidNumber" "code", fNoat "InvalidNumber" "given", fMeth "InvalidNumber" "__init__", fGlo "InvalidRow", fOex "InvalidRow", fNoat "InvalidRow" "code", fNoat "InvalidRow" "given", fMeth "InvalidRow" "__init__", fInt "MOST_SIZE" 10, fFree "isinstance", fFree "int", fFree "bool", fFree "tuple", fFree "len", fFree "all", fFree "abs", fFree "list", fFree "zip", fFree "enumerate", fFree "any", fFree "str", fFree "range", fFree "sum"]
def fs1 : List FB := [fGlo "law", fTyF "InvalidNumber" "__init__", fTyF "InvalidRow" "__init__", fGlo "is_number", fMkr "Hull", fGlo "is_integers", fGlo "common", fGlo "shortened", fMeth "Hull" "left_of", fMeth "Hull" "take", fMeth "Hull" "__contains__", fGlo "_law_bag", fGlo "_law_draw", fGlo "_law_of", fGlo "_law_same", fGlo "_law_left", fGlo "_law_covers", fGlo "_law_keep", fGlo "_law_lot", fMeth "Hull" "__len__", fGlo "_law_wide_so", fTab (gA "law")]
def fs : List FB := fs0 ++ fs1
def nm0 : List Str := ["_wall", "CountError", "InvalidNumber", "InvalidRow", "is_number", "MOST_SIZE", "is_integers", "common", "shortened", "Hull", "_law_bag", "_law_draw", "_law_of", "_law_same", "_law_left", "_law_covers", "_law_keep", "_law_lot", "_law_wide_so"]
def nms : List Str := nm0
abbrev Rw : PySem.W.OpenRow := PySem.W.OpenLaw.row PySem.Challenge.rw_coarseonce_k13_whole_combinations_are_co
abbrev hk : PySem.W.Hook := hookT fs ds (gA "law")
def ob (s : PySem.W.SharedT) : AlA := obsTG fs ds (gA "law") (HandSHeadRun.getT s)
theorem ob_eq (s : PySem.W.SharedT) : ob s = hk.obs s.abs := obsTG_eq (HandSHeadRun.getT_eq s)
noncomputable abbrev Ev (w : World) (os : OsState) := HandSHeadRun.endF (HandSHeadRun.stepQ (HandSHeadRun.denQ HandSHeadRun.tabQ) Rw.prog w) 12000 Rw.prog w os
set_option maxHeartbeats 0 in
open PySem.W PySem.Calls in
theorem runA (w : World) (os : OsState) : (Ev w os).map (fun s => (HandSHeadRun.looksF Rw.prog (boot_heap w.params) s.abs, HandSHeadRun.seenQ (PySem.W.view Rw.prog [23]) nms (importedModules Rw.prog.main.body) (fun s => xlAt (PySem.W.view Rw.prog [23]) [] s && recOk Rw.toRowW.records s) s.abs)) = some (true, openGood (PySem.W.view Rw.prog [23]) nms) := by
  kernel_rfl
set_option maxHeartbeats 0 in
theorem runB (w : World) (os : OsState) : (Ev w os).map (fun s => (ob s).1) = some true := by
  kernel_rfl
set_option maxHeartbeats 0 in
theorem runC (w : World) (os : OsState) : (Ev w os).map (fun s => (ob s).2) = some (ds.map DefA.val) := by
  kernel_rfl
theorem run (w : World) : HandSHeadRun.RunEq Rw (PySem.W.view Rw.prog [23]) hk ob 12000 nms w := by
  intro os
  have h1 := runA w os
  have h2 := runB w os
  have h3 := runC w os
  show (Ev w os).map _ = _
  cases e : Ev w os with
  | none => rw [e] at h1; cases h1
  | some s =>
    rw [e] at h1 h2 h3
    have a1 := congrArg Prod.fst (Option.some.inj h1)
    have a2 := congrArg Prod.snd (Option.some.inj h1)
    have a3 : ob s = hk.val w := Prod.ext (Option.some.inj h2) (Option.some.inj h3)
    exact congrArg some (Prod.ext a1 (Prod.ext a2 a3))
end K13

set_option Elab.async false
set_option linter.all false
set_option autoImplicit false
set_option maxRecDepth 100000
set_option maxHeartbeats 4000000
/-! Si: a plain-data reading laid over the hand layer. D: values as plain data; cells of w: the things that change; each rule says of a construct which plain function it reckons. -/
namespace Si
open PySem L2

inductive D where
  | non | bl (b : Bool) | int (i : Int) | str (s : Str) | lst (xs : List D) | tup (xs : List D) | obj (n : Nat) | scr (ns : List Int)
/-- a lambda as it was made: its words, what it captured, the whole number that its one parameter stands for -/
structure LamD where
  q : Str
  params : Arguments
  body : Expr
  scope : Scope
  cl : List (Str × Addr)
  dv : Option Int
inductive MO where
  | dead | lst (xs : List D) | ins (c : Str) (fs : List (Str × D)) | dct (kvs : List (Key × D)) | tab (q : Str) | fn (ld : LamD)
abbrev Wd := List MO
abbrev En := List (Option D)
inductive R (α : Type) where
  | ok (a : α) (w : Wd)
  | err (c : Str) (fs : List (Str × D)) (w : Wd)
  | stuck
def R.bind {α β : Type} (r : R α) (k : α → Wd → R β) : R β := match r with
  | .ok a w => k a w
  | .err c fs w => .err c fs w
  | .stuck => .stuck

/-- where things stand: what never changes any more, the cells' addresses, the cells, the heap -/
structure S where
  F : Addr → Prop
  ρ : List Addr
  w : Wd
  H : Hp

/-- a list, a tuple of the written part: for good -/
def LK (K : PySem.W.Frag) (a : Addr) (xs : List V) : Prop :=
  ∃ (o : Obj) (its : Array Value) (n : Nat), K.lookup a = some o ∧ o.cls = .type "list" ∧ o.dict = none ∧ o.data = .seq its n ∧ its.size ≤ sizeLine ∧ Vals xs its.toList
def TK (K : PySem.W.Frag) (a : Addr) (xs : List V) : Prop :=
  ∃ (o : Obj) (its : Array Value) (n : Nat), K.lookup a = some o ∧ o.cls = .type "tuple" ∧ o.data = .seq its n ∧ its.size ≤ sizeLine ∧ Vals xs its.toList

mutual
inductive Rep (K : PySem.W.Frag) (s : S) : V → D → Prop
  | non : Rep K s .non .non
  | bl (b : Bool) : Rep K s (.bl b) (.bl b)
  | int (i : Int) : Rep K s (.int i) (.int i)
  | str (x : Str) : Rep K s (.str x) (.str x)
  | lst {a : Addr} {vs : List V} {ds : List D} (hF : s.F a) (h : s.H a = some (.lst vs)) (r : RepA K s vs ds) : Rep K s (.ref a) (.lst ds)
  | tup {a : Addr} {vs : List V} {ds : List D} (h : (s.F a ∧ s.H a = some (.tup vs)) ∨ TK K a vs) (r : RepA K s vs ds) : Rep K s (.ref a) (.tup ds)
  | obj {a : Addr} {n : Nat} (h : s.ρ[n]? = some a) : Rep K s (.ref a) (.obj n)
  | scr {a : Addr} {ns : List Int} (h : (s.F a ∧ ∃ o, s.H a = some (.frz o (.lst (ns.map V.int)))) ∨ LK K a (ns.map V.int)) : Rep K s (.ref a) (.scr ns)
inductive RepA (K : PySem.W.Frag) (s : S) : List V → List D → Prop
  | nil : RepA K s [] []
  | cons {v : V} {vs : List V} {d : D} {ds : List D} (h : Rep K s v d) (r : RepA K s vs ds) : RepA K s (v :: vs) (d :: ds)
end

def RepF {κ : Type} (K : PySem.W.Frag) (s : S) : List (κ × V) → List (κ × D) → Prop
  | [], [] => True
  | p :: ps, q :: qs => p.1 = q.1 ∧ Rep K s p.2 q.2 ∧ RepF K s ps qs
  | _, _ => False

/-- a cell that still changes stands at a -/
def live (s : S) (a : Addr) : Prop := ∃ n : Nat, s.ρ[n]? = some a ∧ s.w[n]? ≠ some MO.dead

abbrev lamObj (ld : LamD) (dV doc pm ctv : Value) (c' : Addr) : Obj := PySem.W.kdv_obj "<lambda>" ld.q ld.params (.expr ld.body) ld.scope ld.cl dV doc pm c' ctv
def LamW (s : S) (ld : LamD) (o : Obj) : Prop := ∃ (dV doc pm ctv : Value) (c' : Addr), o = lamObj ld dV doc pm ctv c' ∧ (s.F c' ∧ s.H c' = some (LamX.CodeO c' ld.q)) ∧ (match ld.dv with
  | none => dV = .none
  | some i => ∃ t, dV = .ref t ∧ s.F t ∧ s.H t = some (.tup [.int i]))
theorem LamW.of {s s' : S} {ld : LamD} {o : Obj} (r : LamW s ld o) (h : ∀ a u, s.F a → s.H a = some u → s'.F a ∧ s'.H a = some u) : LamW s' ld o := by
  obtain ⟨dV, doc, pm, ctv, c', e, ⟨h1, h2⟩, h3⟩ := r
  refine ⟨dV, doc, pm, ctv, c', e, h _ _ h1 h2, ?_⟩
  cases hd : ld.dv with
  | none => rw [hd] at h3; exact h3
  | some i =>
    rw [hd] at h3
    obtain ⟨t, e1, e2, e3⟩ := h3
    exact ⟨t, e1, h _ _ e2 e3⟩
def fnH (a : Addr) (o : Obj) : HO := .frz o (.ext fun h => h.get? a = some o)
def RepO (K : PySem.W.Frag) (cl : Str → Option Addr) (s : S) (a : Addr) : MO → Prop
  | .dead => True
  | .lst xs => ∃ vs, s.H a = some (.lst vs) ∧ RepA K s vs xs
  | .ins c fs => ∃ C dx vfs, cl c = some C ∧ s.H a = some (.ins C dx vfs) ∧ RepF K s vfs fs
  | .dct kvs => ∃ vks, s.H a = some (.dK vks) ∧ RepF K s vks kvs
  | .tab q => cl q = some a ∧ ∃ ps : Array Value, s.H a = some (.tbl ps) ∧ TriplesOk ps.toList ∧ ∀ (pos : Pos) (cv : Value), codeAmong pos ps.toList = some cv → ∃ c, cv = .ref c ∧ s.F c ∧ s.H c = some (LamX.CodeO c q)
  | .fn ld => ∃ o, s.H a = some (fnH a o) ∧ LamW s ld o

structure Ok (K : PySem.W.Frag) (cl : Str → Option Addr) (s : S) : Prop where
  len : s.ρ.length = s.w.length
  nd : s.ρ.Nodup
  trk : ∀ a, a ∈ s.ρ → s.H a ≠ none
  frz : ∀ a, s.F a → s.H a ≠ none
  cell : ∀ (n : Nat) (a : Addr) (o : MO), s.ρ[n]? = some a → s.w[n]? = some o → RepO K cl s a o
  dead : ∀ a, live s a → ¬ s.F a

structure Ext (s s' : S) : Prop where
  F : ∀ a, s.F a → s'.F a
  ρ : ∃ e, s'.ρ = s.ρ ++ e ∧ ∀ a, a ∈ e → s.H a = none
  w : ∀ (n : Nat), s.w[n]? = some MO.dead → s'.w[n]? = some MO.dead
  keep : ∀ a o, s.H a = some o → ¬ live s a → s'.H a = some o
  there : ∀ a, s.H a ≠ none → s'.H a ≠ none
  fnew : ∀ a, s'.F a → s.F a ∨ s.H a = none ∨ a ∈ s.ρ


section
variable {K : PySem.W.Frag} {cl : Str → Option Addr} {s s1 s2 : S}
theorem SqT.ofR {a : Addr} {vs : List V} (h : (s.F a ∧ s.H a = some (.tup vs)) ∨ TK K a vs) : SqT K s.H a vs := by
  rcases h with h | h
  · exact .inl (.inl h.2)
  · exact .inr h
theorem SqL.ofS {a : Addr} {ns : List Int} (h : (s.F a ∧ ∃ o, s.H a = some (.frz o (.lst (ns.map V.int)))) ∨ LK K a (ns.map V.int)) : SqL K s.H a (ns.map V.int) := by
  rcases h with ⟨_, o, h⟩ | h
  · exact .inl (.inr ⟨o, h⟩)
  · exact .inr h
theorem Ext.refl (s : S) : Ext s s := ⟨fun _ h => h, ⟨[], by simp, by simp⟩, fun _ h => h, fun _ _ h _ => h, fun _ h => h, fun _ h => .inl h⟩
theorem Ext.trans (a : Ext s s1) (b : Ext s1 s2) : Ext s s2 := by
  obtain ⟨e1, q1, n1⟩ := a.ρ
  obtain ⟨e2, q2, n2⟩ := b.ρ
  have back : ∀ x, s1.H x = none → s.H x = none := fun x h => by
    cases q : s.H x with
    | none => rfl
    | some o => exact absurd h (a.there x (by rw [q]; simp))
  refine ⟨fun x h => b.F x (a.F x h), ⟨e1 ++ e2, by rw [q2, q1, List.append_assoc], fun x hx => ?_⟩, fun n h => b.w n (a.w n h), fun x o h nl => ?_, fun x h => b.there x (a.there x h), fun x h => ?_⟩
  · rcases List.mem_append.mp hx with hx | hx
    · exact n1 x hx
    · exact back x (n2 x hx)
  · refine b.keep x o (a.keep x o h nl) fun ⟨n, hn, hd⟩ => ?_
    rw [q1] at hn
    by_cases hl : n < s.ρ.length
    · rw [List.getElem?_append_left hl] at hn
      exact nl ⟨n, hn, fun z => hd (a.w n z)⟩
    · rw [List.getElem?_append_right (Nat.le_of_not_lt hl)] at hn
      have q := n1 x (List.mem_of_getElem? hn)
      rw [h] at q
      cases q
  · rcases b.fnew x h with h | h | h
    · exact a.fnew x h
    · exact .inr (.inl (back x h))
    · rw [q1] at h
      rcases List.mem_append.mp h with h | h
      · exact .inr (.inr h)
      · exact .inr (.inl (n1 x h))
theorem Ext.ρget (e : Ext s s1) {n : Nat} {a : Addr} (h : s.ρ[n]? = some a) : s1.ρ[n]? = some a := by
  obtain ⟨l, q, _⟩ := e.ρ
  rw [q, List.getElem?_append_left (List.getElem?_eq_some_iff.mp h).1]
  exact h
theorem Ext.fr (ok : Ok K cl s) (e : Ext s s1) {a : Addr} {u : HO} (hF : s.F a) (h : s.H a = some u) : s1.H a = some u := e.keep a _ h fun l => ok.dead a l hF
mutual
theorem Rep.mono (ok : Ok K cl s) (e : Ext s s1) : ∀ {v : V} {d : D}, Rep K s v d → Rep K s1 v d
  | _, _, .non => .non
  | _, _, .bl b => .bl b
  | _, _, .int i => .int i
  | _, _, .str x => .str x
  | _, _, .lst h q r => .lst (e.F _ h) (e.fr ok h q) (RepA.mono ok e r)
  | _, _, .tup h r => .tup (h.imp (fun q => ⟨e.F _ q.1, e.fr ok q.1 q.2⟩) id) (RepA.mono ok e r)
  | _, _, .obj h => .obj (e.ρget h)
  | _, _, .scr h => .scr (h.imp (fun q => ⟨e.F _ q.1, q.2.imp fun _ z => e.fr ok q.1 z⟩) id)
theorem RepA.mono (ok : Ok K cl s) (e : Ext s s1) : ∀ {vs : List V} {ds : List D}, RepA K s vs ds → RepA K s1 vs ds
  | _, _, .nil => .nil
  | _, _, .cons h r => .cons (Rep.mono ok e h) (RepA.mono ok e r)
end
/-- less than Ext: what never changes stays as it is -/
structure ExtF (s s' : S) : Prop where
  F : ∀ a, s.F a → s'.F a
  ρ : ∃ e, s'.ρ = s.ρ ++ e
  fr : ∀ a u, s.F a → s.H a = some u → s'.H a = some u
theorem Ext.toF (ok : Ok K cl s) (e : Ext s s1) : ExtF s s1 := ⟨e.F, let ⟨l, q, _⟩ := e.ρ; ⟨l, q⟩, fun _ _ h q => e.fr ok h q⟩
theorem ExtF.trans (e : ExtF s s1) (e2 : ExtF s1 s2) : ExtF s s2 :=
  ⟨fun a h => e2.F a (e.F a h), let ⟨l, q⟩ := e.ρ; let ⟨l2, q2⟩ := e2.ρ; ⟨l ++ l2, by rw [q2, q, List.append_assoc]⟩, fun a u h q => e2.fr a u (e.F a h) (e.fr a u h q)⟩
theorem ExtF.ρget (e : ExtF s s1) {n : Nat} {a : Addr} (h : s.ρ[n]? = some a) : s1.ρ[n]? = some a := by
  obtain ⟨l, q⟩ := e.ρ
  rw [q, List.getElem?_append_left (List.getElem?_eq_some_iff.mp h).1]
  exact h
mutual
theorem Rep.monoF (e : ExtF s s1) : ∀ {v : V} {d : D}, Rep K s v d → Rep K s1 v d
  | _, _, .non => .non
  | _, _, .bl b => .bl b
  | _, _, .int i => .int i
  | _, _, .str x => .str x
  | _, _, .lst h q r => .lst (e.F _ h) (e.fr _ _ h q) (RepA.monoF e r)
  | _, _, .tup h r => .tup (h.imp (fun q => ⟨e.F _ q.1, e.fr _ _ q.1 q.2⟩) id) (RepA.monoF e r)
  | _, _, .obj h => .obj (e.ρget h)
  | _, _, .scr h => .scr (h.imp (fun q => ⟨e.F _ q.1, q.2.imp fun _ z => e.fr _ _ q.1 z⟩) id)
theorem RepA.monoF (e : ExtF s s1) : ∀ {vs : List V} {ds : List D}, RepA K s vs ds → RepA K s1 vs ds
  | _, _, .nil => .nil
  | _, _, .cons h r => .cons (Rep.monoF e h) (RepA.monoF e r)
end
theorem RepF.mono {κ : Type} (ok : Ok K cl s) (e : Ext s s1) : ∀ {ps : List (κ × V)} {qs : List (κ × D)}, RepF K s ps qs → RepF K s1 ps qs
  | [], [], _ => trivial
  | _ :: _, _ :: _, h => ⟨h.1, h.2.1.mono ok e, RepF.mono ok e h.2.2⟩
  | [], _ :: _, h => h.elim
  | _ :: _, [], h => h.elim
theorem RepA.length : ∀ {vs : List V} {ds : List D}, RepA K s vs ds → vs.length = ds.length
  | _, _, .nil => rfl
  | _, _, .cons _ r => congrArg (· + 1) (RepA.length r)
theorem RepA.append : ∀ {vs us : List V} {ds es : List D}, RepA K s vs ds → RepA K s us es → RepA K s (vs ++ us) (ds ++ es)
  | _, _, _, _, .nil, q => q
  | _, _, _, _, .cons h r, q => .cons h (RepA.append r q)
theorem RepA.get : ∀ {vs : List V} {ds : List D} {i : Nat} {d : D}, RepA K s vs ds → ds[i]? = some d → ∃ v, vs[i]? = some v ∧ Rep K s v d
  | _, _, _, _, .nil, e => by simp at e
  | _, _, 0, _, .cons h _, e => by simp at e; subst e; exact ⟨_, rfl, h⟩
  | _, _, i + 1, _, .cons _ r, e => by
    obtain ⟨v, h1, h2⟩ := RepA.get (i := i) r (by simpa using e)
    exact ⟨v, by simpa using h1, h2⟩
theorem RepA.take : ∀ {vs : List V} {ds : List D} (n : Nat), RepA K s vs ds → RepA K s (vs.take n) (ds.take n)
  | _, _, 0, _ => .nil
  | _, _, _ + 1, .nil => .nil
  | _, _, n + 1, .cons h r => .cons h (RepA.take n r)
theorem RepA.drop : ∀ {vs : List V} {ds : List D} (n : Nat), RepA K s vs ds → RepA K s (vs.drop n) (ds.drop n)
  | _, _, 0, r => r
  | _, _, _ + 1, .nil => .nil
  | _, _, n + 1, .cons _ r => RepA.drop n r
theorem RepA.set : ∀ {vs : List V} {ds : List D} (i : Nat) {v : V} {d : D}, Rep K s v d → RepA K s vs ds → RepA K s (vs.set i v) (ds.set i d)
  | _, _, _, _, _, _, .nil => .nil
  | _, _, 0, _, _, q, .cons _ r => .cons q r
  | _, _, i + 1, _, _, q, .cons h r => .cons h (RepA.set i q r)

/-! ### the frame's values -/
def RepE (K : PySem.W.Frag) (s : S) (σ : L2.St) (σd : En) : Prop := σ.length = σd.length ∧ ∀ (i : Nat) (d : D), σd[i]? = some (some d) → ∃ v, σ[i]? = some (some v) ∧ Rep K s v d
theorem RepE.mono {σ : L2.St} {σd : En} (ok : Ok K cl s) (e : Ext s s1) (h : RepE K s σ σd) : RepE K s1 σ σd :=
  ⟨h.1, fun i d q => let ⟨v, a, b⟩ := h.2 i d q; ⟨v, a, b.mono ok e⟩⟩
theorem RepE.set {σ : L2.St} {σd : En} {v : V} {d : D} (h : RepE K s σ σd) (i : Nat) (r : Rep K s v d) : RepE K s (σ.set i (some v)) (σd.set i (some d)) := by
  refine ⟨by simpa using h.1, fun j d' q => ?_⟩
  by_cases e : j = i
  · subst e
    by_cases hl : j < σd.length
    · rw [List.getElem?_set_self hl] at q
      cases q
      exact ⟨v, List.getElem?_set_self (by rw [h.1]; exact hl), r⟩
    · rw [List.getElem?_eq_none_iff.mpr (by simpa using Nat.le_of_not_lt hl)] at q
      cases q
  · rw [List.getElem?_set_ne (Ne.symm e)] at q
    obtain ⟨v', a, b⟩ := h.2 j d' q
    exact ⟨v', by rw [List.getElem?_set_ne (Ne.symm e)]; exact a, b⟩
def wipeD (σd : En) : List Nat → En
  | [] => σd
  | v :: vs => (wipeD σd vs).set v none
theorem RepE.wipe {σ : L2.St} {σd : En} (h : RepE K s σ σd) : ∀ vs : List Nat, RepE K s (L2.wipe σ vs) (wipeD σd vs)
  | [] => h
  | v :: vs => by
    have ih := RepE.wipe h vs
    refine ⟨by simpa [L2.wipe, wipeD] using ih.1, fun j d q => ?_⟩
    show ∃ v', ((L2.wipe σ vs).set v none)[j]? = some (some v') ∧ _
    change ((wipeD σd vs).set v none)[j]? = some (some d) at q
    by_cases e : v = j
    · subst e
      by_cases hl : v < (wipeD σd vs).length
      · rw [List.getElem?_set_self hl] at q
        cases q
      · rw [List.getElem?_eq_none_iff.mpr (by simpa using Nat.le_of_not_lt hl)] at q
        cases q
    · rw [List.getElem?_set_ne e] at q
      obtain ⟨v', a, b⟩ := ih.2 j d q
      exact ⟨v', by rw [List.getElem?_set_ne e]; exact a, b⟩

/-! ### what follows -/
/-- an exception of the class named c, its attributes -/
def RepX (K : PySem.W.Frag) (cl : Str → Option Addr) (s : S) (cls : Value) (dd : Option Addr) (c : Str) (fs : List (Str × D)) : Prop :=
  ∃ C a vfs, cl c = some C ∧ cls = .ref C ∧ dd = some a ∧ s.F a ∧ s.H a = some (.xd vfs) ∧ RepF K s vfs fs
def Post {α β : Type} (K : PySem.W.Frag) (cl : Str → Option Addr) (rep : S → β → α → Prop) (EK : XK) (s : S) (r : R α) (Q : β → Hp → Prop) : Prop := match r with
  | .ok d w => ∀ s' v, Ext s s' → Ok K cl s' → s'.w = w → rep s' v d → Q v s'.H
  | .err c fs w => ∀ s' cls dd, Ext s s' → Ok K cl s' → s'.w = w → RepX K cl s' cls dd c fs → EK cls dd s'.H
  | .stuck => False
theorem Post.ext {α β : Type} {rep : S → β → α → Prop} {EK : XK} {r : R α} {Q : β → Hp → Prop} (e : Ext s s1) (h : Post K cl rep EK s r Q) : Post K cl rep EK s1 r Q := by
  cases r with
  | ok d w => exact fun s' v e' o q rp => h s' v (e.trans e') o q rp
  | err c fs w => exact fun s' x dd e' o q rp => h s' x dd (e.trans e') o q rp
  | stuck => exact h
theorem Post.imp {α β : Type} {rep : S → β → α → Prop} {EK : XK} {r : R α} {Q Q' : β → Hp → Prop} (h : Post K cl rep EK s r Q) (i : ∀ v H, Q v H → Q' v H) : Post K cl rep EK s r Q' := by
  cases r with
  | ok d w => exact fun s' v e' o q rp => i _ _ (h s' v e' o q rp)
  | err c fs w => exact h
  | stuck => exact h
abbrev repB : S → Bool → Bool → Prop := fun _ b b' => b = b'
/-- the reading of a thing that reckons m -/
def tG {α β : Type} (K : PySem.W.Frag) (cl : Str → Option Addr) (rep : S → β → α → Prop) (EK : XK) (m : En → Wd → R α) : L2.St → Hp → (β → Hp → Prop) → Prop :=
  fun σ H Q => ∃ s σd, s.H = H ∧ Ok K cl s ∧ RepE K s σ σd ∧ Post K cl rep EK s (m σd s.w) Q
/-- what is left to reckon from a value -/
def tK {α β α' β' : Type} (K : PySem.W.Frag) (cl : Str → Option Addr) (rep : S → β → α → Prop) (rep' : S → β' → α' → Prop) (EK : XK) (k : α → En → Wd → R α') : β → L2.St → Hp → (β' → Hp → Prop) → Prop :=
  fun x σ H Q => ∃ s σd a, s.H = H ∧ Ok K cl s ∧ RepE K s σ σd ∧ rep s x a ∧ Post K cl rep' EK s (k a σd s.w) Q
theorem tG_bind {α β α' β' : Type} {rep : S → β → α → Prop} {rep' : S → β' → α' → Prop} {EK : XK} {m : En → Wd → R α} {k : α → En → Wd → R α'} {σ : L2.St} {H : Hp} {Q : β' → Hp → Prop}
    (h : tG K cl rep' EK (fun σd w => (m σd w).bind fun a w' => k a σd w') σ H Q) : tG K cl rep EK m σ H (fun x H1 => tK K cl rep rep' EK k x σ H1 Q) := by
  obtain ⟨s, σd, rfl, ok, re, p⟩ := h
  refine ⟨s, σd, rfl, ok, re, ?_⟩
  cases e : m σd s.w with
  | ok a w =>
    simp only [e, R.bind] at p
    intro s' x ex ok' hw rx
    refine ⟨s', σd, a, rfl, ok', re.mono ok ex, rx, ?_⟩
    rw [hw]
    exact Post.ext ex p
  | err c fs w => simp only [e, R.bind] at p; exact p
  | stuck => simp only [e, R.bind] at p; exact p
theorem tG_imp {α β : Type} {rep : S → β → α → Prop} {EK : XK} {m : En → Wd → R α} {σ : L2.St} {H : Hp} {Q Q' : β → Hp → Prop} (h : tG K cl rep EK m σ H Q) (i : ∀ v H, Q v H → Q' v H) : tG K cl rep EK m σ H Q' := by
  obtain ⟨s, σd, a, b, c, p⟩ := h
  exact ⟨s, σd, a, b, c, p.imp i⟩
/-- a value with the state it stands in, behind m: the next one is reckoned there -/
theorem tK_bind {α β α' β' α'' β'' : Type} {rep : S → β → α → Prop} {rep' : S → β' → α' → Prop} {rep'' : S → β'' → α'' → Prop} {EK : XK} {m : En → Wd → R α'} {k : α → α' → En → Wd → R α''} {x : β} {σ : L2.St} {H : Hp} {Q : β'' → Hp → Prop}
    (mono : ∀ s s' x a, Ok K cl s → Ext s s' → rep s x a → rep s' x a)
    (h : tK K cl rep rep'' EK (fun a σd w => (m σd w).bind fun b w' => k a b σd w') x σ H Q) : tG K cl rep' EK m σ H (fun y H1 => ∃ s σd a b, s.H = H1 ∧ Ok K cl s ∧ RepE K s σ σd ∧ rep s x a ∧ rep' s y b ∧ Post K cl rep'' EK s (k a b σd s.w) Q) := by
  obtain ⟨s, σd, a, rfl, ok, re, ra, p⟩ := h
  refine ⟨s, σd, rfl, ok, re, ?_⟩
  cases e : m σd s.w with
  | ok b w =>
    simp only [e, R.bind] at p
    intro s' y ex ok' hw ry
    refine ⟨s', σd, a, b, rfl, ok', re.mono ok ex, mono s s' x a ok ex ra, ry, ?_⟩
    rw [hw]
    exact Post.ext ex p
  | err c fs w => simp only [e, R.bind] at p; exact p
  | stuck => simp only [e, R.bind] at p; exact p
end

/-! ### the judgements -/
section
variable {X : Cx} {cl : Str → Option Addr} {EK : XK}
def SE (X : Cx) (cl : Str → Option Addr) (EK : XK) (e : Expr) (m : En → Wd → R D) : Prop := PE X e (tG X.K cl (Rep X.K) EK m)
def ST (X : Cx) (cl : Str → Option Addr) (EK : XK) (e : Expr) (m : En → Wd → R Bool) : Prop := PT X e (tG X.K cl repB EK m)
def SA (X : Cx) (cl : Str → Option Addr) (EK : XK) (es : List Expr) (m : En → Wd → R (List D)) : Prop := PA X es (tG X.K cl (RepA X.K) EK m)
theorem PE.weak {e : Expr} {t t' : TE} (h : PE X e t) (i : ∀ σ H Q, t' σ H Q → t σ H Q) : PE X e t' := ⟨fun pins s σ H Q I q => h.run pins s σ H Q I (i σ H Q q)⟩
theorem PT.weak {e : Expr} {t t' : TT} (h : PT X e t) (i : ∀ σ H Q, t' σ H Q → t σ H Q) : PT X e t' := ⟨fun pins s σ H Q I q => h.run pins s σ H Q I (i σ H Q q)⟩
theorem PA.weak {es : List Expr} {t t' : TA} (h : PA X es t) (i : ∀ σ H Q, t' σ H Q → t σ H Q) : PA X es t' := ⟨fun pos pins s σ H Q I q => h.run pos pins s σ H Q I (i σ H Q q)⟩

/-! ### names, constants -/
def mVar (i : Nat) : En → Wd → R D := fun σd w => match σd[i]? with
  | some (some d) => .ok d w
  | _ => .stuck
theorem se_var {e : Expr} {i : Nat} (h : PE X e (tVar i)) : SE X cl EK e (mVar i) := by
  refine PE.weak h fun σ H Q => ?_
  rintro ⟨s, σd, rfl, ok, re, p⟩
  unfold mVar at p
  split at p
  · rename_i d hd
    obtain ⟨v, hv, r⟩ := re.2 i d hd
    exact ⟨v, hv, p s v (Ext.refl s) ok rfl r⟩
  · exact p.elim
def mC (d : D) : En → Wd → R D := fun _ w => .ok d w
theorem se_c {e : Expr} {v : V} {d : D} (h : PE X e (tC v)) (r : ∀ s, Rep X.K s v d) : SE X cl EK e (mC d) := by
  refine PE.weak h fun σ H Q => ?_
  rintro ⟨s, σd, rfl, ok, re, p⟩
  exact p s v (Ext.refl s) ok rfl (r s)
theorem se_int {i j pos} : SE X cl EK (.Constant (.int i) j pos) (mC (.int i)) := se_c pe_int fun _ => .int i
theorem se_bl {b j pos} : SE X cl EK (.Constant (.bool b) j pos) (mC (.bl b)) := se_c pe_bl fun _ => .bl b
theorem se_non {j pos} : SE X cl EK (.Constant .none j pos) (mC .non) := se_c pe_non fun _ => .non
theorem se_str {x j pos} : SE X cl EK (.Constant (.str x) j pos) (mC (.str x)) := se_c pe_str fun _ => .str x
end
end Si

set_option Elab.async false
set_option linter.all false
set_option autoImplicit false
set_option maxRecDepth 100000
set_option maxHeartbeats 4000000
/-! Si2: steps of the heap; operators. -/
namespace Si
open PySem L2
section
variable {K : PySem.W.Frag} {cl : Str → Option Addr} {s s1 : S}
/-! ### the steps: a new thing that never changes, a new cell, a cell written, a cell that changes no more -/
def S.frz (s : S) (p : Addr) (o : HO) : S := ⟨fun a => s.F a ∨ a = p, s.ρ, s.w, upd s.H p o⟩
def S.cell (s : S) (p : Addr) (o : HO) (m : MO) : S := ⟨s.F, s.ρ ++ [p], s.w ++ [m], upd s.H p o⟩
def S.wr (s : S) (n : Nat) (p : Addr) (o : HO) (m : MO) : S := ⟨s.F, s.ρ, s.w.set n m, upd s.H p o⟩
theorem RepO.at {a : Addr} {o : MO} (ok : Ok K cl s) (e : Ext s s1) (h : s1.H a = s.H a) (r : RepO K cl s a o) : RepO K cl s1 a o := by
  cases o with
  | dead => trivial
  | lst xs => obtain ⟨vs, e1, r⟩ := r; exact ⟨vs, h.trans e1, r.mono ok e⟩
  | ins c fs => obtain ⟨C, dx, vfs, e0, e1, r⟩ := r; exact ⟨C, dx, vfs, e0, h.trans e1, r.mono ok e⟩
  | dct kvs => obtain ⟨vks, e1, r⟩ := r; exact ⟨vks, h.trans e1, r.mono ok e⟩
  | tab q => obtain ⟨e0, ps, e1, ht, r⟩ := r; exact ⟨e0, ps, h.trans e1, ht, fun pos cv hc => let ⟨c, z1, z2, z3⟩ := r pos cv hc; ⟨c, z1, e.F c z2, e.fr ok z2 z3⟩⟩
  | fn ld => obtain ⟨o, e1, r⟩ := r; exact ⟨o, h.trans e1, r.of fun a u h1 h2 => ⟨e.F a h1, e.fr ok h1 h2⟩⟩
theorem upd_there {H : Hp} {p a : Addr} {o : HO} (h : H a ≠ none) : upd H p o a ≠ none := by
  by_cases e : a = p
  · subst e; rw [upd_same]; simp
  · rw [upd_ne e]; exact h
theorem S.frz_ext {p : Addr} {o : HO} (hp : s.H p = none) : Ext s (s.frz p o) :=
  ⟨fun _ h => .inl h, ⟨[], (List.append_nil _).symm, fun _ h => nomatch h⟩, fun _ h => h, fun a u h _ => by
    show upd s.H p o a = some u
    rw [upd_ne (ne_of_none h hp)]; exact h, fun _ h => upd_there h, fun a h => by
    rcases h with h | h
    · exact .inl h
    · subst h; exact .inr (.inl hp)⟩
theorem S.frz_ok {p : Addr} {o : HO} (ok : Ok K cl s) (hp : s.H p = none) : Ok K cl (s.frz p o) := by
  have ne : ∀ a, a ∈ s.ρ → a ≠ p := fun a ha z => ok.trk a ha (by rw [z]; exact hp)
  refine ⟨ok.len, ok.nd, fun a ha => upd_there (ok.trk a ha), fun a ha => ?_, fun n a m hn hm => ?_, fun a hl ha => ?_⟩
  · rcases ha with ha | ha
    · exact upd_there (ok.frz a ha)
    · subst ha; show upd s.H a o a ≠ none; rw [upd_same]; simp
  · refine RepO.at ok (S.frz_ext hp) ?_ (ok.cell n a m hn hm)
    exact upd_ne (ne a (List.mem_of_getElem? hn))
  · rcases ha with ha | ha
    · exact ok.dead a hl ha
    · obtain ⟨n, hn, _⟩ := hl
      exact ne a (List.mem_of_getElem? hn) ha
theorem S.cell_ext {p : Addr} {o : HO} {m : MO} (ok : Ok K cl s) (hp : s.H p = none) : Ext s (s.cell p o m) :=
  ⟨fun _ h => h, ⟨[p], rfl, fun a h => by rw [List.mem_singleton.mp h]; exact hp⟩, fun n h => by
    show (s.w ++ [m])[n]? = some MO.dead
    rw [List.getElem?_append_left (List.getElem?_eq_some_iff.mp h).1]; exact h, fun a u h _ => by
    show upd s.H p o a = some u
    rw [upd_ne (ne_of_none h hp)]; exact h, fun _ h => upd_there h, fun a h => .inl h⟩
theorem S.cell_ok {p : Addr} {o : HO} {m : MO} (ok : Ok K cl s) (hp : s.H p = none) (r : RepO K cl (s.cell p o m) p m) : Ok K cl (s.cell p o m) := by
  have ne : ∀ a, a ∈ s.ρ → a ≠ p := fun a ha z => ok.trk a ha (by rw [z]; exact hp)
  have split : ∀ (n : Nat) (a : Addr), (s.ρ ++ [p])[n]? = some a → (s.ρ[n]? = some a ∧ (s.w ++ [m])[n]? = s.w[n]?) ∨ (n = s.ρ.length ∧ a = p ∧ (s.w ++ [m])[n]? = some m) := fun n a hn => by
    by_cases hl : n < s.ρ.length
    · rw [List.getElem?_append_left hl] at hn
      exact .inl ⟨hn, List.getElem?_append_left (by rw [← ok.len]; exact hl)⟩
    · have e : n = s.ρ.length := by
        have := (List.getElem?_eq_some_iff.mp hn).1
        rw [List.length_append, List.length_singleton] at this
        omega
      subst e
      rw [List.getElem?_append_right (Nat.le_refl _), Nat.sub_self] at hn
      have e2 : p = a := Option.some.inj hn
      refine .inr ⟨rfl, e2.symm, ?_⟩
      rw [List.getElem?_append_right (by rw [ok.len]; exact Nat.le_refl _), ok.len, Nat.sub_self]
      rfl
  refine ⟨?_, ?_, fun a ha => ?_, fun a ha => upd_there (ok.frz a ha), fun n a m' hn hm => ?_, fun a hl ha => ?_⟩
  · show (s.ρ ++ [p]).length = (s.w ++ [m]).length
    rw [List.length_append, List.length_append, ok.len]
    rfl
  · refine List.nodup_append.mpr ⟨ok.nd, by simp, fun a ha b hb => ?_⟩
    rw [List.mem_singleton.mp hb]
    exact ne a ha
  · rcases List.mem_append.mp ha with ha | ha
    · exact upd_there (ok.trk a ha)
    · rw [List.mem_singleton.mp ha]; show upd s.H p o p ≠ none; rw [upd_same]; simp
  · rcases split n a hn with ⟨h1, h2⟩ | ⟨_, rfl, h2⟩
    · refine RepO.at ok (S.cell_ext ok hp) (upd_ne (ne a (List.mem_of_getElem? h1))) (ok.cell n a m' h1 ?_)
      rw [← h2]; exact hm
    · have e : m' = m := by
        change (s.w ++ [m])[n]? = some m' at hm
        rw [h2] at hm; exact (Option.some.inj hm).symm
      subst e
      exact r
  · obtain ⟨n, hn, hd⟩ := hl
    rcases split n a hn with ⟨h1, h2⟩ | ⟨_, rfl, _⟩
    · refine ok.dead a ⟨n, h1, fun z => hd ?_⟩ ha
      show (s.w ++ [m])[n]? = some MO.dead
      rw [h2]; exact z
    · exact ok.frz a ha hp
theorem S.wr_ext {n : Nat} {p : Addr} {o : HO} {m : MO} (ok : Ok K cl s) (hn : s.ρ[n]? = some p) (hl : s.w[n]? ≠ some MO.dead) : Ext s (s.wr n p o m) :=
  ⟨fun _ h => h, ⟨[], (List.append_nil _).symm, fun _ h => nomatch h⟩, fun j h => by
    show (s.w.set n m)[j]? = some MO.dead
    rw [List.getElem?_set_ne (fun z => hl (by rw [z]; exact h))]; exact h, fun a u h nl => by
    show upd s.H p o a = some u
    rw [upd_ne (fun z => nl ⟨n, by rw [z]; exact hn, hl⟩)]; exact h, fun _ h => upd_there h, fun a h => .inl h⟩
theorem S.wr_ok {n : Nat} {p : Addr} {o : HO} {m : MO} (ok : Ok K cl s) (hn : s.ρ[n]? = some p) (hl : s.w[n]? ≠ some MO.dead) (r : RepO K cl (s.wr n p o m) p m) : Ok K cl (s.wr n p o m) := by
  refine ⟨by show s.ρ.length = (s.w.set n m).length; rw [List.length_set]; exact ok.len, ok.nd, fun a ha => upd_there (ok.trk a ha), fun a ha => upd_there (ok.frz a ha), fun j a m' hj hm => ?_, fun a hv ha => ?_⟩
  · change s.ρ[j]? = some a at hj
    change (s.w.set n m)[j]? = some m' at hm
    by_cases e : j = n
    · subst e
      rw [hn] at hj
      cases hj
      have hlt : j < s.w.length := by rw [← ok.len]; exact (List.getElem?_eq_some_iff.mp hn).1
      rw [List.getElem?_set_self hlt] at hm
      cases hm
      exact r
    · rw [List.getElem?_set_ne (Ne.symm e)] at hm
      refine RepO.at ok (S.wr_ext ok hn hl) (upd_ne fun z => e ?_) (ok.cell j a m' hj hm)
      subst z
      exact nd_ix ok.nd hj hn
  · obtain ⟨j, hj, hd⟩ := hv
    change s.ρ[j]? = some a at hj
    by_cases e : j = n
    · subst e
      exact ok.dead a ⟨j, hj, hl⟩ ha
    · refine ok.dead a ⟨j, hj, fun z => hd ?_⟩ ha
      show (s.w.set n m)[j]? = some MO.dead
      rw [List.getElem?_set_ne (Ne.symm e)]; exact z
/-- a new list, a new tuple that never changes -/
theorem rep_newL {p : Addr} {vs : List V} {ds : List D} (ok : Ok K cl s) (hp : s.H p = none) (r : RepA K s vs ds) : Rep K (s.frz p (.lst vs)) (.ref p) (.lst ds) :=
  .lst (.inr rfl) upd_same (r.mono ok (S.frz_ext hp))
theorem rep_newT {p : Addr} {vs : List V} {ds : List D} (ok : Ok K cl s) (hp : s.H p = none) (r : RepA K s vs ds) : Rep K (s.frz p (.tup vs)) (.ref p) (.tup ds) :=
  .tup (.inl ⟨.inr rfl, upd_same⟩) (r.mono ok (S.frz_ext hp))
/-- what follows a value that is there -/
theorem post_here {rep : S → V → D → Prop} {EK : XK} {d : D} {Q : VK} {v : V} (ok : Ok K cl s) (p : Post K cl rep EK s (.ok d s.w) Q) (r : rep s v d) : Q v s.H := p s v (Ext.refl s) ok rfl r
theorem post_newL {EK : XK} {ds : List D} {Q : VK} {vs : List V} (ok : Ok K cl s) (p : Post K cl (Rep K) EK s (.ok (.lst ds) s.w) Q) (r : RepA K s vs ds) : ∀ a, s.H a = none → Q (.ref a) (upd s.H a (.lst vs)) :=
  fun a ha => p (s.frz a (.lst vs)) _ (S.frz_ext ha) (S.frz_ok ok ha) rfl (rep_newL ok ha r)
theorem post_newT {EK : XK} {ds : List D} {Q : VK} {vs : List V} (ok : Ok K cl s) (p : Post K cl (Rep K) EK s (.ok (.tup ds) s.w) Q) (r : RepA K s vs ds) : ∀ a, s.H a = none → Q (.ref a) (upd s.H a (.tup vs)) :=
  fun a ha => p (s.frz a (.tup vs)) _ (S.frz_ext ha) (S.frz_ok ok ha) rfl (rep_newT ok ha r)
end

/-! ### operators -/
/-- the rule r does what g says -/
def GR (K : PySem.W.Frag) (cl : Str → Option Addr) (g : D → D → Wd → R D) (r : R2) : Prop :=
  ∀ (EK : XK) (s : S) (x y : V) (u v : D) (Q : VK), Ok K cl s → Rep K s x u → Rep K s y v → Post K cl (Rep K) EK s (g u v s.w) Q → r x y s.H Q
def mOp (g : D → D → Wd → R D) (ma mb : En → Wd → R D) : En → Wd → R D := fun σd w => (ma σd w).bind fun u w1 => (mb σd w1).bind fun v w2 => g u v w2
theorem rep_mono {K : PySem.W.Frag} {cl : Str → Option Addr} : ∀ (s s' : S) (x : V) (a : D), Ok K cl s → Ext s s' → Rep K s x a → Rep K s' x a := fun _ _ _ _ ok e r => r.mono ok e
section
variable {X : Cx} {cl : Str → Option Addr} {EK : XK} {a b c : Expr} {ma mb mc : En → Wd → R D} {pos : Pos} {g g' : D → D → Wd → R D} {r r' : R2}
theorem op_core (hr : GR X.K cl g r) {σ : L2.St} {H : Hp} {Q : VK} (h : tG X.K cl (Rep X.K) EK (mOp g ma mb) σ H Q) : tOp r (tG X.K cl (Rep X.K) EK ma) (tG X.K cl (Rep X.K) EK mb) σ H Q :=
  tG_imp (tG_bind h) fun x H1 hk => tG_imp (tK_bind rep_mono hk) fun y H2 ⟨s, σd, u, v, e, ok, re, ru, rv, p⟩ => by
    subst e
    exact hr EK s x y u v Q ok ru rv p
theorem se_op {op : Operator} (ho : OpR X (binaryOp op) r) (hr : GR X.K cl g r) (ha : SE X cl EK a ma) (hb : SE X cl EK b mb) : SE X cl EK (.BinOp a op b pos) (mOp g ma mb) := PE.weak (pe_op ho ha hb) fun σ H Q h => op_core hr h
theorem se_cmp {op : CmpOp} (ho : OpR X (compareOp op) r) (hr : GR X.K cl g r) (ha : SE X cl EK a ma) (hb : SE X cl EK b mb) (hm : behindInMarks op b = false) : SE X cl EK (.Compare a [op] [b] pos) (mOp g ma mb) :=
  PE.weak (pe_cmpR ho ha hb hm) fun σ H Q h => op_core hr h
/-- a bool that is asked -/
def asB (m : En → Wd → R D) : En → Wd → R Bool := fun σd w => (m σd w).bind fun d w1 => match d with | .bl b => .ok b w1 | _ => .stuck
theorem st_cmp {op : CmpOp} (ho : OpR X (compareOp op) r) (hr : GR X.K cl g r) (ha : SE X cl EK a ma) (hb : SE X cl EK b mb) (hm : behindInMarks op b = false) : ST X cl EK (.Compare a [op] [b] pos) (asB (mOp g ma mb)) := by
  refine PT.weak (pt_cmpR ho ha hb hm) fun σ H Q h => ?_
  have h2 := tG_bind (rep := Rep X.K) h
  refine tG_imp (tG_bind h2) fun x H1 hk => tG_imp (tK_bind rep_mono hk) fun y H2 ⟨s, σd, u, v, e, ok, re, ru, rv, p⟩ => ?_
  subst e
  refine hr EK s x y u v _ ok ru rv (p.imp fun v H q => ?_)
  obtain ⟨s, σd, d, rfl, ok, re, r, p⟩ := q
  cases r with
  | bl b => exact ⟨b, rfl, p s b (Ext.refl s) ok rfl rfl⟩
  | _ => exact p.elim
end
end Si

set_option Elab.async false
set_option linter.all false
set_option autoImplicit false
set_option maxRecDepth 100000
set_option maxHeartbeats 4000000
/-! Si3: what the operators reckon. -/
namespace Si
open PySem L2 PyProof.Rows
section
variable {X : Cx} {K : PySem.W.Frag} {cl : Str → Option Addr}
theorem rep_int {s : S} {v : V} {i : Int} (h : Rep K s v (.int i)) : v = .int i := by cases h; rfl
theorem rep_str {s : S} {v : V} {i : Str} (h : Rep K s v (.str i)) : v = .str i := by cases h; rfl
theorem rep_bl {s : S} {v : V} {i : Bool} (h : Rep K s v (.bl i)) : v = .bl i := by cases h; rfl
theorem rep_lst {s : S} {v : V} {ds : List D} (h : Rep K s v (.lst ds)) : ∃ a vs, v = .ref a ∧ s.F a ∧ s.H a = some (.lst vs) ∧ RepA K s vs ds := by
  cases h with
  | lst hF h r => exact ⟨_, _, rfl, hF, h, r⟩
theorem rep_tup {s : S} {v : V} {ds : List D} (h : Rep K s v (.tup ds)) : ∃ a vs, v = .ref a ∧ SqT K s.H a vs ∧ RepA K s vs ds := by
  cases h with
  | tup h r => exact ⟨_, _, rfl, SqT.ofR h, r⟩
/-! ### + - * // % ** -/
def gAdd : D → D → Wd → R D := fun u v w => match u, v with
  | .int i, .int j => .ok (.int (i + j)) w
  | .str a, .str b => if a.length + b.length ≤ 16777216 then .ok (.str (a ++ b)) w else .stuck
  | .lst a, .lst b => if a.length + b.length ≤ 16777216 then .ok (.lst (a ++ b)) w else .stuck
  | .tup a, .tup b => if a.length + b.length ≤ 16777216 then .ok (.tup (a ++ b)) w else .stuck
  | _, _ => .stuck
def rAddI : R2 := rI0 fun i j => .int (i + j)
def rAddT : R2 := fun x y H Q => ∃ i j, x = .str i ∧ y = .str j ∧ i.length + j.length ≤ sizeLine ∧ Q (.str (i ++ j)) H
theorem op_addA : OpR X (binaryOp .Add) (fun x y H Q => rAddI x y H Q ∨ (rAddT x y H Q ∨ (rCat x y H Q ∨ rCatA X.K x y H Q))) := OpR.or op_add (OpR.or op_add_str (OpR.or op_cat op_catA))
theorem gr_add : GR K cl gAdd (fun x y H Q => rAddI x y H Q ∨ (rAddT x y H Q ∨ (rCat x y H Q ∨ rCatA K x y H Q))) := by
  intro EK s x y u v Q ok ru rv p
  unfold gAdd at p
  split at p
  · rename_i i j
    rw [rep_int ru, rep_int rv]
    exact .inl ⟨i, j, rfl, rfl, post_here ok p (.int _)⟩
  · rename_i a b
    rw [rep_str ru, rep_str rv]
    split at p
    · exact .inr (.inl ⟨a, b, rfl, rfl, (by rw [sizeLine_eq]; assumption), post_here ok p (.str _)⟩)
    · exact p.elim
  · rename_i a b
    obtain ⟨l, vs, rfl, _, h1, r1⟩ := rep_lst ru
    obtain ⟨l2, vs2, rfl, _, h2, r2⟩ := rep_lst rv
    split at p
    · rename_i hl
      exact .inr (.inr (.inl ⟨l, l2, vs, vs2, rfl, rfl, h1, h2, by rw [r1.length, r2.length, sizeLine_eq]; exact hl, post_newL ok p (r1.append r2)⟩))
    · exact p.elim
  · rename_i a b
    have ru' := ru
    have rv' := rv
    obtain ⟨l, vs, rfl, h1, r1⟩ := rep_tup ru
    obtain ⟨l2, vs2, rfl, h2, r2⟩ := rep_tup rv
    split at p
    · rename_i hl
      refine .inr (.inr (.inr ⟨l, l2, vs, vs2, rfl, rfl, h1, h2, by rw [r1.length, r2.length, sizeLine_eq]; exact hl, fun e => ?_, fun _ e => ?_, fun _ _ => post_newT ok p (r1.append r2)⟩))
      · subst e
        cases r1
        exact post_here ok p rv'
      · subst e
        cases r2
        rw [List.append_nil] at p
        exact post_here ok p ru'
    · exact p.elim
  · exact p.elim
def gSub : D → D → Wd → R D := fun u v w => match u, v with
  | .int i, .int j => .ok (.int (i - j)) w
  | _, _ => .stuck
def rSubI : R2 := rI0 fun i j => .int (i - j)
theorem gr_sub : GR K cl gSub rSubI := by
  intro EK s x y u v Q ok ru rv p
  unfold gSub at p
  split at p
  · rename_i i j
    rw [rep_int ru, rep_int rv]
    exact ⟨i, j, rfl, rfl, post_here ok p (.int _)⟩
  · exact p.elim
/-- a text taken n times -/
def strMul (x : Str) (n : Int) : Str := ⟨(List.replicate n.toNat x.cps.toList).flatten.toArray⟩
def rMulT : R2 := fun x y H Q => ∃ (i : Str) (n : Int), x = .str i ∧ y = .int n ∧ 0 ≤ n ∧ n ≤ 1000 ∧ i.length ≤ 1000 ∧ Q (.str (strMul i n)) H
theorem txt_mul {x : Str} {n : Int} (h0 : 0 ≤ n) : Txt.mul x n = strMul x n := by
  have fold : ∀ (k : Nat) (acc : Array Nat), (List.replicate k x.cps).foldl (· ++ ·) acc = (acc.toList ++ (List.replicate k x.cps.toList).flatten).toArray := by
    intro k
    induction k with
    | zero => intro acc; simp
    | succ k ih =>
      intro acc
      rw [List.replicate_succ, List.foldl_cons, ih, List.replicate_succ, List.flatten_cons]
      simp
  unfold Txt.mul strMul
  by_cases h1 : n < 1
  · have e : n = 0 := by omega
    subst e
    rfl
  · rw [if_neg h1]
    split
    · rename_i h
      rw [Bool.or_eq_true] at h
      rcases h with h | h
      · have e : n = 1 := by simpa using h
        subst e
        obtain ⟨c⟩ := x
        show _ = (⟨(List.replicate 1 c.toList).flatten.toArray⟩ : Str)
        simp
      · have e : x.cps = #[] := by
          have : x.cps.size = 0 := by simpa [Str.length] using h
          exact Array.eq_empty_of_size_eq_zero this
        obtain ⟨c⟩ := x
        simp only at e
        subst e
        have z : ∀ k : Nat, (List.replicate k ([] : List Nat)).flatten = [] := by
          intro k; induction k with
          | zero => rfl
          | succ k ih => rw [List.replicate_succ, List.flatten_cons, ih]; rfl
        show _ = (⟨(List.replicate n.toNat ([] : List Nat)).flatten.toArray⟩ : Str)
        rw [z]
    · rw [fold]
      simp
theorem op_mulT : OpR X (binaryOp .Mult) rMulT := by
  intro pins s σ H x y v u Q I rx ry h
  obtain ⟨i, n, rfl, rfl, h0, h1, h2, q⟩ := h
  obtain ⟨t, rfl⟩ := rx
  obtain ⟨t2, rfl⟩ := ry
  refine SB.mul ⟨?_, fun hn _ z => ?_, fun _ _ => ?_⟩ fun t' k => ?_
  · rw [Bool.or_eq_false_iff]
    exact ⟨decide_eq_false (by omega), decide_eq_false (by omega)⟩
  ·
    have a1 : (1000 : Int) ≤ (2 ^ 63 - 1 : Int) / n := by
      rw [Int.le_ediv_iff_mul_le (by omega)]
      omega
    omega
  · have : i.length * n.toNat ≤ 1000 * 1000 := Nat.mul_le_mul h2 (by omega)
    unfold Builtin.Str.tooLong
    exact decide_eq_false (by have e := sizeLine_eq; omega)
  · rw [txt_mul h0]
    exact ⟨.str _, H, I.tok _, ⟨_, rfl⟩, q⟩
def gMul : D → D → Wd → R D := fun u v w => match u, v with
  | .int i, .int j => if ((-(2 ^ 64) < i ∧ i < 2 ^ 64) ∨ (-(2 ^ 64) < j ∧ j < 2 ^ 64)) ∨ i.natAbs.log2 + j.natAbs.log2 < 1000000 then .ok (.int (i * j)) w else .stuck
  | .str a, .int n => if 0 ≤ n ∧ n ≤ 1000 ∧ a.length ≤ 1000 then .ok (.str (strMul a n)) w else .stuck
  | .lst a, .int n => if 0 ≤ n ∧ n ≤ 1000 ∧ a.length ≤ 1000 then .ok (.lst (List.replicate n.toNat a).flatten) w else .stuck
  | .tup a, .int n => if 2 ≤ n ∧ n ≤ 1000 ∧ (a.length ≤ 1000 ∧ 1 ≤ a.length) then .ok (.tup (List.replicate n.toNat a).flatten) w else .stuck
  | _, _ => .stuck
theorem RepA.rep {s : S} {vs : List V} {ds : List D} (h : RepA K s vs ds) : ∀ n : Nat, RepA K s (List.replicate n vs).flatten (List.replicate n ds).flatten
  | 0 => .nil
  | n + 1 => by
    rw [List.replicate_succ, List.replicate_succ, List.flatten_cons, List.flatten_cons]
    exact h.append (RepA.rep h n)
theorem rep_lt {l : Nat} {n : Int} (h0 : 0 ≤ n) (h : n ≤ 1000) (hl : l ≤ 1000) : l * n.toNat ≤ sizeLine := by
  have : l * n.toNat ≤ 1000 * 1000 := Nat.mul_le_mul hl (by omega)
  have e := sizeLine_eq
  omega
def rMulI : R2 := rI (fun i j => CMul i j ∨ CMulW i j) fun i j => .int (i * j)
theorem op_mulB : OpR X (binaryOp .Mult) rMulI := opI fun _ _ _ _ _ _ _ hc q => mul_int q (hc.elim CMul.ok CMulW.ok)
theorem op_mulA : OpR X (binaryOp .Mult) (fun x y H Q => rMulI x y H Q ∨ (rMulT x y H Q ∨ (rRep x y H Q ∨ rRepT X.K x y H Q))) := OpR.or op_mulB (OpR.or op_mulT (OpR.or op_rep op_repT))
theorem gr_mul : GR K cl gMul (fun x y H Q => rMulI x y H Q ∨ (rMulT x y H Q ∨ (rRep x y H Q ∨ rRepT K x y H Q))) := by
  intro EK s x y u v Q ok ru rv p
  unfold gMul at p
  split at p
  · rename_i i j
    rw [rep_int ru, rep_int rv]
    split at p
    · rename_i h
      exact .inl ⟨i, j, rfl, rfl, h, post_here ok p (.int _)⟩
    · exact p.elim
  · rename_i i j
    rw [rep_str ru, rep_int rv]
    split at p
    · rename_i h
      exact .inr (.inl ⟨i, j, rfl, rfl, h.1, h.2.1, h.2.2, post_here ok p (.str _)⟩)
    · exact p.elim
  · rename_i a j
    obtain ⟨l, vs, rfl, _, h1, r1⟩ := rep_lst ru
    rw [rep_int rv]
    split at p
    · rename_i h
      exact .inr (.inr (.inl ⟨l, j, vs, rfl, rfl, h1, by omega, by omega, by rw [r1.length]; exact rep_lt h.1 h.2.1 h.2.2, post_newL ok p (r1.rep _)⟩))
    · exact p.elim
  · rename_i a j
    obtain ⟨l, vs, rfl, h1, r1⟩ := rep_tup ru
    rw [rep_int rv]
    split at p
    · rename_i h
      refine .inr (.inr (.inr ⟨l, j, vs, rfl, rfl, h1, fun e => ?_, h.1, h.2.1, by rw [r1.length]; exact h.2.2.1, post_newT ok p (r1.rep _)⟩))
      have := r1.length
      rw [e] at this
      have := h.2.2.2
      simp only [List.length_nil] at *
      omega
    · exact p.elim
  · exact p.elim
def gDiv : D → D → Wd → R D := fun u v w => match u, v with
  | .int i, .int j => if 0 < j ∧ j.natAbs.log2 < 9000 then .ok (.int (i / j)) w else .stuck
  | _, _ => .stuck
theorem gr_div : GR K cl gDiv (rI CDivW fun i j => .int (i / j)) := by
  intro EK s x y u v Q ok ru rv p
  unfold gDiv at p
  split at p
  · rename_i i j
    rw [rep_int ru, rep_int rv]
    split at p
    · rename_i h
      exact ⟨i, j, rfl, rfl, h, post_here ok p (.int _)⟩
    · exact p.elim
  · exact p.elim
def gMod : D → D → Wd → R D := fun u v w => match u, v with
  | .int i, .int j => if 0 < j then .ok (.int (i % j)) w else .stuck
  | _, _ => .stuck
theorem gr_mod : GR K cl gMod (rI (fun _ j => 0 < j) fun i j => .int (i % j)) := by
  intro EK s x y u v Q ok ru rv p
  unfold gMod at p
  split at p
  · rename_i i j
    rw [rep_int ru, rep_int rv]
    split at p
    · rename_i h
      exact ⟨i, j, rfl, rfl, h, post_here ok p (.int _)⟩
    · exact p.elim
  · exact p.elim
def gPow : D → D → Wd → R D := fun u v w => match u, v with
  | .int i, .int j => if 0 ≤ j ∧ j ≤ 1000000 ∧ i.natAbs < 2 ^ 64 then .ok (.int (i ^ j.toNat)) w else .stuck
  | _, _ => .stuck
theorem gr_pow : GR K cl gPow (rI CPow fun i j => .int (i ^ j.toNat)) := by
  intro EK s x y u v Q ok ru rv p
  unfold gPow at p
  split at p
  · rename_i i j
    rw [rep_int ru, rep_int rv]
    split at p
    · rename_i h
      exact ⟨i, j, rfl, rfl, h, post_here ok p (.int _)⟩
    · exact p.elim
  · exact p.elim
/-! ### order of numbers -/
def gOrd (f : Int → Int → Bool) : D → D → Wd → R D := fun u v w => match u, v with
  | .int i, .int j => .ok (.bl (f i j)) w
  | _, _ => .stuck
theorem gr_ord (f : Int → Int → Bool) : GR K cl (gOrd f) (rI0 fun i j => .bl (f i j)) := by
  intro EK s x y u v Q ok ru rv p
  unfold gOrd at p
  split at p
  · rename_i i j
    rw [rep_int ru, rep_int rv]
    exact ⟨i, j, rfl, rfl, post_here ok p (.bl _)⟩
  · exact p.elim
def gLt := gOrd fun i j => decide (i < j)
def gLe := gOrd fun i j => decide (i ≤ j)
def gGt := gOrd fun i j => decide (j < i)
def gGe := gOrd fun i j => decide (j ≤ i)
theorem gr_lt : GR K cl gLt (rI0 fun i j => .bl (decide (i < j))) := gr_ord _
theorem gr_le : GR K cl gLe (rI0 fun i j => .bl (decide (i ≤ j))) := gr_ord _
theorem gr_gt : GR K cl gGt (rI0 fun i j => .bl (decide (j < i))) := gr_ord _
/-! ### None -/
def isNon : D → Bool
  | .non => true
  | _ => false
def gIsN : D → D → Wd → R D := fun u v w => match v with
  | .non => .ok (.bl (isNon u)) w
  | _ => .stuck
def gNotN : D → D → Wd → R D := fun u v w => match v with
  | .non => .ok (.bl (!isNon u)) w
  | _ => .stuck
theorem rep_isN {s : S} {x : V} {u : D} (ru : Rep K s x u) : decide (x = V.non) = isNon u := by
  cases ru <;> first | rfl | exact decide_eq_false (fun z => nomatch z)
def rIsNN : R2 := fun x y H Q => y = .non ∧ Q (.bl (decide (x = .non))) H
theorem gr_isN : GR K cl gIsN rIsNN := by
  intro EK s x y u v Q ok ru rv p
  unfold gIsN at p
  split at p
  · cases rv
    refine ⟨rfl, ?_⟩
    rw [rep_isN ru]
    exact post_here ok p (.bl _)
  · exact p.elim
/-! ### a cell's list, looked at -/
/-- all cells as if they never changed any more: what is only read may be read so -/
def S.all (s : S) : S := ⟨fun a => s.F a ∨ a ∈ s.ρ, s.ρ, s.w, s.H⟩
mutual
theorem Rep.all {s : S} : ∀ {v : V} {d : D}, Rep K s v d → Rep K s.all v d
  | _, _, .non => .non
  | _, _, .bl b => .bl b
  | _, _, .int i => .int i
  | _, _, .str x => .str x
  | _, _, .lst hF h r => .lst (.inl hF) h (RepA.all r)
  | _, _, .tup h r => .tup (h.imp (fun q => ⟨.inl q.1, q.2⟩) id) (RepA.all r)
  | _, _, .obj h => .obj h
  | _, _, .scr h => .scr (h.imp (fun q => ⟨.inl q.1, q.2⟩) id)
theorem RepA.all {s : S} : ∀ {vs : List V} {ds : List D}, RepA K s vs ds → RepA K s.all vs ds
  | _, _, .nil => .nil
  | _, _, .cons h r => .cons (Rep.all h) (RepA.all r)
end
/-- a cell that holds a list, as that list -/
def dl (u : D) (w : Wd) : D := match u with
  | .obj n => match w[n]? with
    | some (.lst ds) => .lst ds
    | _ => u
  | _ => u
theorem rep_dl {s : S} {v : V} {u : D} (ok : Ok K cl s) (r : Rep K s v u) : Rep K s.all v (dl u s.w) := by
  unfold dl
  split
  · rename_i n
    split
    · rename_i ds hw
      cases r with
      | obj hn =>
        obtain ⟨vs, h1, h2⟩ := ok.cell _ _ _ hn hw
        exact .lst (.inr (List.mem_of_getElem? hn)) h1 h2.all
    · exact r.all
  · exact r.all
/-! ### equal, in -/
mutual
def D.py : D → PyData
  | .non => .none
  | .bl b => .bool b
  | .int i => .int i
  | .str s => .str s
  | .lst xs => .list (pyA xs)
  | .tup xs => .tuple (pyA xs)
  | .obj _ => .none
  | .scr _ => .none
def pyA : List D → List PyData
  | [] => []
  | x :: r => x.py :: pyA r
end
mutual
/-- no cell within -/
def D.pure : D → Bool
  | .non | .bl _ | .int _ | .str _ => true
  | .lst xs => pureA xs
  | .tup xs => pureA xs
  | .obj _ => false
  | .scr _ => false
def pureA : List D → Bool
  | [] => true
  | x :: r => x.pure && pureA r
end
mutual
theorem Rep.dp {s : S} : ∀ {v : V} {d : D}, Rep K s v d → d.pure = true → Dp K s.H v d.py
  | _, _, .non, _ => .non
  | _, _, .bl b, _ => .bl b
  | _, _, .int i, _ => .int i
  | _, _, .str x, _ => .str x
  | _, _, .lst _ h r, p => by rw [D.py]; rw [D.pure] at p; exact .lst (.inl (.inl h)) (RepA.dp r p)
  | _, _, .tup h r, p => by rw [D.py]; rw [D.pure] at p; exact .tup (SqT.ofR h) (RepA.dp r p)
  | _, _, .obj _, p => by rw [D.pure] at p; cases p
  | _, _, .scr _, p => by rw [D.pure] at p; cases p
theorem RepA.dp {s : S} : ∀ {vs : List V} {ds : List D}, RepA K s vs ds → pureA ds = true → DpAll K s.H vs (pyA ds)
  | _, _, .nil, _ => .nil
  | _, _, .cons h r, p => by rw [pureA, Bool.and_eq_true] at p; rw [pyA]; exact .cons (h.dp p.1) (RepA.dp r p.2)
end
def okD (d : D) : Bool := d.pure && SeqAt.shaped d.py
/-- two scalars of kinds that are compared at once -/
def scEq : D → D → Option Bool
  | .non, .non => some true
  | .int i, .int j => some (decide (i = j))
  | .bl i, .bl j => some (decide (i = j))
  | .str i, .str j => some (decide (i = j))
  | .non, .int _ | .int _, .non | .non, .bl _ | .bl _, .non | .non, .str _ | .str _, .non => some false
  | .int _, .str _ | .str _, .int _ | .bl _, .str _ | .str _, .bl _ => some false
  | _, _ => none
def gEq : D → D → Wd → R D := fun u v w => match scEq u v with
  | some b => .ok (.bl b) w
  | none => if okD (dl u w) && okD (dl v w) then .ok (.bl (PyData.eqv (dl u w).py (dl v w).py)) w else .stuck
def gNe : D → D → Wd → R D := fun u v w => match scEq u v with
  | some b => .ok (.bl (!b)) w
  | none => if okD (dl u w) && okD (dl v w) then .ok (.bl (!PyData.eqv (dl u w).py (dl v w).py)) w else .stuck
theorem scEq_of {s : S} {x y : V} {u v : D} {b : Bool} (ru : Rep K s x u) (rv : Rep K s y v) (h : scEq u v = some b) : scal x y = true ∧ decide (x = y) = b := by
  unfold scEq at h
  split at h <;> first | (cases h) | skip
  all_goals (cases ru; cases rv)
  all_goals (refine ⟨rfl, ?_⟩)
  all_goals first
    | rfl
    | exact decide_eq_false (fun z => nomatch z)
    | (rename_i i j; by_cases e : i = j
       · rw [decide_eq_true e, decide_eq_true (by rw [e])]
       · rw [decide_eq_false e, decide_eq_false (fun z => e (by injection z))])
theorem op_eqA (hu : X.A.units + 64 < cLine) : OpR X (compareOp .Eq) (fun x y H Q => rEq x y H Q ∨ rEqD X.K x y H Q) := OpR.or op_eq (op_eqD hu)
theorem op_neA (hu : X.A.units + 64 < cLine) : OpR X (compareOp .NotEq) (fun x y H Q => rNe x y H Q ∨ rNeD X.K x y H Q) := OpR.or op_ne (op_neD hu)
theorem okD_of {d : D} (h : okD d = true) : d.pure = true ∧ SeqAt.shaped d.py = true := (Bool.and_eq_true _ _).mp h
theorem gr_eq : GR K cl gEq (fun x y H Q => rEq x y H Q ∨ rEqD K x y H Q) := by
  intro EK s x y u v Q ok ru rv p
  unfold gEq at p
  split at p
  · rename_i b hb
    obtain ⟨h1, h2⟩ := scEq_of ru rv hb
    exact .inl ⟨h1, by rw [h2]; exact post_here ok p (.bl _)⟩
  · split at p
    · rename_i h
      obtain ⟨h1, h2⟩ := (Bool.and_eq_true _ _).mp h
      obtain ⟨a1, a2⟩ := okD_of h1
      obtain ⟨b1, b2⟩ := okD_of h2
      exact .inr ⟨_, _, (rep_dl ok ru).dp a1, (rep_dl ok rv).dp b1, a2, b2, post_here ok p (.bl _)⟩
    · exact p.elim
theorem gr_ne : GR K cl gNe (fun x y H Q => rNe x y H Q ∨ rNeD K x y H Q) := by
  intro EK s x y u v Q ok ru rv p
  unfold gNe at p
  split at p
  · rename_i b hb
    obtain ⟨h1, h2⟩ := scEq_of ru rv hb
    exact .inl ⟨h1, by rw [h2]; exact post_here ok p (.bl _)⟩
  · split at p
    · rename_i h
      obtain ⟨h1, h2⟩ := (Bool.and_eq_true _ _).mp h
      obtain ⟨a1, a2⟩ := okD_of h1
      obtain ⟨b1, b2⟩ := okD_of h2
      exact .inr ⟨_, _, (rep_dl ok ru).dp a1, (rep_dl ok rv).dp b1, a2, b2, post_here ok p (.bl _)⟩
    · exact p.elim
def flatD : D → Bool
  | .non | .bl _ | .int _ | .str _ => true
  | _ => false
def eqF : D → D → Bool
  | .non, .non => true
  | .bl a, .bl b => a == b
  | .bl a, .int b => (if a then 1 else 0) == b
  | .int a, .bl b => a == (if b then 1 else 0)
  | .int a, .int b => a == b
  | .str a, .str b => a == b
  | _, _ => false
theorem flat_of {s : S} {v : V} {d : D} (r : Rep K s v d) (h : flatD d = true) : flatV v = true := by
  cases r <;> first | rfl | (exact absurd (show false = true from h) Bool.false_ne_true)
theorem eqF_of {s : S} {v x : V} {d e : D} (r : Rep K s v d) (q : Rep K s x e) (h1 : flatD d = true) (h2 : flatD e = true) : eqV v x = eqF d e := by
  cases r <;> first | skip | (exact absurd (show false = true from h1) Bool.false_ne_true)
  all_goals (cases q <;> first | rfl | (exact absurd (show false = true from h2) Bool.false_ne_true))
theorem flatA_of {s : S} : ∀ {vs : List V} {ds : List D}, RepA K s vs ds → ds.all flatD = true → vs.all flatV = true
  | _, _, .nil, _ => rfl
  | _, _, .cons h r, p => by
    rw [List.all_cons, Bool.and_eq_true] at p
    rw [List.all_cons, flat_of h p.1, flatA_of r p.2]
    rfl
theorem inF_of {s : S} {x : V} {u : D} (q : Rep K s x u) (h2 : flatD u = true) : ∀ {vs : List V} {ds : List D}, RepA K s vs ds → ds.all flatD = true → inV x vs = ds.any fun d => eqF d u
  | _, _, .nil, _ => rfl
  | _, _, .cons h r, p => by
    rw [List.all_cons, Bool.and_eq_true] at p
    have ih := inF_of q h2 r p.2
    unfold inV at ih ⊢
    rw [List.any_cons, List.any_cons, eqF_of h q p.1 h2, ih]
/-- u in v -/
def inD : D → D → Option Bool := fun u v => match v with
  | .str z => match u with
    | .str a => if a.cps.size = 1 then some (decide (a.cps.getD 0 0 ∈ z.cps.toList)) else none
    | _ => none
  | .tup ds => if flatD u && ds.all flatD then some (ds.any fun d => eqF d u) else none
  | .lst ds => if flatD u && ds.all flatD then some (ds.any fun d => eqF d u) else if okD u && okD (.lst ds) then some (ds.any fun d => PyData.eqv d.py u.py) else none
  | _ => none
def gIn : D → D → Wd → R D := fun u v w => match inD (dl u w) (dl v w) with
  | some b => .ok (.bl b) w
  | none => .stuck
def gNotIn : D → D → Wd → R D := fun u v w => match inD (dl u w) (dl v w) with
  | some b => .ok (.bl (!b)) w
  | none => .stuck
def rInS (neg : Bool) : R2 := fun x y H Q => ∃ (c : Nat) (z : Str), x = .str ⟨#[c]⟩ ∧ y = .str z ∧ Q (.bl (if neg then !decide (c ∈ z.cps.toList) else decide (c ∈ z.cps.toList))) H
def rInDD (K : PySem.W.Frag) (neg : Bool) : R2 := fun x y H Q => ∃ d ds, Dp K H x d ∧ Dp K H y (.list ds) ∧ SeqAt.shaped d = true ∧ SeqAt.shaped (.list ds) = true ∧ Q (.bl (if neg then !(ds.any fun z => PyData.eqv z d) else ds.any fun z => PyData.eqv z d)) H
theorem op_inA (hu : X.A.units + 65 < cLine) : OpR X (compareOp .In) (fun x y H Q => rInS false x y H Q ∨ (rIn X.K false x y H Q ∨ rInDD X.K false x y H Q)) := OpR.or op_in_sign (OpR.or op_in_seq (op_inD hu))
theorem any_py (u : PyData) : ∀ ds : List D, (pyA ds).any (fun z => PyData.eqv z u) = ds.any fun d => PyData.eqv d.py u
  | [] => by rw [pyA]; rfl
  | d :: r => by rw [pyA, List.any_cons, List.any_cons, any_py u r]
theorem in_core {s : S} {x y : V} {u v : D} {b : Bool} {Q : VK} (neg : Bool) (ru : Rep K s x u) (rv : Rep K s y v) (h : inD u v = some b) (q : Q (.bl (if neg then !b else b)) s.H) :
    rInS neg x y s.H Q ∨ (rIn K neg x y s.H Q ∨ rInDD K neg x y s.H Q) := by
  have fl : ∀ {ds : List D} {p : Addr} {vs : List V}, RepA K s vs ds → (SqL K s.H p vs ∨ SqT K s.H p vs) → flatD u = true → ds.all flatD = true → b = (ds.any fun d => eqF d u) → rIn K neg x (.ref p) s.H Q := by
    intro ds p vs r hp f1 f2 e
    refine ⟨p, vs, rfl, hp, flat_of ru f1, flatA_of r f2, ?_⟩
    rw [inF_of ru f1 r f2, ← e]
    exact q
  unfold inD at h
  split at h
  · rename_i z
    split at h
    · rename_i a
      split at h
      · rename_i h1
        rw [rep_str ru, rep_str rv]
        have ea : a = ⟨#[a.cps.getD 0 0]⟩ := by
          obtain ⟨c⟩ := a
          obtain ⟨l⟩ := c
          match l, h1 with
          | [k], _ => rfl
        refine .inl ⟨a.cps.getD 0 0, z, congrArg V.str ea, rfl, ?_⟩
        cases h
        exact q
      · cases h
    · cases h
  · rename_i ds
    split at h
    · rename_i h1
      obtain ⟨f1, f2⟩ := (Bool.and_eq_true _ _).mp h1
      obtain ⟨a, vs, rfl, ht, r⟩ := rep_tup rv
      exact .inr (.inl (fl r (.inr ht) f1 f2 (Option.some.inj h).symm))
    · cases h
  · rename_i ds
    split at h
    · rename_i h1
      obtain ⟨f1, f2⟩ := (Bool.and_eq_true _ _).mp h1
      obtain ⟨a, vs, rfl, _, ht, r⟩ := rep_lst rv
      exact .inr (.inl (fl r (.inl (SqL.of ht)) f1 f2 (Option.some.inj h).symm))
    · split at h
      · rename_i h1
        obtain ⟨h2, h3⟩ := (Bool.and_eq_true _ _).mp h1
        obtain ⟨a1, a2⟩ := okD_of h2
        obtain ⟨b1, b2⟩ := okD_of h3
        have d2 := rv.dp b1
        rw [D.py] at d2 b2
        refine .inr (.inr ⟨_, _, ru.dp a1, d2, a2, b2, ?_⟩)
        rw [any_py, Option.some.inj h]
        exact q
      · cases h
  · cases h
theorem gr_in : GR K cl gIn (fun x y H Q => rInS false x y H Q ∨ (rIn K false x y H Q ∨ rInDD K false x y H Q)) := by
  intro EK s x y u v Q ok ru rv p
  unfold gIn at p
  split at p
  · rename_i b hb
    have q0 : Q (V.bl b) s.H := post_here ok p (.bl _)
    exact in_core (s := s.all) false (rep_dl ok ru) (rep_dl ok rv) hb q0
  · exact p.elim
end
end Si

set_option Elab.async false
set_option linter.all false
set_option autoImplicit false
set_option maxRecDepth 100000
set_option maxHeartbeats 4000000
/-! Si4: chains, tests, displays, subscripts, built-ins, calls of own defs. -/
namespace Si
open PySem L2
section
variable {K : PySem.W.Frag} {cl : Str → Option Addr} {s s1 : S} {EK : XK}
/-- what follows, cut in two -/
theorem post_bind {α β α' β' : Type} {rep : S → β → α → Prop} {rep' : S → β' → α' → Prop} {r : R α} {k : α → Wd → R α'} {Q : β' → Hp → Prop} {Q1 : β → Hp → Prop} (p : Post K cl rep' EK s (r.bind k) Q)
    (h : ∀ s' v a, Ext s s' → Ok K cl s' → rep s' v a → Post K cl rep' EK s' (k a s'.w) Q → Q1 v s'.H) : Post K cl rep EK s r Q1 := by
  cases r with
  | ok a w =>
    intro s' v e ok' hw rv
    refine h s' v a e ok' rv ?_
    rw [hw]
    exact Post.ext e p
  | err c fs w => exact p
  | stuck => exact p
theorem tG_of {α β : Type} {rep : S → β → α → Prop} {m : En → Wd → R α} {σ : L2.St} {σd : En} {Q : β → Hp → Prop} (ok : Ok K cl s) (re : RepE K s σ σd) (p : Post K cl rep EK s (m σd s.w) Q) : tG K cl rep EK m σ s.H Q := ⟨s, σd, rfl, ok, re, p⟩
/-- the list that a value is or that stands in its cell -/
def derefL (u : D) (w : Wd) : Option (List D) := match u with
  | .lst ds => some ds
  | .obj n => match w[n]? with
    | some (.lst ds) => some ds
    | _ => none
  | _ => none
theorem deref_of {v : V} {u : D} {ds : List D} (ok : Ok K cl s) (r : Rep K s v u) (h : derefL u s.w = some ds) : ∃ a vs, v = .ref a ∧ s.H a = some (.lst vs) ∧ RepA K s vs ds := by
  unfold derefL at h
  split at h
  · cases h
    obtain ⟨a, vs, e, _, h1, h2⟩ := rep_lst r
    exact ⟨a, vs, e, h1, h2⟩
  · rename_i n
    split at h
    · rename_i ds' hw
      cases h
      cases r with
      | obj hn =>
        obtain ⟨vs, h1, h2⟩ := ok.cell n _ _ hn hw
        exact ⟨_, vs, rfl, h1, h2⟩
    · cases h
  · cases h
/-! ### truth -/
def truD (u : D) (w : Wd) : Option Bool := match u with
  | .non => some false
  | .bl b => some b
  | .int i => some (i != 0)
  | .str z => if z.length ≤ 16777216 then some ((z.length : Int) != 0) else none
  | .lst ds => some (!ds.isEmpty)
  | .tup ds => some (!ds.isEmpty)
  | .obj n => match w[n]? with
    | some (.lst ds) => some (!ds.isEmpty)
    | _ => none
  | .scr _ => none
theorem empty_of {vs : List V} {ds : List D} (r : RepA K s vs ds) : (!vs.isEmpty) = !ds.isEmpty := by cases r <;> rfl
theorem tru_of {v : V} {u : D} {k : Bool} (ok : Ok K cl s) (r : Rep K s v u) (h : truD u s.w = some k) : TruV K v s.H k := by
  cases r with
  | non => exact (Option.some.inj h).symm
  | bl b => exact (Option.some.inj h).symm
  | int i => exact (Option.some.inj h).symm
  | str z =>
    unfold truD at h
    dsimp only at h
    split at h
    · rename_i hz
      exact ⟨by rw [sizeLine_eq]; exact hz, (Option.some.inj h).symm⟩
    · cases h
  | lst hF hH rr => exact .inl ⟨_, SqL.of hH, by rw [empty_of rr]; exact (Option.some.inj h).symm⟩
  | tup hH rr => exact .inr (.inl ⟨_, SqT.ofR hH, by rw [empty_of rr]; exact (Option.some.inj h).symm⟩)
  | obj hn =>
    rename_i a n
    unfold truD at h
    dsimp only at h
    split at h
    · rename_i ds hw
      obtain ⟨vs, h1, h2⟩ := ok.cell n _ _ hn hw
      exact .inl ⟨_, SqL.of h1, by rw [empty_of h2]; exact (Option.some.inj h).symm⟩
    · cases h
  | scr _ => cases h
end
def mChain (g g' : D → D → Wd → R D) (ma mb mc : En → Wd → R D) : En → Wd → R D := fun σd w => (ma σd w).bind fun u w1 => (mb σd w1).bind fun v w2 => (g u v w2).bind fun z w3 => match z with
  | .bl true => (mc σd w3).bind fun x w4 => g' v x w4
  | .bl false => .ok (.bl false) w3
  | _ => .stuck
def mAnd (ma mb : En → Wd → R D) : En → Wd → R D := fun σd w => (ma σd w).bind fun u w1 => match truD u w1 with
  | some true => mb σd w1
  | some false => .ok u w1
  | none => .stuck
def mOr (ma mb : En → Wd → R D) : En → Wd → R D := fun σd w => (ma σd w).bind fun u w1 => match truD u w1 with
  | some true => .ok u w1
  | some false => mb σd w1
  | none => .stuck
def mNot (ma : En → Wd → R D) : En → Wd → R D := fun σd w => (ma σd w).bind fun u w1 => match truD u w1 with
  | some b => .ok (.bl (!b)) w1
  | none => .stuck
def mTru (ma : En → Wd → R D) : En → Wd → R Bool := fun σd w => (ma σd w).bind fun u w1 => match truD u w1 with
  | some b => .ok b w1
  | none => .stuck
def bAnd (ma mb : En → Wd → R Bool) : En → Wd → R Bool := fun σd w => (ma σd w).bind fun b w1 => match b with | true => mb σd w1 | false => .ok false w1
def bOr (ma mb : En → Wd → R Bool) : En → Wd → R Bool := fun σd w => (ma σd w).bind fun b w1 => match b with | true => .ok true w1 | false => mb σd w1
def bNot (ma : En → Wd → R Bool) : En → Wd → R Bool := fun σd w => (ma σd w).bind fun b w1 => .ok (!b) w1
def mIf (mc : En → Wd → R Bool) (ma mb : En → Wd → R D) : En → Wd → R D := fun σd w => (mc σd w).bind fun b w1 => match b with | true => ma σd w1 | false => mb σd w1
def mNeg (ma : En → Wd → R D) : En → Wd → R D := fun σd w => (ma σd w).bind fun u w1 => match u with | .int i => .ok (.int (-i)) w1 | _ => .stuck
def aNil : En → Wd → R (List D) := fun _ w => .ok [] w
def aCons (ma : En → Wd → R D) (mr : En → Wd → R (List D)) : En → Wd → R (List D) := fun σd w => (ma σd w).bind fun u w1 => (mr σd w1).bind fun us w2 => .ok (u :: us) w2
def mTup (ma : En → Wd → R (List D)) : En → Wd → R D := fun σd w => (ma σd w).bind fun us w1 => if us.length ≤ 16777216 then .ok (.tup us) w1 else .stuck
def mLst (ma : En → Wd → R (List D)) : En → Wd → R D := fun σd w => (ma σd w).bind fun us w1 => if us.length ≤ 16777216 then .ok (.lst us) w1 else .stuck
/-- a list that will change: a cell -/
def mLstM (ma : En → Wd → R (List D)) : En → Wd → R D := fun σd w => (ma σd w).bind fun us w1 => if us.length ≤ 16777216 then .ok (.obj w1.length) (w1 ++ [.lst us]) else .stuck
section
variable {X : Cx} {cl : Str → Option Addr} {EK : XK} {a b c : Expr} {ma mb mc : En → Wd → R D} {na nb nc : En → Wd → R Bool} {pos : Pos} {g g' : D → D → Wd → R D} {r r' : R2} {rest es : List Expr}
theorem chain_core (hr : GR X.K cl g r) (hr' : GR X.K cl g' r') {σ : L2.St} {H : Hp} {Q : VK} (h : tG X.K cl (Rep X.K) EK (mChain g g' ma mb mc) σ H Q) :
    tChain r r' (tG X.K cl (Rep X.K) EK ma) (tG X.K cl (Rep X.K) EK mb) (tG X.K cl (Rep X.K) EK mc) σ H Q :=
  tG_imp (tG_bind h) fun x H1 hk => tG_imp (tK_bind rep_mono hk) fun y H2 ⟨s, σd, u, v, e, ok, re, ru, rv, p⟩ => by
    subst e
    refine hr EK s x y u v _ ok ru rv (post_bind p fun s' z d ex ok' rz p' => ?_)
    cases rz with
    | bl k =>
      refine ⟨k, rfl, ?_⟩
      cases k with
      | true =>
        exact iteT (tG_imp (tK_bind (k := fun v x σd w => g' v x w) (m := mc) rep_mono ⟨s', σd, v, rfl, ok', re.mono ok ex, rv.mono ok ex, p'⟩) fun z' H4 ⟨s2, σ2, v2, x2, e2, ok2, _, r2, r3, p2⟩ => by
          subst e2
          exact hr' EK s2 y z' v2 x2 Q ok2 r2 r3 p2)
      | false => exact iteF (post_here ok' p' (.bl false))
    | _ => exact p'.elim
theorem se_chain {op op' : CmpOp} (ho : OpR X (compareOp op) r) (ho' : OpR X (compareOp op') r') (hr : GR X.K cl g r) (hr' : GR X.K cl g' r') (ha : SE X cl EK a ma) (hb : SE X cl EK b mb) (hc : SE X cl EK c mc)
    (hm : lastMarks [op, op'] [b, c] = false := by with_unfolding_all rfl) : SE X cl EK (.Compare a [op, op'] [b, c] pos) (mChain g g' ma mb mc) :=
  PE.weak (pe_chain ho ho' ha hb hc hm) fun σ H Q h => chain_core hr hr' h
theorem se_one {op} (ha : SE X cl EK a ma) : SE X cl EK (.BoolOp op [a] pos) ma := pe_one ha
theorem se_and (ha : SE X cl EK a ma) (hb : SE X cl EK (.BoolOp .And (b :: rest) pos) mb) : SE X cl EK (.BoolOp .And (a :: b :: rest) pos) (mAnd ma mb) :=
  PE.weak (pe_andT ha hb) fun σ H Q h => tG_imp (tG_bind h) fun x H1 ⟨s, σd, u, e, ok, re, ru, p⟩ => by
    subst e
    dsimp only at p
    split at p
    · rename_i e2
      exact ⟨true, tru_of ok ru e2, iteT (tG_of ok re p)⟩
    · rename_i e2
      exact ⟨false, tru_of ok ru e2, iteF (post_here ok p ru)⟩
    · exact p.elim
theorem se_not (ha : SE X cl EK a ma) : SE X cl EK (.UnaryOp .Not a pos) (mNot ma) :=
  PE.weak (pe_notT ha) fun σ H Q h => tG_imp (tG_bind h) fun x H1 ⟨s, σd, u, e, ok, re, ru, p⟩ => by
    subst e
    dsimp only at p
    split at p
    · rename_i k e2
      exact ⟨k, tru_of ok ru e2, post_here ok p (.bl _)⟩
    · exact p.elim
theorem st_truth (ha : SE X cl EK a ma) (he : ∀ whole, isTrue a X.env whole = (do let v ← whole; standAt a.pos; holding [v] (truthy v))) : ST X cl EK a (mTru ma) :=
  PT.weak (pt_truth ha he) fun σ H Q h => tG_imp (tG_bind h) fun x H1 ⟨s, σd, u, e, ok, re, ru, p⟩ => by
    subst e
    dsimp only at p
    split at p
    · rename_i k e2
      exact ⟨k, tru_of ok ru e2, p s k (Ext.refl s) ok rfl rfl⟩
    · exact p.elim
/-- a test within and, or -/
def SW (X : Cx) (cl : Str → Option Addr) (EK : XK) (e : Expr) (m : En → Wd → R Bool) : Prop := PW X e (tG X.K cl repB EK m)
theorem PW.weak {e : Expr} {t t' : TT} (h : PW X e t) (i : ∀ σ H Q, t' σ H Q → t σ H Q) : PW X e t' := ⟨fun wh pins s σ H Q I q => h.run wh pins s σ H Q I (i σ H Q q)⟩
theorem st_of {e : Expr} (h : SW X cl EK e na) : ST X cl EK e na := PW.pt h
theorem sw_and1 (ha : ST X cl EK a na) : SW X cl EK (.BoolOp .And [a] pos) na := pw_and1 ha
theorem sw_or1 (ha : ST X cl EK a na) : SW X cl EK (.BoolOp .Or [a] pos) na := pw_or1 ha
theorem tB_core {σ : L2.St} {H : Hp} {Q : Bool → Hp → Prop} {k : Bool → En → Wd → R Bool} {T : Bool → L2.St → Hp → Prop} (h : tG X.K cl repB EK (fun σd w => (na σd w).bind fun b w1 => k b σd w1) σ H Q)
    (i : ∀ b s σd, Ok X.K cl s → RepE X.K s σ σd → Post X.K cl repB EK s (k b σd s.w) Q → T b σ s.H) : tG X.K cl repB EK na σ H fun b H1 => T b σ H1 :=
  tG_imp (tG_bind h) fun x H1 ⟨s, σd, u, e, ok, re, ru, p⟩ => by
    subst e
    cases ru
    exact i x s σd ok re p
theorem sw_and (ha : ST X cl EK a na) (hb : SW X cl EK (.BoolOp .And (b :: rest) pos) nb) : SW X cl EK (.BoolOp .And (a :: b :: rest) pos) (bAnd na nb) :=
  PW.weak (pw_and ha hb) fun σ H Q h => tB_core (k := fun b σd w => match b with | true => nb σd w | false => .ok false w) (T := fun c σ H1 => if c = true then tG X.K cl repB EK nb σ H1 Q else Q false H1) h fun k s σd ok re p => by
    cases k with
    | true => exact iteT (tG_of ok re p)
    | false => exact iteF (p s false (Ext.refl s) ok rfl rfl)
theorem sw_or (ha : ST X cl EK a na) (hb : SW X cl EK (.BoolOp .Or (b :: rest) pos) nb) : SW X cl EK (.BoolOp .Or (a :: b :: rest) pos) (bOr na nb) :=
  PW.weak (pw_or ha hb) fun σ H Q h => tB_core (k := fun b σd w => match b with | true => .ok true w | false => nb σd w) (T := fun c σ H1 => if c = true then Q true H1 else tG X.K cl repB EK nb σ H1 Q) h fun k s σd ok re p => by
    cases k with
    | true => exact iteT (p s true (Ext.refl s) ok rfl rfl)
    | false => exact iteF (tG_of ok re p)
theorem st_not (ha : ST X cl EK a na) : ST X cl EK (.UnaryOp .Not a pos) (bNot na) :=
  PT.weak (pt_not ha) fun σ H Q h => tB_core (k := fun b σd w => .ok (!b) w) (T := fun c σ H1 => Q (!c) H1) h fun k s σd ok re p => p s (!k) (Ext.refl s) ok rfl rfl
theorem se_if (hc : ST X cl EK c nc) (ha : SE X cl EK a ma) (hb : SE X cl EK b mb) : SE X cl EK (.IfExp c a b pos) (mIf nc ma mb) :=
  PE.weak (pe_ifExp hc ha hb) fun σ H Q h => tG_imp (tG_bind (rep := repB) h) fun x H1 ⟨s, σd, u, e, ok, re, ru, p⟩ => by
    subst e
    cases ru
    cases x with
    | true => exact iteT (tG_of ok re p)
    | false => exact iteF (tG_of ok re p)
/-! ### argument lists, displays -/
variable {mas : En → Wd → R (List D)}
theorem sa_nil : SA X cl EK [] aNil := PA.weak pa_nil fun σ H Q h => by
  obtain ⟨s, σd, e, ok, re, p⟩ := h
  subst e
  exact p s [] (Ext.refl s) ok rfl .nil
theorem sa_cons (ha : SE X cl EK a ma) (hr : SA X cl EK es mas) (hs : starEach (a :: es) X.env = (false, eval a X.env) :: starEach es X.env := by rfl) : SA X cl EK (a :: es) (aCons ma mas) :=
  PA.weak (pa_cons ha hr hs) fun σ H Q h => tG_imp (tG_bind h) fun x H1 hk => tG_imp (tK_bind rep_mono hk) fun y H2 ⟨s, σd, u, v, e, ok, re, ru, rv, p⟩ => by
    subst e
    exact p s (x :: y) (Ext.refl s) ok rfl (.cons ru rv)
theorem se_tup {k : Nat} (h : SA X cl EK es mas) : SE X cl EK (.Tuple es k pos) (mTup mas) :=
  PE.weak (pe_tup h) fun σ H Q h => tG_imp (tG_bind h) fun x H1 ⟨s, σd, u, e, ok, re, ru, p⟩ => by
    subst e
    dsimp only at p
    split at p
    · rename_i hl
      exact ⟨by rw [ru.length, sizeLine_eq]; exact hl, post_newT ok p ru⟩
    · exact p.elim
theorem se_lst (h : SA X cl EK es mas) : SE X cl EK (.List es pos) (mLst mas) :=
  PE.weak (pe_lst h) fun σ H Q h => tG_imp (tG_bind h) fun x H1 ⟨s, σd, u, e, ok, re, ru, p⟩ => by
    subst e
    dsimp only at p
    split at p
    · rename_i hl
      exact ⟨by rw [ru.length, sizeLine_eq]; exact hl, post_newL ok p ru⟩
    · exact p.elim
theorem rep_cell {s : S} {q : Addr} {o : HO} {m : MO} (ok : Ok X.K cl s) : Rep X.K (s.cell q o m) (.ref q) (.obj s.w.length) := .obj (by
  show (s.ρ ++ [q])[s.w.length]? = some q
  rw [← ok.len, List.getElem?_append_right (Nat.le_refl _), Nat.sub_self]
  rfl)
theorem post_cellL {s : S} {vs : List V} {ds : List D} {Q : VK} (ok : Ok X.K cl s) (p : Post X.K cl (Rep X.K) EK s (.ok (.obj s.w.length) (s.w ++ [.lst ds])) Q) (r : RepA X.K s vs ds) : ∀ q, s.H q = none → Q (.ref q) (upd s.H q (.lst vs)) := fun q hq => by
  have ex : Ext s (s.cell q (.lst vs) (.lst ds)) := S.cell_ext ok hq
  exact p (s.cell q (.lst vs) (.lst ds)) _ ex (S.cell_ok ok hq ⟨vs, upd_same, r.mono ok ex⟩) rfl (rep_cell ok)
theorem se_lstM (h : SA X cl EK es mas) : SE X cl EK (.List es pos) (mLstM mas) :=
  PE.weak (pe_lst h) fun σ H Q h => tG_imp (tG_bind h) fun x H1 ⟨s, σd, u, e, ok, re, ru, p⟩ => by
    subst e
    dsimp only at p
    split at p
    · rename_i hl
      exact ⟨by rw [ru.length, sizeLine_eq]; exact hl, post_cellL ok p ru⟩
    · exact p.elim
end
end Si

set_option Elab.async false
set_option linter.all false
set_option autoImplicit false
set_option maxRecDepth 100000
set_option maxHeartbeats 4000000
/-! Si5: subscripts, slices, built-ins, isinstance. -/
namespace Si
open PySem L2
section
variable {K : PySem.W.Frag} {cl : Str → Option Addr} {s : S} {EK : XK}
/-! ### a[i] -/
def gIx : D → D → Wd → R D := fun u v w => match v with
  | .int i => match u with
    | .str z => if z.length ≤ 16777216 then (match atI z.cps.toList i with | some c => .ok (.str ⟨#[c]⟩) w | none => .stuck) else .stuck
    | .tup ds => match atI ds i with | some d => .ok d w | none => .stuck
    | u => match derefL u w with
      | some ds => match atI ds i with | some d => .ok d w | none => .stuck
      | none => .stuck
  | _ => .stuck
theorem atI_rep {vs : List V} {ds : List D} {i : Int} {d : D} (r : RepA K s vs ds) (h : atI ds i = some d) : ∃ v, atI vs i = some v ∧ Rep K s v d := by
  unfold atI at h ⊢
  rw [r.length]
  cases e : ixN ds.length i with
  | none => rw [e] at h; cases h
  | some j =>
    rw [e] at h
    obtain ⟨v, a, b⟩ := r.get (i := j) h
    exact ⟨v, a, b⟩
theorem gr_ix : GR K cl gIx (rIx K) := by
  intro EK s x y u v Q ok ru rv p
  unfold gIx at p
  split at p
  · rename_i i
    rw [rep_int rv]
    split at p
    · rename_i z
      rw [rep_str ru]
      split at p
      · rename_i hz
        split at p
        · rename_i c hc
          exact .inr (.inr ⟨z, i, c, rfl, rfl, by rw [sizeLine_eq]; exact hz, hc, post_here ok p (.str _)⟩)
        · exact p.elim
      · exact p.elim
    · rename_i ds
      obtain ⟨a, vs, rfl, h1, r⟩ := rep_tup ru
      split at p
      · rename_i d hd
        obtain ⟨w, h2, h3⟩ := atI_rep r hd
        exact .inr (.inl ⟨a, vs, i, w, rfl, rfl, h1, h2, post_here ok p h3⟩)
      · exact p.elim
    · split at p
      · rename_i ds hl
        obtain ⟨a, vs, rfl, h1, r⟩ := deref_of ok ru hl
        split at p
        · rename_i d hd
          obtain ⟨w, h2, h3⟩ := atI_rep r hd
          exact .inl ⟨a, vs, i, w, rfl, rfl, SqL.of h1, h2, post_here ok p h3⟩
        · exact p.elim
      · exact p.elim
  · exact p.elim
/-! ### a[i:j] -/
def cutD {α : Type} (xs : List α) (lo hi : Option Int) : List α := (xs.drop (HT.sIx xs.length 0 lo)).take (HT.sIx xs.length xs.length hi - HT.sIx xs.length 0 lo)
theorem cut_rep {vs : List V} {ds : List D} (r : RepA K s vs ds) (lo hi : Option Int) : RepA K s (cutV vs lo hi) (cutD ds lo hi) := by
  unfold cutV cutD
  rw [r.length]
  exact (r.drop _).take _
def gSl : D → Option Int → Option Int → Wd → R D := fun u lo hi w => match u with
  | .str z => if z.length ≤ 16777216 then .ok (.str (cutS z lo hi)) w else .stuck
  | .tup ds => .ok (.tup (cutD ds lo hi)) w
  | .scr ns => .ok (.lst ((cutD ns lo hi).map D.int)) w
  | u => match derefL u w with
    | some ds => .ok (.lst (cutD ds lo hi)) w
    | none => .stuck
def rSl (K : PySem.W.Frag) : V → Option Int → Option Int → Hp → VK → Prop := fun x lo hi H Q => rSlL K x lo hi H Q ∨ (rSlA K x lo hi H Q ∨ rSlS x lo hi H Q)
theorem repA_ints (ns : List Int) : RepA K s (ns.map V.int) (ns.map D.int) := by
  induction ns with
  | nil => exact .nil
  | cons n r ih => exact .cons (.int n) ih
theorem cut_all {α : Type} {xs : List α} {lo hi : Option Int} (h : HT.sIx xs.length 0 lo = 0 ∧ HT.sIx xs.length xs.length hi = xs.length) : cutD xs lo hi = xs := by
  unfold cutD
  rw [h.1, h.2, List.drop_zero, Nat.sub_zero, List.take_length]
theorem sl_core {x : V} {u : D} {lo hi : Option Int} {Q : VK} (ok : Ok K cl s) (ru : Rep K s x u) (p : Post K cl (Rep K) EK s (gSl u lo hi s.w) Q) : rSl K x lo hi s.H Q := by
  unfold gSl at p
  split at p
  · rename_i z
    rw [rep_str ru]
    split at p
    · rename_i hz
      exact .inr (.inr ⟨z, rfl, by rw [sizeLine_eq]; exact hz, post_here ok p (.str _)⟩)
    · exact p.elim
  · rename_i ds
    have ru' := ru
    obtain ⟨a, vs, rfl, h1, r⟩ := rep_tup ru
    refine .inr (.inl ⟨a, vs, rfl, h1, fun hw => ?_, fun _ => post_newT ok p (cut_rep r lo hi)⟩)
    rw [r.length] at hw
    rw [cut_all hw] at p
    exact post_here ok p ru'
  · rename_i ns
    cases ru with
    | scr hH =>
      refine .inl ⟨_, ns.map V.int, rfl, SqL.ofS hH, ?_⟩
      have e : cutV (ns.map V.int) lo hi = (cutD ns lo hi).map V.int := by
        unfold cutV cutD
        rw [List.length_map, ← List.map_drop, ← List.map_take]
      rw [e]
      exact post_newL ok p (repA_ints _)
  · split at p
    · rename_i ds hl
      obtain ⟨a, vs, rfl, h1, r⟩ := deref_of ok ru hl
      exact .inl ⟨a, vs, rfl, SqL.of h1, post_newL ok p (cut_rep r lo hi)⟩
    · exact p.elim
/-! ### built-ins -/
def GC (K : PySem.W.Frag) (cl : Str → Option Addr) (g : List D → Wd → R D) (r : List V → Hp → VK → Prop) : Prop :=
  ∀ (EK : XK) (s : S) (xs : List V) (us : List D) (Q : VK), Ok K cl s → RepA K s xs us → Post K cl (Rep K) EK s (g us s.w) Q → r xs s.H Q
theorem repA1 {xs : List V} {u : D} (r : RepA K s xs [u]) : ∃ x, xs = [x] ∧ Rep K s x u := by
  cases r with
  | cons h r => cases r; exact ⟨_, rfl, h⟩
theorem repA2 {xs : List V} {u v : D} (r : RepA K s xs [u, v]) : ∃ x y, xs = [x, y] ∧ Rep K s x u ∧ Rep K s y v := by
  cases r with
  | cons h r =>
    obtain ⟨y, rfl, h2⟩ := repA1 r
    exact ⟨_, y, rfl, h, h2⟩
def gLen : List D → Wd → R D := fun us w => match us with
  | [.str z] => if z.length ≤ 16777216 then .ok (.int z.length) w else .stuck
  | [.tup ds] => .ok (.int ds.length) w
  | [u] => match derefL u w with
    | some ds => .ok (.int ds.length) w
    | none => .stuck
  | _ => .stuck
def rLn (K : PySem.W.Frag) : List V → Hp → VK → Prop := fun xs H Q => ∃ x n, xs = [x] ∧ LenV K x H n ∧ Q (.int n) H
theorem gc_len : GC K cl gLen (rLn K) := by
  intro EK s xs us Q ok r p
  unfold gLen at p
  split at p
  · rename_i z
    obtain ⟨x, rfl, h⟩ := repA1 r
    rw [rep_str h]
    split at p
    · rename_i hz
      exact ⟨_, _, rfl, ⟨by rw [sizeLine_eq]; exact hz, rfl⟩, post_here ok p (.int _)⟩
    · exact p.elim
  · rename_i ds
    obtain ⟨x, rfl, h⟩ := repA1 r
    obtain ⟨a, vs, rfl, h1, r1⟩ := rep_tup h
    exact ⟨_, ds.length, rfl, .inr ⟨vs, h1, r1.length.symm⟩, post_here ok p (.int _)⟩
  · rename_i u _ _
    obtain ⟨x, rfl, h⟩ := repA1 r
    split at p
    · rename_i ds hl
      obtain ⟨a, vs, rfl, h1, r1⟩ := deref_of ok h hl
      exact ⟨_, ds.length, rfl, .inl ⟨vs, SqL.of h1, r1.length.symm⟩, post_here ok p (.int _)⟩
    · exact p.elim
  · exact p.elim
def gInt : List D → Wd → R D := fun us w => match us with
  | [.int i] => .ok (.int i) w
  | [.bl k] => .ok (.int (if k then 1 else 0)) w
  | _ => .stuck
def rInt1 : List V → Hp → VK → Prop := fun xs H Q => (∃ i, xs = [.int i] ∧ Q (.int i) H) ∨ ∃ k, xs = [.bl k] ∧ Q (.int (if k then 1 else 0)) H
theorem gc_int : GC K cl gInt rInt1 := by
  intro EK s xs us Q ok r p
  unfold gInt at p
  split at p
  · obtain ⟨x, rfl, h⟩ := repA1 r
    rw [rep_int h]
    exact .inl ⟨_, rfl, post_here ok p (.int _)⟩
  · obtain ⟨x, rfl, h⟩ := repA1 r
    rw [rep_bl h]
    exact .inr ⟨_, rfl, post_here ok p (.int _)⟩
  · exact p.elim
def gAbs : List D → Wd → R D := fun us w => match us with
  | [.int i] => .ok (.int (if i < 0 then -i else i)) w
  | _ => .stuck
def rAbs1 : List V → Hp → VK → Prop := fun xs H Q => ∃ i, xs = [.int i] ∧ Q (.int (if i < 0 then -i else i)) H
theorem gc_abs : GC K cl gAbs rAbs1 := by
  intro EK s xs us Q ok r p
  unfold gAbs at p
  split at p
  · obtain ⟨x, rfl, h⟩ := repA1 r
    rw [rep_int h]
    exact ⟨_, rfl, post_here ok p (.int _)⟩
  · exact p.elim
def gMax2 : List D → Wd → R D := fun us w => match us with
  | [.int i, .int j] => .ok (.int (if j > i then j else i)) w
  | _ => .stuck
def gMin2 : List D → Wd → R D := fun us w => match us with
  | [.int i, .int j] => .ok (.int (if j < i then j else i)) w
  | _ => .stuck
/-- list(..), tuple(..) of a list or tuple: new ones -/
def gTupOf : List D → Wd → R D := fun us w => match us with
  | [.tup ds] => .ok (.tup ds) w
  | [u] => match derefL u w with
    | some ds => .ok (.tup ds) w
    | none => .stuck
  | _ => .stuck
def rTupOf (K : PySem.W.Frag) : List V → Hp → VK → Prop := fun xs H Q => ∃ p ys, xs = [.ref p] ∧ ((SqL K H p ys ∧ ∀ l, H l = none → Q (.ref l) (upd H l (.tup ys))) ∨ (SqT K H p ys ∧ Q (.ref p) H))
theorem gc_tupOf : GC K cl gTupOf (rTupOf K) := by
  intro EK s xs us Q ok r p
  unfold gTupOf at p
  split at p
  · obtain ⟨x, rfl, h⟩ := repA1 r
    have h' := h
    obtain ⟨a, vs, rfl, h1, r1⟩ := rep_tup h
    exact ⟨a, vs, rfl, .inr ⟨h1, post_here ok p h'⟩⟩
  · obtain ⟨x, rfl, h⟩ := repA1 r
    split at p
    · rename_i ds hl
      obtain ⟨a, vs, rfl, h1, r1⟩ := deref_of ok h hl
      exact ⟨a, vs, rfl, .inl ⟨SqL.of h1, post_newT ok p r1⟩⟩
    · exact p.elim
  · exact p.elim
def seqD (u : D) (w : Wd) : Option (List D) := match u with
  | .tup ds => some ds
  | u => derefL u w
theorem seq_of {v : V} {u : D} {ds : List D} (ok : Ok K cl s) (r : Rep K s v u) (h : seqD u s.w = some ds) : ∃ a vs, v = .ref a ∧ (SqL K s.H a vs ∨ SqT K s.H a vs) ∧ RepA K s vs ds := by
  unfold seqD at h
  split at h
  · cases h
    obtain ⟨a, vs, e, h1, h2⟩ := rep_tup r
    exact ⟨a, vs, e, .inr h1, h2⟩
  · obtain ⟨a, vs, e, h1, h2⟩ := deref_of ok r h
    exact ⟨a, vs, e, .inl (SqL.of h1), h2⟩
def gLstOf : List D → Wd → R D := fun us w => match us with
  | [u] => match seqD u w with
    | some ds => .ok (.lst ds) w
    | none => .stuck
  | _ => .stuck
def gLstOfM : List D → Wd → R D := fun us w => match us with
  | [u] => match seqD u w with
    | some ds => .ok (.obj w.length) (w ++ [.lst ds])
    | none => .stuck
  | _ => .stuck
def rLstOf (K : PySem.W.Frag) : List V → Hp → VK → Prop := fun xs H Q => ∃ p ys, xs = [.ref p] ∧ (SqL K H p ys ∨ SqT K H p ys) ∧ ∀ l, H l = none → Q (.ref l) (upd H l (.lst ys))
theorem gc_lstOf : GC K cl gLstOf (rLstOf K) := by
  intro EK s xs us Q ok r p
  unfold gLstOf at p
  split at p
  · obtain ⟨x, rfl, h⟩ := repA1 r
    split at p
    · rename_i ds hl
      obtain ⟨a, vs, rfl, h1, r1⟩ := seq_of ok h hl
      exact ⟨a, vs, rfl, h1, post_newL ok p r1⟩
    · exact p.elim
  · exact p.elim
/-- all, any of a list of bools; sum of a list of ints -/
def blA : List D → Option (List Bool)
  | [] => some []
  | .bl b :: r => (blA r).map (b :: ·)
  | _ :: _ => none
def inA : List D → Option (List Int)
  | [] => some []
  | .int b :: r => (inA r).map (b :: ·)
  | _ :: _ => none
theorem blA_of : ∀ {vs : List V} {ds : List D} {bs : List Bool}, RepA K s vs ds → blA ds = some bs → vs = bs.map V.bl
  | _, _, _, .nil, h => by cases h; rfl
  | _, _, bs, .cons (d := d) h r, e => by
    cases h with
    | bl b =>
      rw [blA] at e
      cases q : blA _ with
      | none => rw [q] at e; cases e
      | some l =>
        rw [q] at e
        cases e
        rw [blA_of r q]
        rfl
    | _ => cases e
theorem inA_of : ∀ {vs : List V} {ds : List D} {bs : List Int}, RepA K s vs ds → inA ds = some bs → vs = bs.map V.int
  | _, _, _, .nil, h => by cases h; rfl
  | _, _, bs, .cons (d := d) h r, e => by
    cases h with
    | int b =>
      rw [inA] at e
      cases q : inA _ with
      | none => rw [q] at e; cases e
      | some l =>
        rw [q] at e
        cases e
        rw [inA_of r q]
        rfl
    | _ => cases e
def gAll : List D → Wd → R D := fun us w => match us with
  | [u] => match (derefL u w).bind blA with
    | some bs => .ok (.bl (bs.all id)) w
    | none => .stuck
  | _ => .stuck
def gAny : List D → Wd → R D := fun us w => match us with
  | [u] => match (derefL u w).bind blA with
    | some bs => .ok (.bl (bs.any id)) w
    | none => .stuck
  | _ => .stuck
def gSum : List D → Wd → R D := fun us w => match us with
  | [u] => match (derefL u w).bind inA with
    | some ns => .ok (.int ns.sum) w
    | none => .stuck
  | _ => .stuck
theorem bl_deref {v : V} {u : D} {bs : List Bool} (ok : Ok K cl s) (r : Rep K s v u) (h : (derefL u s.w).bind blA = some bs) : ∃ a, v = .ref a ∧ SqL K s.H a (bs.map V.bl) := by
  cases q : derefL u s.w with
  | none => rw [q] at h; cases h
  | some ds =>
    rw [q] at h
    obtain ⟨a, vs, e, h1, r1⟩ := deref_of ok r q
    rw [blA_of r1 h] at h1
    exact ⟨a, e, SqL.of h1⟩
theorem in_deref {v : V} {u : D} {bs : List Int} (ok : Ok K cl s) (r : Rep K s v u) (h : (derefL u s.w).bind inA = some bs) : ∃ a, v = .ref a ∧ SqL K s.H a (bs.map V.int) := by
  cases q : derefL u s.w with
  | none => rw [q] at h; cases h
  | some ds =>
    rw [q] at h
    obtain ⟨a, vs, e, h1, r1⟩ := deref_of ok r q
    rw [inA_of r1 h] at h1
    exact ⟨a, e, SqL.of h1⟩
theorem gc_all : GC K cl gAll (rAll K) := by
  intro EK s xs us Q ok r p
  unfold gAll at p
  split at p
  · obtain ⟨x, rfl, h⟩ := repA1 r
    split at p
    · rename_i bs hl
      obtain ⟨a, rfl, h1⟩ := bl_deref ok h hl
      exact ⟨a, bs, rfl, h1, post_here ok p (.bl _)⟩
    · exact p.elim
  · exact p.elim
theorem gc_any : GC K cl gAny (rAny K) := by
  intro EK s xs us Q ok r p
  unfold gAny at p
  split at p
  · obtain ⟨x, rfl, h⟩ := repA1 r
    split at p
    · rename_i bs hl
      obtain ⟨a, rfl, h1⟩ := bl_deref ok h hl
      exact ⟨a, bs, rfl, h1, post_here ok p (.bl _)⟩
    · exact p.elim
  · exact p.elim
theorem gc_sum : GC K cl gSum (rSum K) := by
  intro EK s xs us Q ok r p
  unfold gSum at p
  split at p
  · obtain ⟨x, rfl, h⟩ := repA1 r
    split at p
    · rename_i bs hl
      obtain ⟨a, rfl, h1⟩ := in_deref ok h hl
      exact ⟨a, bs, rfl, h1, post_here ok p (.int _)⟩
    · exact p.elim
  · exact p.elim
/-! ### isinstance with built-in types -/
def tyD (u : D) (w : Wd) : Option String := match u with
  | .non => some "NoneType"
  | .bl _ => some "bool"
  | .int _ => some "int"
  | .str _ => some "str"
  | .lst _ => some "list"
  | .tup _ => some "tuple"
  | .scr _ => some "list"
  | .obj n => match w[n]? with
    | some (.lst _) => some "list"
    | _ => none
def isB (t T : String) : Bool := t == T || (t == "bool" && T == "int")
theorem tyD_of {v : V} {u : D} {t : String} (ok : Ok K cl s) (r : Rep K s v u) (h : tyD u s.w = some t) : TyX K s.H v (.type t) := by
  cases r with
  | non => cases h; exact .base .non
  | bl b => cases h; exact .base (.bl b)
  | int i => cases h; exact .base (.int i)
  | str z => cases h; exact .base (.str z)
  | lst hF hH rr => cases h; exact .base (.lst hH)
  | tup hH rr =>
    cases h
    rcases hH with ⟨_, hH⟩ | ⟨o, its, n, h1, h2, _⟩
    · exact .base (.tup hH)
    · exact .kTuple h1 h2
  | obj hn =>
    rename_i a n
    unfold tyD at h
    dsimp only at h
    split at h
    · rename_i ds hw
      cases h
      obtain ⟨vs, h1, h2⟩ := ok.cell n _ _ hn hw
      exact .base (.lst h1)
    · cases h
  | scr hH =>
    cases h
    rcases hH with ⟨_, o, hH⟩ | ⟨o, its, n, h1, h2, _⟩
    · exact .base (.frz hH)
    · exact .kList h1 h2
theorem kit_isB {t : String} {u : D} {w : Wd} (h : tyD u w = some t) {T : String} (hT : T = "int" ∨ T = "bool" ∨ T = "str" ∨ T = "list" ∨ T = "tuple") : kitB t T = some (isB t T) := by
  have ht : t = "NoneType" ∨ t = "bool" ∨ t = "int" ∨ t = "str" ∨ t = "list" ∨ t = "tuple" := by
    unfold tyD at h
    split at h
    all_goals first
      | (cases h; simp; done)
      | (split at h <;> first | (cases h; simp; done) | (cases h; done))
  rcases ht with rfl | rfl | rfl | rfl | rfl | rfl <;> rcases hT with rfl | rfl | rfl | rfl | rfl <;> decide +kernel
end
def mIsi (T : String) (ma : En → Wd → R D) : En → Wd → R D := fun σd w => (ma σd w).bind fun u w1 => match tyD u w1 with
  | some t => .ok (.bl (isB t T)) w1
  | none => .stuck
def mIsi2 (T T2 : String) (ma : En → Wd → R D) : En → Wd → R D := fun σd w => (ma σd w).bind fun u w1 => match tyD u w1 with
  | some t => .ok (.bl (isB t T || isB t T2)) w1
  | none => .stuck
def mCall (g : List D → Wd → R D) (ma : En → Wd → R (List D)) : En → Wd → R D := fun σd w => (ma σd w).bind fun us w1 => g us w1
section
variable {X : Cx} {cl : Str → Option Addr} {EK : XK} {a b c : Expr} {ma mb mc : En → Wd → R D} {mas : En → Wd → R (List D)} {pos p : Pos} {es : List Expr} {g : List D → Wd → R D} {r : List V → Hp → VK → Prop} {x : Str} {id : String}
theorem se_ix (ha : SE X cl EK a ma) (hb : SE X cl EK b mb) (hs : PlainIx b) : SE X cl EK (.Subscript a b pos) (mOp gIx ma mb) := PE.weak (pe_ix ix_seq ha hb hs) fun σ H Q h => op_core gr_ix h
/-! the parts of a slice -/
abbrev repI : S → Option Int → Option Int → Prop := fun _ a b => a = b
def SO (X : Cx) (cl : Str → Option Addr) (EK : XK) (e : Option Expr) (m : En → Wd → R (Option Int)) : Prop := PO X e (tG X.K cl repI EK m)
theorem PO.weak {e : Option Expr} {t t' : TO} (h : PO X e t) (i : ∀ σ H Q, t' σ H Q → t σ H Q) : PO X e t' := ⟨fun pins s σ H Q I q => h.run pins s σ H Q I (i σ H Q q)⟩
def oNone : En → Wd → R (Option Int) := fun _ w => .ok none w
def oSome (ma : En → Wd → R D) : En → Wd → R (Option Int) := fun σd w => (ma σd w).bind fun u w1 => match u with | .int i => .ok (some i) w1 | _ => .stuck
theorem so_none : SO X cl EK none oNone := PO.weak po_none fun σ H Q h => by
  obtain ⟨s, σd, e, ok, re, p⟩ := h
  subst e
  exact p s none (Ext.refl s) ok rfl rfl
theorem so_some (ha : SE X cl EK a ma) : SO X cl EK (some a) (oSome ma) := PO.weak (po_some ha) fun σ H Q h => tG_imp (tG_bind h) fun x H1 ⟨s, σd, u, e, ok, re, ru, p⟩ => by
  subst e
  dsimp only at p
  split at p
  · rename_i i
    rw [rep_int ru]
    exact ⟨i, rfl, p s (some i) (Ext.refl s) ok rfl rfl⟩
  · exact p.elim
def mSl (ma : En → Wd → R D) (ml mh : En → Wd → R (Option Int)) : En → Wd → R D := fun σd w => (ma σd w).bind fun u w1 => (ml σd w1).bind fun lo w2 => (mh σd w2).bind fun hi w3 => gSl u lo hi w3
theorem sl_all : SlR X (rSl X.K) := SlR.or sl_list (SlR.or sl_tupA sl_str)
theorem se_slice {lo hi : Option Expr} {ml mh : En → Wd → R (Option Int)} {p2 : Pos} (ha : SE X cl EK a ma) (hl : SO X cl EK lo ml) (hh : SO X cl EK hi mh) : SE X cl EK (.Subscript a (.Slice lo hi none p2) pos) (mSl ma ml mh) :=
  PE.weak (pe_slice sl_all ha hl hh) fun σ H Q h => tG_imp (tG_bind h) fun x H1 hk => tG_imp (tK_bind (rep' := repI) rep_mono hk) fun l H2 ⟨s, σd, u, lo', e, ok, re, ru, rl, p⟩ => by
    subst e
    cases rl
    obtain ⟨s0, σ0, e0, ok0, re0, p0⟩ := tK_bind (rep := Rep X.K) (rep' := repI) (rep'' := Rep X.K) (k := fun u hi _ w => gSl u l hi w) (m := mh) rep_mono ⟨s, σd, u, rfl, ok, re, ru, p⟩
    refine ⟨s0, σ0, e0, ok0, re0, p0.imp fun h3 H3 ⟨s2, σ2, u2, hi2, e2, ok2, _, r2, r3, p2⟩ => ?_⟩
    subst e2
    cases r3
    exact sl_core ok2 r2 p2
/-! calls of built-ins -/
theorem se_call (hc : CallR X (.builtin id) r) (hr : GC X.K cl g r) (hg : Gl X x) (hm : X.mg x = none) (hv : bootBuiltins x = some (.builtin id)) (ha : SA X cl EK (a :: es) mas) (hn : x ≠ "__name__" := by decide) (hdb : (x == ("__debug__" : Str)) = false := by decide) (he : starEach (a :: es) X.env = (false, eval a X.env) :: starEach es X.env := by rfl) (hpl : (backTo pos (starEach es X.env)).any (·.1) = false := by rfl)
    : SE X cl EK (.Call (.Name x p) (a :: es) [] pos) (mCall g mas) :=
  PE.weak (pe_callB hc hg hm hv ha hn hdb he hpl) fun σ H Q h => tG_imp (tG_bind h) fun xs H1 ⟨s, σd, u, e, ok, re, ru, p⟩ => by
    subst e
    exact hr EK s xs u Q ok ru p
theorem se_callT (hc : CallR X (.type id) r) (hr : GC X.K cl g r) (hg : Gl X x) (hm : X.mg x = none) (hv : bootBuiltins x = some (.type id)) (ha : SA X cl EK (a :: es) mas) (hn : x ≠ "__name__" := by decide) (hdb : (x == ("__debug__" : Str)) = false := by decide) (he : starEach (a :: es) X.env = (false, eval a X.env) :: starEach es X.env := by rfl) (hpl : (backTo pos (starEach es X.env)).any (·.1) = false := by rfl)
    : SE X cl EK (.Call (.Name x p) (a :: es) [] pos) (mCall g mas) :=
  PE.weak (pe_callTy hc hg hm hv ha hn hdb he hpl) fun σ H Q h => tG_imp (tG_bind h) fun xs H1 ⟨s, σd, u, e, ok, re, ru, p⟩ => by
    subst e
    exact hr EK s xs u Q ok ru p
theorem se_len (hg : Gl X "len") (hm : X.mg "len" = none) (ha : SA X cl EK (a :: es) mas) (he : starEach (a :: es) X.env = (false, eval a X.env) :: starEach es X.env := by rfl) (hpl : (backTo pos (starEach es X.env)).any (·.1) = false := by rfl) : SE X cl EK (.Call (.Name "len" p) (a :: es) [] pos) (mCall gLen mas) := se_call call_len gc_len hg hm (by decide +kernel) ha (by decide) (by decide) he hpl
theorem se_all (hc : X.calm = true) (hg : Gl X "all") (hm : X.mg "all" = none) (ha : SA X cl EK (a :: es) mas) (he : starEach (a :: es) X.env = (false, eval a X.env) :: starEach es X.env := by rfl) (hpl : (backTo pos (starEach es X.env)).any (·.1) = false := by rfl) : SE X cl EK (.Call (.Name "all" p) (a :: es) [] pos) (mCall gAll mas) := se_call (cr_all hc) gc_all hg hm (by decide +kernel) ha (by decide) (by decide) he hpl
theorem se_any (hc : X.calm = true) (hg : Gl X "any") (hm : X.mg "any" = none) (ha : SA X cl EK (a :: es) mas) (he : starEach (a :: es) X.env = (false, eval a X.env) :: starEach es X.env := by rfl) (hpl : (backTo pos (starEach es X.env)).any (·.1) = false := by rfl) : SE X cl EK (.Call (.Name "any" p) (a :: es) [] pos) (mCall gAny mas) := se_call (cr_any hc) gc_any hg hm (by decide +kernel) ha (by decide) (by decide) he hpl
theorem se_sum (hc : X.calm = true) (hg : Gl X "sum") (hm : X.mg "sum" = none) (ha : SA X cl EK (a :: es) mas) (he : starEach (a :: es) X.env = (false, eval a X.env) :: starEach es X.env := by rfl) (hpl : (backTo pos (starEach es X.env)).any (·.1) = false := by rfl) : SE X cl EK (.Call (.Name "sum" p) (a :: es) [] pos) (mCall gSum mas) := se_call (cr_sum hc) gc_sum hg hm (by decide +kernel) ha (by decide) (by decide) he hpl
theorem se_absC (hg : Gl X "abs") (hm : X.mg "abs" = none) (ha : SA X cl EK (a :: es) mas) (he : starEach (a :: es) X.env = (false, eval a X.env) :: starEach es X.env := by rfl) (hpl : (backTo pos (starEach es X.env)).any (·.1) = false := by rfl) : SE X cl EK (.Call (.Name "abs" p) (a :: es) [] pos) (mCall gAbs mas) := se_call call_abs gc_abs hg hm (by decide +kernel) ha (by decide) (by decide) he hpl
theorem se_intC (hg : Gl X "int") (hm : X.mg "int" = none) (ha : SA X cl EK (a :: es) mas) (he : starEach (a :: es) X.env = (false, eval a X.env) :: starEach es X.env := by rfl) (hpl : (backTo pos (starEach es X.env)).any (·.1) = false := by rfl) : SE X cl EK (.Call (.Name "int" p) (a :: es) [] pos) (mCall gInt mas) := se_callT call_int1 gc_int hg hm (by decide +kernel) ha (by decide) (by decide) he hpl
theorem se_listC (hg : Gl X "list") (hm : X.mg "list" = none) (ha : SA X cl EK (a :: es) mas) (he : starEach (a :: es) X.env = (false, eval a X.env) :: starEach es X.env := by rfl) (hpl : (backTo pos (starEach es X.env)).any (·.1) = false := by rfl) : SE X cl EK (.Call (.Name "list" p) (a :: es) [] pos) (mCall gLstOf mas) := se_callT call_list_of gc_lstOf hg hm (by decide +kernel) ha (by decide) (by decide) he hpl
theorem se_tupleC (hg : Gl X "tuple") (hm : X.mg "tuple" = none) (ha : SA X cl EK (a :: es) mas) (he : starEach (a :: es) X.env = (false, eval a X.env) :: starEach es X.env := by rfl) (hpl : (backTo pos (starEach es X.env)).any (·.1) = false := by rfl) : SE X cl EK (.Call (.Name "tuple" p) (a :: es) [] pos) (mCall gTupOf mas) := se_callT call_tuple_of gc_tupOf hg hm (by decide +kernel) ha (by decide) (by decide) he hpl
/-! isinstance -/
theorem se_isi {T : Str} {T' : String} {pT : Pos} (ha : SE X cl EK a ma) (hg : Gl X "isinstance") (hm : X.mg "isinstance" = none) (hgT : Gl X T) (hmT : X.mg T = none) (hv : bootBuiltins T = some (.type T')) (hT : T' = "int" ∨ T' = "bool" ∨ T' = "str" ∨ T' = "list" ∨ T' = "tuple")
    (hn : T ≠ "__name__" := by decide) (hd : (T == ("__debug__" : Str)) = false := by decide) (hs1 : starEach [a, .Name T pT] X.env = (false, eval a X.env) :: starEach [.Name T pT] X.env := by rfl) (hs2 : starEach [.Name T pT] X.env = (false, eval (.Name T pT) X.env) :: starEach [] X.env := by rfl) (hpl : (backTo pos (starEach [.Name T pT] X.env)).any (·.1) = false := by rfl) :
    SE X cl EK (.Call (.Name "isinstance" p) [a, .Name T pT] [] pos) (mIsi T' ma) :=
  PE.weak (pe_callB call_isi hg hm (by decide +kernel) (pa_cons ha (pa_cons (pe_bltn (v := .ty T') hgT hmT hv rfl hn hd) pa_nil hs2) hs1) (by decide) (by decide) hs1 hpl) fun σ H Q h => tG_imp (tG_bind h) fun xs H1 ⟨s, σd, u, e, ok, re, ru, p⟩ => by
    subst e
    dsimp only at p
    split at p
    · rename_i t ht
      exact ⟨xs, .ty T', .type t, .type T', _, rfl, .ty T', tyD_of ok ru ht, kit_ty (kit_isB ht hT), post_here ok p (.bl _)⟩
    · exact p.elim
theorem se_isi2 {T U : Str} {T' U' : String} {pT pU pp : Pos} {kk : Nat} (ha : SE X cl EK a ma) (hg : Gl X "isinstance") (hm : X.mg "isinstance" = none) (hgT : Gl X T) (hmT : X.mg T = none) (hv : bootBuiltins T = some (.type T')) (hT : T' = "int" ∨ T' = "bool" ∨ T' = "str" ∨ T' = "list" ∨ T' = "tuple")
    (hgU : Gl X U) (hmU : X.mg U = none) (hvU : bootBuiltins U = some (.type U')) (hU : U' = "int" ∨ U' = "bool" ∨ U' = "str" ∨ U' = "list" ∨ U' = "tuple")
    (hn : T ≠ "__name__" := by decide) (hd : (T == ("__debug__" : Str)) = false := by decide) (hnU : U ≠ "__name__" := by decide) (hdU : (U == ("__debug__" : Str)) = false := by decide)
    (hs1 : starEach [a, .Tuple [.Name T pT, .Name U pU] kk pp] X.env = (false, eval a X.env) :: starEach [.Tuple [.Name T pT, .Name U pU] kk pp] X.env := by rfl) (hs2 : starEach [.Tuple [.Name T pT, .Name U pU] kk pp] X.env = (false, eval (.Tuple [.Name T pT, .Name U pU] kk pp) X.env) :: starEach [] X.env := by rfl)
    (hs3 : starEach [.Name T pT, .Name U pU] X.env = (false, eval (.Name T pT) X.env) :: starEach [.Name U pU] X.env := by rfl) (hs4 : starEach [.Name U pU] X.env = (false, eval (.Name U pU) X.env) :: starEach [] X.env := by rfl) (hpl : (backTo pos (starEach [.Tuple [.Name T pT, .Name U pU] kk pp] X.env)).any (·.1) = false := by rfl) :
    SE X cl EK (.Call (.Name "isinstance" p) [a, .Tuple [.Name T pT, .Name U pU] kk pp] [] pos) (mIsi2 T' U' ma) :=
  PE.weak (pe_callB call_isiT hg hm (by decide +kernel) (pa_cons ha (pa_cons (pe_tup (pa_cons (pe_bltn (v := .ty T') hgT hmT hv rfl hn hd) (pa_cons (pe_bltn (v := .ty U') hgU hmU hvU rfl hnU hdU) pa_nil hs4) hs3)) pa_nil hs2) hs1) (by decide) (by decide) hs1 hpl) fun σ H Q h => tG_imp (tG_bind h) fun xs H1 ⟨s, σd, u, e, ok, re, ru, p⟩ => by
    subst e
    dsimp only at p
    split at p
    · rename_i t ht
      refine ⟨by rw [sizeLine_eq]; show 2 ≤ 16777216; decide, fun q hq => ?_⟩
      have ex : Ext s (s.frz q (.tup [.ty T', .ty U'])) := S.frz_ext hq
      have ok2 := S.frz_ok (o := .tup [.ty T', .ty U']) ok hq
      refine ⟨xs, q, [.ty T', .ty U'], .type t, [.type T', .type U'], (isB t T' || isB t U'), rfl, upd_same, .cons (.ty T') (.cons (.ty U') .nil), ?_, ?_, ?_⟩
      · exact tyD_of (s := s.frz q (.tup [.ty T', .ty U'])) ok2 (ru.mono ok ex) ht
      · refine kitAny_cons (kit_ty (kit_isB ht hT)) (fun h1 => kitAny_cons (kit_ty (kit_isB ht hU)) (fun h2 => ?_) fun h2 => ?_) fun h1 => ?_
        · rw [h1, h2]; rfl
        · rw [h1, h2]; rfl
        · rw [h1]; rfl
      · exact p _ _ ex ok2 rfl (.bl _)
    · exact p.elim
end
end Si

set_option Elab.async false
set_option linter.all false
set_option autoImplicit false
set_option maxRecDepth 100000
set_option maxHeartbeats 4000000
/-! Si6: statements, loops, comprehensions, defs. -/
namespace Si
open PySem L2
inductive SR where
  | next (σ : En) (w : Wd) | ret (d : D) (w : Wd) | brk (σ : En) (w : Wd) | cnt (σ : En) (w : Wd)
  | err (c : Str) (fs : List (Str × D)) (w : Wd) | stuck
def PostS (K : PySem.W.Frag) (cl : Str → Option Addr) (EK : XK) (s : S) (r : SR) (Dn : Ends) : Prop := match r with
  | .next σd w => ∀ s' σ', Ext s s' → Ok K cl s' → s'.w = w → RepE K s' σ' σd → Dn.nx σ' s'.H
  | .ret d w => ∀ s' v, Ext s s' → Ok K cl s' → s'.w = w → Rep K s' v d → Dn.rt v s'.H
  | .brk σd w => ∀ s' σ', Ext s s' → Ok K cl s' → s'.w = w → RepE K s' σ' σd → Dn.bk σ' s'.H
  | .cnt σd w => ∀ s' σ', Ext s s' → Ok K cl s' → s'.w = w → RepE K s' σ' σd → Dn.ct σ' s'.H
  | .err c fs w => ∀ s' cls dd, Ext s s' → Ok K cl s' → s'.w = w → RepX K cl s' cls dd c fs → EK cls dd s'.H
  | .stuck => False
def R.toS {α : Type} (r : R α) (k : α → Wd → SR) : SR := match r with
  | .ok a w => k a w
  | .err c fs w => .err c fs w
  | .stuck => .stuck
section
variable {K : PySem.W.Frag} {cl : Str → Option Addr} {s s1 : S} {EK : XK}
theorem PostS.ext {r : SR} {Dn : Ends} (e : Ext s s1) (h : PostS K cl EK s r Dn) : PostS K cl EK s1 r Dn := by
  cases r with
  | next σd w => exact fun s' v e' o q rp => h s' v (e.trans e') o q rp
  | ret σd w => exact fun s' v e' o q rp => h s' v (e.trans e') o q rp
  | brk σd w => exact fun s' v e' o q rp => h s' v (e.trans e') o q rp
  | cnt σd w => exact fun s' v e' o q rp => h s' v (e.trans e') o q rp
  | err c fs w => exact fun s' x dd e' o q rp => h s' x dd (e.trans e') o q rp
  | stuck => exact h
/-- a value, then a statement's rest -/
theorem posts_bind {α β : Type} {rep : S → β → α → Prop} {r : R α} {k : α → Wd → SR} {Dn : Ends} {Q1 : β → Hp → Prop} (p : PostS K cl EK s (r.toS k) Dn)
    (h : ∀ s' v a, Ext s s' → Ok K cl s' → rep s' v a → PostS K cl EK s' (k a s'.w) Dn → Q1 v s'.H) : Post K cl rep EK s r Q1 := by
  cases r with
  | ok a w =>
    intro s' v e ok' hw rv
    refine h s' v a e ok' rv ?_
    rw [hw]
    exact PostS.ext e p
  | err c fs w => exact p
  | stuck => exact p
end
def tSt (K : PySem.W.Frag) (cl : Str → Option Addr) (EK : XK) (m : En → Wd → SR) : TS := fun Dn σ H => ∃ s σd, s.H = H ∧ Ok K cl s ∧ RepE K s σ σd ∧ PostS K cl EK s (m σd s.w) Dn
def SS (X : Cx) (cl : Str → Option Addr) (EK : XK) (st : Stmt) (m : En → Wd → SR) : Prop := PS X st (tSt X.K cl EK m)
def SB (X : Cx) (cl : Str → Option Addr) (EK : XK) (sts : List Stmt) (m : En → Wd → SR) : Prop := PSs X sts (tSt X.K cl EK m)
/-- a target: the places that it may store in, what it makes of the frame's values -/
def tTg (K : PySem.W.Frag) (cl : Str → Option Addr) (sl : List Nat) (f : D → En → Wd → Option En) : TG := fun v σ H Q => ∃ s σd d, s.H = H ∧ Ok K cl s ∧ RepE K s σ σd ∧ Rep K s v d ∧
  match f d σd s.w with
  | some σ1 => ∀ σ', RepE K s σ' σ1 → σ'.length = σ.length → (∀ j, j ∉ sl → σ'[j]? = σ[j]?) → Q σ' s.H
  | none => False
def SG (X : Cx) (cl : Str → Option Addr) (e : Expr) (sl : List Nat) (f : D → En → Wd → Option En) : Prop := PG X e (tTg X.K cl sl f)
def tTgs (K : PySem.W.Frag) (cl : Str → Option Addr) (sl : List Nat) (f : List D → En → Wd → Option En) : TGs := fun vs σ H Q => ∃ s σd ds, s.H = H ∧ Ok K cl s ∧ RepE K s σ σd ∧ RepA K s vs ds ∧
  match f ds σd s.w with
  | some σ1 => ∀ σ', RepE K s σ' σ1 → σ'.length = σ.length → (∀ j, j ∉ sl → σ'[j]? = σ[j]?) → Q σ' s.H
  | none => False
def SGs (X : Cx) (cl : Str → Option Addr) (es : List Expr) (sl : List Nat) (f : List D → En → Wd → Option En) : Prop := PGs X es (tTgs X.K cl sl f)
section
variable {X : Cx} {cl : Str → Option Addr} {EK : XK} {a b c e : Expr} {ma mb mc : En → Wd → R D} {na nb : En → Wd → R Bool} {pos : Pos} {st : Stmt} {sts rest : List Stmt} {m m1 m2 : En → Wd → SR}
theorem PS.weak {t t' : TS} (h : PS X st t) (i : ∀ D σ H, t' D σ H → t D σ H) : PS X st t' := ⟨fun pins s σ H D I q => h.run pins s σ H D I (i D σ H q)⟩
theorem PSs.weak {t t' : TS} (h : PSs X sts t) (i : ∀ D σ H, t' D σ H → t D σ H) : PSs X sts t' := ⟨fun pins s σ H D I q => h.run pins s σ H D I (i D σ H q)⟩
theorem PG.weak {t t' : TG} (h : PG X e t) (i : ∀ v σ H Q, t' v σ H Q → t v σ H Q) : PG X e t' := ⟨fun pins s σ H v u Q I r q => h.run pins s σ H v u Q I r (i v σ H Q q)⟩
theorem PGs.weak {es : List Expr} {t t' : TGs} (h : PGs X es t) (i : ∀ v σ H Q, t' v σ H Q → t v σ H Q) : PGs X es t' := ⟨fun pins s σ H v u Q I r q => h.run pins s σ H v u Q I r (i v σ H Q q)⟩
def mNext : En → Wd → SR := fun σd w => .next σd w
def mSeq (m1 m2 : En → Wd → SR) : En → Wd → SR := fun σd w => match m1 σd w with
  | .next σ1 w1 => m2 σ1 w1
  | r => r
def mRet (ma : En → Wd → R D) : En → Wd → SR := fun σd w => (ma σd w).toS .ret
def mRetN : En → Wd → SR := fun _ w => .ret .non w
def mExpr (ma : En → Wd → R D) : En → Wd → SR := fun σd w => (ma σd w).toS fun _ w1 => .next σd w1
def mIfS (mc : En → Wd → R Bool) (m1 m2 : En → Wd → SR) : En → Wd → SR := fun σd w => (mc σd w).toS fun b w1 => match b with | true => m1 σd w1 | false => m2 σd w1
def mBrk : En → Wd → SR := fun σd w => .brk σd w
def mCnt : En → Wd → SR := fun σd w => .cnt σd w
def mAsg (ma : En → Wd → R D) (f : D → En → Wd → Option En) : En → Wd → SR := fun σd w => (ma σd w).toS fun d w1 => match f d σd w1 with
  | some σ1 => .next σ1 w1
  | none => .stuck
theorem sb_nil : SB X cl EK [] mNext := PSs.weak pss_nil fun D σ H h => by
  obtain ⟨s, σd, e, ok, re, p⟩ := h
  subst e
  exact p s σ (Ext.refl s) ok rfl re
theorem sb_cons (h1 : SS X cl EK st m1) (h2 : SB X cl EK rest m2) : SB X cl EK (st :: rest) (mSeq m1 m2) := PSs.weak (pss_cons h1 h2) fun D σ H h => by
  obtain ⟨s, σd, e, ok, re, p⟩ := h
  subst e
  refine ⟨s, σd, rfl, ok, re, ?_⟩
  unfold mSeq at p
  cases q : m1 σd s.w with
  | next σ1 w1 =>
    rw [q] at p
    intro s' σ' ex ok' hw re'
    refine ⟨s', σ1, rfl, ok', re', ?_⟩
    rw [hw]
    exact PostS.ext ex p
  | ret d w => rw [q] at p; exact p
  | brk d w => rw [q] at p; exact p
  | cnt d w => rw [q] at p; exact p
  | err c fs w => rw [q] at p; exact p
  | stuck => rw [q] at p; exact p
theorem sb_one (h1 : SS X cl EK st m1) : SB X cl EK [st] m1 := pss_one h1
theorem ss_ret (ha : SE X cl EK a ma) : SS X cl EK (.Return (some a) pos) (mRet ma) := PS.weak (ps_ret ha) fun D σ H h => by
  obtain ⟨s, σd, e, ok, re, p⟩ := h
  subst e
  exact tG_of ok re (posts_bind p fun s' v d ex ok' r p' => p' s' v (Ext.refl s') ok' rfl r)
theorem ss_expr (ha : SE X cl EK a ma) (hs : swapsWith a none pos.line X.env = pure false := by rfl) : SS X cl EK (.Expr a pos) (mExpr ma) := PS.weak (ps_expr ha hs) fun D σ H h => by
  obtain ⟨s, σd, e, ok, re, p⟩ := h
  subst e
  exact tG_of ok re (posts_bind p fun s' v d ex ok' r p' => p' s' σ (Ext.refl s') ok' rfl (re.mono ok ex))
theorem ss_if (hc : ST X cl EK c na) (h1 : SB X cl EK sts m1) (h2 : SB X cl EK rest m2) : SS X cl EK (.If c sts rest pos) (mIfS na m1 m2) := PS.weak (ps_if hc h1 h2) fun D σ H h => by
  obtain ⟨s, σd, e, ok, re, p⟩ := h
  subst e
  refine tG_of ok re (posts_bind p fun s' v d ex ok' r p' => ?_)
  cases r
  cases v with
  | true => exact iteT ⟨s', σd, rfl, ok', re.mono ok ex, p'⟩
  | false => exact iteF ⟨s', σd, rfl, ok', re.mono ok ex, p'⟩
/-! ### targets -/
def gNm (i : Nat) : D → En → Wd → Option En := fun d σd _ => some (σd.set i (some d))
theorem sg_name {i : Nat} (h : PG X e (gName i)) : SG X cl e [i] (gNm i) := PG.weak h fun v σ H Q hh => by
  obtain ⟨s, σd, d, e, ok, re, r, p⟩ := hh
  subst e
  refine p (σ.set i (some v)) (re.set i r) (by simp) fun j hj => ?_
  rw [List.getElem?_set_ne (fun z => hj (by rw [z]; exact List.mem_singleton.mpr rfl))]
def gNilD : List D → En → Wd → Option En := fun ds σd _ => match ds with | [] => some σd | _ => none
def gConsD (f : D → En → Wd → Option En) (g : List D → En → Wd → Option En) : List D → En → Wd → Option En := fun ds σd w => match ds with
  | d :: r => (f d σd w).bind fun σ1 => g r σ1 w
  | [] => none
def gTupD (n : Nat) (f : List D → En → Wd → Option En) : D → En → Wd → Option En := fun d σd w => match d with
  | .tup ds => if ds.length = n then f ds σd w else none
  | _ => none
def gLstD (n : Nat) (f : List D → En → Wd → Option En) : D → En → Wd → Option En := fun d σd w => match derefL d w with
  | some ds => if ds.length = n then f ds σd w else none
  | none => none
theorem sgs_nil : SGs X cl [] [] gNilD := PGs.weak pgs_nil fun v σ H Q hh => by
  obtain ⟨s, σd, ds, e, ok, re, r, p⟩ := hh
  subst e
  cases r with
  | nil => exact ⟨rfl, p σ re rfl fun _ _ => rfl⟩
  | cons _ _ => exact p.elim
theorem sgs_cons {es : List Expr} {sl sl' : List Nat} {f : D → En → Wd → Option En} {g : List D → En → Wd → Option En} (h1 : SG X cl e sl f) (h2 : SGs X cl es sl' g)
    (hs : (assignEach (e :: es) X.env).map (·.2) = assign e X.env :: (assignEach es X.env).map (·.2) := by rfl) : SGs X cl (e :: es) (sl ++ sl') (gConsD f g) := PGs.weak (pgs_cons h1 h2 hs) fun v σ H Q hh => by
  obtain ⟨s, σd, ds, e, ok, re, r, p⟩ := hh
  subst e
  cases r with
  | nil => exact p.elim
  | cons h r =>
    unfold gConsD at p
    dsimp only at p
    rename_i v0 vr d0 dr
    refine ⟨v0, vr, rfl, s, σd, d0, rfl, ok, re, h, ?_⟩
    cases q : f d0 σd s.w with
    | none => rw [q] at p; exact p
    | some σ1 =>
      rw [q] at p
      dsimp only [Option.bind] at p ⊢
      intro σ' re' hl' hk'
      refine ⟨s, σ1, dr, rfl, ok, re', r, ?_⟩
      cases q2 : g dr σ1 s.w with
      | none => rw [q2] at p; exact p
      | some σ2 =>
        rw [q2] at p
        dsimp only at p ⊢
        intro σ'' re'' hl'' hk''
        exact p σ'' re'' (hl''.trans hl') fun j hj => by
          rw [List.mem_append] at hj
          exact (hk'' j fun z => hj (.inr z)).trans (hk' j fun z => hj (.inl z))
theorem sg_tup {es : List Expr} {k n : Nat} {sl : List Nat} {f : List D → En → Wd → Option En} (hc : X.calm = true) (h : SGs X cl es sl f) (hn : (assignEach es X.env).length = n := by rfl) (hst : (assignEach es X.env).findIdx? (·.1) = none := by rfl) :
    SG X cl (.Tuple es k pos) sl (gTupD n f) := PG.weak (pg_tup hc h hn hst) fun v σ H Q hh => by
  obtain ⟨s, σd, d, e, ok, re, r, p⟩ := hh
  subst e
  unfold gTupD at p
  cases d with
  | tup ds =>
    dsimp only at p
    obtain ⟨a, vs, rfl, h1, h2⟩ := rep_tup r
    by_cases hl : ds.length = n
    · rw [if_pos hl] at p
      exact ⟨a, vs, rfl, h1, h2.length.trans hl, s, σd, ds, rfl, ok, re, h2, p⟩
    · rw [if_neg hl] at p; exact p.elim
  | _ => exact p.elim
theorem ss_asg {sl : List Nat} {f : D → En → Wd → Option En} (ha : SE X cl EK a ma) (hg : SG X cl e sl f) (hs : swapsWithSole [e] a pos.line X.env = pure false := by rfl) (hw : swappedStores [e] a X.env = pure none := by rfl)
    (h1 : (assignEach [e] X.env).map (·.2) = [assign e X.env] := by rfl) : SS X cl EK (.Assign [e] a pos) (mAsg ma f) := PS.weak (ps_asg ha hg hs hw h1) fun D σ H h => by
  obtain ⟨s, σd, e, ok, re, p⟩ := h
  subst e
  refine tG_of ok re (posts_bind p fun s' v d ex ok' r p' => ⟨s', σd, d, rfl, ok', re.mono ok ex, r, ?_⟩)
  cases q : f d σd s'.w with
  | none => rw [q] at p'; exact p'.elim
  | some σ1 =>
    rw [q] at p'
    dsimp only
    exact fun σ' re' _ _ => p' s' σ' (Ext.refl s') ok' rfl re'
/-- x = e -/
theorem ss_set {i : Nat} {x : Str} {pos' : Pos} (hN : X.N.Nodup) (hi : X.N[i]? = some x) (hx : Loc X.env.scope x) (ha : SE X cl EK a ma) (hs : swapsWithSole [.Name x pos'] a pos.line X.env = pure false := by rfl) (hw : swappedStores [.Name x pos'] a X.env = pure none := by rfl)
    (h1 : (assignEach [.Name x pos'] X.env).map (·.2) = [assign (.Name x pos') X.env] := by rfl) (hf : X.fn x = true ∨ X.env.scope.names.lookup x = some .local := by first | exact .inl rfl | exact .inr rfl | assumption) :
    SS X cl EK (.Assign [.Name x pos'] a pos) (mAsg ma (gNm i)) := ss_asg ha (sg_name (pg_name hN hi hx hf)) hs hw h1
/-- a, b = e1, e2 -/
def mPar (i j : Nat) (mas : En → Wd → R (List D)) : En → Wd → SR := fun σd w => (mas σd w).toS fun ds w1 => match ds with
  | [d, e] => .next ((σd.set i (some d)).set j (some e)) w1
  | _ => .stuck
theorem ss_par {i j : Nat} {x y : Str} {a b : Expr} {px py pt : Pos} {kt k2 pt2} {mas : En → Wd → R (List D)} (hc : X.calm = true) (hN : X.N.Nodup) (hi : X.N[i]? = some x) (hj : X.N[j]? = some y) (hij : i ≠ j)
    (hx : X.env.scope.names.lookup x = some .local) (hy : X.env.scope.names.lookup y = some .local) (ha : SA X cl EK [a, b] mas)
    (hw : swappedStores [.Tuple [.Name x px, .Name y py] kt pt] (.Tuple [a, b] k2 pt2) X.env = pure (some [x, y]))
    (hs : swapsWithSole [.Tuple [.Name x px, .Name y py] kt pt] (.Tuple [a, b] k2 pt2) pos.line X.env = pure false := by rfl) :
    SS X cl EK (.Assign [.Tuple [.Name x px, .Name y py] kt pt] (.Tuple [a, b] k2 pt2) pos) (mPar i j mas) := PS.weak (ps_par hc hN hi hj hij hx hy ha hw hs) fun D σ H h => by
  obtain ⟨s, σd, e, ok, re, p⟩ := h
  subst e
  refine tG_of ok re (posts_bind p fun s' v d ex ok' r p' => ?_)
  split at p'
  · obtain ⟨v1, v2, rfl, r1, r2⟩ := repA2 r
    exact ⟨v1, v2, rfl, p' s' _ (Ext.refl s') ok' rfl (((re.mono ok ex).set i r1).set j r2)⟩
  · exact p'.elim
/-- x += e of ints -/
def mAugI (f : Int → Int → Int) (i : Nat) (ma : En → Wd → R D) : En → Wd → SR := fun σd w => match σd[i]? with
  | some (some (.int z)) => (ma σd w).toS fun d w1 => match d with
    | .int y => .next (σd.set i (some (.int (f z y)))) w1
    | _ => .stuck
  | _ => .stuck
/-! ### what a loop walks -/
def repIt (K : PySem.W.Frag) (cl : Str → Option Addr) (s : S) (J : It) (ds : List D) : Prop := ∀ s1, ExtF s s1 → Ok K cl s1 →
  (∀ i, i < ds.length → J.go i s1.H) ∧ (∀ i x H' d, J.yld i s1.H x H' → ds[i]? = some d → ∃ s2, s2.H = H' ∧ Ext s1 s2 ∧ Ok K cl s2 ∧ s2.w = s1.w ∧ Rep K s2 x d) ∧ J.stop ds.length s1.H
def SI (X : Cx) (cl : Str → Option Addr) (EK : XK) (tg iter : Expr) (m : En → Wd → R (List D)) : Prop := PI X tg iter (tG X.K cl (repIt X.K cl) EK m)
theorem PI.weak {tg iter : Expr} {t t' : TI} (h : PI X tg iter t) (i : ∀ σ H Q, t' σ H Q → t σ H Q) : PI X tg iter t' := ⟨fun pins s σ H Q I q => h.run pins s σ H Q I (i σ H Q q)⟩
theorem PI.or {tg iter : Expr} {t t' : TI} (h : PI X tg iter t) (h' : PI X tg iter t') : PI X tg iter (fun σ H R => t σ H R ∨ t' σ H R) := ⟨fun pins s σ H Q I q => q.elim (h.run pins s σ H Q I) (h'.run pins s σ H Q I)⟩
def signs (z : Str) : List D := z.cps.toList.map fun c => .str ⟨#[c]⟩
def itemsD : D → Option (List D)
  | .lst ds => some ds
  | .tup ds => some ds
  | .str z => some (signs z)
  | .scr ns => some (ns.map D.int)
  | _ => none
def mIter (ma : En → Wd → R D) : En → Wd → R (List D) := fun σd w => (ma σd w).bind fun u w1 => match itemsD u with
  | some ds => .ok ds w1
  | none => .stuck
theorem repIt_L {s : S} {a : Addr} {vs : List V} {ds : List D} (h : ∀ s1, ExtF s s1 → Ok X.K cl s1 → SqL X.K s1.H a vs ∧ RepA X.K s1 vs ds) : repIt X.K cl s (Itl X.K a) ds := by
  intro s1 e ok
  obtain ⟨h1, r⟩ := h s1 e ok
  refine ⟨fun i hi => ?_, fun i x H' d hy hd => ?_, vs, h1, by rw [r.length]; exact Nat.le_refl _⟩
  · obtain ⟨v, hv, _⟩ := r.get (i := i) (List.getElem?_eq_getElem hi)
    exact ⟨vs, v, h1, hv⟩
  · obtain ⟨rfl, hx⟩ := hy
    obtain ⟨v, hv, rv⟩ := r.get hd
    have e := hx vs h1
    rw [hv] at e
    cases e
    exact ⟨s1, rfl, Ext.refl s1, ok, rfl, rv⟩
theorem repIt_T {s : S} {a : Addr} {vs : List V} {ds : List D} (h : ∀ s1, ExtF s s1 → Ok X.K cl s1 → SqT X.K s1.H a vs ∧ RepA X.K s1 vs ds) : repIt X.K cl s (Itt X.K a) ds := by
  intro s1 e ok
  obtain ⟨h1, r⟩ := h s1 e ok
  refine ⟨fun i hi => ?_, fun i x H' d hy hd => ?_, vs, h1, by rw [r.length]; exact Nat.le_refl _⟩
  · obtain ⟨v, hv, _⟩ := r.get (i := i) (List.getElem?_eq_getElem hi)
    exact ⟨vs, v, h1, hv⟩
  · obtain ⟨rfl, hx⟩ := hy
    obtain ⟨v, hv, rv⟩ := r.get hd
    have e := hx vs h1
    rw [hv] at e
    cases e
    exact ⟨s1, rfl, Ext.refl s1, ok, rfl, rv⟩
theorem repIt_S {s : S} {z : Str} : repIt X.K cl s (Its z) (signs z) := by
  intro s1 e ok
  have hl : (signs z).length = z.cps.size := by unfold signs; rw [List.length_map, Array.length_toList]
  refine ⟨fun i hi => by rw [hl] at hi; exact hi, fun i x H' d hy hd => ?_, by show z.cps.size ≤ _; rw [hl]; exact Nat.le_refl _⟩
  obtain ⟨rfl, c, hc, rfl⟩ := hy
  unfold signs at hd
  rw [List.getElem?_map, Array.getElem?_toList, hc] at hd
  cases hd
  exact ⟨s1, rfl, Ext.refl s1, ok, rfl, .str _⟩
theorem si_seq {tg : Expr} (ha : SE X cl EK a ma) : SI X cl EK tg a (mIter ma) :=
  PI.weak (PI.or (pi_list ha) (PI.or (pi_tup ha) (pi_str ha))) fun σ H Q h => by
    obtain ⟨s, σd, e, ok, re, p⟩ := h
    subst e
    unfold mIter at p
    have go : ∀ (Q1 : V → Hp → Prop), (∀ s' v u ds, Ext s s' → Ok X.K cl s' → Rep X.K s' v u → itemsD u = some ds → (∀ J, repIt X.K cl s' J ds → Q J s'.H) → (∃ w, ma σd s.w = .ok u w) → Q1 v s'.H) → tG X.K cl (Rep X.K) EK ma σ s.H Q1 := by
      intro Q1 hQ
      refine ⟨s, σd, rfl, ok, re, ?_⟩
      cases q : ma σd s.w with
      | ok u w =>
        rw [q] at p
        dsimp only [R.bind] at p
        intro s' v ex ok' hw r
        cases q2 : itemsD u with
        | none => rw [q2] at p; exact p.elim
        | some ds =>
          rw [q2] at p
          exact hQ s' v u ds ex ok' r q2 (fun J hJ => p s' J ex ok' hw hJ) ⟨w, q⟩
      | err c fs w => rw [q] at p; exact p
      | stuck => rw [q] at p; exact p
    cases q : ma σd s.w with
    | ok u w =>
      cases u with
      | lst ds0 =>
        refine .inl (go _ fun s' v u ds ex ok' r hi hJ hu => ?_)
        obtain ⟨w', hu⟩ := hu
        rw [q] at hu
        cases hu
        cases hi
        obtain ⟨a, vs, rfl, hF, h1, h2⟩ := rep_lst r
        exact ⟨a, rfl, ⟨vs, SqL.of h1⟩, hJ _ (repIt_L fun s1 e1 ok1 => ⟨SqL.of (e1.fr _ _ hF h1), h2.monoF e1⟩)⟩
      | scr ns =>
        refine .inl (go _ fun s' v u ds ex ok' r hi hJ hu => ?_)
        obtain ⟨w', hu⟩ := hu
        rw [q] at hu
        cases hu
        cases hi
        cases r with
        | scr h1 =>
          refine ⟨_, rfl, ⟨_, SqL.ofS h1⟩, hJ _ (repIt_L (vs := ns.map V.int) fun s1 e1 ok1 => ⟨SqL.ofS (h1.imp (fun q => ⟨e1.F _ q.1, q.2.imp fun _ z => e1.fr _ _ q.1 z⟩) id), repA_ints ns⟩)⟩
      | tup ds0 =>
        refine .inr (.inl (go _ fun s' v u ds ex ok' r hi hJ hu => ?_))
        obtain ⟨w', hu⟩ := hu
        rw [q] at hu
        cases hu
        cases hi
        cases r with
        | tup hH h2 =>
          refine ⟨_, rfl, ⟨_, SqT.ofR hH⟩, hJ _ (repIt_T fun s1 e1 ok1 => ⟨?_, h2.monoF e1⟩)⟩
          rcases hH with ⟨f1, f2⟩ | f
          · exact .inl (.inl (e1.fr _ _ f1 f2))
          · exact .inr f
      | str z =>
        refine .inr (.inr (go _ fun s' v u ds ex ok' r hi hJ hu => ?_))
        obtain ⟨w', hu⟩ := hu
        rw [q] at hu
        cases hu
        cases hi
        rw [rep_str r]
        exact ⟨z, rfl, hJ _ repIt_S⟩
      | _ => rw [q] at p; exact p.elim
    | err c fs w => exact .inl (go _ fun s' v u ds ex ok' r hi hJ hu => by obtain ⟨w', hu⟩ := hu; rw [q] at hu; cases hu)
    | stuck => rw [q] at p; exact p.elim
end
end Si

set_option Elab.async false
set_option linter.all false
set_option autoImplicit false
set_option maxRecDepth 100000
set_option maxHeartbeats 4000000
/-! Si7: ranges, zip, enumerate; for, while, comprehensions; calls of own defs, defs. -/
namespace Si
open PySem L2 RZ
section
variable {X : Cx} {cl : Str → Option Addr} {EK : XK} {a b c e : Expr} {ma mb mc : En → Wd → R D} {na nb : En → Wd → R Bool} {mas : En → Wd → R (List D)} {pos p : Pos} {st : Stmt} {sts rest : List Stmt} {m m1 m2 : En → Wd → SR} {tg iter : Expr}
def rangeD (lo : Int) (n : Nat) : List D := (List.range n).map fun i => .int (lo + (i : Nat))
theorem repIt_R {s : S} {lo : Int} {n : Nat} : repIt X.K cl s (Itr lo n) (rangeD lo n) := by
  intro s1 e ok
  have hl : (rangeD lo n).length = n := by unfold rangeD; rw [List.length_map, List.length_range]
  refine ⟨fun i hi => by rw [hl] at hi; exact hi, fun i x H' d hy hd => ?_, by rw [hl]; exact Nat.le_refl _⟩
  obtain ⟨rfl, rfl⟩ := hy
  unfold rangeD at hd
  rw [List.getElem?_map] at hd
  cases q : (List.range n)[i]? with
  | none => rw [q] at hd; cases hd
  | some j =>
    rw [q] at hd
    have hj : j = i := by
      obtain ⟨h1, h2⟩ := List.getElem?_eq_some_iff.mp q
      rw [List.getElem_range] at h2
      exact h2.symm
    subst hj
    cases hd
    exact ⟨s1, rfl, Ext.refl s1, ok, rfl, .int _⟩
def mRng (mas : En → Wd → R (List D)) : En → Wd → R (List D) := fun σd w => (mas σd w).bind fun us w1 => match us with
  | [.int j] => if -(2 ^ 62) ≤ j ∧ j < 2 ^ 62 then .ok (rangeD 0 j.toNat) w1 else .stuck
  | [.int i, .int j] => if -(2 ^ 62) ≤ i ∧ i < 2 ^ 62 ∧ -(2 ^ 62) ≤ j ∧ j < 2 ^ 62 then .ok (rangeD i (j - i).toNat) w1 else .stuck
  | _ => .stuck
theorem si_range1 (hg : Gl X "range") (hm : X.mg "range" = none) (ha : SA X cl EK [a] mas) (hs : starEach [a] X.env = [(false, eval a X.env)] := by rfl) (hlen : ∀ σd w us w', mas σd w = .ok us w' → us.length = 1) : SI X cl EK tg (.Call (.Name "range" p) [a] [] pos) (mRng mas) :=
  PI.weak (pi_range1 hg hm ha hs) fun σ H Q h => by
    obtain ⟨s, σd, e, ok, re, p⟩ := h
    subst e
    refine tG_of ok re ?_
    cases q : mas σd s.w with
    | ok us w =>
      unfold mRng at p
      rw [q] at p
      dsimp only [R.bind] at p
      have hl := hlen _ _ _ _ q
      intro s' xs ex ok' hw r
      match us, hl, p, r with
      | [.int j], _, p, r =>
        dsimp only at p
        obtain ⟨x, rfl, rx⟩ := repA1 r
        rw [rep_int rx]
        by_cases hb : -(2 ^ 62) ≤ j ∧ j < 2 ^ 62
        · rw [if_pos hb] at p
          exact ⟨j, rfl, hb.1, hb.2, p s' _ ex ok' hw repIt_R⟩
        · rw [if_neg hb] at p
          exact p.elim
      | [.non], _, p, _ => exact p.elim
      | [.bl _], _, p, _ => exact p.elim
      | [.str _], _, p, _ => exact p.elim
      | [.lst _], _, p, _ => exact p.elim
      | [.tup _], _, p, _ => exact p.elim
      | [.obj _], _, p, _ => exact p.elim
      | [.scr _], _, p, _ => exact p.elim
    | err c fs w => unfold mRng at p; rw [q] at p; exact p
    | stuck => unfold mRng at p; rw [q] at p; exact p.elim
theorem aCons1_len {σd : En} {w : Wd} {us : List D} {w' : Wd} (h : aCons ma aNil σd w = .ok us w') : us.length = 1 := by
  unfold aCons aNil at h
  cases q : ma σd w with
  | ok d w1 => rw [q] at h; dsimp only [R.bind] at h; cases h; rfl
  | err c fs w1 => rw [q] at h; cases h
  | stuck => rw [q] at h; cases h
theorem si_rng1 (hg : Gl X "range") (hm : X.mg "range" = none) (ha : SE X cl EK a ma) (hs : starEach [a] X.env = [(false, eval a X.env)] := by rfl) : SI X cl EK tg (.Call (.Name "range" p) [a] [] pos) (mRng (aCons ma aNil)) :=
  si_range1 hg hm (sa_cons ha sa_nil hs) hs fun _ _ _ _ => aCons1_len
/-- enumerate of a list that stands still -/
def enumD : Nat → List D → List D
  | _, [] => []
  | i, d :: r => .tup [.int (i : Nat), d] :: enumD (i + 1) r
theorem enumD_get : ∀ (ds : List D) (k i : Nat), (enumD k ds)[i]? = (ds[i]?).map fun d => .tup [.int ((k + i : Nat) : Int), d]
  | [], _, _ => by simp [enumD]
  | d :: r, k, 0 => by simp [enumD]
  | d :: r, k, i + 1 => by
    have h := enumD_get r (k + 1) i
    simp only [enumD, List.getElem?_cons_succ]
    rw [h, show k + 1 + i = k + (i + 1) by omega]
theorem enumD_len : ∀ (ds : List D) (k : Nat), (enumD k ds).length = ds.length
  | [], _ => rfl
  | _ :: r, k => congrArg (· + 1) (enumD_len r (k + 1))
def mEnum (mas : En → Wd → R (List D)) : En → Wd → R (List D) := fun σd w => (mas σd w).bind fun us w1 => match us with
  | [.lst ds] => .ok (enumD 0 ds) w1
  | _ => .stuck
/-- zip of two lists, two tuples -/
def zipD : List D → List D → List D
  | d :: r, e :: q => .tup [d, e] :: zipD r q
  | _, _ => []
theorem zipD_get : ∀ (ds es : List D) (i : Nat), (zipD ds es)[i]? = match ds[i]?, es[i]? with | some d, some e => some (.tup [d, e]) | _, _ => none
  | [], _, _ => by simp [zipD]
  | d :: r, [], i => by
    simp only [zipD, List.getElem?_nil]
    cases (d :: r)[i]? <;> rfl
  | d :: r, e :: q, 0 => by simp [zipD]
  | d :: r, e :: q, i + 1 => by
    simp only [zipD, List.getElem?_cons_succ]
    exact zipD_get r q i
theorem zipD_len : ∀ (ds es : List D), (zipD ds es).length = min ds.length es.length
  | [], _ => by simp [zipD]
  | d :: r, [] => by simp [zipD]
  | d :: r, e :: q => by simp [zipD, zipD_len r q]
def mZip (mas : En → Wd → R (List D)) : En → Wd → R (List D) := fun σd w => (mas σd w).bind fun us w1 => match us with
  | [.lst ds, .lst es] => .ok (zipD ds es) w1
  | [.tup ds, .tup es] => .ok (zipD ds es) w1
  | _ => .stuck
theorem zip_yld {s1 : S} {vs us : List V} {ds es : List D} {i : Nat} {T : Addr} {x y : V} {d : D} (ok1 : Ok X.K cl s1) (r1 : RepA X.K s1 vs ds) (r2 : RepA X.K s1 us es) (hT : s1.H T = none) (hx : vs[i]? = some x) (hy : us[i]? = some y) (hd : (zipD ds es)[i]? = some d) :
    ∃ s2, s2.H = upd s1.H T (.tup [x, y]) ∧ Ext s1 s2 ∧ Ok X.K cl s2 ∧ s2.w = s1.w ∧ Rep X.K s2 (.ref T) d := by
  rw [zipD_get] at hd
  cases q1 : ds[i]? with
  | none => rw [q1] at hd; cases hd
  | some d0 =>
    cases q2 : es[i]? with
    | none => rw [q1, q2] at hd; cases hd
    | some e0 =>
      rw [q1, q2] at hd
      cases hd
      obtain ⟨v, hv, rv⟩ := r1.get q1
      obtain ⟨u, hu, ru⟩ := r2.get q2
      rw [hx] at hv
      rw [hy] at hu
      cases hv
      cases hu
      exact ⟨s1.frz T _, rfl, S.frz_ext hT, S.frz_ok ok1 hT, rfl, rep_newT ok1 hT (.cons rv (.cons ru .nil))⟩
theorem si_zip {elts : List Expr} {kk : Nat} {tpos : Pos} (hg : Gl X "zip") (hm : X.mg "zip" = none) (ha : SA X cl EK [a, b] mas)
    (hs : starEach [a, b] X.env = (false, eval a X.env) :: starEach [b] X.env := by rfl) (hpl : (backTo pos (starEach [b] X.env)).any (·.1) = false := by rfl) :
    SI X cl EK (.Tuple elts kk tpos) (.Call (.Name "zip" p) [a, b] [] pos) (mZip mas) :=
  PI.weak (pi_zipA hg hm ha hs hpl) fun σ H Q h => tG_imp (tG_bind h) fun xs H1 ⟨s, σd, u, e, ok, re, ru, p⟩ => by
    subst e
    dsimp only at p
    split at p
    · rename_i ds es
      obtain ⟨x, y, rfl, rx, ry⟩ := repA2 ru
      obtain ⟨q, vs, rfl, hF, h1, r1⟩ := rep_lst rx
      obtain ⟨q2, us, rfl, hF2, h2, r2⟩ := rep_lst ry
      refine ⟨q, q2, vs, us, rfl, .inl ⟨SqL.of h1, SqL.of h2, p s _ (Ext.refl s) ok rfl ?_⟩⟩
      intro s1 e1 ok1
      have h1' := e1.fr _ _ hF h1
      have h2' := e1.fr _ _ hF2 h2
      have r1' := r1.monoF e1
      have r2' := r2.monoF e1
      refine ⟨fun i hi => ?_, fun i x H' d hy hd => ?_, vs, us, SqL.of h1', SqL.of h2', ?_⟩
      · rw [zipD_len] at hi
        obtain ⟨v, hv, _⟩ := r1.get (i := i) (List.getElem?_eq_getElem (by omega))
        obtain ⟨v2, hv2, _⟩ := r2.get (i := i) (List.getElem?_eq_getElem (by omega))
        exact ⟨vs, us, v, v2, SqL.of h1', SqL.of h2', hv, hv2⟩
      · obtain ⟨T, y1, y2, rfl, hT, rfl, hx, hy⟩ := hy
        exact zip_yld ok1 r1' r2' hT (hx vs (SqL.of h1')) (hy us (SqL.of h2')) hd
      · rw [zipD_len, r1.length, r2.length]; omega
    · rename_i ds es
      obtain ⟨x, y, rfl, rx, ry⟩ := repA2 ru
      obtain ⟨q, vs, rfl, hH, r1⟩ : ∃ q vs, x = .ref q ∧ ((s.F q ∧ s.H q = some (.tup vs)) ∨ TK X.K q vs) ∧ RepA X.K s vs ds := by
        cases rx with
        | tup hH r1 => exact ⟨_, _, rfl, hH, r1⟩
      obtain ⟨q2, us, rfl, hH2, r2⟩ : ∃ q vs, y = .ref q ∧ ((s.F q ∧ s.H q = some (.tup vs)) ∨ TK X.K q vs) ∧ RepA X.K s vs es := by
        cases ry with
        | tup hH r1 => exact ⟨_, _, rfl, hH, r1⟩
      refine ⟨q, q2, vs, us, rfl, .inr ⟨SqT.ofR hH, SqT.ofR hH2, p s _ (Ext.refl s) ok rfl ?_⟩⟩
      intro s1 e1 ok1
      have h1' : SqT X.K s1.H q vs := by
        rcases hH with ⟨f1, f2⟩ | f
        · exact .inl (.inl (e1.fr _ _ f1 f2))
        · exact .inr f
      have h2' : SqT X.K s1.H q2 us := by
        rcases hH2 with ⟨f1, f2⟩ | f
        · exact .inl (.inl (e1.fr _ _ f1 f2))
        · exact .inr f
      have r1' := r1.monoF e1
      have r2' := r2.monoF e1
      refine ⟨fun i hi => ?_, fun i x H' d hy hd => ?_, vs, us, h1', h2', ?_⟩
      · rw [zipD_len] at hi
        obtain ⟨v, hv, _⟩ := r1.get (i := i) (List.getElem?_eq_getElem (by omega))
        obtain ⟨v2, hv2, _⟩ := r2.get (i := i) (List.getElem?_eq_getElem (by omega))
        exact ⟨vs, us, v, v2, h1', h2', hv, hv2⟩
      · obtain ⟨T, y1, y2, rfl, hT, rfl, hx, hy⟩ := hy
        exact zip_yld ok1 r1' r2' hT (hx vs h1') (hy us h2') hd
      · rw [zipD_len, r1.length, r2.length]; omega
    · exact p.elim
/-! ### for -/
def forL (f : D → En → Wd → Option En) (body : En → Wd → SR) : List D → En → Wd → SR
  | [], σd, w => .next σd w
  | d :: r, σd, w => match f d σd w with
    | none => .stuck
    | some σ1 => match body σ1 w with
      | .next σ2 w2 => forL f body r σ2 w2
      | .cnt σ2 w2 => forL f body r σ2 w2
      | .brk σ2 w2 => .next σ2 w2
      | .ret d w2 => .ret d w2
      | .err c fs w2 => .err c fs w2
      | .stuck => .stuck
def mFor (it : En → Wd → R (List D)) (f : D → En → Wd → Option En) (body : En → Wd → SR) : En → Wd → SR := fun σd w => (it σd w).toS fun ds w1 => forL f body ds σd w1
theorem ss_for {sl : List Nat} {mi : En → Wd → R (List D)} {f : D → En → Wd → Option En} (hp : PassesOwn (model X.prog X.w) X.A X.env X.xe) (hc : X.calm = true) (hi : SI X cl EK tg iter mi) (hg : SG X cl tg sl f) (hb : SB X cl EK sts m)
    (hs : ∀ x, foldedSetIterable iter X.env x = pure x := by intro _; rfl) : SS X cl EK (.For tg iter sts [] pos) (mFor mi f m) := PS.weak (ps_for hp hc hi hg hb hs) fun D σ H h => by
  obtain ⟨s, σd, e, ok, re, p⟩ := h
  subst e
  refine tG_of ok re (posts_bind p fun s0 J ds ex0 ok0 rJ p0 => ?_)
  refine ⟨fun i mm σ H => ∃ s1 σ1, mm = ds.length - i ∧ i ≤ ds.length ∧ s1.H = H ∧ Ext s0 s1 ∧ Ok X.K cl s1 ∧ RepE X.K s1 σ σ1 ∧ PostS X.K cl EK s1 (forL f m (ds.drop i) σ1 s1.w) D,
    ⟨ds.length, s0, σd, by simp, Nat.zero_le _, rfl, Ext.refl s0, ok0, re.mono ok ex0, p0⟩, ?_⟩
  rintro i mm σ1 H1 ⟨s1, τ, rfl, hle, rfl, e1, ok1, re1, p1⟩
  obtain ⟨go, yl, stop⟩ := rJ s1 (e1.toF ok0) ok1
  by_cases hlt : i < ds.length
  · have hd : ds.drop i = ds[i] :: ds.drop (i + 1) := List.drop_eq_getElem_cons hlt
    rw [hd] at p1
    refine .inr ⟨go i hlt, fun σ' H' => ∃ s2 σ2, s2.H = H' ∧ Ext s0 s2 ∧ Ok X.K cl s2 ∧ RepE X.K s2 σ' σ2 ∧ PostS X.K cl EK s2 (forL f m (ds.drop (i + 1)) σ2 s2.w) D, fun σ' H' ⟨s2, σ2, a1, a2, a3, a4, a5⟩ => ⟨ds.length - (i + 1), by omega, s2, σ2, rfl, hlt, a1, a2, a3, a4, a5⟩, fun x H' hy => ?_⟩
    obtain ⟨s2, rfl, e2, ok2, w2, r2⟩ := yl i x H' ds[i] hy (List.getElem?_eq_getElem hlt)
    refine ⟨s2, τ, ds[i], rfl, ok2, re1.mono ok1 e2, r2, ?_⟩
    rw [w2]
    unfold forL at p1
    cases q : f ds[i] τ s1.w with
    | none => rw [q] at p1; exact p1.elim
    | some τ1 =>
      rw [q] at p1
      dsimp only at p1 ⊢
      intro σ' re' _ _
      refine ⟨s2, τ1, rfl, ok2, re', ?_⟩
      rw [w2]
      have ee : Ext s0 s2 := e1.trans e2
      cases q2 : m τ1 s1.w with
      | next τ2 w3 =>
        rw [q2] at p1
        intro s3 σ3 e3 ok3 hw re3
        exact ⟨s3, τ2, rfl, ee.trans e3, ok3, re3, by rw [hw]; exact PostS.ext (e2.trans e3) p1⟩
      | cnt τ2 w3 =>
        rw [q2] at p1
        intro s3 σ3 e3 ok3 hw re3
        exact ⟨s3, τ2, rfl, ee.trans e3, ok3, re3, by rw [hw]; exact PostS.ext (e2.trans e3) p1⟩
      | brk τ2 w3 =>
        rw [q2] at p1
        exact fun s3 σ3 e3 ok3 hw re3 => p1 s3 σ3 (e2.trans e3) ok3 hw re3
      | ret d w3 =>
        rw [q2] at p1
        exact fun s3 σ3 e3 ok3 hw re3 => p1 s3 σ3 (e2.trans e3) ok3 hw re3
      | err c fs w3 =>
        rw [q2] at p1
        exact fun s3 σ3 dd e3 ok3 hw re3 => p1 s3 σ3 dd (e2.trans e3) ok3 hw re3
      | stuck => rw [q2] at p1; exact p1.elim
  · have hi' : i = ds.length := by omega
    subst hi'
    rw [List.drop_length] at p1
    exact .inl ⟨stop, p1 s1 σ1 (Ext.refl s1) ok1 rfl re1⟩
/-! ### while: at most so many turns -/
def whileL (c : En → Wd → R Bool) (body : En → Wd → SR) : Nat → En → Wd → SR
  | 0, _, _ => .stuck
  | n + 1, σd, w => (c σd w).toS fun b w1 => match b with
    | false => .next σd w1
    | true => match body σd w1 with
      | .next σ2 w2 => whileL c body n σ2 w2
      | .cnt σ2 w2 => whileL c body n σ2 w2
      | .brk σ2 w2 => .next σ2 w2
      | .ret d w2 => .ret d w2
      | .err c fs w2 => .err c fs w2
      | .stuck => .stuck
def mWhile (fuel : En → Wd → Nat) (c : En → Wd → R Bool) (body : En → Wd → SR) : En → Wd → SR := fun σd w => whileL c body (fuel σd w) σd w
theorem ss_while (fuel : En → Wd → Nat) (hp : PassesOwn (model X.prog X.w) X.A X.env X.xe) (hc : ST X cl EK c na) (hb : SB X cl EK sts m) : SS X cl EK (.While c sts [] pos) (mWhile fuel na m) := PS.weak (ps_while hp hc hb) fun D σ H h => by
  obtain ⟨s, σd, e, ok, re, p⟩ := h
  subst e
  refine ⟨fun n σ H => ∃ s1 σ1, s1.H = H ∧ Ok X.K cl s1 ∧ RepE X.K s1 σ σ1 ∧ PostS X.K cl EK s1 (whileL na m n σ1 s1.w) D, ⟨_, s, σd, rfl, ok, re, p⟩, ?_⟩
  rintro n σ1 H1 ⟨s1, τ, rfl, ok1, re1, p1⟩
  cases n with
  | zero => exact p1.elim
  | succ n =>
    refine tG_of ok1 re1 (posts_bind p1 fun s2 b b' e2 ok2 rb p2 => ?_)
    cases rb
    cases b with
    | false => exact iteF (p2 s2 σ1 (Ext.refl s2) ok2 rfl (re1.mono ok1 e2))
    | true =>
      refine iteT ⟨fun σ' H' => ∃ s3 σ3, s3.H = H' ∧ Ok X.K cl s3 ∧ RepE X.K s3 σ' σ3 ∧ PostS X.K cl EK s3 (whileL na m n σ3 s3.w) D, fun σ' H' q => ⟨n, Nat.lt_succ_self n, q⟩, s2, τ, rfl, ok2, re1.mono ok1 e2, ?_⟩
      dsimp only at p2
      cases q2 : m τ s2.w with
      | next τ2 w3 =>
        rw [q2] at p2
        exact fun s3 σ3 e3 ok3 hw re3 => ⟨s3, τ2, rfl, ok3, re3, by rw [hw]; exact PostS.ext e3 p2⟩
      | cnt τ2 w3 =>
        rw [q2] at p2
        exact fun s3 σ3 e3 ok3 hw re3 => ⟨s3, τ2, rfl, ok3, re3, by rw [hw]; exact PostS.ext e3 p2⟩
      | brk τ2 w3 => rw [q2] at p2; exact p2
      | ret d w3 => rw [q2] at p2; exact p2
      | err c fs w3 => rw [q2] at p2; exact p2
      | stuck => rw [q2] at p2; exact p2.elim
end
end Si

set_option Elab.async false
set_option linter.all false
set_option autoImplicit false
set_option maxRecDepth 100000
set_option maxHeartbeats 4000000
/-! Si8: comprehensions; own defs; lists that change; join. -/
namespace Si
open PySem L2 PyProof.Rows
/-! ### comprehensions -/
def lcL (own : List Nat) (f : D → En → Wd → Option En) (mt : En → Wd → R Bool) (me : En → Wd → R D) (σd : En) : List D → List D → Wd → R (List D)
  | [], acc, w => .ok acc w
  | d :: r, acc, w => match f d (wipeD σd own) w with
    | none => .stuck
    | some σ1 => match mt σ1 w with
      | .ok true w1 => match me σ1 w1 with
        | .ok y w2 => if acc.length < 16777216 then lcL own f mt me σd r (acc ++ [y]) w2 else .stuck
        | _ => .stuck
      | .ok false w1 => lcL own f mt me σd r acc w1
      | _ => .stuck
def mLc (it : En → Wd → R (List D)) (own : List Nat) (f : D → En → Wd → Option En) (mt : En → Wd → R Bool) (me : En → Wd → R D) : En → Wd → R D := fun σd w => (it σd w).bind fun ds w1 => (lcL own f mt me σd ds [] w1).bind fun xs w2 => .ok (.lst xs) w2
def mLcM (it : En → Wd → R (List D)) (own : List Nat) (f : D → En → Wd → Option En) (mt : En → Wd → R Bool) (me : En → Wd → R D) : En → Wd → R D := fun σd w => (it σd w).bind fun ds w1 => (lcL own f mt me σd ds [] w1).bind fun xs w2 => .ok (.obj w2.length) (w2 ++ [.lst xs])
def bYes : En → Wd → R Bool := fun _ w => .ok true w
theorem wipe_get (σ : L2.St) : ∀ (vs : List Nat) (j : Nat), (L2.wipe σ vs)[j]? = if j ∈ vs ∧ j < σ.length then some none else σ[j]?
  | [], j => by simp [L2.wipe]
  | v :: vs, j => by
    have ih := wipe_get σ vs j
    show ((L2.wipe σ vs).set v none)[j]? = _
    by_cases e : v = j
    · subst e
      by_cases hl : v < σ.length
      · rw [List.getElem?_set_self (by rw [L2.wipe_length]; exact hl), if_pos ⟨List.mem_cons_self, hl⟩]
      · rw [List.getElem?_eq_none_iff.mpr (by rw [List.length_set, L2.wipe_length]; omega), if_neg (fun z => hl z.2), List.getElem?_eq_none_iff.mpr (by omega)]
    · rw [List.getElem?_set_ne e, ih]
      by_cases hm : j ∈ vs ∧ j < σ.length
      · rw [if_pos hm, if_pos ⟨List.mem_cons_of_mem _ hm.1, hm.2⟩]
      · rw [if_neg hm, if_neg (fun z => hm ⟨(List.mem_cons.mp z.1).resolve_left (Ne.symm e), z.2⟩)]
theorem wipe_of {σ σ2 : L2.St} {vs sl : List Nat} (hl : σ2.length = (L2.wipe σ vs).length) (h : ∀ j, j ∉ sl → σ2[j]? = (L2.wipe σ vs)[j]?) (hs : ∀ j ∈ sl, j ∈ vs) : L2.wipe σ2 vs = L2.wipe σ vs := by
  rw [L2.wipe_length] at hl
  apply List.ext_getElem?
  intro j
  rw [wipe_get, wipe_get, hl]
  by_cases hm : j ∈ vs ∧ j < σ.length
  · rw [if_pos hm, if_pos hm]
  · rw [if_neg hm, if_neg hm]
    by_cases hj : j ∈ vs
    · have hn : σ.length ≤ j := Nat.le_of_not_lt fun z => hm ⟨hj, z⟩
      rw [List.getElem?_eq_none_iff.mpr (by omega), List.getElem?_eq_none_iff.mpr hn]
    · rw [h j fun z => hj (hs j z), wipe_get, if_neg (fun z => hj z.1)]
section
variable {K : PySem.W.Frag} {cl : Str → Option Addr} {s s0 s1 : S}
/-- a thing of one's own that no one else sees is changed -/
def S.prv (s : S) (q : Addr) (o : HO) : S := ⟨s.F, s.ρ, s.w, upd s.H q o⟩
mutual
theorem Rep.prv {q : Addr} {o : HO} (hF : ¬ s.F q) : ∀ {v : V} {d : D}, Rep K s v d → Rep K (s.prv q o) v d
  | _, _, .non => .non
  | _, _, .bl b => .bl b
  | _, _, .int i => .int i
  | _, _, .str x => .str x
  | _, _, .lst hF1 h r => .lst hF1 ((upd_ne fun z => hF (by rw [← z]; exact hF1)).trans h) (RepA.prv hF r)
  | _, _, .tup h r => .tup (h.imp (fun x => ⟨x.1, (upd_ne fun z => hF (by rw [← z]; exact x.1)).trans x.2⟩) id) (RepA.prv hF r)
  | _, _, .obj h => .obj h
  | _, _, .scr h => .scr (h.imp (fun x => ⟨x.1, x.2.imp fun _ y => (upd_ne fun z => hF (by rw [← z]; exact x.1)).trans y⟩) id)
theorem RepA.prv {q : Addr} {o : HO} (hF : ¬ s.F q) : ∀ {vs : List V} {ds : List D}, RepA K s vs ds → RepA K (s.prv q o) vs ds
  | _, _, .nil => .nil
  | _, _, .cons h r => .cons (Rep.prv hF h) (RepA.prv hF r)
end
theorem RepF.prv {κ : Type} {q : Addr} {o : HO} (hF : ¬ s.F q) : ∀ {ps : List (κ × V)} {qs : List (κ × D)}, RepF K s ps qs → RepF K (s.prv q o) ps qs
  | [], [], _ => trivial
  | _ :: _, _ :: _, h => ⟨h.1, h.2.1.prv hF, RepF.prv hF h.2.2⟩
  | [], _ :: _, h => h.elim
  | _ :: _, [], h => h.elim
theorem S.prv_ok {q : Addr} {o : HO} (ok : Ok K cl s) (hF : ¬ s.F q) (hρ : q ∉ s.ρ) : Ok K cl (s.prv q o) := by
  refine ⟨ok.len, ok.nd, fun a ha => upd_there (ok.trk a ha), fun a ha => upd_there (ok.frz a ha), fun n a m hn hm => ?_, fun a hl ha => ok.dead a hl ha⟩
  have r := ok.cell n a m hn hm
  have ne : a ≠ q := fun z => hρ (by rw [← z]; exact List.mem_of_getElem? hn)
  cases m with
  | dead => trivial
  | lst xs => obtain ⟨vs, h1, h2⟩ := r; exact ⟨vs, (upd_ne ne).trans h1, h2.prv hF⟩
  | ins c fs => obtain ⟨C, dx, vfs, h0, h1, h2⟩ := r; exact ⟨C, dx, vfs, h0, (upd_ne ne).trans h1, h2.prv hF⟩
  | dct kvs => obtain ⟨vks, h1, h2⟩ := r; exact ⟨vks, (upd_ne ne).trans h1, h2.prv hF⟩
  | tab q' => obtain ⟨h0, ps, h1, ht, r⟩ := r; exact ⟨h0, ps, (upd_ne ne).trans h1, ht, fun pos cv hc => let ⟨c, z1, z2, z3⟩ := r pos cv hc; ⟨c, z1, z2, (upd_ne (fun z => hF (by rw [← z]; exact z2))).trans z3⟩⟩
  | fn ld => obtain ⟨o', h1, r⟩ := r; exact ⟨o', (upd_ne ne).trans h1, r.of fun a u z1 z2 => ⟨z1, (upd_ne (fun z => hF (by rw [← z]; exact z1))).trans z2⟩⟩
theorem S.prv_ext {q : Addr} {o : HO} (e : Ext s0 s) (h0 : s0.H q = none) : Ext s0 (s.prv q o) :=
  ⟨e.F, e.ρ, e.w, fun a u h nl => by
    show upd s.H q o a = some u
    rw [upd_ne (ne_of_none h h0)]; exact e.keep a u h nl, fun a h => upd_there (e.there a h), e.fnew⟩
theorem Ext.notF (e : Ext s s1) {q : Addr} (hF : ¬ s.F q) (hρ : q ∉ s.ρ) (hH : s.H q ≠ none) : ¬ s1.F q ∧ q ∉ s1.ρ := by
  refine ⟨fun h => ?_, fun h => ?_⟩
  · rcases e.fnew q h with h | h | h
    · exact hF h
    · exact hH h
    · exact hρ h
  · obtain ⟨l, h1, h2⟩ := e.ρ
    rw [h1] at h
    rcases List.mem_append.mp h with h | h
    · exact hρ h
    · exact hH (h2 q h)
/-- a thing of one's own is now for all to see, for good; or as a cell -/
def S.own (s : S) (q : Addr) : S := ⟨fun a => s.F a ∨ a = q, s.ρ, s.w, s.H⟩
theorem S.own_ext {q : Addr} (e : Ext s0 s) (h0 : s0.H q = none) : Ext s0 (s.own q) :=
  ⟨fun a h => .inl (e.F a h), e.ρ, e.w, e.keep, e.there, fun a h => by
    rcases h with h | h
    · exact e.fnew a h
    · subst h; exact .inr (.inl h0)⟩
mutual
theorem Rep.own {q : Addr} : ∀ {v : V} {d : D}, Rep K s v d → Rep K (s.own q) v d
  | _, _, .non => .non
  | _, _, .bl b => .bl b
  | _, _, .int i => .int i
  | _, _, .str x => .str x
  | _, _, .lst hF1 h r => .lst (.inl hF1) h (RepA.own r)
  | _, _, .tup h r => .tup (h.imp (fun x => ⟨.inl x.1, x.2⟩) id) (RepA.own r)
  | _, _, .obj h => .obj h
  | _, _, .scr h => .scr (h.imp (fun x => ⟨.inl x.1, x.2⟩) id)
theorem RepA.own {q : Addr} : ∀ {vs : List V} {ds : List D}, RepA K s vs ds → RepA K (s.own q) vs ds
  | _, _, .nil => .nil
  | _, _, .cons h r => .cons (Rep.own h) (RepA.own r)
end
theorem RepF.own {κ : Type} {q : Addr} : ∀ {ps : List (κ × V)} {qs : List (κ × D)}, RepF K s ps qs → RepF K (s.own q) ps qs
  | [], [], _ => trivial
  | _ :: _, _ :: _, h => ⟨h.1, h.2.1.own, RepF.own h.2.2⟩
  | [], _ :: _, h => h.elim
  | _ :: _, [], h => h.elim
theorem S.own_ok {q : Addr} (ok : Ok K cl s) (hH : s.H q ≠ none) (hρ : q ∉ s.ρ) : Ok K cl (s.own q) := by
  refine ⟨ok.len, ok.nd, ok.trk, fun a ha => ?_, fun n a m hn hm => ?_, fun a hl ha => ?_⟩
  · rcases ha with ha | ha
    · exact ok.frz a ha
    · subst ha; exact hH
  · have r := ok.cell n a m hn hm
    cases m with
    | dead => trivial
    | lst xs => obtain ⟨vs, h1, h2⟩ := r; exact ⟨vs, h1, h2.own⟩
    | ins c fs => obtain ⟨C, dx, vfs, h0, h1, h2⟩ := r; exact ⟨C, dx, vfs, h0, h1, h2.own⟩
    | dct kvs => obtain ⟨vks, h1, h2⟩ := r; exact ⟨vks, h1, h2.own⟩
    | tab q' => obtain ⟨h0, ps, h1, ht, r⟩ := r; exact ⟨h0, ps, h1, ht, fun pos cv hc => let ⟨c, z1, z2, z3⟩ := r pos cv hc; ⟨c, z1, .inl z2, z3⟩⟩
    | fn ld => obtain ⟨o, h1, r⟩ := r; exact ⟨o, h1, r.of fun a u z1 z2 => ⟨.inl z1, z2⟩⟩
  · rcases ha with ha | ha
    · exact ok.dead a hl ha
    · subst ha
      obtain ⟨n, hn, _⟩ := hl
      exact hρ (List.mem_of_getElem? hn)
end
section
variable {X : Cx} {cl : Str → Option Addr} {EK : XK} {a b c e elt tg iter : Expr} {ma mb mc : En → Wd → R D} {na nb : En → Wd → R Bool} {mas : En → Wd → R (List D)} {pos p : Pos}
abbrev E00 : XK := fun _ _ _ => False
def STs (X : Cx) (cl : Str → Option Addr) (EK : XK) (ifs : List Expr) (m : En → Wd → R Bool) : Prop := PTs X ifs (tG X.K cl repB EK m)
theorem PTs.weak {ifs : List Expr} {t t' : TT} (h : PTs X ifs t) (i : ∀ σ H Q, t' σ H Q → t σ H Q) : PTs X ifs t' := ⟨fun pins s σ H Q I q => h.run pins s σ H Q I (i σ H Q q)⟩
theorem sts_nil : STs X cl EK [] bYes := PTs.weak pts_nil fun σ H Q h => by
  obtain ⟨s, σd, e, ok, re, p⟩ := h
  subst e
  exact p s true (Ext.refl s) ok rfl rfl
theorem sts_one (h : ST X cl EK c na) : STs X cl EK [c] na := pts_one h
/-- the loop of a comprehension: Qf what is wanted of the list made -/
theorem lc_core {K : PySem.W.Frag} {sl : List Nat} {own : List (Str × Nat)} {mi : En → Wd → R (List D)} {f : D → En → Wd → Option En} {mt : En → Wd → R Bool} {me : En → Wd → R D} (hsl : ∀ j ∈ sl, j ∈ own.map (·.2)) {σ : L2.St} {σd : En} {s : S} {Q : VK} (ok : Ok K cl s) (re : RepE K s σ σd)
    (Fin : List D → Wd → R D) (p : Post K cl (Rep K) EK s ((mi σd s.w).bind fun ds w1 => (lcL (own.map (·.2)) f mt me σd ds [] w1).bind Fin) Q)
    (fin : ∀ s0 s1 q vs xs, Ext s0 s1 → Ok K cl s1 → s0.H q = none → ¬ s1.F q → q ∉ s1.ρ → s1.H q = some (.lst vs) → RepA K s1 vs xs → Post K cl (Rep K) EK s0 (Fin xs s1.w) Q → Q (.ref q) s1.H) :
    tLc (tG K cl (repIt K cl) EK mi) (tTg K cl sl f) (tG K cl repB E00 mt) (tG K cl (Rep K) E00 me) (own.map (·.2)) σ s.H Q := by
  refine tG_of ok re (post_bind p fun s0 J ds ex0 ok0 rJ p0 => ?_)
  intro q hq
  have hF0 : ¬ s0.F q := fun z => ok0.frz q z hq
  have hρ0 : q ∉ s0.ρ := fun z => ok0.trk q z hq
  have re0 := re.mono ok ex0
  refine ⟨fun i mm H => ∃ s1 acc vs, mm = ds.length - i ∧ i ≤ ds.length ∧ s1.H = H ∧ Ext s0 s1 ∧ Ok K cl s1 ∧ ¬ s1.F q ∧ q ∉ s1.ρ ∧ s1.H q = some (.lst vs) ∧ RepA K s1 vs acc ∧ Post K cl (Rep K) EK s0 ((lcL (own.map (·.2)) f mt me σd (ds.drop i) acc s1.w).bind Fin) Q,
    ⟨ds.length, s0.prv q (.lst []), [], [], by simp, Nat.zero_le _, rfl, S.prv_ext (Ext.refl s0) hq, S.prv_ok ok0 hF0 hρ0, hF0, hρ0, upd_same, .nil, p0⟩, ?_⟩
  rintro i mm H1 ⟨s1, acc, vs, rfl, hle, rfl, e1, ok1, hF1, hρ1, hq1, ra, p1⟩
  obtain ⟨go, yl, stop⟩ := rJ s1 (e1.toF ok0) ok1
  by_cases hlt : i < ds.length
  · have hd : ds.drop i = ds[i] :: ds.drop (i + 1) := List.drop_eq_getElem_cons hlt
    rw [hd] at p1
    refine .inr ⟨go i hlt, fun H' => ∃ s2 acc2 vs2, s2.H = H' ∧ Ext s0 s2 ∧ Ok K cl s2 ∧ ¬ s2.F q ∧ q ∉ s2.ρ ∧ s2.H q = some (.lst vs2) ∧ RepA K s2 vs2 acc2 ∧ Post K cl (Rep K) EK s0 ((lcL (own.map (·.2)) f mt me σd (ds.drop (i + 1)) acc2 s2.w).bind Fin) Q,
      fun H' ⟨s2, acc2, vs2, b1, b2, b3, b4, b5, b6, b7, b8⟩ => ⟨ds.length - (i + 1), by omega, s2, acc2, vs2, rfl, hlt, b1, b2, b3, b4, b5, b6, b7, b8⟩, fun x H' hy => ?_⟩
    obtain ⟨s2, rfl, e2, ok2, w2, r2⟩ := yl i x H' ds[i] hy (List.getElem?_eq_getElem hlt)
    have nl : ¬ live s1 q := fun ⟨n, hn, _⟩ => hρ1 (List.mem_of_getElem? hn)
    have k2 := e2.notF hF1 hρ1 (by rw [hq1]; simp)
    have re2 : RepE K s2 (L2.wipe σ (own.map (·.2))) (wipeD σd (own.map (·.2))) := (re0.mono ok0 (e1.trans e2)).wipe _
    refine ⟨s2, _, ds[i], rfl, ok2, re2, r2, ?_⟩
    rw [w2]
    unfold lcL at p1
    cases q1 : f ds[i] (wipeD σd (own.map (·.2))) s1.w with
    | none => rw [q1] at p1; exact p1.elim
    | some τ1 =>
      rw [q1] at p1
      dsimp only at p1 ⊢
      intro σ' re' hl' hk'
      refine ⟨wipe_of hl' hk' hsl, s2, τ1, rfl, ok2, re', ?_⟩
      rw [w2]
      cases q2 : mt τ1 s1.w with
      | ok bb w3 =>
        rw [q2] at p1
        intro s3 b3 e3 ok3 hw rb
        subst rb
        have nl2 : ¬ live s2 q := fun ⟨n, hn, _⟩ => k2.2 (List.mem_of_getElem? hn)
        have k3 := e3.notF k2.1 k2.2 (by rw [e2.keep q _ hq1 nl]; simp)
        have nl3 : ¬ live s3 q := fun ⟨n, hn, _⟩ => k3.2 (List.mem_of_getElem? hn)
        have hq3 := e3.keep q _ (e2.keep q _ hq1 nl) nl2
        have ra3 := (ra.mono ok1 e2).mono ok2 e3
        cases b3 with
        | false => exact iteF ⟨s3, acc, vs, rfl, (e1.trans e2).trans e3, ok3, k3.1, k3.2, hq3, ra3, by rw [hw]; exact p1⟩
        | true =>
          refine iteT ⟨s3, τ1, rfl, ok3, re'.mono ok2 e3, ?_⟩
          rw [hw]
          dsimp only at p1
          cases q3 : me τ1 w3 with
          | ok y w4 =>
            rw [q3] at p1
            dsimp only at p1
            split at p1
            · rename_i hlen
              intro s4 v4 e4 ok4 hw4 r4
              have k4 := e4.notF k3.1 k3.2 (by rw [hq3]; simp)
              have hq4 := e4.keep q _ hq3 nl3
              have ra4 := ra3.mono ok3 e4
              refine ⟨vs, hq4, by rw [ra.length, sizeLine_eq]; exact hlen, s4.prv q (.lst (vs ++ [v4])), acc ++ [y], vs ++ [v4], rfl, S.prv_ext (((e1.trans e2).trans e3).trans e4) hq, S.prv_ok ok4 k4.1 k4.2, k4.1, k4.2, upd_same, (ra4.append (.cons r4 .nil)).prv k4.1, ?_⟩
              show Post K cl (Rep K) EK s0 ((lcL (own.map (·.2)) f mt me σd (ds.drop (i + 1)) (acc ++ [y]) s4.w).bind Fin) Q
              rw [hw4]
              exact p1
            · exact p1.elim
          | err c fs w4 => rw [q3] at p1; exact p1.elim
          | stuck => rw [q3] at p1; exact p1.elim
      | err c fs w3 => rw [q2] at p1; exact p1.elim
      | stuck => rw [q2] at p1; exact p1.elim
  · have hi' : i = ds.length := by omega
    subst hi'
    rw [List.drop_length] at p1
    exact .inl ⟨stop, fin s0 s1 q vs acc e1 ok1 hq hF1 hρ1 hq1 ra p1⟩
theorem lc_finL {K : PySem.W.Frag} {Q : VK} : ∀ (s0 s1 : S) (q : Addr) (vs : List V) (xs : List D), Ext s0 s1 → Ok K cl s1 → s0.H q = none → ¬ s1.F q → q ∉ s1.ρ → s1.H q = some (.lst vs) → RepA K s1 vs xs → Post K cl (Rep K) EK s0 (.ok (.lst xs) s1.w) Q → Q (.ref q) s1.H :=
  fun s0 s1 q vs xs e ok h0 hF hρ hq ra p => p (s1.own q) _ (S.own_ext e h0) (S.own_ok ok (by rw [hq]; simp) hρ) rfl (.lst (.inr rfl) hq ra.own)
/-- .. the new list as a cell -/
def S.ownC (s : S) (q : Addr) (m : MO) : S := ⟨s.F, s.ρ ++ [q], s.w ++ [m], s.H⟩
mutual
theorem Rep.ownC {K : PySem.W.Frag} {s : S} {q : Addr} {m : MO} : ∀ {v : V} {d : D}, Rep K s v d → Rep K (s.ownC q m) v d
  | _, _, .non => .non
  | _, _, .bl b => .bl b
  | _, _, .int i => .int i
  | _, _, .str x => .str x
  | _, _, .lst hF1 h r => .lst hF1 h (RepA.ownC r)
  | _, _, .tup h r => .tup h (RepA.ownC r)
  | _, _, .obj h => .obj (by show (s.ρ ++ [q])[_]? = _; rw [List.getElem?_append_left (List.getElem?_eq_some_iff.mp h).1]; exact h)
  | _, _, .scr h => .scr h
theorem RepA.ownC {K : PySem.W.Frag} {s : S} {q : Addr} {m : MO} : ∀ {vs : List V} {ds : List D}, RepA K s vs ds → RepA K (s.ownC q m) vs ds
  | _, _, .nil => .nil
  | _, _, .cons h r => .cons (Rep.ownC h) (RepA.ownC r)
end
theorem se_lc {sl : List Nat} {ifs : List Expr} {scope : Scope} {own : List (Str × Nat)} {mi : En → Wd → R (List D)} {f : D → En → Wd → Option En} {mt : En → Wd → R Bool} {me : En → Wd → R D} (hc : X.calm = true) (hN : X.N.Nodup) (hi : SI X cl EK tg iter mi) (ok : BlkOk X.N X.env.scope scope own)
    (hg : ∀ (s : Shared) (H : Hp) (C : Addr) (cc : List (Str × Addr)) (fp : List Addr), SG (X.blk s H scope (compEnvC scope cc C X.env) fp) cl tg sl f) (ht : ∀ (s : Shared) (H : Hp) (C : Addr) (cc : List (Str × Addr)) (fp : List Addr), STs (X.blk s H scope (compEnvC scope cc C X.env) fp) cl E00 ifs mt)
    (he : ∀ (s : Shared) (H : Hp) (C : Addr) (cc : List (Str × Addr)) (fp : List Addr), SE (X.blk s H scope (compEnvC scope cc C X.env) fp) cl E00 elt me) (hsl : ∀ j ∈ sl, j ∈ own.map (·.2) := by decide) (hs : ∀ x, foldedSetIterable iter X.env x = pure x := by intro _; rfl) :
    SE X cl EK (.ListComp elt [⟨tg, iter, ifs, 0⟩] scope pos) (mLc mi (own.map (·.2)) f mt me) :=
  PE.weak (pe_lc (g := tTg X.K cl sl f) (tt := tG X.K cl repB E00 mt) (te := tG X.K cl (Rep X.K) E00 me) hc hN hi ok hg ht he hs) fun σ H Q ⟨s, σd, e, ok, re, p⟩ => by
    subst e
    exact lc_core hsl ok re (fun xs w2 => .ok (.lst xs) w2) p lc_finL
/-- name = [..] -/
theorem ss_setLc {i : Nat} {y : Str} {py spos : Pos} {sl : List Nat} {ifs : List Expr} {scope : Scope} {own : List (Str × Nat)} {mi : En → Wd → R (List D)} {f : D → En → Wd → Option En} {mt : En → Wd → R Bool} {me : En → Wd → R D} (hc : X.calm = true) (hN : X.N.Nodup) (hy : X.N[i]? = some y) (hyl : X.env.scope.names.lookup y = some .local)
    (hsw : swapsWith (.ListComp elt [⟨tg, iter, ifs, 0⟩] scope pos) (some (.Name y py)) spos.line X.env = pure true) (hi : SI X cl EK tg iter mi) (ok : BlkOk X.N X.env.scope scope own)
    (hg : ∀ (s : Shared) (H : Hp) (C : Addr) (cc : List (Str × Addr)) (fp : List Addr), SG (X.blk s H scope (compEnvC scope cc C X.env) fp) cl tg sl f) (ht : ∀ (s : Shared) (H : Hp) (C : Addr) (cc : List (Str × Addr)) (fp : List Addr), STs (X.blk s H scope (compEnvC scope cc C X.env) fp) cl E00 ifs mt)
    (he : ∀ (s : Shared) (H : Hp) (C : Addr) (cc : List (Str × Addr)) (fp : List Addr), SE (X.blk s H scope (compEnvC scope cc C X.env) fp) cl E00 elt me) (hsl : ∀ j ∈ sl, j ∈ own.map (·.2) := by decide) (hs : ∀ x, foldedSetIterable iter X.env x = pure x := by intro _; rfl) :
    SS X cl EK (.Assign [.Name y py] (.ListComp elt [⟨tg, iter, ifs, 0⟩] scope pos) spos) (mAsg (mLc mi (own.map (·.2)) f mt me) (gNm i)) :=
  PS.weak (ps_setLc (g := tTg X.K cl sl f) (tt := tG X.K cl repB E00 mt) (te := tG X.K cl (Rep X.K) E00 me) hc hN hy hyl hsw hi ok hg ht he hs) fun D σ H ⟨s, σd, e, ok, re, p⟩ => by
    subst e
    refine lc_core (EK := EK) (cl := cl) hsl ok re (fun xs w2 => .ok (.lst xs) w2) (Q := fun x H1 => D.nx (σ.set i (some x)) H1) ?_ lc_finL
    exact posts_bind (rep := Rep X.K) p fun s' v d ex ok' r p' => p' s' _ (Ext.refl s') ok' rfl ((re.mono ok ex).set i r)
/-! ### own defs -/
def spOf (K : PySem.W.Frag) (cl : Str → Option Addr) (G : List D → Wd → R D) : Sp := fun vs H Q E => ∃ s ds, s.H = H ∧ Ok K cl s ∧ RepA K s vs ds ∧ Post K cl (Rep K) E s (G ds s.w) Q
/-- the def f of the text does what G says -/
abbrev SF (P : Program) (w : World) (K : PySem.W.Frag) (cl : Str → Option Addr) (mg : Str → Option Value) (base : Heap) (k : Nat) (f : Addr) (fd : FuncData) (ps : List Str) (G : List D → Wd → R D) : Prop := FnOk P w K mg base (L2.CX P w) k f fd ps (spOf K cl G)
theorem SF.imp {P : Program} {w : World} {K : PySem.W.Frag} {mg : Str → Option Value} {base : Heap} {k : Nat} {f : Addr} {fd : FuncData} {ps : List Str} {G G' : List D → Wd → R D} (F : SF P w K cl mg base k f fd ps G) (h : ∀ ds w, G' ds w = .stuck ∨ G' ds w = G ds w) : SF P w K cl mg base k f fd ps G' :=
  FnOk.imp F fun vs H Q E ⟨s, ds, a, b, c, p⟩ => ⟨s, ds, a, b, c, by
    rcases h ds s.w with e | e
    · rw [e] at p; exact p.elim
    · rw [e] at p; exact p⟩
theorem se_fn {k : Nat} {f : Addr} {fd : FuncData} {ps : List Str} {G : List D → Wd → R D} {x : Str} {es : List Expr} (F : SF X.prog X.w X.K cl X.mg X.base k f fd ps G) (hr : Room k X.A) (hg : Gl X x) (hm : X.mg x = some (.ref f)) (hk : PySem.W.keepIn X.K (.ref f) = true) (hb : Binds X.K fd ps []) (hx : Passes (L2.CX X.prog X.w) X EK)
    (ha : SA X cl EK (a :: es) mas) (hdb : (x == ("__debug__" : Str)) = false := by decide) (he : starEach (a :: es) X.env = (false, eval a X.env) :: starEach es X.env := by rfl) (hpl : (backTo pos (starEach es X.env)).any (·.1) = false := by rfl) :
    SE X cl EK (.Call (.Name x p) (a :: es) [] pos) (mCall G mas) :=
  PE.weak (pe_call F hr hg hm hk hb .nil hx ha hdb he hpl) fun σ H Q h => tG_imp (tG_bind h) fun xs H1 ⟨s, σd, u, e, ok, re, ru, p⟩ => by
    subst e
    exact ⟨s, u, rfl, ok, by rw [List.append_nil]; exact ru, p⟩
def startD (n : Nat) (ds : List D) : En := ds.map some ++ List.replicate (n - ds.length) none
/-- what a def's body makes of its arguments: n names, k of them parameters -/
def fnD (n k : Nat) (m : En → Wd → SR) : List D → Wd → R D := fun ds w => if ds.length = k then (match m (startD n ds) w with
  | .next _ w1 => .ok .non w1
  | .ret d w1 => .ok d w1
  | .err c fs w1 => .err c fs w1
  | _ => .stuck) else .stuck
theorem start_rep {K : PySem.W.Frag} {s : S} {vs : List V} {ds : List D} (r : RepA K s vs ds) (N : List Str) : RepE K s (L2.start N vs) (startD N.length ds) := by
  refine ⟨by unfold L2.start startD; rw [List.length_append, List.length_append, List.length_map, List.length_map, List.length_replicate, List.length_replicate, r.length], fun i d h => ?_⟩
  unfold startD at h
  by_cases hi : i < ds.length
  · rw [List.getElem?_append_left (by rw [List.length_map]; exact hi), List.getElem?_map] at h
    cases q : ds[i]? with
    | none => rw [q] at h; cases h
    | some d0 =>
      rw [q] at h
      cases h
      obtain ⟨v, hv, rv⟩ := r.get q
      refine ⟨v, ?_, rv⟩
      unfold L2.start
      rw [List.getElem?_append_left (by rw [List.length_map, r.length]; exact hi), List.getElem?_map, hv]
      rfl
  · rw [List.getElem?_append_right (by rw [List.length_map]; omega), List.getElem?_replicate] at h
    split at h <;> cases h
theorem sf_mk {P : Program} {w : World} {K : PySem.W.Frag} {mg : Str → Option Value} {base : Heap} {x qual : Str} {st : Stmt} {f : Addr} {fd : FuncData} {N ps : List Str} {k n j : Nat} {m : En → Wd → SR} (F : Fun K x qual st f fd) (S : FnScope N ps (defScope st)) (hn : N.length = n) (hj : ps.length = j)
    (body : ∀ (cdv : Value) (A : Around) (outer : List Env) (s : Shared) (H : Hp) (E : XK), Room k (A.deeper (envOfC qual (defScope st) s.heap.objs.size f cdv)) → SB (cxOf (L2.CX P w) P w K mg base N qual (defScope st) f cdv A outer s H E) cl E (defBody st) m) : SF P w K cl mg base (k + 1) f fd ps (fnD n j m) := by
  refine F.okX S (fun vs H Q E ⟨s, ds, _, _, r, p⟩ => ?_) (fun cdv A outer s H vs Q E hr h => ⟨_, body cdv A outer s H E hr, ?_⟩)
  · rw [r.length]
    by_cases e : ds.length = j
    · rw [e, hj]
    · unfold fnD at p; rw [if_neg e] at p; exact p.elim
  · obtain ⟨s0, ds, e0, ok, r, p⟩ := h
    subst e0
    unfold fnD at p
    by_cases e : ds.length = j
    · rw [if_pos e] at p
      refine ⟨s0, startD n ds, rfl, ok, by rw [← hn]; exact start_rep r N, ?_⟩
      cases q : m (startD n ds) s0.w with
      | next σ1 w1 => rw [q] at p; exact fun s' σ' ex ok' hw re' => p s' .non ex ok' hw .non
      | ret d w1 => rw [q] at p; exact p
      | brk σ1 w1 => rw [q] at p; exact p.elim
      | cnt σ1 w1 => rw [q] at p; exact p.elim
      | err c fs w1 => rw [q] at p; exact p
      | stuck => rw [q] at p; exact p.elim
    · rw [if_neg e] at p; exact p.elim
end
end Si

set_option Elab.async false
set_option linter.all false
set_option autoImplicit false
set_option maxRecDepth 100000
set_option maxHeartbeats 4000000
/-! Si9: lists that change in their cells; join. -/
namespace Si
open PySem L2 PyProof.Rows
section
variable {K : PySem.W.Frag} {cl : Str → Option Addr} {s : S} {EK : XK}
/-- the list in a cell -/
def cellL (u : D) (w : Wd) : Option (Nat × List D) := match u with
  | .obj n => match w[n]? with
    | some (.lst ds) => some (n, ds)
    | _ => none
  | _ => none
theorem cell_of {v : V} {u : D} {n : Nat} {ds : List D} (ok : Ok K cl s) (r : Rep K s v u) (h : cellL u s.w = some (n, ds)) : ∃ a vs, v = .ref a ∧ s.ρ[n]? = some a ∧ s.H a = some (.lst vs) ∧ RepA K s vs ds ∧ s.w[n]? ≠ some MO.dead := by
  unfold cellL at h
  split at h
  · rename_i m
    split at h
    · rename_i ds' hw
      cases h
      cases r with
      | obj hn =>
        obtain ⟨vs, h1, h2⟩ := ok.cell _ _ _ hn hw
        exact ⟨_, vs, rfl, hn, h1, h2, by rw [hw]; simp⟩
    · cases h
  · cases h
theorem post_wr {rep : S → V → D → Prop} {Q : VK} {n : Nat} {a : Addr} {vs : List V} {ds : List D} {d : D} {v : V} (ok : Ok K cl s) (hn : s.ρ[n]? = some a) (hd : s.w[n]? ≠ some MO.dead) (r : RepA K s vs ds) (p : Post K cl rep EK s (.ok d (s.w.set n (.lst ds))) Q) (rv : rep (s.wr n a (.lst vs) (.lst ds)) v d) : Q v (upd s.H a (.lst vs)) := by
  have ex : Ext s (s.wr n a (.lst vs) (.lst ds)) := S.wr_ext ok hn hd
  exact p (s.wr n a (.lst vs) (.lst ds)) v ex (S.wr_ok ok hn hd ⟨vs, upd_same, r.mono ok ex⟩) rfl rv
end
section
variable {X : Cx} {cl : Str → Option Addr} {EK : XK} {a b c o i e : Expr} {ma mb mo mi me : En → Wd → R D} {mas : En → Wd → R (List D)} {pos p apos cpos spos : Pos} {es : List Expr}
/-- o[i] = e -/
def mSetI (me mo mi : En → Wd → R D) : En → Wd → SR := fun σd w => (me σd w).toS fun d w1 => (mo σd w1).toS fun u w2 => (mi σd w2).toS fun j w3 => match cellL u w3, j with
  | some (n, ds), .int k => match ixN ds.length k with
    | some j => .next σd (w3.set n (.lst (ds.set j d)))
    | none => .stuck
  | _, _ => .stuck
theorem ss_setI (he : SE X cl EK e me) (ho : SE X cl EK o mo) (hi : SE X cl EK i mi) (hs : swapsWithSole [.Subscript o i spos] e pos.line X.env = pure false := by rfl) (hw : swappedStores [.Subscript o i spos] e X.env = pure none := by rfl)
    (h1 : (assignEach [.Subscript o i spos] X.env).map (·.2) = [assign (.Subscript o i spos) X.env] := by rfl) (ha : ∀ v, assign (.Subscript o i spos) X.env v = (do
      let ov ← holding [v] (eval o X.env)
      let iv ← holding [v, ov] (eval i X.env)
      standAt spos
      holding [v, ov, iv] (setItem ov iv v)
      release [v, ov, iv] []) := by intro _; rfl) : SS X cl EK (.Assign [.Subscript o i spos] e pos) (mSetI me mo mi) := PS.weak (ps_asg he (pg_sub ho hi set_list ha) hs hw h1) fun D σ H ⟨s, σd, e, ok, re, p⟩ => by
  subst e
  refine tG_of ok re (posts_bind p fun s1 v d ex1 ok1 r1 p1 => ?_)
  refine tG_of ok1 (re.mono ok ex1) (posts_bind p1 fun s2 x u ex2 ok2 r2 p2 => ?_)
  refine tG_of ok2 ((re.mono ok ex1).mono ok1 ex2) (posts_bind p2 fun s3 y j ex3 ok3 r3 p3 => ?_)
  split at p3
  · rename_i n ds k hc
    rw [rep_int r3]
    obtain ⟨q, vs, rfl, hn, hH, ra, hd⟩ := cell_of ok3 (r2.mono ok2 ex3) hc
    split at p3
    · rename_i j hj
      have rd := (r1.mono ok1 ex2).mono ok2 ex3
      refine ⟨q, vs, k, j, rfl, rfl, hH, by rw [ra.length]; exact hj, ?_⟩
      have ex : Ext s3 (s3.wr n q (.lst (vs.set j v)) (.lst (ds.set j d))) := S.wr_ext ok3 hn hd
      exact p3 _ σ ex (S.wr_ok ok3 hn hd ⟨_, upd_same, (ra.set j rd).mono ok3 ex⟩) rfl ((((re.mono ok ex1).mono ok1 ex2).mono ok2 ex3).mono ok3 ex)
    · exact p3.elim
  · exact p3.elim
/-- o.append(e) -/
def mApp (mo me : En → Wd → R D) : En → Wd → R D := fun σd w => (mo σd w).bind fun u w1 => match cellL u w1 with
  | none => .stuck
  | some _ => (me σd w1).bind fun d w2 => match cellL u w2 with
    | some (n, ds) => if ds.length < 16777216 then .ok .non (w2.set n (.lst (ds ++ [d]))) else .stuck
    | none => .stuck
theorem se_append (ho : SE X cl EK o mo) (he : SE X cl EK e me) (hbase : attributeBase o "append" X.env (eval o X.env) = eval o X.env := by rfl)
    (hfew : ((backTo cpos (starEach [e] X.env)).all (fun x => !x.1) && (backToKw cpos (keywordEach [] X.env)).all (fun x => x.1.isSome)
      && decide ([e].length + ([] : List Keyword).length + (if ([] : List Keyword).isEmpty then 0 else 1) < 30)) = true := by rfl)
    (hline : (apos.endLine == cpos.line) = true := by rfl) (hs : starEach [e] X.env = (false, eval e X.env) :: starEach [] X.env := by rfl) (hplain : (backTo cpos (starEach [] X.env)).any (·.1) = false := by rfl) :
    SE X cl EK (.Call (.Attribute o "append" apos) [e] [] cpos) (mApp mo me) :=
  PE.weak (pe_bm PySem.F.plainAttrs_list PySem.F.slot_list_append PySem.F.type_list_append mt_append ho (pa_cons he pa_nil hs) hbase hfew hline hs hplain) fun σ H Q h => tG_imp (tG_bind h) fun x H1 ⟨s, σd, u, e, ok, re, ru, p⟩ => by
    subst e
    dsimp only at p
    split at p
    · exact p.elim
    · rename_i nd hc
      obtain ⟨n, ds⟩ := nd
      obtain ⟨q, vs, rfl, hn, hH, ra, hd⟩ := cell_of ok ru hc
      refine ⟨.inl ⟨rfl, _, SqL.of hH⟩, tG_of ok re (post_bind p fun s2 v d ex2 ok2 r2 p2 => ?_)⟩
      split at p2
      · rename_i n2 ds2 hc2
        obtain ⟨q2, vs2, e2, hn2, hH2, ra2, hd2⟩ := cell_of ok2 (ru.mono ok ex2) hc2
        cases e2
        split at p2
        · rename_i hl
          exact ⟨q, vs2, v, rfl, rfl, hH2, by rw [ra2.length, sizeLine_eq]; exact hl, post_wr ok2 hn2 hd2 (ra2.append (.cons r2 .nil)) p2 .non⟩
        · exact p2.elim
      · exact p2.elim
/-- o.pop(i) -/
def mPopAt (mo mi : En → Wd → R D) : En → Wd → R D := fun σd w => (mo σd w).bind fun u w1 => match cellL u w1 with
  | none => .stuck
  | some _ => (mi σd w1).bind fun d w2 => match cellL u w2, d with
    | some (n, ds), .int k => if -(2 ^ 63) ≤ k ∧ k < 2 ^ 63 then (match ixN ds.length k with
      | some j => match ds[j]? with
        | some y => .ok y (w2.set n (.lst (ds.eraseIdx j)))
        | none => .stuck
      | none => .stuck) else .stuck
    | _, _ => .stuck
theorem RepA.eraseIdx {K : PySem.W.Frag} {s : S} : ∀ {vs : List V} {ds : List D} (i : Nat), RepA K s vs ds → RepA K s (vs.eraseIdx i) (ds.eraseIdx i)
  | _, _, _, .nil => .nil
  | _, _, 0, .cons _ r => r
  | _, _, i + 1, .cons h r => .cons h (RepA.eraseIdx i r)
/-- sep.join(xs) -/
def stA : List D → Option (List Str)
  | [] => some []
  | .str b :: r => (stA r).map (b :: ·)
  | _ :: _ => none
def gJoin : D → D → Wd → R D := fun u v w => match u with
  | .str a => match (seqD v w).bind stA with
    | some ys => if (ys.map (·.length)).sum + ys.length * a.length ≤ 16777216 then .ok (.str (Txt.join a ys)) w else .stuck
    | none => .stuck
  | _ => .stuck
def mJoin (mo me : En → Wd → R D) : En → Wd → R D := fun σd w => (mo σd w).bind fun u w1 => match u with
  | .str a => (me σd w1).bind fun v w2 => gJoin (.str a) v w2
  | _ => .stuck
/-- a name of the module that holds a written value -/
theorem se_glob {x : Str} {v : V} {d : D} {u : Value} (hg : Gl X x) (hm : X.mg x = some u) (r : RelV v u) (rd : ∀ s, Rep X.K s v d) (hdb : (x == ("__debug__" : Str)) = false := by decide) : SE X cl EK (.Name x pos) (mC d) := se_c (pe_glob hg hm r hdb) rd
end
end Si

set_option Elab.async false
set_option linter.all false
set_option autoImplicit false
set_option maxRecDepth 100000
set_option maxHeartbeats 4000000
/-! Si10: a def as it stands, constants of the module, calls with keywords. -/
namespace Si
open PySem L2 PyProof.Rows
theorem hu64 {k : Nat} {A : Around} (r : Room k A) : A.units + 64 < cLine := r.units
theorem hu65 {k : Nat} {A : Around} (r : Room k A) : A.units + 65 < cLine := by have := r.un; omega
/-- the module's name x holds the written value d -/
def CN (K : PySem.W.Frag) (mg : Str → Option Value) (x : Str) (d : D) : Prop := ∃ u v, mg x = some u ∧ RelV v u ∧ ∀ s, Rep K s v d
/-- a def of the text, what it does -/
structure At (P : Program) (w : World) (K : PySem.W.Frag) (cl : Str → Option Addr) (mg : Str → Option Value) (base : Heap) (k : Nat) (x : Str) (st : Stmt) (ps : List Str) (f : Addr) (fd : FuncData) (G : List D → Wd → R D) : Prop where
  F : Fun K x x st f fd
  g : mg x = some (.ref f)
  b : Binds K fd ps []
  ok : SF P w K cl mg base k f fd ps G
section
variable {X : Cx} {cl : Str → Option Addr} {EK : XK} {a : Expr} {ma : En → Wd → R D} {mas mks : En → Wd → R (List D)} {pos p kpos : Pos} {es : List Expr} {x : Str} {kws : List Keyword} {nm : Option Str}
theorem se_cn {d : D} (hg : Gl X x) (h : CN X.K X.mg x d) (hdb : (x == ("__debug__" : Str)) = false := by decide) : SE X cl EK (.Name x pos) (mC d) := by
  obtain ⟨u, v, h1, h2, h3⟩ := h
  exact se_glob hg h1 h2 h3 hdb
theorem PK.weak {kws : List Keyword} {t t' : TA} (h : PK X kws t) (i : ∀ σ H Q, t' σ H Q → t σ H Q) : PK X kws t' := ⟨fun pos pins s σ H Q I q => h.run pos pins s σ H Q I (i σ H Q q)⟩
/-- the parameters' order -/
def permL {α : Type} (pm : List Nat) (xs : List α) : List α := pm.filterMap fun i => xs[i]?
theorem permL_rep {K : PySem.W.Frag} {s : S} {vs : List V} {us : List D} (r : RepA K s vs us) : ∀ pm : List Nat, RepA K s (permL pm vs) (permL pm us)
  | [] => .nil
  | i :: pm => by
    have ih := permL_rep r pm
    unfold permL at ih ⊢
    rw [List.filterMap_cons, List.filterMap_cons]
    cases q : us[i]? with
    | none =>
      have q2 : vs[i]? = none := List.getElem?_eq_none_iff.mpr (by rw [r.length]; exact List.getElem?_eq_none_iff.mp q)
      rw [q2]; exact ih
    | some v =>
      obtain ⟨u, hu, ru⟩ := r.get q
      rw [hu]; exact .cons ru ih
def mCallK (G : List D → Wd → R D) (pm : List Nat) (mas mks : En → Wd → R (List D)) : En → Wd → R D := fun σd w => (mas σd w).bind fun us w1 => (mks σd w1).bind fun zs w2 => G (permL pm (us ++ zs)) w2
theorem aNil_len {σd : En} {w : Wd} {us : List D} {w' : Wd} (h : aNil σd w = .ok us w') : us.length = 0 := by cases h; rfl
theorem aCons_len {n : Nat} (hr : ∀ σd w us w', mas σd w = .ok us w' → us.length = n) : ∀ σd w us w', aCons ma mas σd w = .ok us w' → us.length = n + 1 := by
  intro σd w us w' h
  unfold aCons at h
  cases q : ma σd w with
  | ok d w1 =>
    rw [q] at h; dsimp only [R.bind] at h
    cases q2 : mas σd w1 with
    | ok d2 w2 => rw [q2] at h; dsimp only [R.bind] at h; cases h; exact congrArg (· + 1) (hr _ _ _ _ q2)
    | err c fs w1 => rw [q2] at h; cases h
    | stuck => rw [q2] at h; cases h
  | err c fs w1 => rw [q] at h; cases h
  | stuck => rw [q] at h; cases h
end
end Si

set_option Elab.async false
set_option linter.all false
set_option autoImplicit false
set_option maxRecDepth 100000
set_option maxHeartbeats 4000000
/-! Si11: the law's own call. -/
namespace Si
open PySem L2 PyProof.Rows
theorem cx_false {P : Program} {w : World} {H : Hp} {s : Shared} {e : Value} {s' : Shared} (h : L2.CX P w [] H s (fun _ _ _ => False) e s') : False := by
  obtain ⟨_, _, _, _, _, _, _, _, _, _, _, _, z⟩ := h
  exact z
end Si

set_option Elab.async false
set_option linter.all false
set_option autoImplicit false
set_option maxRecDepth 100000
set_option maxHeartbeats 4000000
/-! Si12: plain laws about what is reckoned; the draws. -/
namespace Si
open PySem
theorem ix20 (a b : D) : L2.atI [a, b] 0 = some a := rfl
theorem ix21 (a b : D) : L2.atI [a, b] 1 = some b := rfl
theorem ix30 (a b c : D) : L2.atI [a, b, c] 0 = some a := rfl
theorem ix31 (a b c : D) : L2.atI [a, b, c] 1 = some b := rfl
theorem ix32 (a b c : D) : L2.atI [a, b, c] 2 = some c := rfl
theorem ix40 (a b c d : D) : L2.atI [a, b, c, d] 0 = some a := rfl
theorem ix41 (a b c d : D) : L2.atI [a, b, c, d] 1 = some b := rfl
theorem ix42 (a b c d : D) : L2.atI [a, b, c, d] 2 = some c := rfl
theorem ix43 (a b c d : D) : L2.atI [a, b, c, d] 3 = some d := rfl
theorem ixN40 : L2.ixN 4 0 = some 0 := rfl
theorem ixN41 : L2.ixN 4 1 = some 1 := rfl
theorem ixN42 : L2.ixN 4 2 = some 2 := rfl
theorem ixN43 : L2.ixN 4 3 = some 3 := rfl
theorem der_set {w : Wd} {n : Nat} (hn : n < w.length) (ds : List D) : derefL (.obj n) (w.set n (.lst ds)) = some ds := by simp [derefL, List.getElem?_set_self hn]
theorem cel_set {w : Wd} {n : Nat} (hn : n < w.length) (ds : List D) : cellL (.obj n) (w.set n (.lst ds)) = some (n, ds) := by simp [cellL, List.getElem?_set_self hn]
theorem der_of {w : Wd} {n : Nat} {ds : List D} (h : w[n]? = some (.lst ds)) : derefL (.obj n) w = some ds := by simp [derefL, h]
theorem cel_of {w : Wd} {n : Nat} {ds : List D} (h : w[n]? = some (.lst ds)) : cellL (.obj n) w = some (n, ds) := by simp [cellL, h]
theorem der_lst {w : Wd} {ds : List D} : derefL (.lst ds) w = some ds := rfl
theorem addI {i j : Int} {w : Wd} : gAdd (.int i) (.int j) w = .ok (.int (i + j)) w := rfl
theorem subI {i j : Int} {w : Wd} : Si.gSub (.int i) (.int j) w = .ok (.int (i - j)) w := rfl
theorem mulC {i j : Int} {w : Wd} (h : -(2 ^ 64) < j ∧ j < 2 ^ 64) : gMul (.int i) (.int j) w = .ok (.int (i * j)) w := by
  simp only [gMul]
  rw [if_pos (.inl (.inr h))]
theorem mulL {i j : Int} {w : Wd} (h : -(2 ^ 64) < i ∧ i < 2 ^ 64) : gMul (.int i) (.int j) w = .ok (.int (i * j)) w := by
  simp only [gMul]
  rw [if_pos (.inl (.inl h))]
theorem mulM {i y m : Int} {w : Wd} (h : 0 < m ∧ m < 2 ^ 64) : gMul (.int i) (.int (y % m)) w = .ok (.int (i * (y % m))) w :=
  mulC ⟨Int.lt_of_lt_of_le (by decide) (Int.emod_nonneg y (by omega)), Int.lt_trans (Int.emod_lt_of_pos y h.1) h.2⟩
theorem divC {i j : Int} {w : Wd} (h : 0 < j ∧ j.natAbs.log2 < 9000) : gDiv (.int i) (.int j) w = .ok (.int (i / j)) w := by
  simp only [gDiv]
  rw [if_pos h]
theorem log2_small {j : Int} (h0 : 0 < j) (h : j < 2 ^ 200) : 0 < j ∧ j.natAbs.log2 < 9000 := ⟨h0, Nat.lt_of_lt_of_le (PySem.Flt.log2_lt_of (by decide) (show j.natAbs < 2 ^ 200 by omega)) (by decide)⟩
theorem modC {i j : Int} {w : Wd} (h : 0 < j) : gMod (.int i) (.int j) w = .ok (.int (i % j)) w := by
  simp only [gMod]
  rw [if_pos h]
theorem gIxI {u : D} {i : Int} {w : Wd} : gIx u (.int i) w = match u with
    | .str z => if z.length ≤ 16777216 then (match L2.atI z.cps.toList i with | some c => .ok (.str ⟨#[c]⟩) w | none => .stuck) else .stuck
    | .tup ds => match L2.atI ds i with | some d => .ok d w | none => .stuck
    | u => match derefL u w with
      | some ds => match L2.atI ds i with | some d => .ok d w | none => .stuck
      | none => .stuck := rfl
/-- a list of numbers -/
theorem atI_ints {cells : List Int} {k : Int} (h0 : 0 ≤ k) (h1 : k < cells.length) : ∃ c, L2.atI (cells.map D.int) k = some (.int c) := by
  unfold L2.atI L2.ixN
  rw [List.length_map, if_pos h0, if_pos h1]
  have hk : k.toNat < cells.length := by omega
  exact ⟨cells[k.toNat], by simp [List.getElem?_eq_getElem hk]⟩
/-! ### the draws: as the laws write them -/
def M_bag : En → Wd → SR :=
  (mSeq (mAsg (mLc (mIter (mSl (mVar 0) oNone (oSome (mC (.int 63))))) [3] (gNm 3) bYes (mCall gInt (aCons (mVar 3) aNil))) (gNm 1))
  (mSeq (mAsg (mOp gAdd (mC (.int 100110)) (mOp gMul (mC (.int 73)) (mCall gLen (aCons (mVar 1) aNil)))) (gNm 2))
  (mSeq (mFor (mIter (mVar 1)) (gNm 3) (mAsg (mOp gMod (mCall gInt (aCons (mOp gAdd (mOp gMul (mVar 2) (mC (.int 7351))) (mVar 3)) aNil)) (mC (.int 2147483477))) (gNm 2)))
  (mRet (mLstM (aCons (mVar 1) (aCons (mC (.int 0)) (aCons (mC (.int 0)) (aCons (mVar 2) aNil)))))))))
def M_draw : En → Wd → SR :=
  (mSeq (mIfS (asB (mOp gLt (mOp gIx (mVar 0) (mC (.int 2))) (mC (.int 2)))) (mSeq (mSetI (mOp gAdd (mOp gIx (mVar 0) (mC (.int 1))) (mC (.int 1))) (mVar 0) (mC (.int 1)))
  (mSeq (mAsg (mOp gAdd (mOp gIx (mVar 0) (mC (.int 3))) (mOp gMul (mOp gIx (mVar 0) (mC (.int 1))) (mC (.int 8693)))) (gNm 2))
  (mSeq (mIfS (asB (mOp gLe (mOp gIx (mVar 0) (mC (.int 1))) (mCall gLen (aCons (mOp gIx (mVar 0) (mC (.int 0))) aNil)))) (mAsg (mOp gIx (mOp gIx (mVar 0) (mC (.int 0))) (mOp Si.gSub (mOp gIx (mVar 0) (mC (.int 1))) (mC (.int 1)))) (gNm 2)) mNext)
  (mSeq (mIfS (bOr (asB (mOp gGt (mOp gIx (mVar 0) (mC (.int 1))) (mCall gLen (aCons (mOp gIx (mVar 0) (mC (.int 0))) aNil)))) (asB (mOp gLt (mVar 2) (mOp gPow (mC (.int 10)) (mC (.int 18)))))) (mSeq (mAsg (mOp gMod (mCall gInt (aCons (mOp gAdd (mOp gAdd (mOp gMul (mVar 2) (mC (.int 42061))) (mOp gMul (mOp gIx (mVar 0) (mC (.int 1))) (mC (.int 37021)))) (mOp gIx (mVar 0) (mC (.int 3)))) aNil)) (mC (.int 2147483629))) (gNm 3))
  (mSeq (mAsg (mOp gMod (mCall gInt (aCons (mOp gAdd (mOp gMul (mVar 3) (mVar 3)) (mOp gMul (mOp gIx (mVar 0) (mC (.int 1))) (mC (.int 50551)))) aNil)) (mC (.int 998244353))) (gNm 4))
  (mRet (mOp gMod (mOp gDiv (mOp gMod (mCall gInt (aCons (mOp gAdd (mOp gMul (mVar 4) (mC (.int 46819))) (mVar 3)) aNil)) (mC (.int 2147483587))) (mC (.int 23))) (mVar 1))))) mNext)
  (mSetI (mVar 2) (mVar 0) (mC (.int 2))))))) mNext)
  (mSeq (mAsg (mOp gMod (mCall gInt (aCons (mOp gIx (mVar 0) (mC (.int 2))) aNil)) (mVar 1)) (gNm 5))
  (mSeq (mSetI (mOp gDiv (mCall gInt (aCons (mOp gIx (mVar 0) (mC (.int 2))) aNil)) (mVar 1)) (mVar 0) (mC (.int 2)))
  (mRet (mVar 5)))))
def bagF : List D → Wd → R D := fnD 4 1 M_bag
def drawF : List D → Wd → R D := fnD 6 2 M_draw
def BagAt (w : Wd) (n : Nat) : Prop := ∃ (cells : List Int) (i acc mark : Int), w[n]? = some (.lst [.lst (cells.map D.int), .int i, .int acc, .int mark]) ∧ 0 ≤ i
theorem draw_spec {w : Wd} {n : Nat} {many : Int} (hb : BagAt w n) (h0 : 0 < many) (h1 : many < 2 ^ 200) : ∃ r b, 0 ≤ r ∧ r < many ∧ drawF [.obj n, .int many] w = .ok (.int r) (w.set n b) ∧ BagAt (w.set n b) n := by
  obtain ⟨cells, i, acc, mark, hw, hi⟩ := hb
  have hn : n < w.length := (List.getElem?_eq_some_iff.mp hw).1
  have d0 := der_of hw
  have c0 := cel_of hw
  have ds := der_set hn
  have cs := cel_set hn
  have gl : ∀ {w : Wd}, gLen [D.lst (cells.map D.int)] w = .ok (.int cells.length) w := by
    intro w; simp only [gLen, der_lst, List.length_map]
  have dm := fun (i : Int) (w : Wd) => divC (i := i) (w := w) (log2_small h0 h1)
  have mm := fun (i : Int) (w : Wd) => modC (i := i) (w := w) h0
  have pw : ∀ {w : Wd}, gPow (.int 10) (.int 18) w = .ok (.int (10 ^ 18)) w := by
    intro w; simp only [gPow]; rw [if_pos (by decide)]; rfl
  have keep : ∀ (i acc : Int), 0 ≤ i → BagAt (w.set n (.lst [.lst (cells.map D.int), .int i, .int acc, .int mark])) n := fun i acc h => ⟨cells, i, acc, mark, List.getElem?_set_self hn, h⟩
  have nn : ∀ x : Int, 0 ≤ x % many ∧ x % many < many := fun x => ⟨Int.emod_nonneg x (by omega), Int.emod_lt_of_pos x h0⟩
  unfold drawF M_draw
  by_cases ha : acc < 2
  · by_cases hc : i + 1 ≤ (cells.length : Int)
    · obtain ⟨c, hcell⟩ := atI_ints (cells := cells) (k := i + 1 - 1) (by omega) (by omega)
      have hng : ¬ (cells.length : Int) < i + 1 := by omega
      by_cases hs : c < 10 ^ 18
      · simp only [fnD, startD, mSeq, mIfS, mRet, mRetN, mExpr, mAsg, mSetI, mNext, mOp, mVar, mC, mCall, aCons, aNil, asB, mAnd, mOr, mNot, mTru, bAnd, bOr, bNot, bYes, mIf, mNeg, mTup, mLst, mLstM, mSl, oNone, oSome, mIsi, mIsi2, mChain, mPar, mAugI, mIter, mRng, mZip, mEnum, mApp, mPopAt, mJoin, mCallK, mBrk, mCnt, R.bind, R.toS, gNm, gNilD, gConsD, gTupD, gLstD, addI, subI, Si.gLt, Si.gLe, Si.gGt, Si.gGe, Si.gOrd, gIxI, gInt, gIsN, gNotN, isNon, der_lst, ix20, ix21, ix30, ix31, ix32, ix40, ix41, ix42, ix43, ixN40, ixN41, ixN42, ixN43, List.set_set, List.length_cons, List.length_nil, List.map_cons, List.map_nil, List.cons_append, List.nil_append, List.replicate, List.set_cons_zero, List.set_cons_succ, List.getElem?_cons_zero, List.getElem?_cons_succ, List.getElem?_nil, decide_true, decide_false, List.length_map, if_true, Nat.reduceAdd, Nat.reduceSub, Option.bind, mulC (j := 8693) (by decide), mulC (j := 42061) (by decide), mulC (j := 37021) (by decide), mulC (j := 50551) (by decide), mulC (j := 46819) (by decide), mulM (m := 2147483629) (by decide), divC (j := 23) (log2_small (by decide) (by decide)), modC (j := 2147483629) (by decide), modC (j := 998244353) (by decide), modC (j := 2147483587) (by decide), d0, c0, ds, cs, gl, dm, mm, pw, ha, hc, hcell, hng, hs]
        exact ⟨_, _, (nn _).1, (nn _).2, rfl, keep _ _ (by omega)⟩
      · simp only [fnD, startD, mSeq, mIfS, mRet, mRetN, mExpr, mAsg, mSetI, mNext, mOp, mVar, mC, mCall, aCons, aNil, asB, mAnd, mOr, mNot, mTru, bAnd, bOr, bNot, bYes, mIf, mNeg, mTup, mLst, mLstM, mSl, oNone, oSome, mIsi, mIsi2, mChain, mPar, mAugI, mIter, mRng, mZip, mEnum, mApp, mPopAt, mJoin, mCallK, mBrk, mCnt, R.bind, R.toS, gNm, gNilD, gConsD, gTupD, gLstD, addI, subI, Si.gLt, Si.gLe, Si.gGt, Si.gGe, Si.gOrd, gIxI, gInt, gIsN, gNotN, isNon, der_lst, ix20, ix21, ix30, ix31, ix32, ix40, ix41, ix42, ix43, ixN40, ixN41, ixN42, ixN43, List.set_set, List.length_cons, List.length_nil, List.map_cons, List.map_nil, List.cons_append, List.nil_append, List.replicate, List.set_cons_zero, List.set_cons_succ, List.getElem?_cons_zero, List.getElem?_cons_succ, List.getElem?_nil, decide_true, decide_false, List.length_map, if_true, Nat.reduceAdd, Nat.reduceSub, Option.bind, mulC (j := 8693) (by decide), mulC (j := 42061) (by decide), mulC (j := 37021) (by decide), mulC (j := 50551) (by decide), mulC (j := 46819) (by decide), mulM (m := 2147483629) (by decide), divC (j := 23) (log2_small (by decide) (by decide)), modC (j := 2147483629) (by decide), modC (j := 998244353) (by decide), modC (j := 2147483587) (by decide), d0, c0, ds, cs, gl, dm, mm, pw, ha, hc, hcell, hng, hs]
        exact ⟨_, _, (nn _).1, (nn _).2, rfl, keep _ _ (by omega)⟩
    · have hg : (cells.length : Int) < i + 1 := by omega
      simp only [fnD, startD, mSeq, mIfS, mRet, mRetN, mExpr, mAsg, mSetI, mNext, mOp, mVar, mC, mCall, aCons, aNil, asB, mAnd, mOr, mNot, mTru, bAnd, bOr, bNot, bYes, mIf, mNeg, mTup, mLst, mLstM, mSl, oNone, oSome, mIsi, mIsi2, mChain, mPar, mAugI, mIter, mRng, mZip, mEnum, mApp, mPopAt, mJoin, mCallK, mBrk, mCnt, R.bind, R.toS, gNm, gNilD, gConsD, gTupD, gLstD, addI, subI, Si.gLt, Si.gLe, Si.gGt, Si.gGe, Si.gOrd, gIxI, gInt, gIsN, gNotN, isNon, der_lst, ix20, ix21, ix30, ix31, ix32, ix40, ix41, ix42, ix43, ixN40, ixN41, ixN42, ixN43, List.set_set, List.length_cons, List.length_nil, List.map_cons, List.map_nil, List.cons_append, List.nil_append, List.replicate, List.set_cons_zero, List.set_cons_succ, List.getElem?_cons_zero, List.getElem?_cons_succ, List.getElem?_nil, decide_true, decide_false, List.length_map, if_true, Nat.reduceAdd, Nat.reduceSub, Option.bind, mulC (j := 8693) (by decide), mulC (j := 42061) (by decide), mulC (j := 37021) (by decide), mulC (j := 50551) (by decide), mulC (j := 46819) (by decide), mulM (m := 2147483629) (by decide), divC (j := 23) (log2_small (by decide) (by decide)), modC (j := 2147483629) (by decide), modC (j := 998244353) (by decide), modC (j := 2147483587) (by decide), d0, c0, ds, cs, gl, dm, mm, pw, ha, hc, hg]
      exact ⟨_, _, (nn _).1, (nn _).2, rfl, keep _ _ (by omega)⟩
  · simp only [fnD, startD, mSeq, mIfS, mRet, mRetN, mExpr, mAsg, mSetI, mNext, mOp, mVar, mC, mCall, aCons, aNil, asB, mAnd, mOr, mNot, mTru, bAnd, bOr, bNot, bYes, mIf, mNeg, mTup, mLst, mLstM, mSl, oNone, oSome, mIsi, mIsi2, mChain, mPar, mAugI, mIter, mRng, mZip, mEnum, mApp, mPopAt, mJoin, mCallK, mBrk, mCnt, R.bind, R.toS, gNm, gNilD, gConsD, gTupD, gLstD, addI, subI, Si.gLt, Si.gLe, Si.gGt, Si.gGe, Si.gOrd, gIxI, gInt, gIsN, gNotN, isNon, der_lst, ix20, ix21, ix30, ix31, ix32, ix40, ix41, ix42, ix43, ixN40, ixN41, ixN42, ixN43, List.set_set, List.length_cons, List.length_nil, List.map_cons, List.map_nil, List.cons_append, List.nil_append, List.replicate, List.set_cons_zero, List.set_cons_succ, List.getElem?_cons_zero, List.getElem?_cons_succ, List.getElem?_nil, decide_true, decide_false, List.length_map, if_true, Nat.reduceAdd, Nat.reduceSub, Option.bind, mulC (j := 8693) (by decide), mulC (j := 42061) (by decide), mulC (j := 37021) (by decide), mulC (j := 50551) (by decide), mulC (j := 46819) (by decide), mulM (m := 2147483629) (by decide), divC (j := 23) (log2_small (by decide) (by decide)), modC (j := 2147483629) (by decide), modC (j := 998244353) (by decide), modC (j := 2147483587) (by decide), d0, c0, ds, cs, gl, dm, mm, pw, ha]
    exact ⟨_, _, (nn _).1, (nn _).2, rfl, keep _ _ (by omega)⟩
end Si

set_option Elab.async false
set_option linter.all false
set_option autoImplicit false
set_option maxRecDepth 100000
set_option maxHeartbeats 4000000
/-! Si13: the bag, a drawn item, the laws' own comparison. -/
namespace Si
open PySem
theorem intsL_get : ∀ (own : List Nat) (f : D → En → Wd → Option En) (me : En → Wd → R D) (σd : En) (w : Wd) (g : D → D) (ds acc : List D), (∀ d ∈ ds, ∃ σ1, f d (wipeD σd own) w = some σ1 ∧ me σ1 w = .ok (g d) w) → acc.length + ds.length ≤ 16777216 → lcL own f bYes me σd ds acc w = .ok (acc ++ ds.map g) w
  | own, f, me, σd, w, g, [], acc, _, _ => by simp [lcL]
  | own, f, me, σd, w, g, d :: r, acc, h, hl => by
    obtain ⟨σ1, h1, h2⟩ := h d List.mem_cons_self
    simp only [List.length_cons] at hl
    have hlt : acc.length < 16777216 := by omega
    simp only [lcL, h1, bYes, h2, hlt, if_true]
    rw [intsL_get own f me σd w g r (acc ++ [g d]) (fun x hx => h x (List.mem_cons_of_mem _ hx)) (by simp; omega)]
    simp
theorem bag_spec (ns : List Int) (w : Wd) (hl : ns.length ≤ 63) : ∃ b, bagF [.scr ns] w = .ok (.obj w.length) (w ++ [b]) ∧ BagAt (w ++ [b]) w.length := by
  have hcut : cutD ns none (some 63) = ns.take 63 := by
    unfold cutD
    rw [HT.sIx_none, List.drop_zero, Nat.sub_zero]
    show ns.take (min (63 : Int).toNat ns.length) = _
    rw [show (63 : Int).toNat = 63 from rfl]
    rcases Nat.le_total 63 ns.length with h | h
    · rw [Nat.min_eq_left h]
    · rw [Nat.min_eq_right h, List.take_length, List.take_of_length_le h]
  have hlc : ∀ (σd : En) (w : Wd), lcL [3] (gNm 3) bYes (mCall gInt (aCons (mVar 3) aNil)) σd ((ns.take 63).map D.int) [] w = .ok ((ns.take 63).map D.int) w ∨ σd.length ≤ 3 := by
    intro σd w
    by_cases h3 : σd.length ≤ 3
    · exact .inr h3
    refine .inl ?_
    rw [intsL_get [3] (gNm 3) _ σd w id _ []]
    · simp
    · intro d hd
      obtain ⟨z, _, rfl⟩ := List.mem_map.mp hd
      refine ⟨_, rfl, ?_⟩
      have hw : (wipeD σd [3]).length = σd.length := by simp [wipeD]
      simp only [mCall, aCons, mVar, aNil]
      rw [List.getElem?_set_self (by rw [hw]; omega)]
      rfl
    · simp; omega
  have loop : ∀ (l : List Int) (σ0 σ1 : D) (m : Int) (o : Option D) (w : Wd), ∃ (m' : Int) (o' : Option D), forL (gNm 3) (mAsg (mOp gMod (mCall gInt (aCons (mOp gAdd (mOp gMul (mVar 2) (mC (.int 7351))) (mVar 3)) aNil)) (mC (.int 2147483477))) (gNm 2)) (l.map D.int) [some σ0, some σ1, some (.int m), o] w = .next [some σ0, some σ1, some (.int m'), o'] w := by
    intro l
    induction l with
    | nil => intro σ0 σ1 m o w; exact ⟨m, o, rfl⟩
    | cons z r ih =>
      intro σ0 σ1 m o w
      obtain ⟨m', o', h⟩ := ih σ0 σ1 ((m * 7351 + z) % 2147483477) (some (.int z)) w
      refine ⟨m', o', ?_⟩
      rw [List.map_cons, forL]
      simp only [gNm, mAsg, mOp, mVar, mC, mCall, aCons, aNil, R.bind, R.toS, addI, gInt, List.set_cons_succ, List.set_cons_zero, List.getElem?_cons_succ, List.getElem?_cons_zero, mulC (j := 7351) (by decide), modC (j := 2147483477) (by decide)]
      exact h
  unfold bagF M_bag
  rcases hlc [some (.scr ns), none, none, none] w with h | h
  · have hmul : ∀ w : Wd, gMul (.int 73) (.int ((ns.take 63).length : Int)) w = .ok (.int (73 * ((ns.take 63).length : Int))) w := fun w => mulL (by decide)
    obtain ⟨m', o', hL⟩ := loop (ns.take 63) (.scr ns) (.lst ((ns.take 63).map D.int)) (100110 + 73 * ((ns.take 63).length : Int)) none w
    have gl : ∀ w : Wd, gLen [D.lst ((ns.take 63).map D.int)] w = .ok (.int ((ns.take 63).length : Nat)) w := by
      intro w; simp only [gLen, der_lst, List.length_map]
    simp only [fnD, startD, mSeq, mAsg, mLc, mIter, mSl, mVar, mC, oNone, oSome, R.bind, R.toS, gSl, hcut, itemsD, List.length_cons, List.length_nil, List.map_cons, List.map_nil, List.cons_append, List.nil_append, List.replicate, List.getElem?_cons_zero, List.getElem?_cons_succ, Nat.reduceAdd, Nat.reduceSub, if_true, h, gNm, List.set_cons_zero, List.set_cons_succ, mOp, mCall, aCons, aNil, gl, hmul, addI, mFor, mRet, mLstM]
    rw [hL]
    simp only [mRet, mLstM, aCons, aNil, mVar, mC, R.bind, R.toS, List.getElem?_cons_zero, List.getElem?_cons_succ, List.length_cons, List.length_nil, Nat.reduceAdd, Nat.reduceLeDiff, if_true]
    refine ⟨_, rfl, ns.take 63, 0, 0, m', ?_, Int.le_refl _⟩
    rw [List.getElem?_append_right (Nat.le_refl _), Nat.sub_self]
    rfl
  · exact absurd h (by simp)
/-! an item drawn -/
def M_of : En → Wd → SR := (mRet (mOp gIx (mVar 1) (mCall drawF (aCons (mVar 0) (aCons (mCall gLen (aCons (mVar 1) aNil)) aNil)))))
def ofF : List D → Wd → R D := fnD 2 2 M_of
theorem at_mem {ds : List D} {r : Int} (h0 : 0 ≤ r) (h1 : r < ds.length) : ∃ d, L2.atI ds r = some d ∧ d ∈ ds := by
  unfold L2.atI L2.ixN
  rw [if_pos h0, if_pos h1]
  have hk : r.toNat < ds.length := by omega
  exact ⟨ds[r.toNat], by simp [List.getElem?_eq_getElem hk], List.getElem_mem hk⟩
theorem of_lst {w : Wd} {n : Nat} {ds : List D} (hb : BagAt w n) (h0 : 0 < ds.length) (h1 : ds.length < 2 ^ 190) : ∃ d b, d ∈ ds ∧ ofF [.obj n, .lst ds] w = .ok d (w.set n b) ∧ BagAt (w.set n b) n := by
  obtain ⟨r, b, r0, r1, e, hb'⟩ := draw_spec (many := (ds.length : Int)) hb (by omega) (by omega)
  obtain ⟨d, hd, hm⟩ := at_mem r0 r1
  refine ⟨d, b, hm, ?_, hb'⟩
  have gl : ∀ {w : Wd}, gLen [D.lst ds] w = .ok (.int ds.length) w := by
    intro w; simp only [gLen, der_lst]
  simp only [ofF, M_of, fnD, startD, mRet, mOp, mVar, mCall, aCons, aNil, R.bind, R.toS, List.length_cons, List.length_nil, List.map_cons, List.map_nil, List.cons_append, List.nil_append, List.replicate, List.getElem?_cons_zero, List.getElem?_cons_succ, Nat.reduceAdd, Nat.reduceSub, if_true, gl, e, gIxI, der_lst, hd]
/-! the comparison -/
def M_same (G : List D → Wd → R D) : En → Wd → SR :=
  (mSeq (mIfS (asB (mOp gIsN (mVar 1) (mC .non))) (mRet (mOp gIsN (mVar 0) (mC .non))) mNext)
  (mSeq (mIfS (bOr (mTru (mIsi "bool" (mVar 1))) (mTru (mIsi "bool" (mVar 0)))) (mRet (mAnd (mIsi "bool" (mVar 1)) (mAnd (mIsi "bool" (mVar 0)) (mOp gEq (mVar 0) (mVar 1))))) mNext)
  (mSeq (mIfS (mTru (mIsi2 "int" "str" (mVar 1))) (mRet (mAnd (mIsi2 "int" "str" (mVar 0)) (mAnd (mOp gEq (mIsi "int" (mVar 0)) (mIsi "int" (mVar 1))) (mOp gEq (mVar 0) (mVar 1))))) mNext)
  (mSeq (mIfS (bOr (asB (mOp gNe (mIsi "list" (mVar 1)) (mIsi "list" (mVar 0)))) (asB (mOp gNe (mIsi "tuple" (mVar 1)) (mIsi "tuple" (mVar 0))))) (mRet (mC (.bl false))) mNext)
  (mSeq (mIfS (bNot (mTru (mIsi2 "list" "tuple" (mVar 0)))) (mRet (mC (.bl false))) mNext)
  (mRet (mAnd (mOp gEq (mCall gLen (aCons (mVar 0) aNil)) (mCall gLen (aCons (mVar 1) aNil))) (mCall gAll (aCons (mLc (mZip (aCons (mVar 0) (aCons (mVar 1) aNil))) [2, 3] (gTupD 2 (gConsD (gNm 2) (gConsD (gNm 3) gNilD))) bYes (mCall G (aCons (mVar 2) (aCons (mVar 3) aNil)))) aNil)))))))))
def sameF : Nat → List D → Wd → R D
  | 0 => fun _ _ => .stuck
  | n + 1 => fnD 4 2 (M_same (sameF n))
mutual
/-- no cells, so deep at most, lists not too long -/
def D.fine : Nat → D → Bool
  | _, .non | _, .bl _ | _, .int _ | _, .str _ => true
  | 0, .lst _ | 0, .tup _ => false
  | n + 1, .lst xs => decide (xs.length ≤ 16777216) && fineA n xs
  | n + 1, .tup xs => decide (xs.length ≤ 16777216) && fineA n xs
  | _, .obj _ | _, .scr _ => false
def fineA : Nat → List D → Bool
  | _, [] => true
  | n, x :: r => x.fine n && fineA n r
end
theorem fineA_mem {n : Nat} : ∀ {xs : List D}, fineA n xs = true → ∀ x ∈ xs, x.fine n = true
  | [], _, x, h => by cases h
  | y :: r, h, x, hx => by
    rw [fineA, Bool.and_eq_true] at h
    rcases List.mem_cons.mp hx with e | hx
    · rw [e]; exact h.1
    · exact fineA_mem h.2 x hx
theorem blA_all : ∀ (ds : List D), blA (ds.map fun _ => D.bl true) = some (ds.map fun _ => true)
  | [] => rfl
  | d :: r => by rw [List.map_cons, blA, blA_all r]; rfl
theorem zip_self : ∀ (ds : List D), zipD ds ds = ds.map fun d => .tup [d, d]
  | [] => rfl
  | d :: r => by rw [zipD, zip_self r]; rfl
theorem same_seq (G : List D → Wd → R D) (ds : List D) (w : Wd) (h : ∀ d ∈ ds, G [d, d] w = .ok (.bl true) w) (hl : ds.length ≤ 16777216) (a b : D) (o2 o3 : Option D) :
    lcL [2, 3] (gTupD 2 (gConsD (gNm 2) (gConsD (gNm 3) gNilD))) bYes (mCall G (aCons (mVar 2) (aCons (mVar 3) aNil))) [some a, some b, o2, o3] (zipD ds ds) [] w = .ok (ds.map fun _ => .bl true) w := by
  rw [zip_self]
  rw [intsL_get _ _ _ _ w (fun _ => .bl true) _ []]
  · simp
  · intro x hx
    obtain ⟨d, hd, rfl⟩ := List.mem_map.mp hx
    refine ⟨[some a, some b, some d, some d], rfl, ?_⟩
    simp only [mCall, aCons, aNil, mVar, R.bind, List.getElem?_cons_zero, List.getElem?_cons_succ]
    exact h d hd
  · simp only [List.length_nil, List.length_map]; omega
theorem all_true : ∀ (ds : List D), (ds.map fun _ => true).all id = true
  | [] => rfl
  | d :: r => by rw [List.map_cons, List.all_cons, all_true r]; rfl
theorem same_refl : ∀ (n : Nat) (d : D) (w : Wd), d.fine n = true → sameF (n + 1) [d, d] w = .ok (.bl true) w := by
  intro n
  induction n with
  | zero =>
    intro d w h
    cases d with
    | non => rfl
    | bl b => cases b <;> rfl
    | int i =>
      simp only [sameF, fnD, startD, M_same, mSeq, mIfS, asB, mOp, mVar, mC, mRet, mNext, mTru, mIsi, mIsi2, bOr, mAnd, R.bind, R.toS, gIsN, isNon, tyD, isB, List.length_cons, List.length_nil, List.map_cons, List.map_nil, List.cons_append, List.nil_append, List.replicate, List.getElem?_cons_zero, List.getElem?_cons_succ, Nat.reduceAdd, Nat.reduceSub, if_true, truD, gEq, scEq]
      simp
    | str z =>
      simp only [sameF, fnD, startD, M_same, mSeq, mIfS, asB, mOp, mVar, mC, mRet, mNext, mTru, mIsi, mIsi2, bOr, mAnd, R.bind, R.toS, gIsN, isNon, tyD, isB, List.length_cons, List.length_nil, List.map_cons, List.map_nil, List.cons_append, List.nil_append, List.replicate, List.getElem?_cons_zero, List.getElem?_cons_succ, Nat.reduceAdd, Nat.reduceSub, if_true, truD, gEq, scEq]
      simp
    | _ => cases h
  | succ n ih =>
    intro d w h
    cases d with
    | non => rfl
    | bl b => cases b <;> rfl
    | int i =>
      simp only [sameF, fnD, startD, M_same, mSeq, mIfS, asB, mOp, mVar, mC, mRet, mNext, mTru, mIsi, mIsi2, bOr, mAnd, R.bind, R.toS, gIsN, isNon, tyD, isB, List.length_cons, List.length_nil, List.map_cons, List.map_nil, List.cons_append, List.nil_append, List.replicate, List.getElem?_cons_zero, List.getElem?_cons_succ, Nat.reduceAdd, Nat.reduceSub, if_true, truD, gEq, scEq]
      simp
    | str z =>
      simp only [sameF, fnD, startD, M_same, mSeq, mIfS, asB, mOp, mVar, mC, mRet, mNext, mTru, mIsi, mIsi2, bOr, mAnd, R.bind, R.toS, gIsN, isNon, tyD, isB, List.length_cons, List.length_nil, List.map_cons, List.map_nil, List.cons_append, List.nil_append, List.replicate, List.getElem?_cons_zero, List.getElem?_cons_succ, Nat.reduceAdd, Nat.reduceSub, if_true, truD, gEq, scEq]
      simp
    | lst ds =>
      rw [D.fine, Bool.and_eq_true] at h
      have hl := of_decide_eq_true h.1
      have hs := same_seq (sameF (n + 1)) ds w (fun d hd => ih d w (fineA_mem h.2 d hd)) hl (.lst ds) (.lst ds) none none
      rw [sameF]
      simp only [fnD, startD, M_same, mSeq, mIfS, asB, mOp, mVar, mC, mRet, mNext, mTru, mIsi, mIsi2, bOr, bNot, mAnd, mCall, mLc, mZip, aCons, aNil, R.bind, R.toS, gIsN, isNon, tyD, isB, List.length_cons, List.length_nil, List.map_cons, List.map_nil, List.cons_append, List.nil_append, List.replicate, List.getElem?_cons_zero, List.getElem?_cons_succ, Nat.reduceAdd, Nat.reduceSub, if_true, truD, gEq, gNe, scEq, gLen, der_lst, hs, gAll, Option.bind, blA_all, all_true]
      simp [hs, gAll, der_lst, blA_all, all_true]
    | tup ds =>
      rw [D.fine, Bool.and_eq_true] at h
      have hl := of_decide_eq_true h.1
      have hs := same_seq (sameF (n + 1)) ds w (fun d hd => ih d w (fineA_mem h.2 d hd)) hl (.tup ds) (.tup ds) none none
      rw [sameF]
      simp only [fnD, startD, M_same, mSeq, mIfS, asB, mOp, mVar, mC, mRet, mNext, mTru, mIsi, mIsi2, bOr, bNot, mAnd, mCall, mLc, mZip, aCons, aNil, R.bind, R.toS, gIsN, isNon, tyD, isB, List.length_cons, List.length_nil, List.map_cons, List.map_nil, List.cons_append, List.nil_append, List.replicate, List.getElem?_cons_zero, List.getElem?_cons_succ, Nat.reduceAdd, Nat.reduceSub, if_true, truD, gEq, gNe, scEq, gLen, der_lst, hs, gAll, Option.bind, blA_all, all_true]
      simp [hs, gAll, der_lst, blA_all, all_true]
    | _ => cases h
theorem sf_stuck {P : Program} {w : World} {K : PySem.W.Frag} {cl : Str → Option Addr} {mg : Str → Option Value} {base : Heap} {k : Nat} {f : Addr} {fd : FuncData} {ps : List Str} : SF P w K cl mg base k f fd ps (fun _ _ => .stuck) :=
  ⟨fun _ _ _ _ ⟨_, _, _, _, _, p⟩ => p.elim, fun _ _ _ _ _ _ _ _ _ _ _ _ _ ⟨_, _, _, _, _, p⟩ => p.elim⟩
theorem sf_same {P : Program} {w : World} {K : PySem.W.Frag} {cl : Str → Option Addr} {mg : Str → Option Value} {base : Heap} {f : Addr} {fd : FuncData} {ps : List Str} (h : ∀ (k : Nat) (G : List D → Wd → R D), SF P w K cl mg base k f fd ps G → SF P w K cl mg base (k + 1) f fd ps (fnD 4 2 (M_same G))) : ∀ n, SF P w K cl mg base n f fd ps (sameF n)
  | 0 => sf_stuck
  | n + 1 => h n _ (sf_same h n)
end Si

set_option Elab.async false
set_option linter.all false
set_option autoImplicit false
set_option maxRecDepth 100000
set_option maxHeartbeats 4000000
/-! Si14: a calculus to reckon with what is reckoned: Go (an expression answers so that Q), Gd (a statement). -/
namespace Si
open PySem
abbrev EX := Str → List (Str × D) → Wd → Prop
def Go {α : Type} (X : EX) (r : R α) (Q : α → Wd → Prop) : Prop := match r with
  | .ok a w => Q a w
  | .err c fs w => X c fs w
  | .stuck => False
def Gd (X : EX) (N : En → Wd → Prop) (T : D → Wd → Prop) (B C : En → Wd → Prop) (r : SR) : Prop := match r with
  | .next σ w => N σ w
  | .ret d w => T d w
  | .brk σ w => B σ w
  | .cnt σ w => C σ w
  | .err c fs w => X c fs w
  | .stuck => False
def Br (b : Bool) (P Q : Prop) : Prop := match b with | true => P | false => Q
section
variable {α β : Type} {X : EX} {Q : D → Wd → Prop} {QB : Bool → Wd → Prop} {QA : List D → Wd → Prop} {QO : Option Int → Wd → Prop} {σ : En} {w : Wd} {N B C : En → Wd → Prop} {T : D → Wd → Prop} {P P' : Prop} {b : Bool} {p : Prop}
theorem br_t (h : P) : Br true P P' := h
theorem br_f (h : P') : Br false P P' := h
theorem br_is (e : b = true) (h : P) : Br b P P' := by subst e; exact h
theorem br_isnt (e : b = false) (h : P') : Br b P P' := by subst e; exact h
theorem br_not (h : Br b P' P) : Br (!b) P P' := by cases b <;> exact h
theorem go_ok {r : R α} {a : α} {w' : Wd} {Q : α → Wd → Prop} (e : r = .ok a w') (q : Q a w') : Go X r Q := by rw [e]; exact q
theorem go_weak {r : R α} {Q Q' : α → Wd → Prop} (h : Go X r Q) (i : ∀ a w, Q a w → Q' a w) : Go X r Q' := by
  cases r with
  | ok a w => exact i a w h
  | err => exact h
  | stuck => exact h.elim
theorem go_get {r : R α} {Q : α → Wd → Prop} (h : Go (fun _ _ _ => False) r Q) : ∃ a w, r = .ok a w ∧ Q a w := by
  cases r with
  | ok a w => exact ⟨a, w, rfl, h⟩
  | err => exact h.elim
  | stuck => exact h.elim
theorem go_bind {r : R α} {k : α → Wd → R β} {Q : β → Wd → Prop} (h : Go X r fun a w => Go X (k a w) Q) : Go X (r.bind k) Q := by cases r <;> exact h
theorem gd_toS {r : R α} {k : α → Wd → SR} (h : Go X r fun a w => Gd X N T B C (k a w)) : Gd X N T B C (r.toS k) := by cases r <;> exact h
/-! expressions -/
theorem go_var {i : Nat} {d : D} (h : σ[i]? = some (some d)) (q : Q d w) : Go X (mVar i σ w) Q := by
  unfold mVar
  rw [h]
  exact q
theorem go_c {d : D} (q : Q d w) : Go X (mC d σ w) Q := q
theorem go_op {g : D → D → Wd → R D} {ma mb : En → Wd → R D} (h : Go X (ma σ w) fun u w1 => Go X (mb σ w1) fun v w2 => Go X (g u v w2) Q) : Go X (mOp g ma mb σ w) Q :=
  go_bind (go_weak h fun _ _ h => go_bind h)
theorem go_asB {m : En → Wd → R D} (h : Go X (m σ w) fun d w1 => ∃ b, d = .bl b ∧ QB b w1) : Go X (asB m σ w) QB :=
  go_bind (go_weak h fun _ _ ⟨_, e, h⟩ => by subst e; exact h)
theorem go_call {g : List D → Wd → R D} {ma : En → Wd → R (List D)} (h : Go X (ma σ w) fun us w1 => Go X (g us w1) Q) : Go X (mCall g ma σ w) Q := go_bind h
theorem go_callK {g : List D → Wd → R D} {pm : List Nat} {mas mks : En → Wd → R (List D)} (h : Go X (mas σ w) fun us w1 => Go X (mks σ w1) fun zs w2 => Go X (g (permL pm (us ++ zs)) w2) Q) : Go X (mCallK g pm mas mks σ w) Q :=
  go_bind (go_weak h fun _ _ h => go_bind h)
theorem go_nil (q : QA [] w) : Go X (aNil σ w) QA := q
theorem go_cons {ma : En → Wd → R D} {mr : En → Wd → R (List D)} (h : Go X (ma σ w) fun u w1 => Go X (mr σ w1) fun us w2 => QA (u :: us) w2) : Go X (aCons ma mr σ w) QA :=
  go_bind (go_weak h fun _ _ h => go_bind h)
theorem go_tup {ma : En → Wd → R (List D)} (h : Go X (ma σ w) fun us w1 => us.length ≤ 16777216 ∧ Q (.tup us) w1) : Go X (mTup ma σ w) Q :=
  go_bind (go_weak h fun _ _ h => by rw [if_pos h.1]; exact h.2)
theorem go_lst {ma : En → Wd → R (List D)} (h : Go X (ma σ w) fun us w1 => us.length ≤ 16777216 ∧ Q (.lst us) w1) : Go X (mLst ma σ w) Q :=
  go_bind (go_weak h fun _ _ h => by rw [if_pos h.1]; exact h.2)
theorem go_lstM {ma : En → Wd → R (List D)} (h : Go X (ma σ w) fun us w1 => us.length ≤ 16777216 ∧ Q (.obj w1.length) (w1 ++ [.lst us])) : Go X (mLstM ma σ w) Q :=
  go_bind (go_weak h fun _ _ h => by rw [if_pos h.1]; exact h.2)
theorem go_chain {g g' : D → D → Wd → R D} {ma mb mc : En → Wd → R D} (h : Go X (ma σ w) fun u w1 => Go X (mb σ w1) fun v w2 => Go X (g u v w2) fun z w3 => ∃ b, z = .bl b ∧ Br b (Go X (mc σ w3) fun x w4 => Go X (g' v x w4) Q) (Q (.bl false) w3)) : Go X (mChain g g' ma mb mc σ w) Q :=
  go_bind (go_weak h fun _ _ h => go_bind (go_weak h fun _ _ h => go_bind (go_weak h fun _ _ ⟨b, e, h⟩ => by subst e; cases b; exact h; exact go_bind h)))
theorem go_and {ma mb : En → Wd → R D} (h : Go X (ma σ w) fun u w1 => ∃ b, truD u w1 = some b ∧ Br b (Go X (mb σ w1) Q) (Q u w1)) : Go X (mAnd ma mb σ w) Q :=
  go_bind (go_weak h fun _ _ ⟨b, e, h⟩ => by rw [e]; cases b <;> exact h)
theorem go_or {ma mb : En → Wd → R D} (h : Go X (ma σ w) fun u w1 => ∃ b, truD u w1 = some b ∧ Br b (Q u w1) (Go X (mb σ w1) Q)) : Go X (mOr ma mb σ w) Q :=
  go_bind (go_weak h fun _ _ ⟨b, e, h⟩ => by rw [e]; cases b <;> exact h)
theorem go_not {ma : En → Wd → R D} (h : Go X (ma σ w) fun u w1 => ∃ b, truD u w1 = some b ∧ Q (.bl (!b)) w1) : Go X (mNot ma σ w) Q :=
  go_bind (go_weak h fun _ _ ⟨b, e, h⟩ => by rw [e]; cases b <;> exact h)
theorem go_tru {ma : En → Wd → R D} (h : Go X (ma σ w) fun u w1 => ∃ b, truD u w1 = some b ∧ QB b w1) : Go X (mTru ma σ w) QB :=
  go_bind (go_weak h fun _ _ ⟨b, e, h⟩ => by rw [e]; exact h)
theorem go_bAnd {ma mb : En → Wd → R Bool} (h : Go X (ma σ w) fun b w1 => Br b (Go X (mb σ w1) QB) (QB false w1)) : Go X (bAnd ma mb σ w) QB :=
  go_bind (go_weak h fun b _ h => by cases b <;> exact h)
theorem go_bOr {ma mb : En → Wd → R Bool} (h : Go X (ma σ w) fun b w1 => Br b (QB true w1) (Go X (mb σ w1) QB)) : Go X (bOr ma mb σ w) QB :=
  go_bind (go_weak h fun b _ h => by cases b <;> exact h)
theorem go_bNot {ma : En → Wd → R Bool} (h : Go X (ma σ w) fun b w1 => QB (!b) w1) : Go X (bNot ma σ w) QB := go_bind h
theorem go_bYes (h : QB true w) : Go X (bYes σ w) QB := h
theorem go_if {mc : En → Wd → R Bool} {ma mb : En → Wd → R D} (h : Go X (mc σ w) fun b w1 => Br b (Go X (ma σ w1) Q) (Go X (mb σ w1) Q)) : Go X (mIf mc ma mb σ w) Q :=
  go_bind (go_weak h fun b _ h => by cases b <;> exact h)
theorem go_neg {ma : En → Wd → R D} (h : Go X (ma σ w) fun u w1 => ∃ i, u = .int i ∧ Q (.int (-i)) w1) : Go X (mNeg ma σ w) Q :=
  go_bind (go_weak h fun _ _ ⟨_, e, h⟩ => by subst e; exact h)
theorem go_oNone (h : QO none w) : Go X (oNone σ w) QO := h
theorem go_oSome {ma : En → Wd → R D} (h : Go X (ma σ w) fun u w1 => ∃ i, u = .int i ∧ QO (some i) w1) : Go X (oSome ma σ w) QO :=
  go_bind (go_weak h fun _ _ ⟨_, e, h⟩ => by subst e; exact h)
theorem go_sl {ma : En → Wd → R D} {ml mh : En → Wd → R (Option Int)} (h : Go X (ma σ w) fun u w1 => Go X (ml σ w1) fun lo w2 => Go X (mh σ w2) fun hi w3 => Go X (gSl u lo hi w3) Q) : Go X (mSl ma ml mh σ w) Q :=
  go_bind (go_weak h fun _ _ h => go_bind (go_weak h fun _ _ h => go_bind h))
theorem go_isi {S : String} {ma : En → Wd → R D} (h : Go X (ma σ w) fun u w1 => ∃ t, tyD u w1 = some t ∧ Q (.bl (isB t S)) w1) : Go X (mIsi S ma σ w) Q :=
  go_bind (go_weak h fun _ _ ⟨_, e, h⟩ => by rw [e]; exact h)
theorem go_isi2 {S S' : String} {ma : En → Wd → R D} (h : Go X (ma σ w) fun u w1 => ∃ t, tyD u w1 = some t ∧ Q (.bl (isB t S || isB t S')) w1) : Go X (mIsi2 S S' ma σ w) Q :=
  go_bind (go_weak h fun _ _ ⟨_, e, h⟩ => by rw [e]; exact h)
theorem go_join {mo me : En → Wd → R D} (h : Go X (mo σ w) fun u w1 => ∃ a, u = .str a ∧ Go X (me σ w1) fun v w2 => Go X (gJoin (.str a) v w2) Q) : Go X (mJoin mo me σ w) Q :=
  go_bind (go_weak h fun _ _ ⟨_, e, h⟩ => by subst e; exact go_bind h)
theorem go_app {mo me : En → Wd → R D} (h : Go X (mo σ w) fun u w1 => (cellL u w1).isSome = true ∧ Go X (me σ w1) fun d w2 => ∃ n ds, cellL u w2 = some (n, ds) ∧ ds.length < 16777216 ∧ Q .non (w2.set n (.lst (ds ++ [d])))) : Go X (mApp mo me σ w) Q :=
  go_bind (go_weak h fun _ _ ⟨e, h⟩ => by
    obtain ⟨c, e⟩ := Option.isSome_iff_exists.mp e
    rw [e]
    exact go_bind (go_weak h fun _ _ ⟨_, _, e, l, h⟩ => by rw [e]; dsimp only; rw [if_pos l]; exact h))
/-! what is walked -/
theorem go_iter {ma : En → Wd → R D} (h : Go X (ma σ w) fun u w1 => ∃ ds, itemsD u = some ds ∧ QA ds w1) : Go X (mIter ma σ w) QA :=
  go_bind (go_weak h fun _ _ ⟨_, e, h⟩ => by rw [e]; exact h)
theorem go_rng1 {ma : En → Wd → R D} (h : Go X (ma σ w) fun u w1 => ∃ j, u = .int j ∧ (-(2 ^ 62) ≤ j ∧ j < 2 ^ 62) ∧ QA (rangeD 0 j.toNat) w1) : Go X (mRng (aCons ma aNil) σ w) QA :=
  go_bind (go_cons (go_weak h fun _ _ ⟨_, e, hb, h⟩ => by subst e; show Go X (if _ then _ else _) QA; rw [if_pos hb]; exact h))
theorem go_rng2 {ma mb : En → Wd → R D} (h : Go X (ma σ w) fun u w1 => Go X (mb σ w1) fun v w2 => ∃ i j, u = .int i ∧ v = .int j ∧ (-(2 ^ 62) ≤ i ∧ i < 2 ^ 62 ∧ -(2 ^ 62) ≤ j ∧ j < 2 ^ 62) ∧ QA (rangeD i (j - i).toNat) w2) : Go X (mRng (aCons ma (aCons mb aNil)) σ w) QA :=
  go_bind (go_cons (go_weak h fun _ _ h1 => go_cons (go_weak h1 fun _ _ ⟨_, _, e, e', hb, h2⟩ => by subst e; subst e'; show Go X (if _ then _ else _) QA; rw [if_pos hb]; exact h2)))
theorem go_lc {it : En → Wd → R (List D)} {own : List Nat} {f : D → En → Wd → Option En} {mt : En → Wd → R Bool} {me : En → Wd → R D} (h : Go X (it σ w) fun ds w1 => Go X (lcL own f mt me σ ds [] w1) fun xs w2 => Q (.lst xs) w2) : Go X (mLc it own f mt me σ w) Q :=
  go_bind (go_weak h fun _ _ h => go_bind h)
theorem go_lcM {it : En → Wd → R (List D)} {own : List Nat} {f : D → En → Wd → Option En} {mt : En → Wd → R Bool} {me : En → Wd → R D} (h : Go X (it σ w) fun ds w1 => Go X (lcL own f mt me σ ds [] w1) fun xs w2 => Q (.obj w2.length) (w2 ++ [.lst xs])) : Go X (mLcM it own f mt me σ w) Q :=
  go_bind (go_weak h fun _ _ h => go_bind h)
abbrev EX0 : EX := fun _ _ _ => False
/-- a comprehension, by what holds of (what is gathered, what is left, the cells) -/
theorem go_lcL {own : List Nat} {f : D → En → Wd → Option En} {mt : En → Wd → R Bool} {me : En → Wd → R D} (I : List D → List D → Wd → Prop)
    (hs : ∀ acc d r w, I acc (d :: r) w → ∃ σ1, f d (wipeD σ own) w = some σ1 ∧ Go EX0 (mt σ1 w) fun b w1 => Br b (Go EX0 (me σ1 w1) fun y w2 => acc.length < 16777216 ∧ I (acc ++ [y]) r w2) (I acc r w1))
    (he : ∀ acc w, I acc [] w → QA acc w) : ∀ (ds acc : List D) (w : Wd), I acc ds w → Go X (lcL own f mt me σ ds acc w) QA
  | [], acc, w, h => he acc w h
  | d :: r, acc, w, h => by
    obtain ⟨σ1, e, h1⟩ := hs acc d r w h
    rw [lcL]
    simp only [e]
    obtain ⟨b, w1, e1, h2⟩ := go_get h1
    rw [e1]
    cases b with
    | false => exact go_lcL I hs he r acc w1 h2
    | true =>
      obtain ⟨y, w2, e2, h3⟩ := go_get h2
      simp only [e2]
      rw [if_pos h3.1]
      exact go_lcL I hs he r _ w2 h3.2
/-! statements -/
theorem gd_next (h : N σ w) : Gd X N T B C (mNext σ w) := h
theorem gd_brk (h : B σ w) : Gd X N T B C (mBrk σ w) := h
theorem gd_cnt (h : C σ w) : Gd X N T B C (mCnt σ w) := h
theorem gd_seq {m1 m2 : En → Wd → SR} (h : Gd X (fun σ1 w1 => Gd X N T B C (m2 σ1 w1)) T B C (m1 σ w)) : Gd X N T B C (mSeq m1 m2 σ w) := by
  unfold mSeq
  cases e : m1 σ w <;> (rw [e] at h; exact h)
theorem gd_ret {ma : En → Wd → R D} (h : Go X (ma σ w) T) : Gd X N T B C (mRet ma σ w) := gd_toS h
theorem gd_retN (h : T .non w) : Gd X N T B C (mRetN σ w) := h
theorem gd_expr {ma : En → Wd → R D} (h : Go X (ma σ w) fun _ w1 => N σ w1) : Gd X N T B C (mExpr ma σ w) := gd_toS h
theorem gd_if {mc : En → Wd → R Bool} {m1 m2 : En → Wd → SR} (h : Go X (mc σ w) fun b w1 => Br b (Gd X N T B C (m1 σ w1)) (Gd X N T B C (m2 σ w1))) : Gd X N T B C (mIfS mc m1 m2 σ w) :=
  gd_toS (go_weak h fun b _ h => by cases b <;> exact h)
theorem gd_asg {ma : En → Wd → R D} {f : D → En → Wd → Option En} (h : Go X (ma σ w) fun d w1 => ∃ σ1, f d σ w1 = some σ1 ∧ N σ1 w1) : Gd X N T B C (mAsg ma f σ w) :=
  gd_toS (go_weak h fun _ _ ⟨_, e, h⟩ => by rw [e]; exact h)
theorem gd_nm {ma : En → Wd → R D} {i : Nat} (h : Go X (ma σ w) fun d w1 => N (σ.set i (some d)) w1) : Gd X N T B C (mAsg ma (gNm i) σ w) := gd_toS h
theorem gd_par {i j : Nat} {ma mb : En → Wd → R D} (h : Go X (ma σ w) fun d w1 => Go X (mb σ w1) fun e w2 => N ((σ.set i (some d)).set j (some e)) w2) : Gd X N T B C (mPar i j (aCons ma (aCons mb aNil)) σ w) :=
  gd_toS (go_cons (go_weak h fun _ _ h => go_cons (go_weak h fun _ _ h => h)))
/-- a for, by what holds of (what is left, the frame, the cells) -/
theorem gd_forL {f : D → En → Wd → Option En} {body : En → Wd → SR} (I : List D → En → Wd → Prop)
    (hs : ∀ d r σ w, I (d :: r) σ w → ∃ σ1, f d σ w = some σ1 ∧ Gd X (I r) T N (I r) (body σ1 w))
    (he : ∀ σ w, I [] σ w → N σ w) : ∀ (ds : List D) (σ : En) (w : Wd), I ds σ w → Gd X N T B C (forL f body ds σ w)
  | [], σ, w, h => he σ w h
  | d :: r, σ, w, h => by
    obtain ⟨σ1, e, h1⟩ := hs d r σ w h
    rw [forL]
    simp only [e]
    cases e1 : body σ1 w <;> rw [e1] at h1
    · exact gd_forL I hs he r _ _ h1
    · exact h1
    · exact h1
    · exact gd_forL I hs he r _ _ h1
    · exact h1
    · exact h1
theorem gd_for {it : En → Wd → R (List D)} {f : D → En → Wd → Option En} {body : En → Wd → SR} (h : Go X (it σ w) fun ds w1 => Gd X N T B C (forL f body ds σ w1)) : Gd X N T B C (mFor it f body σ w) := gd_toS h
theorem go_fn {n k : Nat} {m : En → Wd → SR} {ds : List D} (hl : ds.length = k) (h : Gd X (fun _ w1 => Q .non w1) Q (fun _ _ => False) (fun _ _ => False) (m (startD n ds) w)) : Go X (fnD n k m ds w) Q := by
  unfold fnD
  rw [if_pos hl]
  cases e : m (startD n ds) w <;> (rw [e] at h; exact h)
/-! what the model's own operations answer -/
theorem go_addI {i j : Int} (q : Q (.int (i + j)) w) : Go X (gAdd (.int i) (.int j) w) Q := q
theorem go_addL {i j : List D} (hl : i.length + j.length ≤ 16777216) (q : Q (.lst (i ++ j)) w) : Go X (gAdd (.lst i) (.lst j) w) Q := by
  unfold gAdd
  dsimp only
  rw [if_pos hl]
  exact q
theorem go_addT {i j : List D} (hl : i.length + j.length ≤ 16777216) (q : Q (.tup (i ++ j)) w) : Go X (gAdd (.tup i) (.tup j) w) Q := by
  unfold gAdd
  dsimp only
  rw [if_pos hl]
  exact q
theorem go_subI {i j : Int} (q : Q (.int (i - j)) w) : Go X (gSub (.int i) (.int j) w) Q := q
theorem go_mulR {i j : Int} (h : -(2 ^ 64) < j ∧ j < 2 ^ 64) (q : Q (.int (i * j)) w) : Go X (gMul (.int i) (.int j) w) Q := go_ok (mulC h) q
theorem go_mulL {i j : Int} (h : -(2 ^ 64) < i ∧ i < 2 ^ 64) (q : Q (.int (i * j)) w) : Go X (gMul (.int i) (.int j) w) Q := go_ok (mulL h) q
theorem go_div {i j : Int} (h0 : 0 < j) (h : j < 2 ^ 200) (q : Q (.int (i / j)) w) : Go X (gDiv (.int i) (.int j) w) Q := go_ok (divC (log2_small h0 h)) q
theorem go_mod {i j : Int} (h : 0 < j) (q : Q (.int (i % j)) w) : Go X (gMod (.int i) (.int j) w) Q := go_ok (modC h) q
theorem go_lt {i j : Int} (q : Q (.bl (decide (i < j))) w) : Go X (gLt (.int i) (.int j) w) Q := q
theorem go_le {i j : Int} (q : Q (.bl (decide (i ≤ j))) w) : Go X (gLe (.int i) (.int j) w) Q := q
theorem go_gt {i j : Int} (q : Q (.bl (decide (j < i))) w) : Go X (gGt (.int i) (.int j) w) Q := q
theorem go_ge {i j : Int} (q : Q (.bl (decide (j ≤ i))) w) : Go X (gGe (.int i) (.int j) w) Q := q
theorem go_eqI {i j : Int} (q : Q (.bl (decide (i = j))) w) : Go X (gEq (.int i) (.int j) w) Q := q
theorem go_neI {i j : Int} (q : Q (.bl (!decide (i = j))) w) : Go X (gNe (.int i) (.int j) w) Q := q
theorem go_eqS {i j : Str} (q : Q (.bl (decide (i = j))) w) : Go X (gEq (.str i) (.str j) w) Q := q
theorem go_neS {i j : Str} (q : Q (.bl (!decide (i = j))) w) : Go X (gNe (.str i) (.str j) w) Q := q
theorem go_lenL {ds : List D} (q : Q (.int ds.length) w) : Go X (gLen [.lst ds] w) Q := q
theorem go_lenT {ds : List D} (q : Q (.int ds.length) w) : Go X (gLen [.tup ds] w) Q := q
theorem go_lenS {z : Str} (h : z.length ≤ 16777216) (q : Q (.int z.length) w) : Go X (gLen [.str z] w) Q := by
  unfold gLen
  dsimp only
  rw [if_pos h]
  exact q
/-! small side facts -/
theorem ex_bl {b : Bool} {R : Bool → Prop} (h : R b) : ∃ c, D.bl b = .bl c ∧ R c := ⟨b, rfl, h⟩
theorem ex_int {b : Int} {R : Int → Prop} (h : R b) : ∃ c, D.int b = .int c ∧ R c := ⟨b, rfl, h⟩
theorem ex_str {b : Str} {R : Str → Prop} (h : R b) : ∃ c, D.str b = .str c ∧ R c := ⟨b, rfl, h⟩
theorem ex_tru {u : D} {b : Bool} {R : Bool → Prop} (e : truD u w = some b) (h : R b) : ∃ b, truD u w = some b ∧ R b := ⟨b, e, h⟩
theorem ex_ty {u : D} {b : String} {R : String → Prop} (e : tyD u w = some b) (h : R b) : ∃ b, tyD u w = some b ∧ R b := ⟨b, e, h⟩
theorem ex_it {u : D} {b : List D} {R : List D → Prop} (e : itemsD u = some b) (h : R b) : ∃ b, itemsD u = some b ∧ R b := ⟨b, e, h⟩
theorem ex_nm {i : Nat} {d : D} {R : En → Prop} (h : R (σ.set i (some d))) : ∃ σ1, gNm i d σ w = some σ1 ∧ R σ1 := ⟨_, rfl, h⟩
theorem an_le {n : Nat} (e : n ≤ 16777216) (h : P) : n ≤ 16777216 ∧ P := ⟨e, h⟩
/-! draws -/
theorem go_draw {n : Nat} {many : Int} (hb : BagAt w n) (h0 : 0 < many) (h1 : many < 2 ^ 200) (q : ∀ r b, 0 ≤ r → r < many → BagAt (w.set n b) n → Q (.int r) (w.set n b)) : Go X (drawF [.obj n, .int many] w) Q := by
  obtain ⟨r, b, r0, r1, e, hb'⟩ := draw_spec hb h0 h1
  exact go_ok e (q r b r0 r1 hb')
theorem go_ofL {n : Nat} {ds : List D} (hb : BagAt w n) (h0 : 0 < ds.length) (h1 : ds.length < 2 ^ 190) (q : ∀ d b, d ∈ ds → BagAt (w.set n b) n → Q d (w.set n b)) : Go X (ofF [.obj n, .lst ds] w) Q := by
  obtain ⟨d, b, hm, e, hb'⟩ := of_lst hb h0 h1
  exact go_ok e (q d b hm hb')
theorem an_rng {j : Int} (e : -(2 ^ 62) ≤ j ∧ j < 2 ^ 62) (h : P) : (-(2 ^ 62) ≤ j ∧ j < 2 ^ 62) ∧ P := ⟨e, h⟩
theorem an_rng2 {i j : Int} (e : -(2 ^ 62) ≤ i ∧ i < 2 ^ 62 ∧ -(2 ^ 62) ≤ j ∧ j < 2 ^ 62) (h : P) : (-(2 ^ 62) ≤ i ∧ i < 2 ^ 62 ∧ -(2 ^ 62) ≤ j ∧ j < 2 ^ 62) ∧ P := ⟨e, h⟩
/-- the other cells are as they were -/
def Oth (n : Nat) (w w' : Wd) : Prop := w'.length = w.length ∧ ∀ k, k ≠ n → w'[k]? = w[k]?
theorem oth_set {n : Nat} {b : MO} : Oth n w (w.set n b) := ⟨by simp, fun k h => by rw [List.getElem?_set_ne (fun e => h e.symm)]⟩
theorem dr {n : Nat} {many : Int} (hb : BagAt w n) (h0 : 0 < many) (h1 : many < 2 ^ 200) (q : ∀ r w', 0 ≤ r → r < many → BagAt w' n → Oth n w w' → Q (.int r) w') : Go X (drawF [.obj n, .int many] w) Q :=
  go_draw hb h0 h1 fun r b r0 r1 hb' => q r _ r0 r1 hb' oth_set
theorem ofl {n : Nat} {ds : List D} (hb : BagAt w n) (h0 : 0 < ds.length) (h1 : ds.length < 2 ^ 190) (q : ∀ d w', d ∈ ds → BagAt w' n → Oth n w w' → Q d w') : Go X (ofF [.obj n, .lst ds] w) Q :=
  go_ofL hb h0 h1 fun d b hm hb' => q d _ hm hb' oth_set
theorem go_bag {ns : List Int} (hl : ns.length ≤ 63) (q : ∀ b, BagAt (w ++ [b]) w.length → Q (.obj w.length) (w ++ [b])) : Go X (bagF [.scr ns] w) Q := by
  obtain ⟨b, e, hb⟩ := bag_spec ns w hl
  exact go_ok e (q b hb)
theorem go_same {n : Nat} {d e : D} (h : d = e) (hf : d.fine n = true) (q : Q (.bl true) w) : Go X (sameF (n + 1) [d, e] w) Q := by
  subst h
  exact go_ok (same_refl n d w hf) q
end
/-! texts -/
end Si

set_option Elab.async false
set_option linter.all false
set_option autoImplicit false
set_option maxRecDepth 100000
set_option maxHeartbeats 4000000
/-! Si15: instances of own classes: fields, methods, making, properties. -/
namespace Si
open PySem L2 PyProof.Rows
section
variable {K : PySem.W.Frag} {cl : Str → Option Addr} {s s1 : S} {EK : XK}
/-- the instance in a cell -/
def insL (u : D) (w : Wd) : Option (Nat × Str × List (Str × D)) := match u with
  | .obj n => match w[n]? with
    | some (.ins c fs) => some (n, c, fs)
    | _ => none
  | _ => none
theorem ins_of {v : V} {u : D} {n : Nat} {c : Str} {fs : List (Str × D)} (ok : Ok K cl s) (r : Rep K s v u) (h : insL u s.w = some (n, c, fs)) : ∃ a C dx vfs, v = .ref a ∧ s.ρ[n]? = some a ∧ cl c = some C ∧ s.H a = some (.ins C dx vfs) ∧ RepF K s vfs fs ∧ s.w[n]? ≠ some MO.dead := by
  unfold insL at h
  split at h
  · rename_i m
    split at h
    · rename_i c' fs' hw
      cases h
      cases r with
      | obj hn =>
        obtain ⟨C, dx, vfs, h0, h1, h2⟩ := ok.cell _ _ _ hn hw
        exact ⟨_, C, dx, vfs, rfl, hn, h0, h1, h2, by rw [hw]; simp⟩
    · cases h
  · cases h
theorem RepF.look {f : Str} {d : D} : ∀ {vfs : List (Str × V)} {fs : List (Str × D)}, RepF K s vfs fs → fs.lookup f = some d → ∃ v, vfs.lookup f = some v ∧ Rep K s v d
  | [], [], _, h => by cases h
  | [], _ :: _, r, _ => r.elim
  | _ :: _, [], r, _ => r.elim
  | (g, v) :: vr, (g', d') :: dr, ⟨e, h1, h2⟩, h => by
    simp only at e h1
    subst e
    simp only [List.lookup] at h ⊢
    split at h
    · cases h
      exact ⟨v, rfl, h1⟩
    · exact RepF.look h2 h
theorem RepF.look0 {f : Str} : ∀ {vfs : List (Str × V)} {fs : List (Str × D)}, RepF K s vfs fs → fs.lookup f = none → vfs.lookup f = none
  | [], [], _, h => rfl
  | [], _ :: _, r, _ => r.elim
  | _ :: _, [], r, _ => r.elim
  | (g, v) :: vr, (g', d') :: dr, ⟨e, h1, h2⟩, h => by
    simp only at e h1
    subst e
    simp only [List.lookup] at h ⊢
    split at h
    · cases h
    · exact RepF.look0 h2 h
def putD (f : Str) (v : D) : List (Str × D) → List (Str × D)
  | [] => [(f, v)]
  | (g, x) :: r => if g = f then (g, v) :: r else (g, x) :: putD f v r
theorem RepF.put {f : Str} {v : V} {d : D} (r : Rep K s v d) : ∀ {vfs : List (Str × V)} {fs : List (Str × D)}, RepF K s vfs fs → RepF K s (putF f v vfs) (putD f d fs)
  | [], [], _ => ⟨rfl, r, trivial⟩
  | [], _ :: _, h => h.elim
  | _ :: _, [], h => h.elim
  | (g, x) :: vr, (g', y) :: dr, ⟨e, h1, h2⟩ => by
    simp only at e h1
    subst e
    rw [putF, putD]
    split
    · exact ⟨rfl, r, h2⟩
    · exact ⟨rfl, h1, RepF.put r h2⟩
theorem RepF.len {κ : Type} : ∀ {vfs : List (κ × V)} {fs : List (κ × D)}, RepF K s vfs fs → vfs.length = fs.length
  | [], [], _ => rfl
  | [], _ :: _, r => r.elim
  | _ :: _, [], r => r.elim
  | _ :: _, _ :: _, ⟨_, _, r⟩ => by rw [List.length_cons, List.length_cons, RepF.len r]
/-- the classes cs hold plain instances, and none of them has the name f -/
def CF (K : PySem.W.Frag) (cl : Str → Option Addr) (cs : List Str) (f : Str) : Prop := ∀ c ∈ cs, ∀ C, cl c = some C → Cls K C ∧ NoAttr K C f
end
section
variable {X : Cx} {cl : Str → Option Addr} {EK : XK} {a b c o i e value : Expr} {ma mb mo mi me mv : En → Wd → R D} {mas : En → Wd → R (List D)} {pos pos' p apos cpos spos : Pos} {es : List Expr} {f : Str} {cs : List Str}
/-- e.f, a field -/
def mFld (cs : List Str) (f : Str) (ma : En → Wd → R D) : En → Wd → R D := fun σd w => (ma σd w).bind fun u w1 => match insL u w1 with
  | some (_, c, fs) => if c ∈ cs then (match fs.lookup f with
    | some d => .ok d w1
    | none => .stuck) else .stuck
  | none => .stuck
theorem se_fld (ha : SE X cl EK a ma) (hc : CF X.K cl cs f) (hb : attributeBase a f X.env (eval a X.env) = eval a X.env := by rfl) : SE X cl EK (.Attribute a f pos) (mFld cs f ma) :=
  PE.weak (pe_fld ha hb) fun σ H Q h => tG_imp (tG_bind h) fun x H1 ⟨s, σd, u, e, ok, re, ru, p⟩ => by
    subst e
    dsimp only at p
    split at p
    · rename_i n c fs hi
      split at p
      · rename_i hcs
        split at p
        · rename_i d hl
          obtain ⟨q, C, dx, vfs, rfl, hn, hC, hH, rf, hd⟩ := ins_of ok ru hi
          obtain ⟨v, hv, rv⟩ := rf.look hl
          exact ⟨q, C, dx, vfs, v, rfl, hH, (hc c hcs C hC).1, (hc c hcs C hC).2, hv, post_here ok p rv⟩
        · exact p.elim
      · exact p.elim
    · exact p.elim
/-- o.f = value -/
def mSetF (cs : List Str) (f : Str) (mo mv : En → Wd → R D) : En → Wd → SR := fun σd w => (mv σd w).toS fun d w1 => (mo σd w1).toS fun u w2 => match insL u w2 with
  | some (n, c, fs) => if c ∈ cs ∧ fs.length < 1000 then .next σd (w2.set n (.ins c (putD f d fs))) else .stuck
  | none => .stuck
theorem ss_setF (ho : SE X cl EK o mo) (hv : SE X cl EK value mv) (hc : CF X.K cl cs f) (hs : swapsWith value (some (.Attribute o f pos')) pos.line X.env = pure false := by rfl) : SS X cl EK (.Assign [.Attribute o f pos'] value pos) (mSetF cs f mo mv) :=
  PS.weak (ps_fld ho hv hs) fun D σ H ⟨s, σd, e, ok, re, p⟩ => by
    subst e
    refine tG_of ok re (posts_bind p fun s1 v d ex1 ok1 r1 p1 => ?_)
    refine tG_of ok1 (re.mono ok ex1) (posts_bind p1 fun s2 x u ex2 ok2 r2 p2 => ?_)
    split at p2
    · rename_i n c fs hi
      split at p2
      · rename_i hcs
        obtain ⟨q, C, dx, vfs, rfl, hn, hC, hH, rf, hd⟩ := ins_of ok2 r2 hi
        refine ⟨q, C, dx, vfs, rfl, hH, (hc c hcs.1 C hC).1, (hc c hcs.1 C hC).2, by rw [rf.len]; exact hcs.2, ?_⟩
        have rd := r1.mono ok1 ex2
        have ex : Ext s2 (s2.wr n q (.ins C dx (putF f v vfs)) (.ins c (putD f d fs))) := S.wr_ext ok2 hn hd
        exact p2 _ σ ex (S.wr_ok ok2 hn hd ⟨C, dx, _, hC, upd_same, (rf.put rd).mono ok2 ex⟩) rfl (((re.mono ok ex1).mono ok1 ex2).mono ok2 ex)
      · exact p2.elim
    · exact p2.elim
/-- o.m(..), m a def of the class c -/
def mMeth (c m : Str) (G : List D → Wd → R D) (mo : En → Wd → R D) (mas : En → Wd → R (List D)) : En → Wd → R D := fun σd w => (mo σd w).bind fun u w1 => match insL u w1 with
  | some (_, c', fs) => if c' = c ∧ fs.lookup m = none then (mas σd w1).bind fun us w2 => G (u :: us) w2 else .stuck
  | none => .stuck
theorem se_meth {pl : Sem Bool} {C fa : Addr} {fd : FuncData} {ps : List Str} {k : Nat} {G : List D → Wd → R D} {cn m : Str} (ho : SE X cl EK o mo) (hcl : cl cn = some C) (c : Cls X.K C) (hm : Meth X.K C m fa)
    (F : SF X.prog X.w X.K cl X.mg X.base k fa fd ps G) (hr : Room k X.A) (hb : Binds X.K fd ps []) (hx : Passes (L2.CX X.prog X.w) X EK) (ha : SA X cl EK (e :: es) mas)
    (hst : starEach (e :: es) X.env = (false, eval e X.env) :: starEach es X.env := by rfl) (hpl : (backTo pos (starEach es X.env)).any (·.1) = false := by rfl)
    (ht : eval (.Call (.Attribute o m apos) (e :: es) [] pos) X.env = (do
      let rv ← eval o X.env
      standAt apos.atName
      let (g, first) ← holding [rv] (getMethod rv m pl)
      callWith pos g first (backTo pos (starEach (e :: es) X.env)) (backToKw pos (keywordEach [] X.env))) := by rfl) :
    SE X cl EK (.Call (.Attribute o m apos) (e :: es) [] pos) (mMeth cn m G mo mas) :=
  PE.weak (pe_meth ho c hm F hr hb .nil hx ha hst hpl ht) fun σ H Q h => tG_imp (tG_bind h) fun x H1 ⟨s, σd, u, e, ok, re, ru, p⟩ => by
    subst e
    dsimp only at p
    split at p
    · rename_i n c' fs hi
      split at p
      · rename_i hcn
        obtain ⟨e1, e2⟩ := hcn
        subst e1
        obtain ⟨q, C', dx, vfs, rfl, hn, hC, hH, rf, hd⟩ := ins_of ok ru hi
        rw [hcl] at hC
        cases hC
        refine ⟨q, dx, vfs, rfl, hH, rf.look0 e2, ?_⟩
        refine tG_of ok re (post_bind p fun s1 vs ds ex ok1 rs p1 => ?_)
        exact ⟨s1, _, rfl, ok1, by rw [List.append_nil]; exact .cons (ru.mono ok ex) rs, p1⟩
      · exact p.elim
    · exact p.elim
/-- a new instance of c in a new cell, then its __init__ -/
def made (c : Str) (G : List D → Wd → R D) (pm : List Nat) (us : List D) (w : Wd) : R D := match G (permL pm (.obj w.length :: us)) (w ++ [.ins c []]) with
  | .ok .non w3 => .ok (.obj w.length) w3
  | .err x fs w3 => .err x fs w3
  | _ => .stuck
def mMake (c : Str) (G : List D → Wd → R D) (pm : List Nat) (dms : List D) (mas mks : En → Wd → R (List D)) : En → Wd → R D := fun σd w => (mas σd w).bind fun us w1 => (mks σd w1).bind fun zs w2 => made c G pm (us ++ (zs ++ dms)) w2
theorem make_core {EK : XK} {s : S} {C : Addr} {cn : Str} {G : List D → Wd → R D} {pm : List Nat} {us : List D} {vs : List V} {Q : VK} {EKk : XK} (hcl : cl cn = some C) (ok : Ok X.K cl s) (r : RepA X.K s vs us) (p : Post X.K cl (Rep X.K) EK s (made cn G pm us s.w) Q) :
    ∀ x dx, s.H x = none → s.H dx = none → dx ≠ x → spOf X.K cl G (permL pm (.ref x :: vs)) (upd (upd s.H dx (.own x)) x (.ins C dx [])) (fun v H2 => v = .non ∧ Q (.ref x) H2) EK := by
  intro x dx hx hdx hne
  have hF : ¬ s.F dx := fun h => ok.frz _ h hdx
  have hρ : dx ∉ s.ρ := fun h => ok.trk _ h hdx
  have ok1 := S.prv_ok (o := .own x) ok hF hρ
  have ex1 : Ext s (s.prv dx (.own x)) := S.prv_ext (Ext.refl s) hdx
  have hx1 : (s.prv dx (.own x)).H x = none := by
    show upd s.H dx (.own x) x = none
    rw [upd_ne (Ne.symm hne)]
    exact hx
  have ex2 : Ext (s.prv dx (.own x)) ((s.prv dx (.own x)).cell x (.ins C dx []) (.ins cn [])) := S.cell_ext ok1 hx1
  have ok2 : Ok X.K cl ((s.prv dx (.own x)).cell x (.ins C dx []) (.ins cn [])) := S.cell_ok ok1 hx1 ⟨C, dx, [], hcl, upd_same, trivial⟩
  have rx : Rep X.K ((s.prv dx (.own x)).cell x (.ins C dx []) (.ins cn [])) (.ref x) (.obj s.w.length) := .obj (by
    show (s.ρ ++ [x])[s.w.length]? = some x
    rw [← ok.len, List.getElem?_append_right (Nat.le_refl _), Nat.sub_self]
    rfl)
  have ex := ex1.trans ex2
  refine ⟨_, permL pm (.obj s.w.length :: us), rfl, ok2, permL_rep (.cons rx (r.mono ok ex)) pm, ?_⟩
  show Post X.K cl (Rep X.K) EK _ (G (permL pm (.obj s.w.length :: us)) (s.w ++ [.ins cn []])) _
  unfold made at p
  cases q : G (permL pm (.obj s.w.length :: us)) (s.w ++ [.ins cn []]) with
  | ok d w3 =>
    rw [q] at p
    intro s3 v ex3 ok3 hw3 r3
    cases d with
    | non =>
      cases r3
      refine ⟨rfl, p s3 (.ref x) (ex.trans ex3) ok3 hw3 ?_⟩
      exact rx.mono ok2 ex3
    | _ => exact p.elim
  | err c fs w3 =>
    rw [q] at p
    have p' : Post X.K cl (Rep X.K) EK s (R.err (α := D) c fs w3) Q := p
    exact Post.ext ex p'
  | stuck => rw [q] at p; exact p.elim
end
end Si

set_option Elab.async false
set_option linter.all false
set_option autoImplicit false
set_option maxRecDepth 100000
set_option maxHeartbeats 4000000
/-! Si16: dicts (keys ints and texts), in cells. -/
namespace Si
open PySem L2 PyProof.Rows
/-! tables of plain data -/
def valD (kvs : List (Key × D)) (k : Key) : Option D := (kvs.find? fun kv => decide (kv.1 = k)).map (·.2)
def kD : Key → D
  | .inl i => .int i
  | .inr x => .str x
section
variable {K : PySem.W.Frag} {cl : Str → Option Addr} {s : S} {EK : XK}
theorem RepF.val {k : Key} : ∀ {vks : List (Key × V)} {kvs : List (Key × D)}, RepF K s vks kvs → (∀ d, valD kvs k = some d → ∃ v, valV vks k = some v ∧ Rep K s v d) ∧ (valD kvs k).isSome = (valV vks k).isSome
  | [], [], _ => ⟨fun d h => (by cases h), rfl⟩
  | [], _ :: _, r => r.elim
  | _ :: _, [], r => r.elim
  | p :: vr, q :: dr, ⟨e, h1, h2⟩ => by
    obtain ⟨ih1, ih2⟩ := RepF.val (k := k) h2
    by_cases hk : q.1 = k
    · have hk2 : p.1 = k := e.trans hk
      have e1 : valD (q :: dr) k = some q.2 := by unfold valD; simp [hk]
      have e2 : valV (p :: vr) k = some p.2 := by unfold valV; simp [hk2]
      rw [e1, e2]
      exact ⟨fun d h => ⟨p.2, rfl, by cases h; exact h1⟩, rfl⟩
    · have hk2 : ¬ p.1 = k := fun z => hk (e.symm.trans z)
      have e1 : valD (q :: dr) k = valD dr k := by unfold valD; simp [hk]
      have e2 : valV (p :: vr) k = valV vr k := by unfold valV; simp [hk2]
      rw [e1, e2]
      exact ⟨ih1, ih2⟩
theorem RepF.keys : ∀ {vks : List (Key × V)} {kvs : List (Key × D)}, RepF K s vks kvs → RepA K s (vks.map fun kv => kV kv.1) (kvs.map fun kv => kD kv.1)
  | [], [], _ => .nil
  | [], _ :: _, r => r.elim
  | _ :: _, [], r => r.elim
  | p :: vr, q :: dr, ⟨e, _, h2⟩ => by
    rw [List.map_cons, List.map_cons, e]
    refine .cons ?_ (RepF.keys h2)
    cases q.1 with
    | inl i => exact .int i
    | inr x => exact .str x
end
section
variable {X : Cx} {cl : Str → Option Addr} {EK : XK} {a b c o i e value : Expr} {ma mb mo mi me mv : En → Wd → R D} {mas : En → Wd → R (List D)} {pos pos' p apos cpos spos : Pos} {es : List Expr}
end
end Si

set_option Elab.async false
set_option linter.all false
set_option autoImplicit false
set_option maxRecDepth 100000
set_option maxHeartbeats 4000000
/-! Si17: stars in displays and calls; max and min of many; dict displays. -/
namespace Si
open PySem L2 PyProof.Rows
section
variable {X : Cx} {cl : Str → Option Addr} {EK : XK} {a b c o i e value : Expr} {ma mb mo mi me mv : En → Wd → R D} {mas : En → Wd → R (List D)} {pos pos' p apos cpos spos : Pos} {es : List Expr}
/-- *e, .. -/
def aStar (ma : En → Wd → R D) (mr : En → Wd → R (List D)) : En → Wd → R (List D) := fun σd w => (ma σd w).bind fun u w1 => match seqD u w1 with
  | some ds => (mr σd w1).bind fun us w2 => .ok (ds ++ us) w2
  | none => .stuck
end
/-! ### max(i, j, ..) -/
section
variable {P0 : Program} {w0 : World} {A0 : Around} {E0 : Value → Shared → Prop} {s0 : Shared}
end
/-- the greatest, the least of some ints -/
def topI : List Int → Int
  | [] => 0
  | [i] => i
  | i :: r => if topI r > i then topI r else i
section
variable {X : Cx}
variable {cl : Str → Option Addr} {EK : XK} {a : Expr} {mas : En → Wd → R (List D)} {pos p : Pos} {es : List Expr} {id : String} {x : Str} {r : List V → Hp → VK → Prop} {g : List D → Wd → R D}
end
end Si

set_option Elab.async false
set_option linter.all false
set_option autoImplicit false
set_option maxRecDepth 100000
set_option maxHeartbeats 4000000
/-! Si18: dict displays, dict comprehensions. -/
namespace Si
open PySem L2 PyProof.Rows
theorem RepF.ownC {κ : Type} {K : PySem.W.Frag} {s : S} {q : Addr} {m : MO} : ∀ {ps : List (κ × V)} {qs : List (κ × D)}, RepF K s ps qs → RepF K (s.ownC q m) ps qs
  | [], [], _ => trivial
  | [], _ :: _, h => h.elim
  | _ :: _, [], h => h.elim
  | _ :: _, _ :: _, h => ⟨h.1, h.2.1.ownC, RepF.ownC h.2.2⟩
section
variable {X : Cx} {cl : Str → Option Addr} {EK : XK} {a b c o i e k v : Expr} {ma mb mo mi me mv : En → Wd → R D} {mas : En → Wd → R (List D)} {pos pos' p : Pos} {es : List Expr} {keys : List (Option Expr)} {vals : List Expr} {ks : List Key}
end
end Si

set_option Elab.async false
set_option linter.all false
set_option autoImplicit false
set_option maxRecDepth 100000
set_option maxHeartbeats 4000000
/-! Si19: list comprehensions of two clauses. -/
namespace Si
open PySem L2 PyProof.Rows
theorem ExtF.prv {s s1 : S} {q : Addr} {o : HO} (e : ExtF s s1) (hF : ¬ s1.F q) : ExtF s (s1.prv q o) :=
  ⟨e.F, e.ρ, fun a u h z => (upd_ne fun w => hF (by rw [← w]; exact e.F a h)).trans (e.fr a u h z)⟩
theorem RepE.monoF {K : PySem.W.Frag} {s s1 : S} {σ : L2.St} {σd : En} (e : ExtF s s1) (h : RepE K s σ σd) : RepE K s1 σ σd :=
  ⟨h.1, fun i d q => let ⟨v, a, b⟩ := h.2 i d q; ⟨v, a, b.monoF e⟩⟩
section
variable {X : Cx} {cl : Str → Option Addr} {EK : XK} {pos : Pos}
end
end Si

set_option Elab.async false
set_option linter.all false
set_option autoImplicit false
set_option maxRecDepth 100000
set_option maxHeartbeats 4000000
/-! Si20: len(set(texts)). -/
namespace Si
open PySem L2 PyProof.Rows
/-- how many different ones -/
def cntR : List Str → Nat
  | [] => 0
  | x :: r => if x ∈ r then cntR r else cntR r + 1
section
variable {P0 : Program} {w0 : World} {A0 : Around} {R : Result → Shared → Prop} {I : Addr} {fp wr : List Addr} {n : Nat} {P : Nat → Value → Prop} {St : Nat → Heap → Prop}
end
section
variable {P0 : Program} {w0 : World} {A0 : Around} {E0 : Value → Shared → Prop} {s0 : Shared}
end
section
variable {P0 : Program} {w0 : World} {A0 : Around} {E0 : Value → Shared → Prop} {s0 : Shared}
end
end Si

set_option Elab.async false
set_option linter.all false
set_option autoImplicit false
set_option maxRecDepth 100000
set_option maxHeartbeats 4000000
/-! Si21: len(set(texts)) as a rule; attributes as targets; lists given out for good. -/
namespace Si
open PySem L2 PyProof.Rows
section
variable {X : Cx} {cl : Str → Option Addr} {EK : XK} {a : Expr} {ma : En → Wd → R D} {ta : TE} {p p2 q0 pos : Pos}
def mLenSet (ma : En → Wd → R D) : En → Wd → R D := fun σd w => (ma σd w).bind fun u w1 => match (seqD u w1).bind stA with
  | some xs => if xs.length < 4000 then .ok (.int (cntR xs.reverse)) w1 else .stuck
  | none => .stuck
end
/-! ### attributes as targets -/
section
variable {X : Cx} {cl : Str → Option Addr} {EK : XK} {a o value : Expr} {ma mo : En → Wd → R D} {ta : TE} {pos spos : Pos} {f : Str} {cs : List Str}
end
end Si

set_option Elab.async false
set_option linter.all false
set_option autoImplicit false
set_option maxRecDepth 100000
set_option maxHeartbeats 4000000
/-! Si22: defs of classes as they stand. -/
namespace Si
open PySem L2 PyProof.Rows
/-- the class cn of the text, at C -/
structure ClO (K : PySem.W.Frag) (cl : Str → Option Addr) (cn : Str) (C : Addr) : Prop where
  c : Cls K C
  e : cl cn = some C
structure AtM (P : Program) (w : World) (K : PySem.W.Frag) (cl : Str → Option Addr) (mg : Str → Option Value) (base : Heap) (k : Nat) (C : Addr) (x qual : Str) (st : Stmt) (ps : List Str) (f : Addr) (fd : FuncData) (G : List D → Wd → R D) : Prop where
  F : Fun K x qual st f fd
  m : Meth K C x f
  b : Binds K fd ps []
  ok : SF P w K cl mg base k f fd ps G
structure AtI (P : Program) (w : World) (K : PySem.W.Frag) (cl : Str → Option Addr) (mg : Str → Option Value) (base : Heap) (k : Nat) (C : Addr) (cn : Str) (ps : List Str) (f : Addr) (fd : FuncData) (G : List D → Wd → R D) : Prop where
  M : Mk K C f
  g : mg cn = some (.ref C)
  b : Binds K fd ps []
  ok : SF P w K cl mg base k f fd ps G
structure AtK (P : Program) (w : World) (K : PySem.W.Frag) (cl : Str → Option Addr) (mg : Str → Option Value) (base : Heap) (k : Nat) (C : Addr) (cn : Str) (ps : List Str) (f : Addr) (fd : FuncData) (G : List D → Wd → R D) : Prop where
  M : Mk K C f
  g : mg cn = some (.ref C)
  ok : SF P w K cl mg base k f fd ps G
structure AtP (P : Program) (w : World) (K : PySem.W.Frag) (cl : Str → Option Addr) (mg : Str → Option Value) (base : Heap) (k : Nat) (C : Addr) (x : Str) (pr : Addr) (ps : List Str) (f : Addr) (fd : FuncData) (G : List D → Wd → R D) : Prop where
  p : PropOf K C x pr f
  b : Binds K fd ps []
  ok : SF P w K cl mg base k f fd ps G
end Si

set_option Elab.async false
set_option linter.all false
set_option autoImplicit false
set_option maxRecDepth 100000
set_option maxHeartbeats 4000000
/-! Si23: name = [.. for .. for ..]; xs.index(x); max(xs); o.m(k = v). -/
namespace Si
open PySem L2 PyProof.Rows
section
variable {X : Cx} {cl : Str → Option Addr} {EK : XK} {a o e : Expr} {ma mo me : En → Wd → R D} {mas : En → Wd → R (List D)} {pos p apos cpos : Pos} {es : List Expr}
/-! max(xs), min(xs) -/
/-! xs.index(x), xs a list of flat things -/
/-! o.m(.., k = v, ..) -/
end
end Si

set_option Elab.async false
set_option linter.all false
set_option autoImplicit false
set_option maxRecDepth 100000
set_option maxHeartbeats 4000000
/-! Si24: from the facts of the top to the defs as they stand. -/
namespace Si
open PySem L2 PyProof.Rows
/-- the class that a name of the module stands for -/
def clsAt (K : PySem.W.Frag) (x : Str) : Option Addr := match PySem.W.nsIn K mainGlobals x with
  | some (some (.ref a)) => some a
  | _ => none
theorem clsAt_of {K : PySem.W.Frag} {x : Str} {a : Addr} (h : PySem.W.nsIn K mainGlobals x = some (some (.ref a))) : clsAt K x = some a := by
  unfold clsAt
  rw [h]
theorem cf_nil {K : PySem.W.Frag} {cl : Str → Option Addr} {f : Str} : CF K cl [] f := fun c h => by cases h
theorem cf_cons {K : PySem.W.Frag} {cl : Str → Option Addr} {f cn : Str} {C : Addr} {cs : List Str} (o : ClO K cl cn C) (n : NoAttr K C f) (r : CF K cl cs f) : CF K cl (cn :: cs) f := by
  intro c hc C' e
  rcases List.mem_cons.mp hc with h | h
  · rw [h, o.e] at e
    cases e
    exact ⟨o.c, n⟩
  · exact r c h C' e
/-! ### name = {k: v for ..} -/
section
variable {X : Cx} {cl : Str → Option Addr} {EK : XK}
end
end Si

set_option Elab.async false
set_option linter.all false
set_option autoImplicit false
set_option maxRecDepth 100000
set_option maxHeartbeats 4000000
/-! Si25: items of dicts and lists as parts of a tuple target; a dict given out, the lists in it for good. -/
namespace Si
open PySem L2 PyProof.Rows
section
variable {X : Cx} {cl : Str → Option Addr} {EK : XK} {a o i value : Expr} {mo mi : En → Wd → R D} {pos spos : Pos} {es : List Expr}
/-! a dict, the lists in it for good -/
end
end Si

set_option Elab.async false
set_option linter.all false
set_option autoImplicit false
set_option maxRecDepth 100000
set_option maxHeartbeats 4000000
/-! Si26: the head by facts: what the walks lean on is looked at behind one run of the top. -/
namespace Si
open PySem L2 PyProof.Rows
theorem DefA.funD {K : PySem.W.Frag} {d : DefA} (e : fnA K d = d.val) (c : d.ok K = true) : ∃ fd, FunD K d.name d.qual d.params d.body d.scope [] (d.kws K) (d.ad K) fd := by
  obtain ⟨kp, c2⟩ := He.ba c
  unfold fnA at e
  cases q : K.lookup (d.ad K) with
  | none =>
    rw [q] at c2
    cases c2
  | some o =>
    obtain ⟨oc, od, dt, osl⟩ := o
    rw [q] at c2 e
    cases dt with
    | func fd =>
      obtain ⟨n1, n2, n3, n4, n5, n6, n7, n8, n9, n10, n11, n12, n13, n14, n15⟩ := fd
      have e2 : (some (n1, n2, n3, n4, n5, n6, n7, n15) : He.FnW) = some (d.name, d.qual, d.params, .stmts d.body, d.scope, mainGlobals, [], builtinsNs) := e
      simp only [Option.some.injEq, Prod.mk.injEq] at e2
      obtain ⟨h1, h2, h3, h4, h5, h6, h7, h8⟩ := e2
      subst h1 h2 h3 h4 h5 h6 h7 h8
      have c3 : (PySem.W.codeIn K n13 d.qual && (He.dflB K n8 [] && He.kwdB K n9 (d.kws K))) = true := c2
      obtain ⟨k1, k2⟩ := He.ba c3
      obtain ⟨k3, k4⟩ := He.ba k2
      exact ⟨_, ⟨oc, od, n8, n9, n10, n11, n12, n13, n14, osl, rfl, q, k1, He.dflB_ok k3, He.kwdB_ok k4⟩, kp⟩
    | _ => cases c2
/-! ### addresses -/
/-! ### facts -/
section
variable {K : PySem.W.Frag} {h : Heap} {mg : Str → Option Value}
theorem glo_cl {x : Str} (c : fGlo x K = true) : clsAt K x = some (He.ga K x) := clsAt_of (He.eqO_ok c)
theorem cls_clO {x : Str} (g : fGlo x K = true) (c : fCls x K = true) : ClO K (clsAt K) x (He.ga K x) := ⟨He.cls_ok c, glo_cl g⟩
theorem cn_int {x : Str} {i : Int} (X : K.In h) (G : h.Ns mainGlobals mg) (c : fInt x i K = true) : CN K mg x (.int i) :=
  let ⟨t, e⟩ := He.int_ok X G c; ⟨_, .int i, e, ⟨t, rfl⟩, fun _ => .int i⟩
end
/-! ### the Hook -/
section
variable {fa : List FB} {fn : List DefA} {K : PySem.W.Frag}
theorem SaysA.fact (c : SaysA fa fn K) (i : Nat) {f : FB} (h : fa[i]? = some f := by rfl) : f K = true := by
  have c1 := (He.ba (show ((fa.all fun f => f K) && fn.all fun d => d.ok K) = true from congrArg (fun z : AlA => z.1) c)).1
  exact List.all_eq_true.mp c1 f (List.mem_of_getElem? h)
theorem SaysA.def_ (c : SaysA fa fn K) (i : Nat) {d : DefA} (h : fn[i]? = some d := by rfl) : ∃ fd, FunD K d.name d.qual d.params d.body d.scope [] (d.kws K) (d.ad K) fd := by
  have c2 := (He.ba (show ((fa.all fun f => f K) && fn.all fun d => d.ok K) = true from congrArg (fun z : AlA => z.1) c)).2
  have e : fn.map (fun d => fnA K d) = fn.map DefA.val := congrArg (fun z : AlA => z.2) c
  have e2 : (fn.map fun d => fnA K d)[i]? = (fn.map DefA.val)[i]? := by rw [e]
  rw [List.getElem?_map, List.getElem?_map, h] at e2
  exact DefA.funD (Option.some.inj e2) (List.all_eq_true.mp c2 d (List.mem_of_getElem? h))
end
theorem funOf {K : PySem.W.Frag} {x qual : Str} {st : Stmt} {f : Addr} {fd : FuncData} (F : FunD K x qual (defArgs st) (defBody st) (defScope st) [] [] f fd) : Fun K x qual st f fd := by
  obtain ⟨⟨oc, od, dV, kV, doc, pm, an, cdv, ct, osl, rfl, l, cc, dfl, _⟩, kp⟩ := F
  rcases dfl with ⟨_, rfl⟩ | ⟨ne, _⟩
  · exact fun_mk l cc kp
  · exact absurd rfl ne
end Si

set_option Elab.async false
set_option linter.all false
set_option autoImplicit false
set_option maxRecDepth 100000
set_option maxHeartbeats 4000000
/-! Si27: len(o), o of a class with its own __len__. -/
namespace Si
open PySem L2 PyProof.Rows PySem.Spec
section
variable {X : Cx} {CX : CXT} {k : Nat} {C f : Addr} {fd : FuncData} {ps : List Str} {sp : L2.Sp} {E : XK}
theorem run_fn1 {pins : List (Addr × Obj)} {σ : L2.St} {H : Hp} {s : Shared} {Q : VK} {us : List Value} {vs : List V} (F : FnOk X.prog X.w X.K X.mg X.base CX k f fd ps sp) (hr : Room (k + 1) X.A) (hb : Binds X.K fd ps []) (hx : Passes CX X E)
    (I : Inv X pins σ H s) (r : Vals vs us) (h : sp vs H Q E) : wpAny (model X.prog X.w) X.A.in1 (call (.ref f) us) (EP X pins σ Q) X.xe s := by
  have hl : (us ++ []).length = ps.length := by rw [List.append_nil, ← r.length]; exact F.len _ _ _ _ h
  have hb' := hb s us I.kIn hl
  rw [List.append_nil] at hb'
  refine wpAny_call (codeAny_mono (F.run X.A.in1 X.stack s H ⟨us, []⟩ us vs Q E hr.in1 I.env0.in1 hb' r h) fun r s' hq => ?_)
  cases r with
  | error e => exact hx pins σ H s e s' I hq
  | ok fl =>
    cases fl with
    | ret u => exact I.after hq
    | next => exact False.elim hq
    | brk => exact False.elim hq
    | cont => exact False.elim hq
theorem call_lenOwn (hm : Meth X.K C "__len__" f) (F : FnOk X.prog X.w X.K X.mg X.base CX k f fd ps sp) (hr : Room (k + 1) X.A) (hb : Binds X.K fd ps []) (hx : Passes CX X E) :
    CallR X (.builtin "len") (fun xs H Q => ∃ a dx fs, xs = [.ref a] ∧ H a = some (.ins C dx fs) ∧ sp [.ref a] H (fun v H2 => ∃ n : Int, v = .int n ∧ 0 ≤ n ∧ n < 2 ^ 62 ∧ Q (.int n) H2) E) := by
  intro pins s σ H xs us Q I r h
  obtain ⟨a, dx, fs, rfl, ha, hsp⟩ := h
  obtain ⟨u, rfl, rx⟩ := vals1 r
  cases rx
  obtain ⟨mA, J, _⟩ := ins_get I.hok ha
  obtain ⟨od, J, _⟩ := J.look
  refine Calls.call_function_entry kind_len plain_len entry_len (args_len1 _) ?_
  unfold Builtin.«len»
  refine wpAny_bind (m := oneArg "len" _) (wpAny_pure ?_)
  refine wpAny_bind (m := callSpecial? (.ref a) (Str.ofString "__len__")) ?_
  unfold callSpecial? specialOf
  refine wpAny_bind (wpAny_bind (J.type.here ((PySem.W.looks_findIn I.kIn hm.at_).here ?_)))
  refine wpAny_holding ?_
  refine wpAny_bind ((PySem.W.bind_fn I.kIn _ (beq_iff_eq.mp hm.fn)).here ?_)
  refine wpAny_bind (wpAny_mono (run_fn1 (us := [.ref a]) (vs := [.ref a]) F hr hb hx I (.cons rfl .nil) hsp) (fun v s' z => wpAny_pure ?_) fun _ _ z => z)
  obtain ⟨v', H', I', rv, n, rfl, h0, h1, q⟩ := z
  obtain ⟨t, rfl⟩ := rv
  show wpAny _ _ _ _ _ s'
  refine wpAny_bind (wpAny_holding (wpAny_pure ?_))
  refine wpAny_bind (wpAny_letGo ?_)
  show wpAny _ _ (if n < 0 then _ else _) _ _ _
  rw [if_neg (by omega)]
  show wpAny _ _ (if n ≥ 2 ^ 63 then _ else _) _ _ _
  rw [if_neg (by omega)]
  exact wpAny_bind (wpAny_mkInt (wpAny_pure ⟨_, rfl, .int n, H', I'.tok _, ⟨_, rfl⟩, q⟩))
end
/-- len(o) by the class's own __len__ -/
def gLenO (c : Str) (G : List D → Wd → R D) : List D → Wd → R D := fun us w => match us with
  | [u] => match insL u w with
    | some (_, c', _) => if c' = c then (G [u] w).bind fun d w1 => match d with
      | .int n => if 0 ≤ n ∧ n < 2 ^ 62 then .ok (.int n) w1 else .stuck
      | _ => .stuck else .stuck
    | none => .stuck
  | _ => .stuck
section
variable {X : Cx} {cl : Str → Option Addr} {EK : XK} {a : Expr} {es : List Expr} {p pos : Pos} {mas : En → Wd → R (List D)}
theorem se_lenO {C fa : Addr} {fd : FuncData} {ps : List Str} {k : Nat} {G : List D → Wd → R D} {cn : Str} (hcl : cl cn = some C) (hm : Meth X.K C "__len__" fa)
    (F : SF X.prog X.w X.K cl X.mg X.base k fa fd ps G) (hr : Room (k + 1) X.A) (hb : Binds X.K fd ps []) (hx : Passes (L2.CX X.prog X.w) X EK)
    (hg : Gl X "len") (hmm : X.mg "len" = none) (ha : SA X cl EK (a :: es) mas) (he : starEach (a :: es) X.env = (false, eval a X.env) :: starEach es X.env := by rfl) (hpl : (backTo pos (starEach es X.env)).any (·.1) = false := by rfl) :
    SE X cl EK (.Call (.Name "len" p) (a :: es) [] pos) (mCall (gLenO cn G) mas) :=
  PE.weak (pe_callB (call_lenOwn hm F hr hb hx) hg hmm (by decide +kernel) ha (by decide) (by decide) he hpl) fun σ H Q h => tG_imp (tG_bind h) fun xs H1 ⟨s, σd, us, e, ok, re, ru, p⟩ => by
    subst e
    unfold gLenO at p
    dsimp only at p
    split at p
    · rename_i u
      split at p
      · rename_i n c' fs hi
        split at p
        · rename_i hc
          subst hc
          obtain ⟨x, rfl, rx⟩ := repA1 ru
          obtain ⟨q, C', dx, vfs, rfl, hn, hC, hH, rf, hd⟩ := ins_of ok rx hi
          rw [hcl] at hC
          cases hC
          refine ⟨q, dx, vfs, rfl, hH, s, [u], rfl, ok, .cons rx .nil, ?_⟩
          refine post_bind p fun s1 v d ex ok1 r1 p1 => ?_
          split at p1
          · rename_i i
            split at p1
            · rename_i hb
              have hv := rep_int r1
              subst hv
              exact ⟨i, rfl, hb.1, hb.2, p1 s1 _ (Ext.refl s1) ok1 rfl (.int _)⟩
            · exact p1.elim
          · exact p1.elim
        · exact p.elim
      · exact p.elim
    · exact p.elim
end
end Si

set_option Elab.async false
set_option linter.all false
set_option autoImplicit false
set_option maxRecDepth 100000
set_option maxHeartbeats 4000000
/-! Si28: T.index(x), T a tuple of texts that stands at the top. -/
namespace Si
open PySem L2 PyProof.Rows PySem.Spec
section
variable {X : Cx} {cl : Str → Option Addr} {EK : XK} {e : Expr} {x : Str} {p apos cpos : Pos} {me : En → Wd → R D} {ys : List Str}
end
end Si

set_option Elab.async false
set_option linter.all false
set_option autoImplicit false
set_option maxRecDepth 100000
set_option maxHeartbeats 4000000
/-! Si29: facts of the top that Si28 asks. -/
namespace Si
open PySem L2 PyProof.Rows
section
variable {K : PySem.W.Frag} {h : Heap} {mg : Str → Option Value}
end
end Si

set_option Elab.async false
set_option linter.all false
set_option autoImplicit false
set_option maxRecDepth 100000
set_option maxHeartbeats 4000000
/-! Si30: o.clear() of a cell's list. -/
namespace Si
open PySem L2 PyProof.Rows PySem.Spec
section
variable {X : Cx} {cl : Str → Option Addr} {EK : XK} {o : Expr} {apos cpos : Pos} {mo : En → Wd → R D}
end
end Si

set_option Elab.async false
set_option linter.all false
set_option autoImplicit false
set_option maxRecDepth 100000
set_option maxHeartbeats 4000000
/-! Si31: tuple * int from 0 on; is and is not of truth values. -/
namespace Si
open PySem L2 PyProof.Rows PySem.Spec
section
variable {X : Cx}
end
end Si

set_option Elab.async false
set_option linter.all false
set_option autoImplicit false
set_option maxRecDepth 100000
set_option maxHeartbeats 4000000
/-! Si32: list(zip(t, u)) of two pairs. -/
namespace Si
open PySem L2 PyProof.Rows PySem.Spec RZ
section
variable {prog : Program} {w : World} {A : Around} {E : Value → Shared → Prop} {s : Shared} {R : Result → Shared → Prop}
variable {z ti to' T a b l m : Addr} {f : Bool} {oT : Obj} {i j : Nat} {xs ys : Array Value} {x y : Value}
end
/-! over the abstract heap -/
section
variable {X : Cx} {pins : List (Addr × Obj)} {σ : L2.St} {H : Hp} {s : Shared} {h' : Heap} {t' : Nat} {S T0 T1 : Addr} {o0 o1 o2 : HO}
end
end Si

set_option Elab.async false
set_option linter.all false
set_option autoImplicit false
set_option maxRecDepth 100000
set_option maxHeartbeats 4000000
namespace Bk
open PySem L2 PyProof.Rows Si
abbrev F__law_bag := bagF
abbrev G__law_bag := bagF
abbrev F__law_draw := drawF
abbrev G__law_draw := drawF
abbrev F__law_same (G : List D → Wd → R D) : List D → Wd → R D := fnD 4 2 (M_same G)
abbrev G__law_same := sameF 6
theorem rec__law_same {P : Program} {w : World} {K : PySem.W.Frag} {mg : Str → Option Value} {base : Heap} {cl : Str → Option Addr} {f : Addr} {fd : FuncData} {ps : List Str} (h : ∀ (k : Nat) (G : List D → Wd → R D), SF P w K cl mg base k f fd ps G → SF P w K cl mg base (k + 1) f fd ps (fnD 4 2 (M_same G))) : SF P w K cl mg base 6 f fd ps (sameF 6) := sf_same h 6
abbrev F__law_of := ofF
abbrev G__law_of := ofF
def M_is_number : En → Wd → SR :=
  (mRet (mAnd (mIsi "int" (mVar 0)) (mAnd (mNot (mIsi "bool" (mVar 0))) (mChain gLe gLe (mVar 1) (mVar 0) (mVar 2)))))
def F_is_number : List D → Wd → R D := fnD 3 3 M_is_number
abbrev G_is_number := F_is_number
end Bk

set_option Elab.async false
set_option linter.all false
set_option autoImplicit false
set_option maxRecDepth 100000
set_option maxHeartbeats 4000000
namespace Bk
open PySem L2 PyProof.Rows Si
def M_is_integers : En → Wd → SR :=
  (mSeq (mIfS (bOr (bNot (mTru (mIsi "tuple" (mVar 0)))) (asB (mOp gNe (mCall gLen (aCons (mVar 0) aNil)) (mVar 1)))) (mRet (mC (.bl false))) mNext)
  (mRet (mCall gAll (aCons (mLc (mIter (mVar 0)) [2] (gNm 2) bYes (mAnd (mIsi "int" (mVar 2)) (mNot (mIsi "bool" (mVar 2))))) aNil))))
def F_is_integers : List D → Wd → R D := fnD 3 2 M_is_integers
abbrev G_is_integers := F_is_integers
end Bk

set_option Elab.async false
set_option linter.all false
set_option autoImplicit false
set_option maxRecDepth 100000
set_option maxHeartbeats 4000000
namespace Bk
open PySem L2 PyProof.Rows Si
end Bk

set_option Elab.async false
set_option linter.all false
set_option autoImplicit false
set_option maxRecDepth 100000
set_option maxHeartbeats 4000000
/-! Bk2: the drawing bag that goes on, typed data, rules for dicts, fields, slices. -/
namespace Bk
open PySem L2 PyProof.Rows Si
/-- the bag at n goes on, all else that stood stays -/
structure Bg (n : Nat) (w w' : Wd) : Prop where
  b : BagAt w' n
  l : w.length ≤ w'.length
  k : ∀ k, k < w.length → k ≠ n → w'[k]? = w[k]?
section
variable {n m : Nat} {w w1 w2 : Wd} {c : MO}
theorem Bg.refl (hb : BagAt w n) : Bg n w w := ⟨hb, Nat.le_refl _, fun _ _ _ => rfl⟩
theorem Bg.trans (a : Bg n w w1) (b : Bg n w1 w2) : Bg n w w2 :=
  ⟨b.b, Nat.le_trans a.l b.l, fun k hk hn => (b.k k (Nat.lt_of_lt_of_le hk a.l) hn).trans (a.k k hk hn)⟩
theorem lt_of_get {w : Wd} {m : Nat} {c : MO} (h : w[m]? = some c) : m < w.length := (List.getElem?_eq_some_iff.mp h).1
theorem Bg.get (a : Bg n w w1) (h : w[m]? = some c) (hm : m ≠ n) : w1[m]? = some c := (a.k m (lt_of_get h) hm).trans h
theorem BagAt.lt (h : BagAt w n) : n < w.length := let ⟨_, _, _, _, e, _⟩ := h; lt_of_get e
theorem Bg.ofOth (h : Oth n w w1) (hb : BagAt w1 n) : Bg n w w1 := ⟨hb, Nat.le_of_eq h.1.symm, fun k _ hk => h.2 k hk⟩
theorem BagAt.app (h : BagAt w n) (e : Wd) : BagAt (w ++ e) n := let ⟨a, b, c, d, g, i⟩ := h; ⟨a, b, c, d, (List.getElem?_append_left (lt_of_get g)).trans g, i⟩
/-- new cells at the end -/
theorem Bg.app (a : Bg n w w1) (e : Wd) : Bg n w (w1 ++ e) :=
  ⟨BagAt.app a.b e, Nat.le_trans a.l (by simp), fun k hk hn => (List.getElem?_append_left (Nat.lt_of_lt_of_le hk a.l)).trans (a.k k hk hn)⟩
theorem BagAt.set (h : BagAt w n) (hm : m ≠ n) (c : MO) : BagAt (w.set m c) n := let ⟨a, b, d, e, g, i⟩ := h; ⟨a, b, d, e, (List.getElem?_set_ne hm).trans g, i⟩
/-- a cell that is younger than w is written -/
theorem Bg.setN (a : Bg n w w1) (hm : w.length ≤ m) (c : MO) (hb : n < w.length) : Bg n w (w1.set m c) :=
  ⟨BagAt.set a.b (by omega) c, by simpa using a.l, fun k hk hn => (List.getElem?_set_ne (by omega)).trans (a.k k hk hn)⟩
end
inductive All2 {α β : Type} (P : α → β → Prop) : List α → List β → Prop
  | nil : All2 P [] []
  | cons {a : α} {b : β} {l : List α} {r : List β} (h : P a b) (t : All2 P l r) : All2 P (a :: l) (b :: r)
theorem All2.length_eq {α β : Type} {P : α → β → Prop} : ∀ {l : List α} {r : List β}, All2 P l r → l.length = r.length
  | _, _, .nil => rfl
  | _, _, .cons _ t => congrArg (· + 1) t.length_eq
theorem All2.append {α β : Type} {P : α → β → Prop} : ∀ {l l' : List α} {r r' : List β}, All2 P l r → All2 P l' r' → All2 P (l ++ l') (r ++ r')
  | _, _, _, _, .nil, h => h
  | _, _, _, _, .cons h t, h2 => .cons h (t.append h2)
section
variable {X : EX} {Q : D → Wd → Prop} {QA : List D → Wd → Prop} {w0 w : Wd} {n : Nat}
theorem drb {many : Int} (hb : Bg n w0 w) (h0 : 0 < many) (h1 : many < 2 ^ 200) (q : ∀ r w', 0 ≤ r → r < many → Bg n w0 w' → Q (.int r) w') : Go X (drawF [.obj n, .int many] w) Q :=
  dr hb.b h0 h1 fun r w' r0 r1 hb' ho => q r w' r0 r1 (hb.trans (Bg.ofOth ho hb'))
theorem oflb {ds : List D} (hb : Bg n w0 w) (h0 : 0 < ds.length) (h1 : ds.length < 2 ^ 190) (q : ∀ d w', d ∈ ds → Bg n w0 w' → Q d w') : Go X (ofF [.obj n, .lst ds] w) Q :=
  ofl hb.b h0 h1 fun r w' r0 hb' ho => q r w' r0 (hb.trans (Bg.ofOth ho hb'))
theorem br_y {p P P' : Prop} [Decidable p] (h : p) (q : P) : Br (decide p) P P' := by rw [decide_eq_true h]; exact q
theorem br_n {p P P' : Prop} [Decidable p] (h : ¬ p) (q : P') : Br (decide p) P P' := by rw [decide_eq_false h]; exact q
theorem go_allM {ds : List D} (q : Q (.bl true) w) : Go X (gAll [.lst (ds.map fun _ => D.bl true)] w) Q := by
  refine go_ok (a := D.bl true) (w' := w) ?_ q
  simp only [gAll, der_lst, Option.bind, blA_all, all_true]
theorem go_slL {ds : List D} {lo hi : Option Int} (q : Q (.lst (cutD ds lo hi)) w) : Go X (gSl (.lst ds) lo hi w) Q := q
theorem go_slT {ds : List D} {lo hi : Option Int} (q : Q (.tup (cutD ds lo hi)) w) : Go X (gSl (.tup ds) lo hi w) Q := q
theorem go_slS {z : Str} {lo hi : Option Int} (h : z.length ≤ 16777216) (q : Q (.str (cutS z lo hi)) w) : Go X (gSl (.str z) lo hi w) Q := by
  refine go_ok (a := D.str (cutS z lo hi)) (w' := w) ?_ q
  simp only [gSl]
  rw [if_pos h]
theorem go_ixL {ds : List D} {i : Int} {d : D} (h : L2.atI ds i = some d) (q : Q d w) : Go X (gIx (.lst ds) (.int i) w) Q := by
  refine go_ok (a := d) (w' := w) ?_ q
  simp only [gIx, der_lst, h]
theorem go_ixT {ds : List D} {i : Int} {d : D} (h : L2.atI ds i = some d) (q : Q d w) : Go X (gIx (.tup ds) (.int i) w) Q := by
  refine go_ok (a := d) (w' := w) ?_ q
  simp only [gIx, h]
theorem go_intI {i : Int} (q : Q (.int i) w) : Go X (gInt [.int i] w) Q := q
theorem go_lstL {ds : List D} (q : Q (.lst ds) w) : Go X (gLstOf [.lst ds] w) Q := q
theorem go_lstT {ds : List D} (q : Q (.lst ds) w) : Go X (gLstOf [.tup ds] w) Q := q
theorem go_tupL {ds : List D} (q : Q (.tup ds) w) : Go X (gTupOf [.lst ds] w) Q := q
theorem go_tupT {ds : List D} (q : Q (.tup ds) w) : Go X (gTupOf [.tup ds] w) Q := q
theorem go_isN {u : D} (q : Q (.bl (isNon u)) w) : Go X (gIsN u .non w) Q := q
theorem go_notN {u : D} (q : Q (.bl (!isNon u)) w) : Go X (gNotN u .non w) Q := q
theorem ex_tg {f : D → En → Wd → Option En} {d : D} {σ σ1 : En} {R : En → Prop} (e : f d σ w = some σ1) (h : R σ1) : ∃ σ1, f d σ w = some σ1 ∧ R σ1 := ⟨_, e, h⟩
theorem go_zip {mas : En → Wd → R (List D)} {σ : En} (h : Go X (mas σ w) fun us w1 => ∃ ds es, us = [.lst ds, .lst es] ∧ QA (zipD ds es) w1) : Go X (mZip mas σ w) QA :=
  go_bind (go_weak h fun _ _ ⟨_, _, e, h⟩ => by subst e; exact h)
theorem go_enum {mas : En → Wd → R (List D)} {σ : En} (h : Go X (mas σ w) fun us w1 => ∃ ds, us = [.lst ds] ∧ QA (enumD 0 ds) w1) : Go X (mEnum mas σ w) QA :=
  go_bind (go_weak h fun _ _ ⟨_, e, h⟩ => by subst e; exact h)
theorem ex_zip {ds es : List D} {R : List D → List D → Prop} (h : R ds es) : ∃ a b, [D.lst ds, D.lst es] = [D.lst a, D.lst b] ∧ R a b := ⟨_, _, rfl, h⟩
theorem ex_enum {ds : List D} {R : List D → Prop} (h : R ds) : ∃ a, [D.lst ds] = [D.lst a] ∧ R a := ⟨_, rfl, h⟩
theorem go_star {ma : En → Wd → R D} {mr : En → Wd → R (List D)} {σ : En} (h : Go X (ma σ w) fun u w1 => ∃ ds, seqD u w1 = some ds ∧ Go X (mr σ w1) fun us w2 => QA (ds ++ us) w2) : Go X (aStar ma mr σ w) QA :=
  go_bind (go_weak h fun _ _ ⟨_, e, h⟩ => by rw [e]; exact go_bind h)
theorem ex_seq {u : D} {b : List D} {R : List D → Prop} (e : seqD u w = some b) (h : R b) : ∃ b, seqD u w = some b ∧ R b := ⟨b, e, h⟩
theorem go_lenSet {ma : En → Wd → R D} {σ : En} (h : Go X (ma σ w) fun u w1 => ∃ xs, (seqD u w1).bind stA = some xs ∧ xs.length < 4000 ∧ Q (.int (cntR xs.reverse)) w1) : Go X (mLenSet ma σ w) Q :=
  go_bind (go_weak h fun _ _ ⟨_, e, l, h⟩ => by rw [e]; dsimp only; rw [if_pos l]; exact h)
theorem go_inTt {u : D} {ds : List D} (hf : (flatD u && ds.all flatD) = true) (hb : (ds.any fun d => eqF d u) = true) (q : Q (.bl true) w) : Go X (gIn u (.tup ds) w) Q := by
  refine go_ok (a := D.bl true) (w' := w) ?_ q
  have hu : Si.dl u w = u := by cases u <;> first | rfl | (simp [flatD] at hf)
  have e : inD u (.tup ds) = some true := by show (if _ then _ else _) = _; rw [if_pos hf, hb]
  unfold gIn
  rw [hu, show Si.dl (.tup ds) w = .tup ds from rfl, e]
theorem go_inTf {u : D} {ds : List D} (hf : (flatD u && ds.all flatD) = true) (hb : (ds.any fun d => eqF d u) = false) (q : Q (.bl false) w) : Go X (gIn u (.tup ds) w) Q := by
  refine go_ok (a := D.bl false) (w' := w) ?_ q
  have hu : Si.dl u w = u := by cases u <;> first | rfl | (simp [flatD] at hf)
  have e : inD u (.tup ds) = some false := by show (if _ then _ else _) = _; rw [if_pos hf, hb]
  unfold gIn
  rw [hu, show Si.dl (.tup ds) w = .tup ds from rfl, e]
theorem go_niTt {u : D} {ds : List D} (hf : (flatD u && ds.all flatD) = true) (hb : (ds.any fun d => eqF d u) = true) (q : Q (.bl false) w) : Go X (gNotIn u (.tup ds) w) Q := by
  refine go_ok (a := D.bl false) (w' := w) ?_ q
  have hu : Si.dl u w = u := by cases u <;> first | rfl | (simp [flatD] at hf)
  have e : inD u (.tup ds) = some true := by show (if _ then _ else _) = _; rw [if_pos hf, hb]
  unfold gNotIn
  rw [hu, show Si.dl (.tup ds) w = .tup ds from rfl, e]
  rfl
theorem go_niTf {u : D} {ds : List D} (hf : (flatD u && ds.all flatD) = true) (hb : (ds.any fun d => eqF d u) = false) (q : Q (.bl true) w) : Go X (gNotIn u (.tup ds) w) Q := by
  refine go_ok (a := D.bl true) (w' := w) ?_ q
  have hu : Si.dl u w = u := by cases u <;> first | rfl | (simp [flatD] at hf)
  have e : inD u (.tup ds) = some false := by show (if _ then _ else _) = _; rw [if_pos hf, hb]
  unfold gNotIn
  rw [hu, show Si.dl (.tup ds) w = .tup ds from rfl, e]
  rfl
theorem go_idD {X : EX} {r : R D} {Q : D → Wd → Prop} (h : Go X r Q) : Go X r Q := h
theorem go_idL {X : EX} {r : R (List D)} {Q : List D → Wd → Prop} (h : Go X r Q) : Go X r Q := h
theorem go_idB {X : EX} {r : R Bool} {Q : Bool → Wd → Prop} (h : Go X r Q) : Go X r Q := h
theorem go_idO {X : EX} {r : R (Option Int)} {Q : Option Int → Wd → Prop} (h : Go X r Q) : Go X r Q := h
theorem gd_id {X : EX} {N B C : En → Wd → Prop} {T : D → Wd → Prop} {r : SR} (h : Gd X N T B C r) : Gd X N T B C r := h
theorem br_id {b : Bool} {P P' : Prop} (h : Br b P P') : Br b P P' := h
theorem go_max2 {i j : Int} (q : Q (.int (if j > i then j else i)) w) : Go X (gMax2 [.int i, .int j] w) Q := q
theorem go_min2 {i j : Int} (q : Q (.int (if j < i then j else i)) w) : Go X (gMin2 [.int i, .int j] w) Q := q
/-- a comprehension whose element draws: each one as P says -/
theorem lc_draw {own : List Nat} {f : D → En → Wd → Option En} {me : En → Wd → R D} {σ : En} (P : D → D → Prop) (ds : List D) (hl : ds.length ≤ 16777216) (hb : Bg n w0 w)
    (hs : ∀ d w, d ∈ ds → Bg n w0 w → ∃ σ1, f d (wipeD σ own) w = some σ1 ∧ Go EX0 (me σ1 w) fun y w2 => P d y ∧ Bg n w0 w2)
    (q : ∀ ys w', All2 P ds ys → Bg n w0 w' → QA ys w') : Go X (lcL own f bYes me σ ds [] w) QA := by
  refine go_lcL (fun acc r w' => Bg n w0 w' ∧ ∃ pre, ds = pre ++ r ∧ All2 P pre acc) ?_ ?_ _ _ _ ⟨hb, [], rfl, .nil⟩
  · rintro acc d r w ⟨hb, pre, e, ha⟩
    obtain ⟨σ1, e1, h1⟩ := hs d w (by rw [e]; simp) hb
    refine ⟨σ1, e1, go_bYes (br_t (go_weak h1 fun y w2 h => ⟨?_, h.2, pre ++ [d], by rw [e]; simp, ?_⟩))⟩
    · have := ha.length_eq
      have e2 := congrArg List.length e
      simp only [List.length_append, List.length_cons] at e2
      omega
    · exact All2.append ha (.cons h.1 .nil)
  · rintro acc w ⟨hb, pre, e, ha⟩
    rw [List.append_nil] at e
    subst e
    exact q acc w ha hb
end
end Bk

set_option Elab.async false
set_option linter.all false
set_option autoImplicit false
set_option maxRecDepth 100000
set_option maxHeartbeats 4000000
/-! Bk3: what can be compared; lists drawn in another order. -/
namespace Bk
open PySem L2 PyProof.Rows Si
/-- one step by the form of the code -/
local macro_rules | `(tactic| walk_at "g1_Bk3") => `(tactic| with_reducible first
  | refine gd_seq ?_ | refine gd_nm ?_ | refine gd_asg ?_ | refine gd_ret ?_ | refine gd_if ?_ | refine gd_next ?_ | refine gd_expr ?_ | refine gd_par ?_ | refine gd_retN ?_ | refine gd_brk ?_ | refine gd_cnt ?_ | refine gd_for ?_
  | refine go_var rfl ?_ | refine go_c ?_ | refine go_op ?_ | refine go_call ?_ | refine go_callK ?_ | refine go_nil ?_ | refine go_cons ?_ | refine go_tup ?_ | refine go_lst ?_ | refine go_lstM ?_ | refine go_chain ?_ | refine go_and ?_ | refine go_or ?_ | refine go_not ?_
  | refine go_tru ?_ | refine go_asB ?_ | refine go_bAnd ?_ | refine go_bOr ?_ | refine go_bNot ?_ | refine go_bYes ?_ | refine go_if ?_ | refine go_neg ?_ | refine go_oNone ?_ | refine go_oSome ?_ | refine go_sl ?_ | refine go_isi ?_ | refine go_isi2 ?_
  | refine go_join ?_ | refine go_app ?_ | refine go_iter ?_ | refine go_rng1 ?_ | refine go_rng2 ?_ | refine go_lc ?_ | refine go_lcM ?_
  | refine go_addI ?_ | refine go_subI ?_ | refine go_lt ?_ | refine go_le ?_ | refine go_gt ?_ | refine go_ge ?_ | refine go_eqI ?_ | refine go_neI ?_ | refine go_eqS ?_ | refine go_neS ?_ | refine go_lenL ?_ | refine go_lenT ?_ | refine go_lenS (by assumption) ?_
  | refine br_t ?_ | refine br_f ?_ | refine br_not ?_)
local macro_rules | `(tactic| walk_at "g2_Bk3") => `(tactic| first
  | with_reducible refine ex_bl ?_ | with_reducible refine ex_int ?_ | with_reducible refine ex_str ?_ | with_reducible refine ex_nm ?_
  | with_reducible refine ex_tru (by with_unfolding_all exact rfl) ?_
  | with_reducible refine ex_ty (by with_unfolding_all exact rfl) ?_
  | with_reducible refine ex_it (by with_unfolding_all exact rfl) ?_
  | with_reducible refine br_is (b := isB _ _) (by with_unfolding_all decide) ?_ | with_reducible refine br_isnt (b := isB _ _) (by with_unfolding_all decide) ?_
  | with_reducible refine br_is (b := isB _ _ || isB _ _) (by with_unfolding_all decide) ?_ | with_reducible refine br_isnt (b := isB _ _ || isB _ _) (by with_unfolding_all decide) ?_
  | (with_reducible refine an_rng ?hh ?_; case hh => (first | decide | omega))
  | (with_reducible refine an_rng2 ?hh ?_; case hh => (first | decide | omega))
  | (with_reducible refine an_le ?hh ?_; case hh => (first | decide | (simp only [List.length_cons, List.length_nil]; omega))))
local macro_rules | `(tactic| walk_at "gg_Bk3") => `(tactic| repeat' (first | walk_at "g1_Bk3" | walk_at "g2_Bk3"))

mutual
/-- so deep at most, no cells, real texts -/
def tame : Nat → D → Bool
  | _, .non | _, .bl _ | _, .int _ => true
  | _, .str z => PyData.strOk z
  | n + 1, .lst xs | n + 1, .tup xs => tameA n xs
  | 0, .lst _ | 0, .tup _ | _, .obj _ | _, .scr _ => false
def tameA : Nat → List D → Bool
  | _, [] => true
  | n, x :: r => tame n x && tameA n r
end
theorem tameA_of {n : Nat} : ∀ {xs : List D}, (∀ x ∈ xs, tame n x = true) → tameA n xs = true
  | [], _ => by rw [tameA]
  | x :: r, h => by rw [tameA, h x List.mem_cons_self, tameA_of fun y hy => h y (List.mem_cons_of_mem _ hy)]; rfl
theorem tame_lst {n : Nat} {xs : List D} (h : ∀ x ∈ xs, tame n x = true) : tame (n + 1) (.lst xs) = true := by rw [tame]; exact tameA_of h
theorem tame_tup {n : Nat} {xs : List D} (h : ∀ x ∈ xs, tame n x = true) : tame (n + 1) (.tup xs) = true := by rw [tame]; exact tameA_of h
mutual
theorem tame_ok : ∀ {n : Nat} {d : D}, tame n d = true → d.pure = true ∧ d.py.canLay0 = true ∧ d.py.depth ≤ n
  | _, .non, _ => ⟨by rw [D.pure], by rw [D.py, PyData.canLay0], by rw [D.py, PyData.depth]; omega⟩
  | _, .bl _, _ => ⟨by rw [D.pure], by rw [D.py, PyData.canLay0], by rw [D.py, PyData.depth]; omega⟩
  | _, .int _, _ => ⟨by rw [D.pure], by rw [D.py, PyData.canLay0], by rw [D.py, PyData.depth]; omega⟩
  | _, .str z, h => ⟨by rw [D.pure], by rw [D.py, PyData.canLay0]; rw [tame] at h; exact h, by rw [D.py, PyData.depth]; omega⟩
  | n + 1, .lst xs, h => by
    rw [tame] at h
    obtain ⟨a, b, c⟩ := tameA_ok h
    exact ⟨by rw [D.pure]; exact a, by rw [D.py, PyData.canLay0]; exact b, by rw [D.py, PyData.depth]; omega⟩
  | n + 1, .tup xs, h => by
    rw [tame] at h
    obtain ⟨a, b, c⟩ := tameA_ok h
    exact ⟨by rw [D.pure]; exact a, by rw [D.py, PyData.canLay0]; exact b, by rw [D.py, PyData.depth]; omega⟩
  | 0, .lst _, h => by rw [tame] at h; cases h
  | 0, .tup _, h => by rw [tame] at h; cases h
  | _, .obj _, h => by rw [tame] at h; cases h
  | _, .scr _, h => by rw [tame] at h; cases h
theorem tameA_ok : ∀ {n : Nat} {xs : List D}, tameA n xs = true → pureA xs = true ∧ PyData.canLayAll0 (pyA xs) = true ∧ PyData.depthAll (pyA xs) ≤ n
  | _, [], _ => ⟨by rw [pureA], by rw [pyA, PyData.canLayAll0], by rw [pyA, PyData.depthAll]; omega⟩
  | n, x :: r, h => by
    rw [tameA, Bool.and_eq_true] at h
    obtain ⟨a, b, c⟩ := tame_ok h.1
    obtain ⟨a2, b2, c2⟩ := tameA_ok h.2
    exact ⟨by rw [pureA, a, a2]; rfl, by rw [pyA, PyData.canLayAll0, b, b2]; rfl, by rw [pyA, PyData.depthAll]; omega⟩
end
theorem okD_of {n : Nat} {d : D} (h : tame n d = true) (hn : n ≤ 64) : okD d = true := by
  obtain ⟨a, b, c⟩ := tame_ok h
  unfold okD SeqAt.shaped
  rw [a, b, decide_eq_true (by omega)]
  rfl
section
variable {X : EX} {Q : D → Wd → Prop} {QA : List D → Wd → Prop} {w0 w : Wd} {n : Nat} {σ : En}
/-- xs != [] -/
theorem go_neNil {k : Nat} {u : D} {ds : List D} (hu : Si.dl u w = .lst ds) (hs : scEq u (.lst []) = none) (ht : tame k (.lst ds) = true) (hk : k ≤ 64) (q : Q (.bl (!ds.isEmpty)) w) : Go X (gNe u (.lst []) w) Q := by
  refine go_ok (a := D.bl (!ds.isEmpty)) (w' := w) ?_ q
  unfold gNe
  rw [hs, hu]
  have e : Si.dl (.lst []) w = .lst [] := rfl
  rw [e, okD_of ht hk, okD_of (n := 1) (d := .lst []) (by rw [tame, tameA]) (by omega)]
  cases ds with
  | nil => rfl
  | cons x r => rfl
theorem go_eqNil {k : Nat} {u : D} {ds : List D} (hu : Si.dl u w = .lst ds) (hs : scEq u (.lst []) = none) (ht : tame k (.lst ds) = true) (hk : k ≤ 64) (q : Q (.bl ds.isEmpty) w) : Go X (gEq u (.lst []) w) Q := by
  refine go_ok (a := D.bl ds.isEmpty) (w' := w) ?_ q
  unfold gEq
  rw [hs, hu]
  have e : Si.dl (.lst []) w = .lst [] := rfl
  rw [e, okD_of ht hk, okD_of (n := 1) (d := .lst []) (by rw [tame, tameA]) (by omega)]
  cases ds with
  | nil => rfl
  | cons x r => rfl
theorem go_lenC {a : Nat} {ds : List D} (h : w[a]? = some (.lst ds)) (q : Q (.int ds.length) w) : Go X (gLen [.obj a] w) Q := by
  refine go_ok (a := D.int ds.length) (w' := w) ?_ q
  simp only [gLen, der_of h]
theorem ixN_nat {n : Nat} {r : Int} (h0 : 0 ≤ r) (h1 : r < n) : ixN n r = some r.toNat := by
  unfold ixN
  rw [if_pos h0, if_pos h1]
theorem gd_weak {N N' B B' C C' : En → Wd → Prop} {T T' : D → Wd → Prop} {r : SR} (h : Gd X N T B C r) (hn : ∀ σ w, N σ w → N' σ w) (ht : ∀ d w, T d w → T' d w) (hb : ∀ σ w, B σ w → B' σ w) (hc : ∀ σ w, C σ w → C' σ w) : Gd X N' T' B' C' r := by
  cases r with
  | next σ w => exact hn _ _ h
  | ret d w => exact ht _ _ h
  | brk σ w => exact hb _ _ h
  | cnt σ w => exact hc _ _ h
  | err => exact h
  | stuck => exact h
end
end Bk

set_option Elab.async false
set_option linter.all false
set_option autoImplicit false
set_option maxRecDepth 100000
set_option maxHeartbeats 4000000
/-! Bk4: names. -/
namespace Bk
open PySem L2 PyProof.Rows Si
/-- one step by the form of the code -/
local macro_rules | `(tactic| walk_at "g1_Bk4") => `(tactic| with_reducible first
  | (refine go_idD ?_; first
    | refine go_var rfl ?_ | refine go_c ?_ | refine go_op ?_ | refine go_call ?_ | refine go_eqS ?_ | refine go_eqI ?_ | refine go_tup ?_ | refine go_lst ?_ | refine go_addI ?_ | refine go_isi ?_ | refine go_and ?_ | refine go_lt ?_ | refine go_le ?_ | refine go_gt ?_ | refine go_ge ?_ | refine go_ixT rfl ?_ | refine go_ixL rfl ?_
    | refine go_lc ?_ | refine go_if ?_ | refine go_not ?_ | refine go_or ?_ | refine go_chain ?_ | refine go_callK ?_ | refine go_lstM ?_ | refine go_neg ?_ | refine go_sl ?_ | refine go_isi2 ?_ | refine go_join ?_ | refine go_app ?_ | refine go_lenSet ?_ | refine go_lcM ?_
    | refine go_subI ?_ | refine go_neI ?_ | refine go_neS ?_ | refine go_lenL ?_ | refine go_lenT ?_ | refine go_lenS (by assumption) ?_
    | refine go_slL ?_ | refine go_slT ?_ | refine go_slS (by assumption) ?_ | refine go_intI ?_ | refine go_lstL ?_ | refine go_lstT ?_ | refine go_tupL ?_ | refine go_tupT ?_ | refine go_isN ?_ | refine go_notN ?_ | refine go_allM ?_ | refine go_max2 ?_ | refine go_min2 ?_)
  | (refine go_idL ?_; first | refine go_cons ?_ | refine go_nil ?_ | refine go_iter ?_ | refine go_rng1 ?_ | refine go_zip ?_ | refine go_enum ?_ | refine go_star ?_ | refine go_rng2 ?_)
  | (refine gd_id ?_; first | refine gd_seq ?_ | refine gd_nm ?_ | refine gd_asg ?_ | refine gd_ret ?_ | refine gd_if ?_ | refine gd_next ?_ | refine gd_expr ?_ | refine gd_par ?_ | refine gd_retN ?_ | refine gd_brk ?_ | refine gd_cnt ?_ | refine gd_for ?_)
  | (refine go_idB ?_; first | refine go_asB ?_ | refine go_tru ?_ | refine go_bAnd ?_ | refine go_bOr ?_ | refine go_bNot ?_ | refine go_bYes ?_)
  | (refine br_id ?_; first | refine br_t ?_ | refine br_f ?_ | refine br_not ?_)
  | (refine go_idO ?_; first | refine go_oNone ?_ | refine go_oSome ?_))
local macro_rules | `(tactic| walk_at "g2_Bk4") => `(tactic| first
  | with_reducible refine ex_bl ?_ | with_reducible refine ex_int ?_ | with_reducible refine ex_str ?_ | with_reducible refine ex_nm ?_
  | with_reducible refine ex_zip ?_ | with_reducible refine ex_enum ?_
  | with_reducible refine ex_seq (by with_unfolding_all exact rfl) ?_
  | with_reducible refine ex_tg (by with_unfolding_all exact rfl) ?_
  | with_reducible refine ex_tru (by with_unfolding_all exact rfl) ?_
  | with_reducible refine ex_ty (by with_unfolding_all exact rfl) ?_
  | with_reducible refine ex_it (by with_unfolding_all exact rfl) ?_
  | ((with_reducible refine br_id ?_); first
    | with_reducible refine br_is (b := Si.isNon _) (by with_unfolding_all rfl) ?_ | with_reducible refine br_isnt (b := Si.isNon _) (by with_unfolding_all rfl) ?_
    | with_reducible refine br_is (b := isB _ _) (by with_unfolding_all decide) ?_ | with_reducible refine br_isnt (b := isB _ _) (by with_unfolding_all decide) ?_
    | with_reducible refine br_is (b := isB _ _ || isB _ _) (by with_unfolding_all decide) ?_ | with_reducible refine br_isnt (b := isB _ _ || isB _ _) (by with_unfolding_all decide) ?_
    | with_reducible refine br_y (by decide +kernel) ?_ | with_reducible refine br_n (by decide +kernel) ?_ | with_reducible refine br_y (by with_unfolding_all rfl) ?_ | with_reducible refine br_n (by simp only [List.length_cons, List.length_nil]; omega) ?_)
  | ((with_reducible refine go_idD ?_); first
    | with_reducible refine go_mulL ⟨by decide, by decide⟩ ?_ | with_reducible refine go_mulR ⟨by decide, by decide⟩ ?_ | with_reducible refine go_mod (by decide) ?_ | with_reducible refine go_div (by decide) (by decide) ?_
    | with_reducible refine go_inTt (by decide +kernel) (by decide +kernel) ?_ | with_reducible refine go_inTf (by decide +kernel) (by decide +kernel) ?_ | with_reducible refine go_niTt (by decide +kernel) (by decide +kernel) ?_ | with_reducible refine go_niTf (by decide +kernel) (by decide +kernel) ?_)
  | (with_reducible refine an_le ?hh ?_; case hh => (first | decide | (simp only [List.length_cons, List.length_nil]; omega)))
  | (with_reducible refine an_rng ?hh ?_; case hh => (first | decide | omega))
  | (with_reducible refine an_rng2 ?hh ?_; case hh => (first | decide | omega))
  | fail)
local macro_rules | `(tactic| walk_at "gg_Bk4") => `(tactic| repeat' (first | walk_at "g1_Bk4" | walk_at "g2_Bk4"))

/-- a name -/
structure NmOk (z : Str) : Prop where
  low : ∀ c ∈ z.cps.toList, 97 ≤ c ∧ c ≤ 122
  l1 : 1 ≤ z.length
  l6 : z.length ≤ 6
  nr : ∀ y ∈ (["age", "young", "none", "learn", "any"] : List Str), y ≠ z
section
variable {X : EX} {Q : D → Wd → Prop} {QA : List D → Wd → Prop} {w0 w : Wd} {n : Nat} {σ : En}
end
/-! the drawn names -/
def lets : List Nat := [98, 99, 100, 102, 103, 104, 106, 107, 108, 109, 112, 113, 114, 115, 116, 118, 119, 120, 122]
section
variable {X : EX} {Q : D → Wd → Prop} {QA : List D → Wd → Prop} {w0 w : Wd} {n : Nat} {σ : En}
end
end Bk

set_option Elab.async false
set_option linter.all false
set_option autoImplicit false
set_option maxRecDepth 100000
set_option maxHeartbeats 4000000
/-! Bk5: typed data; drawn tests, settings, moves. -/
namespace Bk
open PySem L2 PyProof.Rows Si
/-- one step by the form of the code -/
local macro_rules | `(tactic| walk_at "g1_Bk5") => `(tactic| with_reducible first
  | (refine go_idD ?_; first
    | refine go_var rfl ?_ | refine go_c ?_ | refine go_op ?_ | refine go_call ?_ | refine go_eqS ?_ | refine go_eqI ?_ | refine go_tup ?_ | refine go_lst ?_ | refine go_addI ?_ | refine go_isi ?_ | refine go_and ?_ | refine go_lt ?_ | refine go_le ?_ | refine go_gt ?_ | refine go_ge ?_ | refine go_ixT rfl ?_ | refine go_ixL rfl ?_
    | refine go_lc ?_ | refine go_if ?_ | refine go_not ?_ | refine go_or ?_ | refine go_chain ?_ | refine go_callK ?_ | refine go_lstM ?_ | refine go_neg ?_ | refine go_sl ?_ | refine go_isi2 ?_ | refine go_join ?_ | refine go_app ?_ | refine go_lenSet ?_ | refine go_lcM ?_
    | refine go_subI ?_ | refine go_neI ?_ | refine go_neS ?_ | refine go_lenL ?_ | refine go_lenT ?_ | refine go_lenS (by assumption) ?_
    | refine go_slL ?_ | refine go_slT ?_ | refine go_slS (by assumption) ?_ | refine go_intI ?_ | refine go_lstL ?_ | refine go_lstT ?_ | refine go_tupL ?_ | refine go_tupT ?_ | refine go_isN ?_ | refine go_notN ?_ | refine go_allM ?_ | refine go_max2 ?_ | refine go_min2 ?_)
  | (refine go_idL ?_; first | refine go_cons ?_ | refine go_nil ?_ | refine go_iter ?_ | refine go_rng1 ?_ | refine go_zip ?_ | refine go_enum ?_ | refine go_star ?_ | refine go_rng2 ?_)
  | (refine gd_id ?_; first | refine gd_seq ?_ | refine gd_nm ?_ | refine gd_asg ?_ | refine gd_ret ?_ | refine gd_if ?_ | refine gd_next ?_ | refine gd_expr ?_ | refine gd_par ?_ | refine gd_retN ?_ | refine gd_brk ?_ | refine gd_cnt ?_ | refine gd_for ?_)
  | (refine go_idB ?_; first | refine go_asB ?_ | refine go_tru ?_ | refine go_bAnd ?_ | refine go_bOr ?_ | refine go_bNot ?_ | refine go_bYes ?_)
  | (refine br_id ?_; first | refine br_t ?_ | refine br_f ?_ | refine br_not ?_)
  | (refine go_idO ?_; first | refine go_oNone ?_ | refine go_oSome ?_))
local macro_rules | `(tactic| walk_at "g2_Bk5") => `(tactic| first
  | with_reducible refine ex_bl ?_ | with_reducible refine ex_int ?_ | with_reducible refine ex_str ?_ | with_reducible refine ex_nm ?_
  | with_reducible refine ex_zip ?_ | with_reducible refine ex_enum ?_
  | with_reducible refine ex_seq (by with_unfolding_all exact rfl) ?_
  | with_reducible refine ex_tg (by with_unfolding_all exact rfl) ?_
  | with_reducible refine ex_tru (by with_unfolding_all exact rfl) ?_
  | with_reducible refine ex_ty (by with_unfolding_all exact rfl) ?_
  | with_reducible refine ex_it (by with_unfolding_all exact rfl) ?_
  | ((with_reducible refine br_id ?_); first
    | with_reducible refine br_is (b := Si.isNon _) (by with_unfolding_all rfl) ?_ | with_reducible refine br_isnt (b := Si.isNon _) (by with_unfolding_all rfl) ?_
    | with_reducible refine br_is (b := isB _ _) (by with_unfolding_all decide) ?_ | with_reducible refine br_isnt (b := isB _ _) (by with_unfolding_all decide) ?_
    | with_reducible refine br_is (b := isB _ _ || isB _ _) (by with_unfolding_all decide) ?_ | with_reducible refine br_isnt (b := isB _ _ || isB _ _) (by with_unfolding_all decide) ?_
    | with_reducible refine br_y (by decide +kernel) ?_ | with_reducible refine br_n (by decide +kernel) ?_ | with_reducible refine br_y (by with_unfolding_all rfl) ?_ | with_reducible refine br_n (by simp only [List.length_cons, List.length_nil]; omega) ?_)
  | ((with_reducible refine go_idD ?_); first
    | with_reducible refine go_mulL ⟨by decide, by decide⟩ ?_ | with_reducible refine go_mulR ⟨by decide, by decide⟩ ?_ | with_reducible refine go_mod (by decide) ?_ | with_reducible refine go_div (by decide) (by decide) ?_
    | with_reducible refine go_inTt (by decide +kernel) (by decide +kernel) ?_ | with_reducible refine go_inTf (by decide +kernel) (by decide +kernel) ?_ | with_reducible refine go_niTt (by decide +kernel) (by decide +kernel) ?_ | with_reducible refine go_niTf (by decide +kernel) (by decide +kernel) ?_)
  | (with_reducible refine an_le ?hh ?_; case hh => (first | decide | (simp only [List.length_cons, List.length_nil]; omega)))
  | (with_reducible refine an_rng ?hh ?_; case hh => (first | decide | omega))
  | (with_reducible refine an_rng2 ?hh ?_; case hh => (first | decide | omega))
  | fail)
local macro_rules | `(tactic| walk_at "gg_Bk5") => `(tactic| repeat' (first | walk_at "g1_Bk5" | walk_at "g2_Bk5"))

abbrev Prs := List (Str × Int)
def eP (p : Str × Int) : D := .tup [.str p.1, .int p.2]
abbrev eT (t : Prs) : D := .tup (t.map eP)
def eSt (p : Str × Str) : D := .tup [.str p.1, .str p.2]
abbrev eS (l : List Str) : List D := l.map .str
structure MarksOk (ma : List Str) : Prop where
  nd : ma.Nodup
  nm : ∀ z ∈ ma, NmOk z
  le : ma.length ≤ 3
structure TestsOk (ma : List Str) (t : Prs) : Prop where
  nd : (t.map (·.1)).Nodup
  le : t.length ≤ 8
  ok : ∀ p ∈ t, (p.1 ∈ ma ∧ 0 ≤ p.2 ∧ p.2 ≤ 1) ∨ ((p.1 = "age" ∨ p.1 = "young") ∧ 0 ≤ p.2 ∧ p.2 ≤ 6)
structure SetsOk (ma : List Str) (t : Prs) : Prop where
  nd : (t.map (·.1)).Nodup
  le : t.length ≤ 8
  ok : ∀ p ∈ t, p.1 ∈ ma ∧ 0 ≤ p.2 ∧ p.2 ≤ 1
structure StoresOk (st : List (Str × Str)) : Prop where
  nd : (st.map (·.1)).Nodup
  l1 : 1 ≤ st.length
  le : st.length ≤ 5
  ok : ∀ p ∈ st, NmOk p.1 ∧ (p.2 = "fine" ∨ p.2 = "coarse")
structure MovesOk (st : List (Str × Str)) (fo : Str) (t : Prs) : Prop where
  nd : (t.map (·.1)).Nodup
  le : t.length ≤ 8
  ok : ∀ p ∈ t, p.1 ∈ st.map (·.1) ∧ (p.2 = 1 ∨ (p.2 = -1 ∧ fo ≠ "most"))
theorem tm_int {n : Nat} {i : Int} : tame n (.int i) = true := by cases n <;> rw [tame]
/-- what the spec in cell m holds of what the draws read -/
structure Sq (n m : Nat) (w0 : Wd) (st : List (Str × Str)) (ma : List Str) (fo : Str) : Prop where
  ne : m ≠ n
  lt : n < w0.length
  ex : ∃ kvs, w0[m]? = some (.dct kvs) ∧ valD kvs (.inr "marks") = some (.lst (eS ma)) ∧ valD kvs (.inr "stores") = some (.lst (st.map eSt)) ∧ valD kvs (.inr "fold") = some (.str fo)
section
variable {X : EX} {Q : D → Wd → Prop} {QA : List D → Wd → Prop} {w0 w : Wd} {n m : Nat} {σ : En} {st : List (Str × Str)} {ma : List Str} {fo : Str}
end
end Bk

set_option Elab.async false
set_option linter.all false
set_option autoImplicit false
set_option maxRecDepth 100000
set_option maxHeartbeats 4000000
/-! Bk6: drawn moves, steps, jobs, entries, readings. -/
namespace Bk
open PySem L2 PyProof.Rows Si
/-- one step by the form of the code -/
local macro_rules | `(tactic| walk_at "g1_Bk6") => `(tactic| with_reducible first
  | (refine go_idD ?_; first
    | refine go_var rfl ?_ | refine go_c ?_ | refine go_op ?_ | refine go_call ?_ | refine go_eqS ?_ | refine go_eqI ?_ | refine go_tup ?_ | refine go_lst ?_ | refine go_addI ?_ | refine go_isi ?_ | refine go_and ?_ | refine go_lt ?_ | refine go_le ?_ | refine go_gt ?_ | refine go_ge ?_ | refine go_ixT rfl ?_ | refine go_ixL rfl ?_
    | refine go_lc ?_ | refine go_if ?_ | refine go_not ?_ | refine go_or ?_ | refine go_chain ?_ | refine go_callK ?_ | refine go_lstM ?_ | refine go_neg ?_ | refine go_sl ?_ | refine go_isi2 ?_ | refine go_join ?_ | refine go_app ?_ | refine go_lenSet ?_ | refine go_lcM ?_
    | refine go_subI ?_ | refine go_neI ?_ | refine go_neS ?_ | refine go_lenL ?_ | refine go_lenT ?_ | refine go_lenS (by assumption) ?_
    | refine go_slL ?_ | refine go_slT ?_ | refine go_slS (by assumption) ?_ | refine go_intI ?_ | refine go_lstL ?_ | refine go_lstT ?_ | refine go_tupL ?_ | refine go_tupT ?_ | refine go_isN ?_ | refine go_notN ?_ | refine go_allM ?_ | refine go_max2 ?_ | refine go_min2 ?_)
  | (refine go_idL ?_; first | refine go_cons ?_ | refine go_nil ?_ | refine go_iter ?_ | refine go_rng1 ?_ | refine go_zip ?_ | refine go_enum ?_ | refine go_star ?_ | refine go_rng2 ?_)
  | (refine gd_id ?_; first | refine gd_seq ?_ | refine gd_nm ?_ | refine gd_asg ?_ | refine gd_ret ?_ | refine gd_if ?_ | refine gd_next ?_ | refine gd_expr ?_ | refine gd_par ?_ | refine gd_retN ?_ | refine gd_brk ?_ | refine gd_cnt ?_ | refine gd_for ?_)
  | (refine go_idB ?_; first | refine go_asB ?_ | refine go_tru ?_ | refine go_bAnd ?_ | refine go_bOr ?_ | refine go_bNot ?_ | refine go_bYes ?_)
  | (refine br_id ?_; first | refine br_t ?_ | refine br_f ?_ | refine br_not ?_)
  | (refine go_idO ?_; first | refine go_oNone ?_ | refine go_oSome ?_))
local macro_rules | `(tactic| walk_at "g2_Bk6") => `(tactic| first
  | with_reducible refine ex_bl ?_ | with_reducible refine ex_int ?_ | with_reducible refine ex_str ?_ | with_reducible refine ex_nm ?_
  | with_reducible refine ex_zip ?_ | with_reducible refine ex_enum ?_
  | with_reducible refine ex_seq (by with_unfolding_all exact rfl) ?_
  | with_reducible refine ex_tg (by with_unfolding_all exact rfl) ?_
  | with_reducible refine ex_tru (by with_unfolding_all exact rfl) ?_
  | with_reducible refine ex_ty (by with_unfolding_all exact rfl) ?_
  | with_reducible refine ex_it (by with_unfolding_all exact rfl) ?_
  | ((with_reducible refine br_id ?_); first
    | with_reducible refine br_is (b := Si.isNon _) (by with_unfolding_all rfl) ?_ | with_reducible refine br_isnt (b := Si.isNon _) (by with_unfolding_all rfl) ?_
    | with_reducible refine br_is (b := isB _ _) (by with_unfolding_all decide) ?_ | with_reducible refine br_isnt (b := isB _ _) (by with_unfolding_all decide) ?_
    | with_reducible refine br_is (b := isB _ _ || isB _ _) (by with_unfolding_all decide) ?_ | with_reducible refine br_isnt (b := isB _ _ || isB _ _) (by with_unfolding_all decide) ?_
    | with_reducible refine br_y (by decide +kernel) ?_ | with_reducible refine br_n (by decide +kernel) ?_ | with_reducible refine br_y (by with_unfolding_all rfl) ?_ | with_reducible refine br_n (by simp only [List.length_cons, List.length_nil]; omega) ?_)
  | ((with_reducible refine go_idD ?_); first
    | with_reducible refine go_mulL ⟨by decide, by decide⟩ ?_ | with_reducible refine go_mulR ⟨by decide, by decide⟩ ?_ | with_reducible refine go_mod (by decide) ?_ | with_reducible refine go_div (by decide) (by decide) ?_
    | with_reducible refine go_inTt (by decide +kernel) (by decide +kernel) ?_ | with_reducible refine go_inTf (by decide +kernel) (by decide +kernel) ?_ | with_reducible refine go_niTt (by decide +kernel) (by decide +kernel) ?_ | with_reducible refine go_niTf (by decide +kernel) (by decide +kernel) ?_)
  | (with_reducible refine an_le ?hh ?_; case hh => (first | decide | (simp only [List.length_cons, List.length_nil]; omega)))
  | (with_reducible refine an_rng ?hh ?_; case hh => (first | decide | omega))
  | (with_reducible refine an_rng2 ?hh ?_; case hh => (first | decide | omega))
  | fail)
local macro_rules | `(tactic| walk_at "gg_Bk6") => `(tactic| repeat' (first | walk_at "g1_Bk6" | walk_at "g2_Bk6"))

theorem cut_to {α : Type} {xs : List α} {a : Int} (h0 : 0 ≤ a) : cutD xs none (some a) = xs.take a.toNat := by
  obtain ⟨k, rfl⟩ := Int.eq_ofNat_of_zero_le h0
  unfold Si.cutD
  rw [HT.sIx_none, HT.sIx_nat, List.drop_zero, Nat.sub_zero, Int.toNat_natCast, Nat.min_def]
  split
  · rfl
  · rw [List.take_length, List.take_of_length_le (by omega)]
theorem cut_from {α : Type} {xs : List α} {a : Int} (h0 : 0 ≤ a) : cutD xs (some a) none = xs.drop a.toNat := by
  obtain ⟨k, rfl⟩ := Int.eq_ofNat_of_zero_le h0
  unfold Si.cutD
  rw [HT.sIx_none, HT.sIx_nat, Int.toNat_natCast]
  have : (xs.drop (min k xs.length)).length ≤ xs.length - min k xs.length := by rw [List.length_drop]; omega
  rw [List.take_of_length_le this, Nat.min_def]
  split
  · rfl
  · rw [List.drop_length, List.drop_eq_nil_of_le (by omega)]
theorem cut_mid {α : Type} {xs : List α} {a b : Int} (h0 : 0 ≤ a) (hb : a ≤ b) : cutD xs (some a) (some b) = (xs.take b.toNat).drop a.toNat := by
  obtain ⟨k, rfl⟩ := Int.eq_ofNat_of_zero_le h0
  obtain ⟨j, rfl⟩ := Int.eq_ofNat_of_zero_le (Int.le_trans h0 hb)
  unfold Si.cutD
  rw [HT.sIx_nat, HT.sIx_nat, Int.toNat_natCast, Int.toNat_natCast, List.drop_take]
  have hkj : k ≤ j := by omega
  by_cases h : k ≤ xs.length
  · rw [Nat.min_eq_left h]
    by_cases h2 : j ≤ xs.length
    · rw [Nat.min_eq_left h2]
    · rw [Nat.min_eq_right (by omega), List.take_of_length_le (by rw [List.length_drop]; omega), List.take_of_length_le (by rw [List.length_drop]; omega)]
  · rw [Nat.min_eq_right (by omega), List.drop_eq_nil_of_le (by omega), List.drop_eq_nil_of_le (by omega), List.take_nil, List.take_nil]
inductive Stp where
  | copy (t s : Str) | add (t s : Str) | drop (t : Str) | set (m : Str) (v : Int) | forget
def eStp : Stp → D
  | .copy t s => .tup [.str "copy", .str t, .str s]
  | .add t s => .tup [.str "add", .str t, .str s]
  | .drop t => .tup [.str "drop", .str t]
  | .set m v => .tup [.str "set", .str m, .int v]
  | .forget => .tup [.str "forget"]
structure Nt where
  w : Str
  t : Prs
  s : Prs
structure Ent where
  w : Str
  t : Prs
  k : Str
  m : Prs
  l : Bool
structure Jb where
  n : Str
  t : Prs
  d : Option Int
  s : List Stp
structure Rdg where
  w : Str
  t : Prs
  s : Option (List Str)
def eNt (x : Nt) : D := .tup [.str x.w, eT x.t, eT x.s]
def eEnt (x : Ent) : D := .tup [.str x.w, eT x.t, .str x.k, eT x.m, .bl x.l]
def eO : Option Int → D | none => .non | some i => .int i
def eJb (x : Jb) : D := .tup [.str x.n, eT x.t, eO x.d, .tup (x.s.map eStp)]
def eOS : Option (List Str) → D | none => .non | some l => .tup (eS l)
def eRdg (x : Rdg) : D := .tup [.str x.w, eT x.t, eOS x.s]
def PairOk (st : List (Str × Str)) (t s : Str) : Prop := ∃ pt ps, (t, pt) ∈ st ∧ (s, ps) ∈ st ∧ t ≠ s ∧ (pt = "coarse" ∨ ps = "fine")
def StpOk (st : List (Str × Str)) (ma : List Str) : Stp → Prop
  | .copy t s | .add t s => PairOk st t s
  | .drop t => t ∈ st.map (·.1)
  | .set m v => m ∈ ma ∧ 0 ≤ v ∧ v ≤ 1
  | .forget => True
structure NtOk (ma : List Str) (x : Nt) : Prop where
  w : x.w = "put" ∨ x.w = "take"
  t : TestsOk ma x.t
  s : SetsOk ma x.s
structure EntOk (st : List (Str × Str)) (ma : List Str) (fo : Str) (x : Ent) : Prop where
  w : x.w = "put" ∨ x.w = "take"
  t : TestsOk ma x.t
  k : x.k = "any" ∨ x.k = "no" ∨ x.k = "put" ∨ x.k = "take"
  m : MovesOk st fo x.m
structure JbOk (st : List (Str × Str)) (ma : List Str) (x : Jb) : Prop where
  n : NmOk x.n
  t : TestsOk ma x.t
  d : ∀ i, x.d = some i → 0 ≤ i ∧ i ≤ 6
  l1 : 1 ≤ x.s.length
  l5 : x.s.length ≤ 5
  s : ∀ y ∈ x.s, StpOk st ma y
structure RdgOk (st : List (Str × Str)) (ma : List Str) (x : Rdg) : Prop where
  w : x.w = "whole" ∨ x.w = "cut"
  t : TestsOk ma x.t
  s : ∀ l, x.s = some l → l.Nodup ∧ l.length ≤ 5 ∧ ∀ z ∈ l, ∃ p, (z, p) ∈ st ∧ (x.w = "whole" ∨ p = "fine")
section
variable {X : EX} {Q : D → Wd → Prop} {QA : List D → Wd → Prop} {w0 w : Wd} {n m : Nat} {σ : En} {st : List (Str × Str)} {ma : List Str} {fo : Str}
def d0 : D → D | .tup (x :: _) => x | d => d
end
end Bk

set_option Elab.async false
set_option linter.all false
set_option autoImplicit false
set_option maxRecDepth 100000
set_option maxHeartbeats 4000000
/-! Bk7: drawn steps, jobs, entries, readings. -/
namespace Bk
open PySem L2 PyProof.Rows Si
/-- one step by the form of the code -/
local macro_rules | `(tactic| walk_at "g1_Bk7") => `(tactic| with_reducible first
  | (refine go_idD ?_; first
    | refine go_var rfl ?_ | refine go_c ?_ | refine go_op ?_ | refine go_call ?_ | refine go_eqS ?_ | refine go_eqI ?_ | refine go_tup ?_ | refine go_lst ?_ | refine go_addI ?_ | refine go_isi ?_ | refine go_and ?_ | refine go_lt ?_ | refine go_le ?_ | refine go_gt ?_ | refine go_ge ?_ | refine go_ixT rfl ?_ | refine go_ixL rfl ?_
    | refine go_lc ?_ | refine go_if ?_ | refine go_not ?_ | refine go_or ?_ | refine go_chain ?_ | refine go_callK ?_ | refine go_lstM ?_ | refine go_neg ?_ | refine go_sl ?_ | refine go_isi2 ?_ | refine go_join ?_ | refine go_app ?_ | refine go_lenSet ?_ | refine go_lcM ?_
    | refine go_subI ?_ | refine go_neI ?_ | refine go_neS ?_ | refine go_lenL ?_ | refine go_lenT ?_ | refine go_lenS (by assumption) ?_
    | refine go_slL ?_ | refine go_slT ?_ | refine go_slS (by assumption) ?_ | refine go_intI ?_ | refine go_lstL ?_ | refine go_lstT ?_ | refine go_tupL ?_ | refine go_tupT ?_ | refine go_isN ?_ | refine go_notN ?_ | refine go_allM ?_ | refine go_max2 ?_ | refine go_min2 ?_)
  | (refine go_idL ?_; first | refine go_cons ?_ | refine go_nil ?_ | refine go_iter ?_ | refine go_rng1 ?_ | refine go_zip ?_ | refine go_enum ?_ | refine go_star ?_ | refine go_rng2 ?_)
  | (refine gd_id ?_; first | refine gd_seq ?_ | refine gd_nm ?_ | refine gd_asg ?_ | refine gd_ret ?_ | refine gd_if ?_ | refine gd_next ?_ | refine gd_expr ?_ | refine gd_par ?_ | refine gd_retN ?_ | refine gd_brk ?_ | refine gd_cnt ?_ | refine gd_for ?_)
  | (refine go_idB ?_; first | refine go_asB ?_ | refine go_tru ?_ | refine go_bAnd ?_ | refine go_bOr ?_ | refine go_bNot ?_ | refine go_bYes ?_)
  | (refine br_id ?_; first | refine br_t ?_ | refine br_f ?_ | refine br_not ?_)
  | (refine go_idO ?_; first | refine go_oNone ?_ | refine go_oSome ?_))
local macro_rules | `(tactic| walk_at "g2_Bk7") => `(tactic| first
  | with_reducible refine ex_bl ?_ | with_reducible refine ex_int ?_ | with_reducible refine ex_str ?_ | with_reducible refine ex_nm ?_
  | with_reducible refine ex_zip ?_ | with_reducible refine ex_enum ?_
  | with_reducible refine ex_seq (by with_unfolding_all exact rfl) ?_
  | with_reducible refine ex_tg (by with_unfolding_all exact rfl) ?_
  | with_reducible refine ex_tru (by with_unfolding_all exact rfl) ?_
  | with_reducible refine ex_ty (by with_unfolding_all exact rfl) ?_
  | with_reducible refine ex_it (by with_unfolding_all exact rfl) ?_
  | ((with_reducible refine br_id ?_); first
    | with_reducible refine br_is (b := Si.isNon _) (by with_unfolding_all rfl) ?_ | with_reducible refine br_isnt (b := Si.isNon _) (by with_unfolding_all rfl) ?_
    | with_reducible refine br_is (b := isB _ _) (by with_unfolding_all decide) ?_ | with_reducible refine br_isnt (b := isB _ _) (by with_unfolding_all decide) ?_
    | with_reducible refine br_is (b := isB _ _ || isB _ _) (by with_unfolding_all decide) ?_ | with_reducible refine br_isnt (b := isB _ _ || isB _ _) (by with_unfolding_all decide) ?_
    | with_reducible refine br_y (by decide +kernel) ?_ | with_reducible refine br_n (by decide +kernel) ?_ | with_reducible refine br_y (by with_unfolding_all rfl) ?_ | with_reducible refine br_n (by simp only [List.length_cons, List.length_nil]; omega) ?_)
  | ((with_reducible refine go_idD ?_); first
    | with_reducible refine go_mulL ⟨by decide, by decide⟩ ?_ | with_reducible refine go_mulR ⟨by decide, by decide⟩ ?_ | with_reducible refine go_mod (by decide) ?_ | with_reducible refine go_div (by decide) (by decide) ?_
    | with_reducible refine go_inTt (by decide +kernel) (by decide +kernel) ?_ | with_reducible refine go_inTf (by decide +kernel) (by decide +kernel) ?_ | with_reducible refine go_niTt (by decide +kernel) (by decide +kernel) ?_ | with_reducible refine go_niTf (by decide +kernel) (by decide +kernel) ?_)
  | (with_reducible refine an_le ?hh ?_; case hh => (first | decide | (simp only [List.length_cons, List.length_nil]; omega)))
  | (with_reducible refine an_rng ?hh ?_; case hh => (first | decide | omega))
  | (with_reducible refine an_rng2 ?hh ?_; case hh => (first | decide | omega))
  | fail)
local macro_rules | `(tactic| walk_at "gg_Bk7") => `(tactic| repeat' (first | walk_at "g1_Bk7" | walk_at "g2_Bk7"))

section
variable {X : EX} {Q : D → Wd → Prop} {QA : List D → Wd → Prop} {w0 w : Wd} {n m : Nat} {σ : En} {st : List (Str × Str)} {ma : List Str} {fo : Str}
end
end Bk

set_option Elab.async false
set_option linter.all false
set_option autoImplicit false
set_option maxRecDepth 100000
set_option maxHeartbeats 4000000
/-! Bk8: drawn jobs, entries, readings. -/
namespace Bk
open PySem L2 PyProof.Rows Si
/-- one step by the form of the code -/
local macro_rules | `(tactic| walk_at "g1_Bk8") => `(tactic| with_reducible first
  | (refine go_idD ?_; first
    | refine go_var rfl ?_ | refine go_c ?_ | refine go_op ?_ | refine go_call ?_ | refine go_eqS ?_ | refine go_eqI ?_ | refine go_tup ?_ | refine go_lst ?_ | refine go_addI ?_ | refine go_isi ?_ | refine go_and ?_ | refine go_lt ?_ | refine go_le ?_ | refine go_gt ?_ | refine go_ge ?_ | refine go_ixT rfl ?_ | refine go_ixL rfl ?_
    | refine go_lc ?_ | refine go_if ?_ | refine go_not ?_ | refine go_or ?_ | refine go_chain ?_ | refine go_callK ?_ | refine go_lstM ?_ | refine go_neg ?_ | refine go_sl ?_ | refine go_isi2 ?_ | refine go_join ?_ | refine go_app ?_ | refine go_lenSet ?_ | refine go_lcM ?_
    | refine go_subI ?_ | refine go_neI ?_ | refine go_neS ?_ | refine go_lenL ?_ | refine go_lenT ?_ | refine go_lenS (by assumption) ?_
    | refine go_slL ?_ | refine go_slT ?_ | refine go_slS (by assumption) ?_ | refine go_intI ?_ | refine go_lstL ?_ | refine go_lstT ?_ | refine go_tupL ?_ | refine go_tupT ?_ | refine go_isN ?_ | refine go_notN ?_ | refine go_allM ?_ | refine go_max2 ?_ | refine go_min2 ?_)
  | (refine go_idL ?_; first | refine go_cons ?_ | refine go_nil ?_ | refine go_iter ?_ | refine go_rng1 ?_ | refine go_zip ?_ | refine go_enum ?_ | refine go_star ?_ | refine go_rng2 ?_)
  | (refine gd_id ?_; first | refine gd_seq ?_ | refine gd_nm ?_ | refine gd_asg ?_ | refine gd_ret ?_ | refine gd_if ?_ | refine gd_next ?_ | refine gd_expr ?_ | refine gd_par ?_ | refine gd_retN ?_ | refine gd_brk ?_ | refine gd_cnt ?_ | refine gd_for ?_)
  | (refine go_idB ?_; first | refine go_asB ?_ | refine go_tru ?_ | refine go_bAnd ?_ | refine go_bOr ?_ | refine go_bNot ?_ | refine go_bYes ?_)
  | (refine br_id ?_; first | refine br_t ?_ | refine br_f ?_ | refine br_not ?_)
  | (refine go_idO ?_; first | refine go_oNone ?_ | refine go_oSome ?_))
local macro_rules | `(tactic| walk_at "g2_Bk8") => `(tactic| first
  | with_reducible refine ex_bl ?_ | with_reducible refine ex_int ?_ | with_reducible refine ex_str ?_ | with_reducible refine ex_nm ?_
  | with_reducible refine ex_zip ?_ | with_reducible refine ex_enum ?_
  | with_reducible refine ex_seq (by with_unfolding_all exact rfl) ?_
  | with_reducible refine ex_tg (by with_unfolding_all exact rfl) ?_
  | with_reducible refine ex_tru (by with_unfolding_all exact rfl) ?_
  | with_reducible refine ex_ty (by with_unfolding_all exact rfl) ?_
  | with_reducible refine ex_it (by with_unfolding_all exact rfl) ?_
  | ((with_reducible refine br_id ?_); first
    | with_reducible refine br_is (b := Si.isNon _) (by with_unfolding_all rfl) ?_ | with_reducible refine br_isnt (b := Si.isNon _) (by with_unfolding_all rfl) ?_
    | with_reducible refine br_is (b := isB _ _) (by with_unfolding_all decide) ?_ | with_reducible refine br_isnt (b := isB _ _) (by with_unfolding_all decide) ?_
    | with_reducible refine br_is (b := isB _ _ || isB _ _) (by with_unfolding_all decide) ?_ | with_reducible refine br_isnt (b := isB _ _ || isB _ _) (by with_unfolding_all decide) ?_
    | with_reducible refine br_y (by decide +kernel) ?_ | with_reducible refine br_n (by decide +kernel) ?_ | with_reducible refine br_y (by with_unfolding_all rfl) ?_ | with_reducible refine br_n (by simp only [List.length_cons, List.length_nil]; omega) ?_)
  | ((with_reducible refine go_idD ?_); first
    | with_reducible refine go_mulL ⟨by decide, by decide⟩ ?_ | with_reducible refine go_mulR ⟨by decide, by decide⟩ ?_ | with_reducible refine go_mod (by decide) ?_ | with_reducible refine go_div (by decide) (by decide) ?_
    | with_reducible refine go_inTt (by decide +kernel) (by decide +kernel) ?_ | with_reducible refine go_inTf (by decide +kernel) (by decide +kernel) ?_ | with_reducible refine go_niTt (by decide +kernel) (by decide +kernel) ?_ | with_reducible refine go_niTf (by decide +kernel) (by decide +kernel) ?_)
  | (with_reducible refine an_le ?hh ?_; case hh => (first | decide | (simp only [List.length_cons, List.length_nil]; omega)))
  | (with_reducible refine an_rng ?hh ?_; case hh => (first | decide | omega))
  | (with_reducible refine an_rng2 ?hh ?_; case hh => (first | decide | omega))
  | fail)
local macro_rules | `(tactic| walk_at "gg_Bk8") => `(tactic| repeat' (first | walk_at "g1_Bk8" | walk_at "g2_Bk8"))

theorem range_len {i : Int} {k : Nat} : (rangeD i k).length = k := by simp [rangeD]
/-- what a drawing comprehension gathers, as typed data -/
theorem all2_map {α : Type} {f : α → D} {P : α → Prop} : ∀ {ds ys : List D}, All2 (fun _ y => ∃ x, P x ∧ y = f x) ds ys → ∃ l : List α, ys = l.map f ∧ l.length = ds.length ∧ ∀ x ∈ l, P x
  | _, _, .nil => ⟨[], rfl, rfl, fun c h => by cases h⟩
  | _, _, .cons ⟨c, hc, e⟩ t => by
    obtain ⟨cs, h1, h2, h3⟩ := all2_map t
    refine ⟨c :: cs, by rw [h1, e]; rfl, by simp [h2], fun x hx => ?_⟩
    rcases List.mem_cons.mp hx with rfl | hx
    · exact hc
    · exact h3 x hx
section
variable {X : EX} {Q : D → Wd → Prop} {QA : List D → Wd → Prop} {w0 w : Wd} {n m : Nat} {σ : En} {st : List (Str × Str)} {ma : List Str} {fo : Str}
/-- a comprehension whose element draws typed things -/
theorem lc_drawT {α : Type} {own : List Nat} {f : D → En → Wd → Option En} {me : En → Wd → R D} (P : α → Prop) (e : α → D) (ds : List D) (hl : ds.length ≤ 16777216) (hb : Bg n w0 w)
    (hs : ∀ d w, d ∈ ds → Bg n w0 w → ∃ σ1, f d (wipeD σ own) w = some σ1 ∧ Go EX0 (me σ1 w) fun y w2 => (∃ x, P x ∧ y = e x) ∧ Bg n w0 w2)
    (q : ∀ (l : List α) w', l.length = ds.length → (∀ x ∈ l, P x) → Bg n w0 w' → QA (l.map e) w') : Go X (lcL own f bYes me σ ds [] w) QA :=
  lc_draw (fun _ y => ∃ x, P x ∧ y = e x) ds hl hb hs fun ys w' ha hb' => by
    obtain ⟨l, rfl, h1, h2⟩ := all2_map ha
    exact q l w' h1 h2 hb'
end
end Bk

set_option Elab.async false
set_option linter.all false
set_option autoImplicit false
set_option maxRecDepth 100000
set_option maxHeartbeats 4000000
/-! Bk9: drawn books' parts. -/
namespace Bk
open PySem L2 PyProof.Rows Si
/-- one step by the form of the code -/
local macro_rules | `(tactic| walk_at "g1_Bk9") => `(tactic| with_reducible first
  | (refine go_idD ?_; first
    | refine go_var rfl ?_ | refine go_c ?_ | refine go_op ?_ | refine go_call ?_ | refine go_eqS ?_ | refine go_eqI ?_ | refine go_tup ?_ | refine go_lst ?_ | refine go_addI ?_ | refine go_isi ?_ | refine go_and ?_ | refine go_lt ?_ | refine go_le ?_ | refine go_gt ?_ | refine go_ge ?_ | refine go_ixT rfl ?_ | refine go_ixL rfl ?_
    | refine go_lc ?_ | refine go_if ?_ | refine go_not ?_ | refine go_or ?_ | refine go_chain ?_ | refine go_callK ?_ | refine go_lstM ?_ | refine go_neg ?_ | refine go_sl ?_ | refine go_isi2 ?_ | refine go_join ?_ | refine go_app ?_ | refine go_lenSet ?_ | refine go_lcM ?_
    | refine go_subI ?_ | refine go_neI ?_ | refine go_neS ?_ | refine go_lenL ?_ | refine go_lenT ?_ | refine go_lenS (by assumption) ?_
    | refine go_slL ?_ | refine go_slT ?_ | refine go_slS (by assumption) ?_ | refine go_intI ?_ | refine go_lstL ?_ | refine go_lstT ?_ | refine go_tupL ?_ | refine go_tupT ?_ | refine go_isN ?_ | refine go_notN ?_ | refine go_allM ?_ | refine go_max2 ?_ | refine go_min2 ?_)
  | (refine go_idL ?_; first | refine go_cons ?_ | refine go_nil ?_ | refine go_iter ?_ | refine go_rng1 ?_ | refine go_zip ?_ | refine go_enum ?_ | refine go_star ?_ | refine go_rng2 ?_)
  | (refine gd_id ?_; first | refine gd_seq ?_ | refine gd_nm ?_ | refine gd_asg ?_ | refine gd_ret ?_ | refine gd_if ?_ | refine gd_next ?_ | refine gd_expr ?_ | refine gd_par ?_ | refine gd_retN ?_ | refine gd_brk ?_ | refine gd_cnt ?_ | refine gd_for ?_)
  | (refine go_idB ?_; first | refine go_asB ?_ | refine go_tru ?_ | refine go_bAnd ?_ | refine go_bOr ?_ | refine go_bNot ?_ | refine go_bYes ?_)
  | (refine br_id ?_; first | refine br_t ?_ | refine br_f ?_ | refine br_not ?_)
  | (refine go_idO ?_; first | refine go_oNone ?_ | refine go_oSome ?_))
local macro_rules | `(tactic| walk_at "g2_Bk9") => `(tactic| first
  | with_reducible refine ex_bl ?_ | with_reducible refine ex_int ?_ | with_reducible refine ex_str ?_ | with_reducible refine ex_nm ?_
  | with_reducible refine ex_zip ?_ | with_reducible refine ex_enum ?_
  | with_reducible refine ex_seq (by with_unfolding_all exact rfl) ?_
  | with_reducible refine ex_tg (by with_unfolding_all exact rfl) ?_
  | with_reducible refine ex_tru (by with_unfolding_all exact rfl) ?_
  | with_reducible refine ex_ty (by with_unfolding_all exact rfl) ?_
  | with_reducible refine ex_it (by with_unfolding_all exact rfl) ?_
  | ((with_reducible refine br_id ?_); first
    | with_reducible refine br_is (b := Si.isNon _) (by with_unfolding_all rfl) ?_ | with_reducible refine br_isnt (b := Si.isNon _) (by with_unfolding_all rfl) ?_
    | with_reducible refine br_is (b := isB _ _) (by with_unfolding_all decide) ?_ | with_reducible refine br_isnt (b := isB _ _) (by with_unfolding_all decide) ?_
    | with_reducible refine br_is (b := isB _ _ || isB _ _) (by with_unfolding_all decide) ?_ | with_reducible refine br_isnt (b := isB _ _ || isB _ _) (by with_unfolding_all decide) ?_
    | with_reducible refine br_y (by decide +kernel) ?_ | with_reducible refine br_n (by decide +kernel) ?_ | with_reducible refine br_y (by with_unfolding_all rfl) ?_ | with_reducible refine br_n (by simp only [List.length_cons, List.length_nil]; omega) ?_)
  | ((with_reducible refine go_idD ?_); first
    | with_reducible refine go_mulL ⟨by decide, by decide⟩ ?_ | with_reducible refine go_mulR ⟨by decide, by decide⟩ ?_ | with_reducible refine go_mod (by decide) ?_ | with_reducible refine go_div (by decide) (by decide) ?_
    | with_reducible refine go_inTt (by decide +kernel) (by decide +kernel) ?_ | with_reducible refine go_inTf (by decide +kernel) (by decide +kernel) ?_ | with_reducible refine go_niTt (by decide +kernel) (by decide +kernel) ?_ | with_reducible refine go_niTf (by decide +kernel) (by decide +kernel) ?_)
  | (with_reducible refine an_le ?hh ?_; case hh => (first | decide | (simp only [List.length_cons, List.length_nil]; omega)))
  | (with_reducible refine an_rng ?hh ?_; case hh => (first | decide | omega))
  | (with_reducible refine an_rng2 ?hh ?_; case hh => (first | decide | omega))
  | fail)
local macro_rules | `(tactic| walk_at "gg_Bk9") => `(tactic| repeat' (first | walk_at "g1_Bk9" | walk_at "g2_Bk9"))

structure Sp where
  wd : Int
  la : Int
  ba : Int
  fo : Str
  st : List (Str × Str)
  ma : List Str
  no : List Nt
  en : List Ent
  jo : List Jb
  re : List Rdg
structure SpOk (sp : Sp) : Prop where
  wd : 1 ≤ sp.wd ∧ sp.wd ≤ 6
  la : 0 ≤ sp.la ∧ sp.la ≤ 6
  ba : 0 ≤ sp.ba ∧ sp.ba ≤ 6
  fo : sp.fo = "sum" ∨ sp.fo = "most"
  st : StoresOk sp.st
  ma : MarksOk sp.ma
  dj : ∀ z ∈ sp.ma, z ∉ sp.st.map (·.1)
  nol : sp.no.length ≤ 8
  no : ∀ x ∈ sp.no, NtOk sp.ma x
  enl : sp.en.length ≤ 8
  en : ∀ x ∈ sp.en, EntOk sp.st sp.ma sp.fo x
  jol : sp.jo.length ≤ 4
  jon : (sp.jo.map (·.n)).Nodup
  jo : ∀ x ∈ sp.jo, JbOk sp.st sp.ma x
  rel : sp.re.length ≤ 8
  re : ∀ x ∈ sp.re, RdgOk sp.st sp.ma x
def spK : List Key := [.inr "width", .inr "stores", .inr "late", .inr "back", .inr "fold", .inr "marks", .inr "notes", .inr "entries", .inr "jobs", .inr "readings", .inr "titles"]
def spD (wd st la ba fo ma no en jo re ti : D) : List (Key × D) := spK.zip [wd, st, la, ba, fo, ma, no, en, jo, re, ti]
section
variable {wd st la ba fo ma no en jo re ti x : D}
end
end Bk

set_option Elab.async false
set_option linter.all false
set_option autoImplicit false
set_option maxRecDepth 100000
set_option maxHeartbeats 4000000
/-! Bk10: drawn specs. -/
namespace Bk
open PySem L2 PyProof.Rows Si
/-- one step by the form of the code -/
local macro_rules | `(tactic| walk_at "g1_Bk10") => `(tactic| with_reducible first
  | (refine go_idD ?_; first
    | refine go_var rfl ?_ | refine go_c ?_ | refine go_op ?_ | refine go_call ?_ | refine go_eqS ?_ | refine go_eqI ?_ | refine go_tup ?_ | refine go_lst ?_ | refine go_addI ?_ | refine go_isi ?_ | refine go_and ?_ | refine go_lt ?_ | refine go_le ?_ | refine go_gt ?_ | refine go_ge ?_ | refine go_ixT rfl ?_ | refine go_ixL rfl ?_
    | refine go_lc ?_ | refine go_if ?_ | refine go_not ?_ | refine go_or ?_ | refine go_chain ?_ | refine go_callK ?_ | refine go_lstM ?_ | refine go_neg ?_ | refine go_sl ?_ | refine go_isi2 ?_ | refine go_join ?_ | refine go_app ?_ | refine go_lenSet ?_ | refine go_lcM ?_
    | refine go_subI ?_ | refine go_neI ?_ | refine go_neS ?_ | refine go_lenL ?_ | refine go_lenT ?_ | refine go_lenS (by assumption) ?_
    | refine go_slL ?_ | refine go_slT ?_ | refine go_slS (by assumption) ?_ | refine go_intI ?_ | refine go_lstL ?_ | refine go_lstT ?_ | refine go_tupL ?_ | refine go_tupT ?_ | refine go_isN ?_ | refine go_notN ?_ | refine go_allM ?_ | refine go_max2 ?_ | refine go_min2 ?_)
  | (refine go_idL ?_; first | refine go_cons ?_ | refine go_nil ?_ | refine go_iter ?_ | refine go_rng1 ?_ | refine go_zip ?_ | refine go_enum ?_ | refine go_star ?_ | refine go_rng2 ?_)
  | (refine gd_id ?_; first | refine gd_seq ?_ | refine gd_nm ?_ | refine gd_asg ?_ | refine gd_ret ?_ | refine gd_if ?_ | refine gd_next ?_ | refine gd_expr ?_ | refine gd_par ?_ | refine gd_retN ?_ | refine gd_brk ?_ | refine gd_cnt ?_ | refine gd_for ?_)
  | (refine go_idB ?_; first | refine go_asB ?_ | refine go_tru ?_ | refine go_bAnd ?_ | refine go_bOr ?_ | refine go_bNot ?_ | refine go_bYes ?_)
  | (refine br_id ?_; first | refine br_t ?_ | refine br_f ?_ | refine br_not ?_)
  | (refine go_idO ?_; first | refine go_oNone ?_ | refine go_oSome ?_))
local macro_rules | `(tactic| walk_at "g2_Bk10") => `(tactic| first
  | with_reducible refine ex_bl ?_ | with_reducible refine ex_int ?_ | with_reducible refine ex_str ?_ | with_reducible refine ex_nm ?_
  | with_reducible refine ex_zip ?_ | with_reducible refine ex_enum ?_
  | with_reducible refine ex_seq (by with_unfolding_all exact rfl) ?_
  | with_reducible refine ex_tg (by with_unfolding_all exact rfl) ?_
  | with_reducible refine ex_tru (by with_unfolding_all exact rfl) ?_
  | with_reducible refine ex_ty (by with_unfolding_all exact rfl) ?_
  | with_reducible refine ex_it (by with_unfolding_all exact rfl) ?_
  | ((with_reducible refine br_id ?_); first
    | with_reducible refine br_is (b := Si.isNon _) (by with_unfolding_all rfl) ?_ | with_reducible refine br_isnt (b := Si.isNon _) (by with_unfolding_all rfl) ?_
    | with_reducible refine br_is (b := isB _ _) (by with_unfolding_all decide) ?_ | with_reducible refine br_isnt (b := isB _ _) (by with_unfolding_all decide) ?_
    | with_reducible refine br_is (b := isB _ _ || isB _ _) (by with_unfolding_all decide) ?_ | with_reducible refine br_isnt (b := isB _ _ || isB _ _) (by with_unfolding_all decide) ?_
    | with_reducible refine br_y (by decide +kernel) ?_ | with_reducible refine br_n (by decide +kernel) ?_ | with_reducible refine br_y (by with_unfolding_all rfl) ?_ | with_reducible refine br_n (by simp only [List.length_cons, List.length_nil]; omega) ?_)
  | ((with_reducible refine go_idD ?_); first
    | with_reducible refine go_mulL ⟨by decide, by decide⟩ ?_ | with_reducible refine go_mulR ⟨by decide, by decide⟩ ?_ | with_reducible refine go_mod (by decide) ?_ | with_reducible refine go_div (by decide) (by decide) ?_
    | with_reducible refine go_inTt (by decide +kernel) (by decide +kernel) ?_ | with_reducible refine go_inTf (by decide +kernel) (by decide +kernel) ?_ | with_reducible refine go_niTt (by decide +kernel) (by decide +kernel) ?_ | with_reducible refine go_niTf (by decide +kernel) (by decide +kernel) ?_)
  | (with_reducible refine an_le ?hh ?_; case hh => (first | decide | (simp only [List.length_cons, List.length_nil]; omega)))
  | (with_reducible refine an_rng ?hh ?_; case hh => (first | decide | omega))
  | (with_reducible refine an_rng2 ?hh ?_; case hh => (first | decide | omega))
  | fail)
local macro_rules | `(tactic| walk_at "gg_Bk10") => `(tactic| repeat' (first | walk_at "g1_Bk10" | walk_at "g2_Bk10"))

def Sp.dct (sp : Sp) (ti : List Str) : List (Key × D) :=
  spD (.int sp.wd) (.lst (sp.st.map eSt)) (.int sp.la) (.int sp.ba) (.str sp.fo) (.lst (eS sp.ma)) (.lst (sp.no.map eNt)) (.lst (sp.en.map eEnt)) (.lst (sp.jo.map eJb)) (.lst (sp.re.map eRdg)) (.lst (eS ti))
structure TiOk (ti : List Str) : Prop where
  nd : ti.Nodup
  nm : ∀ z ∈ ti, NmOk z
  le : ti.length = 4
section
variable {X : EX} {Q : D → Wd → Prop} {QA : List D → Wd → Prop} {w0 w : Wd} {n m : Nat} {σ : En} {N B C : En → Wd → Prop} {T : D → Wd → Prop}
/-- what a dict holds of a book's parts -/
structure SpK (kvs : List (Key × D)) (sp : Sp) : Prop where
  wd : valD kvs (.inr "width") = some (.int sp.wd)
  la : valD kvs (.inr "late") = some (.int sp.la)
  ba : valD kvs (.inr "back") = some (.int sp.ba)
  fo : valD kvs (.inr "fold") = some (.str sp.fo)
  st : valD kvs (.inr "stores") = some (.lst (sp.st.map eSt))
  ma : valD kvs (.inr "marks") = some (.lst (eS sp.ma))
  no : valD kvs (.inr "notes") = some (.lst (sp.no.map eNt))
  en : valD kvs (.inr "entries") = some (.lst (sp.en.map eEnt))
  jo : valD kvs (.inr "jobs") = some (.lst (sp.jo.map eJb))
  re : valD kvs (.inr "readings") = some (.lst (sp.re.map eRdg))
  lt : kvs.length < 1000
/-- the spec in cell m -/
structure SpAt (n m : Nat) (w : Wd) (sp : Sp) : Prop where
  ne : m ≠ n
  ex : ∃ kvs, w[m]? = some (.dct kvs) ∧ SpK kvs sp
theorem SpAt.bg {w w1 : Wd} {sp : Sp} (h : SpAt n m w sp) (b : Bg n w w1) : SpAt n m w1 sp := let ⟨kvs, e, k⟩ := h.ex; ⟨h.ne, kvs, b.get e h.ne, k⟩
end
end Bk

set_option Elab.async false
set_option linter.all false
set_option autoImplicit false
set_option maxRecDepth 100000
set_option maxHeartbeats 4000000
/-! Bk11: what is right is let through. -/
namespace Bk
open PySem L2 PyProof.Rows Si
/-- one step by the form of the code -/
local macro_rules | `(tactic| walk_at "g1_Bk11") => `(tactic| with_reducible first
  | (refine go_idD ?_; first
    | refine go_var rfl ?_ | refine go_c ?_ | refine go_op ?_ | refine go_call ?_ | refine go_eqS ?_ | refine go_eqI ?_ | refine go_tup ?_ | refine go_lst ?_ | refine go_addI ?_ | refine go_isi ?_ | refine go_and ?_ | refine go_lt ?_ | refine go_le ?_ | refine go_gt ?_ | refine go_ge ?_ | refine go_ixT rfl ?_ | refine go_ixL rfl ?_
    | refine go_lc ?_ | refine go_if ?_ | refine go_not ?_ | refine go_or ?_ | refine go_chain ?_ | refine go_callK ?_ | refine go_lstM ?_ | refine go_neg ?_ | refine go_sl ?_ | refine go_isi2 ?_ | refine go_join ?_ | refine go_app ?_ | refine go_lenSet ?_ | refine go_lcM ?_
    | refine go_subI ?_ | refine go_neI ?_ | refine go_neS ?_ | refine go_lenL ?_ | refine go_lenT ?_ | refine go_lenS (by assumption) ?_
    | refine go_slL ?_ | refine go_slT ?_ | refine go_slS (by assumption) ?_ | refine go_intI ?_ | refine go_lstL ?_ | refine go_lstT ?_ | refine go_tupL ?_ | refine go_tupT ?_ | refine go_isN ?_ | refine go_notN ?_ | refine go_allM ?_ | refine go_max2 ?_ | refine go_min2 ?_)
  | (refine go_idL ?_; first | refine go_cons ?_ | refine go_nil ?_ | refine go_iter ?_ | refine go_rng1 ?_ | refine go_zip ?_ | refine go_enum ?_ | refine go_star ?_ | refine go_rng2 ?_)
  | (refine gd_id ?_; first | refine gd_seq ?_ | refine gd_nm ?_ | refine gd_asg ?_ | refine gd_ret ?_ | refine gd_if ?_ | refine gd_next ?_ | refine gd_expr ?_ | refine gd_par ?_ | refine gd_retN ?_ | refine gd_brk ?_ | refine gd_cnt ?_ | refine gd_for ?_)
  | (refine go_idB ?_; first | refine go_asB ?_ | refine go_tru ?_ | refine go_bAnd ?_ | refine go_bOr ?_ | refine go_bNot ?_ | refine go_bYes ?_)
  | (refine br_id ?_; first | refine br_t ?_ | refine br_f ?_ | refine br_not ?_)
  | (refine go_idO ?_; first | refine go_oNone ?_ | refine go_oSome ?_))
local macro_rules | `(tactic| walk_at "g2_Bk11") => `(tactic| first
  | with_reducible refine ex_bl ?_ | with_reducible refine ex_int ?_ | with_reducible refine ex_str ?_ | with_reducible refine ex_nm ?_
  | with_reducible refine ex_zip ?_ | with_reducible refine ex_enum ?_
  | with_reducible refine ex_seq (by with_unfolding_all exact rfl) ?_
  | with_reducible refine ex_tg (by with_unfolding_all exact rfl) ?_
  | with_reducible refine ex_tru (by with_unfolding_all exact rfl) ?_
  | with_reducible refine ex_ty (by with_unfolding_all exact rfl) ?_
  | with_reducible refine ex_it (by with_unfolding_all exact rfl) ?_
  | ((with_reducible refine br_id ?_); first
    | with_reducible refine br_is (b := Si.isNon _) (by with_unfolding_all rfl) ?_ | with_reducible refine br_isnt (b := Si.isNon _) (by with_unfolding_all rfl) ?_
    | with_reducible refine br_is (b := isB _ _) (by with_unfolding_all decide) ?_ | with_reducible refine br_isnt (b := isB _ _) (by with_unfolding_all decide) ?_
    | with_reducible refine br_is (b := isB _ _ || isB _ _) (by with_unfolding_all decide) ?_ | with_reducible refine br_isnt (b := isB _ _ || isB _ _) (by with_unfolding_all decide) ?_
    | with_reducible refine br_y (by decide +kernel) ?_ | with_reducible refine br_n (by decide +kernel) ?_ | with_reducible refine br_y (by with_unfolding_all rfl) ?_ | with_reducible refine br_n (by simp only [List.length_cons, List.length_nil]; omega) ?_)
  | ((with_reducible refine go_idD ?_); first
    | with_reducible refine go_mulL ⟨by decide, by decide⟩ ?_ | with_reducible refine go_mulR ⟨by decide, by decide⟩ ?_ | with_reducible refine go_mod (by decide) ?_ | with_reducible refine go_div (by decide) (by decide) ?_
    | with_reducible refine go_inTt (by decide +kernel) (by decide +kernel) ?_ | with_reducible refine go_inTf (by decide +kernel) (by decide +kernel) ?_ | with_reducible refine go_niTt (by decide +kernel) (by decide +kernel) ?_ | with_reducible refine go_niTf (by decide +kernel) (by decide +kernel) ?_)
  | (with_reducible refine an_le ?hh ?_; case hh => (first | decide | (simp only [List.length_cons, List.length_nil]; omega)))
  | (with_reducible refine an_rng ?hh ?_; case hh => (first | decide | omega))
  | (with_reducible refine an_rng2 ?hh ?_; case hh => (first | decide | omega))
  | fail)
local macro_rules | `(tactic| walk_at "gg_Bk11") => `(tactic| repeat' (first | walk_at "g1_Bk11" | walk_at "g2_Bk11"))

section
variable {X : EX} {Q : D → Wd → Prop} {QA : List D → Wd → Prop} {w0 w : Wd} {n m c : Nat} {σ : En} {st : List (Str × Str)} {ma : List Str} {fo : Str}
theorem is_number_ok {k i j : Int} (h1 : i ≤ k) (h2 : k ≤ j) (q : Q (.bl true) w) : Go X (F_is_number [.int k, .int i, .int j] w) Q := by
  refine go_fn rfl ?_
  unfold M_is_number
  walk_at "gg_Bk11"
  refine br_y h1 ?_
  walk_at "gg_Bk11"
  rw [decide_eq_true h2]
  exact q
end
end Bk

set_option Elab.async false
set_option linter.all false
set_option autoImplicit false
set_option maxRecDepth 100000
set_option maxHeartbeats 4000000
/-! Bk12: entries, steps, jobs, readings that are right. -/
namespace Bk
open PySem L2 PyProof.Rows Si
/-- one step by the form of the code -/
local macro_rules | `(tactic| walk_at "g1_Bk12") => `(tactic| with_reducible first
  | (refine go_idD ?_; first
    | refine go_var rfl ?_ | refine go_c ?_ | refine go_op ?_ | refine go_call ?_ | refine go_eqS ?_ | refine go_eqI ?_ | refine go_tup ?_ | refine go_lst ?_ | refine go_addI ?_ | refine go_isi ?_ | refine go_and ?_ | refine go_lt ?_ | refine go_le ?_ | refine go_gt ?_ | refine go_ge ?_ | refine go_ixT rfl ?_ | refine go_ixL rfl ?_
    | refine go_lc ?_ | refine go_if ?_ | refine go_not ?_ | refine go_or ?_ | refine go_chain ?_ | refine go_callK ?_ | refine go_lstM ?_ | refine go_neg ?_ | refine go_sl ?_ | refine go_isi2 ?_ | refine go_join ?_ | refine go_app ?_ | refine go_lenSet ?_ | refine go_lcM ?_
    | refine go_subI ?_ | refine go_neI ?_ | refine go_neS ?_ | refine go_lenL ?_ | refine go_lenT ?_ | refine go_lenS (by assumption) ?_
    | refine go_slL ?_ | refine go_slT ?_ | refine go_slS (by assumption) ?_ | refine go_intI ?_ | refine go_lstL ?_ | refine go_lstT ?_ | refine go_tupL ?_ | refine go_tupT ?_ | refine go_isN ?_ | refine go_notN ?_ | refine go_allM ?_ | refine go_max2 ?_ | refine go_min2 ?_)
  | (refine go_idL ?_; first | refine go_cons ?_ | refine go_nil ?_ | refine go_iter ?_ | refine go_rng1 ?_ | refine go_zip ?_ | refine go_enum ?_ | refine go_star ?_ | refine go_rng2 ?_)
  | (refine gd_id ?_; first | refine gd_seq ?_ | refine gd_nm ?_ | refine gd_asg ?_ | refine gd_ret ?_ | refine gd_if ?_ | refine gd_next ?_ | refine gd_expr ?_ | refine gd_par ?_ | refine gd_retN ?_ | refine gd_brk ?_ | refine gd_cnt ?_ | refine gd_for ?_)
  | (refine go_idB ?_; first | refine go_asB ?_ | refine go_tru ?_ | refine go_bAnd ?_ | refine go_bOr ?_ | refine go_bNot ?_ | refine go_bYes ?_)
  | (refine br_id ?_; first | refine br_t ?_ | refine br_f ?_ | refine br_not ?_)
  | (refine go_idO ?_; first | refine go_oNone ?_ | refine go_oSome ?_))
local macro_rules | `(tactic| walk_at "g2_Bk12") => `(tactic| first
  | with_reducible refine ex_bl ?_ | with_reducible refine ex_int ?_ | with_reducible refine ex_str ?_ | with_reducible refine ex_nm ?_
  | with_reducible refine ex_zip ?_ | with_reducible refine ex_enum ?_
  | with_reducible refine ex_seq (by with_unfolding_all exact rfl) ?_
  | with_reducible refine ex_tg (by with_unfolding_all exact rfl) ?_
  | with_reducible refine ex_tru (by with_unfolding_all exact rfl) ?_
  | with_reducible refine ex_ty (by with_unfolding_all exact rfl) ?_
  | with_reducible refine ex_it (by with_unfolding_all exact rfl) ?_
  | ((with_reducible refine br_id ?_); first
    | with_reducible refine br_is (b := Si.isNon _) (by with_unfolding_all rfl) ?_ | with_reducible refine br_isnt (b := Si.isNon _) (by with_unfolding_all rfl) ?_
    | with_reducible refine br_is (b := isB _ _) (by with_unfolding_all decide) ?_ | with_reducible refine br_isnt (b := isB _ _) (by with_unfolding_all decide) ?_
    | with_reducible refine br_is (b := isB _ _ || isB _ _) (by with_unfolding_all decide) ?_ | with_reducible refine br_isnt (b := isB _ _ || isB _ _) (by with_unfolding_all decide) ?_
    | with_reducible refine br_y (by decide +kernel) ?_ | with_reducible refine br_n (by decide +kernel) ?_ | with_reducible refine br_y (by with_unfolding_all rfl) ?_ | with_reducible refine br_n (by simp only [List.length_cons, List.length_nil]; omega) ?_)
  | ((with_reducible refine go_idD ?_); first
    | with_reducible refine go_mulL ⟨by decide, by decide⟩ ?_ | with_reducible refine go_mulR ⟨by decide, by decide⟩ ?_ | with_reducible refine go_mod (by decide) ?_ | with_reducible refine go_div (by decide) (by decide) ?_
    | with_reducible refine go_inTt (by decide +kernel) (by decide +kernel) ?_ | with_reducible refine go_inTf (by decide +kernel) (by decide +kernel) ?_ | with_reducible refine go_niTt (by decide +kernel) (by decide +kernel) ?_ | with_reducible refine go_niTf (by decide +kernel) (by decide +kernel) ?_)
  | (with_reducible refine an_le ?hh ?_; case hh => (first | decide | (simp only [List.length_cons, List.length_nil]; omega)))
  | (with_reducible refine an_rng ?hh ?_; case hh => (first | decide | omega))
  | (with_reducible refine an_rng2 ?hh ?_; case hh => (first | decide | omega))
  | fail)
local macro_rules | `(tactic| walk_at "gg_Bk12") => `(tactic| repeat' (first | walk_at "g1_Bk12" | walk_at "g2_Bk12"))

section
variable {X : EX} {Q : D → Wd → Prop} {QA : List D → Wd → Prop} {w0 w : Wd} {n m c : Nat} {σ : En} {st : List (Str × Str)} {ma : List Str} {fo : Str}
end
end Bk

set_option Elab.async false
set_option linter.all false
set_option autoImplicit false
set_option maxRecDepth 100000
set_option maxHeartbeats 4000000
/-! Bk13: jobs, readings, the checks. -/
namespace Bk
open PySem L2 PyProof.Rows Si
/-- one step by the form of the code -/
local macro_rules | `(tactic| walk_at "g1_Bk13") => `(tactic| with_reducible first
  | (refine go_idD ?_; first
    | refine go_var rfl ?_ | refine go_c ?_ | refine go_op ?_ | refine go_call ?_ | refine go_eqS ?_ | refine go_eqI ?_ | refine go_tup ?_ | refine go_lst ?_ | refine go_addI ?_ | refine go_isi ?_ | refine go_and ?_ | refine go_lt ?_ | refine go_le ?_ | refine go_gt ?_ | refine go_ge ?_ | refine go_ixT rfl ?_ | refine go_ixL rfl ?_
    | refine go_lc ?_ | refine go_if ?_ | refine go_not ?_ | refine go_or ?_ | refine go_chain ?_ | refine go_callK ?_ | refine go_lstM ?_ | refine go_neg ?_ | refine go_sl ?_ | refine go_isi2 ?_ | refine go_join ?_ | refine go_app ?_ | refine go_lenSet ?_ | refine go_lcM ?_
    | refine go_subI ?_ | refine go_neI ?_ | refine go_neS ?_ | refine go_lenL ?_ | refine go_lenT ?_ | refine go_lenS (by assumption) ?_
    | refine go_slL ?_ | refine go_slT ?_ | refine go_slS (by assumption) ?_ | refine go_intI ?_ | refine go_lstL ?_ | refine go_lstT ?_ | refine go_tupL ?_ | refine go_tupT ?_ | refine go_isN ?_ | refine go_notN ?_ | refine go_allM ?_ | refine go_max2 ?_ | refine go_min2 ?_)
  | (refine go_idL ?_; first | refine go_cons ?_ | refine go_nil ?_ | refine go_iter ?_ | refine go_rng1 ?_ | refine go_zip ?_ | refine go_enum ?_ | refine go_star ?_ | refine go_rng2 ?_)
  | (refine gd_id ?_; first | refine gd_seq ?_ | refine gd_nm ?_ | refine gd_asg ?_ | refine gd_ret ?_ | refine gd_if ?_ | refine gd_next ?_ | refine gd_expr ?_ | refine gd_par ?_ | refine gd_retN ?_ | refine gd_brk ?_ | refine gd_cnt ?_ | refine gd_for ?_)
  | (refine go_idB ?_; first | refine go_asB ?_ | refine go_tru ?_ | refine go_bAnd ?_ | refine go_bOr ?_ | refine go_bNot ?_ | refine go_bYes ?_)
  | (refine br_id ?_; first | refine br_t ?_ | refine br_f ?_ | refine br_not ?_)
  | (refine go_idO ?_; first | refine go_oNone ?_ | refine go_oSome ?_))
local macro_rules | `(tactic| walk_at "g2_Bk13") => `(tactic| first
  | with_reducible refine ex_bl ?_ | with_reducible refine ex_int ?_ | with_reducible refine ex_str ?_ | with_reducible refine ex_nm ?_
  | with_reducible refine ex_zip ?_ | with_reducible refine ex_enum ?_
  | with_reducible refine ex_seq (by with_unfolding_all exact rfl) ?_
  | with_reducible refine ex_tg (by with_unfolding_all exact rfl) ?_
  | with_reducible refine ex_tru (by with_unfolding_all exact rfl) ?_
  | with_reducible refine ex_ty (by with_unfolding_all exact rfl) ?_
  | with_reducible refine ex_it (by with_unfolding_all exact rfl) ?_
  | ((with_reducible refine br_id ?_); first
    | with_reducible refine br_is (b := Si.isNon _) (by with_unfolding_all rfl) ?_ | with_reducible refine br_isnt (b := Si.isNon _) (by with_unfolding_all rfl) ?_
    | with_reducible refine br_is (b := isB _ _) (by with_unfolding_all decide) ?_ | with_reducible refine br_isnt (b := isB _ _) (by with_unfolding_all decide) ?_
    | with_reducible refine br_is (b := isB _ _ || isB _ _) (by with_unfolding_all decide) ?_ | with_reducible refine br_isnt (b := isB _ _ || isB _ _) (by with_unfolding_all decide) ?_
    | with_reducible refine br_y (by decide +kernel) ?_ | with_reducible refine br_n (by decide +kernel) ?_ | with_reducible refine br_y (by with_unfolding_all rfl) ?_ | with_reducible refine br_n (by simp only [List.length_cons, List.length_nil]; omega) ?_)
  | ((with_reducible refine go_idD ?_); first
    | with_reducible refine go_mulL ⟨by decide, by decide⟩ ?_ | with_reducible refine go_mulR ⟨by decide, by decide⟩ ?_ | with_reducible refine go_mod (by decide) ?_ | with_reducible refine go_div (by decide) (by decide) ?_
    | with_reducible refine go_inTt (by decide +kernel) (by decide +kernel) ?_ | with_reducible refine go_inTf (by decide +kernel) (by decide +kernel) ?_ | with_reducible refine go_niTt (by decide +kernel) (by decide +kernel) ?_ | with_reducible refine go_niTf (by decide +kernel) (by decide +kernel) ?_)
  | (with_reducible refine an_le ?hh ?_; case hh => (first | decide | (simp only [List.length_cons, List.length_nil]; omega)))
  | (with_reducible refine an_rng ?hh ?_; case hh => (first | decide | omega))
  | (with_reducible refine an_rng2 ?hh ?_; case hh => (first | decide | omega))
  | fail)
local macro_rules | `(tactic| walk_at "gg_Bk13") => `(tactic| repeat' (first | walk_at "g1_Bk13" | walk_at "g2_Bk13"))

section
variable {X : EX} {Q : D → Wd → Prop} {QA : List D → Wd → Prop} {w0 w : Wd} {n m c : Nat} {σ : En} {st : List (Str × Str)} {ma : List Str} {fo : Str} {N B C : En → Wd → Prop} {T : D → Wd → Prop}
end
end Bk

set_option Elab.async false
set_option linter.all false
set_option autoImplicit false
set_option maxRecDepth 100000
set_option maxHeartbeats 4000000
/-! Bk14: the checks let right books through. -/
namespace Bk
open PySem L2 PyProof.Rows Si
/-- one step by the form of the code -/
local macro_rules | `(tactic| walk_at "g1_Bk14") => `(tactic| with_reducible first
  | (refine go_idD ?_; first
    | refine go_var rfl ?_ | refine go_c ?_ | refine go_op ?_ | refine go_call ?_ | refine go_eqS ?_ | refine go_eqI ?_ | refine go_tup ?_ | refine go_lst ?_ | refine go_addI ?_ | refine go_isi ?_ | refine go_and ?_ | refine go_lt ?_ | refine go_le ?_ | refine go_gt ?_ | refine go_ge ?_ | refine go_ixT rfl ?_ | refine go_ixL rfl ?_
    | refine go_lc ?_ | refine go_if ?_ | refine go_not ?_ | refine go_or ?_ | refine go_chain ?_ | refine go_callK ?_ | refine go_lstM ?_ | refine go_neg ?_ | refine go_sl ?_ | refine go_isi2 ?_ | refine go_join ?_ | refine go_app ?_ | refine go_lenSet ?_ | refine go_lcM ?_
    | refine go_subI ?_ | refine go_neI ?_ | refine go_neS ?_ | refine go_lenL ?_ | refine go_lenT ?_ | refine go_lenS (by assumption) ?_
    | refine go_slL ?_ | refine go_slT ?_ | refine go_slS (by assumption) ?_ | refine go_intI ?_ | refine go_lstL ?_ | refine go_lstT ?_ | refine go_tupL ?_ | refine go_tupT ?_ | refine go_isN ?_ | refine go_notN ?_ | refine go_allM ?_ | refine go_max2 ?_ | refine go_min2 ?_)
  | (refine go_idL ?_; first | refine go_cons ?_ | refine go_nil ?_ | refine go_iter ?_ | refine go_rng1 ?_ | refine go_zip ?_ | refine go_enum ?_ | refine go_star ?_ | refine go_rng2 ?_)
  | (refine gd_id ?_; first | refine gd_seq ?_ | refine gd_nm ?_ | refine gd_asg ?_ | refine gd_ret ?_ | refine gd_if ?_ | refine gd_next ?_ | refine gd_expr ?_ | refine gd_par ?_ | refine gd_retN ?_ | refine gd_brk ?_ | refine gd_cnt ?_ | refine gd_for ?_)
  | (refine go_idB ?_; first | refine go_asB ?_ | refine go_tru ?_ | refine go_bAnd ?_ | refine go_bOr ?_ | refine go_bNot ?_ | refine go_bYes ?_)
  | (refine br_id ?_; first | refine br_t ?_ | refine br_f ?_ | refine br_not ?_)
  | (refine go_idO ?_; first | refine go_oNone ?_ | refine go_oSome ?_))
local macro_rules | `(tactic| walk_at "g2_Bk14") => `(tactic| first
  | with_reducible refine ex_bl ?_ | with_reducible refine ex_int ?_ | with_reducible refine ex_str ?_ | with_reducible refine ex_nm ?_
  | with_reducible refine ex_zip ?_ | with_reducible refine ex_enum ?_
  | with_reducible refine ex_seq (by with_unfolding_all exact rfl) ?_
  | with_reducible refine ex_tg (by with_unfolding_all exact rfl) ?_
  | with_reducible refine ex_tru (by with_unfolding_all exact rfl) ?_
  | with_reducible refine ex_ty (by with_unfolding_all exact rfl) ?_
  | with_reducible refine ex_it (by with_unfolding_all exact rfl) ?_
  | ((with_reducible refine br_id ?_); first
    | with_reducible refine br_is (b := Si.isNon _) (by with_unfolding_all rfl) ?_ | with_reducible refine br_isnt (b := Si.isNon _) (by with_unfolding_all rfl) ?_
    | with_reducible refine br_is (b := isB _ _) (by with_unfolding_all decide) ?_ | with_reducible refine br_isnt (b := isB _ _) (by with_unfolding_all decide) ?_
    | with_reducible refine br_is (b := isB _ _ || isB _ _) (by with_unfolding_all decide) ?_ | with_reducible refine br_isnt (b := isB _ _ || isB _ _) (by with_unfolding_all decide) ?_
    | with_reducible refine br_y (by decide +kernel) ?_ | with_reducible refine br_n (by decide +kernel) ?_ | with_reducible refine br_y (by with_unfolding_all rfl) ?_ | with_reducible refine br_n (by simp only [List.length_cons, List.length_nil]; omega) ?_)
  | ((with_reducible refine go_idD ?_); first
    | with_reducible refine go_mulL ⟨by decide, by decide⟩ ?_ | with_reducible refine go_mulR ⟨by decide, by decide⟩ ?_ | with_reducible refine go_mod (by decide) ?_ | with_reducible refine go_div (by decide) (by decide) ?_
    | with_reducible refine go_inTt (by decide +kernel) (by decide +kernel) ?_ | with_reducible refine go_inTf (by decide +kernel) (by decide +kernel) ?_ | with_reducible refine go_niTt (by decide +kernel) (by decide +kernel) ?_ | with_reducible refine go_niTf (by decide +kernel) (by decide +kernel) ?_)
  | (with_reducible refine an_le ?hh ?_; case hh => (first | decide | (simp only [List.length_cons, List.length_nil]; omega)))
  | (with_reducible refine an_rng ?hh ?_; case hh => (first | decide | omega))
  | (with_reducible refine an_rng2 ?hh ?_; case hh => (first | decide | omega))
  | fail)
local macro_rules | `(tactic| walk_at "gg_Bk14") => `(tactic| repeat' (first | walk_at "g1_Bk14" | walk_at "g2_Bk14"))

section
variable {X : EX} {Q : D → Wd → Prop} {QA : List D → Wd → Prop} {w0 w : Wd} {n m c : Nat} {σ : En} {st : List (Str × Str)} {ma : List Str} {fo : Str} {N B C : En → Wd → Prop} {T : D → Wd → Prop}
/-- new cells at the end -/
def Ap (w w' : Wd) : Prop := ∃ e, w' = w ++ e
theorem Ap.refl : Ap w w := ⟨[], by simp⟩
theorem Ap.trans {w1 w2 : Wd} (a : Ap w w1) (b : Ap w1 w2) : Ap w w2 := let ⟨e, h⟩ := a; let ⟨f, g⟩ := b; ⟨e ++ f, by rw [g, h, List.append_assoc]⟩
theorem Ap.get {w1 : Wd} {o : MO} (a : Ap w w1) (h : w[m]? = some o) : w1[m]? = some o := by
  obtain ⟨e, rfl⟩ := a
  rw [List.getElem?_append_left (lt_of_get h)]
  exact h
end
end Bk

set_option Elab.async false
set_option linter.all false
set_option autoImplicit false
set_option maxRecDepth 100000
set_option maxHeartbeats 4000000
/-! Bk15: a book is made. -/
namespace Bk
open PySem L2 PyProof.Rows Si
/-- one step by the form of the code -/
local macro_rules | `(tactic| walk_at "g1_Bk15") => `(tactic| with_reducible first
  | (refine go_idD ?_; first
    | refine go_var rfl ?_ | refine go_c ?_ | refine go_op ?_ | refine go_call ?_ | refine go_eqS ?_ | refine go_eqI ?_ | refine go_tup ?_ | refine go_lst ?_ | refine go_addI ?_ | refine go_isi ?_ | refine go_and ?_ | refine go_lt ?_ | refine go_le ?_ | refine go_gt ?_ | refine go_ge ?_ | refine go_ixT rfl ?_ | refine go_ixL rfl ?_
    | refine go_lc ?_ | refine go_if ?_ | refine go_not ?_ | refine go_or ?_ | refine go_chain ?_ | refine go_callK ?_ | refine go_lstM ?_ | refine go_neg ?_ | refine go_sl ?_ | refine go_isi2 ?_ | refine go_join ?_ | refine go_app ?_ | refine go_lenSet ?_ | refine go_lcM ?_
    | refine go_subI ?_ | refine go_neI ?_ | refine go_neS ?_ | refine go_lenL ?_ | refine go_lenT ?_ | refine go_lenS (by assumption) ?_
    | refine go_slL ?_ | refine go_slT ?_ | refine go_slS (by assumption) ?_ | refine go_intI ?_ | refine go_lstL ?_ | refine go_lstT ?_ | refine go_tupL ?_ | refine go_tupT ?_ | refine go_isN ?_ | refine go_notN ?_ | refine go_allM ?_ | refine go_max2 ?_ | refine go_min2 ?_)
  | (refine go_idL ?_; first | refine go_cons ?_ | refine go_nil ?_ | refine go_iter ?_ | refine go_rng1 ?_ | refine go_zip ?_ | refine go_enum ?_ | refine go_star ?_ | refine go_rng2 ?_)
  | (refine gd_id ?_; first | refine gd_seq ?_ | refine gd_nm ?_ | refine gd_asg ?_ | refine gd_ret ?_ | refine gd_if ?_ | refine gd_next ?_ | refine gd_expr ?_ | refine gd_par ?_ | refine gd_retN ?_ | refine gd_brk ?_ | refine gd_cnt ?_ | refine gd_for ?_)
  | (refine go_idB ?_; first | refine go_asB ?_ | refine go_tru ?_ | refine go_bAnd ?_ | refine go_bOr ?_ | refine go_bNot ?_ | refine go_bYes ?_)
  | (refine br_id ?_; first | refine br_t ?_ | refine br_f ?_ | refine br_not ?_)
  | (refine go_idO ?_; first | refine go_oNone ?_ | refine go_oSome ?_))
local macro_rules | `(tactic| walk_at "g2_Bk15") => `(tactic| first
  | with_reducible refine ex_bl ?_ | with_reducible refine ex_int ?_ | with_reducible refine ex_str ?_ | with_reducible refine ex_nm ?_
  | with_reducible refine ex_zip ?_ | with_reducible refine ex_enum ?_
  | with_reducible refine ex_seq (by with_unfolding_all exact rfl) ?_
  | with_reducible refine ex_tg (by with_unfolding_all exact rfl) ?_
  | with_reducible refine ex_tru (by with_unfolding_all exact rfl) ?_
  | with_reducible refine ex_ty (by with_unfolding_all exact rfl) ?_
  | with_reducible refine ex_it (by with_unfolding_all exact rfl) ?_
  | ((with_reducible refine br_id ?_); first
    | with_reducible refine br_is (b := Si.isNon _) (by with_unfolding_all rfl) ?_ | with_reducible refine br_isnt (b := Si.isNon _) (by with_unfolding_all rfl) ?_
    | with_reducible refine br_is (b := isB _ _) (by with_unfolding_all decide) ?_ | with_reducible refine br_isnt (b := isB _ _) (by with_unfolding_all decide) ?_
    | with_reducible refine br_is (b := isB _ _ || isB _ _) (by with_unfolding_all decide) ?_ | with_reducible refine br_isnt (b := isB _ _ || isB _ _) (by with_unfolding_all decide) ?_
    | with_reducible refine br_y (by decide +kernel) ?_ | with_reducible refine br_n (by decide +kernel) ?_ | with_reducible refine br_y (by with_unfolding_all rfl) ?_ | with_reducible refine br_n (by simp only [List.length_cons, List.length_nil]; omega) ?_)
  | ((with_reducible refine go_idD ?_); first
    | with_reducible refine go_mulL ⟨by decide, by decide⟩ ?_ | with_reducible refine go_mulR ⟨by decide, by decide⟩ ?_ | with_reducible refine go_mod (by decide) ?_ | with_reducible refine go_div (by decide) (by decide) ?_
    | with_reducible refine go_inTt (by decide +kernel) (by decide +kernel) ?_ | with_reducible refine go_inTf (by decide +kernel) (by decide +kernel) ?_ | with_reducible refine go_niTt (by decide +kernel) (by decide +kernel) ?_ | with_reducible refine go_niTf (by decide +kernel) (by decide +kernel) ?_)
  | (with_reducible refine an_le ?hh ?_; case hh => (first | decide | (simp only [List.length_cons, List.length_nil]; omega)))
  | (with_reducible refine an_rng ?hh ?_; case hh => (first | decide | omega))
  | (with_reducible refine an_rng2 ?hh ?_; case hh => (first | decide | omega))
  | fail)
local macro_rules | `(tactic| walk_at "gg_Bk15") => `(tactic| repeat' (first | walk_at "g1_Bk15" | walk_at "g2_Bk15"))

section
variable {X : EX} {Q : D → Wd → Prop} {QA : List D → Wd → Prop} {w0 w : Wd} {n m c b : Nat} {σ : En} {st : List (Str × Str)} {ma : List Str} {fo : Str} {N B C : En → Wd → Prop} {T : D → Wd → Prop}
theorem insL_of {cn : Str} {fs : List (Str × D)} (h : w[b]? = some (.ins cn fs)) : insL (.obj b) w = some (b, cn, fs) := by simp only [insL, h]
theorem go_fld {cs : List Str} {f : Str} {ma : En → Wd → R D} (h : Go X (ma σ w) fun u w1 => ∃ b c fs d, u = .obj b ∧ w1[b]? = some (.ins c fs) ∧ c ∈ cs ∧ fs.lookup f = some d ∧ Q d w1) : Go X (mFld cs f ma σ w) Q :=
  go_bind (go_weak h fun _ _ ⟨b, c, fs, d, e, e1, e2, e3, h⟩ => by
    subst e
    rw [insL_of e1]
    dsimp only
    rw [if_pos e2, e3]
    exact h)
theorem go_meth {c m : Str} {G : List D → Wd → R D} {mo : En → Wd → R D} {mas : En → Wd → R (List D)} (h : Go X (mo σ w) fun u w1 => ∃ b fs, u = .obj b ∧ w1[b]? = some (.ins c fs) ∧ fs.lookup m = none ∧ Go X (mas σ w1) fun us w2 => Go X (G (.obj b :: us) w2) Q) : Go X (mMeth c m G mo mas σ w) Q :=
  go_bind (go_weak h fun _ _ ⟨b, fs, e, e1, e2, h⟩ => by
    subst e
    rw [insL_of e1]
    dsimp only
    rw [if_pos ⟨rfl, e2⟩]
    exact go_bind h)
theorem go_make {c : Str} {G : List D → Wd → R D} {pm : List Nat} {dms : List D} {mas mks : En → Wd → R (List D)} (h : Go X (mas σ w) fun us w1 => Go X (mks σ w1) fun zs w2 => Go X (G (permL pm (.obj w2.length :: (us ++ (zs ++ dms)))) (w2 ++ [.ins c []])) fun d w3 => d = .non ∧ Q (.obj w2.length) w3) : Go X (mMake c G pm dms mas mks σ w) Q :=
  go_bind (go_weak h fun us w1 h => go_bind (go_weak h fun zs w2 h => by
    unfold made
    cases e : G (permL pm (.obj w2.length :: (us ++ (zs ++ dms)))) (w2 ++ [.ins c []]) with
    | ok d w3 => rw [e] at h; obtain ⟨h1, h2⟩ := h; subst h1; exact h2
    | err x fs w3 => rw [e] at h; exact h
    | stuck => rw [e] at h; exact h.elim))
theorem gd_setF {cs : List Str} {f : Str} {mo mv : En → Wd → R D} (h : Go X (mv σ w) fun d w1 => Go X (mo σ w1) fun u w2 => ∃ b c fs, u = .obj b ∧ w2[b]? = some (.ins c fs) ∧ c ∈ cs ∧ fs.length < 1000 ∧ N σ (w2.set b (.ins c (putD f d fs)))) : Gd X N T B C (mSetF cs f mo mv σ w) :=
  gd_toS (go_weak h fun d w1 h => gd_toS (go_weak h fun u w2 ⟨b, c, fs, e, e1, e2, e3, h⟩ => by
    subst e
    rw [insL_of e1]
    dsimp only
    rw [if_pos ⟨e2, e3⟩]
    exact h))
end
end Bk

set_option Elab.async false
set_option linter.all false
set_option autoImplicit false
set_option maxRecDepth 100000
set_option maxHeartbeats 4000000
/-! Bk16: a book is made. -/
namespace Bk
open PySem L2 PyProof.Rows Si
/-- one step by the form of the code -/
local macro_rules | `(tactic| walk_at "g1_Bk16") => `(tactic| with_reducible first
  | (refine go_idD ?_; first
    | refine go_var rfl ?_ | refine go_c ?_ | refine go_op ?_ | refine go_call ?_ | refine go_eqS ?_ | refine go_eqI ?_ | refine go_tup ?_ | refine go_lst ?_ | refine go_addI ?_ | refine go_isi ?_ | refine go_and ?_ | refine go_lt ?_ | refine go_le ?_ | refine go_gt ?_ | refine go_ge ?_ | refine go_ixT rfl ?_ | refine go_ixL rfl ?_
    | refine go_lc ?_ | refine go_if ?_ | refine go_not ?_ | refine go_or ?_ | refine go_chain ?_ | refine go_callK ?_ | refine go_lstM ?_ | refine go_neg ?_ | refine go_sl ?_ | refine go_isi2 ?_ | refine go_join ?_ | refine go_app ?_ | refine go_lenSet ?_ | refine go_lcM ?_
    | refine go_subI ?_ | refine go_neI ?_ | refine go_neS ?_ | refine go_lenL ?_ | refine go_lenT ?_ | refine go_lenS (by assumption) ?_
    | refine go_slL ?_ | refine go_slT ?_ | refine go_slS (by assumption) ?_ | refine go_intI ?_ | refine go_lstL ?_ | refine go_lstT ?_ | refine go_tupL ?_ | refine go_tupT ?_ | refine go_isN ?_ | refine go_notN ?_ | refine go_allM ?_ | refine go_max2 ?_ | refine go_min2 ?_)
  | (refine go_idL ?_; first | refine go_cons ?_ | refine go_nil ?_ | refine go_iter ?_ | refine go_rng1 ?_ | refine go_zip ?_ | refine go_enum ?_ | refine go_star ?_ | refine go_rng2 ?_)
  | (refine gd_id ?_; first | refine gd_seq ?_ | refine gd_nm ?_ | refine gd_asg ?_ | refine gd_ret ?_ | refine gd_if ?_ | refine gd_next ?_ | refine gd_expr ?_ | refine gd_par ?_ | refine gd_retN ?_ | refine gd_brk ?_ | refine gd_cnt ?_ | refine gd_for ?_)
  | (refine go_idB ?_; first | refine go_asB ?_ | refine go_tru ?_ | refine go_bAnd ?_ | refine go_bOr ?_ | refine go_bNot ?_ | refine go_bYes ?_)
  | (refine br_id ?_; first | refine br_t ?_ | refine br_f ?_ | refine br_not ?_)
  | (refine go_idO ?_; first | refine go_oNone ?_ | refine go_oSome ?_))
local macro_rules | `(tactic| walk_at "g2_Bk16") => `(tactic| first
  | with_reducible refine ex_bl ?_ | with_reducible refine ex_int ?_ | with_reducible refine ex_str ?_ | with_reducible refine ex_nm ?_
  | with_reducible refine ex_zip ?_ | with_reducible refine ex_enum ?_
  | with_reducible refine ex_seq (by with_unfolding_all exact rfl) ?_
  | with_reducible refine ex_tg (by with_unfolding_all exact rfl) ?_
  | with_reducible refine ex_tru (by with_unfolding_all exact rfl) ?_
  | with_reducible refine ex_ty (by with_unfolding_all exact rfl) ?_
  | with_reducible refine ex_it (by with_unfolding_all exact rfl) ?_
  | ((with_reducible refine br_id ?_); first
    | with_reducible refine br_is (b := Si.isNon _) (by with_unfolding_all rfl) ?_ | with_reducible refine br_isnt (b := Si.isNon _) (by with_unfolding_all rfl) ?_
    | with_reducible refine br_is (b := isB _ _) (by with_unfolding_all decide) ?_ | with_reducible refine br_isnt (b := isB _ _) (by with_unfolding_all decide) ?_
    | with_reducible refine br_is (b := isB _ _ || isB _ _) (by with_unfolding_all decide) ?_ | with_reducible refine br_isnt (b := isB _ _ || isB _ _) (by with_unfolding_all decide) ?_
    | with_reducible refine br_y (by decide +kernel) ?_ | with_reducible refine br_n (by decide +kernel) ?_ | with_reducible refine br_y (by with_unfolding_all rfl) ?_ | with_reducible refine br_n (by simp only [List.length_cons, List.length_nil]; omega) ?_)
  | ((with_reducible refine go_idD ?_); first
    | with_reducible refine go_mulL ⟨by decide, by decide⟩ ?_ | with_reducible refine go_mulR ⟨by decide, by decide⟩ ?_ | with_reducible refine go_mod (by decide) ?_ | with_reducible refine go_div (by decide) (by decide) ?_
    | with_reducible refine go_inTt (by decide +kernel) (by decide +kernel) ?_ | with_reducible refine go_inTf (by decide +kernel) (by decide +kernel) ?_ | with_reducible refine go_niTt (by decide +kernel) (by decide +kernel) ?_ | with_reducible refine go_niTf (by decide +kernel) (by decide +kernel) ?_)
  | (with_reducible refine an_le ?hh ?_; case hh => (first | decide | (simp only [List.length_cons, List.length_nil]; omega)))
  | (with_reducible refine an_rng ?hh ?_; case hh => (first | decide | omega))
  | (with_reducible refine an_rng2 ?hh ?_; case hh => (first | decide | omega))
  | fail)
local macro_rules | `(tactic| walk_at "gg_Bk16") => `(tactic| repeat' (first | walk_at "g1_Bk16" | walk_at "g2_Bk16"))

def isAge (p : Str × Int) : Bool := decide (p.1 ∈ (["age", "young"] : List Str))
def Sp.tests (sp : Sp) : List Prs := sp.no.map (·.t) ++ sp.en.map (·.t) ++ sp.jo.map (·.t) ++ sp.re.map (·.t)
def agesIn (l : List Prs) : List Int := (l.map fun t => (t.filter isAge).map (·.2)).flatten
def waitsIn (l : List Jb) : List Int := l.filterMap (·.d)
def Sp.nums (sp : Sp) : List Int := 0 :: (agesIn sp.tests ++ waitsIn sp.jo)
def Sp.top (sp : Sp) : Int := sp.wd + topI (sp.la :: sp.ba :: sp.nums)
def bkK : List Str := ["own_width", "own_late", "own_back", "own_fold", "own_stores", "own_marks", "own_notes", "own_entries", "own_jobs", "own_readings"]
def Sp.fs (sp : Sp) : List (Str × D) := (bkK ++ (["own_top"] : List Str)).zip [.int sp.wd, .int sp.la, .int sp.ba, .str sp.fo, .lst (sp.st.map eSt), .lst (eS sp.ma), .lst (sp.no.map eNt), .lst (sp.en.map eEnt), .lst (sp.jo.map eJb), .lst (sp.re.map eRdg), .int sp.top]
section
variable {X : EX} {Q : D → Wd → Prop} {QA : List D → Wd → Prop} {w0 w : Wd} {n m c b : Nat} {σ : En} {sp : Sp}
theorem SpOk.tl (ok : SpOk sp) : (∀ t ∈ sp.tests, TestsOk sp.ma t) ∧ sp.tests.length ≤ 28 := by
  refine ⟨fun t ht => ?_, ?_⟩
  · unfold Sp.tests at ht
    rcases List.mem_append.mp ht with ht | ht
    rcases List.mem_append.mp ht with ht | ht
    rcases List.mem_append.mp ht with ht | ht
    · obtain ⟨x, hx, rfl⟩ := List.mem_map.mp ht; exact (ok.no x hx).t
    · obtain ⟨x, hx, rfl⟩ := List.mem_map.mp ht; exact (ok.en x hx).t
    · obtain ⟨x, hx, rfl⟩ := List.mem_map.mp ht; exact (ok.jo x hx).t
    · obtain ⟨x, hx, rfl⟩ := List.mem_map.mp ht; exact (ok.re x hx).t
  · have h1 := ok.nol
    have h2 := ok.enl
    have h3 := ok.jol
    have h4 := ok.rel
    unfold Sp.tests
    simp only [List.length_append, List.length_map]
    omega
end
end Bk

set_option Elab.async false
set_option linter.all false
set_option autoImplicit false
set_option maxRecDepth 100000
set_option maxHeartbeats 4000000
/-! Bk17: a book is made. -/
namespace Bk
open PySem L2 PyProof.Rows Si
/-- one step by the form of the code -/
local macro_rules | `(tactic| walk_at "g1_Bk17") => `(tactic| with_reducible first
  | (refine go_idD ?_; first
    | refine go_var rfl ?_ | refine go_c ?_ | refine go_op ?_ | refine go_call ?_ | refine go_eqS ?_ | refine go_eqI ?_ | refine go_tup ?_ | refine go_lst ?_ | refine go_addI ?_ | refine go_isi ?_ | refine go_and ?_ | refine go_lt ?_ | refine go_le ?_ | refine go_gt ?_ | refine go_ge ?_ | refine go_ixT rfl ?_ | refine go_ixL rfl ?_
    | refine go_lc ?_ | refine go_if ?_ | refine go_not ?_ | refine go_or ?_ | refine go_chain ?_ | refine go_callK ?_ | refine go_lstM ?_ | refine go_neg ?_ | refine go_sl ?_ | refine go_isi2 ?_ | refine go_join ?_ | refine go_app ?_ | refine go_lenSet ?_ | refine go_lcM ?_
    | refine go_subI ?_ | refine go_neI ?_ | refine go_neS ?_ | refine go_lenL ?_ | refine go_lenT ?_ | refine go_lenS (by assumption) ?_
    | refine go_slL ?_ | refine go_slT ?_ | refine go_slS (by assumption) ?_ | refine go_intI ?_ | refine go_lstL ?_ | refine go_lstT ?_ | refine go_tupL ?_ | refine go_tupT ?_ | refine go_isN ?_ | refine go_notN ?_ | refine go_allM ?_ | refine go_max2 ?_ | refine go_min2 ?_)
  | (refine go_idL ?_; first | refine go_cons ?_ | refine go_nil ?_ | refine go_iter ?_ | refine go_rng1 ?_ | refine go_zip ?_ | refine go_enum ?_ | refine go_star ?_ | refine go_rng2 ?_)
  | (refine gd_id ?_; first | refine gd_seq ?_ | refine gd_nm ?_ | refine gd_asg ?_ | refine gd_ret ?_ | refine gd_if ?_ | refine gd_next ?_ | refine gd_expr ?_ | refine gd_par ?_ | refine gd_retN ?_ | refine gd_brk ?_ | refine gd_cnt ?_ | refine gd_for ?_)
  | (refine go_idB ?_; first | refine go_asB ?_ | refine go_tru ?_ | refine go_bAnd ?_ | refine go_bOr ?_ | refine go_bNot ?_ | refine go_bYes ?_)
  | (refine br_id ?_; first | refine br_t ?_ | refine br_f ?_ | refine br_not ?_)
  | (refine go_idO ?_; first | refine go_oNone ?_ | refine go_oSome ?_))
local macro_rules | `(tactic| walk_at "g2_Bk17") => `(tactic| first
  | with_reducible refine ex_bl ?_ | with_reducible refine ex_int ?_ | with_reducible refine ex_str ?_ | with_reducible refine ex_nm ?_
  | with_reducible refine ex_zip ?_ | with_reducible refine ex_enum ?_
  | with_reducible refine ex_seq (by with_unfolding_all exact rfl) ?_
  | with_reducible refine ex_tg (by with_unfolding_all exact rfl) ?_
  | with_reducible refine ex_tru (by with_unfolding_all exact rfl) ?_
  | with_reducible refine ex_ty (by with_unfolding_all exact rfl) ?_
  | with_reducible refine ex_it (by with_unfolding_all exact rfl) ?_
  | ((with_reducible refine br_id ?_); first
    | with_reducible refine br_is (b := Si.isNon _) (by with_unfolding_all rfl) ?_ | with_reducible refine br_isnt (b := Si.isNon _) (by with_unfolding_all rfl) ?_
    | with_reducible refine br_is (b := isB _ _) (by with_unfolding_all decide) ?_ | with_reducible refine br_isnt (b := isB _ _) (by with_unfolding_all decide) ?_
    | with_reducible refine br_is (b := isB _ _ || isB _ _) (by with_unfolding_all decide) ?_ | with_reducible refine br_isnt (b := isB _ _ || isB _ _) (by with_unfolding_all decide) ?_
    | with_reducible refine br_y (by decide +kernel) ?_ | with_reducible refine br_n (by decide +kernel) ?_ | with_reducible refine br_y (by with_unfolding_all rfl) ?_ | with_reducible refine br_n (by simp only [List.length_cons, List.length_nil]; omega) ?_)
  | ((with_reducible refine go_idD ?_); first
    | with_reducible refine go_mulL ⟨by decide, by decide⟩ ?_ | with_reducible refine go_mulR ⟨by decide, by decide⟩ ?_ | with_reducible refine go_mod (by decide) ?_ | with_reducible refine go_div (by decide) (by decide) ?_
    | with_reducible refine go_inTt (by decide +kernel) (by decide +kernel) ?_ | with_reducible refine go_inTf (by decide +kernel) (by decide +kernel) ?_ | with_reducible refine go_niTt (by decide +kernel) (by decide +kernel) ?_ | with_reducible refine go_niTf (by decide +kernel) (by decide +kernel) ?_)
  | (with_reducible refine an_le ?hh ?_; case hh => (first | decide | (simp only [List.length_cons, List.length_nil]; omega)))
  | (with_reducible refine an_rng ?hh ?_; case hh => (first | decide | omega))
  | (with_reducible refine an_rng2 ?hh ?_; case hh => (first | decide | omega))
  | fail)
local macro_rules | `(tactic| walk_at "gg_Bk17") => `(tactic| repeat' (first | walk_at "g1_Bk17" | walk_at "g2_Bk17"))

section
variable {sp : Sp}
end
/-- all but cell b stays, new cells at the end -/
structure Nb (b : Nat) (w w' : Wd) : Prop where
  l : w.length ≤ w'.length
  k : ∀ k, k < w.length → k ≠ b → w'[k]? = w[k]?
section
variable {X : EX} {Q : D → Wd → Prop} {QA : List D → Wd → Prop} {w0 w : Wd} {n m c b : Nat} {σ : En} {sp : Sp}
theorem Nb.refl : Nb b w w := ⟨Nat.le_refl _, fun _ _ _ => rfl⟩
theorem Nb.set {w1 : Wd} (h : Nb b w w1) (o : MO) : Nb b w (w1.set b o) := ⟨by simpa using h.l, fun k hk hn => (List.getElem?_set_ne (Ne.symm hn)).trans (h.k k hk hn)⟩
/-- the book of sp in cell b -/
structure BkAt (n b : Nat) (w : Wd) (sp : Sp) : Prop where
  ne : b ≠ n
  at_ : w[b]? = some (.ins "Book" sp.fs)
theorem BkAt.bg {w w1 : Wd} (h : BkAt n b w sp) (a : Bg n w w1) : BkAt n b w1 sp := ⟨h.ne, a.get h.at_ h.ne⟩
end
end Bk

set_option Elab.async false
set_option linter.all false
set_option autoImplicit false
set_option maxRecDepth 100000
set_option maxHeartbeats 4000000
/-! Bk18: the rules that apply, as a book tells them. -/
namespace Bk
open PySem L2 PyProof.Rows Si
/-- one step by the form of the code -/
local macro_rules | `(tactic| walk_at "g1_Bk18") => `(tactic| with_reducible first
  | (refine go_idD ?_; first
    | refine go_var rfl ?_ | refine go_c ?_ | refine go_op ?_ | refine go_call ?_ | refine go_eqS ?_ | refine go_eqI ?_ | refine go_tup ?_ | refine go_lst ?_ | refine go_addI ?_ | refine go_isi ?_ | refine go_and ?_ | refine go_lt ?_ | refine go_le ?_ | refine go_gt ?_ | refine go_ge ?_ | refine go_ixT rfl ?_ | refine go_ixL rfl ?_
    | refine go_lc ?_ | refine go_if ?_ | refine go_not ?_ | refine go_or ?_ | refine go_chain ?_ | refine go_callK ?_ | refine go_lstM ?_ | refine go_neg ?_ | refine go_sl ?_ | refine go_isi2 ?_ | refine go_join ?_ | refine go_app ?_ | refine go_lenSet ?_ | refine go_lcM ?_
    | refine go_subI ?_ | refine go_neI ?_ | refine go_neS ?_ | refine go_lenL ?_ | refine go_lenT ?_ | refine go_lenS (by assumption) ?_
    | refine go_slL ?_ | refine go_slT ?_ | refine go_slS (by assumption) ?_ | refine go_intI ?_ | refine go_lstL ?_ | refine go_lstT ?_ | refine go_tupL ?_ | refine go_tupT ?_ | refine go_isN ?_ | refine go_notN ?_ | refine go_allM ?_ | refine go_max2 ?_ | refine go_min2 ?_)
  | (refine go_idL ?_; first | refine go_cons ?_ | refine go_nil ?_ | refine go_iter ?_ | refine go_rng1 ?_ | refine go_zip ?_ | refine go_enum ?_ | refine go_star ?_ | refine go_rng2 ?_)
  | (refine gd_id ?_; first | refine gd_seq ?_ | refine gd_nm ?_ | refine gd_asg ?_ | refine gd_ret ?_ | refine gd_if ?_ | refine gd_next ?_ | refine gd_expr ?_ | refine gd_par ?_ | refine gd_retN ?_ | refine gd_brk ?_ | refine gd_cnt ?_ | refine gd_for ?_)
  | (refine go_idB ?_; first | refine go_asB ?_ | refine go_tru ?_ | refine go_bAnd ?_ | refine go_bOr ?_ | refine go_bNot ?_ | refine go_bYes ?_)
  | (refine br_id ?_; first | refine br_t ?_ | refine br_f ?_ | refine br_not ?_)
  | (refine go_idO ?_; first | refine go_oNone ?_ | refine go_oSome ?_))
local macro_rules | `(tactic| walk_at "g2_Bk18") => `(tactic| first
  | with_reducible refine ex_bl ?_ | with_reducible refine ex_int ?_ | with_reducible refine ex_str ?_ | with_reducible refine ex_nm ?_
  | with_reducible refine ex_zip ?_ | with_reducible refine ex_enum ?_
  | with_reducible refine ex_seq (by with_unfolding_all exact rfl) ?_
  | with_reducible refine ex_tg (by with_unfolding_all exact rfl) ?_
  | with_reducible refine ex_tru (by with_unfolding_all exact rfl) ?_
  | with_reducible refine ex_ty (by with_unfolding_all exact rfl) ?_
  | with_reducible refine ex_it (by with_unfolding_all exact rfl) ?_
  | ((with_reducible refine br_id ?_); first
    | with_reducible refine br_is (b := Si.isNon _) (by with_unfolding_all rfl) ?_ | with_reducible refine br_isnt (b := Si.isNon _) (by with_unfolding_all rfl) ?_
    | with_reducible refine br_is (b := isB _ _) (by with_unfolding_all decide) ?_ | with_reducible refine br_isnt (b := isB _ _) (by with_unfolding_all decide) ?_
    | with_reducible refine br_is (b := isB _ _ || isB _ _) (by with_unfolding_all decide) ?_ | with_reducible refine br_isnt (b := isB _ _ || isB _ _) (by with_unfolding_all decide) ?_
    | with_reducible refine br_y (by decide +kernel) ?_ | with_reducible refine br_n (by decide +kernel) ?_ | with_reducible refine br_y (by with_unfolding_all rfl) ?_ | with_reducible refine br_n (by simp only [List.length_cons, List.length_nil]; omega) ?_)
  | ((with_reducible refine go_idD ?_); first
    | with_reducible refine go_mulL ⟨by decide, by decide⟩ ?_ | with_reducible refine go_mulR ⟨by decide, by decide⟩ ?_ | with_reducible refine go_mod (by decide) ?_ | with_reducible refine go_div (by decide) (by decide) ?_
    | with_reducible refine go_inTt (by decide +kernel) (by decide +kernel) ?_ | with_reducible refine go_inTf (by decide +kernel) (by decide +kernel) ?_ | with_reducible refine go_niTt (by decide +kernel) (by decide +kernel) ?_ | with_reducible refine go_niTf (by decide +kernel) (by decide +kernel) ?_)
  | (with_reducible refine an_le ?hh ?_; case hh => (first | decide | (simp only [List.length_cons, List.length_nil]; omega)))
  | (with_reducible refine an_rng ?hh ?_; case hh => (first | decide | omega))
  | (with_reducible refine an_rng2 ?hh ?_; case hh => (first | decide | omega))
  | fail)
local macro_rules | `(tactic| walk_at "gg_Bk18") => `(tactic| repeat' (first | walk_at "g1_Bk18" | walk_at "g2_Bk18"))

def ix : List Str → Str → Nat
  | [], _ => 0
  | x :: r, z => if x = z then 0 else ix r z + 1
def Sp.pass1 (sp : Sp) (mk : List Int) (time : Int) (p : Str × Int) : Bool :=
  if p.1 = "age" then decide (sp.wd + p.2 ≤ time) else if p.1 = "young" then decide (time < sp.wd + p.2) else decide (mk.getD (ix sp.ma p.1) 0 = p.2)
def Sp.passes (sp : Sp) (mk : List Int) (time : Int) (t : Prs) : Bool := t.all (sp.pass1 mk time)
def Sp.entry (sp : Sp) (wd : Str) (mk : List Int) (time : Int) (kn : Str) : Option Ent := sp.en.find? fun x => decide (x.w = wd) && (decide (x.k ∈ (["any", kn] : List Str)) && sp.passes mk time x.t)
def Sp.reading (sp : Sp) (wd : Str) (mk : List Int) (time : Int) : Option Rdg := sp.re.find? fun x => decide (x.w = wd) && sp.passes mk time x.t
section
variable {X : EX} {Q : D → Wd → Prop} {QA : List D → Wd → Prop} {w0 w : Wd} {n m c b : Nat} {σ : En} {sp : Sp} {N B C : En → Wd → Prop} {T : D → Wd → Prop} {mk : List Int} {time : Int}
end
end Bk

set_option Elab.async false
set_option linter.all false
set_option autoImplicit false
set_option maxRecDepth 100000
set_option maxHeartbeats 4000000
/-! Bk19: the rules that apply, as a book and the law tell them. -/
namespace Bk
open PySem L2 PyProof.Rows Si
/-- one step by the form of the code -/
local macro_rules | `(tactic| walk_at "g1_Bk19") => `(tactic| with_reducible first
  | (refine go_idD ?_; first
    | refine go_var rfl ?_ | refine go_c ?_ | refine go_op ?_ | refine go_call ?_ | refine go_eqS ?_ | refine go_eqI ?_ | refine go_tup ?_ | refine go_lst ?_ | refine go_addI ?_ | refine go_isi ?_ | refine go_and ?_ | refine go_lt ?_ | refine go_le ?_ | refine go_gt ?_ | refine go_ge ?_ | refine go_ixT rfl ?_ | refine go_ixL rfl ?_
    | refine go_lc ?_ | refine go_if ?_ | refine go_not ?_ | refine go_or ?_ | refine go_chain ?_ | refine go_callK ?_ | refine go_lstM ?_ | refine go_neg ?_ | refine go_sl ?_ | refine go_isi2 ?_ | refine go_join ?_ | refine go_app ?_ | refine go_lenSet ?_ | refine go_lcM ?_
    | refine go_subI ?_ | refine go_neI ?_ | refine go_neS ?_ | refine go_lenL ?_ | refine go_lenT ?_ | refine go_lenS (by assumption) ?_
    | refine go_slL ?_ | refine go_slT ?_ | refine go_slS (by assumption) ?_ | refine go_intI ?_ | refine go_lstL ?_ | refine go_lstT ?_ | refine go_tupL ?_ | refine go_tupT ?_ | refine go_isN ?_ | refine go_notN ?_ | refine go_allM ?_ | refine go_max2 ?_ | refine go_min2 ?_)
  | (refine go_idL ?_; first | refine go_cons ?_ | refine go_nil ?_ | refine go_iter ?_ | refine go_rng1 ?_ | refine go_zip ?_ | refine go_enum ?_ | refine go_star ?_ | refine go_rng2 ?_)
  | (refine gd_id ?_; first | refine gd_seq ?_ | refine gd_nm ?_ | refine gd_asg ?_ | refine gd_ret ?_ | refine gd_if ?_ | refine gd_next ?_ | refine gd_expr ?_ | refine gd_par ?_ | refine gd_retN ?_ | refine gd_brk ?_ | refine gd_cnt ?_ | refine gd_for ?_)
  | (refine go_idB ?_; first | refine go_asB ?_ | refine go_tru ?_ | refine go_bAnd ?_ | refine go_bOr ?_ | refine go_bNot ?_ | refine go_bYes ?_)
  | (refine br_id ?_; first | refine br_t ?_ | refine br_f ?_ | refine br_not ?_)
  | (refine go_idO ?_; first | refine go_oNone ?_ | refine go_oSome ?_))
local macro_rules | `(tactic| walk_at "g2_Bk19") => `(tactic| first
  | with_reducible refine ex_bl ?_ | with_reducible refine ex_int ?_ | with_reducible refine ex_str ?_ | with_reducible refine ex_nm ?_
  | with_reducible refine ex_zip ?_ | with_reducible refine ex_enum ?_
  | with_reducible refine ex_seq (by with_unfolding_all exact rfl) ?_
  | with_reducible refine ex_tg (by with_unfolding_all exact rfl) ?_
  | with_reducible refine ex_tru (by with_unfolding_all exact rfl) ?_
  | with_reducible refine ex_ty (by with_unfolding_all exact rfl) ?_
  | with_reducible refine ex_it (by with_unfolding_all exact rfl) ?_
  | ((with_reducible refine br_id ?_); first
    | with_reducible refine br_is (b := Si.isNon _) (by with_unfolding_all rfl) ?_ | with_reducible refine br_isnt (b := Si.isNon _) (by with_unfolding_all rfl) ?_
    | with_reducible refine br_is (b := isB _ _) (by with_unfolding_all decide) ?_ | with_reducible refine br_isnt (b := isB _ _) (by with_unfolding_all decide) ?_
    | with_reducible refine br_is (b := isB _ _ || isB _ _) (by with_unfolding_all decide) ?_ | with_reducible refine br_isnt (b := isB _ _ || isB _ _) (by with_unfolding_all decide) ?_
    | with_reducible refine br_y (by decide +kernel) ?_ | with_reducible refine br_n (by decide +kernel) ?_ | with_reducible refine br_y (by with_unfolding_all rfl) ?_ | with_reducible refine br_n (by simp only [List.length_cons, List.length_nil]; omega) ?_)
  | ((with_reducible refine go_idD ?_); first
    | with_reducible refine go_mulL ⟨by decide, by decide⟩ ?_ | with_reducible refine go_mulR ⟨by decide, by decide⟩ ?_ | with_reducible refine go_mod (by decide) ?_ | with_reducible refine go_div (by decide) (by decide) ?_
    | with_reducible refine go_inTt (by decide +kernel) (by decide +kernel) ?_ | with_reducible refine go_inTf (by decide +kernel) (by decide +kernel) ?_ | with_reducible refine go_niTt (by decide +kernel) (by decide +kernel) ?_ | with_reducible refine go_niTf (by decide +kernel) (by decide +kernel) ?_)
  | (with_reducible refine an_le ?hh ?_; case hh => (first | decide | (simp only [List.length_cons, List.length_nil]; omega)))
  | (with_reducible refine an_rng ?hh ?_; case hh => (first | decide | omega))
  | (with_reducible refine an_rng2 ?hh ?_; case hh => (first | decide | omega))
  | fail)
local macro_rules | `(tactic| walk_at "gg_Bk19") => `(tactic| repeat' (first | walk_at "g1_Bk19" | walk_at "g2_Bk19"))

section
variable {X : EX} {Q : D → Wd → Prop} {QA : List D → Wd → Prop} {w0 w : Wd} {n m c b : Nat} {σ : En} {sp : Sp} {N B C : En → Wd → Prop} {T : D → Wd → Prop} {mk : List Int} {time : Int}
theorem go_lstM {ds : List D} (q : Q (.obj w.length) (w ++ [.lst ds])) : Go X (gLstOfM [.tup ds] w) Q := q
end
end Bk

set_option Elab.async false
set_option linter.all false
set_option autoImplicit false
set_option maxRecDepth 100000
set_option maxHeartbeats 4000000
/-! Bk20: notes, entries, readings that apply, as a book and the law tell them. -/
namespace Bk
open PySem L2 PyProof.Rows Si
/-- one step by the form of the code -/
local macro_rules | `(tactic| walk_at "g1_Bk20") => `(tactic| with_reducible first
  | (refine go_idD ?_; first
    | refine go_var rfl ?_ | refine go_c ?_ | refine go_op ?_ | refine go_call ?_ | refine go_eqS ?_ | refine go_eqI ?_ | refine go_tup ?_ | refine go_lst ?_ | refine go_addI ?_ | refine go_isi ?_ | refine go_and ?_ | refine go_lt ?_ | refine go_le ?_ | refine go_gt ?_ | refine go_ge ?_ | refine go_ixT rfl ?_ | refine go_ixL rfl ?_
    | refine go_lc ?_ | refine go_if ?_ | refine go_not ?_ | refine go_or ?_ | refine go_chain ?_ | refine go_callK ?_ | refine go_lstM ?_ | refine go_neg ?_ | refine go_sl ?_ | refine go_isi2 ?_ | refine go_join ?_ | refine go_app ?_ | refine go_lenSet ?_ | refine go_lcM ?_
    | refine go_subI ?_ | refine go_neI ?_ | refine go_neS ?_ | refine go_lenL ?_ | refine go_lenT ?_ | refine go_lenS (by assumption) ?_
    | refine go_slL ?_ | refine go_slT ?_ | refine go_slS (by assumption) ?_ | refine go_intI ?_ | refine go_lstL ?_ | refine go_lstT ?_ | refine go_tupL ?_ | refine go_tupT ?_ | refine go_isN ?_ | refine go_notN ?_ | refine go_allM ?_ | refine go_max2 ?_ | refine go_min2 ?_)
  | (refine go_idL ?_; first | refine go_cons ?_ | refine go_nil ?_ | refine go_iter ?_ | refine go_rng1 ?_ | refine go_zip ?_ | refine go_enum ?_ | refine go_star ?_ | refine go_rng2 ?_)
  | (refine gd_id ?_; first | refine gd_seq ?_ | refine gd_nm ?_ | refine gd_asg ?_ | refine gd_ret ?_ | refine gd_if ?_ | refine gd_next ?_ | refine gd_expr ?_ | refine gd_par ?_ | refine gd_retN ?_ | refine gd_brk ?_ | refine gd_cnt ?_ | refine gd_for ?_)
  | (refine go_idB ?_; first | refine go_asB ?_ | refine go_tru ?_ | refine go_bAnd ?_ | refine go_bOr ?_ | refine go_bNot ?_ | refine go_bYes ?_)
  | (refine br_id ?_; first | refine br_t ?_ | refine br_f ?_ | refine br_not ?_)
  | (refine go_idO ?_; first | refine go_oNone ?_ | refine go_oSome ?_))
local macro_rules | `(tactic| walk_at "g2_Bk20") => `(tactic| first
  | with_reducible refine ex_bl ?_ | with_reducible refine ex_int ?_ | with_reducible refine ex_str ?_ | with_reducible refine ex_nm ?_
  | with_reducible refine ex_zip ?_ | with_reducible refine ex_enum ?_
  | with_reducible refine ex_seq (by with_unfolding_all exact rfl) ?_
  | with_reducible refine ex_tg (by with_unfolding_all exact rfl) ?_
  | with_reducible refine ex_tru (by with_unfolding_all exact rfl) ?_
  | with_reducible refine ex_ty (by with_unfolding_all exact rfl) ?_
  | with_reducible refine ex_it (by with_unfolding_all exact rfl) ?_
  | ((with_reducible refine br_id ?_); first
    | with_reducible refine br_is (b := Si.isNon _) (by with_unfolding_all rfl) ?_ | with_reducible refine br_isnt (b := Si.isNon _) (by with_unfolding_all rfl) ?_
    | with_reducible refine br_is (b := isB _ _) (by with_unfolding_all decide) ?_ | with_reducible refine br_isnt (b := isB _ _) (by with_unfolding_all decide) ?_
    | with_reducible refine br_is (b := isB _ _ || isB _ _) (by with_unfolding_all decide) ?_ | with_reducible refine br_isnt (b := isB _ _ || isB _ _) (by with_unfolding_all decide) ?_
    | with_reducible refine br_y (by decide +kernel) ?_ | with_reducible refine br_n (by decide +kernel) ?_ | with_reducible refine br_y (by with_unfolding_all rfl) ?_ | with_reducible refine br_n (by simp only [List.length_cons, List.length_nil]; omega) ?_)
  | ((with_reducible refine go_idD ?_); first
    | with_reducible refine go_mulL ⟨by decide, by decide⟩ ?_ | with_reducible refine go_mulR ⟨by decide, by decide⟩ ?_ | with_reducible refine go_mod (by decide) ?_ | with_reducible refine go_div (by decide) (by decide) ?_
    | with_reducible refine go_inTt (by decide +kernel) (by decide +kernel) ?_ | with_reducible refine go_inTf (by decide +kernel) (by decide +kernel) ?_ | with_reducible refine go_niTt (by decide +kernel) (by decide +kernel) ?_ | with_reducible refine go_niTf (by decide +kernel) (by decide +kernel) ?_)
  | (with_reducible refine an_le ?hh ?_; case hh => (first | decide | (simp only [List.length_cons, List.length_nil]; omega)))
  | (with_reducible refine an_rng ?hh ?_; case hh => (first | decide | omega))
  | (with_reducible refine an_rng2 ?hh ?_; case hh => (first | decide | omega))
  | fail)
local macro_rules | `(tactic| walk_at "gg_Bk20") => `(tactic| repeat' (first | walk_at "g1_Bk20" | walk_at "g2_Bk20"))

theorem find_head {α : Type} {p : α → Bool} : ∀ (l : List α), (l.filter p).head? = l.find? p
  | [] => rfl
  | x :: r => by
    rw [List.filter_cons, List.find?_cons]
    cases h : p x with
    | true => rfl
    | false => exact find_head r
section
variable {X : EX} {Q : D → Wd → Prop} {QA : List D → Wd → Prop} {w0 w : Wd} {n m c b : Nat} {σ : En} {sp : Sp} {N B C : En → Wd → Prop} {T : D → Wd → Prop} {mk : List Int} {time : Int} {wd kn : Str}
end
end Bk

set_option Elab.async false
set_option linter.all false
set_option autoImplicit false
set_option maxRecDepth 100000
set_option maxHeartbeats 4000000
/-! Bk21: notes, entries, readings that apply, as the law tells them; the top. -/
namespace Bk
open PySem L2 PyProof.Rows Si
/-- one step by the form of the code -/
local macro_rules | `(tactic| walk_at "g1_Bk21") => `(tactic| with_reducible first
  | (refine go_idD ?_; first
    | refine go_var rfl ?_ | refine go_c ?_ | refine go_op ?_ | refine go_call ?_ | refine go_eqS ?_ | refine go_eqI ?_ | refine go_tup ?_ | refine go_lst ?_ | refine go_addI ?_ | refine go_isi ?_ | refine go_and ?_ | refine go_lt ?_ | refine go_le ?_ | refine go_gt ?_ | refine go_ge ?_ | refine go_ixT rfl ?_ | refine go_ixL rfl ?_
    | refine go_lc ?_ | refine go_if ?_ | refine go_not ?_ | refine go_or ?_ | refine go_chain ?_ | refine go_callK ?_ | refine go_lstM ?_ | refine go_neg ?_ | refine go_sl ?_ | refine go_isi2 ?_ | refine go_join ?_ | refine go_app ?_ | refine go_lenSet ?_ | refine go_lcM ?_
    | refine go_subI ?_ | refine go_neI ?_ | refine go_neS ?_ | refine go_lenL ?_ | refine go_lenT ?_ | refine go_lenS (by assumption) ?_
    | refine go_slL ?_ | refine go_slT ?_ | refine go_slS (by assumption) ?_ | refine go_intI ?_ | refine go_lstL ?_ | refine go_lstT ?_ | refine go_tupL ?_ | refine go_tupT ?_ | refine go_isN ?_ | refine go_notN ?_ | refine go_allM ?_ | refine go_max2 ?_ | refine go_min2 ?_)
  | (refine go_idL ?_; first | refine go_cons ?_ | refine go_nil ?_ | refine go_iter ?_ | refine go_rng1 ?_ | refine go_zip ?_ | refine go_enum ?_ | refine go_star ?_ | refine go_rng2 ?_)
  | (refine gd_id ?_; first | refine gd_seq ?_ | refine gd_nm ?_ | refine gd_asg ?_ | refine gd_ret ?_ | refine gd_if ?_ | refine gd_next ?_ | refine gd_expr ?_ | refine gd_par ?_ | refine gd_retN ?_ | refine gd_brk ?_ | refine gd_cnt ?_ | refine gd_for ?_)
  | (refine go_idB ?_; first | refine go_asB ?_ | refine go_tru ?_ | refine go_bAnd ?_ | refine go_bOr ?_ | refine go_bNot ?_ | refine go_bYes ?_)
  | (refine br_id ?_; first | refine br_t ?_ | refine br_f ?_ | refine br_not ?_)
  | (refine go_idO ?_; first | refine go_oNone ?_ | refine go_oSome ?_))
local macro_rules | `(tactic| walk_at "g2_Bk21") => `(tactic| first
  | with_reducible refine ex_bl ?_ | with_reducible refine ex_int ?_ | with_reducible refine ex_str ?_ | with_reducible refine ex_nm ?_
  | with_reducible refine ex_zip ?_ | with_reducible refine ex_enum ?_
  | with_reducible refine ex_seq (by with_unfolding_all exact rfl) ?_
  | with_reducible refine ex_tg (by with_unfolding_all exact rfl) ?_
  | with_reducible refine ex_tru (by with_unfolding_all exact rfl) ?_
  | with_reducible refine ex_ty (by with_unfolding_all exact rfl) ?_
  | with_reducible refine ex_it (by with_unfolding_all exact rfl) ?_
  | ((with_reducible refine br_id ?_); first
    | with_reducible refine br_is (b := Si.isNon _) (by with_unfolding_all rfl) ?_ | with_reducible refine br_isnt (b := Si.isNon _) (by with_unfolding_all rfl) ?_
    | with_reducible refine br_is (b := isB _ _) (by with_unfolding_all decide) ?_ | with_reducible refine br_isnt (b := isB _ _) (by with_unfolding_all decide) ?_
    | with_reducible refine br_is (b := isB _ _ || isB _ _) (by with_unfolding_all decide) ?_ | with_reducible refine br_isnt (b := isB _ _ || isB _ _) (by with_unfolding_all decide) ?_
    | with_reducible refine br_y (by decide +kernel) ?_ | with_reducible refine br_n (by decide +kernel) ?_ | with_reducible refine br_y (by with_unfolding_all rfl) ?_ | with_reducible refine br_n (by simp only [List.length_cons, List.length_nil]; omega) ?_)
  | ((with_reducible refine go_idD ?_); first
    | with_reducible refine go_mulL ⟨by decide, by decide⟩ ?_ | with_reducible refine go_mulR ⟨by decide, by decide⟩ ?_ | with_reducible refine go_mod (by decide) ?_ | with_reducible refine go_div (by decide) (by decide) ?_
    | with_reducible refine go_inTt (by decide +kernel) (by decide +kernel) ?_ | with_reducible refine go_inTf (by decide +kernel) (by decide +kernel) ?_ | with_reducible refine go_niTt (by decide +kernel) (by decide +kernel) ?_ | with_reducible refine go_niTf (by decide +kernel) (by decide +kernel) ?_)
  | (with_reducible refine an_le ?hh ?_; case hh => (first | decide | (simp only [List.length_cons, List.length_nil]; omega)))
  | (with_reducible refine an_rng ?hh ?_; case hh => (first | decide | omega))
  | (with_reducible refine an_rng2 ?hh ?_; case hh => (first | decide | omega))
  | fail)
local macro_rules | `(tactic| walk_at "gg_Bk21") => `(tactic| repeat' (first | walk_at "g1_Bk21" | walk_at "g2_Bk21"))

section
variable {st : List (Str × Str)} {ma : List Str} {fo : Str}
end
section
variable {X : EX} {Q : D → Wd → Prop} {QA : List D → Wd → Prop} {w0 w : Wd} {n m c b : Nat} {σ : En} {sp : Sp} {N B C : En → Wd → Prop} {T : D → Wd → Prop} {mk : List Int} {time : Int} {wd kn : Str}
theorem lc_filterT {α : Type} {own : List Nat} {f : D → En → Wd → Option En} {mt : En → Wd → R Bool} {me : En → Wd → R D} (e : α → D) (p : α → Bool) (g : α → D) (l : List α) (hl : l.length ≤ 16777216)
    (hs : ∀ x, x ∈ l → ∃ σ1, f (e x) (wipeD σ own) w = some σ1 ∧ Go EX0 (mt σ1 w) fun b w1 => b = p x ∧ w1 = w ∧ (p x = true → Go EX0 (me σ1 w) fun y w2 => y = g x ∧ w2 = w))
    (q : QA ((l.filter p).map g) w) : Go X (lcL own f mt me σ (l.map e) [] w) QA := by
  refine go_lcL (fun acc r w' => w' = w ∧ ∃ pre post, l = pre ++ post ∧ r = post.map e ∧ acc = (pre.filter p).map g) ?_ ?_ _ _ _ ⟨rfl, [], l, rfl, rfl, rfl⟩
  · rintro acc d r w' ⟨rfl, pre, post, e1, e2, ha⟩
    cases post with
    | nil => cases e2
    | cons x post =>
      rw [List.map_cons] at e2
      cases e2
      obtain ⟨σ1, h0, h1⟩ := hs x (by rw [e1]; simp)
      refine ⟨σ1, h0, go_weak h1 fun b w1 h => ?_⟩
      obtain ⟨rfl, rfl, h2⟩ := h
      cases hp : p x with
      | true =>
        refine br_t (go_weak (h2 hp) fun y w2 h => ⟨?_, h.2, pre ++ [x], post, by rw [e1]; simp, rfl, ?_⟩)
        · have e2 := congrArg List.length e1
          have e3 := List.length_filter_le p pre
          simp only [List.length_append, List.length_cons] at e2
          rw [ha, List.length_map]
          omega
        · rw [ha, h.1]; simp [hp]
      | false =>
        refine br_f ⟨rfl, pre ++ [x], post, by rw [e1]; simp, rfl, ?_⟩
        rw [ha]; simp [hp]
  · rintro acc w' ⟨rfl, pre, post, e1, e2, ha⟩
    cases post with
    | nil => rw [List.append_nil] at e1; subst e1; rw [ha]; exact q
    | cons => cases e2
end
end Bk

set_option Elab.async false
set_option linter.all false
set_option autoImplicit false
set_option maxRecDepth 100000
set_option maxHeartbeats 4000000
/-! Bk22: entries and readings as the law tells them; the top. -/
namespace Bk
open PySem L2 PyProof.Rows Si
/-- one step by the form of the code -/
local macro_rules | `(tactic| walk_at "g1_Bk22") => `(tactic| with_reducible first
  | (refine go_idD ?_; first
    | refine go_var rfl ?_ | refine go_c ?_ | refine go_op ?_ | refine go_call ?_ | refine go_eqS ?_ | refine go_eqI ?_ | refine go_tup ?_ | refine go_lst ?_ | refine go_addI ?_ | refine go_isi ?_ | refine go_and ?_ | refine go_lt ?_ | refine go_le ?_ | refine go_gt ?_ | refine go_ge ?_ | refine go_ixT rfl ?_ | refine go_ixL rfl ?_
    | refine go_lc ?_ | refine go_if ?_ | refine go_not ?_ | refine go_or ?_ | refine go_chain ?_ | refine go_callK ?_ | refine go_lstM ?_ | refine go_neg ?_ | refine go_sl ?_ | refine go_isi2 ?_ | refine go_join ?_ | refine go_app ?_ | refine go_lenSet ?_ | refine go_lcM ?_
    | refine go_subI ?_ | refine go_neI ?_ | refine go_neS ?_ | refine go_lenL ?_ | refine go_lenT ?_ | refine go_lenS (by assumption) ?_
    | refine go_slL ?_ | refine go_slT ?_ | refine go_slS (by assumption) ?_ | refine go_intI ?_ | refine go_lstL ?_ | refine go_lstT ?_ | refine go_tupL ?_ | refine go_tupT ?_ | refine go_isN ?_ | refine go_notN ?_ | refine go_allM ?_ | refine go_max2 ?_ | refine go_min2 ?_)
  | (refine go_idL ?_; first | refine go_cons ?_ | refine go_nil ?_ | refine go_iter ?_ | refine go_rng1 ?_ | refine go_zip ?_ | refine go_enum ?_ | refine go_star ?_ | refine go_rng2 ?_)
  | (refine gd_id ?_; first | refine gd_seq ?_ | refine gd_nm ?_ | refine gd_asg ?_ | refine gd_ret ?_ | refine gd_if ?_ | refine gd_next ?_ | refine gd_expr ?_ | refine gd_par ?_ | refine gd_retN ?_ | refine gd_brk ?_ | refine gd_cnt ?_ | refine gd_for ?_)
  | (refine go_idB ?_; first | refine go_asB ?_ | refine go_tru ?_ | refine go_bAnd ?_ | refine go_bOr ?_ | refine go_bNot ?_ | refine go_bYes ?_)
  | (refine br_id ?_; first | refine br_t ?_ | refine br_f ?_ | refine br_not ?_)
  | (refine go_idO ?_; first | refine go_oNone ?_ | refine go_oSome ?_))
local macro_rules | `(tactic| walk_at "g2_Bk22") => `(tactic| first
  | with_reducible refine ex_bl ?_ | with_reducible refine ex_int ?_ | with_reducible refine ex_str ?_ | with_reducible refine ex_nm ?_
  | with_reducible refine ex_zip ?_ | with_reducible refine ex_enum ?_
  | with_reducible refine ex_seq (by with_unfolding_all exact rfl) ?_
  | with_reducible refine ex_tg (by with_unfolding_all exact rfl) ?_
  | with_reducible refine ex_tru (by with_unfolding_all exact rfl) ?_
  | with_reducible refine ex_ty (by with_unfolding_all exact rfl) ?_
  | with_reducible refine ex_it (by with_unfolding_all exact rfl) ?_
  | ((with_reducible refine br_id ?_); first
    | with_reducible refine br_is (b := Si.isNon _) (by with_unfolding_all rfl) ?_ | with_reducible refine br_isnt (b := Si.isNon _) (by with_unfolding_all rfl) ?_
    | with_reducible refine br_is (b := isB _ _) (by with_unfolding_all decide) ?_ | with_reducible refine br_isnt (b := isB _ _) (by with_unfolding_all decide) ?_
    | with_reducible refine br_is (b := isB _ _ || isB _ _) (by with_unfolding_all decide) ?_ | with_reducible refine br_isnt (b := isB _ _ || isB _ _) (by with_unfolding_all decide) ?_
    | with_reducible refine br_y (by decide +kernel) ?_ | with_reducible refine br_n (by decide +kernel) ?_ | with_reducible refine br_y (by with_unfolding_all rfl) ?_ | with_reducible refine br_n (by simp only [List.length_cons, List.length_nil]; omega) ?_)
  | ((with_reducible refine go_idD ?_); first
    | with_reducible refine go_mulL ⟨by decide, by decide⟩ ?_ | with_reducible refine go_mulR ⟨by decide, by decide⟩ ?_ | with_reducible refine go_mod (by decide) ?_ | with_reducible refine go_div (by decide) (by decide) ?_
    | with_reducible refine go_inTt (by decide +kernel) (by decide +kernel) ?_ | with_reducible refine go_inTf (by decide +kernel) (by decide +kernel) ?_ | with_reducible refine go_niTt (by decide +kernel) (by decide +kernel) ?_ | with_reducible refine go_niTf (by decide +kernel) (by decide +kernel) ?_)
  | (with_reducible refine an_le ?hh ?_; case hh => (first | decide | (simp only [List.length_cons, List.length_nil]; omega)))
  | (with_reducible refine an_rng ?hh ?_; case hh => (first | decide | omega))
  | (with_reducible refine an_rng2 ?hh ?_; case hh => (first | decide | omega))
  | fail)
local macro_rules | `(tactic| walk_at "gg_Bk22") => `(tactic| repeat' (first | walk_at "g1_Bk22" | walk_at "g2_Bk22"))

section
variable {X : EX} {Q : D → Wd → Prop} {QA : List D → Wd → Prop} {w0 w : Wd} {n m c b : Nat} {σ : En} {sp : Sp} {N B C : En → Wd → Prop} {T : D → Wd → Prop} {mk : List Int} {time : Int} {wd kn : Str}
theorem lc_mapT {α : Type} {own : List Nat} {f : D → En → Wd → Option En} {me : En → Wd → R D} (e : α → D) (g : α → D) (l : List α) (hl : l.length ≤ 16777216)
    (hs : ∀ x, x ∈ l → ∃ σ1, f (e x) (wipeD σ own) w = some σ1 ∧ Go EX0 (me σ1 w) fun y w2 => y = g x ∧ w2 = w) (q : QA (l.map g) w) : Go X (lcL own f bYes me σ (l.map e) [] w) QA :=
  lc_filterT e (fun _ => true) g l hl (fun x hx => let ⟨σ1, h1, h2⟩ := hs x hx; ⟨σ1, h1, rfl, rfl, fun _ => h2⟩) (by rw [List.filter_eq_self.mpr (fun _ _ => rfl)]; exact q)
end
end Bk

set_option Elab.async false
set_option linter.all false
set_option autoImplicit false
set_option maxRecDepth 100000
set_option maxHeartbeats 4000000
/-! Bk23: books by hand. -/
namespace Bk
open PySem L2 PyProof.Rows Si
/-- one step by the form of the code -/
local macro_rules | `(tactic| walk_at "g1_Bk23") => `(tactic| with_reducible first
  | (refine go_idD ?_; first
    | refine go_var rfl ?_ | refine go_c ?_ | refine go_op ?_ | refine go_call ?_ | refine go_eqS ?_ | refine go_eqI ?_ | refine go_tup ?_ | refine go_lst ?_ | refine go_addI ?_ | refine go_isi ?_ | refine go_and ?_ | refine go_lt ?_ | refine go_le ?_ | refine go_gt ?_ | refine go_ge ?_ | refine go_ixT rfl ?_ | refine go_ixL rfl ?_
    | refine go_lc ?_ | refine go_if ?_ | refine go_not ?_ | refine go_or ?_ | refine go_chain ?_ | refine go_callK ?_ | refine go_lstM ?_ | refine go_neg ?_ | refine go_sl ?_ | refine go_isi2 ?_ | refine go_join ?_ | refine go_app ?_ | refine go_lenSet ?_ | refine go_lcM ?_
    | refine go_subI ?_ | refine go_neI ?_ | refine go_neS ?_ | refine go_lenL ?_ | refine go_lenT ?_ | refine go_lenS (by assumption) ?_
    | refine go_slL ?_ | refine go_slT ?_ | refine go_slS (by assumption) ?_ | refine go_intI ?_ | refine go_lstL ?_ | refine go_lstT ?_ | refine go_tupL ?_ | refine go_tupT ?_ | refine go_isN ?_ | refine go_notN ?_ | refine go_allM ?_ | refine go_max2 ?_ | refine go_min2 ?_)
  | (refine go_idL ?_; first | refine go_cons ?_ | refine go_nil ?_ | refine go_iter ?_ | refine go_rng1 ?_ | refine go_zip ?_ | refine go_enum ?_ | refine go_star ?_ | refine go_rng2 ?_)
  | (refine gd_id ?_; first | refine gd_seq ?_ | refine gd_nm ?_ | refine gd_asg ?_ | refine gd_ret ?_ | refine gd_if ?_ | refine gd_next ?_ | refine gd_expr ?_ | refine gd_par ?_ | refine gd_retN ?_ | refine gd_brk ?_ | refine gd_cnt ?_ | refine gd_for ?_)
  | (refine go_idB ?_; first | refine go_asB ?_ | refine go_tru ?_ | refine go_bAnd ?_ | refine go_bOr ?_ | refine go_bNot ?_ | refine go_bYes ?_)
  | (refine br_id ?_; first | refine br_t ?_ | refine br_f ?_ | refine br_not ?_)
  | (refine go_idO ?_; first | refine go_oNone ?_ | refine go_oSome ?_))
local macro_rules | `(tactic| walk_at "g2_Bk23") => `(tactic| first
  | with_reducible refine ex_bl ?_ | with_reducible refine ex_int ?_ | with_reducible refine ex_str ?_ | with_reducible refine ex_nm ?_
  | with_reducible refine ex_zip ?_ | with_reducible refine ex_enum ?_
  | with_reducible refine ex_seq (by with_unfolding_all exact rfl) ?_
  | with_reducible refine ex_tg (by with_unfolding_all exact rfl) ?_
  | with_reducible refine ex_tru (by with_unfolding_all exact rfl) ?_
  | with_reducible refine ex_ty (by with_unfolding_all exact rfl) ?_
  | with_reducible refine ex_it (by with_unfolding_all exact rfl) ?_
  | ((with_reducible refine br_id ?_); first
    | with_reducible refine br_is (b := Si.isNon _) (by with_unfolding_all rfl) ?_ | with_reducible refine br_isnt (b := Si.isNon _) (by with_unfolding_all rfl) ?_
    | with_reducible refine br_is (b := isB _ _) (by with_unfolding_all decide) ?_ | with_reducible refine br_isnt (b := isB _ _) (by with_unfolding_all decide) ?_
    | with_reducible refine br_is (b := isB _ _ || isB _ _) (by with_unfolding_all decide) ?_ | with_reducible refine br_isnt (b := isB _ _ || isB _ _) (by with_unfolding_all decide) ?_
    | with_reducible refine br_y (by decide +kernel) ?_ | with_reducible refine br_n (by decide +kernel) ?_ | with_reducible refine br_y (by with_unfolding_all rfl) ?_ | with_reducible refine br_n (by simp only [List.length_cons, List.length_nil]; omega) ?_)
  | ((with_reducible refine go_idD ?_); first
    | with_reducible refine go_mulL ⟨by decide, by decide⟩ ?_ | with_reducible refine go_mulR ⟨by decide, by decide⟩ ?_ | with_reducible refine go_mod (by decide) ?_ | with_reducible refine go_div (by decide) (by decide) ?_
    | with_reducible refine go_inTt (by decide +kernel) (by decide +kernel) ?_ | with_reducible refine go_inTf (by decide +kernel) (by decide +kernel) ?_ | with_reducible refine go_niTt (by decide +kernel) (by decide +kernel) ?_ | with_reducible refine go_niTf (by decide +kernel) (by decide +kernel) ?_)
  | (with_reducible refine an_le ?hh ?_; case hh => (first | decide | (simp only [List.length_cons, List.length_nil]; omega)))
  | (with_reducible refine an_rng ?hh ?_; case hh => (first | decide | omega))
  | (with_reducible refine an_rng2 ?hh ?_; case hh => (first | decide | omega))
  | fail)
local macro_rules | `(tactic| walk_at "gg_Bk23") => `(tactic| repeat' (first | walk_at "g1_Bk23" | walk_at "g2_Bk23"))

theorem go_env {α : Type} {X : EX} {m : En → Wd → R α} {σ σ' : En} {w : Wd} {Q : α → Wd → Prop} (e : σ = σ') (h : Go X (m σ' w) Q) : Go X (m σ w) Q := by subst e; exact h
theorem gd_env {X : EX} {m : En → Wd → SR} {σ σ' : En} {w : Wd} {N B C : En → Wd → Prop} {T : D → Wd → Prop} (e : σ = σ') (h : Gd X N T B C (m σ' w)) : Gd X N T B C (m σ w) := by subst e; exact h
/-! a book by hand -/
def both (way : Int) (raw hour : Str) : Prs := if way = 1 then [(raw, 1), (hour, 1)] else [(raw, 1)]
structure Hand (sp : Sp) : Prop where
  st : ∃ raw hour : Str, sp.st = [(raw, ("fine" : Str)), (hour, ("coarse" : Str))]
  en : ∃ x r, sp.en = x :: r
end Bk

set_option Elab.async false
set_option linter.all false
set_option autoImplicit false
set_option maxRecDepth 100000
set_option maxHeartbeats 4000000
/-! Bk24: books by hand, drawn. -/
namespace Bk
open PySem L2 PyProof.Rows Si
/-- the slots written out -/
local macro_rules | `(tactic| walk_at "nm_Bk24") => `(tactic| (simp only [startD, wipeD, List.foldl_cons, List.foldl_nil, List.set_cons_succ, List.set_cons_zero, List.map_cons, List.map_nil, List.length_cons, List.length_nil, Nat.reduceAdd, Nat.reduceSub, List.replicate_succ, List.replicate_zero, List.cons_append, List.nil_append]; rfl))
/-- one step by the form of the code -/
local macro_rules | `(tactic| walk_at "g1_Bk24") => `(tactic| with_reducible first
  | (refine go_idD ?_; first
    | refine go_env (σ := List.set _ _ _) (by walk_at "nm_Bk24") ?_ | refine go_var rfl ?_ | refine go_c ?_ | refine go_op ?_ | refine go_call ?_ | refine go_eqS ?_ | refine go_eqI ?_ | refine go_tup ?_ | refine go_lst ?_ | refine go_addI ?_ | refine go_isi ?_ | refine go_and ?_ | refine go_lt ?_ | refine go_le ?_ | refine go_gt ?_ | refine go_ge ?_ | refine go_ixT rfl ?_ | refine go_ixL rfl ?_
    | refine go_lc ?_ | refine go_if ?_ | refine go_not ?_ | refine go_or ?_ | refine go_chain ?_ | refine go_callK ?_ | refine go_lstM ?_ | refine go_neg ?_ | refine go_sl ?_ | refine go_isi2 ?_ | refine go_join ?_ | refine go_app ?_ | refine go_lenSet ?_ | refine go_lcM ?_
    | refine go_subI ?_ | refine go_neI ?_ | refine go_neS ?_ | refine go_lenL ?_ | refine go_lenT ?_ | refine go_lenS (by assumption) ?_
    | refine go_slL ?_ | refine go_slT ?_ | refine go_slS (by assumption) ?_ | refine go_intI ?_ | refine go_lstL ?_ | refine go_lstT ?_ | refine go_tupL ?_ | refine go_tupT ?_ | refine go_isN ?_ | refine go_notN ?_ | refine go_allM ?_ | refine go_max2 ?_ | refine go_min2 ?_)
  | (refine go_idL ?_; first | refine go_cons ?_ | refine go_nil ?_ | refine go_iter ?_ | refine go_rng1 ?_ | refine go_zip ?_ | refine go_enum ?_ | refine go_star ?_ | refine go_rng2 ?_)
  | (refine gd_id ?_; first | refine gd_env (σ := List.set _ _ _) (by walk_at "nm_Bk24") ?_ | refine gd_env (σ := startD _ _) (by walk_at "nm_Bk24") ?_ | refine gd_seq ?_ | refine gd_nm ?_ | refine gd_asg ?_ | refine gd_ret ?_ | refine gd_if ?_ | refine gd_next ?_ | refine gd_expr ?_ | refine gd_par ?_ | refine gd_retN ?_ | refine gd_brk ?_ | refine gd_cnt ?_ | refine gd_for ?_)
  | (refine go_idB ?_; first | refine go_asB ?_ | refine go_tru ?_ | refine go_bAnd ?_ | refine go_bOr ?_ | refine go_bNot ?_ | refine go_bYes ?_)
  | (refine br_id ?_; first | refine br_t ?_ | refine br_f ?_ | refine br_not ?_)
  | (refine go_idO ?_; first | refine go_oNone ?_ | refine go_oSome ?_))
local macro_rules | `(tactic| walk_at "g2_Bk24") => `(tactic| first
  | with_reducible refine ex_bl ?_ | with_reducible refine ex_int ?_ | with_reducible refine ex_str ?_ | with_reducible refine ex_nm ?_
  | with_reducible refine ex_zip ?_ | with_reducible refine ex_enum ?_
  | with_reducible refine ex_seq (by with_unfolding_all exact rfl) ?_
  | with_reducible refine ex_tg (by with_unfolding_all exact rfl) ?_
  | with_reducible refine ex_tru (by with_unfolding_all exact rfl) ?_
  | with_reducible refine ex_ty (by with_unfolding_all exact rfl) ?_
  | with_reducible refine ex_it (by with_unfolding_all exact rfl) ?_
  | ((with_reducible refine br_id ?_); first
    | with_reducible refine br_is (b := Si.isNon _) (by with_unfolding_all rfl) ?_ | with_reducible refine br_isnt (b := Si.isNon _) (by with_unfolding_all rfl) ?_
    | with_reducible refine br_is (b := isB _ _) (by with_unfolding_all decide) ?_ | with_reducible refine br_isnt (b := isB _ _) (by with_unfolding_all decide) ?_
    | with_reducible refine br_is (b := isB _ _ || isB _ _) (by with_unfolding_all decide) ?_ | with_reducible refine br_isnt (b := isB _ _ || isB _ _) (by with_unfolding_all decide) ?_
    | with_reducible refine br_y (by decide +kernel) ?_ | with_reducible refine br_n (by decide +kernel) ?_ | with_reducible refine br_y (by with_unfolding_all rfl) ?_ | with_reducible refine br_n (by simp only [List.length_cons, List.length_nil]; omega) ?_)
  | ((with_reducible refine go_idD ?_); first
    | with_reducible refine go_mulL ⟨by decide, by decide⟩ ?_ | with_reducible refine go_mulR ⟨by decide, by decide⟩ ?_ | with_reducible refine go_mod (by decide) ?_ | with_reducible refine go_div (by decide) (by decide) ?_
    | with_reducible refine go_inTt (by decide +kernel) (by decide +kernel) ?_ | with_reducible refine go_inTf (by decide +kernel) (by decide +kernel) ?_ | with_reducible refine go_niTt (by decide +kernel) (by decide +kernel) ?_ | with_reducible refine go_niTf (by decide +kernel) (by decide +kernel) ?_)
  | (with_reducible refine an_le ?hh ?_; case hh => (first | decide | (simp only [List.length_cons, List.length_nil]; omega)))
  | (with_reducible refine an_rng ?hh ?_; case hh => (first | decide | omega))
  | (with_reducible refine an_rng2 ?hh ?_; case hh => (first | decide | omega))
  | fail)
local macro_rules | `(tactic| walk_at "gg_Bk24") => `(tactic| repeat' (first | walk_at "g1_Bk24" | walk_at "g2_Bk24"))

section
variable {wd la ba fo st ma no ti : D}
end
section
variable {α : Type} {X : EX} {Q : D → Wd → Prop} {N B C : En → Wd → Prop} {T : D → Wd → Prop} {σ : En} {w w0 W : Wd} {n m : Nat} {c c1 c2 c3 c' : MO}
end
end Bk

set_option Elab.async false
set_option linter.all false
set_option autoImplicit false
set_option maxRecDepth 100000
set_option maxHeartbeats 4000000
/-! Bk25: books by hand, changed. -/
namespace Bk
open PySem L2 PyProof.Rows Si
/-- the slots written out -/
local macro_rules | `(tactic| walk_at "nm_Bk25") => `(tactic| (simp only [startD, wipeD, List.foldl_cons, List.foldl_nil, List.set_cons_succ, List.set_cons_zero, List.map_cons, List.map_nil, List.length_cons, List.length_nil, Nat.reduceAdd, Nat.reduceSub, List.replicate_succ, List.replicate_zero, List.cons_append, List.nil_append]; rfl))
/-- one step by the form of the code -/
local macro_rules | `(tactic| walk_at "g1_Bk25") => `(tactic| with_reducible first
  | (refine go_idD ?_; first
    | refine go_env (σ := List.set _ _ _) (by walk_at "nm_Bk25") ?_ | refine go_var rfl ?_ | refine go_c ?_ | refine go_op ?_ | refine go_call ?_ | refine go_eqS ?_ | refine go_eqI ?_ | refine go_tup ?_ | refine go_lst ?_ | refine go_addI ?_ | refine go_isi ?_ | refine go_and ?_ | refine go_lt ?_ | refine go_le ?_ | refine go_gt ?_ | refine go_ge ?_ | refine go_ixT rfl ?_ | refine go_ixL rfl ?_
    | refine go_lc ?_ | refine go_if ?_ | refine go_not ?_ | refine go_or ?_ | refine go_chain ?_ | refine go_callK ?_ | refine go_lstM ?_ | refine go_neg ?_ | refine go_sl ?_ | refine go_isi2 ?_ | refine go_join ?_ | refine go_app ?_ | refine go_lenSet ?_ | refine go_lcM ?_
    | refine go_subI ?_ | refine go_neI ?_ | refine go_neS ?_ | refine go_lenL ?_ | refine go_lenT ?_ | refine go_lenS (by assumption) ?_
    | refine go_slL ?_ | refine go_slT ?_ | refine go_slS (by assumption) ?_ | refine go_intI ?_ | refine go_lstL ?_ | refine go_lstT ?_ | refine go_tupL ?_ | refine go_tupT ?_ | refine go_isN ?_ | refine go_notN ?_ | refine go_allM ?_ | refine go_max2 ?_ | refine go_min2 ?_)
  | (refine go_idL ?_; first | refine go_cons ?_ | refine go_nil ?_ | refine go_iter ?_ | refine go_rng1 ?_ | refine go_zip ?_ | refine go_enum ?_ | refine go_star ?_ | refine go_rng2 ?_)
  | (refine gd_id ?_; first | refine gd_env (σ := List.set _ _ _) (by walk_at "nm_Bk25") ?_ | refine gd_env (σ := startD _ _) (by walk_at "nm_Bk25") ?_ | refine gd_seq ?_ | refine gd_nm ?_ | refine gd_asg ?_ | refine gd_ret ?_ | refine gd_if ?_ | refine gd_next ?_ | refine gd_expr ?_ | refine gd_par ?_ | refine gd_retN ?_ | refine gd_brk ?_ | refine gd_cnt ?_ | refine gd_for ?_)
  | (refine go_idB ?_; first | refine go_asB ?_ | refine go_tru ?_ | refine go_bAnd ?_ | refine go_bOr ?_ | refine go_bNot ?_ | refine go_bYes ?_)
  | (refine br_id ?_; first | refine br_t ?_ | refine br_f ?_ | refine br_not ?_)
  | (refine go_idO ?_; first | refine go_oNone ?_ | refine go_oSome ?_))
local macro_rules | `(tactic| walk_at "g2_Bk25") => `(tactic| first
  | with_reducible refine ex_bl ?_ | with_reducible refine ex_int ?_ | with_reducible refine ex_str ?_ | with_reducible refine ex_nm ?_
  | with_reducible refine ex_zip ?_ | with_reducible refine ex_enum ?_
  | with_reducible refine ex_seq (by with_unfolding_all exact rfl) ?_
  | with_reducible refine ex_tg (by with_unfolding_all exact rfl) ?_
  | with_reducible refine ex_tru (by with_unfolding_all exact rfl) ?_
  | with_reducible refine ex_ty (by with_unfolding_all exact rfl) ?_
  | with_reducible refine ex_it (by with_unfolding_all exact rfl) ?_
  | ((with_reducible refine br_id ?_); first
    | with_reducible refine br_is (b := Si.isNon _) (by with_unfolding_all rfl) ?_ | with_reducible refine br_isnt (b := Si.isNon _) (by with_unfolding_all rfl) ?_
    | with_reducible refine br_is (b := isB _ _) (by with_unfolding_all decide) ?_ | with_reducible refine br_isnt (b := isB _ _) (by with_unfolding_all decide) ?_
    | with_reducible refine br_is (b := isB _ _ || isB _ _) (by with_unfolding_all decide) ?_ | with_reducible refine br_isnt (b := isB _ _ || isB _ _) (by with_unfolding_all decide) ?_
    | with_reducible refine br_y (by decide +kernel) ?_ | with_reducible refine br_n (by decide +kernel) ?_ | with_reducible refine br_y (by with_unfolding_all rfl) ?_ | with_reducible refine br_n (by simp only [List.length_cons, List.length_nil]; omega) ?_)
  | ((with_reducible refine go_idD ?_); first
    | with_reducible refine go_mulL ⟨by decide, by decide⟩ ?_ | with_reducible refine go_mulR ⟨by decide, by decide⟩ ?_ | with_reducible refine go_mod (by decide) ?_ | with_reducible refine go_div (by decide) (by decide) ?_
    | with_reducible refine go_inTt (by decide +kernel) (by decide +kernel) ?_ | with_reducible refine go_inTf (by decide +kernel) (by decide +kernel) ?_ | with_reducible refine go_niTt (by decide +kernel) (by decide +kernel) ?_ | with_reducible refine go_niTf (by decide +kernel) (by decide +kernel) ?_)
  | (with_reducible refine an_le ?hh ?_; case hh => (first | decide | (simp only [List.length_cons, List.length_nil]; omega)))
  | (with_reducible refine an_rng ?hh ?_; case hh => (first | decide | omega))
  | (with_reducible refine an_rng2 ?hh ?_; case hh => (first | decide | omega))
  | fail)
local macro_rules | `(tactic| walk_at "gg_Bk25") => `(tactic| repeat' (first | walk_at "g1_Bk25" | walk_at "g2_Bk25"))

section
variable {st : List (Str × Str)} {ma : List Str} {fo : Str}
end
section
variable {sp : Sp}
end
end Bk

set_option Elab.async false
set_option linter.all false
set_option autoImplicit false
set_option maxRecDepth 100000
set_option maxHeartbeats 4000000
/-! Bk26: books by hand, changed: the walk. -/
namespace Bk
open PySem L2 PyProof.Rows Si
/-- the slots written out -/
local macro_rules | `(tactic| walk_at "nm_Bk26") => `(tactic| (simp only [startD, wipeD, List.foldl_cons, List.foldl_nil, List.set_cons_succ, List.set_cons_zero, List.map_cons, List.map_nil, List.length_cons, List.length_nil, Nat.reduceAdd, Nat.reduceSub, List.replicate_succ, List.replicate_zero, List.cons_append, List.nil_append]; rfl))
/-- one step by the form of the code -/
local macro_rules | `(tactic| walk_at "g1_Bk26") => `(tactic| with_reducible first
  | (refine go_idD ?_; first
    | refine go_env (σ := List.set _ _ _) (by walk_at "nm_Bk26") ?_ | refine go_var rfl ?_ | refine go_c ?_ | refine go_op ?_ | refine go_call ?_ | refine go_eqS ?_ | refine go_eqI ?_ | refine go_tup ?_ | refine go_lst ?_ | refine go_addI ?_ | refine go_isi ?_ | refine go_and ?_ | refine go_lt ?_ | refine go_le ?_ | refine go_gt ?_ | refine go_ge ?_ | refine go_ixT rfl ?_ | refine go_ixL rfl ?_
    | refine go_lc ?_ | refine go_if ?_ | refine go_not ?_ | refine go_or ?_ | refine go_chain ?_ | refine go_callK ?_ | refine go_lstM ?_ | refine go_neg ?_ | refine go_sl ?_ | refine go_isi2 ?_ | refine go_join ?_ | refine go_app ?_ | refine go_lenSet ?_ | refine go_lcM ?_
    | refine go_subI ?_ | refine go_neI ?_ | refine go_neS ?_ | refine go_lenL ?_ | refine go_lenT ?_ | refine go_lenS (by assumption) ?_
    | refine go_slL ?_ | refine go_slT ?_ | refine go_slS (by assumption) ?_ | refine go_intI ?_ | refine go_lstL ?_ | refine go_lstT ?_ | refine go_tupL ?_ | refine go_tupT ?_ | refine go_isN ?_ | refine go_notN ?_ | refine go_allM ?_ | refine go_max2 ?_ | refine go_min2 ?_)
  | (refine go_idL ?_; first | refine go_cons ?_ | refine go_nil ?_ | refine go_iter ?_ | refine go_rng1 ?_ | refine go_zip ?_ | refine go_enum ?_ | refine go_star ?_ | refine go_rng2 ?_)
  | (refine gd_id ?_; first | refine gd_env (σ := List.set _ _ _) (by walk_at "nm_Bk26") ?_ | refine gd_env (σ := startD _ _) (by walk_at "nm_Bk26") ?_ | refine gd_seq ?_ | refine gd_nm ?_ | refine gd_asg ?_ | refine gd_ret ?_ | refine gd_if ?_ | refine gd_next ?_ | refine gd_expr ?_ | refine gd_par ?_ | refine gd_retN ?_ | refine gd_brk ?_ | refine gd_cnt ?_ | refine gd_for ?_)
  | (refine go_idB ?_; first | refine go_asB ?_ | refine go_tru ?_ | refine go_bAnd ?_ | refine go_bOr ?_ | refine go_bNot ?_ | refine go_bYes ?_)
  | (refine br_id ?_; first | refine br_t ?_ | refine br_f ?_ | refine br_not ?_)
  | (refine go_idO ?_; first | refine go_oNone ?_ | refine go_oSome ?_))
local macro_rules | `(tactic| walk_at "g2_Bk26") => `(tactic| first
  | with_reducible refine ex_bl ?_ | with_reducible refine ex_int ?_ | with_reducible refine ex_str ?_ | with_reducible refine ex_nm ?_
  | with_reducible refine ex_zip ?_ | with_reducible refine ex_enum ?_
  | with_reducible refine ex_seq (by with_unfolding_all exact rfl) ?_
  | with_reducible refine ex_tg (by with_unfolding_all exact rfl) ?_
  | with_reducible refine ex_tru (by with_unfolding_all exact rfl) ?_
  | with_reducible refine ex_ty (by with_unfolding_all exact rfl) ?_
  | with_reducible refine ex_it (by with_unfolding_all exact rfl) ?_
  | ((with_reducible refine br_id ?_); first
    | with_reducible refine br_is (b := Si.isNon _) (by with_unfolding_all rfl) ?_ | with_reducible refine br_isnt (b := Si.isNon _) (by with_unfolding_all rfl) ?_
    | with_reducible refine br_is (b := isB _ _) (by with_unfolding_all decide) ?_ | with_reducible refine br_isnt (b := isB _ _) (by with_unfolding_all decide) ?_
    | with_reducible refine br_is (b := isB _ _ || isB _ _) (by with_unfolding_all decide) ?_ | with_reducible refine br_isnt (b := isB _ _ || isB _ _) (by with_unfolding_all decide) ?_
    | with_reducible refine br_y (by decide +kernel) ?_ | with_reducible refine br_n (by decide +kernel) ?_ | with_reducible refine br_y (by with_unfolding_all rfl) ?_ | with_reducible refine br_n (by simp only [List.length_cons, List.length_nil]; omega) ?_)
  | ((with_reducible refine go_idD ?_); first
    | with_reducible refine go_mulL ⟨by decide, by decide⟩ ?_ | with_reducible refine go_mulR ⟨by decide, by decide⟩ ?_ | with_reducible refine go_mod (by decide) ?_ | with_reducible refine go_div (by decide) (by decide) ?_
    | with_reducible refine go_inTt (by decide +kernel) (by decide +kernel) ?_ | with_reducible refine go_inTf (by decide +kernel) (by decide +kernel) ?_ | with_reducible refine go_niTt (by decide +kernel) (by decide +kernel) ?_ | with_reducible refine go_niTf (by decide +kernel) (by decide +kernel) ?_)
  | (with_reducible refine an_le ?hh ?_; case hh => (first | decide | (simp only [List.length_cons, List.length_nil]; omega)))
  | (with_reducible refine an_rng ?hh ?_; case hh => (first | decide | omega))
  | (with_reducible refine an_rng2 ?hh ?_; case hh => (first | decide | omega))
  | fail)
local macro_rules | `(tactic| walk_at "gg_Bk26") => `(tactic| repeat' (first | walk_at "g1_Bk26" | walk_at "g2_Bk26"))

section
variable {X : EX} {Q : D → Wd → Prop} {w w0 : Wd} {n m : Nat} {sp : Sp}
theorem go_ixC {a : Nat} {ds : List D} {i : Int} {d : D} (h : w[a]? = some (.lst ds)) (e : L2.atI ds i = some d) (q : Q d w) : Go X (gIx (.obj a) (.int i) w) Q := by
  refine go_ok (a := d) (w' := w) ?_ q
  simp only [gIx, der_of h, e]
end
end Bk

set_option Elab.async false
set_option linter.all false
set_option autoImplicit false
set_option maxRecDepth 100000
set_option maxHeartbeats 4000000
/-! Bk27: books, by hand or drawn. -/
namespace Bk
open PySem L2 PyProof.Rows Si
/-- the slots written out -/
local macro_rules | `(tactic| walk_at "nm_Bk27") => `(tactic| (simp only [startD, wipeD, List.foldl_cons, List.foldl_nil, List.set_cons_succ, List.set_cons_zero, List.map_cons, List.map_nil, List.length_cons, List.length_nil, Nat.reduceAdd, Nat.reduceSub, List.replicate_succ, List.replicate_zero, List.cons_append, List.nil_append]; rfl))
/-- one step by the form of the code -/
local macro_rules | `(tactic| walk_at "g1_Bk27") => `(tactic| with_reducible first
  | (refine go_idD ?_; first
    | refine go_env (σ := List.set _ _ _) (by walk_at "nm_Bk27") ?_ | refine go_var rfl ?_ | refine go_c ?_ | refine go_op ?_ | refine go_call ?_ | refine go_eqS ?_ | refine go_eqI ?_ | refine go_tup ?_ | refine go_lst ?_ | refine go_addI ?_ | refine go_isi ?_ | refine go_and ?_ | refine go_lt ?_ | refine go_le ?_ | refine go_gt ?_ | refine go_ge ?_ | refine go_ixT rfl ?_ | refine go_ixL rfl ?_
    | refine go_lc ?_ | refine go_if ?_ | refine go_not ?_ | refine go_or ?_ | refine go_chain ?_ | refine go_callK ?_ | refine go_lstM ?_ | refine go_neg ?_ | refine go_sl ?_ | refine go_isi2 ?_ | refine go_join ?_ | refine go_app ?_ | refine go_lenSet ?_ | refine go_lcM ?_
    | refine go_subI ?_ | refine go_neI ?_ | refine go_neS ?_ | refine go_lenL ?_ | refine go_lenT ?_ | refine go_lenS (by assumption) ?_
    | refine go_slL ?_ | refine go_slT ?_ | refine go_slS (by assumption) ?_ | refine go_intI ?_ | refine go_lstL ?_ | refine go_lstT ?_ | refine go_tupL ?_ | refine go_tupT ?_ | refine go_isN ?_ | refine go_notN ?_ | refine go_allM ?_ | refine go_max2 ?_ | refine go_min2 ?_)
  | (refine go_idL ?_; first | refine go_cons ?_ | refine go_nil ?_ | refine go_iter ?_ | refine go_rng1 ?_ | refine go_zip ?_ | refine go_enum ?_ | refine go_star ?_ | refine go_rng2 ?_)
  | (refine gd_id ?_; first | refine gd_env (σ := List.set _ _ _) (by walk_at "nm_Bk27") ?_ | refine gd_env (σ := startD _ _) (by walk_at "nm_Bk27") ?_ | refine gd_seq ?_ | refine gd_nm ?_ | refine gd_asg ?_ | refine gd_ret ?_ | refine gd_if ?_ | refine gd_next ?_ | refine gd_expr ?_ | refine gd_par ?_ | refine gd_retN ?_ | refine gd_brk ?_ | refine gd_cnt ?_ | refine gd_for ?_)
  | (refine go_idB ?_; first | refine go_asB ?_ | refine go_tru ?_ | refine go_bAnd ?_ | refine go_bOr ?_ | refine go_bNot ?_ | refine go_bYes ?_)
  | (refine br_id ?_; first | refine br_t ?_ | refine br_f ?_ | refine br_not ?_)
  | (refine go_idO ?_; first | refine go_oNone ?_ | refine go_oSome ?_))
local macro_rules | `(tactic| walk_at "g2_Bk27") => `(tactic| first
  | with_reducible refine ex_bl ?_ | with_reducible refine ex_int ?_ | with_reducible refine ex_str ?_ | with_reducible refine ex_nm ?_
  | with_reducible refine ex_zip ?_ | with_reducible refine ex_enum ?_
  | with_reducible refine ex_seq (by with_unfolding_all exact rfl) ?_
  | with_reducible refine ex_tg (by with_unfolding_all exact rfl) ?_
  | with_reducible refine ex_tru (by with_unfolding_all exact rfl) ?_
  | with_reducible refine ex_ty (by with_unfolding_all exact rfl) ?_
  | with_reducible refine ex_it (by with_unfolding_all exact rfl) ?_
  | ((with_reducible refine br_id ?_); first
    | with_reducible refine br_is (b := Si.isNon _) (by with_unfolding_all rfl) ?_ | with_reducible refine br_isnt (b := Si.isNon _) (by with_unfolding_all rfl) ?_
    | with_reducible refine br_is (b := isB _ _) (by with_unfolding_all decide) ?_ | with_reducible refine br_isnt (b := isB _ _) (by with_unfolding_all decide) ?_
    | with_reducible refine br_is (b := isB _ _ || isB _ _) (by with_unfolding_all decide) ?_ | with_reducible refine br_isnt (b := isB _ _ || isB _ _) (by with_unfolding_all decide) ?_
    | with_reducible refine br_y (by decide +kernel) ?_ | with_reducible refine br_n (by decide +kernel) ?_ | with_reducible refine br_y (by with_unfolding_all rfl) ?_ | with_reducible refine br_n (by simp only [List.length_cons, List.length_nil]; omega) ?_)
  | ((with_reducible refine go_idD ?_); first
    | with_reducible refine go_mulL ⟨by decide, by decide⟩ ?_ | with_reducible refine go_mulR ⟨by decide, by decide⟩ ?_ | with_reducible refine go_mod (by decide) ?_ | with_reducible refine go_div (by decide) (by decide) ?_
    | with_reducible refine go_inTt (by decide +kernel) (by decide +kernel) ?_ | with_reducible refine go_inTf (by decide +kernel) (by decide +kernel) ?_ | with_reducible refine go_niTt (by decide +kernel) (by decide +kernel) ?_ | with_reducible refine go_niTf (by decide +kernel) (by decide +kernel) ?_)
  | (with_reducible refine an_le ?hh ?_; case hh => (first | decide | (simp only [List.length_cons, List.length_nil]; omega)))
  | (with_reducible refine an_rng ?hh ?_; case hh => (first | decide | omega))
  | (with_reducible refine an_rng2 ?hh ?_; case hh => (first | decide | omega))
  | fail)
local macro_rules | `(tactic| walk_at "gg_Bk27") => `(tactic| repeat' (first | walk_at "g1_Bk27" | walk_at "g2_Bk27"))

section
variable {X : EX} {Q : D → Wd → Prop} {w w0 : Wd} {n : Nat}
end
end Bk

set_option Elab.async false
set_option linter.all false
set_option autoImplicit false
set_option maxRecDepth 100000
set_option maxHeartbeats 4000000
/-! Bk28: nodes, rows and deeds as plain data. -/
namespace Bk
open PySem L2 PyProof.Rows Si
/-- the slots written out -/
local macro_rules | `(tactic| walk_at "nm_Bk28") => `(tactic| (simp only [startD, wipeD, List.foldl_cons, List.foldl_nil, List.set_cons_succ, List.set_cons_zero, List.map_cons, List.map_nil, List.length_cons, List.length_nil, Nat.reduceAdd, Nat.reduceSub, List.replicate_succ, List.replicate_zero, List.cons_append, List.nil_append]; rfl))
/-- one step by the form of the code -/
local macro_rules | `(tactic| walk_at "g1_Bk28") => `(tactic| with_reducible first
  | (refine go_idD ?_; first
    | refine go_env (σ := List.set _ _ _) (by walk_at "nm_Bk28") ?_ | refine go_var rfl ?_ | refine go_c ?_ | refine go_op ?_ | refine go_call ?_ | refine go_eqS ?_ | refine go_eqI ?_ | refine go_tup ?_ | refine go_lst ?_ | refine go_addI ?_ | refine go_isi ?_ | refine go_and ?_ | refine go_lt ?_ | refine go_le ?_ | refine go_gt ?_ | refine go_ge ?_ | refine go_ixT rfl ?_ | refine go_ixL rfl ?_
    | refine go_lc ?_ | refine go_if ?_ | refine go_not ?_ | refine go_or ?_ | refine go_chain ?_ | refine go_callK ?_ | refine go_lstM ?_ | refine go_neg ?_ | refine go_sl ?_ | refine go_isi2 ?_ | refine go_join ?_ | refine go_app ?_ | refine go_lenSet ?_ | refine go_lcM ?_
    | refine go_subI ?_ | refine go_neI ?_ | refine go_neS ?_ | refine go_lenL ?_ | refine go_lenT ?_ | refine go_lenS (by assumption) ?_
    | refine go_slL ?_ | refine go_slT ?_ | refine go_slS (by assumption) ?_ | refine go_intI ?_ | refine go_lstL ?_ | refine go_lstT ?_ | refine go_tupL ?_ | refine go_tupT ?_ | refine go_isN ?_ | refine go_notN ?_ | refine go_allM ?_ | refine go_max2 ?_ | refine go_min2 ?_)
  | (refine go_idL ?_; first | refine go_cons ?_ | refine go_nil ?_ | refine go_iter ?_ | refine go_rng1 ?_ | refine go_zip ?_ | refine go_enum ?_ | refine go_star ?_ | refine go_rng2 ?_)
  | (refine gd_id ?_; first | refine gd_env (σ := List.set _ _ _) (by walk_at "nm_Bk28") ?_ | refine gd_env (σ := startD _ _) (by walk_at "nm_Bk28") ?_ | refine gd_seq ?_ | refine gd_nm ?_ | refine gd_asg ?_ | refine gd_ret ?_ | refine gd_if ?_ | refine gd_next ?_ | refine gd_expr ?_ | refine gd_par ?_ | refine gd_retN ?_ | refine gd_brk ?_ | refine gd_cnt ?_ | refine gd_for ?_)
  | (refine go_idB ?_; first | refine go_asB ?_ | refine go_tru ?_ | refine go_bAnd ?_ | refine go_bOr ?_ | refine go_bNot ?_ | refine go_bYes ?_)
  | (refine br_id ?_; first | refine br_t ?_ | refine br_f ?_ | refine br_not ?_)
  | (refine go_idO ?_; first | refine go_oNone ?_ | refine go_oSome ?_))
local macro_rules | `(tactic| walk_at "g2_Bk28") => `(tactic| first
  | with_reducible refine ex_bl ?_ | with_reducible refine ex_int ?_ | with_reducible refine ex_str ?_ | with_reducible refine ex_nm ?_
  | with_reducible refine ex_zip ?_ | with_reducible refine ex_enum ?_
  | with_reducible refine ex_seq (by with_unfolding_all exact rfl) ?_
  | with_reducible refine ex_tg (by with_unfolding_all exact rfl) ?_
  | with_reducible refine ex_tru (by with_unfolding_all exact rfl) ?_
  | with_reducible refine ex_ty (by with_unfolding_all exact rfl) ?_
  | with_reducible refine ex_it (by with_unfolding_all exact rfl) ?_
  | ((with_reducible refine br_id ?_); first
    | with_reducible refine br_is (b := Si.isNon _) (by with_unfolding_all rfl) ?_ | with_reducible refine br_isnt (b := Si.isNon _) (by with_unfolding_all rfl) ?_
    | with_reducible refine br_is (b := isB _ _) (by with_unfolding_all decide) ?_ | with_reducible refine br_isnt (b := isB _ _) (by with_unfolding_all decide) ?_
    | with_reducible refine br_is (b := isB _ _ || isB _ _) (by with_unfolding_all decide) ?_ | with_reducible refine br_isnt (b := isB _ _ || isB _ _) (by with_unfolding_all decide) ?_
    | with_reducible refine br_y (by decide +kernel) ?_ | with_reducible refine br_n (by decide +kernel) ?_ | with_reducible refine br_y (by with_unfolding_all rfl) ?_ | with_reducible refine br_n (by simp only [List.length_cons, List.length_nil]; omega) ?_)
  | ((with_reducible refine go_idD ?_); first
    | with_reducible refine go_mulL ⟨by decide, by decide⟩ ?_ | with_reducible refine go_mulR ⟨by decide, by decide⟩ ?_ | with_reducible refine go_mod (by decide) ?_ | with_reducible refine go_div (by decide) (by decide) ?_
    | with_reducible refine go_inTt (by decide +kernel) (by decide +kernel) ?_ | with_reducible refine go_inTf (by decide +kernel) (by decide +kernel) ?_ | with_reducible refine go_niTt (by decide +kernel) (by decide +kernel) ?_ | with_reducible refine go_niTf (by decide +kernel) (by decide +kernel) ?_)
  | (with_reducible refine an_le ?hh ?_; case hh => (first | decide | (simp only [List.length_cons, List.length_nil]; omega)))
  | (with_reducible refine an_rng ?hh ?_; case hh => (first | decide | omega))
  | (with_reducible refine an_rng2 ?hh ?_; case hh => (first | decide | omega))
  | fail)
local macro_rules | `(tactic| walk_at "gg_Bk28") => `(tactic| repeat' (first | walk_at "g1_Bk28" | walk_at "g2_Bk28"))

inductive Dd where
  | tick | put | take | oput | otake | step | brk
  | bgn (k : Nat)
structure Nd where
  p : Int
  t : Int
  m : List Int
  s : Int
  k : Int
  b : Int
  pl : Option (Nat × Nat)
structure NdOk (sp : Sp) (x : Nd) : Prop where
  p : 0 ≤ x.p ∧ x.p < sp.wd
  t : 0 ≤ x.t ∧ x.t ≤ sp.top
  ml : x.m.length = sp.ma.length
  mv : ∀ y ∈ x.m, 0 ≤ y ∧ y ≤ 1
  s : 0 ≤ x.s ∧ x.s ≤ 2
  k : 0 ≤ x.k ∧ x.k ≤ 2
  b : -1 ≤ x.b ∧ x.b < sp.wd
  pl : ∀ j i, x.pl = some (j, i) → ∃ y, sp.jo[j]? = some y ∧ i < y.s.length
structure RowOk (sp : Sp) (r : List Int) : Prop where
  l : r.length = sp.st.length
  m : sp.fo = "most" → ∀ y ∈ r, 0 ≤ y ∧ y ≤ 1
def Sp.canBgn (sp : Sp) (x : Jb) (mk : List Int) (t : Int) : Bool := sp.passes mk t x.t && (match x.d with
  | none => true
  | some d => decide (sp.wd + d ≤ t))
def Sp.bgns (sp : Sp) (mk : List Int) (t : Int) : Nat → List Jb → List Dd
  | _, [] => []
  | k, x :: r => (if sp.canBgn x mk t = true then [.bgn k] else []) ++ sp.bgns mk t (k + 1) r
/-- the deeds ahead of those about jobs -/
def Sp.deeds0 (sp : Sp) (x : Nd) : List Dd :=
  [.tick] ++ (if x.p ≤ x.t ∧ x.t ≤ x.p + sp.la then [.put] else []) ++ (if 0 < x.s ∧ x.t ≤ x.p + sp.ba then [.take] else []) ++ (if x.t ≤ sp.wd - 1 + sp.la then [.oput] else []) ++ (if 0 ≤ x.b ∧ x.t ≤ x.b + sp.ba then [.otake] else [])
def Sp.deeds (sp : Sp) (x : Nd) : List Dd := sp.deeds0 x ++ (match x.pl with
  | some _ => [.step, .brk]
  | none => sp.bgns x.m x.t 0 sp.jo)
def Sp.join (sp : Sp) (i j : Int) : Int := if sp.fo = "most" then (if j > i then j else i) else i + j
end Bk

set_option Elab.async false
set_option linter.all false
set_option autoImplicit false
set_option maxRecDepth 100000
set_option maxHeartbeats 4000000
/-! Bk29: the first nodes, the first row; a Book's properties and methods as equations. -/
namespace Bk
open PySem L2 PyProof.Rows Si
/-- the slots written out -/
local macro_rules | `(tactic| walk_at "nm_Bk29") => `(tactic| (simp only [startD, wipeD, List.foldl_cons, List.foldl_nil, List.set_cons_succ, List.set_cons_zero, List.map_cons, List.map_nil, List.length_cons, List.length_nil, Nat.reduceAdd, Nat.reduceSub, List.replicate_succ, List.replicate_zero, List.cons_append, List.nil_append]; rfl))
/-- one step by the form of the code -/
local macro_rules | `(tactic| walk_at "g1_Bk29") => `(tactic| with_reducible first
  | (refine go_idD ?_; first
    | refine go_env (σ := List.set _ _ _) (by walk_at "nm_Bk29") ?_ | refine go_var rfl ?_ | refine go_c ?_ | refine go_op ?_ | refine go_call ?_ | refine go_eqS ?_ | refine go_eqI ?_ | refine go_tup ?_ | refine go_lst ?_ | refine go_addI ?_ | refine go_isi ?_ | refine go_and ?_ | refine go_lt ?_ | refine go_le ?_ | refine go_gt ?_ | refine go_ge ?_ | refine go_ixT rfl ?_ | refine go_ixL rfl ?_
    | refine go_lc ?_ | refine go_if ?_ | refine go_not ?_ | refine go_or ?_ | refine go_chain ?_ | refine go_callK ?_ | refine go_lstM ?_ | refine go_neg ?_ | refine go_sl ?_ | refine go_isi2 ?_ | refine go_join ?_ | refine go_app ?_ | refine go_lenSet ?_ | refine go_lcM ?_
    | refine go_subI ?_ | refine go_neI ?_ | refine go_neS ?_ | refine go_lenL ?_ | refine go_lenT ?_ | refine go_lenS (by assumption) ?_
    | refine go_slL ?_ | refine go_slT ?_ | refine go_slS (by assumption) ?_ | refine go_intI ?_ | refine go_lstL ?_ | refine go_lstT ?_ | refine go_tupL ?_ | refine go_tupT ?_ | refine go_isN ?_ | refine go_notN ?_ | refine go_allM ?_ | refine go_max2 ?_ | refine go_min2 ?_)
  | (refine go_idL ?_; first | refine go_cons ?_ | refine go_nil ?_ | refine go_iter ?_ | refine go_rng1 ?_ | refine go_zip ?_ | refine go_enum ?_ | refine go_star ?_ | refine go_rng2 ?_)
  | (refine gd_id ?_; first | refine gd_env (σ := List.set _ _ _) (by walk_at "nm_Bk29") ?_ | refine gd_env (σ := startD _ _) (by walk_at "nm_Bk29") ?_ | refine gd_seq ?_ | refine gd_nm ?_ | refine gd_asg ?_ | refine gd_ret ?_ | refine gd_if ?_ | refine gd_next ?_ | refine gd_expr ?_ | refine gd_par ?_ | refine gd_retN ?_ | refine gd_brk ?_ | refine gd_cnt ?_ | refine gd_for ?_)
  | (refine go_idB ?_; first | refine go_asB ?_ | refine go_tru ?_ | refine go_bAnd ?_ | refine go_bOr ?_ | refine go_bNot ?_ | refine go_bYes ?_)
  | (refine br_id ?_; first | refine br_t ?_ | refine br_f ?_ | refine br_not ?_)
  | (refine go_idO ?_; first | refine go_oNone ?_ | refine go_oSome ?_))
local macro_rules | `(tactic| walk_at "g2_Bk29") => `(tactic| first
  | with_reducible refine ex_bl ?_ | with_reducible refine ex_int ?_ | with_reducible refine ex_str ?_ | with_reducible refine ex_nm ?_
  | with_reducible refine ex_zip ?_ | with_reducible refine ex_enum ?_
  | with_reducible refine ex_seq (by with_unfolding_all exact rfl) ?_
  | with_reducible refine ex_tg (by with_unfolding_all exact rfl) ?_
  | with_reducible refine ex_tru (by with_unfolding_all exact rfl) ?_
  | with_reducible refine ex_ty (by with_unfolding_all exact rfl) ?_
  | with_reducible refine ex_it (by with_unfolding_all exact rfl) ?_
  | ((with_reducible refine br_id ?_); first
    | with_reducible refine br_is (b := Si.isNon _) (by with_unfolding_all rfl) ?_ | with_reducible refine br_isnt (b := Si.isNon _) (by with_unfolding_all rfl) ?_
    | with_reducible refine br_is (b := isB _ _) (by with_unfolding_all decide) ?_ | with_reducible refine br_isnt (b := isB _ _) (by with_unfolding_all decide) ?_
    | with_reducible refine br_is (b := isB _ _ || isB _ _) (by with_unfolding_all decide) ?_ | with_reducible refine br_isnt (b := isB _ _ || isB _ _) (by with_unfolding_all decide) ?_
    | with_reducible refine br_y (by decide +kernel) ?_ | with_reducible refine br_n (by decide +kernel) ?_ | with_reducible refine br_y (by with_unfolding_all rfl) ?_ | with_reducible refine br_n (by simp only [List.length_cons, List.length_nil]; omega) ?_)
  | ((with_reducible refine go_idD ?_); first
    | with_reducible refine go_mulL ⟨by decide, by decide⟩ ?_ | with_reducible refine go_mulR ⟨by decide, by decide⟩ ?_ | with_reducible refine go_mod (by decide) ?_ | with_reducible refine go_div (by decide) (by decide) ?_
    | with_reducible refine go_inTt (by decide +kernel) (by decide +kernel) ?_ | with_reducible refine go_inTf (by decide +kernel) (by decide +kernel) ?_ | with_reducible refine go_niTt (by decide +kernel) (by decide +kernel) ?_ | with_reducible refine go_niTf (by decide +kernel) (by decide +kernel) ?_)
  | (with_reducible refine an_le ?hh ?_; case hh => (first | decide | (simp only [List.length_cons, List.length_nil]; omega)))
  | (with_reducible refine an_rng ?hh ?_; case hh => (first | decide | omega))
  | (with_reducible refine an_rng2 ?hh ?_; case hh => (first | decide | omega))
  | fail)
local macro_rules | `(tactic| walk_at "gg_Bk29") => `(tactic| repeat' (first | walk_at "g1_Bk29" | walk_at "g2_Bk29"))

theorem rangeD0 (n : Nat) : rangeD 0 n = (List.range n).map fun i : Nat => D.int i := by
  unfold rangeD
  congr 1
  funext i
  rw [Int.zero_add]
section
variable {X : EX} {Q : D → Wd → Prop} {N B C : En → Wd → Prop} {T : D → Wd → Prop} {w w0 : Wd} {n m b : Nat} {sp : Sp} {σ : En}
def Sp.start (sp : Sp) (k : Nat) : Nd := ⟨k, 0, sp.ma.map fun _ => 0, 0, 0, -1, none⟩
/-! a Book's properties and methods -/
theorem gLenO_ok {c : Str} {G : List D → Wd → R D} {u : D} {a : Nat} {fs : List (Str × D)} {i : Int} (h1 : insL u w = some (a, c, fs)) (h2 : G [u] w = .ok (.int i) w) (h3 : 0 ≤ i ∧ i < 2 ^ 62) : gLenO c G [u] w = .ok (.int i) w := by
  unfold gLenO
  simp only [h1, h2, R.bind, if_true]
  rw [if_pos h3]
end
end Bk

set_option Elab.async false
set_option linter.all false
set_option autoImplicit false
set_option maxRecDepth 100000
/-! Bh1: rows, lines and what is left of a row (plain). -/
namespace Bh
theorem g_zip {f : Int → Int → Int} (h0 : f 0 0 = 0) {a b : List Int} (hl : a.length = b.length) (i : Nat) : g (List.zipWith f a b) i = f (g a i) (g b i) := by
  unfold g
  by_cases h : i < a.length
  · have hb : i < b.length := by omega
    simp [List.getD_eq_getElem?_getD, List.getElem?_zipWith, List.getElem?_eq_getElem h, List.getElem?_eq_getElem hb]
  · have hb : ¬ i < b.length := by omega
    simp [List.getD_eq_getElem?_getD, List.getElem?_zipWith, List.getElem?_eq_none (Nat.le_of_not_lt h), List.getElem?_eq_none (Nat.le_of_not_lt hb), h0]
/-- x * m[a] - m * x[a] -/
def cross (x m : List Int) (a : Nat) : List Int := List.zipWith (fun p q => p * g m a - q * g x a) x m
theorem cross_len {x m : List Int} {a : Nat} (hl : x.length = m.length) : (cross x m a).length = x.length := by
  unfold cross
  rw [List.length_zipWith]
  omega
theorem g_cross {x m : List Int} {a : Nat} (hl : x.length = m.length) (i : Nat) : g (cross x m a) i = g x i * g m a - g m i * g x a := g_zip (by simp) hl i
abbrev Line := Nat × List Int
/-- a shortening -/
structure Sh (sh : List Int → List Int) : Prop where
  len : ∀ l, (sh l).length = l.length
  mul : ∀ l, ∃ q : Int, q ≠ 0 ∧ ∀ i, g l i = q * g (sh l) i
theorem sh_id : Sh id := ⟨fun _ => rfl, fun l => ⟨1, by decide, fun i => by simp⟩⟩
def red (sh : List Int → List Int) : List Int → List Line → List Int
  | x, [] => x
  | x, (a, m) :: r => red sh (if g x a ≠ 0 then sh (cross x m a) else x) r
def comb : List Int → List Line → Nat → Int
  | c :: cs, l :: ls, i => c * g l.2 i + comb cs ls i
  | _, _, _ => 0
def Tri : List Line → Prop
  | [] => True
  | l :: r => g l.2 l.1 ≠ 0 ∧ (∀ k ∈ r, g k.2 l.1 = 0) ∧ Tri r
theorem comb_zero_at : ∀ {c : List Int} {L : List Line} {a : Nat}, (∀ k ∈ L, g k.2 a = 0) → comb c L a = 0
  | [], [], _, _ => rfl
  | [], _ :: _, _, _ => rfl
  | _ :: _, [], _, _ => rfl
  | c :: cs, l :: ls, a, h => by
    rw [comb, h l List.mem_cons_self, comb_zero_at fun k hk => h k (List.mem_cons_of_mem _ hk)]
    simp
theorem comb_tri : ∀ {c : List Int} {L : List Line}, Tri L → (∀ k ∈ L, comb c L k.1 = 0) → ∀ i, comb c L i = 0
  | [], [], _, _, _ => rfl
  | [], _ :: _, _, _, _ => rfl
  | _ :: _, [], _, _, _ => rfl
  | c :: cs, l :: ls, ⟨h1, h2, h3⟩, h, i => by
    have e := h l List.mem_cons_self
    rw [comb, comb_zero_at h2, Int.add_zero] at e
    have hc : c = 0 := by
      rcases Int.mul_eq_zero.mp e with e | e
      · exact e
      · exact absurd e h1
    rw [comb, hc, Int.zero_mul, Int.zero_add]
    refine comb_tri h3 (fun k hk => ?_) i
    have := h k (List.mem_cons_of_mem _ hk)
    rwa [comb, hc, Int.zero_mul, Int.zero_add] at this
/-- a * c + b * d, by items -/
def lin (a b : Int) : List Int → List Int → List Int
  | c :: cs, d :: ds => (a * c + b * d) :: lin a b cs ds
  | _, _ => []
theorem lin_len (a b : Int) : ∀ {c d : List Int}, c.length = d.length → (lin a b c d).length = c.length
  | [], [], _ => rfl
  | [], _ :: _, h => by cases h
  | _ :: _, [], h => by cases h
  | c :: cs, d :: ds, h => by
    show (lin a b cs ds).length + 1 = cs.length + 1
    rw [lin_len a b (Nat.succ.inj h)]
theorem comb_lin (a b : Int) : ∀ {c d : List Int} {L : List Line} (i : Nat), c.length = L.length → d.length = L.length → comb (lin a b c d) L i = a * comb c L i + b * comb d L i
  | [], [], [], _, _, _ => by simp [lin, comb]
  | c :: cs, d :: ds, l :: ls, i, h1, h2 => by
    rw [lin, comb, comb, comb, comb_lin a b i (Nat.succ.inj h1) (Nat.succ.inj h2)]
    grind
  | [], _ :: _, [], _, _, h => by cases h
  | _ :: _, _, [], _, h, _ => by cases h
  | [], _, _ :: _, _, h, _ => by cases h
  | _ :: _, [], _ :: _, _, _, h => by cases h
/-- what the reduction is -/
theorem red_spec {sh : List Int → List Int} (hs : Sh sh) : ∀ {L : List Line} {x : List Int}, Tri L → (∀ k ∈ L, k.2.length = x.length) →
    (red sh x L).length = x.length ∧ (∀ k ∈ L, g (red sh x L) k.1 = 0) ∧ (∀ a, (∀ k ∈ L, g k.2 a = 0) → g x a = 0 → g (red sh x L) a = 0) ∧
    ∃ k q : Int, k ≠ 0 ∧ q ≠ 0 ∧ ∃ c : List Int, c.length = L.length ∧ ∀ i, k * g x i = q * g (red sh x L) i + comb c L i
  | [], x, _, _ => ⟨rfl, fun k hk => (by cases hk), fun a _ h => h, 1, 1, by decide, by decide, [], rfl, fun i => by simp [red, comb]⟩
  | (a, m) :: r, x, ⟨h1, h2, h3⟩, hl => by
    have hm : x.length = m.length := (hl _ List.mem_cons_self).symm
    have hr : ∀ k ∈ r, k.2.length = x.length := fun k hk => hl k (List.mem_cons_of_mem _ hk)
    by_cases hx : g x a = 0
    · obtain ⟨e1, e2, e3, k, q, hk, hq, c, hc, e4⟩ := red_spec hs (L := r) (x := x) h3 hr
      have e : red sh x ((a, m) :: r) = red sh x r := by rw [red, if_neg (by simpa using hx)]
      rw [e]
      refine ⟨e1, fun y hy => ?_, fun b hb h0 => e3 b (fun y hy => hb y (List.mem_cons_of_mem _ hy)) h0, k, q, hk, hq, 0 :: c, by simp [hc], fun i => ?_⟩
      · rcases List.mem_cons.mp hy with rfl | hy
        · exact e3 a h2 hx
        · exact e2 y hy
      · rw [comb, Int.zero_mul, Int.zero_add]; exact e4 i
    · obtain ⟨p, hp, ep⟩ := hs.mul (cross x m a)
      have hl2 : (sh (cross x m a)).length = x.length := by rw [hs.len, cross_len hm]
      obtain ⟨e1, e2, e3, k, q, hk, hq, c, hc, e4⟩ := red_spec hs (L := r) (x := sh (cross x m a)) h3 (fun y hy => by rw [hl2]; exact hr y hy)
      have e : red sh x ((a, m) :: r) = red sh (sh (cross x m a)) r := by rw [red, if_pos hx]
      rw [e]
      have hz : ∀ b, g (cross x m a) b = 0 → g (sh (cross x m a)) b = 0 := fun b hb => by
        have := ep b
        rw [hb] at this
        rcases Int.mul_eq_zero.mp this.symm with h | h
        · exact absurd h hp
        · exact h
      refine ⟨by rw [e1, hl2], fun y hy => ?_, fun b hb h0 => e3 b (fun y hy => hb y (List.mem_cons_of_mem _ hy)) (hz b ?_), k * g m a, p * q, ?_, ?_, (k * g x a) :: (lin p 0 c c), ?_, fun i => ?_⟩
      · rcases List.mem_cons.mp hy with rfl | hy
        · refine e3 a h2 (hz a ?_)
          rw [g_cross hm]
          grind
        · exact e2 y hy
      · rw [g_cross hm, h0, hb (a, m) List.mem_cons_self]
        simp
      · exact Int.mul_ne_zero hk h1
      · exact Int.mul_ne_zero hp hq
      · rw [List.length_cons, lin_len _ _ rfl, hc, List.length_cons]
      · rw [comb, comb_lin p 0 i hc hc]
        have h5 := e4 i
        have h6 := ep i
        rw [g_cross hm] at h6
        show k * g m a * g x i = p * q * g (red sh (sh (cross x m a)) r) i + (k * g x a * g m i + (p * comb c r i + 0 * comb c r i))
        grind
/-- some multiple is a whole combination of the lines -/
def InQ (L : List Line) (x : List Int) : Prop := ∃ k : Int, k ≠ 0 ∧ ∃ c : List Int, c.length = L.length ∧ ∀ i, k * g x i = comb c L i
theorem red_zero {sh : List Int → List Int} (hs : Sh sh) {L : List Line} {x : List Int} (ht : Tri L) (hl : ∀ k ∈ L, k.2.length = x.length) : (∀ i, g (red sh x L) i = 0) ↔ InQ L x := by
  obtain ⟨e1, e2, _, k, q, hk, hq, c, hc, e4⟩ := red_spec hs ht hl
  constructor
  · intro h
    exact ⟨k, hk, c, hc, fun i => by rw [e4 i, h i]; simp⟩
  · rintro ⟨k2, hk2, c2, hc2, e5⟩ i
    have hz : ∀ i, k2 * q * g (red sh x L) i = comb (lin k (-k2) c2 c) L i := fun i => by
      rw [comb_lin k (-k2) i hc2 hc]
      have := e4 i
      have := e5 i
      grind
    have h0 := comb_tri (c := lin k (-k2) c2 c) ht fun y hy => by rw [← hz, e2 y hy]; simp
    have := hz i
    rw [h0 i] at this
    rcases Int.mul_eq_zero.mp this with h | h
    · exact absurd h (Int.mul_ne_zero hk2 hq)
    · exact h
end Bh

set_option Elab.async false
set_option linter.all false
set_option autoImplicit false
set_option maxRecDepth 100000
/-! Bh2: hulls: rows kept, lines, what is covered (plain). -/
namespace Bh
/-- some multiple of x is a whole combination of the lines -/
def InF (L : List Line) (x : Nat → Int) : Prop := ∃ k : Int, k ≠ 0 ∧ ∃ c : List Int, c.length = L.length ∧ ∀ i, k * x i = comb c L i
section
variable {L M : List Line} {x y : Nat → Int}
theorem inQ_iff {l : List Int} : InQ L l ↔ InF L (g l) := Iff.rfl
theorem comb_zeros : ∀ {L : List Line} (i : Nat), comb (List.replicate L.length 0) L i = 0
  | [], _ => rfl
  | l :: ls, i => by
    rw [List.length_cons, List.replicate_succ, comb, comb_zeros i]
    simp
theorem InF.zero : InF L fun _ => 0 := ⟨1, by decide, List.replicate L.length 0, by simp, fun i => by rw [comb_zeros]; simp⟩
theorem InF.congr (h : InF L x) (e : ∀ i, x i = y i) : InF L y := by
  have : x = y := funext e
  rw [← this]
  exact h
theorem InF.lin (hx : InF L x) (hy : InF L y) (a b : Int) : InF L fun i => a * x i + b * y i := by
  obtain ⟨k1, h1, c1, l1, e1⟩ := hx
  obtain ⟨k2, h2, c2, l2, e2⟩ := hy
  refine ⟨k1 * k2, Int.mul_ne_zero h1 h2, Bh.lin (a * k2) (b * k1) c1 c2, by rw [lin_len _ _ (l1.trans l2.symm), l1], fun i => ?_⟩
  rw [comb_lin _ _ i l1 l2]
  have := e1 i
  have := e2 i
  grind
theorem InF.add (hx : InF L x) (hy : InF L y) : InF L fun i => x i + y i := (hx.lin hy 1 1).congr fun i => by simp
theorem InF.mul (hx : InF L x) (a : Int) : InF L fun i => a * x i := (hx.lin hx a 0).congr fun i => by simp
theorem InF.div {q : Int} (hq : q ≠ 0) (h : InF L fun i => q * x i) : InF L x := by
  obtain ⟨k, hk, c, l, e⟩ := h
  exact ⟨k * q, Int.mul_ne_zero hk hq, c, l, fun i => by rw [Int.mul_assoc]; exact e i⟩
theorem comb_app : ∀ {c : List Int} {L : List Line} {d : Int} {l : Line} (i : Nat), c.length = L.length → comb (c ++ [d]) (L ++ [l]) i = comb c L i + d * g l.2 i
  | [], [], d, l, i, _ => by simp [comb]
  | c :: cs, m :: ls, d, l, i, h => by
    rw [List.cons_append, List.cons_append, comb, comb, comb_app i (Nat.succ.inj h), Int.add_assoc]
  | [], _ :: _, _, _, _, h => by cases h
  | _ :: _, [], _, _, _, h => by cases h
theorem InF.app {l : Line} (h : InF L x) : InF (L ++ [l]) x := by
  obtain ⟨k, hk, c, hl, e⟩ := h
  exact ⟨k, hk, c ++ [0], by simp [hl], fun i => by rw [comb_app i hl, e i]; simp⟩
theorem InF.last {l : Line} : InF (L ++ [l]) (g l.2) := ⟨1, by decide, List.replicate L.length 0 ++ [1], by simp, fun i => by rw [comb_app i (by simp), comb_zeros]; simp⟩
theorem inF_comb : ∀ {c : List Int} {L : List Line}, (∀ l ∈ L, InF M (g l.2)) → InF M (comb c L)
  | [], [], _ => InF.zero
  | [], _ :: _, _ => InF.zero
  | _ :: _, [], _ => InF.zero
  | c :: cs, l :: ls, h => (((h l List.mem_cons_self).mul c).add (inF_comb (c := cs) fun k hk => h k (List.mem_cons_of_mem _ hk))).congr fun i => rfl
theorem InF.trans (h : InF L x) (hM : ∀ l ∈ L, InF M (g l.2)) : InF M x := by
  obtain ⟨k, hk, c, _, e⟩ := h
  exact InF.div hk ((inF_comb (c := c) hM).congr fun i => (e i).symm)
theorem InF.mem : ∀ {L : List Line} {l : Line}, l ∈ L → InF L (g l.2)
  | m :: r, l, h => by
    rcases List.mem_cons.mp h with rfl | h
    · exact ⟨1, by decide, 1 :: List.replicate r.length 0, by simp, fun i => by rw [comb, comb_zeros]; simp⟩
    · obtain ⟨k, hk, c, hl, e⟩ := InF.mem h
      exact ⟨k, hk, 0 :: c, by simp [hl], fun i => by rw [comb, e i]; simp⟩
end
/-! rows -/
def sub (a b : List Int) : List Int := List.zipWith (· - ·) a b
theorem g_sub {a b : List Int} (h : a.length = b.length) (i : Nat) : g (sub a b) i = g a i - g b i := g_zip (by simp) h i
theorem sub_len {a b : List Int} (h : a.length = b.length) : (sub a b).length = a.length := by unfold sub; rw [List.length_zipWith]; omega
structure Hl where
  rows : List (List Int)
  lines : List Line
/-- the first place that is not zero -/
def spot (l : List Int) : Option Nat := (List.range l.length).find? fun i => g l i != 0
theorem spot_none {l : List Int} : spot l = none ↔ ∀ i, g l i = 0 := by
  unfold spot
  rw [List.find?_eq_none]
  constructor
  · intro h i
    by_cases hi : i < l.length
    · have := h i (List.mem_range.mpr hi)
      simpa using this
    · simp [g, List.getD_eq_getElem?_getD, List.getElem?_eq_none (Nat.le_of_not_lt hi)]
  · intro h i _
    simp [h i]
theorem spot_some {l : List Int} {a : Nat} (h : spot l = some a) : a < l.length ∧ g l a ≠ 0 := by
  unfold spot at h
  have h1 := List.mem_of_find?_eq_some h
  have h2 := List.find?_some h
  exact ⟨List.mem_range.mp h1, by simpa using h2⟩
def left (sh : List Int → List Int) (r0 : List Int) (lines : List Line) (x : List Int) : List Int := red sh (sub x r0) lines
def take (sh : List Int → List Int) (h : Hl) (x : List Int) : Hl := match h.rows with
  | [] => ⟨[x], h.lines⟩
  | r0 :: _ => match spot (left sh r0 h.lines x) with
    | none => h
    | some a => ⟨h.rows ++ [x], h.lines ++ [(a, left sh r0 h.lines x)]⟩
def dif (rows : List (List Int)) : List Line := match rows with
  | [] => []
  | r0 :: r => r.map fun x => (0, sub x r0)
structure Inv (n : Nat) (h : Hl) : Prop where
  rl : ∀ r ∈ h.rows, r.length = n
  ll : ∀ l ∈ h.lines, l.2.length = n
  tri : Tri h.lines
  up : ∀ l ∈ h.lines, InF (dif h.rows) (g l.2)
  dn : ∀ l ∈ dif h.rows, InF h.lines (g l.2)
  e0 : h.rows = [] → h.lines = []
theorem Inv.start (n : Nat) : Inv n ⟨[], []⟩ := ⟨fun r h => (by cases h), fun l h => (by cases h), trivial, fun l h => (by cases h), fun l h => (by cases h), fun _ => rfl⟩
theorem tri_app : ∀ {L : List Line} {l : Line}, Tri L → g l.2 l.1 ≠ 0 → (∀ k ∈ L, g l.2 k.1 = 0) → Tri (L ++ [l])
  | [], l, _, h, _ => ⟨h, fun k hk => (by cases hk), trivial⟩
  | m :: r, l, ⟨h1, h2, h3⟩, h, h0 => ⟨h1, fun k hk => by
      rcases List.mem_append.mp hk with hk | hk
      · exact h2 k hk
      · rw [List.mem_singleton.mp hk]; exact h0 m List.mem_cons_self, tri_app h3 h fun k hk => h0 k (List.mem_cons_of_mem _ hk)⟩
section
variable {sh : List Int → List Int} {n : Nat} {h : Hl} {x r0 : List Int} {rs : List (List Int)}
theorem Inv.iff (hi : Inv n h) {x : Nat → Int} : InF h.lines x ↔ InF (dif h.rows) x := ⟨fun q => q.trans hi.up, fun q => q.trans hi.dn⟩
/-- what is covered is told by the rows alone -/
theorem left_zero (hs : Sh sh) (hi : Inv n h) (hr : h.rows = r0 :: rs) (hx : x.length = n) : spot (left sh r0 h.lines x) = none ↔ InF (dif h.rows) (fun i => g x i - g r0 i) := by
  have h0 : x.length = r0.length := by rw [hx, hi.rl r0 (by rw [hr]; exact List.mem_cons_self)]
  rw [spot_none]
  unfold left
  rw [red_zero hs hi.tri (fun k hk => by rw [hi.ll k hk, sub_len h0, hx]), inQ_iff, ← hi.iff]
  have : g (sub x r0) = fun i => g x i - g r0 i := funext fun i => g_sub h0 i
  rw [this]
theorem dif_app (hr : h.rows = r0 :: rs) : dif (h.rows ++ [x]) = dif h.rows ++ [(0, sub x r0)] := by
  rw [hr]
  simp [dif]
theorem Inv.take (hs : Sh sh) (hi : Inv n h) (hx : x.length = n) : Inv n (take sh h x) := by
  unfold Bh.take
  cases hr : h.rows with
  | nil =>
    refine ⟨fun r q => ?_, hi.ll, hi.tri, fun l q => ?_, fun l q => ?_, fun q => (by cases q)⟩
    · rw [List.mem_singleton.mp q]; exact hx
    · have q : l ∈ h.lines := q
      rw [hi.e0 hr] at q; cases q
    · simp [dif] at q
  | cons r0 rs =>
    dsimp only
    cases hp : spot (left sh r0 h.lines x) with
    | none => exact hi
    | some a =>
      dsimp only
      have h0 : x.length = r0.length := by rw [hx, hi.rl r0 (by rw [hr]; exact List.mem_cons_self)]
      obtain ⟨e1, e2, _, k, q, hk, hq, c, hc, e4⟩ := red_spec hs (L := h.lines) (x := sub x r0) hi.tri (fun k hk => by rw [hi.ll k hk, sub_len h0, hx])
      obtain ⟨p1, p2⟩ := spot_some hp
      have hd := dif_app (x := x) hr
      rw [← hr]
      refine ⟨fun r z => ?_, fun l z => ?_, tri_app hi.tri p2 e2, fun l z => ?_, fun l z => ?_, fun z => (by simp at z)⟩
      · rcases List.mem_append.mp z with z | z
        · exact hi.rl r z
        · rw [List.mem_singleton.mp z]; exact hx
      · rcases List.mem_append.mp z with z | z
        · exact hi.ll l z
        · rw [List.mem_singleton.mp z]; show (left sh r0 h.lines x).length = n; unfold left; rw [e1, sub_len h0, hx]
      · show InF (dif (h.rows ++ [x])) (g l.2)
        rw [hd]
        rcases List.mem_append.mp z with z | z
        · exact (hi.up l z).app
        · rw [List.mem_singleton.mp z]
          show InF _ (g (red sh (sub x r0) h.lines))
          have s1 : InF (dif h.rows ++ [((0 : Nat), sub x r0)]) (comb c h.lines) := inF_comb fun l hl => (hi.up l hl).app
          have s2 : InF (dif h.rows ++ [((0 : Nat), sub x r0)]) (g (sub x r0)) := InF.last (l := ((0 : Nat), sub x r0))
          exact InF.div hq ((s2.lin s1 k (-1)).congr fun i => by have := e4 i; grind)
      · have z : l ∈ dif (h.rows ++ [x]) := z
        rw [hd] at z
        rcases List.mem_append.mp z with z | z
        · exact (hi.dn l z).app
        · rw [List.mem_singleton.mp z]
          show InF (h.lines ++ [(a, left sh r0 h.lines x)]) (g (sub x r0))
          have s1 : InF (h.lines ++ [(a, left sh r0 h.lines x)]) (comb c h.lines) := inF_comb fun l hl => InF.mem (List.mem_append_left _ hl)
          have s2 : InF (h.lines ++ [(a, left sh r0 h.lines x)]) (g (left sh r0 h.lines x)) := InF.last (l := (a, left sh r0 h.lines x))
          exact InF.div hk ((s2.lin s1 q 1).congr fun i => by rw [e4 i]; unfold left; grind)
/-- two ways to shorten keep the same rows -/
theorem take_rows {sh2 : List Int → List Int} {h2 : Hl} (hs : Sh sh) (hs2 : Sh sh2) (hi : Inv n h) (hi2 : Inv n h2) (e : h.rows = h2.rows) (hx : x.length = n) : (take sh h x).rows = (take sh2 h2 x).rows := by
  unfold Bh.take
  cases hr : h.rows with
  | nil => rw [← e, hr]
  | cons r0 rs =>
    rw [← e, hr]
    dsimp only
    have a1 := left_zero hs hi hr hx
    have a2 := left_zero hs2 hi2 (e ▸ hr) hx
    rw [← e] at a2
    have : spot (left sh r0 h.lines x) = none ↔ spot (left sh2 r0 h2.lines x) = none := a1.trans a2.symm
    cases h1 : spot (left sh r0 h.lines x) with
    | none => rw [this.mp h1]; dsimp only; rw [hr, ← e, hr]
    | some a =>
      cases h2' : spot (left sh2 r0 h2.lines x) with
      | none => rw [this.mpr h2'] at h1; cases h1
      | some b => rfl
end
end Bh

set_option Elab.async false
set_option linter.all false
set_option autoImplicit false
set_option maxRecDepth 100000
/-! Bh3: the greatest common divisor, shortened rows, bounds (plain). -/
namespace Bh
def gcdL (l : List Int) : Nat := l.foldl (fun d x => Nat.gcd d x.natAbs) 0
theorem gcd_fold : ∀ (l : List Int) (d : Nat), (l.foldl (fun d x => Nat.gcd d x.natAbs) d) ∣ d ∧ ∀ x ∈ l, (l.foldl (fun d x => Nat.gcd d x.natAbs) d) ∣ x.natAbs
  | [], d => ⟨Nat.dvd_refl _, fun x h => (by cases h)⟩
  | y :: r, d => by
    obtain ⟨h1, h2⟩ := gcd_fold r (Nat.gcd d y.natAbs)
    rw [List.foldl_cons]
    refine ⟨Nat.dvd_trans h1 (Nat.gcd_dvd_left _ _), fun x hx => ?_⟩
    rcases List.mem_cons.mp hx with rfl | hx
    · exact Nat.dvd_trans h1 (Nat.gcd_dvd_right _ _)
    · exact h2 x hx
theorem gcdL_dvd {l : List Int} {x : Int} (h : x ∈ l) : (gcdL l : Int) ∣ x := Int.natAbs_dvd_natAbs.mp (by rw [Int.natAbs_natCast]; exact (gcd_fold l 0).2 x h)
def short (l : List Int) : List Int := if 1 < gcdL l then l.map (· / (gcdL l : Int)) else l
theorem g_map {f : Int → Int} (h0 : f 0 = 0) (l : List Int) (i : Nat) : g (l.map f) i = f (g l i) := by
  unfold g
  by_cases h : i < l.length
  · simp [List.getD_eq_getElem?_getD, List.getElem?_eq_getElem h]
  · simp [List.getD_eq_getElem?_getD, List.getElem?_eq_none (Nat.le_of_not_lt h), h0]
theorem g_mem {l : List Int} {i : Nat} : g l i = 0 ∨ g l i ∈ l := by
  unfold g
  by_cases h : i < l.length
  · right; simp [List.getD_eq_getElem?_getD, List.getElem?_eq_getElem h]
  · left; simp [List.getD_eq_getElem?_getD, List.getElem?_eq_none (Nat.le_of_not_lt h)]
theorem sh_short : Sh short := by
  refine ⟨fun l => ?_, fun l => ?_⟩
  · unfold short; split
    · rw [List.length_map]
    · rfl
  · unfold short
    by_cases h : 1 < gcdL l
    · rw [if_pos h]
      refine ⟨gcdL l, by omega, fun i => ?_⟩
      rw [g_map (by simp)]
      rcases g_mem (l := l) (i := i) with e | e
      · rw [e]; simp
      · exact (Int.mul_ediv_cancel' (gcdL_dvd e)).symm
    · rw [if_neg h]; exact ⟨1, by decide, fun i => by simp⟩
/-! bounds -/
def Bd (b : Nat) (l : List Int) : Prop := ∀ i, (g l i).natAbs ≤ 2 ^ b
theorem Bd.mono {b c : Nat} {l : List Int} (h : Bd b l) (hc : b ≤ c) : Bd c l := fun i => Nat.le_trans (h i) (Nat.pow_le_pow_right (by decide) hc)
theorem Bd.short {b : Nat} {l : List Int} (h : Bd b l) : Bd b (short l) := fun i => by
  obtain ⟨q, hq, e⟩ := sh_short.mul l
  have h1 := h i
  rw [e i, Int.natAbs_mul] at h1
  have : 1 ≤ q.natAbs := by omega
  exact Nat.le_trans (Nat.le_mul_of_pos_left _ this) h1
theorem Bd.cross {b c : Nat} {x m : List Int} {a : Nat} (hl : x.length = m.length) (hx : Bd b x) (hm : Bd c m) : Bd (b + c + 1) (cross x m a) := fun i => by
  rw [g_cross hl]
  have h1 : (g x i * g m a).natAbs ≤ 2 ^ b * 2 ^ c := by rw [Int.natAbs_mul]; exact Nat.mul_le_mul (hx i) (hm a)
  have h2 : (g m i * g x a).natAbs ≤ 2 ^ b * 2 ^ c := by rw [Int.natAbs_mul, Nat.mul_comm]; exact Nat.mul_le_mul (hx a) (hm i)
  have h3 : (g x i * g m a - g m i * g x a).natAbs ≤ (g x i * g m a).natAbs + (g m i * g x a).natAbs := Int.natAbs_sub_le _ _
  have h4 : 2 ^ (b + c + 1) = 2 ^ b * 2 ^ c + 2 ^ b * 2 ^ c := by rw [Nat.pow_succ, Nat.pow_add]; omega
  omega
theorem Bd.sub {b : Nat} {x y : List Int} (hl : x.length = y.length) (hx : Bd b x) (hy : Bd b y) : Bd (b + 1) (sub x y) := fun i => by
  rw [g_sub hl]
  have h1 := hx i
  have h2 := hy i
  have h3 : (g x i - g y i).natAbs ≤ (g x i).natAbs + (g y i).natAbs := Int.natAbs_sub_le _ _
  rw [Nat.pow_succ]
  omega
/-- the bits of what is left behind lines of so many bits -/
def bits (b : Nat) : List Nat → Nat
  | [] => b
  | e :: r => bits (b + e + 1) r
theorem gcdL_le {b : Nat} {l : List Int} (h : Bd b l) : gcdL l ≤ 2 ^ b := by
  by_cases hz : ∀ x ∈ l, x = 0
  · have : ∀ (l : List Int) (d : Nat), (∀ x ∈ l, x = 0) → l.foldl (fun d x => Nat.gcd d x.natAbs) d = d := by
      intro l
      induction l with
      | nil => intro d _; rfl
      | cons y r ih =>
        intro d h
        rw [List.foldl_cons, h y List.mem_cons_self, Int.natAbs_zero, Nat.gcd_zero_right]
        exact ih d fun x hx => h x (List.mem_cons_of_mem _ hx)
    unfold gcdL
    rw [this l 0 hz]
    exact Nat.zero_le _
  · obtain ⟨x, hx, h0⟩ : ∃ x, x ∈ l ∧ x ≠ 0 := by
      refine Classical.byContradiction fun q => hz fun x hx => Classical.byContradiction fun h0 => q ⟨x, hx, h0⟩
    obtain ⟨i, hi, rfl⟩ := List.mem_iff_getElem.mp hx
    have h1 := h i
    have e : g l i = l[i] := by simp [g, List.getD_eq_getElem?_getD, List.getElem?_eq_getElem hi]
    rw [e] at h1
    have h2 : gcdL l ∣ (l[i]).natAbs := (gcd_fold l 0).2 _ (List.getElem_mem hi)
    exact Nat.le_trans (Nat.le_of_dvd (by omega) h2) h1
end Bh

set_option Elab.async false
set_option linter.all false
set_option autoImplicit false
set_option maxRecDepth 100000
/-! Bh4: how many lines, their bits, hulls of rows, whole combinations (plain). -/
namespace Bh
theorem nd_len : ∀ (n : Nat) (l : List Nat), l.Nodup → (∀ x ∈ l, x < n) → l.length ≤ n
  | 0, l, _, h => by
    cases l with
    | nil => exact Nat.le_refl _
    | cons a r => exact absurd (h a List.mem_cons_self) (by omega)
  | n + 1, l, hd, h => by
    have h1 := nd_len n (l.erase n) (hd.erase n) fun x hx => by
      have h2 := h x (List.mem_of_mem_erase hx)
      have h3 : x ≠ n := (hd.mem_erase_iff.mp hx).1
      omega
    have h2 : l.length - 1 ≤ (l.erase n).length := by rw [List.length_erase]; split <;> omega
    omega
theorem tri_at : ∀ {L : List Line}, Tri L → ∀ {k : Line}, k ∈ L → g k.2 k.1 ≠ 0
  | l :: r, ⟨h1, _, h3⟩, k, hk => by
    rcases List.mem_cons.mp hk with rfl | hk
    · exact h1
    · exact tri_at h3 hk
theorem tri_nd : ∀ {L : List Line}, Tri L → (L.map (·.1)).Nodup
  | [], _ => List.nodup_nil
  | l :: r, ⟨h1, h2, h3⟩ => by
    rw [List.map_cons, List.nodup_cons]
    refine ⟨fun hm => ?_, tri_nd h3⟩
    obtain ⟨k, hk, e⟩ := List.mem_map.mp hm
    have := tri_at h3 hk
    rw [e] at this
    exact this (h2 k hk)
theorem g_lt {l : List Int} {i : Nat} (h : g l i ≠ 0) : i < l.length := by
  refine Classical.byContradiction fun q => h ?_
  simp [g, List.getD_eq_getElem?_getD, List.getElem?_eq_none (Nat.le_of_not_lt q)]
theorem g_ge {l : List Int} {i : Nat} (h : l.length ≤ i) : g l i = 0 := by
  simp [g, List.getD_eq_getElem?_getD, List.getElem?_eq_none h]
theorem tri_len {n : Nat} {L : List Line} (ht : Tri L) (hl : ∀ l ∈ L, l.2.length = n) : L.length ≤ n := by
  have := nd_len n (L.map (·.1)) (tri_nd ht) fun x hx => by
    obtain ⟨l, hl', rfl⟩ := List.mem_map.mp hx
    have := g_lt (tri_at ht hl')
    rw [hl l hl'] at this
    exact this
  rwa [List.length_map] at this
theorem bits_add : ∀ (es : List Nat) (b c : Nat), bits (b + c) es = bits b es + c
  | [], _, _ => rfl
  | e :: r, b, c => by
    show bits (b + c + e + 1) r = bits (b + e + 1) r + c
    rw [← bits_add r (b + e + 1) c]
    congr 1
    omega
theorem bits_zero (es : List Nat) (b : Nat) : bits b es = bits 0 es + b := by
  have := bits_add es 0 b
  rwa [Nat.zero_add] at this
theorem bits_app : ∀ (es : List Nat) (b e : Nat), bits b (es ++ [e]) = bits b es + e + 1
  | [], _, _ => rfl
  | _ :: r, b, e => bits_app r _ e
/-- bounds of lines, one after the other -/
def LBd : List Nat → List Line → Prop
  | e :: es, l :: ls => Bd e l.2 ∧ LBd es ls
  | [], [] => True
  | _, _ => False
theorem lbd_app : ∀ {es : List Nat} {L : List Line} {e : Nat} {l : Line}, LBd es L → Bd e l.2 → LBd (es ++ [e]) (L ++ [l])
  | [], [], _, _, _, h => ⟨h, trivial⟩
  | _ :: _, _ :: _, _, _, ⟨h1, h2⟩, h => ⟨h1, lbd_app h2 h⟩
  | [], _ :: _, _, _, h, _ => h.elim
  | _ :: _, [], _, _, h, _ => h.elim
structure Sb (sh : List Int → List Int) : Prop extends Sh sh where
  bd : ∀ {b : Nat} {l : List Int}, Bd b l → Bd b (sh l)
theorem sb_short : Sb short := { sh_short with bd := Bd.short }
theorem sb_id : Sb id := { sh_id with bd := fun h => h }
theorem red_bd {sh : List Int → List Int} (hs : Sb sh) : ∀ {L : List Line} {es : List Nat} {y : List Int} {b : Nat}, LBd es L → (∀ l ∈ L, l.2.length = y.length) → Bd b y → Bd (bits b es) (red sh y L)
  | [], [], _, _, _, _, h => h
  | [], _ :: _, _, _, h, _, _ => h.elim
  | _ :: _, [], _, _, h, _, _ => h.elim
  | (a, m) :: r, e :: es, y, b, ⟨h1, h2⟩, hl, hy => by
    have hm : y.length = m.length := (hl _ List.mem_cons_self).symm
    have hr : ∀ l ∈ r, l.2.length = y.length := fun l k => hl l (List.mem_cons_of_mem _ k)
    rw [red]
    by_cases hx : g y a ≠ 0
    · rw [if_pos hx]
      show Bd (bits (b + e + 1) es) _
      exact red_bd (es := es) (b := b + e + 1) hs h2 (fun l k => by rw [hs.len, cross_len hm]; exact hr l k) (hs.bd (Bd.cross hm hy h1))
    · rw [if_neg hx]
      refine (red_bd hs h2 hr hy).mono ?_
      show bits b es ≤ bits (b + e + 1) es
      rw [Nat.add_assoc, bits_add es b (e + 1)]
      omega
structure HB (b : Nat) (h : Hl) : Prop where
  r : ∀ r ∈ h.rows, Bd b r
  l : ∃ es, LBd es h.lines ∧ bits 0 es + (b + 2) ≤ 2 ^ h.lines.length * (b + 2)
  c : h.rows.length ≤ h.lines.length + 1
theorem HB.start (b : Nat) : HB b ⟨[], []⟩ := ⟨fun _ h => (by cases h), ⟨[], trivial, by simp [bits]⟩, by simp⟩
section
variable {sh : List Int → List Int} {n b : Nat} {h : Hl} {x r0 : List Int} {rs : List (List Int)}
theorem HB.bits (hi : Inv n h) (hb : HB b h) : ∃ es, LBd es h.lines ∧ Bh.bits 0 es ≤ 2 ^ n * (b + 2) := by
  obtain ⟨es, h1, h2⟩ := hb.l
  have h3 := tri_len hi.tri hi.ll
  have h4 : 2 ^ h.lines.length * (b + 2) ≤ 2 ^ n * (b + 2) := Nat.mul_le_mul_right _ (Nat.pow_le_pow_right (by decide) h3)
  exact ⟨es, h1, by omega⟩
theorem HB.take (hs : Sb sh) (hi : Inv n h) (hb : HB b h) (hx : x.length = n) (bx : Bd b x) : HB b (take sh h x) := by
  unfold Bh.take
  cases hr : h.rows with
  | nil =>
    refine ⟨fun r q => ?_, hb.l, by simp⟩
    rw [List.mem_singleton.mp q]; exact bx
  | cons r0 rs =>
    dsimp only
    cases hp : spot (left sh r0 h.lines x) with
    | none => exact hb
    | some a =>
      dsimp only
      rw [← hr]
      have hm : r0 ∈ h.rows := by rw [hr]; exact List.mem_cons_self
      have h0 : x.length = r0.length := by rw [hx, hi.rl r0 hm]
      obtain ⟨es, h1, h2⟩ := hb.l
      have h3 := red_bd hs h1 (y := sub x r0) (fun l k => by rw [hi.ll l k, sub_len h0, hx]) (Bd.sub h0 bx (hb.r r0 hm))
      refine ⟨fun r q => ?_, ⟨es ++ [Bh.bits (b + 1) es], lbd_app h1 h3, ?_⟩, by have := hb.c; simp; omega⟩
      · rcases List.mem_append.mp q with q | q
        · exact hb.r r q
        · rw [List.mem_singleton.mp q]; exact bx
      · rw [bits_app, bits_zero es (b + 1), List.length_append, List.length_singleton, Nat.pow_succ]
        have : 2 ^ h.lines.length * 2 * (b + 2) = 2 ^ h.lines.length * (b + 2) + 2 ^ h.lines.length * (b + 2) := by rw [Nat.mul_right_comm, Nat.mul_two]
        omega
/-- what is covered -/
def Cov (h : Hl) (x : List Int) : Prop := ∃ r0 rs, h.rows = r0 :: rs ∧ InF (dif h.rows) (fun i => g x i - g r0 i)
theorem cov_iff (hs : Sh sh) (hi : Inv n h) (hr : h.rows = r0 :: rs) (hx : x.length = n) : spot (left sh r0 h.lines x) = none ↔ Cov h x := by
  rw [left_zero hs hi hr hx]
  constructor
  · intro q; exact ⟨r0, rs, hr, q⟩
  · rintro ⟨r1, rs1, e, q⟩
    rw [hr] at e
    obtain ⟨rfl, rfl⟩ := List.cons.inj e
    exact q
theorem take_mono {y : Nat → Int} (hx : InF (dif h.rows) y) : InF (dif (take sh h x).rows) y := by
  unfold Bh.take
  cases hr : h.rows with
  | nil =>
    rw [hr] at hx
    exact hx
  | cons r0 rs =>
    dsimp only
    cases hp : spot (left sh r0 h.lines x) with
    | none => exact hx
    | some a =>
      dsimp only
      rw [← hr, dif_app hr]
      exact hx.app
theorem take_first (hr : h.rows = r0 :: rs) : ∃ rs', (take sh h x).rows = r0 :: rs' := by
  unfold Bh.take
  rw [hr]
  dsimp only
  cases hp : spot (left sh r0 h.lines x) with
  | none => exact ⟨rs, hr⟩
  | some a => exact ⟨rs ++ [x], rfl⟩
theorem take_cov (hs : Sh sh) (hi : Inv n h) (hx : x.length = n) : Cov (take sh h x) x := by
  cases hr : h.rows with
  | nil =>
    have e : (take sh h x).rows = [x] := by unfold Bh.take; rw [hr]
    exact ⟨x, [], e, InF.zero.congr fun i => by simp⟩
  | cons r0 rs =>
    cases hp : spot (left sh r0 h.lines x) with
    | none =>
      have e : take sh h x = h := by unfold Bh.take; rw [hr]; dsimp only; rw [hp]
      rw [e]
      exact (cov_iff hs hi hr hx).mp hp
    | some a =>
      have e : (take sh h x).rows = h.rows ++ [x] := by unfold Bh.take; rw [hr]; dsimp only; rw [hp]
      refine ⟨r0, rs ++ [x], by rw [e, hr]; rfl, ?_⟩
      rw [e, dif_app hr]
      have h0 : x.length = r0.length := by rw [hx, hi.rl r0 (by rw [hr]; exact List.mem_cons_self)]
      exact (InF.last (l := ((0 : Nat), sub x r0))).congr fun i => g_sub h0 i
theorem Cov.take {y : List Int} (hc : Cov h y) : Cov (take sh h x) y := by
  obtain ⟨r0, rs, hr, q⟩ := hc
  obtain ⟨rs', e⟩ := take_first (sh := sh) (x := x) hr
  exact ⟨r0, rs', e, take_mono q⟩
end
/-- the hull of some rows -/
def hull (sh : List Int → List Int) (rows : List (List Int)) : Hl := rows.foldl (take sh) ⟨[], []⟩
theorem hull_ind {sh : List Int → List Int} {n b : Nat} (hs : Sb sh) : ∀ (rows : List (List Int)) (h : Hl), Inv n h → HB b h → (∀ r ∈ rows, r.length = n) → (∀ r ∈ rows, Bd b r) →
    Inv n (rows.foldl (take sh) h) ∧ HB b (rows.foldl (take sh) h) ∧ (∀ x, Cov h x → Cov (rows.foldl (take sh) h) x) ∧ (∀ x ∈ rows, Cov (rows.foldl (take sh) h) x)
  | [], h, hi, hb, _, _ => ⟨hi, hb, fun _ q => q, fun _ q => (by cases q)⟩
  | r :: rows, h, hi, hb, hl, hd => by
    have l0 := hl r List.mem_cons_self
    have d0 := hd r List.mem_cons_self
    obtain ⟨h1, h2, h3, h4⟩ := hull_ind hs rows (take sh h r) (hi.take hs.toSh l0) (hb.take hs hi l0 d0) (fun x q => hl x (List.mem_cons_of_mem _ q)) fun x q => hd x (List.mem_cons_of_mem _ q)
    refine ⟨h1, h2, fun x q => h3 x q.take, fun x q => ?_⟩
    rcases List.mem_cons.mp q with rfl | q
    · exact h3 _ (take_cov hs.toSh hi l0)
    · exact h4 x q
theorem hull_two {sh sh2 : List Int → List Int} {n : Nat} (hs : Sb sh) (hs2 : Sb sh2) : ∀ (rows : List (List Int)) (h h2 : Hl), Inv n h → Inv n h2 → h.rows = h2.rows → (∀ r ∈ rows, r.length = n) → (rows.foldl (take sh) h).rows = (rows.foldl (take sh2) h2).rows
  | [], _, _, _, _, e, _ => e
  | r :: rows, h, h2, hi, hi2, e, hl => by
    have l0 := hl r List.mem_cons_self
    exact hull_two hs hs2 rows _ _ (hi.take hs.toSh l0) (hi2.take hs2.toSh l0) (take_rows hs.toSh hs2.toSh hi hi2 e l0) fun x q => hl x (List.mem_cons_of_mem _ q)
theorem Cov.rows {h h2 : Hl} (e : h.rows = h2.rows) (x : List Int) : Cov h x ↔ Cov h2 x := by unfold Cov; rw [e]
/-- whole combinations -/
def csum : List Int → List (List Int) → Nat → Int
  | f :: fs, r :: rs, i => f * g r i + csum fs rs i
  | _, _, _ => 0
def isum (l : List Int) : Int := l.foldr (· + ·) 0
theorem cov_csum {h : Hl} {r0 : List Int} {rs : List (List Int)} (hr : h.rows = r0 :: rs) : ∀ (f : List Int) (R : List (List Int)), f.length = R.length → (∀ r ∈ R, Cov h r) → InF (dif h.rows) fun i => csum f R i - isum f * g r0 i
  | [], [], _, _ => InF.zero.congr fun i => by simp [csum, isum]
  | [], _ :: _, h, _ => by cases h
  | _ :: _, [], h, _ => by cases h
  | f :: fs, r :: R, hl, hc => by
    have h1 := cov_csum hr fs R (Nat.succ.inj hl) fun x q => hc x (List.mem_cons_of_mem _ q)
    obtain ⟨r1, rs1, e, h2⟩ := hc r List.mem_cons_self
    rw [hr] at e
    obtain ⟨rfl, rfl⟩ := List.cons.inj e
    refine (h2.lin h1 f 1).congr fun i => ?_
    show f * (g r i - g r0 i) + 1 * (csum fs R i - isum fs * g r0 i) = f * g r i + csum fs R i - (f + isum fs) * g r0 i
    grind
theorem cov_comb {h : Hl} {f : List Int} {R : List (List Int)} {x : List Int} (hne : h.rows ≠ []) (hl : f.length = R.length) (hc : ∀ r ∈ R, Cov h r) (h1 : isum f = 1) (e : ∀ i, g x i = csum f R i) : Cov h x := by
  cases hr : h.rows with
  | nil => exact absurd hr hne
  | cons r0 rs =>
    refine ⟨r0, rs, hr, ?_⟩
    have := cov_csum hr f R hl hc
    refine this.congr fun i => ?_
    rw [h1, e i]
    simp
/-- half way -/
theorem cov_half {h : Hl} {a b m : List Int} (ha : Cov h a) (hb : Cov h b) (e : ∀ i, 2 * g m i = g a i + g b i) : Cov h m := by
  obtain ⟨r0, rs, hr, h1⟩ := ha
  obtain ⟨r1, rs1, hr1, h2⟩ := hb
  rw [hr] at hr1
  obtain ⟨rfl, rfl⟩ := List.cons.inj hr1
  refine ⟨r0, rs, hr, InF.div (q := 2) (by decide) ((h1.add h2).congr fun i => ?_)⟩
  have := e i
  omega
/-- all that is zero behind n, by unit rows -/
theorem inF_units {L : List Line} : ∀ (n : Nat) (y : Nat → Int), (∀ i, n ≤ i → y i = 0) → (∀ j, j < n → y j = 0 ∨ InF L fun i => if i = j then 1 else 0) → InF L y
  | 0, y, hz, _ => InF.zero.congr fun i => (hz i (Nat.zero_le _)).symm
  | n + 1, y, hz, h => by
    have h1 := inF_units n (fun i => if i = n then 0 else y i) (fun i hi => by
      by_cases e : i = n
      · simp [e]
      · simp [e]; exact hz i (by omega)) (fun j hj => by
      have e : j ≠ n := by omega
      simp only [if_neg e]
      exact h j (by omega))
    rcases h n (by omega) with e | e
    · refine h1.congr fun i => ?_
      by_cases q : i = n
      · rw [if_pos q, q, e]
      · rw [if_neg q]
    · refine (h1.lin e 1 (y n)).congr fun i => ?_
      by_cases q : i = n
      · simp [q]
      · simp [q]
/-- a place where all rows are alike -/
theorem cov_at {h : Hl} {x : List Int} {a : Nat} {c : Int} {n : Nat} (hl : ∀ r ∈ h.rows, r.length = n) (hc : Cov h x) (h0 : ∀ r ∈ h.rows, g r a = c) : g x a = c := by
  obtain ⟨r0, rs, hr, k, hk, cs, hcl, e⟩ := hc
  have h1 := e a
  have h2 : ∀ l ∈ dif h.rows, g l.2 a = 0 := by
    intro l q
    rw [hr] at q
    obtain ⟨x, hx, rfl⟩ := List.mem_map.mp q
    have m0 : r0 ∈ h.rows := by rw [hr]; exact List.mem_cons_self
    have m1 : x ∈ h.rows := by rw [hr]; exact List.mem_cons_of_mem _ hx
    show g (sub x r0) a = 0
    rw [g_sub (by rw [hl _ m0, hl _ m1]), h0 _ m0, h0 _ m1]
    omega
  rw [comb_zero_at h2] at h1
  rcases Int.mul_eq_zero.mp h1 with q | q
  · exact absurd q hk
  · have q : g x a - g r0 a = 0 := q
    have := h0 r0 (by rw [hr]; exact List.mem_cons_self)
    omega
end Bh

set_option Elab.async false
set_option linter.all false
set_option autoImplicit false
set_option maxRecDepth 100000
/-! Bh5: hulls of unit rows (plain). -/
namespace Bh
def unit (k : Nat) : List Int := (List.range 10).map fun p : Nat => if k = p then (1 : Int) else 0
def units (a : Nat) : List (List Int) := ((List.range 11).filter fun k => decide (k ≠ a)).map unit
theorem wide_len : ∀ a, a < 10 → (hull short (units a)).rows.length = 10 := by decide +kernel
theorem wide_all : (hull short (units 11)).rows.length = 11 := by decide +kernel
theorem unit_len (k : Nat) : (unit k).length = 10 := by simp [unit]
theorem g_unit (k i : Nat) : g (unit k) i = if i < 10 ∧ k = i then 1 else 0 := by
  by_cases h : i < 10
  · unfold unit g
    rw [List.getD_eq_getElem?_getD, List.getElem?_map, List.getElem?_range h]
    simp [h]
  · rw [g_ge (by rw [unit_len]; omega), if_neg (by omega)]
theorem bd_unit (k : Nat) : Bd 0 (unit k) := fun i => by
  rw [g_unit]
  split <;> simp
theorem units_len {a : Nat} {r : List Int} (h : r ∈ units a) : r.length = 10 := by
  obtain ⟨k, _, rfl⟩ := List.mem_map.mp h
  exact unit_len k
theorem units_bd {a : Nat} {r : List Int} (h : r ∈ units a) : Bd 0 r := by
  obtain ⟨k, _, rfl⟩ := List.mem_map.mp h
  exact bd_unit k
theorem mem_units {a k : Nat} (h : k < 11) (hk : k ≠ a) : unit k ∈ units a := List.mem_map.mpr ⟨k, List.mem_filter.mpr ⟨List.mem_range.mpr h, by simpa using hk⟩, rfl⟩
theorem units_at {a : Nat} (ha : a < 10) {r : List Int} (h : r ∈ units a) : g r a = 0 := by
  obtain ⟨k, hk, rfl⟩ := List.mem_map.mp h
  have := (List.mem_filter.mp hk).2
  rw [g_unit, if_neg]
  have : k ≠ a := by simpa using this
  omega
theorem take_sub {sh : List Int → List Int} {h : Hl} {x r : List Int} (hr : r ∈ (take sh h x).rows) : r ∈ h.rows ∨ r = x := by
  unfold Bh.take at hr
  cases e : h.rows with
  | nil => rw [e] at hr; exact .inr (List.mem_singleton.mp hr)
  | cons r0 rs =>
    rw [e] at hr
    dsimp only at hr
    cases hp : spot (left sh r0 h.lines x) with
    | none => rw [hp] at hr; rw [← e]; exact .inl hr
    | some a =>
      rw [hp] at hr
      rcases List.mem_append.mp hr with q | q
      · exact .inl q
      · exact .inr (List.mem_singleton.mp q)
theorem hull_sub {sh : List Int → List Int} : ∀ (rows : List (List Int)) (h : Hl) {r : List Int}, r ∈ (rows.foldl (take sh) h).rows → r ∈ h.rows ∨ r ∈ rows
  | [], _, _, q => .inl q
  | x :: rows, h, r, q => by
    rcases hull_sub rows (take sh h x) q with q | q
    · rcases take_sub q with q | q
      · exact .inl q
      · exact .inr (by rw [q]; exact List.mem_cons_self)
    · exact .inr (List.mem_cons_of_mem _ q)
theorem hull_mem {sh : List Int → List Int} {rows : List (List Int)} {r : List Int} (q : r ∈ (hull sh rows).rows) : r ∈ rows := by
  rcases hull_sub rows _ q with q | q
  · cases q
  · exact q
theorem units_inv (a : Nat) : Inv 10 (hull short (units a)) ∧ HB 0 (hull short (units a)) ∧ ∀ x ∈ units a, Cov (hull short (units a)) x := by
  obtain ⟨h1, h2, _, h4⟩ := hull_ind (n := 10) (b := 0) sb_short (units a) ⟨[], []⟩ (Inv.start 10) (HB.start 0) (fun r h => units_len h) fun r h => units_bd h
  exact ⟨h1, h2, h4⟩
/-- what unit rows cover -/
theorem units_cov {a : Nat} {x : List Int} (hl : x.length = 10) (hne : (hull short (units a)).rows ≠ []) (h : ∀ j, j < 10 → j = a → g x a = 0) (h10 : a ≠ 10) : Cov (hull short (units a)) x := by
  obtain ⟨hi, hb, hc⟩ := units_inv a
  cases hr : (hull short (units a)).rows with
  | nil => exact absurd hr hne
  | cons r0 rs =>
    have hm : r0 ∈ (hull short (units a)).rows := by rw [hr]; exact List.mem_cons_self
    refine ⟨r0, rs, hr, inF_units 10 _ (fun i hi2 => ?_) fun j hj => ?_⟩
    · rw [g_ge (by rw [hl]; exact hi2), g_ge (by rw [hi.rl _ hm]; exact hi2)]
      rfl
    · by_cases e : j = a
      · left
        subst e
        rw [h j hj rfl, units_at hj (hull_mem hm)]
        rfl
      · right
        obtain ⟨r1, rs1, e1, q1⟩ := hc _ (mem_units (a := a) (k := j) (by omega) e)
        obtain ⟨r2, rs2, e2, q2⟩ := hc _ (mem_units (a := a) (k := 10) (by omega) (fun e => h10 e.symm))
        rw [hr] at e1 e2
        obtain ⟨rfl, rfl⟩ := List.cons.inj e1
        obtain ⟨rfl, rfl⟩ := List.cons.inj e2
        refine (q1.lin q2 1 (-1)).congr fun i => ?_
        rw [g_unit, g_unit]
        by_cases e3 : i = j
        · subst e3
          rw [if_pos ⟨hj, rfl⟩, if_neg (by omega), if_pos rfl]
          omega
        · rw [if_neg (by omega), if_neg (by omega), if_neg e3]
          omega
theorem units_not {a : Nat} {x : List Int} (ha : a < 10) (h : g x a ≠ 0) : ¬ Cov (hull short (units a)) x := fun hc =>
  h (cov_at (n := 10) (fun r q => units_len (hull_mem q)) hc fun r q => units_at ha (hull_mem q))
end Bh

set_option Elab.async false
set_option linter.all false
set_option autoImplicit false
set_option maxRecDepth 100000
set_option maxHeartbeats 4000000
/-! Bp1: any plain value: numbers, kinds. -/
namespace Bk
open PySem L2 PyProof.Rows Si
/-- the slots written out -/
local macro_rules | `(tactic| walk_at "nm_Bp1") => `(tactic| (simp only [startD, wipeD, List.foldl_cons, List.foldl_nil, List.set_cons_succ, List.set_cons_zero, List.map_cons, List.map_nil, List.length_cons, List.length_nil, Nat.reduceAdd, Nat.reduceSub, List.replicate_succ, List.replicate_zero, List.cons_append, List.nil_append]; rfl))
/-- one step by the form of the code -/
local macro_rules | `(tactic| walk_at "g1_Bp1") => `(tactic| with_reducible first
  | (refine go_idD ?_; first
    | refine go_env (σ := List.set _ _ _) (by walk_at "nm_Bp1") ?_ | refine go_var rfl ?_ | refine go_c ?_ | refine go_op ?_ | refine go_call ?_ | refine go_eqS ?_ | refine go_eqI ?_ | refine go_tup ?_ | refine go_lst ?_ | refine go_addI ?_ | refine go_isi ?_ | refine go_and ?_ | refine go_lt ?_ | refine go_le ?_ | refine go_gt ?_ | refine go_ge ?_ | refine go_ixT rfl ?_ | refine go_ixL rfl ?_
    | refine go_lc ?_ | refine go_if ?_ | refine go_not ?_ | refine go_or ?_ | refine go_chain ?_ | refine go_callK ?_ | refine go_lstM ?_ | refine go_neg ?_ | refine go_sl ?_ | refine go_isi2 ?_ | refine go_join ?_ | refine go_app ?_ | refine go_lenSet ?_ | refine go_lcM ?_
    | refine go_subI ?_ | refine go_neI ?_ | refine go_neS ?_ | refine go_lenL ?_ | refine go_lenT ?_ | refine go_lenS (by assumption) ?_
    | refine go_slL ?_ | refine go_slT ?_ | refine go_slS (by assumption) ?_ | refine go_intI ?_ | refine go_lstL ?_ | refine go_lstT ?_ | refine go_tupL ?_ | refine go_tupT ?_ | refine go_isN ?_ | refine go_notN ?_ | refine go_allM ?_ | refine go_max2 ?_ | refine go_min2 ?_)
  | (refine go_idL ?_; first | refine go_cons ?_ | refine go_nil ?_ | refine go_iter ?_ | refine go_rng1 ?_ | refine go_zip ?_ | refine go_enum ?_ | refine go_star ?_ | refine go_rng2 ?_)
  | (refine gd_id ?_; first | refine gd_env (σ := List.set _ _ _) (by walk_at "nm_Bp1") ?_ | refine gd_env (σ := startD _ _) (by walk_at "nm_Bp1") ?_ | refine gd_seq ?_ | refine gd_nm ?_ | refine gd_asg ?_ | refine gd_ret ?_ | refine gd_if ?_ | refine gd_next ?_ | refine gd_expr ?_ | refine gd_par ?_ | refine gd_retN ?_ | refine gd_brk ?_ | refine gd_cnt ?_ | refine gd_for ?_)
  | (refine go_idB ?_; first | refine go_asB ?_ | refine go_tru ?_ | refine go_bAnd ?_ | refine go_bOr ?_ | refine go_bNot ?_ | refine go_bYes ?_)
  | (refine br_id ?_; first | refine br_t ?_ | refine br_f ?_ | refine br_not ?_)
  | (refine go_idO ?_; first | refine go_oNone ?_ | refine go_oSome ?_))
local macro_rules | `(tactic| walk_at "g2_Bp1") => `(tactic| first
  | with_reducible refine ex_bl ?_ | with_reducible refine ex_int ?_ | with_reducible refine ex_str ?_ | with_reducible refine ex_nm ?_
  | with_reducible refine ex_zip ?_ | with_reducible refine ex_enum ?_
  | with_reducible refine ex_seq (by with_unfolding_all exact rfl) ?_
  | with_reducible refine ex_tg (by with_unfolding_all exact rfl) ?_
  | with_reducible refine ex_tru (by with_unfolding_all exact rfl) ?_
  | with_reducible refine ex_ty (by with_unfolding_all exact rfl) ?_
  | with_reducible refine ex_it (by with_unfolding_all exact rfl) ?_
  | ((with_reducible refine br_id ?_); first
    | with_reducible refine br_is (b := Si.isNon _) (by with_unfolding_all rfl) ?_ | with_reducible refine br_isnt (b := Si.isNon _) (by with_unfolding_all rfl) ?_
    | with_reducible refine br_is (b := isB _ _) (by with_unfolding_all decide) ?_ | with_reducible refine br_isnt (b := isB _ _) (by with_unfolding_all decide) ?_
    | with_reducible refine br_is (b := isB _ _ || isB _ _) (by with_unfolding_all decide) ?_ | with_reducible refine br_isnt (b := isB _ _ || isB _ _) (by with_unfolding_all decide) ?_
    | with_reducible refine br_y (by decide +kernel) ?_ | with_reducible refine br_n (by decide +kernel) ?_ | with_reducible refine br_y (by with_unfolding_all rfl) ?_ | with_reducible refine br_n (by simp only [List.length_cons, List.length_nil]; omega) ?_)
  | ((with_reducible refine go_idD ?_); first
    | with_reducible refine go_mulL ⟨by decide, by decide⟩ ?_ | with_reducible refine go_mulR ⟨by decide, by decide⟩ ?_ | with_reducible refine go_mod (by decide) ?_ | with_reducible refine go_div (by decide) (by decide) ?_
    | with_reducible refine go_inTt (by decide +kernel) (by decide +kernel) ?_ | with_reducible refine go_inTf (by decide +kernel) (by decide +kernel) ?_ | with_reducible refine go_niTt (by decide +kernel) (by decide +kernel) ?_ | with_reducible refine go_niTf (by decide +kernel) (by decide +kernel) ?_)
  | (with_reducible refine an_le ?hh ?_; case hh => (first | decide | (simp only [List.length_cons, List.length_nil]; omega)))
  | (with_reducible refine an_rng ?hh ?_; case hh => (first | decide | omega))
  | (with_reducible refine an_rng2 ?hh ?_; case hh => (first | decide | omega))
  | fail)
local macro_rules | `(tactic| walk_at "gg_Bp1") => `(tactic| repeat' (first | walk_at "g1_Bp1" | walk_at "g2_Bp1"))

/-- no cells, not deep, lists not long, real texts -/
structure Plain (n : Nat) (d : D) : Prop where
  f : d.fine n = true
  t : tame n d = true
theorem tameA_mem {n : Nat} : ∀ {xs : List D}, tameA n xs = true → ∀ x ∈ xs, tame n x = true
  | [], _, x, h => by cases h
  | y :: r, h, x, hx => by
    rw [tameA, Bool.and_eq_true] at h
    rcases List.mem_cons.mp hx with rfl | hx
    · exact h.1
    · exact tameA_mem h.2 x hx
theorem Plain.tup {n : Nat} {ds : List D} (h : Plain (n + 1) (.tup ds)) : ds.length ≤ 16777216 ∧ ∀ x ∈ ds, Plain n x := by
  have h1 := h.f
  have h2 := h.t
  rw [D.fine, Bool.and_eq_true] at h1
  rw [tame] at h2
  exact ⟨of_decide_eq_true h1.1, fun x hx => ⟨fineA_mem h1.2 x hx, tameA_mem h2 x hx⟩⟩
section
variable {X : EX} {Q : D → Wd → Prop} {w w0 : Wd} {n m b : Nat} {σ : En} {i j k : Int} {d : D}
end
end Bk

set_option Elab.async false
set_option linter.all false
set_option autoImplicit false
set_option maxRecDepth 100000
set_option maxHeartbeats 4000000
/-! Sx1: own error classes over any of three built-in ones: their attributes kept, the errors made. -/
namespace Si
open PySem PySem.W PySem.Calls PyProof.Rows L2
theorem refT_split {tl l : List Value} (h : refT tl l = true) : (∃ c r, l = .ref c :: r ∧ refT tl r = true) ∨ l = tl := by
  unfold refT at h
  split at h
  · exact .inl ⟨_, _, rfl, h⟩
  · exact .inr (by simpa using h)
/-- a built-in base of own errors -/
structure Bse (B nid iid : String) (tl : List Value) : Prop where
  f : ExcBaseFacts B nid iid tl
  p : ∀ z : Value, refuseLoop z "__setattr__" tl = pure ()
  o : tl.contains (.type "object") = true
theorem bse_V : Bse "ValueError" "ValueError.__new__" "ValueError.__init__" [.type "ValueError", .type "Exception", .type "BaseException", .type "object"] := ⟨PySem.F.excBase_ValueError, PySem.F.store_ValueError.passes, by decide +kernel⟩
theorem bse_L : Bse "LookupError" "LookupError.__new__" "LookupError.__init__" [.type "LookupError", .type "Exception", .type "BaseException", .type "object"] := ⟨PySem.F.excBase_LookupError, PySem.F.store_LookupError.passes, by decide +kernel⟩
theorem bse_I : Bse "IndexError" "IndexError.__new__" "IndexError.__init__" [.type "IndexError", .type "LookupError", .type "Exception", .type "BaseException", .type "object"] := ⟨PySem.F.excBase_IndexError, PySem.F.store_IndexError.passes, by decide +kernel⟩
section
variable {B nid iid : String} {tl : List Value}
theorem refT_pass (b : Bse B nid iid tl) (z : Value) : ∀ {l : List Value}, refT tl l = true → refuseLoop z "__setattr__" l = pure ()
  | [], e => by
    rcases refT_split e with ⟨_, _, q, _⟩ | q
    · cases q
    · rw [q]; exact b.p z
  | v :: r, e => by
    rcases refT_split e with ⟨c, r', q, h⟩ | q
    · cases q
      rw [refuseLoop_ref]
      exact refT_pass b z h
    · rw [q]; exact b.p z
theorem refT_has (X : String) : ∀ {l : List Value}, refT tl l = true → l.contains (.type X) = tl.contains (.type X)
  | [], e => by
    rcases refT_split e with ⟨_, _, q, _⟩ | q
    · cases q
    · rw [q]
  | v :: r, e => by
    rcases refT_split e with ⟨c, r', q, h⟩ | q
    · cases q
      rw [List.contains_cons, refT_has X h]
      rfl
    · rw [q]
theorem refT_ne (b : Bse B nid iid tl) {l : List Value} (e : refT tl l = true) : l.isEmpty = false := by
  have h := (refT_has "object" e).trans b.o
  cases l with
  | nil => cases h
  | cons _ _ => rfl
end
section
open Builtin Builtin.ObjectAttr
variable {prog : Program} {w : World} {A : Around} {R : Result → Shared → Prop} {hp : Heap} {g : Array GenState} {d : Drawn} {t : Nat} {os : OsState} {B nid iid : String} {tl : List Value}
/-- the first attribute of an error -/
theorem osaN {K : W.Frag} {name : Str} {tk : Tok} {v : Value} {x C : Addr} {fv : Array Value} {nm qn : Str} {bs mro : List Value} {ns : Addr} {sn : List Str} {sb : List Value} {ab : Bool} {col : Option Bool} (b : Bse B nid iid tl) (X : K.In hp) (hx : hp.get? x = some { cls := .ref C, data := .fields fv })
    (hcd : W.clsIn K C = some ⟨nm, bs, mro, ns, qn, true, sn, sb, ab, col, false⟩) (hm : refT tl mro = true) (ha : W.findIn K (.ref C) name = some none)
    (hq : ∀ h' tk' dx, (∀ k o, k ≠ x → hp.get? k = some o → h'.get? k = some o) → hp.objs.size ≤ dx → dx ≠ x → h'.get? x = some { cls := .ref C, dict := some dx, data := .fields fv } → h'.Ns1 dx (fun y => if y = name then some v else none) → R (.ok (.ret .none)) ⟨h', g, d, tk', os⟩) :
    codeAny (model prog w) A (.call (.builtin "object.__setattr__") ⟨[.ref x, .str name tk, v], []⟩) R ⟨hp, g, d, t, os⟩ := by
  have I : W.InstAt hp x { cls := .ref C, data := .fields fv } C none := ⟨hx, rfl, rfl, trivial⟩
  have SO := PySem.F.store_object
  have nx : x ≠ hp.objs.size := Nat.ne_of_lt (Heap.lt_size hx)
  have isO : W.Looks (model prog w) hp (isInstance (.ref x) (.type "object")) true := I.type.andThen (W.looks_mroIn X (by
    unfold W.mroIn
    rw [hcd, Option.bind_some, if_neg (by rw [refT_ne b hm]; decide), (refT_has "object" hm).trans b.o]))
  have row : W.Looks (model prog w) hp (mroOf (.ref C)) mro := (W.looks_clsIn X hcd).andThen .now
  have noT : W.Looks (model prog w) hp (storeTaker? none) none := .now
  have dat := W.looks_clsIn (M := model prog w) X hcd
  refine codeAny_call_builtin SO.slot.plain SO.entry
    (@W.check_slot (model prog w) _ _ ⟨hp, g, d, t, os⟩ "object.__setattr__" "object" "__setattr__" (.ref x) [.str name tk, v] [] _
      SO.kind SO.split isO (SO.args (.ref x) (.str name tk) v) ?_)
  rw [W.osa_eq, refuse_eq]
  refine wpAny_bind (wpAny_bind (I.type.at (wpAny_bind (row.at ?_))))
  rw [refT_pass b _ hm]
  refine wpAny_pure (wpAny_bind (I.type.at ?_))
  refine wpAny_bind ((W.looks_findIn X ha).at (wpAny_bind (noT.at ?_)))
  show wpAny _ _ (storeInOwnDict (.ref x) (.ref C) (.str name tk) name v false) _ _ _
  unfold storeInOwnDict ownDictForStores
  repeat (first
    | with_reducible refine PySem.HandSPX.store_in_new ?_ ?_
    | with_reducible refine wpAny_loadPart_at hx ?_
    | with_reducible refine dat.at ?_
    | wp_step)
  · exact ⟨_, #[], _,
      (Heap.get?_update_ne _ _ _ _ nx.symm).trans
        (Heap.get?_push_at rfl rfl),
      rfl, fun e he => absurd he (by simp), fun _ => rfl⟩
  intro h' tk' hn' hs
  have up : (hp.push { cls := .type "dict", data := .dict #[] }).get? x = some { cls := .ref C, data := .fields fv } := Heap.get?_push_of_some _ hx
  refine hq h' tk' hp.objs.size (fun k o hk ho => ?_) (Nat.le_refl _) nx.symm ((hs.2 x nx).trans (Heap.get?_update_self _ up rfl)) hn'
  have e1 := hs.2 k (Nat.ne_of_lt (Heap.lt_size ho))
  rw [e1, Heap.get?_update_ne _ _ _ _ hk]
  exact Heap.get?_push_of_some _ ho
/-- a further attribute of an error -/
theorem osaO {K : W.Frag} {name : Str} {tk : Tok} {v : Value} {x C dx : Addr} {fv : Array Value} {m0 : Str → Option Value} {nl : List Str} {nm qn : Str} {bs mro : List Value} {ns : Addr} {sn : List Str} {sb : List Value} {ab : Bool} {col : Option Bool} (b : Bse B nid iid tl) (X : K.In hp) (hx : hp.get? x = some { cls := .ref C, dict := some dx, data := .fields fv })
    (hns : hp.Ns1 dx m0) (hw : Within m0 nl) (hz : nl.length ≤ 1000)
    (hcd : W.clsIn K C = some ⟨nm, bs, mro, ns, qn, true, sn, sb, ab, col, false⟩) (hm : refT tl mro = true) (ha : W.findIn K (.ref C) name = some none)
    (hq : ∀ h' tk', (∀ k o, k ≠ dx → hp.get? k = some o → h'.get? k = some o) → h'.Ns1 dx (fun y => if y = name then some v else m0 y) → R (.ok (.ret .none)) ⟨h', g, d, tk', os⟩) :
    codeAny (model prog w) A (.call (.builtin "object.__setattr__") ⟨[.ref x, .str name tk, v], []⟩) R ⟨hp, g, d, t, os⟩ := by
  obtain ⟨oD, _, _, hoD, _, _⟩ := hns.count hw
  have I : W.InstAt hp x { cls := .ref C, dict := some dx, data := .fields fv } C (some oD) := ⟨hx, rfl, rfl, hoD⟩
  have SO := PySem.F.store_object
  have isO : W.Looks (model prog w) hp (isInstance (.ref x) (.type "object")) true := I.type.andThen (W.looks_mroIn X (by
    unfold W.mroIn
    rw [hcd, Option.bind_some, if_neg (by rw [refT_ne b hm]; decide), (refT_has "object" hm).trans b.o]))
  have row : W.Looks (model prog w) hp (mroOf (.ref C)) mro := (W.looks_clsIn X hcd).andThen .now
  have noT : W.Looks (model prog w) hp (storeTaker? none) none := .now
  have dat := W.looks_clsIn (M := model prog w) X hcd
  refine codeAny_call_builtin SO.slot.plain SO.entry
    (@W.check_slot (model prog w) _ _ ⟨hp, g, d, t, os⟩ "object.__setattr__" "object" "__setattr__" (.ref x) [.str name tk, v] [] _
      SO.kind SO.split isO (SO.args (.ref x) (.str name tk) v) ?_)
  rw [W.osa_eq, refuse_eq]
  refine wpAny_bind (wpAny_bind (I.type.at (wpAny_bind (row.at ?_))))
  rw [refT_pass b _ hm]
  refine wpAny_pure (wpAny_bind (I.type.at ?_))
  refine wpAny_bind ((W.looks_findIn X ha).at (wpAny_bind (noT.at ?_)))
  show wpAny _ _ (storeInOwnDict (.ref x) (.ref C) (.str name tk) name v false) _ _ _
  unfold storeInOwnDict ownDictForStores
  repeat (first
    | with_reducible refine PySem.OEX.store_in_old hns hw hz ?_
    | with_reducible refine wpAny_loadPart_at hx ?_
    | with_reducible refine dat.at ?_
    | wp_step)
  intro h' tk' hn' hs
  exact hq h' tk' (fun k o hk ho => (hs.2 k hk).trans ho) hn'
end
/-! ### in the layer -/
/-- what the written part says of an own error class -/
structure OexB (K : PySem.W.Frag) (C : Addr) : Prop where
  cls : ∃ B nid iid tl nm q N bs bm sn sub ab col dd k0 k1 k2 k3 k5, Bse B nid iid tl ∧ K.lookup C = some (excClassObj nm q C N bs bm true sn sub ab col dd k0 k1 k2 k3 k5 nid) ∧ refT tl bm = true
  sa : PySem.W.findIn K (.ref C) "__setattr__" = some (some (.builtin "object.__setattr__"))
  exC : PySem.W.subIn K (.ref C) (.type "BaseException") = some true
  tyC : PySem.W.typeIn K (.ref C) = some (.type "type")
  kC : PySem.W.keepIn K (.ref C) = true
section
variable {X : Cx} {pins : List (Addr × Obj)} {σ : L2.St} {H : Hp} {s : Shared} {a C dx : Addr} {f : Str} {y : V} {u : Value} {fs : List (Str × V)} {Q : Unit → Shared → Prop} {E : Value → Shared → Prop} {A : Around}
theorem OexB.clsD {K : PySem.W.Frag} (T : OexB K C) : ∃ B nid iid tl nm q N bs bm sn sub ab col, Bse B nid iid tl ∧ refT tl (.ref C :: bm) = true ∧ PySem.W.clsIn K C = some ⟨nm, bs, .ref C :: bm, N, q, true, sn, sub, ab, col, false⟩ := by
  obtain ⟨B, nid, iid, tl, nm, q, N, bs, bm, sn, sub, ab, col, dd, k0, k1, k2, k3, k5, hB, hC, hbm⟩ := T.cls
  refine ⟨B, nid, iid, tl, nm, q, N, bs, bm, sn, sub, ab, col, hB, hbm, ?_⟩
  unfold PySem.W.clsIn
  rw [hC]
theorem setN (T : OexB X.K C) (I : Inv X pins σ H s) (e : H a = some (exo a C none)) (hno : PySem.W.findIn X.K (.ref C) f = some none) (ry : RelV y u)
    (h : ∀ d s', H d = none → d ≠ a → Inv X pins σ (upd (upd H d (exd d [(f, y)])) a (exo a C (some d))) s' → Q () s') : wpAny (model X.prog X.w) A (setAttr (.ref a) f u) Q E s := by
  obtain ⟨B, nid, iid, tl, nm, q, N, bs, bm, sn, sub, ab, col, hB, hbm, hcl⟩ := T.clsD
  obtain ⟨t1, ho⟩ := exo_at I.hok e
  obtain ⟨hp, g, dr, t, os⟩ := s
  refine PySem.W.set_plain I.kIn (od := none) ⟨ho, rfl, rfl, trivial⟩ T.sa ?_
  refine osaN hB I.kIn ho hcl hbm hno fun h' tk' d keep big ne hx hn => ?_
  have fresh : H d = none := I.hok.fresh big
  have notd : ∀ {k : Addr} {o : Obj}, hp.get? k = some o → k ≠ d := fun z => Nat.ne_of_lt (Nat.lt_of_lt_of_le (Heap.lt_size z) big)
  have nota : ∀ {k : Addr}, H k = none → k ≠ a := fun {k} n z => (by rw [z, e] at n; cases n)
  have U : Un X.fs [] H (upd (upd H d (exd d [(f, y)])) a (exo a C (some d))) hp h' :=
    { keep := fun k o z n _ _ => keep k o (nota n) z
      slot := fun k o z n _ _ => ⟨o.slots, keep k o (nota n) z⟩
      free := fun k o z n _ => (by rw [upd_ne (nota n), upd_ne (notd z)]; exact n)
      there := fun k o z _ => (by
        by_cases hk : k = a
        · rw [hk]; exact ⟨_, hx⟩
        · exact ⟨o, keep k o hk z⟩)
      tups := fun k xs z => (by rw [upd_ne (at_ne e z exo_tup), upd_ne (ne_of_none z fresh)]; exact z)
      frzs := fun k o v z => (by rw [upd_ne (at_ne e z exo_frz), upd_ne (ne_of_none z fresh)]; exact z)
      tbls := fun k ps z => ⟨#[], (by rw [upd_ne (at_ne e z exo_tbl), upd_ne (ne_of_none z fresh), z]; simp)⟩ }
  refine h d _ fresh ne (I.un (t' := tk') U fun k o z => ?_)
  by_cases hk : k = a
  · subst hk
    rw [upd_same] at z
    cases z
    exact exo_ok hx
  rw [upd_ne hk] at z
  by_cases hd : k = d
  · subst hd
    rw [upd_same] at z
    cases z
    exact exd_ok hn (relO_put (fs := []) ry fun _ => trivial)
  rw [upd_ne hd] at z
  refine (I.hok k o z).stay (fun c v hc z2 => ?_) (fun c hc => ?_) (fun c xs hc => ?_)
  · refine keep c v ?_ z2
    rcases hc with hc | hc
    · rw [hc]; exact hk
    · exact at_ne e hc exo_own
  · rw [upd_ne (at_ne e hc exo_own), upd_ne (ne_of_none hc fresh)]; exact hc
  · rw [upd_ne (at_ne e hc exo_tup), upd_ne (ne_of_none hc fresh)]; exact hc
theorem setO (T : OexB X.K C) (I : Inv X pins σ H s) (e : H a = some (exo a C (some dx))) (ed : H dx = some (exd dx fs)) (hl : fs.length ≤ 900) (hno : PySem.W.findIn X.K (.ref C) f = some none) (ry : RelV y u)
    (h : ∀ s', Inv X pins σ (upd H dx (exd dx ((f, y) :: fs))) s' → Q () s') : wpAny (model X.prog X.w) A (setAttr (.ref a) f u) Q E s := by
  obtain ⟨B, nid, iid, tl, nm, q, N, bs, bm, sn, sub, ab, col, hB, hbm, hcl⟩ := T.clsD
  obtain ⟨t1, ho⟩ := exo_at I.hok e
  obtain ⟨mA, hns, rel⟩ := exd_at I.hok ed
  have hw := within_of rel
  obtain ⟨hp, g, dr, t, os⟩ := s
  obtain ⟨oD, _, _, hoD, _, _⟩ := hns.count hw
  refine PySem.W.set_plain I.kIn (od := some oD) ⟨ho, rfl, rfl, hoD⟩ T.sa ?_
  refine osaO hB I.kIn ho hns hw (by rw [List.length_map]; omega) hcl hbm hno fun h' tk' keep hn => h _ ?_
  refine I.write (t' := tk') (x := dx) (e := dx) (o := exd dx ((f, y) :: fs)) (by rw [ed]; trivial) (.inl rfl) keep ?_ (exd_ok hn (relO_put ry rel))
  obtain ⟨o, _, _, e', _⟩ := hn
  exact ⟨o, e'⟩
end
/-! readings and rules -/
/-- self.f = e, on an error -/
def tOsB (K : PySem.W.Frag) (f : Str) (to te : TE) : TS := fun D σ H => te σ H fun y H1 => to σ H1 fun x H2 =>
  ∃ a C : Addr, x = .ref a ∧ OexB K C ∧ PySem.W.findIn K (.ref C) f = some none ∧
    ((H2 a = some (exo a C none) ∧ ∀ d, H2 d = none → d ≠ a → D.nx σ (upd (upd H2 d (exd d [(f, y)])) a (exo a C (some d)))) ∨
     (∃ (d : Addr) (fs : List (Str × V)), H2 a = some (exo a C (some d)) ∧ H2 d = some (exd d fs) ∧ fs.length ≤ 900 ∧ D.nx σ (upd H2 d (exd d ((f, y) :: fs)))))
section
variable {X : Cx} {o e : Expr} {es : List Expr} {to te : TE} {ta : TA} {f : Str} {p p' pos : Pos}
theorem ps_osB (ho : PE X o to) (he : PE X e te) (hs : swapsWith e (some (.Attribute o f p')) pos.line X.env = pure false := by rfl) : PS X (.Assign [.Attribute o f p'] e pos) (tOsB X.K f to te) := by
  constructor
  intro pins s σ H D I h
  refine plainObj_wpAny_Assign_Attribute ?_ hs
  refine thn (he.run pins s σ H _ I h) fun v s1 ⟨y, H1, I1, ry, q1⟩ => ?_
  refine thn (ho.run pins s1 σ H1 _ I1 q1) fun u s2 ⟨x, H2, I2, rx, a, C, ex, T, hno, q⟩ => ?_
  subst ex
  obtain rfl : u = Value.ref a := rx
  rcases q with ⟨ea, q⟩ | ⟨d, fs, ea, ed, hl, q⟩
  · exact setN T I2 ea hno ry fun d s' n ne J => ⟨σ, _, J, q d n ne⟩
  · exact setO T I2 ea ed hl hno ry fun s' J => ⟨σ, _, J, q⟩
/-- the call of an own error class -/
theorem mkB_call {CX : CXT} {C fI : Addr} {k : Nat} {fd : FuncData} {ps : List Str} {sp : L2.Sp} {pins : List (Addr × Obj)} {σ : L2.St} {H1 : Hp} {Q : XK} {us : List Value} {vs : List V} {s1 : Shared} (T : OexB X.K C) (iC : PySem.W.findIn X.K (.ref C) "__init__" = some (some (.ref fI))) (tI : PySem.W.typeIn X.K (.ref fI) = some (.type "function"))
    (F1 : FnOk X.prog X.w X.K X.mg X.base CX k fI fd ps sp) (hr : Room (k + 1) X.A) (hb : Binds X.K fd ps []) (hx : Passes CX X (fun _ _ _ => False)) (I1 : Inv X pins σ H1 s1) (r1 : Vals vs us) (hus : us.length ≤ 1000)
    (q1 : ∀ a, H1 a = none → sp (.ref a :: (vs ++ [])) (upd H1 a (exo a C none)) (fun v H2 => v = .non ∧ ∃ (d : Addr) (fs : List (Str × V)), H2 a = some (exo a C (some d)) ∧ H2 d = some (exd d fs) ∧ H1 d = none ∧ Q (.ref C) (some d) (upd (L2.del H2 a) d (.xd fs))) (fun _ _ _ => False)) :
    wpAny (model X.prog X.w) X.A (call (.ref C) us) (MkP X pins σ Q) X.xe s1 := by
  obtain ⟨B, nid, iid, tl, nm, q, N, bs, bm, sn, sub, ab, col, dd, k0, k1, k2, k3, k5, hB, hC, hbm⟩ := T.cls
  obtain ⟨hp, g, dr, tk, os⟩ := s1
  have one : hp.objs.size ≤ hp.objs.size + 1 := Nat.le_succ _
  have fresh : H1 (hp.objs.size + 1) = none := I1.hok.fresh one
  have hq := q1 (hp.objs.size + 1) fresh
  have keep : ∀ b o, hp.get? b = some o → ((hp.push (PySem.W.kdv_tup us)).push (PySem.HandSPX.excO C hp.objs.size)).get? b = some o :=
    fun b o e => Heap.get?_push_of_some _ (Heap.get?_push_of_some _ e)
  have made : ((hp.push (PySem.W.kdv_tup us)).push (PySem.HandSPX.excO C hp.objs.size)).get? (hp.objs.size + 1) = some (PySem.HandSPX.excO C hp.objs.size) := by
    heap_get
  have I2 : Inv X pins σ (upd H1 (hp.objs.size + 1) (exo (hp.objs.size + 1) C none)) ⟨(hp.push (PySem.W.kdv_tup us)).push (PySem.HandSPX.excO C hp.objs.size), g, dr, tk, os⟩ :=
    I1.laid (t' := tk) keep one (exo_ok made)
  have r2 : Vals (V.ref (hp.objs.size + 1) :: (vs ++ [])) (Value.ref (hp.objs.size + 1) :: us ++ []) := .cons rfl (r1.append .nil)
  have hl : (Value.ref (hp.objs.size + 1) :: us ++ []).length = ps.length := by
    rw [← F1.len _ _ _ _ hq]
    exact r2.length.symm
  have line : us.length ≤ sizeLine := by
    rw [sizeLine_eq]
    omega
  refine wpAny_call (PySem.HandSPX.call_own hB.f (fun Y => refT_has Y hbm) (I1.kIn _ _ hC) (PySem.W.looks_findIn I1.kIn iC) (fun z => PySem.W.bind_fn I1.kIn z tI) line
    (codeAny_mono
      (F1.run _ X.stack _ _ ⟨Value.ref (hp.objs.size + 1) :: us, []⟩
        (Value.ref (hp.objs.size + 1) :: us ++ []) _ _ (fun _ _ _ => False) (hr.make C us [])
        (I2.env0.make C us []) (hb _ (Value.ref (hp.objs.size + 1) :: us) I2.kIn hl :) r2 hq)
      fun r s' hq' => ?_))
  match r, hq' with
  | .error er, hq' => exact hx pins σ _ _ er s' I2 hq'
  | .ok (.ret u), hq' =>
    obtain ⟨v, H2, os2, bare2, un2, hok2, rv, ev, d, fs, ea, ed, hd1, q2⟩ := hq'
    subst ev
    obtain ⟨h2, g2, d2, t2, os'⟩ := s'
    exact ⟨rv, mk_end (raises_own T.exC T.tyC) I1 one keep un2 hok2 os2 bare2 ea ed hd1 q2⟩
  | .ok .next, hq' => exact False.elim hq'
  | .ok .brk, hq' => exact False.elim hq'
  | .ok .cont, hq' => exact False.elim hq'
theorem pmkB {CX : CXT} {x : Str} {C fI : Addr} {k : Nat} {fd : FuncData} {ps : List Str} {sp : L2.Sp} (T : OexB X.K C) (iC : PySem.W.findIn X.K (.ref C) "__init__" = some (some (.ref fI))) (tI : PySem.W.typeIn X.K (.ref fI) = some (.type "function"))
    (F1 : FnOk X.prog X.w X.K X.mg X.base CX k fI fd ps sp) (hr : Room (k + 1) X.A) (hb : Binds X.K fd ps []) (hx : Passes CX X (fun _ _ _ => False)) (hg : Gl X x) (hm : X.mg x = some (.ref C)) (ha : PA X (e :: es) ta)
    (hdb : (x == ("__debug__" : Str)) = false := by decide) (he : starEach (e :: es) X.env = (false, eval e X.env) :: starEach es X.env := by rfl) (hpl : (backTo pos (starEach es X.env)).any (·.1) = false := by rfl) :
    PMk X (.Call (.Name x p) (e :: es) [] pos) (tMkO C sp [] ta) := fun pins s σ H Q I h => by
  refine wpAny_Call_Name_kw (ld_glob I hg hm ?_ hdb)
  refine PySem.W.callWith_K (h₀ := X.base) I.ok.mod.kin T.kC (thn (ha.run pos pins s σ H _ I h) fun us s1 ⟨vs, H1, I1, r1, hz, q1⟩ => ⟨I1.kIn, ?_⟩) he hpl
  exact mkB_call T iC tI F1 hr hb hx I1 r1 (by have e : _ = _ := Paired.length r1; have hz : vs.length ≤ 1000 := hz; rw [List.nil_append]; omega) q1
end
end Si

set_option Elab.async false
set_option linter.all false
set_option autoImplicit false
set_option maxRecDepth 100000
set_option maxHeartbeats 4000000
/-! Si33: own error classes: raise, and a clause that names three classes. -/
namespace Si
open PySem L2 PyProof.Rows
/-- an own error class: code and one attribute f -/
structure ErrC (K : PySem.W.Frag) (cl : Str → Option Addr) (c f : Str) (C : Addr) : Prop where
  T : OexB K C
  e : cl c = some C
  n1 : PySem.W.findIn K (.ref C) "code" = some none
  n2 : PySem.W.findIn K (.ref C) f = some none
/-- its __init__ gives both -/
def spErr (c f : Str) (C : Addr) : Sp := fun vs H Q _ => ∃ (a : Addr) (v : V), vs = [.ref a, v] ∧ H a = some (exo a C none) ∧
  ∀ dx, H dx = none → dx ≠ a → Q .non (upd (upd (upd H dx (exd dx [("code", .str c)])) a (exo a C (some dx))) dx (exd dx [(f, v), ("code", .str c)]))
theorem err_init {P : Program} {w : World} {K : PySem.W.Frag} {cl : Str → Option Addr} {mg : Str → Option Value} {base : Heap} {c f x qual : Str} {C fI : Addr} {st : Stmt} {fd : FuncData} {j : Nat} {p1 p2 p3 p4 p5 p6 p7 p8 : Pos}
    (F : Fun K "__init__" qual st fI fd) (S : FnScope ["self", x] ["self", x] (defScope st)) (E : ErrC K cl c f C) (hx : (x == ("__debug__" : Str)) = false) (hy : (x == ("__classdict__" : Str)) = false)
    (v1 : Vis (defScope st) "self") (v2 : Vis (defScope st) x)
    (hb : defBody st = [.Assign [.Attribute (.Name "self" p1) "code" p2] (.Constant (.str c) j p3) p4, .Assign [.Attribute (.Name "self" p5) f p6] (.Name x p7) p8]) :
    FnOk P w K mg base (L2.CX P w) 1 fI fd ["self", x] (spErr c f C) := by
  refine F.okX S (fun vs H Q E ⟨a, v, e, _⟩ => by rw [e]; rfl) (fun cdv A outer s H vs Q EK hr h => ?_)
  obtain ⟨a, v, rfl, ha, q⟩ := h
  rw [hb]
  refine ⟨_, pss_cons (ps_osB (pe_var (i := 0) rfl v1) pe_str) (pss_one (ps_osB (pe_var (i := 0) rfl v1) (pe_var (i := 1) rfl v2 hx hy))), ?_⟩
  refine ⟨.ref a, rfl, a, C, rfl, E.T, E.n1, .inl ⟨ha, fun dx h1 h2 => ?_⟩⟩
  have e1 : upd (upd H dx (exd dx [("code", .str c)])) a (exo a C (some dx)) dx = some (exd dx [("code", .str c)]) := by rw [upd_ne h2, upd_same]
  exact ⟨v, rfl, .ref a, rfl, a, C, rfl, E.T, E.n2, .inr ⟨dx, _, upd_same, e1, by simp, q dx h1 h2⟩⟩
/-- an __init__ that gives the code alone -/
def spErr0 (c : Str) (C : Addr) : Sp := fun vs H Q _ => ∃ a : Addr, vs = [.ref a] ∧ H a = some (exo a C none) ∧
  ∀ dx, H dx = none → dx ≠ a → Q .non (upd (upd H dx (exd dx [("code", .str c)])) a (exo a C (some dx)))
/-- an __init__ that gives the code and two attributes -/
def spErr2 (c f g : Str) (C : Addr) : Sp := fun vs H Q _ => ∃ (a : Addr) (u v : V), vs = [.ref a, u, v] ∧ H a = some (exo a C none) ∧
  ∀ dx, H dx = none → dx ≠ a → Q .non (upd (upd (upd (upd H dx (exd dx [("code", .str c)])) a (exo a C (some dx))) dx (exd dx [(f, u), ("code", .str c)])) dx (exd dx [(g, v), (f, u), ("code", .str c)]))
section
variable {X : Cx} {cl : Str → Option Addr} {EK : XK} {e : Expr} {me : En → Wd → R D} {p pos pos' : Pos}
def mRaise (c f : Str) (me : En → Wd → R D) : En → Wd → SR := fun σd w => (me σd w).toS fun d w1 => .err c [(f, d), ("code", .str c)] w1
theorem ss_raise {c f x : Str} {C fI : Addr} {fd : FuncData} {k : Nat} (hc : X.calm = true) (tk : Takes X (fun cls d _ H => EK cls d H)) (E : ErrC X.K cl c f C) (iC : PySem.W.findIn X.K (.ref C) "__init__" = some (some (.ref fI))) (tI : PySem.W.typeIn X.K (.ref fI) = some (.type "function"))
    (F1 : FnOk X.prog X.w X.K X.mg X.base (L2.CX X.prog X.w) k fI fd ["self", x] (spErr c f C)) (hr : Room (k + 1) X.A) (hb : Binds X.K fd ["self", x] []) (hg : Gl X c) (hm : X.mg c = some (.ref C)) (ha : SE X cl EK e me) (hdb : (c == ("__debug__" : Str)) = false := by decide)
    (hst : starEach [e] X.env = (false, eval e X.env) :: starEach [] X.env := by rfl) (hpl : (backTo pos (starEach [] X.env)).any (·.1) = false := by rfl) :
    SS X cl EK (.Raise (some (.Call (.Name c p) [e] [] pos)) none pos') (mRaise c f me) :=
  PS.weak (ps_raise hc tk (pmkB E.T iC tI F1 hr hb (passes_call tk fun _ _ _ _ h => h.elim) hg hm (pa_cons ha pa_nil hst) hdb hst hpl)) fun D σ H h => by
    obtain ⟨s, σd, e, ok, re, p⟩ := h
    subst e
    refine tG_of ok re (posts_bind p fun s' v d ex ok' r p' => ?_)
    refine ⟨by simp, fun a hna => ⟨a, v, by simp, upd_same, fun dx hdx hne => ⟨rfl, dx, _, ?_, upd_same, ?_, ?_⟩⟩⟩
    · rw [upd_ne (Ne.symm hne), upd_same]
    · rw [upd_ne hne] at hdx; exact hdx
    · rw [upd_ne hne] at hdx
      have eH : upd (L2.del (upd (upd (upd (upd s'.H a (exo a C none)) dx (exd dx [("code", .str c)])) a (exo a C (some dx))) dx (exd dx [(f, v), ("code", .str c)])) a) dx (.xd [(f, v), ("code", .str c)]) = (s'.frz dx (.xd [(f, v), ("code", .str c)])).H := by
        funext b
        show _ = upd s'.H dx _ b
        by_cases h1 : b = dx
        · rw [h1, upd_same, upd_same]
        · rw [upd_ne h1, upd_ne h1]
          by_cases h2 : b = a
          · rw [h2, del_same, hna]
          · rw [del_ne h2, upd_ne h1, upd_ne h2, upd_ne h1, upd_ne h2]
      rw [eH]
      have ex2 : Ext s' (s'.frz dx (.xd [(f, v), ("code", .str c)])) := S.frz_ext hdx
      exact p' _ _ _ ex2 (S.frz_ok ok' hdx) rfl ⟨C, dx, _, E.e, rfl, rfl, .inr rfl, upd_same, rfl, r.mono ok' ex2, rfl, .str c, trivial⟩
end
end Si

set_option Elab.async false
set_option linter.all false
set_option autoImplicit false
set_option maxRecDepth 100000
set_option maxHeartbeats 4000000
/-! Si34: a clause that names three classes and the exception; defs called with a pinned object. -/
namespace Si
open PySem L2 PyProof.Rows
section
variable {X : Cx} {x1 x2 x3 n : Str} {c1 c2 c3 : Value} {i kk : Nat} {body suite : List Stmt} {b₀ : Stmt} {q1 q2 q3 np pos pos' : Pos} {tb : WX → TS} {ts : Addr → Value → Option Addr → TS}
end
end Si

set_option Elab.async false
set_option linter.all false
set_option autoImplicit false
set_option maxRecDepth 100000
set_option maxHeartbeats 4000000
/-! Si35: defs called with a pinned exception; its attributes. -/
namespace Si
open PySem L2 L2H PyProof.Rows
structure FnP (P : Program) (w : World) (K : PySem.W.Frag) (mg : Str → Option Value) (base : Heap) (CX : CXT) (k : Nat) (f : Addr) (fd : FuncData) (ps : List Str) (p : Addr × Obj) (sp : Sp) : Prop where
  len : ∀ vs H Q E, sp vs H Q E → vs.length = ps.length
  run : ∀ (A : Around) (outer : List Env) (s : Shared) (H : Hp) (args : Args) (us : List Value) (vs : List V) (Q : VK) (E : XK), RoomH k A → PinOk outer H s p → Env0 P w K mg base A outer s H → BindsTo s fd args (ps.zip us) → Vals vs us → sp vs H Q E →
    codeAny (model P w) A (.call (.ref f) args) (CR CX outer P w H s Q E) s
section
variable {X : Cx} {CX : CXT} {k : Nat} {f C : Addr} {fd : FuncData} {ps : List Str} {sp : Sp} {E : XK} {x m : Str} {q pos apos : Pos} {e o : Expr} {es : List Expr} {ta : TE} {t : TA} {p : Addr × Obj}
end
/-! ### reckoning with the exception at a, its dict at dd -/
def JJ (a dd : Addr) (fs : List (Str × V)) (i : Nat) (s : S) (σ : L2.St) : Prop := σ[i]? = some (some (.ref a)) ∧ s.F dd ∧ s.H dd = some (.xd fs)
theorem JJ.mono {K : PySem.W.Frag} {cl : Str → Option Addr} {a dd : Addr} {fs : List (Str × V)} {i : Nat} {s s' : S} {σ : L2.St} (j : JJ a dd fs i s σ) (ok : Ok K cl s) (e : Ext s s') : JJ a dd fs i s' σ := ⟨j.1, e.F _ j.2.1, e.fr ok j.2.1 j.2.2⟩
section
variable {X : Cx} {cl : Str → Option Addr} {a dd C : Addr} {fs : List (Str × V)} {fD : List (Str × D)} {i : Nat} {oe : Obj} {x : Str} {px pa pos pos' : Pos} {d : D} {kk : Nat}
/-- what the rules ask of the context -/
structure JX (X : Cx) (a dd C : Addr) (oe : Obj) : Prop where
  hp : (a, oe) ∈ X.pn
  T : XfC X.K C
  hz : Zc (.ref C) (some dd) oe
  hf : ∃ vs, oe.data = .fields vs
end
end Si

set_option Elab.async false
set_option linter.all false
set_option autoImplicit false
set_option maxRecDepth 100000
set_option maxHeartbeats 4000000
/-! Si36: a lambda handed from def to def and called there. -/
namespace Si
open PySem L2 L2H LamX PyProof.Rows
/-- the function at f, seen from (s0, H0): wherever it is called, tl reckons -/
structure CB (P : Program) (w : World) (K : PySem.W.Frag) (mg : Str → Option Value) (base : Heap) (k : Nat) (f c' : Addr) (q : Str) (fr : List Addr) (s0 : Shared) (H0 : Hp) (tl : XK → Hp → VK → Prop) : Prop where
  fn : ∀ (s : Shared) (H : Hp), Un fr [] H0 H s0.heap s.heap → HOk P w H s.heap → PySem.W.FnAt f s.heap
  run : ∀ (A : Around) (outer : List Env) (s : Shared) (H : Hp) (Q : VK) (E : XK), Un fr [] H0 H s0.heap s.heap → Room k A → Env0 P w K mg base A outer s H → H c' = some (CodeO c' q) → tl E H Q →
    codeAny (model P w) A (.call (.ref f) ⟨[], []⟩) (CR (L2.CX P w) outer P w H s Q E) s
section
variable {X : Cx} {pins : List (Addr × Obj)} {σ : L2.St} {H : Hp} {s : Shared}
end
end Si

set_option Elab.async false
set_option linter.all false
set_option autoImplicit false
set_option maxRecDepth 100000
set_option maxHeartbeats 4000000
/-! Si37: a lambda is made; what the defs told its call's end make of it. -/
namespace Si
open PySem L2 L2H LamX PyProof.Rows
section
variable {X : Cx} {pins : List (Addr × Obj)} {σ : L2.St} {s : Shared} {K : PySem.W.Frag} {cl : Str → Option Addr}
end
end Si

set_option Elab.async false
set_option linter.all false
set_option autoImplicit false
set_option maxRecDepth 100000
set_option maxHeartbeats 4000000
/-! Si38: what a call answers, told: the defs that catch its errors. -/
namespace Si
open PySem L2 L2H LamX PyProof.Rows
/-- an error class as the catching def takes it: its one attribute is f -/
structure ErrT (K : PySem.W.Frag) (cl : Str → Option Addr) (cs : List Value) (c f : Str) (C : Addr) : Prop where
  e : cl c = some C
  T : XfC K C
  n1 : PySem.W.findIn K (.ref C) "code" = some none
  n2 : PySem.W.findIn K (.ref C) f = some none
  m : PySem.W.exmAny K (.ref C) cs = some true
  nf : (("code" : Str) == f) = false
  n3 : f = "first" → PySem.W.findIn K (.ref C) "last" = some none
/-- an error's attributes as they are kept, and as they are told -/
inductive ErrFs (c : Str) : Str → List (Str × D) → D → Prop
  | one {f : Str} {d : D} (h1 : f ≠ "") (h2 : f ≠ "first") : ErrFs c f [(f, d), ("code", .str c)] (.tup [d])
  | nil : ErrFs c "" [("code", .str c)] (.tup [])
  | two {d e : D} : ErrFs c "first" [("last", e), ("first", d), ("code", .str c)] (.tup [d, e])
/-- the attributes of the exception at p -/
def spFld (K : PySem.W.Frag) (cl : Str → Option Addr) (cs : List Value) (errs : List (Str × Str)) (p : Addr × Obj) : Sp := fun vs H Q _ => vs = [.ref p.1] ∧ (∃ us, p.2.data = .fields us) ∧
  ∃ (c f : Str) (C dd : Addr) (s : S) (vfs : List (Str × V)) (fD : List (Str × D)) (d : D), (c, f) ∈ errs ∧ ErrT K cl cs c f C ∧ Zc (.ref C) (some dd) p.2 ∧ s.H = H ∧ Ok K cl s ∧ s.F dd ∧ s.H dd = some (.xd vfs) ∧ RepF K s vfs fD ∧ ErrFs c f fD d ∧
    ∀ s' v, Ext s s' → Ok K cl s' → s'.w = s.w → Rep K s' v d → Q v s'.H
section
variable {P : Program} {w : World} {K : PySem.W.Frag} {cl : Str → Option Addr} {mg : Str → Option Value} {base : Heap} {errs : List (Str × Str)}
end
end Si

set_option Elab.async false
set_option linter.all false
set_option autoImplicit false
set_option maxRecDepth 100000
set_option maxHeartbeats 4000000
/-! Si39: x(lambda: e), x a def that asks the catching def. -/
namespace Si
open PySem L2 L2H LamX PyProof.Rows
/-- a def at g that is handed a function of no parameter, and answers what D1 says of the function's answer -/
def GotAt (P : Program) (w : World) (K : PySem.W.Frag) (cl : Str → Option Addr) (mg : Str → Option Value) (base : Heap) (kc kr : Nat) (g : Addr) (D1 : R D → R D) : Prop :=
  ∀ (A : Around) (outer : List Env) (s : Shared) (Q : VK) (f c' : Addr) (q : Str) (t : S) (σ : L2.St) (σd : En) (m : En → Wd → R D), Room kr A → Env0 P w K mg base A outer s t.H →
    CB P w K mg base kc f c' q (frs outer) s t.H (fun E HZ Q => tG K cl (Rep K) E m σ HZ Q) → t.H c' = some (CodeO c' q) → Ok K cl t → RepE K t σ σd → Post K cl (Rep K) E00 t (D1 (m σd t.w)) Q →
    codeAny (model P w) A (.call (.ref g) ⟨[.ref f], []⟩) (CR C8.CX0 outer P w t.H s Q C8.E0) s
section
variable {P : Program} {w : World} {K : PySem.W.Frag} {cl : Str → Option Addr} {mg : Str → Option Value} {base : Heap}
end
section
variable {X : Cx} {cl : Str → Option Addr} {EK : XK} {m : En → Wd → R D} {D1 : R D → R D}
end
end Si

set_option Elab.async false
set_option linter.all false
set_option autoImplicit false
set_option maxRecDepth 100000
set_option maxHeartbeats 4000000
/-! Si40: the end of a law that makes lambdas: its code object's table is a cell. -/
namespace Si
open PySem L2 LamX PyProof.Rows
/-- the class names, and the table of the lambdas named q -/
def clsT (q : Str) (Pt : Addr) (K : PySem.W.Frag) : Str → Option Addr := fun x => if x = q then some Pt else clsAt K x
theorem clT_clO {K : PySem.W.Frag} {q c : Str} {C Pt : Addr} (h : ClO K (clsAt K) c C) (ne : c ≠ q) : ClO K (clsT q Pt K) c C := ⟨h.c, by unfold clsT; rw [if_neg ne]; exact h.e⟩
theorem clT_q {K : PySem.W.Frag} {q : Str} {Pt : Addr} : clsT q Pt K q = some Pt := if_pos rfl
/-- the law's promise -/
def spLT (K : PySem.W.Frag) (Pt : Addr) : Sp := fun vs H Q E => ∃ (a : Addr) (ns : List Int), vs = [.ref a] ∧ ns.length ≤ 63 ∧ H Pt = some (.tbl #[]) ∧ SqL K H a (ns.map V.int) ∧ Q = (fun v _ => v = .bl true) ∧ E = fun _ _ _ => False
theorem lawT_ok {P : Program} {w : World} {K : PySem.W.Frag} {cl : Str → Option Addr} {mg : Str → Option Value} {base : Heap} {k : Nat} {f Pt : Addr} {fd : FuncData} {x q : Str} {G : List D → Wd → R D} (F : SF P w K cl mg base k f fd [x] G) (hcl : cl q = some Pt)
    (h : ∀ ns : List Int, ns.length ≤ 63 → ∃ w, G [.scr ns] [.tab q] = .ok (.bl true) w) : FnOk P w K mg base (L2.CX P w) k f fd [x] (spLT K Pt) := by
  have core : ∀ (H : Hp) (a : Addr) (ns : List Int), ns.length ≤ 63 → H Pt = some (.tbl #[]) → (∃ o, H a = some (.frz o (.lst (ns.map V.int)))) ∨ LK K a (ns.map V.int) → spOf K cl G [.ref a] H (fun v _ => v = .bl true) (fun _ _ _ => False) := by
    intro H a ns hl hP hS
    obtain ⟨w', e⟩ := h ns hl
    refine ⟨⟨fun b => H b ≠ none ∧ b ≠ Pt, [Pt], [.tab q], H⟩, [.scr ns], rfl, ?_, .cons (.scr ?_) .nil, ?_⟩
    · refine ⟨rfl, by simp, fun b hb => ?_, fun b hb => hb.1, fun n b m hn hm => ?_, fun b ⟨n, hn, _⟩ hb => ?_⟩
      · rw [List.mem_singleton.mp hb]; show H Pt ≠ none; rw [hP]; simp
      · match n, hn, hm with
        | 0, hn, hm =>
          cases hn
          cases hm
          exact ⟨hcl, #[], hP, trivial, fun pos cv hc => by
            have z : codeAmong pos [] = some cv := hc
            simp [codeAmong] at z⟩
      · match n, hn with
        | 0, hn =>
          cases hn
          exact hb.2 rfl
    · rcases hS with ⟨o, hS⟩ | hS
      · exact .inl ⟨⟨by show H a ≠ none; rw [hS]; simp, fun z => by
          rw [z, hP] at hS
          cases hS⟩, o, hS⟩
      · exact .inr hS
    · show Post K cl (Rep K) _ _ (G [.scr ns] [.tab q]) _
      rw [e]
      intro s' v _ _ _ rv
      cases rv
      rfl
  refine ⟨fun vs H Q E ⟨a, ns, e, _⟩ => by rw [e]; rfl, fun A outer s H args us vs Q E hr e0 hb r hsp => ?_⟩
  obtain ⟨a, ns, rfl, hl, hP, hS, rfl, rfl⟩ := hsp
  rcases hS with (hS | hS) | hS
  · obtain ⟨hlen, its, n, rv, ho⟩ := e0.hok a _ hS
    have ne : ∀ {b : Addr}, H b = none → b ≠ a := fun {b} n z => by rw [z, hS] at n; cases n
    have at_ : ∀ {b : Addr} {u : HO}, H b = some u → u ≠ .lst (ns.map V.int) → upd H a (.frz { cls := .type "list", data := .seq its.toArray n } (.lst (ns.map V.int))) b = some u := fun {b u} e n => by
      rw [upd_ne (fun z => n (by rw [z, hS] at e; exact (Option.some.inj e).symm))]; exact e
    have hP' := at_ hP (by simp)
    have no' : ∀ {b : Addr}, H b = none → upd H a (.frz { cls := .type "list", data := .seq its.toArray n } (.lst (ns.map V.int))) b = none := fun {b} e => by rw [upd_ne (ne e)]; exact e
    have e0' : Env0 P w K mg base A outer s (upd H a (.frz { cls := .type "list", data := .seq its.toArray n } (.lst (ns.map V.int)))) := by
      refine ⟨e0.frames, e0.mod, fun b o e => ⟨(e0.bs b o e).1, no' (e0.bs b o e).2⟩, e0.bsz, e0.funs, fun b hb => no' (e0.frf b hb), fun b u e => ?_, e0.bare⟩
      by_cases hba : b = a
      · subst hba
        rw [upd_same] at e
        cases e
        exact ⟨ho, hlen, its, n, rv, ho⟩
      · rw [upd_ne hba] at e
        exact (e0.hok b u e).stay (fun _ _ _ z => z) (fun c hc => at_ hc (by simp)) fun c xs hc => at_ hc (by simp)
    refine codeAny_mono (F.run A outer s _ args us [.ref a] _ _ hr e0' hb r (core _ a ns hl hP' (.inl ⟨_, upd_same⟩))) fun r s' hq => ?_
    cases r with
    | error e =>
      obtain ⟨_, _, _, _, _, _, _, _, _, _, _, _, z⟩ := (show L2.CX P w outer _ s _ e s' from hq)
      exact z.elim
    | ok fl =>
      cases fl with
      | ret u =>
        obtain ⟨v, H2, os, bare, un, hok, rv', qv⟩ := hq
        exact ⟨v, H2, os, bare, ⟨fun b o e n hb hx => un.keep b o e (no' n) hb hx, fun b o e n hb hx => un.slot b o e (no' n) hb hx, fun b o e n hx => un.free b o e (no' n) hx, un.there, fun b xs e => un.tups b xs (at_ e (by simp)), fun b o u e => un.frzs b o u (at_ e (by simp)), fun b ps e => un.tbls b ps (at_ e (by simp))⟩, hok, rv', qv⟩
      | next => exact False.elim hq
      | brk => exact False.elim hq
      | cont => exact False.elim hq
  · exact F.run A outer s H args us [.ref a] _ _ hr e0 hb r (core H a ns hl hP (.inl hS))
  · exact F.run A outer s H args us [.ref a] _ _ hr e0 hb r (core H a ns hl hP (.inr hS))
theorem walk_lawT {l : PySem.W.OpenLaw} {q : Program} {loose : List Str} {XP : (Str → Option Value) → Heap → Prop} {fa : List FB} {fn : List DefA} {ad : PySem.W.Frag → Addr} {d : DefRec} {k : Nat} {x ql : Str} {G : List D → Wd → R D}
    (hn : l.most = some 63) (hdf : d.params.defaults = []) (hr : Room k callerA) (hft : ∀ K, SaysA fa fn K → fTab ad K = true)
    (F : ∀ (w : World) (K : PySem.W.Frag) (mg : Str → Option Value) (f : Addr) (h : Heap) (p : Addr × Addr), K.In h → SaysA fa fn K → h.Ns mainGlobals mg → mg d.name = some (.ref f) → tabOf ad K = some p →
      ∃ fd : FuncData, (∀ (s : Shared) (u : Value), BindsTo s fd ⟨[u], []⟩ [(x, u)]) ∧ ∀ base : Heap, K.In base → base.Ns mainGlobals mg → TabB base mg p.1 p.2 → SF l.prog w K (clsT ql p.2 K) mg base k f fd [x] G)
    (h : ∀ ns : List Int, ns.length ≤ 63 → ∃ w, G [.scr ns] [.tab ql] = .ok (.bl true) w) :
    PySem.W.WalkO q loose XP (hookT fa fn ad).says l.row.toRowW d [] (fun f vs => PySem.call f vs) := by
  refine Att.attach_callB hn hdf fun w s₀ s₁ mg mb f o pm cd doc a vs ns G' Y ho hd hcd hmg hobj hints hlen hbits hg => ?_
  obtain ⟨K, KX, c, t⟩ := Y
  have c1 := hft K c
  unfold fTab at c1
  cases e : tabOf ad K with
  | none => rw [e] at c1; cases c1
  | some p =>
    rw [e] at c1
    obtain ⟨c2, c3⟩ := He.ba c1
    obtain ⟨fd, hb, hF⟩ := F w K mg f _ p KX c G'.T.g hmg e
    refine law_callTs (cs := [p]) (CX := L2.CX l.prog w) KX G'.T.g G'.T.b G'.T.builtins G'.T.nolimit hg (fun z hz => by rw [List.mem_singleton.mp hz]; exact t p e) (fun z hz => by rw [List.mem_singleton.mp hz]; exact Option.isNone_iff_eq_none.mp c3) (fun z hz => by rw [List.mem_singleton.mp hz]; exact PySem.W.codeHd_of_K KX c2)
      G'.T.bmain hobj hints (Nat.le_trans hlen (by decide)) hr (fun base X2 G2 TB => lawT_ok (hF base X2 G2 (TB p (List.mem_singleton.mpr rfl))) clT_q h) hb (fun H hH hS => ⟨a, ns, rfl, hlen, hH p (List.mem_singleton.mpr rfl), hS, rfl, rfl⟩) fun H e s' z => cx_false z
end Si

set_option Elab.async false
set_option linter.all false
set_option autoImplicit false
set_option maxRecDepth 100000
set_option maxHeartbeats 4000000
/-! Si41: raising, catching and lambda-making defs as they stand; facts of the top that they ask. -/
namespace Si
open PySem L2 L2H LamX PyProof.Rows
/-- an own error class c with the attribute f, its __init__'s parameter x -/
structure AtX (P : Program) (w : World) (K : PySem.W.Frag) (cl : Str → Option Addr) (mg : Str → Option Value) (base : Heap) (c f x : Str) (C fI : Addr) (fd : FuncData) : Prop where
  E : ErrC K cl c f C
  iC : PySem.W.findIn K (.ref C) "__init__" = some (some (.ref fI))
  tI : PySem.W.typeIn K (.ref fI) = some (.type "function")
  F1 : FnOk P w K mg base (L2.CX P w) 1 fI fd ["self", x] (spErr c f C)
  b : Binds K fd ["self", x] []
  g : mg c = some (.ref C)
/-- .. without an attribute -/
structure AtX0 (P : Program) (w : World) (K : PySem.W.Frag) (cl : Str → Option Addr) (mg : Str → Option Value) (base : Heap) (c f : Str) (C fI : Addr) (fd : FuncData) : Prop where
  E : ErrC K cl c f C
  iC : PySem.W.findIn K (.ref C) "__init__" = some (some (.ref fI))
  tI : PySem.W.typeIn K (.ref fI) = some (.type "function")
  F1 : FnOk P w K mg base (L2.CX P w) 1 fI fd ["self"] (spErr0 c C)
  b : Binds K fd ["self"] []
  g : mg c = some (.ref C)
/-- .. with two -/
structure AtX2 (P : Program) (w : World) (K : PySem.W.Frag) (cl : Str → Option Addr) (mg : Str → Option Value) (base : Heap) (c f h x y : Str) (C fI : Addr) (fd : FuncData) : Prop where
  E : ErrC K cl c f C
  iC : PySem.W.findIn K (.ref C) "__init__" = some (some (.ref fI))
  tI : PySem.W.typeIn K (.ref fI) = some (.type "function")
  F1 : FnOk P w K mg base (L2.CX P w) 1 fI fd ["self", x, y] (spErr2 c f h C)
  b : Binds K fd ["self", x, y] []
  g : mg c = some (.ref C)
structure AtG (P : Program) (w : World) (K : PySem.W.Frag) (cl : Str → Option Addr) (mg : Str → Option Value) (base : Heap) (kc kr : Nat) (x : Str) (ga : Addr) (D1 : R D → R D) : Prop where
  g : mg x = some (.ref ga)
  kp : PySem.W.keepIn K (.ref ga) = true
  ok : GotAt P w K cl mg base kc kr ga D1
structure AtFl (P : Program) (w : World) (K : PySem.W.Frag) (cl : Str → Option Addr) (mg : Str → Option Value) (base : Heap) (x y : Str) (cs : List Value) (errs : List (Str × Str)) (ga : Addr) (fd : FuncData) : Prop where
  g : mg x = some (.ref ga)
  kp : PySem.W.keepIn K (.ref ga) = true
  b : Binds K fd [y] []
  ok : ∀ p, FnP P w K mg base (L2.CX P w) 1 ga fd [y] p (spFld K cl cs errs p)
/-! ### facts -/
theorem fBse_ok {nid : String} {bm : List Value} (h : fBse nid bm = true) : ∃ B iid tl, Bse B nid iid tl ∧ refT tl bm = true := by
  unfold fBse at h
  rcases (Bool.or_eq_true _ _).mp h with h | h
  · obtain ⟨h1, h2⟩ := (Bool.and_eq_true _ _).mp h
    rw [of_decide_eq_true h2]
    exact ⟨_, _, _, bse_V, h1⟩
  rcases (Bool.or_eq_true _ _).mp h with h | h
  · obtain ⟨h1, h2⟩ := (Bool.and_eq_true _ _).mp h
    rw [of_decide_eq_true h2]
    exact ⟨_, _, _, bse_L, h1⟩
  · obtain ⟨h1, h2⟩ := (Bool.and_eq_true _ _).mp h
    rw [of_decide_eq_true h2]
    exact ⟨_, _, _, bse_I, h1⟩
theorem fOex_ok {K : PySem.W.Frag} {c : Str} (h : fOex c K = true) : OexB K (He.ga K c) := by
  obtain ⟨h1, h⟩ := He.ba h
  obtain ⟨h2, h⟩ := He.ba h
  obtain ⟨h3, h⟩ := He.ba h
  obtain ⟨h4, h5⟩ := He.ba h
  refine ⟨?_, He.eqO_ok h2, of_decide_eq_true h3, of_decide_eq_true h4, h5⟩
  split at h1
  · rename_i t dd nm bs C bm N q sn sub ab col sl hl
    obtain ⟨e1, g1⟩ := He.ba h1
    obtain ⟨e2, g2⟩ := He.ba g1
    have e1 := of_decide_eq_true e1
    have e2 := of_decide_eq_true e2
    clear h1 g1
    subst e1
    subst e2
    split at g2
    · rename_i k0 k1 k2 k3 nid k5 hs
      have es : sl = #[k0, k1, k2, k3, some (.builtin nid), k5] := by
        rw [← Array.toArray_toList (xs := sl), hs]
      subst es
      obtain ⟨B, iid, tl, hB, ht⟩ := fBse_ok g2
      exact ⟨B, nid, iid, tl, nm, q, N, bs, bm, sn, sub, ab, col, dd, k0, k1, k2, k3, k5, hB, hl, ht⟩
    · cases g2
  · cases h1
theorem err_C {K : PySem.W.Frag} {q c f : Str} {Pt : Addr} (g : fGlo c K = true) (h1 : fOex c K = true) (h2 : fNoat c "code" K = true) (h3 : fNoat c f K = true) (ne : c ≠ q) : ErrC K (clsT q Pt K) c f (He.ga K c) :=
  ⟨fOex_ok h1, by unfold clsT; rw [if_neg ne]; exact glo_cl g, He.noat_ok h2, He.noat_ok h3⟩
end Si

set_option Elab.async false
set_option linter.all false
set_option autoImplicit false
set_option maxRecDepth 100000
set_option maxHeartbeats 4000000
/-! Si42: lambdas with one parameter that stands for a whole number, or none: made, kept as cells. -/
namespace Si
open PySem L2 L2H LamX PyProof.Rows
/-- no name of its own but the parameters, which the def's slots do not know -/
structure LamS3 (N : List Str) (sc scope : Scope) (ps : List Str) : Prop where
  kind : scope.kind = .function
  co : scope.isCoroutine = false
  gen : scope.isGenerator = false
  cel : ∀ y ∈ scope.names, y.2 ≠ .cell
  own : ∀ y ∈ scope.names, y.2 = .local → y.1 ∉ N
  par : ∀ y ∈ ps, scope.names.lookup y = some .local
  free : ∀ y ∈ scope.names, y.2 = .free → sc.names.lookup y.1 = some .cell ∨ sc.names.lookup y.1 = some .free
/-- the value that stands for the parameter -/
def DvOk (t : S) (dv : Option Int) (dV : Value) : Prop := match dv with
  | none => dV = .none
  | some i => ∃ a, dV = .ref a ∧ t.F a ∧ t.H a = some (.tup [.int i])
theorem DvOk.mono {K : PySem.W.Frag} {cl : Str → Option Addr} {t t1 : S} {dv : Option Int} {dV : Value} (h : DvOk t dv dV) (ok : Ok K cl t) (e : Ext t t1) : DvOk t1 dv dV := by
  cases dv with
  | none => exact h
  | some i => obtain ⟨a, e1, e2, e3⟩ := h; exact ⟨a, e1, e.F _ e2, e.fr ok e2 e3⟩
section
variable {X : Cx} {pins : List (Addr × Obj)} {σ : L2.St} {s : Shared} {K : PySem.W.Frag} {cl : Str → Option Addr}
/-- what the default of the one parameter is -/
def Dflt (params : Arguments) : Option Int → Prop
  | none => params.defaults = []
  | some i => ∃ (j : Nat) (p : Pos), params.defaults = [.Constant (.int i) j p]
end
end Si

set_option Elab.async false
set_option linter.all false
set_option autoImplicit false
set_option maxRecDepth 100000
set_option maxHeartbeats 4000000
/-! Si43: such a lambda called by the def that it was handed to. -/
namespace Si
open PySem L2 L2H LamX PyProof.Rows PySem.W
/-- what the call of no arguments binds -/
def BindD (params : Arguments) (body : Expr) (scope : Scope) (ps : List Str) : Option Int → Prop
  | none => ps = [] ∧ ∀ (q : Str) (cls : List (Str × Addr)) (doc pm cv ctv : Value) (s : Shared), BindsTo s (PySem.W.kdv_fn "<lambda>" q params (.expr body) scope cls .none doc pm cv ctv) ⟨[], []⟩ []
  | some _ => ∃ x, ps = [x] ∧ ∀ (q : Str) (cls : List (Str × Addr)) (doc pm cv ctv : Value) (t : Addr) (s : Shared) (o : Obj) (u : Value) (n : Nat), s.heap.get? t = some o → o.data = .seq #[u] n →
      BindsTo s (PySem.W.kdv_fn "<lambda>" q params (.expr body) scope cls (.ref t) doc pm cv ctv) ⟨[], []⟩ [(x, u)]
section
variable {X : Cx} {pins : List (Addr × Obj)} {σ : L2.St} {H HZ : Hp} {s s1 : Shared} {K : PySem.W.Frag} {cl : Str → Option Addr}
abbrev Cx.rb (X : Cx) (B : Heap) : Cx := { X with base := B }
end
end Si

set_option Elab.async false
set_option linter.all false
set_option autoImplicit false
set_option maxRecDepth 100000
set_option maxHeartbeats 4000000
/-! Si44: a list of such lambdas handed to a def that asks each of them. -/
namespace Si
open PySem L2 L2H LamX PyProof.Rows
/-- the asks, one after the other -/
def whL (D1 : R D → R D) (σd : En) : List (En → Wd → R D) → List D → Wd → R (List D)
  | [], acc, w => .ok acc w
  | m :: r, acc, w => match D1 (m σd w) with
    | .ok y w2 => if acc.length < 16777216 then whL D1 σd r (acc ++ [y]) w2 else .stuck
    | _ => .stuck
/-- a function at f, seen from t on: what it reckons wherever it is called -/
def Cal (P : Program) (w : World) (K : PySem.W.Frag) (cl : Str → Option Addr) (mg : Str → Option Value) (B : Heap) (kc : Nat) (t : S) (σ : L2.St) (f : Addr) (m : En → Wd → R D) : Prop :=
  ∃ (c' : Addr) (q : Str), t.F c' ∧ t.H c' = some (CodeO c' q) ∧ ∀ (s2 : S), Ext t s2 → ∀ (fr : List Addr) (s0 : Shared), CB P w K mg B kc f c' q fr s0 s2.H (fun E HZ Q => tG K cl (Rep K) E m σ HZ Q)
/-- a def at g that is handed a list of such functions, and answers the list of what D1 says of their answers -/
def GotsAt (P : Program) (w : World) (K : PySem.W.Frag) (cl : Str → Option Addr) (mg : Str → Option Value) (B : Heap) (kc kr : Nat) (g : Addr) (D1 : R D → R D) : Prop :=
  ∀ (A : Around) (outer : List Env) (s : Shared) (Q : VK) (a : Addr) (t : S) (σ : L2.St) (σd : En) (fs : List Addr) (ms : List (En → Wd → R D)), Room kr A → Env0 P w K mg B A outer s t.H → Ok K cl t → t.F a → t.H a = some (.lst (fs.map V.ref)) → fs.length = ms.length →
    (∀ (j : Nat) (f : Addr) (m : En → Wd → R D), fs[j]? = some f → ms[j]? = some m → Cal P w K cl mg B kc t σ f m) → RepE K t σ σd → Post K cl (Rep K) E00 t ((whL D1 σd ms [] t.w).bind fun xs w2 => .ok (.lst xs) w2) Q →
    codeAny (model P w) A (.call (.ref g) ⟨[.ref a], []⟩) (CR C8.CX0 outer P w t.H s Q C8.E0) s
section
variable {P : Program} {w : World} {K : PySem.W.Frag} {cl : Str → Option Addr} {mg : Str → Option Value} {B : Heap}
end
end Si

set_option Elab.async false
set_option linter.all false
set_option autoImplicit false
set_option maxRecDepth 100000
set_option maxHeartbeats 4000000
/-! Si45: a list of lambdas is made; it is handed to the def that asks each. -/
namespace Si
open PySem L2 L2H LamX PyProof.Rows
/-- a lambda of the text: parameters, body, scope, the default of its one parameter -/
abbrev LamP := Arguments × Expr × Scope × Option Int
def ldOf (q : Str) (cells : List (Str × Addr)) (p : LamP) : LamD := ⟨q, p.1, p.2.1, p.2.2.1, cloFrom cells p.2.2.1.names [], p.2.2.2⟩
structure LamE (X : Cx) (p : LamP) : Prop where
  ps : ∃ ps, LamS3 X.N X.env.scope p.2.2.1 ps ∧ BindD p.1 p.2.1 p.2.2.1 ps p.2.2.2
  kd : p.1.kw_defaults = []
  df : Dflt p.1 p.2.2.2
inductive IsLams : List Expr → List LamP → Prop
  | nil : IsLams [] []
  | cons {p : LamP} {pos : Pos} {es : List Expr} {ll : List LamP} (r : IsLams es ll) : IsLams (.Lambda p.1 p.2.1 p.2.2.1 pos :: es) (p :: ll)
section
variable {X : Cx} {cl : Str → Option Addr} {EK : XK}
end
end Si

set_option Elab.async false
set_option linter.all false
set_option autoImplicit false
set_option maxRecDepth 100000
set_option maxHeartbeats 4000000
/-! Si46: a law whose lists of lambdas capture its cells: what it reckons hangs on where they stand. -/
namespace Si
open PySem L2 L2H LamX PyProof.Rows
/-! ### the lambdas of a text -/
theorem all_cons {α : Type} {P : α → Prop} {a : α} {l : List α} (h : P a) (r : ∀ z ∈ l, P z) : ∀ z ∈ a :: l, P z := List.forall_mem_cons.mpr ⟨h, r⟩
structure AtW (P : Program) (w : World) (K : PySem.W.Frag) (cl : Str → Option Addr) (mg : Str → Option Value) (base : Heap) (kc kr : Nat) (x : Str) (ga : Addr) (D1 : R D → R D) : Prop where
  g : mg x = some (.ref ga)
  kp : PySem.W.keepIn K (.ref ga) = true
  ok : GotsAt P w K cl mg base kc kr ga D1
end Si

set_option Elab.async false
set_option linter.all false
set_option autoImplicit false
set_option maxRecDepth 100000
set_option maxHeartbeats 4000000
/-! Si47: enumerate over a list or a tuple. -/
namespace Si
open PySem PySem.Spec PyProof.Rows L2 L2H
section
theorem new_enum1 {v : Value} {o : Obj} {H : Heap → Prop} (B : Begins v o H) :
    Meets (Builtin.«enumerate.__new__» ⟨[.type "enumerate", v], []⟩) (fun _ R s => H s.heap ∧
      R (.ok (.ret (.ref (s.heap.push o).objs.size))) { s with heap := (s.heap.push o).push { cls := .type "enumerate", data := .fields #[.none, .bool false, .ref s.heap.objs.size, rawInt 0, .none, .none] } }) :=
  .of_wp fun prog w A R s h => by
    obtain ⟨hp, g, d, tk, os⟩ := s
    obtain ⟨h1, h⟩ := h
    have hsub := sub_enumerate
    have q1 : ∀ {A' : Around} {E : Value → Shared → Prop} {Q : Value → Shared → Prop}, Q (.ref hp.objs.size) ⟨hp.push o, g, d, tk, os⟩ → wpAny (model prog w) A' (pyIter v) Q E ⟨hp, g, d, tk, os⟩ :=
      fun q => B.iter prog w _ _ ⟨hp, g, d, tk, os⟩ _ h1 q
    wp_walk using q1
    refine wpAny_stack_any fun st => wpAny_pure ?_
    split
    · rename_i c _ _ _ _ _
      cases (c == Value.type "enumerate")
      · wp_walk using q1
        exact ⟨_, rfl, h⟩
      · wp_walk using q1
        exact ⟨_, rfl, h⟩
    · wp_walk using q1
      exact ⟨_, rfl, h⟩
variable {prog : Program} {w : World} {A : Around} {E : Value → Shared → Prop} {s : Shared}
theorem call_enum1 {v : Value} {o : Obj} {H : Heap → Prop} {Q : Value → Shared → Prop} (B : Begins v o H) (h1 : H s.heap)
    (h : ∀ h', IsEnum h' (s.heap.objs.size + 1) s.heap.objs.size 0 .none → h'.get? s.heap.objs.size = some o →
      (∀ b o, s.heap.get? b = some o → h'.get? b = some o) → Q (.ref (s.heap.objs.size + 1)) { s with heap := h' }) :
    wpAny (model prog w) A (call (.type "enumerate") [v]) Q E s := by
  refine callType_new F.called_enumerate (by decide) (F.typeCall_enumerate_1 _) (F.newCall_enumerate_1 _) (fun obj => F.args_object_init_2 obj _) F.entry_enumerate_new (new_enum1 B) ⟨h1, ?_⟩
  have hz : (s.heap.push o).objs.size = s.heap.objs.size + 1 := Heap.size_push ..
  show _ ∧ _
  rw [hz]
  have he := Heap.get?_push_size (s.heap.push o) (o := { cls := .type "enumerate", data := .fields #[.none, .bool false, .ref s.heap.objs.size, rawInt 0, .none, .none] }) rfl
  rw [hz] at he
  exact ⟨⟨_, he, rfl⟩, h _ he (Heap.get?_push_of_some _ (Heap.get?_push_size _ B.free)) fun b o x => Heap.get?_push_of_some _ (Heap.get?_push_of_some _ x)⟩
end
/-- the tuple at a, each item in a new pair -/
def IteT (K : PySem.W.Frag) (a : Addr) : It :=
  ⟨fun i H => ∃ (xs : List V) (x : V), SqT K H a xs ∧ xs[i]? = some x, fun i H v H' => ∃ T x, v = .ref T ∧ H T = none ∧ H' = upd H T (.tup [.int (i : Nat), x]) ∧ ∀ xs, SqT K H a xs → xs[i]? = some x, fun i H => ∃ xs : List V, SqT K H a xs ∧ xs.length ≤ i⟩
theorem turn_enumT {P : Program} {w : World} {K : PySem.W.Frag} {elts : List Expr} {kk : Nat} {tpos : Pos} (a e it : Addr) :
    Turn P w K (.Tuple elts kk tpos) (IteT K a) [e, it] e (fun i h => (∃ old, IsEnum h e it ((i : Nat) : Int) old) ∧ h.IsTupleIter it a i ∧ e ≠ it ∧ a ≠ it ∧ a ≠ e) where
  mem := by simp
  obj := fun i h st b hb => by
    obtain ⟨⟨old, he⟩, ⟨o, ho, hc, hd⟩, _⟩ := st
    have e' : b = e ∨ b = it := by simpa using hb
    rcases e' with z | z
    · rw [z]; exact ⟨_, he, fun v q => nomatch q⟩
    · rw [z]; exact ⟨o, ho, fun v q => by rw [hd] at q; cases q⟩
  keep := fun i h h' st k => let ⟨⟨old, he⟩, hi, hne⟩ := st; ⟨⟨old, k e (by simp) _ he⟩, hi.at fun o q => k it (by simp) o q, hne⟩
  item := by
    intro X hP hw hK hc i pins s σ H E I hf st hg
    subst hP hw hK
    obtain ⟨⟨old, he⟩, hit, hne, hai, hae⟩ := st
    obtain ⟨xs, x, hq, hx⟩ := hg
    obtain ⟨its, rv, p, hz⟩ := I.tuple hq
    obtain ⟨u, hu, ru⟩ := rv.get hx
    have hel : e < s.heap.objs.size := Heap.lt_size he
    have hil : it < s.heap.objs.size := by obtain ⟨_, q, _⟩ := hit; exact Heap.lt_size q
    have hlt : i < its.toArray.size := by
      have := (List.getElem?_eq_some_iff.mp hu).1
      simpa using this
    refine wpAny_pyNext_enum_itemC (Draws.tuple (A := X.A.in1) (show X.A.in1.handled = none from I.ok.hd hc) it a hai its.toArray) he ⟨hit, p⟩ hlt hne (by simp [hne, Ne.symm hae]) fun x' h' tk hP ho hS hT hsz hk => ?_
    obtain rfl : x' = u := by
      have q : its[i]? = some x' := by simpa using hP
      rw [hu] at q
      exact (Option.some.inj q).symm
    refine ⟨_, rfl, wpAny_letOwnedTupleGo_enum (s := { s with heap := h', toks := tk + 1 }) ho fun h'' he' sb => ?_⟩
    have hT2 : h''.get? s.heap.objs.size = some { cls := .type "tuple", data := .seq #[.int i tk, x'] } := (sb.2 _ (Nat.ne_of_gt hel)).trans hT
    have new : ObjOk X.prog X.w (upd H s.heap.objs.size (.tup [.int (i : Nat), x])) h'' s.heap.objs.size (.tup [.int (i : Nat), x]) :=
      ⟨by show 2 ≤ sizeLine; decide, [.int i tk, x'], .cons ⟨_, rfl⟩ (.cons ru .nil), ⟨_, hT2, rfl, _, rfl⟩⟩
    have I1 : Inv X pins σ (upd H s.heap.objs.size (.tup [.int (i : Nat), x])) { s with heap := h'', toks := tk + 1 } :=
      I.turnedNew (ch := [e, it]) (fun b ob hb q => (sb.2 b (fun z => hb (by simp [z]))).trans (hk b ob (fun z => hb (by simp [z])) (fun z => hb (by simp [z])) q)) hf (Nat.le_refl _) new
    refine ⟨.ref s.heap.objs.size, _, I1, rfl, ⟨_, x, rfl, I.hok.fresh (Nat.le_refl _), rfl, fun ys hy => by rw [I.tuple_inj hy hq]; exact hx⟩, ⟨⟨x', ?_⟩, hS.1.at fun o q => (sb.2 it (Ne.symm hne)).trans q, hne, hai, hae⟩, fun b hb => ?_⟩
    · have e1 : ((i + 1 : Nat) : Int) = (i : Int) + 1 := by omega
      rw [e1]; exact he'
    · have hb' : b < s.heap.objs.size := by
        have e' : b = e ∨ b = it := by simpa using hb
        rcases e' with z | z
        · rw [z]; exact hel
        · rw [z]; exact hil
      rw [upd_ne (Nat.ne_of_lt hb')]
      exact (hf b hb).1
  done := by
    intro X hP hw hK hc i pins s σ H E I hf st hg
    subst hP hw hK
    obtain ⟨⟨old, he⟩, hit, hne, hai, hae⟩ := st
    obtain ⟨xs, hq, hx⟩ := hg
    obtain ⟨its, rv, p, hz⟩ := I.tuple hq
    obtain ⟨f0, f1, f2, f3, f4, f5⟩ := hf it (by simp)
    have hl := rv.length
    have D : Draws X.prog X.w X.A.in1 it [it, a] i (fun _ _ => True) (fun j h => j = i ∧ h.IsTupleIter it a j ∧ h.IsTuple a its.toArray) :=
      { live := fun _ _ st => let ⟨o, ho, _⟩ := st.2.1; ⟨o, ho⟩
        frame := fun _ _ _ st hk => ⟨st.1, st.2.1.at fun o e => hk it (by simp) o e, st.2.2.at fun o e => hk a (by simp) o e⟩
        item := fun j s Q E hj st => absurd st.1 (by omega)
        done := fun s Q E st hE => wpAny_nextOf_tuple_end (show X.A.in1.handled = none from I.ok.hd hc) st.2.1 st.2.2 (by simp; omega) hE }
    exact wpAny_pyNext_enum_endD D he ⟨rfl, hit, p⟩ fun h' eb => ⟨rfl, I.turned (t' := s.toks) (fun b o hb q => eb b o hb q) f0 f1 f3 f4 f5⟩
  self := fun A i s Q E st h => let ⟨⟨_, he⟩, _⟩ := st; wpAny_pyIter_enum he h
def iEnumS (K : PySem.W.Frag) (ta : TA) : TI := fun σ H R => ta σ H fun vs H1 => ∃ a xs, vs = [.ref a] ∧ ((SqL K H1 a xs ∧ R (Ite K a) H1) ∨ (SqT K H1 a xs ∧ R (IteT K a) H1))
theorem pi_enumS {X : Cx} {e : Expr} {ta : TA} {p pos tpos : Pos} {elts : List Expr} {kk : Nat} (hg : Gl X "enumerate") (hm : X.mg "enumerate" = none) (ha : PA X [e] ta) (hs : starEach [e] X.env = [(false, eval e X.env)] := by rfl) :
    PI X (.Tuple elts kk tpos) (.Call (.Name "enumerate" p) [e] [] pos) (iEnumS X.K ta) := by
  refine ⟨fun pins s σ H R I h => ?_⟩
  refine Call_ (ld_blt I hg hm boot_enumerate (PyProof.Rows.callWith_type1 (thn (ha.run pos pins s σ H _ I h) fun us s1 ⟨vs, H1, I1, r1, q1⟩ => ?_) hs rfl))
  obtain ⟨a, xs, ex, q⟩ := q1
  subst ex
  cases r1 with
  | cons r rr =>
    cases rr
    cases r
    have below : ∀ b ∈ [s1.heap.objs.size + 1, s1.heap.objs.size], s1.heap.objs.size ≤ b := fun b hb => by
      rcases List.mem_cons.mp hb with z | z
      · rw [z]; exact Nat.le_add_right _ _
      · rw [List.mem_singleton.mp z]; exact Nat.le_refl _
    rcases q with ⟨hq, q⟩ | ⟨hq, q⟩
    · obtain ⟨its, rv, p', hz⟩ := I1.list hq
      refine call_enumerate_list p'.isList fun h' he hit hsz hk => wpAny_pyIter_enum he ?_
      have I2 : Inv X pins σ H1 { s1 with heap := h' } := I1.kept (t' := s1.toks) hk
      exact ⟨s1.heap.objs.size + 1, _, _, _, H1, rfl, I2, turn_enum a (s1.heap.objs.size + 1) s1.heap.objs.size, ⟨⟨.none, he⟩, hit, Nat.succ_ne_self _⟩, fun b hb => I1.fpOk (below b hb) (I1.hok.fresh (below b hb)), q⟩
    · obtain ⟨its, rv, p', hz⟩ := I1.tuple hq
      have ha : a < s1.heap.objs.size := by obtain ⟨_, q, _⟩ := p'; exact Heap.lt_size q
      refine call_enum1 (begins_tuple a its.toArray) p' fun h' he hit hk => wpAny_pyIter_enum he ?_
      have I2 : Inv X pins σ H1 { s1 with heap := h' } := I1.kept (t' := s1.toks) hk
      exact ⟨s1.heap.objs.size + 1, _, _, _, H1, rfl, I2, turn_enumT a (s1.heap.objs.size + 1) s1.heap.objs.size, ⟨⟨.none, he⟩, ⟨_, hit, rfl, rfl⟩, Nat.succ_ne_self _, Nat.ne_of_lt ha, Nat.ne_of_lt (Nat.lt_succ_of_lt ha)⟩, fun b hb => I1.fpOk (below b hb) (I1.hok.fresh (below b hb)), q⟩
section
variable {X : Cx} {cl : Str → Option Addr} {EK : XK} {a : Expr} {mas : En → Wd → R (List D)} {p pos : Pos}
def mEnumS (mas : En → Wd → R (List D)) : En → Wd → R (List D) := fun σd w => (mas σd w).bind fun us w1 => match us with
  | [.lst ds] => .ok (enumD 0 ds) w1
  | [.tup ds] => .ok (enumD 0 ds) w1
  | _ => .stuck
theorem si_enumS {elts : List Expr} {kk : Nat} {tpos : Pos} (hg : Gl X "enumerate") (hm : X.mg "enumerate" = none) (ha : SA X cl EK [a] mas) (hs : starEach [a] X.env = [(false, eval a X.env)] := by rfl) :
    SI X cl EK (.Tuple elts kk tpos) (.Call (.Name "enumerate" p) [a] [] pos) (mEnumS mas) :=
  PI.weak (pi_enumS hg hm ha hs) fun σ H Q h => tG_imp (tG_bind h) fun xs H1 ⟨s, σd, u, e, ok, re, ru, p⟩ => by
    subst e
    dsimp only at p
    split at p
    · rename_i ds
      obtain ⟨x, rfl, rx⟩ := repA1 ru
      obtain ⟨q, vs, rfl, hF, h1, r1⟩ := rep_lst rx
      refine ⟨q, vs, rfl, .inl ⟨SqL.of h1, p s _ (Ext.refl s) ok rfl ?_⟩⟩
      intro s1 e1 ok1
      have h1' := e1.fr _ _ hF h1
      have r1' := r1.monoF e1
      refine ⟨fun i hi => ?_, fun i x H' d hy hd => ?_, vs, SqL.of h1', by rw [enumD_len, r1.length]; exact Nat.le_refl _⟩
      · rw [enumD_len] at hi
        obtain ⟨v, hv, _⟩ := r1.get (i := i) (List.getElem?_eq_getElem hi)
        exact ⟨vs, v, SqL.of h1', hv⟩
      · obtain ⟨T, y, rfl, hT, rfl, hx⟩ := hy
        have hy := hx vs (SqL.of h1')
        rw [enumD_get, Nat.zero_add] at hd
        cases q2 : ds[i]? with
        | none => rw [q2] at hd; cases hd
        | some d0 =>
          rw [q2] at hd
          cases hd
          obtain ⟨v, hv, rv⟩ := r1'.get q2
          rw [hy] at hv
          cases hv
          exact ⟨s1.frz T _, rfl, S.frz_ext hT, S.frz_ok ok1 hT, rfl, rep_newT ok1 hT (.cons (.int _) (.cons rv .nil))⟩
    · rename_i ds
      obtain ⟨x, rfl, rx⟩ := repA1 ru
      obtain ⟨q, vs, rfl, hH, r1⟩ : ∃ q vs, x = .ref q ∧ ((s.F q ∧ s.H q = some (.tup vs)) ∨ TK X.K q vs) ∧ RepA X.K s vs ds := by
        cases rx with
        | tup hH r1 => exact ⟨_, _, rfl, hH, r1⟩
      refine ⟨q, vs, rfl, .inr ⟨SqT.ofR hH, p s _ (Ext.refl s) ok rfl ?_⟩⟩
      intro s1 e1 ok1
      have hH' : SqT X.K s1.H q vs := by
        rcases hH with ⟨hF, h1⟩ | h1
        · exact .inl (.inl (e1.fr _ _ hF h1))
        · exact .inr h1
      have r1' := r1.monoF e1
      refine ⟨fun i hi => ?_, fun i x H' d hy hd => ?_, vs, hH', by rw [enumD_len, r1.length]; exact Nat.le_refl _⟩
      · rw [enumD_len] at hi
        obtain ⟨v, hv, _⟩ := r1.get (i := i) (List.getElem?_eq_getElem hi)
        exact ⟨vs, v, hH', hv⟩
      · obtain ⟨T, y, rfl, hT, rfl, hx⟩ := hy
        have hy := hx vs hH'
        rw [enumD_get, Nat.zero_add] at hd
        cases q2 : ds[i]? with
        | none => rw [q2] at hd; cases hd
        | some d0 =>
          rw [q2] at hd
          cases hd
          obtain ⟨v, hv, rv⟩ := r1'.get q2
          rw [hy] at hv
          cases hv
          exact ⟨s1.frz T _, rfl, S.frz_ext hT, S.frz_ok ok1 hT, rfl, rep_newT ok1 hT (.cons (.int _) (.cons rv .nil))⟩
    · exact p.elim
end
end Si

set_option Elab.async false
set_option linter.all false
set_option autoImplicit false
set_option maxRecDepth 100000
set_option maxHeartbeats 4000000
/-! Si48: calls of methods and defs with keyword-only defaults. -/
namespace Si
open PySem L2 PyProof.Rows
section
variable {X : Cx} {cl : Str → Option Addr} {EK : XK} {o : Expr} {mo ma : En → Wd → R D} {pos apos p : Pos} {x : Str} {a : Expr} {es : List Expr} {kws : List Keyword} {mas mks : En → Wd → R (List D)}
/-- a method with keyword-only parameters, as it stands -/
structure AtMK (P : Program) (w : World) (K : PySem.W.Frag) (cl : Str → Option Addr) (mg : Str → Option Value) (base : Heap) (k : Nat) (C : Addr) (x : Str) (ps : List Str) (f : Addr) (fd : FuncData) (G : List D → Wd → R D) : Prop where
  m : Meth K C x f
  ok : SF P w K cl mg base k f fd ps G
/-- a def with keyword-only parameters, as it stands -/
structure AtF (P : Program) (w : World) (K : PySem.W.Frag) (cl : Str → Option Addr) (mg : Str → Option Value) (base : Heap) (k : Nat) (x : Str) (ps : List Str) (f : Addr) (fd : FuncData) (G : List D → Wd → R D) : Prop where
  g : mg x = some (.ref f)
  kp : PySem.W.keepIn K (.ref f) = true
  ok : SF P w K cl mg base k f fd ps G
/-! defs -/
end
end Si

set_option Elab.async false
set_option linter.all false
set_option autoImplicit false
set_option maxRecDepth 100000
set_option maxHeartbeats 4000000
/-! Si49: sorted of whole numbers in a list or a tuple; list(range(n)). -/
namespace Si
open PySem PySem.Spec PyProof.Rows L2
section
variable {prog : Program} {w : World} {A : Around} {E : Value → Shared → Prop} {s : Shared}
/-- the items of a list or a tuple, gathered in a new list at the end of the heap -/
theorem gathered {it : Addr} {T : String} {o : Obj} {xs : Array Value} {n : Nat} {Q : List Value → Shared → Prop} (hT : T = "list" ∨ T = "tuple") (ho : s.heap.get? it = some o) (hc : o.cls = .type T) (hd : o.data = .seq xs n) (hz : xs.size ≤ sizeLine)
    (h : ∀ h1 : Heap, (∀ b u, s.heap.get? b = some u → h1.get? b = some u) → s.heap.objs.size ≤ h1.objs.size → Q xs.toList { s with heap := h1 }) : wpAny (model prog w) A (collect (.ref it)) Q E s := by
  have hN : (s.heap.push { cls := .type "list", data := .seq #[] }).get? s.heap.objs.size = some { cls := .type "list", data := .seq #[] 0 } := Heap.get?_push_size _ rfl
  have hU := Heap.get?_update_self (Obj.mapSeq (· ++ xs)) hN rfl
  have big : s.heap.objs.size ≤ ((s.heap.push { cls := .type "list", data := .seq #[] }).update s.heap.objs.size (Obj.mapSeq (· ++ xs))).objs.size := by
    rw [Heap.size_update, Heap.size_push]
    exact Nat.le_succ _
  have keep : ∀ b u, s.heap.get? b = some u → ((s.heap.push { cls := .type "list", data := .seq #[] }).update s.heap.objs.size (Obj.mapSeq (· ++ xs))).get? b = some u := fun b u hb =>
    (Heap.get?_update_other _ _ (Nat.ne_of_gt (Heap.lt_size hb))).trans
      (Heap.get?_push_of_some _ hb)
  have told := h _ keep big
  unfold collect
  refine wpAny_bind ?_
  refine wpAny_runValue ?_
  refine codeAny_builtin PySem.F.entry_proto_collect ?_
  rw [Around.under_plainId PySem.F.plain_proto_collect _]
  refine wpAny_bind (m := newList []) ?_
  refine wpAny_newObj_type ?_
  refine wpAny_pure ⟨plainId_quiet PySem.F.plain_list_iadd _, ?_⟩
  refine codeAny_builtin PySem.F.entry_list_iadd ?_
  rw [Around.under_plainId PySem.F.plain_list_iadd _]
  have rest : ∀ (r : Result) (s' : Shared), (r = .ok (.ret (.ref s.heap.objs.size)) ∧ s' = { s with heap := (s.heap.push { cls := .type "list", data := .seq #[] }).update s.heap.objs.size (Obj.mapSeq (· ++ xs)) }) →
      wpAny (model prog w) A (do
        let ob ← load s.heap.objs.size
        match ob.data with
        | .seq ys _ => pure ys.toList
        | _ => unsupported "internal:collect") Q E s' := fun r s' ⟨_, e⟩ => by
    subst e
    refine wpAny_bind (wpAny_load hU ?_)
    refine wpAny_pure ?_
    show Q ((#[] : Array Value) ++ xs).toList _
    rw [Array.empty_append]
    exact told
  refine wpAny_mono (wpAny_extend_seq (hsz := hz) (A := A) (R := fun r s' => r = .ok (.ret (.ref s.heap.objs.size)) ∧ s' = { s with heap := (s.heap.push { cls := .type "list", data := .seq #[] }).update s.heap.objs.size (Obj.mapSeq (· ++ xs)) })
    (s := { s with heap := s.heap.push { cls := .type "list", data := .seq #[] } }) s.heap.objs.size it _ 0 hT hN
    (Heap.get?_push_of_some _ ho) hc hd ⟨rfl, rfl⟩) (fun fin s' z => ?_) (fun e s' z => absurd z.1 (by simp))
  cases fin with
  | done f =>
    obtain ⟨e, z2⟩ := z
    cases e
    exact rest _ s' ⟨rfl, z2⟩
  | again c' =>
    refine ⟨z.1, codeAny_mono z.2 fun r s2 hr => ?_⟩
    obtain ⟨e1, e2⟩ := hr
    subst e1
    exact rest _ s2 ⟨rfl, e2⟩
end
section
variable {X : Cx}
end
section
variable {X : Cx} {cl : Str → Option Addr} {EK : XK} {a : Expr} {es : List Expr} {p pos : Pos} {mas ma : En → Wd → R (List D)}
end
end Si

set_option Elab.async false
set_option linter.all false
set_option autoImplicit false
set_option maxRecDepth 100000
set_option maxHeartbeats 4000000
/-! Si50: a list made here, given away for good. -/
namespace Si
open PySem L2 PyProof.Rows
section
variable {X : Cx} {cl : Str → Option Addr} {EK : XK} {v : Expr} {ma : En → Wd → R D}
end
end Si

set_option Elab.async false
set_option linter.all false
set_option autoImplicit false
set_option maxRecDepth 100000
set_option maxHeartbeats 4000000
/-! Si51: == and != by an own __eq__; isinstance with an own class. -/
namespace Si
open PySem PySem.Spec PyProof.Rows L2
section
variable {prog : Program} {w : World} {A A₀ : Around} {E : Value → Shared → Prop} {s : Shared} {K : PySem.W.Frag} {x C L f : Addr} {h₀ : Heap} {m : Str → Option Value} {ox : Obj} {od : Option Obj} {b tb : Value}
end
/-- the types of plain values -/
def plTys : List String := ["NoneType", "bool", "int", "str", "list", "tuple", "dict"]
/-- what == of instances of the class at C leans on -/
structure IsE (K : PySem.W.Frag) (C : Addr) : Prop where
  cl : Cls K C
  ob : PySem.W.mroIn K C (.type "object") = some true
  nk : ∀ t ∈ plTys, PySem.W.kitOne K (.type t) (.ref C) = some false
  ca : PySem.W.findIn K (.ref C) "__class__" = some (some (.builtin "object.__class__"))
  cn : PySem.W.specialIn K (.builtin "object.__class__") "__get__" = some (some (.builtin "getset_descriptor.__get__"))
  ct : PySem.W.takesIn K (.builtin "object.__class__") = some true
structure OwnE (K : PySem.W.Frag) (C f : Addr) : Prop where
  eq : PySem.W.findIn K (.ref C) "__eq__" = some (some (.ref f))
  fn : PySem.W.isFn K (.ref f) = true
  ne : PySem.W.findIn K (.ref C) "__ne__" = some (some (.builtin "object.__ne__"))
  ob : PySem.W.mroIn K C (.type "object") = some true
  nf : ∀ t ∈ plTys, PySem.W.subIn K (.type t) (.ref C) = some false
/-- an own __eq__, as it stands -/
structure AtE (P : Program) (w : World) (K : PySem.W.Frag) (cl : Str → Option Addr) (mg : Str → Option Value) (base : Heap) (k : Nat) (C : Addr) (ps : List Str) (f : Addr) (fd : FuncData) (G : List D → Wd → R D) : Prop where
  o : OwnE K C f
  b : Binds K fd ps []
  ok : SF P w K cl mg base k f fd ps G
/-! the rule -/
section
variable {X : Cx} {CX : CXT} {n : Nat} {C g : Addr} {sp : Sp} {ne : Bool}
end
/-! the D level -/
section
variable {K : PySem.W.Frag} {cl : Str → Option Addr} {s : S} {c : Str} {C : Addr}
end
section
variable {X : Cx} {cl : Str → Option Addr} {EK : XK} {a : Expr} {b : Expr} {ma mb : En → Wd → R D} {pos p pT : Pos} {c : Str} {C g : Addr} {fd : FuncData} {ps : List Str} {k : Nat} {G : List D → Wd → R D}
end
end Si

set_option Elab.async false
set_option linter.all false
set_option autoImplicit false
set_option maxRecDepth 100000
set_option maxHeartbeats 4000000
/-! Si52: methods with a star parameter. -/
namespace Si
open PySem PySem.Spec PyProof.Rows L2
/-- what a def with a star parameter promises: l plain arguments, the rest as a tuple -/
def spSt (K : PySem.W.Frag) (cl : Str → Option Addr) (l : Nat) (G : List D → Wd → R D) : Sp := fun vs H Q E => ∃ ws rest, vs = ws ++ rest ∧ ws.length = l ∧ rest.length ≤ sizeLine ∧ ∀ p, H p = Option.none → spOf K cl G (ws ++ [V.ref p]) (upd H p (.tup rest)) Q E
/-- a method with a star parameter, as it stands -/
structure AtMS (P : Program) (w : World) (K : PySem.W.Frag) (cl : Str → Option Addr) (mg : Str → Option Value) (base : Heap) (k : Nat) (C : Addr) (x : Str) (f : Addr) (G : List D → Wd → R D) : Prop where
  m : Meth K C x f
  ok : FnR P w K mg base (L2.CX P w) k f (spSt K cl 1 G)
section
variable {X : Cx} {CX : CXT} {k : Nat} {C f : Addr} {m : Str} {sp : Sp} {E : XK} {o e : Expr} {ta : TE} {apos pos : Pos} {pl : Sem Bool}
end
section
variable {X : Cx} {cl : Str → Option Addr} {EK : XK} {o e : Expr} {es : List Expr} {mo : En → Wd → R D} {mas : En → Wd → R (List D)} {pos apos : Pos} {C fa : Addr} {k : Nat} {G : List D → Wd → R D} {cn m : Str} {pl : Sem Bool}
end
end Si

set_option Elab.async false
set_option linter.all false
set_option autoImplicit false
set_option maxRecDepth 100000
set_option maxHeartbeats 4000000
/-! Si53: `in` by an own __contains__. -/
namespace Si
open PySem PySem.Spec PyProof.Rows L2
def rInQ (K : PySem.W.Frag) (C : Addr) (sp : Sp) : R2 := fun x y H Q => ∃ a dx fs, y = .ref a ∧ H a = some (.ins C dx fs) ∧ sp [y, x] H (fun z H' => ∃ b, z = .bl b ∧ Q (.bl b) H') E0
section
variable {X : Cx} {CX : CXT} {n : Nat} {C g : Addr} {sp : Sp}
theorem op_inQ (hm : Meth X.K C "__contains__" g) (F : FnR X.prog X.w X.K X.mg X.base CX n g sp) (hr : Room n X.A) (hx : Passes CX X E0) : OpR X (compareOp .In) (rInQ X.K C sp) := by
  intro pins s σ H x y v u Q I rx ry h
  obtain ⟨a, dx, fs, rfl, ha, q⟩ := h
  cases (show u = Value.ref a from ry)
  obtain ⟨mA, J0, _⟩ := ins_get I.hok ha
  obtain ⟨od, J, _⟩ := J0.look
  obtain ⟨m, hF⟩ := I.fr
  have r2 : Vals [V.ref a, x] [Value.ref a, v] := .cons rfl (.cons rx .nil)
  refine PySem.W.in_K hF I.ok.mod.kin J hm.1 hm.2 ?_
  refine wpAny_mono (wpAny_call (run_fnR F hr hx I r2 q)) (fun w s' z => ?_) fun _ _ x => x
  obtain ⟨z', H', I', rz, b, e, qz⟩ := z
  subst e
  cases (show w = Value.bool b from rz)
  exact wpAny_truthy_bool ⟨.bl b, H', I', rfl, qz⟩
end
/-- u in v, v an instance of the class c -/
def gOwnIn (c : Str) (G : List D → Wd → R D) : D → D → Wd → R D := fun u v w => match insL v w with
  | some (_, c', _) => if c' = c then (match G [v, u] w with
    | .ok (.bl b) w1 => .ok (.bl b) w1
    | _ => .stuck) else .stuck
  | none => .stuck
theorem gr_ownIn {K : PySem.W.Frag} {cl : Str → Option Addr} {c : Str} {C : Addr} {G : List D → Wd → R D} (hcl : cl c = some C) : GR K cl (gOwnIn c G) (rInQ K C (spOf K cl G)) := by
  intro EK s x y u v Q ok ru rv p
  unfold gOwnIn at p
  split at p
  · rename_i n c' fs hi
    split at p
    · rename_i hc
      subst hc
      obtain ⟨a, C', dx, vfs, rfl, _, h0, h1, _⟩ := ins_of ok rv hi
      rw [hcl] at h0
      cases h0
      refine ⟨a, dx, vfs, rfl, h1, s, [v, u], rfl, ok, .cons rv (.cons ru .nil), ?_⟩
      split at p
      · rename_i b w1 e
        rw [e]
        intro s' z ex ok' hw rz
        cases rz
        exact ⟨b, rfl, p s' _ ex ok' hw (.bl _)⟩
      · exact p.elim
    · exact p.elim
  · exact p.elim
section
variable {X : Cx} {cl : Str → Option Addr} {C g : Addr} {fd : FuncData} {ps : List Str} {k : Nat} {G : List D → Wd → R D}
theorem ops_in (hm : Meth X.K C "__contains__" g) (F : SF X.prog X.w X.K cl X.mg X.base k g fd ps G) (hb : Binds X.K fd ps []) (hr : Room k X.A) : OpR X (compareOp .In) (rInQ X.K C (spOf X.K cl G)) :=
  op_inQ hm ((F.raw hb .nil).imp fun vs H Q E h => by rw [List.append_nil]; exact h) hr passL
end
section
variable {X : Cx} {cl : Str → Option Addr} {EK : XK} {e : Expr} {es : List Expr} {mas : En → Wd → R (List D)} {pos p : Pos}
/-- C(e, ..) with so many arguments by position -/
theorem se_make1 {C fa : Addr} {fd : FuncData} {ps : List Str} {k n : Nat} {G : List D → Wd → R D} {x : Str} {pm : List Nat} (hcl : cl x = some C) (M : Mk X.K C fa) (F : SF X.prog X.w X.K cl X.mg X.base k fa fd ps G) (hr : Room (k + 1) X.A) (hg : Gl X x) (hm : X.mg x = some (.ref C)) (hb : Binds X.K fd ps [])
    (hx : Passes (L2.CX X.prog X.w) X EK) (ha : SA X cl EK (e :: es) mas) (h1 : ∀ σd w us w', mas σd w = .ok us w' → us.length = n) (hpm : ∀ {α : Type} (xs : List α), xs.length = n + 1 → permL pm xs = xs) (hdb : (x == ("__debug__" : Str)) = false := by decide) (he : starEach (e :: es) X.env = (false, eval e X.env) :: starEach es X.env := by rfl) (hpl : (backTo pos (starEach es X.env)).any (·.1) = false := by rfl) :
    SE X cl EK (.Call (.Name x p) (e :: es) [] pos) (mMake x G pm [] mas aNil) :=
  PE.weak (pe_make M F hr hg hm hb .nil hx ha hdb he hpl) fun σ H Q h => by
    obtain ⟨s, σd, e, ok, re, p⟩ := h
    subst e
    unfold mMake at p
    refine tG_of ok re ?_
    cases q : mas σd s.w with
    | ok us w1 =>
      rw [q] at p
      have p : Post X.K cl (Rep X.K) EK s (made x G pm (us ++ ([] ++ [])) w1) Q := p
      rw [List.append_nil, List.append_nil] at p
      intro s1 vs ex1 ok1 hw1 r1
      have p1 : Post X.K cl (Rep X.K) EK s1 (made x G pm us s1.w) Q := by rw [hw1]; exact Post.ext ex1 p
      have hl := h1 _ _ _ _ q
      intro y dy a b c
      have z := make_core (EKk := EK) hcl ok1 r1 p1 y dy a b c
      rw [hpm _ (by rw [List.length_cons, r1.length, hl])] at z
      rw [List.append_nil]
      exact z
    | err c fs w1 => rw [q] at p; exact p
    | stuck => rw [q] at p; exact p.elim
theorem permL_2 {α : Type} : ∀ xs : List α, xs.length = 1 + 1 → permL [0, 1] xs = xs
  | [_, _], _ => rfl
end
end Si

set_option Elab.async false
set_option linter.all false
set_option autoImplicit false
set_option maxRecDepth 100000
set_option maxHeartbeats 4000000
/-! Si54: a for over a list in a cell that stays as it is during the loop. -/
namespace Si
open PySem PySem.Spec PyProof.Rows L2
open Classical in
noncomputable def forC (n : Nat) (ds0 : List D) (f : D → En → Wd → Option En) (body : En → Wd → SR) : List D → En → Wd → SR
  | [], σd, w => if w[n]? = some (.lst ds0) then .next σd w else .stuck
  | d :: r, σd, w => if w[n]? = some (.lst ds0) then (match f d σd w with
    | none => .stuck
    | some σ1 => match body σ1 w with
      | .next σ2 w2 => forC n ds0 f body r σ2 w2
      | .cnt σ2 w2 => forC n ds0 f body r σ2 w2
      | .brk σ2 w2 => .next σ2 w2
      | .ret d w2 => .ret d w2
      | .err c fs w2 => .err c fs w2
      | .stuck => .stuck) else .stuck
def mCellIt (ma : En → Wd → R D) : En → Wd → R (Nat × List D) := fun σd w => (ma σd w).bind fun u w1 => match cellL u w1 with
  | some p => .ok p w1
  | none => .stuck
noncomputable def mForC (ma : En → Wd → R D) (f : D → En → Wd → Option En) (body : En → Wd → SR) : En → Wd → SR := fun σd w => (mCellIt ma σd w).toS fun p w1 => forC p.1 p.2 f body p.2 σd w1
def repC (K : PySem.W.Frag) (s : S) (J : It) (p : Nat × List D) : Prop := ∃ a, J = Itl K a ∧ s.ρ[p.1]? = some a
theorem forC_at {n : Nat} {ds0 ds : List D} {f : D → En → Wd → Option En} {body : En → Wd → SR} {σ : En} {w : Wd} (h : ¬ w[n]? = some (.lst ds0)) : forC n ds0 f body ds σ w = .stuck := by
  cases ds <;> (unfold forC; rw [if_neg h])
section
variable {X : Cx} {cl : Str → Option Addr} {EK : XK} {a iter tg : Expr} {sts : List Stmt} {ma : En → Wd → R D} {m : En → Wd → SR} {pos : Pos}
theorem pi_cell (ha : SE X cl EK a ma) : PI X tg a (tG X.K cl (repC X.K) EK (mCellIt ma)) := PI.weak (pi_list ha) fun σ H Q h => tG_imp (tG_bind h) fun x H1 ⟨s, σd, u, e, ok, re, ru, p⟩ => by
  subst e
  dsimp only at p
  split at p
  · rename_i pr hcl
    obtain ⟨n, ds⟩ := pr
    obtain ⟨q, vs, rfl, hn, hH, ra, hd⟩ := cell_of ok ru hcl
    exact ⟨q, rfl, ⟨vs, SqL.of hH⟩, p s (Itl X.K q) (Ext.refl s) ok rfl ⟨q, rfl, hn⟩⟩
  · exact p.elim
theorem ss_forC {sl : List Nat} {f : D → En → Wd → Option En} (hp : PassesOwn (model X.prog X.w) X.A X.env X.xe) (hc : X.calm = true) (hi : SE X cl EK iter ma) (hg : SG X cl tg sl f) (hb : SB X cl EK sts m)
    (hs : ∀ x, foldedSetIterable iter X.env x = pure x := by intro _; rfl) : SS X cl EK (.For tg iter sts [] pos) (mForC ma f m) := PS.weak (ps_for hp hc (pi_cell hi) hg hb hs) fun D σ H h => by
  obtain ⟨s, σd, e, ok, re, p⟩ := h
  subst e
  refine tG_of ok re (posts_bind p fun s0 J pr ex0 ok0 rJ p0 => ?_)
  obtain ⟨a, rfl, ha0⟩ := rJ
  obtain ⟨n, ds⟩ := pr
  refine ⟨fun i mm σ H => ∃ s1 σ1, mm = ds.length - i ∧ i ≤ ds.length ∧ s1.H = H ∧ Ext s0 s1 ∧ Ok X.K cl s1 ∧ RepE X.K s1 σ σ1 ∧ PostS X.K cl EK s1 (forC n ds f m (ds.drop i) σ1 s1.w) D,
    ⟨ds.length, s0, σd, by simp, Nat.zero_le _, rfl, Ext.refl s0, ok0, re.mono ok ex0, p0⟩, ?_⟩
  rintro i mm σ1 H1 ⟨s1, τ, rfl, hle, rfl, e1, ok1, re1, p1⟩
  have hw : s1.w[n]? = some (.lst ds) := by
    refine Classical.byContradiction fun hw => ?_
    rw [forC_at hw] at p1
    exact p1.elim
  have hρ : s1.ρ[n]? = some a := by
    obtain ⟨l, e, _⟩ := e1.ρ
    rw [e, List.getElem?_append_left (List.getElem?_eq_some_iff.mp ha0).1]
    exact ha0
  obtain ⟨vs, hH, ra⟩ := ok1.cell n a (.lst ds) hρ hw
  have h1 : SqL X.K s1.H a vs := SqL.of hH
  have go : ∀ i, i < ds.length → (Itl X.K a).go i s1.H := fun i hi => by
    obtain ⟨v, hv, _⟩ := ra.get (i := i) (List.getElem?_eq_getElem hi)
    exact ⟨vs, v, h1, hv⟩
  have yl : ∀ i x H' d, (Itl X.K a).yld i s1.H x H' → ds[i]? = some d → ∃ s2, s2.H = H' ∧ Ext s1 s2 ∧ Ok X.K cl s2 ∧ s2.w = s1.w ∧ Rep X.K s2 x d := fun i x H' d hy hd => by
    obtain ⟨rfl, hx⟩ := hy
    obtain ⟨v, hv, rv⟩ := ra.get hd
    have e := hx vs h1
    rw [hv] at e
    cases e
    exact ⟨s1, rfl, Ext.refl s1, ok1, rfl, rv⟩
  have stop : (Itl X.K a).stop ds.length s1.H := ⟨vs, h1, by rw [ra.length]; exact Nat.le_refl _⟩
  by_cases hlt : i < ds.length
  · have hd : ds.drop i = ds[i] :: ds.drop (i + 1) := List.drop_eq_getElem_cons hlt
    rw [hd] at p1
    refine .inr ⟨go i hlt, fun σ' H' => ∃ s2 σ2, s2.H = H' ∧ Ext s0 s2 ∧ Ok X.K cl s2 ∧ RepE X.K s2 σ' σ2 ∧ PostS X.K cl EK s2 (forC n ds f m (ds.drop (i + 1)) σ2 s2.w) D, fun σ' H' ⟨s2, σ2, a1, a2, a3, a4, a5⟩ => ⟨ds.length - (i + 1), by omega, s2, σ2, rfl, hlt, a1, a2, a3, a4, a5⟩, fun x H' hy => ?_⟩
    obtain ⟨s2, rfl, e2, ok2, w2, r2⟩ := yl i x H' ds[i] hy (List.getElem?_eq_getElem hlt)
    refine ⟨s2, τ, ds[i], rfl, ok2, re1.mono ok1 e2, r2, ?_⟩
    rw [w2]
    unfold forC at p1
    rw [if_pos hw] at p1
    cases q : f ds[i] τ s1.w with
    | none => rw [q] at p1; exact p1.elim
    | some τ1 =>
      rw [q] at p1
      dsimp only at p1 ⊢
      intro σ' re' _ _
      refine ⟨s2, τ1, rfl, ok2, re', ?_⟩
      rw [w2]
      have ee : Ext s0 s2 := e1.trans e2
      cases q2 : m τ1 s1.w with
      | next τ2 w3 =>
        rw [q2] at p1
        intro s3 σ3 e3 ok3 hw re3
        exact ⟨s3, τ2, rfl, ee.trans e3, ok3, re3, by rw [hw]; exact PostS.ext (e2.trans e3) p1⟩
      | cnt τ2 w3 =>
        rw [q2] at p1
        intro s3 σ3 e3 ok3 hw re3
        exact ⟨s3, τ2, rfl, ee.trans e3, ok3, re3, by rw [hw]; exact PostS.ext (e2.trans e3) p1⟩
      | brk τ2 w3 =>
        rw [q2] at p1
        exact fun s3 σ3 e3 ok3 hw re3 => p1 s3 σ3 (e2.trans e3) ok3 hw re3
      | ret d w3 =>
        rw [q2] at p1
        exact fun s3 σ3 e3 ok3 hw re3 => p1 s3 σ3 (e2.trans e3) ok3 hw re3
      | err c fs w3 =>
        rw [q2] at p1
        exact fun s3 σ3 dd e3 ok3 hw re3 => p1 s3 σ3 dd (e2.trans e3) ok3 hw re3
      | stuck => rw [q2] at p1; exact p1.elim
  · have hi' : i = ds.length := by omega
    subst hi'
    rw [List.drop_length] at p1
    unfold forC at p1
    rw [if_pos hw] at p1
    exact .inl ⟨stop, p1 s1 σ1 (Ext.refl s1) ok1 rfl re1⟩
end
end Si

set_option Elab.async false
set_option linter.all false
set_option autoImplicit false
set_option maxRecDepth 100000
set_option maxHeartbeats 4000000
namespace K13
open PySem L2 PyProof.Rows Si
open PySem.W PySem.Calls
abbrev Td : DefRec := HandSHeadRun.topDef Rw.prog 23
set_option maxHeartbeats 0 in
theorem hdf_ : Td.params.defaults = [] := by kernel_rfl
set_option maxHeartbeats 0 in
theorem nm_ : Td.name = ("law" : PySem.Str) := by kernel_rfl
set_option maxHeartbeats 0 in
theorem fin_ (call : PySem.W.WalkO (view Rw.prog [23]) nms (XL (view Rw.prog [23]) []) hk.says Rw.toRowW Td [] fun f vs => PySem.call f vs) : PySem.Challenge.rw_coarseonce_k13_whole_combinations_are_co.Holds := by
  w_on; o_law
  refine HandSHeadRun.head_any (r := OpenLaw.row PySem.Challenge.rw_coarseonce_k13_whole_combinations_are_co) (q := view (OpenLaw.row PySem.Challenge.rw_coarseonce_k13_whole_combinations_are_co).prog [23]) (H := hk) (ob := ob) (M := 12000) (loose := nms) (d := Td) (kwd := []) ob_eq
    (by kernel_rfl) (fun s => by kernel_rfl) run (by kernel_rfl) (by kernel_rfl) (by kernel_rfl) (by rfl) (by first | assumption | decide +kernel) (by decide +kernel) ⟨rfl, rfl, rfl, rfl, rfl, by decide +kernel⟩ ?hw call
  case hw => w_witness2
end K13

set_option Elab.async false
set_option linter.all false
set_option autoImplicit false
set_option maxRecDepth 100000
set_option maxHeartbeats 4000000
namespace Bk
open PySem L2 PyProof.Rows Si
end Bk

set_option Elab.async false
set_option linter.all false
set_option autoImplicit false
set_option maxRecDepth 100000
set_option maxHeartbeats 4000000
namespace Bk
open PySem L2 PyProof.Rows Si
end Bk

set_option Elab.async false
set_option linter.all false
set_option autoImplicit false
set_option maxRecDepth 100000
set_option maxHeartbeats 4000000
namespace Bk
open PySem L2 PyProof.Rows Si
noncomputable section
abbrev c_MOST_SIZE : D := (.int 10)
def M_Hull___init___R : En → Wd → SR :=
  (mSeq (mIfS (bNot (mTru (mCall G_is_number (aCons (mVar 1) (aCons (mC (.int 1)) (aCons (mC c_MOST_SIZE) aNil)))))) (mRaise "InvalidNumber" "given" (mVar 1)) mNext)
  (mSeq (mSetF ["Hull"] "own_size" (mVar 0) (mVar 1))
  (mSeq (mSetF ["Hull"] "own_rows" (mVar 0) (mLstM aNil))
  (mSetF ["Hull"] "own_lines" (mVar 0) (mLstM aNil)))))
def F_Hull___init___R : List D → Wd → R D := fnD 2 2 M_Hull___init___R
abbrev G_Hull___init___R := F_Hull___init___R
def fuel_common : En → Wd → Nat := fun σ w => match σ[3]? with
  | some (some (D.int i)) => i.natAbs + 1
  | _ => 0
def M_common : En → Wd → SR :=
  (mSeq (mAsg (mC (.int 0)) (gNm 1))
  (mSeq (mFor (mIter (mVar 0)) (gNm 2) (mSeq (mAsg (mCall gAbs (aCons (mVar 2) aNil)) (gNm 3))
  (mWhile fuel_common (asB (mOp gNe (mVar 3) (mC (.int 0)))) (mPar 1 3 (aCons (mVar 3) (aCons (mOp gMod (mVar 1) (mVar 3)) aNil))))))
  (mRet (mVar 1))))
def F_common : List D → Wd → R D := fnD 4 1 M_common
abbrev G_common := F_common
def M_shortened : En → Wd → SR :=
  (mSeq (mAsg (mCall G_common (aCons (mVar 0) aNil)) (gNm 1))
  (mRet (mIf (asB (mOp gGt (mVar 1) (mC (.int 1)))) (mLc (mIter (mVar 0)) [2] (gNm 2) bYes (mOp gDiv (mVar 2) (mVar 1))) (mCall gLstOf (aCons (mVar 0) aNil)))))
def F_shortened : List D → Wd → R D := fnD 3 1 M_shortened
abbrev G_shortened := F_shortened
def M_Hull_left_of : En → Wd → SR :=
  (mSeq (mAsg (mLc (mZip (aCons (mVar 1) (aCons (mOp gIx (mFld ["Hull"] "own_rows" (mVar 0)) (mC (.int 0))) aNil))) [7, 8] (gTupD 2 (gConsD (gNm 7) (gConsD (gNm 8) gNilD))) bYes (mOp gSub (mVar 7) (mVar 8))) (gNm 2))
  (mSeq (mForC (mFld ["Hull"] "own_lines" (mVar 0)) (gTupD 2 (gConsD (gNm 3) (gConsD (gNm 4) gNilD))) (mIfS (asB (mOp gNe (mOp gIx (mVar 2) (mVar 3)) (mC (.int 0)))) (mSeq (mAsg (mTup (aCons (mOp gIx (mVar 4) (mVar 3)) (aCons (mOp gIx (mVar 2) (mVar 3)) aNil))) (gTupD 2 (gConsD (gNm 5) (gConsD (gNm 6) gNilD))))
  (mAsg (mCall G_shortened (aCons (mLc (mZip (aCons (mVar 2) (aCons (mVar 4) aNil))) [7, 9] (gTupD 2 (gConsD (gNm 7) (gConsD (gNm 9) gNilD))) bYes (mOp gSub (mOp gMul (mVar 7) (mVar 5)) (mOp gMul (mVar 9) (mVar 6)))) aNil)) (gNm 2))) mNext))
  (mRet (mVar 2))))
def F_Hull_left_of : List D → Wd → R D := fnD 10 2 M_Hull_left_of
abbrev G_Hull_left_of := F_Hull_left_of
def M_Hull_take_R : En → Wd → SR :=
  (mSeq (mIfS (bNot (mTru (mCall G_is_integers (aCons (mVar 1) (aCons (mFld ["Hull"] "own_size" (mVar 0)) aNil))))) (mRaise "InvalidRow" "given" (mVar 1)) mNext)
  (mSeq (mIfS (asB (mOp gNe (mFld ["Hull"] "own_rows" (mVar 0)) (mLst aNil))) (mSeq (mAsg (mMeth "Hull" "left_of" G_Hull_left_of (mVar 0) (aCons (mVar 1) aNil)) (gNm 2))
  (mSeq (mAsg (mLc (mEnumS (aCons (mVar 2) aNil)) [4, 5] (gTupD 2 (gConsD (gNm 4) (gConsD (gNm 5) gNilD))) (asB (mOp gNe (mVar 5) (mC (.int 0)))) (mVar 4)) (gNm 3))
  (mSeq (mIfS (asB (mOp gEq (mVar 3) (mLst aNil))) (mRet (mC (.bl false))) mNext)
  (mExpr (mApp (mFld ["Hull"] "own_lines" (mVar 0)) (mTup (aCons (mOp gIx (mVar 3) (mC (.int 0))) (aCons (mVar 2) aNil)))))))) mNext)
  (mSeq (mExpr (mApp (mFld ["Hull"] "own_rows" (mVar 0)) (mVar 1)))
  (mRet (mC (.bl true))))))
def F_Hull_take_R : List D → Wd → R D := fnD 6 2 M_Hull_take_R
abbrev G_Hull_take_R := F_Hull_take_R
def M_Hull___contains__ : En → Wd → SR :=
  (mSeq (mIfS (bOr (bNot (mTru (mCall G_is_integers (aCons (mVar 1) (aCons (mFld ["Hull"] "own_size" (mVar 0)) aNil))))) (asB (mOp gEq (mFld ["Hull"] "own_rows" (mVar 0)) (mLst aNil)))) (mRet (mC (.bl false))) mNext)
  (mRet (mNot (mCall gAny (aCons (mLc (mIter (mMeth "Hull" "left_of" G_Hull_left_of (mVar 0) (aCons (mVar 1) aNil))) [2] (gNm 2) bYes (mOp gNe (mVar 2) (mC (.int 0)))) aNil)))))
def F_Hull___contains__ : List D → Wd → R D := fnD 3 2 M_Hull___contains__
abbrev G_Hull___contains__ := F_Hull___contains__
def M__law_left : En → Wd → SR :=
  (mSeq (mAsg (mLc (mZip (aCons (mVar 1) (aCons (mOp gIx (mOp gIx (mVar 0) (mC (.int 0))) (mC (.int 0))) aNil))) [7, 8] (gTupD 2 (gConsD (gNm 7) (gConsD (gNm 8) gNilD))) bYes (mOp gSub (mVar 7) (mVar 8))) (gNm 2))
  (mSeq (mForC (mOp gIx (mVar 0) (mC (.int 1))) (gTupD 2 (gConsD (gNm 3) (gConsD (gNm 4) gNilD))) (mIfS (asB (mOp gNe (mOp gIx (mVar 2) (mVar 3)) (mC (.int 0)))) (mSeq (mAsg (mTup (aCons (mOp gIx (mVar 4) (mVar 3)) (aCons (mOp gIx (mVar 2) (mVar 3)) aNil))) (gTupD 2 (gConsD (gNm 5) (gConsD (gNm 6) gNilD))))
  (mAsg (mLc (mZip (aCons (mVar 2) (aCons (mVar 4) aNil))) [7, 9] (gTupD 2 (gConsD (gNm 7) (gConsD (gNm 9) gNilD))) bYes (mOp gSub (mOp gMul (mVar 7) (mVar 5)) (mOp gMul (mVar 9) (mVar 6)))) (gNm 2))) mNext))
  (mRet (mVar 2))))
def F__law_left : List D → Wd → R D := fnD 10 2 M__law_left
abbrev G__law_left := F__law_left
def M__law_covers : En → Wd → SR :=
  (mSeq (mIfS (bOr (asB (mOp gEq (mVar 2) (mC (.str "most")))) (asB (mOp gEq (mOp gIx (mVar 0) (mC (.int 0))) (mLst aNil)))) (mRet (mOp gIn (mVar 1) (mOp gIx (mVar 0) (mC (.int 0))))) mNext)
  (mRet (mOp gEq (mLc (mIter (mCall G__law_left (aCons (mVar 0) (aCons (mVar 1) aNil)))) [3] (gNm 3) (asB (mOp gNe (mVar 3) (mC (.int 0)))) (mVar 3)) (mLst aNil))))
def F__law_covers : List D → Wd → R D := fnD 4 3 M__law_covers
abbrev G__law_covers := F__law_covers
def M__law_keep : En → Wd → SR :=
  (mSeq (mIfS (mTru (mCall G__law_covers (aCons (mVar 0) (aCons (mVar 1) (aCons (mVar 2) aNil))))) (mRet (mC (.bl false))) mNext)
  (mSeq (mIfS (bAnd (asB (mOp gEq (mVar 2) (mC (.str "sum")))) (asB (mOp gNe (mOp gIx (mVar 0) (mC (.int 0))) (mLst aNil)))) (mSeq (mAsg (mCall G__law_left (aCons (mVar 0) (aCons (mVar 1) aNil))) (gNm 3))
  (mSeq (mAsg (mLc (mRng (aCons (mCall gLen (aCons (mVar 3) aNil)) aNil)) [5] (gNm 5) (asB (mOp gNe (mOp gIx (mVar 3) (mVar 5)) (mC (.int 0)))) (mVar 5)) (gNm 4))
  (mExpr (mApp (mOp gIx (mVar 0) (mC (.int 1))) (mTup (aCons (mOp gIx (mVar 4) (mC (.int 0))) (aCons (mVar 3) aNil))))))) mNext)
  (mSeq (mExpr (mApp (mOp gIx (mVar 0) (mC (.int 0))) (mVar 1)))
  (mRet (mC (.bl true))))))
def F__law_keep : List D → Wd → R D := fnD 6 3 M__law_keep
abbrev G__law_keep := F__law_keep
def M__law_lot : En → Wd → SR :=
  (mSeq (mAsg (mLst (aCons (mLstM aNil) (aCons (mLstM aNil) aNil))) (gNm 2))
  (mSeq (mFor (mIter (mVar 0)) (gNm 3) (mExpr (mCall G__law_keep (aCons (mVar 2) (aCons (mVar 3) (aCons (mVar 1) aNil))))))
  (mRet (mVar 2))))
def F__law_lot : List D → Wd → R D := fnD 4 2 M__law_lot
abbrev G__law_lot := F__law_lot
def M_Hull___len__ : En → Wd → SR :=
  (mRet (mCall gLen (aCons (mFld ["Hull"] "own_rows" (mVar 0)) aNil)))
def F_Hull___len__ : List D → Wd → R D := fnD 1 1 M_Hull___len__
abbrev G_Hull___len__ := F_Hull___len__
end
end Bk

set_option Elab.async false
set_option linter.all false
set_option autoImplicit false
set_option maxRecDepth 100000
set_option maxHeartbeats 4000000
/-! Bw0: what laws with lambdas share: raising, asks, lists of asks. -/
namespace Bk
open PySem L2 L2H LamX PyProof.Rows Si
/-- the slots written out -/
local macro_rules | `(tactic| walk_at "nm_Bw0") => `(tactic| (simp only [startD, wipeD, List.foldl_cons, List.foldl_nil, List.set_cons_succ, List.set_cons_zero, List.map_cons, List.map_nil, List.length_cons, List.length_nil, Nat.reduceAdd, Nat.reduceSub, List.replicate_succ, List.replicate_zero, List.cons_append, List.nil_append]; rfl))
/-- one step by the form of the code -/
local macro_rules | `(tactic| walk_at "g1_Bw0") => `(tactic| with_reducible first
  | (refine go_idD ?_; first
    | refine go_env (σ := List.set _ _ _) (by walk_at "nm_Bw0") ?_ | refine go_var rfl ?_ | refine go_c ?_ | refine go_op ?_ | refine go_call ?_ | refine go_eqS ?_ | refine go_eqI ?_ | refine go_tup ?_ | refine go_lst ?_ | refine go_addI ?_ | refine go_isi ?_ | refine go_and ?_ | refine go_lt ?_ | refine go_le ?_ | refine go_gt ?_ | refine go_ge ?_ | refine go_ixT rfl ?_ | refine go_ixL rfl ?_
    | refine go_lc ?_ | refine go_if ?_ | refine go_not ?_ | refine go_or ?_ | refine go_chain ?_ | refine go_callK ?_ | refine go_lstM ?_ | refine go_neg ?_ | refine go_sl ?_ | refine go_isi2 ?_ | refine go_join ?_ | refine go_app ?_ | refine go_lenSet ?_ | refine go_lcM ?_
    | refine go_subI ?_ | refine go_neI ?_ | refine go_neS ?_ | refine go_lenL ?_ | refine go_lenT ?_ | refine go_lenS (by assumption) ?_
    | refine go_slL ?_ | refine go_slT ?_ | refine go_slS (by assumption) ?_ | refine go_intI ?_ | refine go_lstL ?_ | refine go_lstT ?_ | refine go_tupL ?_ | refine go_tupT ?_ | refine go_isN ?_ | refine go_notN ?_ | refine go_allM ?_ | refine go_max2 ?_ | refine go_min2 ?_)
  | (refine go_idL ?_; first | refine go_cons ?_ | refine go_nil ?_ | refine go_iter ?_ | refine go_rng1 ?_ | refine go_zip ?_ | refine go_enum ?_ | refine go_star ?_ | refine go_rng2 ?_)
  | (refine gd_id ?_; first | refine gd_env (σ := List.set _ _ _) (by walk_at "nm_Bw0") ?_ | refine gd_env (σ := startD _ _) (by walk_at "nm_Bw0") ?_ | refine gd_seq ?_ | refine gd_nm ?_ | refine gd_asg ?_ | refine gd_ret ?_ | refine gd_if ?_ | refine gd_next ?_ | refine gd_expr ?_ | refine gd_par ?_ | refine gd_retN ?_ | refine gd_brk ?_ | refine gd_cnt ?_ | refine gd_for ?_)
  | (refine go_idB ?_; first | refine go_asB ?_ | refine go_tru ?_ | refine go_bAnd ?_ | refine go_bOr ?_ | refine go_bNot ?_ | refine go_bYes ?_)
  | (refine br_id ?_; first | refine br_t ?_ | refine br_f ?_ | refine br_not ?_)
  | (refine go_idO ?_; first | refine go_oNone ?_ | refine go_oSome ?_))
local macro_rules | `(tactic| walk_at "g2_Bw0") => `(tactic| first
  | with_reducible refine ex_bl ?_ | with_reducible refine ex_int ?_ | with_reducible refine ex_str ?_ | with_reducible refine ex_nm ?_
  | with_reducible refine ex_zip ?_ | with_reducible refine ex_enum ?_
  | with_reducible refine ex_seq (by with_unfolding_all exact rfl) ?_
  | with_reducible refine ex_tg (by with_unfolding_all exact rfl) ?_
  | with_reducible refine ex_tru (by with_unfolding_all exact rfl) ?_
  | with_reducible refine ex_ty (by with_unfolding_all exact rfl) ?_
  | with_reducible refine ex_it (by with_unfolding_all exact rfl) ?_
  | ((with_reducible refine br_id ?_); first
    | with_reducible refine br_is (b := Si.isNon _) (by with_unfolding_all rfl) ?_ | with_reducible refine br_isnt (b := Si.isNon _) (by with_unfolding_all rfl) ?_
    | with_reducible refine br_is (b := isB _ _) (by with_unfolding_all decide) ?_ | with_reducible refine br_isnt (b := isB _ _) (by with_unfolding_all decide) ?_
    | with_reducible refine br_is (b := isB _ _ || isB _ _) (by with_unfolding_all decide) ?_ | with_reducible refine br_isnt (b := isB _ _ || isB _ _) (by with_unfolding_all decide) ?_
    | with_reducible refine br_y (by decide +kernel) ?_ | with_reducible refine br_n (by decide +kernel) ?_ | with_reducible refine br_y (by with_unfolding_all rfl) ?_ | with_reducible refine br_n (by simp only [List.length_cons, List.length_nil]; omega) ?_)
  | ((with_reducible refine go_idD ?_); first
    | with_reducible refine go_mulL ⟨by decide, by decide⟩ ?_ | with_reducible refine go_mulR ⟨by decide, by decide⟩ ?_ | with_reducible refine go_mod (by decide) ?_ | with_reducible refine go_div (by decide) (by decide) ?_
    | with_reducible refine go_inTt (by decide +kernel) (by decide +kernel) ?_ | with_reducible refine go_inTf (by decide +kernel) (by decide +kernel) ?_ | with_reducible refine go_niTt (by decide +kernel) (by decide +kernel) ?_ | with_reducible refine go_niTf (by decide +kernel) (by decide +kernel) ?_)
  | (with_reducible refine an_le ?hh ?_; case hh => (first | decide | (simp only [List.length_cons, List.length_nil]; omega)))
  | (with_reducible refine an_rng ?hh ?_; case hh => (first | decide | omega))
  | (with_reducible refine an_rng2 ?hh ?_; case hh => (first | decide | omega))
  | fail)
local macro_rules | `(tactic| walk_at "gg_Bw0") => `(tactic| repeat' (first | walk_at "g1_Bw0" | walk_at "g2_Bw0"))

mutual
theorem fine_mono : ∀ {n : Nat} {d : D}, d.fine n = true → d.fine (n + 1) = true
  | _, .non, _ | _, .bl _, _ | _, .int _, _ | _, .str _, _ => by simp [D.fine]
  | 0, .lst _, h => by simp [D.fine] at h
  | 0, .tup _, h => by simp [D.fine] at h
  | n + 1, .lst xs, h => by
    rw [D.fine, Bool.and_eq_true] at h ⊢
    exact ⟨h.1, fineA_mono h.2⟩
  | n + 1, .tup xs, h => by
    rw [D.fine, Bool.and_eq_true] at h ⊢
    exact ⟨h.1, fineA_mono h.2⟩
  | n, .obj _, h => by cases n <;> simp [D.fine] at h
  | n, .scr _, h => by cases n <;> simp [D.fine] at h
theorem fineA_mono : ∀ {n : Nat} {ds : List D}, fineA n ds = true → fineA (n + 1) ds = true
  | _, [], _ => rfl
  | n, x :: r, h => by
    rw [fineA, Bool.and_eq_true] at h ⊢
    exact ⟨fine_mono h.1, fineA_mono h.2⟩
end
section
variable {X : EX} {Q : D → Wd → Prop} {QA : List D → Wd → Prop} {N B C : En → Wd → Prop} {T : D → Wd → Prop} {w w0 w1 : Wd} {n m b : Nat} {σ : En} {q : Str} {es : List (Str × Str)}
/-- where the lambdas' cells stand -/
def FnsAt (q : Str) (cells : List (Str × Addr)) (k : Nat) (ll : List LamP) (w : Wd) : Prop := ∀ (j : Nat) (p : LamP), ll[j]? = some p → w[k + j]? = some (MO.fn (ldOf q cells p))
theorem FnsAt.bg {cells : List (Str × Addr)} {ll : List LamP} {k : Nat} (h : FnsAt q cells k ll w) (g : Bg n w w1) (hk : n < k) : FnsAt q cells k ll w1 := fun j p e => g.get (h j p e) (by omega)
end
end Bk

set_option Elab.async false
set_option linter.all false
set_option autoImplicit false
set_option maxRecDepth 100000
set_option maxHeartbeats 4000000
/-! Bv1: what is a name, a store, pairs, tests, settings, a note: of any plain value. -/
namespace Bk
open PySem L2 L2H LamX PyProof.Rows Si
/-- the slots written out -/
local macro_rules | `(tactic| walk_at "nm_Bv1") => `(tactic| (simp only [startD, wipeD, List.foldl_cons, List.foldl_nil, List.set_cons_succ, List.set_cons_zero, List.map_cons, List.map_nil, List.length_cons, List.length_nil, Nat.reduceAdd, Nat.reduceSub, List.replicate_succ, List.replicate_zero, List.cons_append, List.nil_append]; rfl))
/-- one step by the form of the code -/
local macro_rules | `(tactic| walk_at "g1_Bv1") => `(tactic| with_reducible first
  | (refine go_idD ?_; first
    | refine go_env (σ := List.set _ _ _) (by walk_at "nm_Bv1") ?_ | refine go_var rfl ?_ | refine go_c ?_ | refine go_op ?_ | refine go_call ?_ | refine go_eqS ?_ | refine go_eqI ?_ | refine go_tup ?_ | refine go_lst ?_ | refine go_addI ?_ | refine go_isi ?_ | refine go_and ?_ | refine go_lt ?_ | refine go_le ?_ | refine go_gt ?_ | refine go_ge ?_ | refine go_ixT rfl ?_ | refine go_ixL rfl ?_
    | refine go_lc ?_ | refine go_if ?_ | refine go_not ?_ | refine go_or ?_ | refine go_chain ?_ | refine go_callK ?_ | refine go_lstM ?_ | refine go_neg ?_ | refine go_sl ?_ | refine go_isi2 ?_ | refine go_join ?_ | refine go_app ?_ | refine go_lenSet ?_ | refine go_lcM ?_
    | refine go_subI ?_ | refine go_neI ?_ | refine go_neS ?_ | refine go_lenL ?_ | refine go_lenT ?_ | refine go_lenS (by assumption) ?_
    | refine go_slL ?_ | refine go_slT ?_ | refine go_slS (by assumption) ?_ | refine go_intI ?_ | refine go_lstL ?_ | refine go_lstT ?_ | refine go_tupL ?_ | refine go_tupT ?_ | refine go_isN ?_ | refine go_notN ?_ | refine go_allM ?_ | refine go_max2 ?_ | refine go_min2 ?_)
  | (refine go_idL ?_; first | refine go_cons ?_ | refine go_nil ?_ | refine go_iter ?_ | refine go_rng1 ?_ | refine go_zip ?_ | refine go_enum ?_ | refine go_star ?_ | refine go_rng2 ?_)
  | (refine gd_id ?_; first | refine gd_env (σ := List.set _ _ _) (by walk_at "nm_Bv1") ?_ | refine gd_env (σ := startD _ _) (by walk_at "nm_Bv1") ?_ | refine gd_seq ?_ | refine gd_nm ?_ | refine gd_asg ?_ | refine gd_ret ?_ | refine gd_if ?_ | refine gd_next ?_ | refine gd_expr ?_ | refine gd_par ?_ | refine gd_retN ?_ | refine gd_brk ?_ | refine gd_cnt ?_ | refine gd_for ?_)
  | (refine go_idB ?_; first | refine go_asB ?_ | refine go_tru ?_ | refine go_bAnd ?_ | refine go_bOr ?_ | refine go_bNot ?_ | refine go_bYes ?_)
  | (refine br_id ?_; first | refine br_t ?_ | refine br_f ?_ | refine br_not ?_)
  | (refine go_idO ?_; first | refine go_oNone ?_ | refine go_oSome ?_))
local macro_rules | `(tactic| walk_at "g2_Bv1") => `(tactic| first
  | with_reducible refine ex_bl ?_ | with_reducible refine ex_int ?_ | with_reducible refine ex_str ?_ | with_reducible refine ex_nm ?_
  | with_reducible refine ex_zip ?_ | with_reducible refine ex_enum ?_
  | with_reducible refine ex_seq (by with_unfolding_all exact rfl) ?_
  | with_reducible refine ex_tg (by with_unfolding_all exact rfl) ?_
  | with_reducible refine ex_tru (by with_unfolding_all exact rfl) ?_
  | with_reducible refine ex_ty (by with_unfolding_all exact rfl) ?_
  | with_reducible refine ex_it (by with_unfolding_all exact rfl) ?_
  | ((with_reducible refine br_id ?_); first
    | with_reducible refine br_is (b := Si.isNon _) (by with_unfolding_all rfl) ?_ | with_reducible refine br_isnt (b := Si.isNon _) (by with_unfolding_all rfl) ?_
    | with_reducible refine br_is (b := isB _ _) (by with_unfolding_all decide) ?_ | with_reducible refine br_isnt (b := isB _ _) (by with_unfolding_all decide) ?_
    | with_reducible refine br_is (b := isB _ _ || isB _ _) (by with_unfolding_all decide) ?_ | with_reducible refine br_isnt (b := isB _ _ || isB _ _) (by with_unfolding_all decide) ?_
    | with_reducible refine br_y (by decide +kernel) ?_ | with_reducible refine br_n (by decide +kernel) ?_ | with_reducible refine br_y (by with_unfolding_all rfl) ?_ | with_reducible refine br_n (by simp only [List.length_cons, List.length_nil]; omega) ?_)
  | ((with_reducible refine go_idD ?_); first
    | with_reducible refine go_mulL ⟨by decide, by decide⟩ ?_ | with_reducible refine go_mulR ⟨by decide, by decide⟩ ?_ | with_reducible refine go_mod (by decide) ?_ | with_reducible refine go_div (by decide) (by decide) ?_
    | with_reducible refine go_inTt (by decide +kernel) (by decide +kernel) ?_ | with_reducible refine go_inTf (by decide +kernel) (by decide +kernel) ?_ | with_reducible refine go_niTt (by decide +kernel) (by decide +kernel) ?_ | with_reducible refine go_niTf (by decide +kernel) (by decide +kernel) ?_)
  | (with_reducible refine an_le ?hh ?_; case hh => (first | decide | (simp only [List.length_cons, List.length_nil]; omega)))
  | (with_reducible refine an_rng ?hh ?_; case hh => (first | decide | omega))
  | (with_reducible refine an_rng2 ?hh ?_; case hh => (first | decide | omega))
  | fail)
local macro_rules | `(tactic| walk_at "gg_Bv1") => `(tactic| repeat' (first | walk_at "g1_Bv1" | walk_at "g2_Bv1"))

mutual
/-- no long text within -/
def shortD : D → Bool
  | .str z => decide (z.length ≤ 16777216)
  | .lst xs => decide (xs.length < 4000) && shortA xs
  | .tup xs => decide (xs.length < 4000) && shortA xs
  | _ => true
def shortA : List D → Bool
  | [] => true
  | x :: r => shortD x && shortA r
end
theorem shortA_mem : ∀ {xs : List D}, shortA xs = true → ∀ x ∈ xs, shortD x = true
  | [], _, x, h => by cases h
  | y :: r, h, x, hx => by
    rw [shortA, Bool.and_eq_true] at h
    rcases List.mem_cons.mp hx with rfl | hx
    · exact h.1
    · exact shortA_mem h.2 x hx
/-- any value that may be handed -/
structure Val (n : Nat) (d : D) : Prop where
  p : Plain n d
  s : shortD d = true
theorem Val.tup {n : Nat} {ds : List D} (h : Val (n + 1) (.tup ds)) : ds.length < 4000 ∧ ∀ x ∈ ds, Val n x := by
  have hs := h.s
  rw [shortD, Bool.and_eq_true] at hs
  exact ⟨of_decide_eq_true hs.1, fun x hx => ⟨h.p.tup.2 x hx, shortA_mem hs.2 x hx⟩⟩
theorem Val.lst {n : Nat} {ds : List D} (h : Val (n + 1) (.lst ds)) : ds.length < 4000 ∧ ∀ x ∈ ds, Val n x := by
  have hs := h.s
  have hf := h.p.f
  have ht := h.p.t
  rw [shortD, Bool.and_eq_true] at hs
  rw [D.fine, Bool.and_eq_true] at hf
  rw [tame] at ht
  exact ⟨of_decide_eq_true hs.1, fun x hx => ⟨⟨fineA_mem hf.2 x hx, tameA_mem ht x hx⟩, shortA_mem hs.2 x hx⟩⟩
theorem Val.len {n : Nat} {z : Str} (h : Val n (.str z)) : z.length ≤ 16777216 := by have := h.s; rw [shortD] at this; exact of_decide_eq_true this
/-! the plain answers -/
section
variable {X : EX} {Q : D → Wd → Prop} {N B C : En → Wd → Prop} {T : D → Wd → Prop} {w w0 : Wd} {n m b : Nat} {σ : En} {d : D} {ma hs : List Str} {k : Nat}
end
end Bk

set_option Elab.async false
set_option linter.all false
set_option autoImplicit false
set_option maxRecDepth 100000
set_option maxHeartbeats 4000000
/-! Bv2: tests, settings, stores, notes, entries: of any plain value. -/
namespace Bk
open PySem L2 L2H LamX PyProof.Rows Si
/-- the slots written out -/
local macro_rules | `(tactic| walk_at "nm_Bv2") => `(tactic| (simp only [startD, wipeD, List.foldl_cons, List.foldl_nil, List.set_cons_succ, List.set_cons_zero, List.map_cons, List.map_nil, List.length_cons, List.length_nil, Nat.reduceAdd, Nat.reduceSub, List.replicate_succ, List.replicate_zero, List.cons_append, List.nil_append]; rfl))
/-- one step by the form of the code -/
local macro_rules | `(tactic| walk_at "g1_Bv2") => `(tactic| with_reducible first
  | (refine go_idD ?_; first
    | refine go_env (σ := List.set _ _ _) (by walk_at "nm_Bv2") ?_ | refine go_var rfl ?_ | refine go_c ?_ | refine go_op ?_ | refine go_call ?_ | refine go_eqS ?_ | refine go_eqI ?_ | refine go_tup ?_ | refine go_lst ?_ | refine go_addI ?_ | refine go_isi ?_ | refine go_and ?_ | refine go_lt ?_ | refine go_le ?_ | refine go_gt ?_ | refine go_ge ?_ | refine go_ixT rfl ?_ | refine go_ixL rfl ?_
    | refine go_lc ?_ | refine go_if ?_ | refine go_not ?_ | refine go_or ?_ | refine go_chain ?_ | refine go_callK ?_ | refine go_lstM ?_ | refine go_neg ?_ | refine go_sl ?_ | refine go_isi2 ?_ | refine go_join ?_ | refine go_app ?_ | refine go_lenSet ?_ | refine go_lcM ?_
    | refine go_subI ?_ | refine go_neI ?_ | refine go_neS ?_ | refine go_lenL ?_ | refine go_lenT ?_ | refine go_lenS (by assumption) ?_
    | refine go_slL ?_ | refine go_slT ?_ | refine go_slS (by assumption) ?_ | refine go_intI ?_ | refine go_lstL ?_ | refine go_lstT ?_ | refine go_tupL ?_ | refine go_tupT ?_ | refine go_isN ?_ | refine go_notN ?_ | refine go_allM ?_ | refine go_max2 ?_ | refine go_min2 ?_)
  | (refine go_idL ?_; first | refine go_cons ?_ | refine go_nil ?_ | refine go_iter ?_ | refine go_rng1 ?_ | refine go_zip ?_ | refine go_enum ?_ | refine go_star ?_ | refine go_rng2 ?_)
  | (refine gd_id ?_; first | refine gd_env (σ := List.set _ _ _) (by walk_at "nm_Bv2") ?_ | refine gd_env (σ := startD _ _) (by walk_at "nm_Bv2") ?_ | refine gd_seq ?_ | refine gd_nm ?_ | refine gd_asg ?_ | refine gd_ret ?_ | refine gd_if ?_ | refine gd_next ?_ | refine gd_expr ?_ | refine gd_par ?_ | refine gd_retN ?_ | refine gd_brk ?_ | refine gd_cnt ?_ | refine gd_for ?_)
  | (refine go_idB ?_; first | refine go_asB ?_ | refine go_tru ?_ | refine go_bAnd ?_ | refine go_bOr ?_ | refine go_bNot ?_ | refine go_bYes ?_)
  | (refine br_id ?_; first | refine br_t ?_ | refine br_f ?_ | refine br_not ?_)
  | (refine go_idO ?_; first | refine go_oNone ?_ | refine go_oSome ?_))
local macro_rules | `(tactic| walk_at "g2_Bv2") => `(tactic| first
  | with_reducible refine ex_bl ?_ | with_reducible refine ex_int ?_ | with_reducible refine ex_str ?_ | with_reducible refine ex_nm ?_
  | with_reducible refine ex_zip ?_ | with_reducible refine ex_enum ?_
  | with_reducible refine ex_seq (by with_unfolding_all exact rfl) ?_
  | with_reducible refine ex_tg (by with_unfolding_all exact rfl) ?_
  | with_reducible refine ex_tru (by with_unfolding_all exact rfl) ?_
  | with_reducible refine ex_ty (by with_unfolding_all exact rfl) ?_
  | with_reducible refine ex_it (by with_unfolding_all exact rfl) ?_
  | ((with_reducible refine br_id ?_); first
    | with_reducible refine br_is (b := Si.isNon _) (by with_unfolding_all rfl) ?_ | with_reducible refine br_isnt (b := Si.isNon _) (by with_unfolding_all rfl) ?_
    | with_reducible refine br_is (b := isB _ _) (by with_unfolding_all decide) ?_ | with_reducible refine br_isnt (b := isB _ _) (by with_unfolding_all decide) ?_
    | with_reducible refine br_is (b := isB _ _ || isB _ _) (by with_unfolding_all decide) ?_ | with_reducible refine br_isnt (b := isB _ _ || isB _ _) (by with_unfolding_all decide) ?_
    | with_reducible refine br_y (by decide +kernel) ?_ | with_reducible refine br_n (by decide +kernel) ?_ | with_reducible refine br_y (by with_unfolding_all rfl) ?_ | with_reducible refine br_n (by simp only [List.length_cons, List.length_nil]; omega) ?_)
  | ((with_reducible refine go_idD ?_); first
    | with_reducible refine go_mulL ⟨by decide, by decide⟩ ?_ | with_reducible refine go_mulR ⟨by decide, by decide⟩ ?_ | with_reducible refine go_mod (by decide) ?_ | with_reducible refine go_div (by decide) (by decide) ?_
    | with_reducible refine go_inTt (by decide +kernel) (by decide +kernel) ?_ | with_reducible refine go_inTf (by decide +kernel) (by decide +kernel) ?_ | with_reducible refine go_niTt (by decide +kernel) (by decide +kernel) ?_ | with_reducible refine go_niTf (by decide +kernel) (by decide +kernel) ?_)
  | (with_reducible refine an_le ?hh ?_; case hh => (first | decide | (simp only [List.length_cons, List.length_nil]; omega)))
  | (with_reducible refine an_rng ?hh ?_; case hh => (first | decide | omega))
  | (with_reducible refine an_rng2 ?hh ?_; case hh => (first | decide | omega))
  | fail)
local macro_rules | `(tactic| walk_at "gg_Bv2") => `(tactic| repeat' (first | walk_at "g1_Bv2" | walk_at "g2_Bv2"))

section
variable {X : EX} {Q : D → Wd → Prop} {N B C : En → Wd → Prop} {T : D → Wd → Prop} {w w0 : Wd} {n m b : Nat} {σ : En} {d : D} {ma hs : List Str} {k : Nat}
end
end Bk

set_option Elab.async false
set_option linter.all false
set_option autoImplicit false
set_option maxRecDepth 100000
set_option maxHeartbeats 4000000
/-! Bv3: entries, steps, jobs, readings: of any plain value. -/
namespace Bk
open PySem L2 L2H LamX PyProof.Rows Si
/-- the slots written out -/
local macro_rules | `(tactic| walk_at "nm_Bv3") => `(tactic| (simp only [startD, wipeD, List.foldl_cons, List.foldl_nil, List.set_cons_succ, List.set_cons_zero, List.map_cons, List.map_nil, List.length_cons, List.length_nil, Nat.reduceAdd, Nat.reduceSub, List.replicate_succ, List.replicate_zero, List.cons_append, List.nil_append]; rfl))
/-- one step by the form of the code -/
local macro_rules | `(tactic| walk_at "g1_Bv3") => `(tactic| with_reducible first
  | (refine go_idD ?_; first
    | refine go_env (σ := List.set _ _ _) (by walk_at "nm_Bv3") ?_ | refine go_var rfl ?_ | refine go_c ?_ | refine go_op ?_ | refine go_call ?_ | refine go_eqS ?_ | refine go_eqI ?_ | refine go_tup ?_ | refine go_lst ?_ | refine go_addI ?_ | refine go_isi ?_ | refine go_and ?_ | refine go_lt ?_ | refine go_le ?_ | refine go_gt ?_ | refine go_ge ?_ | refine go_ixT rfl ?_ | refine go_ixL rfl ?_
    | refine go_lc ?_ | refine go_if ?_ | refine go_not ?_ | refine go_or ?_ | refine go_chain ?_ | refine go_callK ?_ | refine go_lstM ?_ | refine go_neg ?_ | refine go_sl ?_ | refine go_isi2 ?_ | refine go_join ?_ | refine go_app ?_ | refine go_lenSet ?_ | refine go_lcM ?_
    | refine go_subI ?_ | refine go_neI ?_ | refine go_neS ?_ | refine go_lenL ?_ | refine go_lenT ?_ | refine go_lenS (by assumption) ?_
    | refine go_slL ?_ | refine go_slT ?_ | refine go_slS (by assumption) ?_ | refine go_intI ?_ | refine go_lstL ?_ | refine go_lstT ?_ | refine go_tupL ?_ | refine go_tupT ?_ | refine go_isN ?_ | refine go_notN ?_ | refine go_allM ?_ | refine go_max2 ?_ | refine go_min2 ?_)
  | (refine go_idL ?_; first | refine go_cons ?_ | refine go_nil ?_ | refine go_iter ?_ | refine go_rng1 ?_ | refine go_zip ?_ | refine go_enum ?_ | refine go_star ?_ | refine go_rng2 ?_)
  | (refine gd_id ?_; first | refine gd_env (σ := List.set _ _ _) (by walk_at "nm_Bv3") ?_ | refine gd_env (σ := startD _ _) (by walk_at "nm_Bv3") ?_ | refine gd_seq ?_ | refine gd_nm ?_ | refine gd_asg ?_ | refine gd_ret ?_ | refine gd_if ?_ | refine gd_next ?_ | refine gd_expr ?_ | refine gd_par ?_ | refine gd_retN ?_ | refine gd_brk ?_ | refine gd_cnt ?_ | refine gd_for ?_)
  | (refine go_idB ?_; first | refine go_asB ?_ | refine go_tru ?_ | refine go_bAnd ?_ | refine go_bOr ?_ | refine go_bNot ?_ | refine go_bYes ?_)
  | (refine br_id ?_; first | refine br_t ?_ | refine br_f ?_ | refine br_not ?_)
  | (refine go_idO ?_; first | refine go_oNone ?_ | refine go_oSome ?_))
local macro_rules | `(tactic| walk_at "g2_Bv3") => `(tactic| first
  | with_reducible refine ex_bl ?_ | with_reducible refine ex_int ?_ | with_reducible refine ex_str ?_ | with_reducible refine ex_nm ?_
  | with_reducible refine ex_zip ?_ | with_reducible refine ex_enum ?_
  | with_reducible refine ex_seq (by with_unfolding_all exact rfl) ?_
  | with_reducible refine ex_tg (by with_unfolding_all exact rfl) ?_
  | with_reducible refine ex_tru (by with_unfolding_all exact rfl) ?_
  | with_reducible refine ex_ty (by with_unfolding_all exact rfl) ?_
  | with_reducible refine ex_it (by with_unfolding_all exact rfl) ?_
  | ((with_reducible refine br_id ?_); first
    | with_reducible refine br_is (b := Si.isNon _) (by with_unfolding_all rfl) ?_ | with_reducible refine br_isnt (b := Si.isNon _) (by with_unfolding_all rfl) ?_
    | with_reducible refine br_is (b := isB _ _) (by with_unfolding_all decide) ?_ | with_reducible refine br_isnt (b := isB _ _) (by with_unfolding_all decide) ?_
    | with_reducible refine br_is (b := isB _ _ || isB _ _) (by with_unfolding_all decide) ?_ | with_reducible refine br_isnt (b := isB _ _ || isB _ _) (by with_unfolding_all decide) ?_
    | with_reducible refine br_y (by decide +kernel) ?_ | with_reducible refine br_n (by decide +kernel) ?_ | with_reducible refine br_y (by with_unfolding_all rfl) ?_ | with_reducible refine br_n (by simp only [List.length_cons, List.length_nil]; omega) ?_)
  | ((with_reducible refine go_idD ?_); first
    | with_reducible refine go_mulL ⟨by decide, by decide⟩ ?_ | with_reducible refine go_mulR ⟨by decide, by decide⟩ ?_ | with_reducible refine go_mod (by decide) ?_ | with_reducible refine go_div (by decide) (by decide) ?_
    | with_reducible refine go_inTt (by decide +kernel) (by decide +kernel) ?_ | with_reducible refine go_inTf (by decide +kernel) (by decide +kernel) ?_ | with_reducible refine go_niTt (by decide +kernel) (by decide +kernel) ?_ | with_reducible refine go_niTf (by decide +kernel) (by decide +kernel) ?_)
  | (with_reducible refine an_le ?hh ?_; case hh => (first | decide | (simp only [List.length_cons, List.length_nil]; omega)))
  | (with_reducible refine an_rng ?hh ?_; case hh => (first | decide | omega))
  | (with_reducible refine an_rng2 ?hh ?_; case hh => (first | decide | omega))
  | fail)
local macro_rules | `(tactic| walk_at "gg_Bv3") => `(tactic| repeat' (first | walk_at "g1_Bv3" | walk_at "g2_Bv3"))

section
variable {X : EX} {Q : D → Wd → Prop} {N B C : En → Wd → Prop} {T : D → Wd → Prop} {w w0 : Wd} {n m b c : Nat} {σ : En} {d : D} {ma hs : List Str} {k : Nat} {st : List (Str × Str)} {fo : Str}
end
end Bk

set_option Elab.async false
set_option linter.all false
set_option autoImplicit false
set_option maxRecDepth 100000
set_option maxHeartbeats 4000000
/-! Bv4: steps, jobs, readings: of any plain value. -/
namespace Bk
open PySem L2 L2H LamX PyProof.Rows Si
/-- the slots written out -/
local macro_rules | `(tactic| walk_at "nm_Bv4") => `(tactic| (simp only [startD, wipeD, List.foldl_cons, List.foldl_nil, List.set_cons_succ, List.set_cons_zero, List.map_cons, List.map_nil, List.length_cons, List.length_nil, Nat.reduceAdd, Nat.reduceSub, List.replicate_succ, List.replicate_zero, List.cons_append, List.nil_append]; rfl))
/-- one step by the form of the code -/
local macro_rules | `(tactic| walk_at "g1_Bv4") => `(tactic| with_reducible first
  | (refine go_idD ?_; first
    | refine go_env (σ := List.set _ _ _) (by walk_at "nm_Bv4") ?_ | refine go_var rfl ?_ | refine go_c ?_ | refine go_op ?_ | refine go_call ?_ | refine go_eqS ?_ | refine go_eqI ?_ | refine go_tup ?_ | refine go_lst ?_ | refine go_addI ?_ | refine go_isi ?_ | refine go_and ?_ | refine go_lt ?_ | refine go_le ?_ | refine go_gt ?_ | refine go_ge ?_ | refine go_ixT rfl ?_ | refine go_ixL rfl ?_
    | refine go_lc ?_ | refine go_if ?_ | refine go_not ?_ | refine go_or ?_ | refine go_chain ?_ | refine go_callK ?_ | refine go_lstM ?_ | refine go_neg ?_ | refine go_sl ?_ | refine go_isi2 ?_ | refine go_join ?_ | refine go_app ?_ | refine go_lenSet ?_ | refine go_lcM ?_
    | refine go_subI ?_ | refine go_neI ?_ | refine go_neS ?_ | refine go_lenL ?_ | refine go_lenT ?_ | refine go_lenS (by assumption) ?_
    | refine go_slL ?_ | refine go_slT ?_ | refine go_slS (by assumption) ?_ | refine go_intI ?_ | refine go_lstL ?_ | refine go_lstT ?_ | refine go_tupL ?_ | refine go_tupT ?_ | refine go_isN ?_ | refine go_notN ?_ | refine go_allM ?_ | refine go_max2 ?_ | refine go_min2 ?_)
  | (refine go_idL ?_; first | refine go_cons ?_ | refine go_nil ?_ | refine go_iter ?_ | refine go_rng1 ?_ | refine go_zip ?_ | refine go_enum ?_ | refine go_star ?_ | refine go_rng2 ?_)
  | (refine gd_id ?_; first | refine gd_env (σ := List.set _ _ _) (by walk_at "nm_Bv4") ?_ | refine gd_env (σ := startD _ _) (by walk_at "nm_Bv4") ?_ | refine gd_seq ?_ | refine gd_nm ?_ | refine gd_asg ?_ | refine gd_ret ?_ | refine gd_if ?_ | refine gd_next ?_ | refine gd_expr ?_ | refine gd_par ?_ | refine gd_retN ?_ | refine gd_brk ?_ | refine gd_cnt ?_ | refine gd_for ?_)
  | (refine go_idB ?_; first | refine go_asB ?_ | refine go_tru ?_ | refine go_bAnd ?_ | refine go_bOr ?_ | refine go_bNot ?_ | refine go_bYes ?_)
  | (refine br_id ?_; first | refine br_t ?_ | refine br_f ?_ | refine br_not ?_)
  | (refine go_idO ?_; first | refine go_oNone ?_ | refine go_oSome ?_))
local macro_rules | `(tactic| walk_at "g2_Bv4") => `(tactic| first
  | with_reducible refine ex_bl ?_ | with_reducible refine ex_int ?_ | with_reducible refine ex_str ?_ | with_reducible refine ex_nm ?_
  | with_reducible refine ex_zip ?_ | with_reducible refine ex_enum ?_
  | with_reducible refine ex_seq (by with_unfolding_all exact rfl) ?_
  | with_reducible refine ex_tg (by with_unfolding_all exact rfl) ?_
  | with_reducible refine ex_tru (by with_unfolding_all exact rfl) ?_
  | with_reducible refine ex_ty (by with_unfolding_all exact rfl) ?_
  | with_reducible refine ex_it (by with_unfolding_all exact rfl) ?_
  | ((with_reducible refine br_id ?_); first
    | with_reducible refine br_is (b := Si.isNon _) (by with_unfolding_all rfl) ?_ | with_reducible refine br_isnt (b := Si.isNon _) (by with_unfolding_all rfl) ?_
    | with_reducible refine br_is (b := isB _ _) (by with_unfolding_all decide) ?_ | with_reducible refine br_isnt (b := isB _ _) (by with_unfolding_all decide) ?_
    | with_reducible refine br_is (b := isB _ _ || isB _ _) (by with_unfolding_all decide) ?_ | with_reducible refine br_isnt (b := isB _ _ || isB _ _) (by with_unfolding_all decide) ?_
    | with_reducible refine br_y (by decide +kernel) ?_ | with_reducible refine br_n (by decide +kernel) ?_ | with_reducible refine br_y (by with_unfolding_all rfl) ?_ | with_reducible refine br_n (by simp only [List.length_cons, List.length_nil]; omega) ?_)
  | ((with_reducible refine go_idD ?_); first
    | with_reducible refine go_mulL ⟨by decide, by decide⟩ ?_ | with_reducible refine go_mulR ⟨by decide, by decide⟩ ?_ | with_reducible refine go_mod (by decide) ?_ | with_reducible refine go_div (by decide) (by decide) ?_
    | with_reducible refine go_inTt (by decide +kernel) (by decide +kernel) ?_ | with_reducible refine go_inTf (by decide +kernel) (by decide +kernel) ?_ | with_reducible refine go_niTt (by decide +kernel) (by decide +kernel) ?_ | with_reducible refine go_niTf (by decide +kernel) (by decide +kernel) ?_)
  | (with_reducible refine an_le ?hh ?_; case hh => (first | decide | (simp only [List.length_cons, List.length_nil]; omega)))
  | (with_reducible refine an_rng ?hh ?_; case hh => (first | decide | omega))
  | (with_reducible refine an_rng2 ?hh ?_; case hh => (first | decide | omega))
  | fail)
local macro_rules | `(tactic| walk_at "gg_Bv4") => `(tactic| repeat' (first | walk_at "g1_Bv4" | walk_at "g2_Bv4"))

section
variable {X : EX} {Q : D → Wd → Prop} {N B C : En → Wd → Prop} {T : D → Wd → Prop} {w w0 : Wd} {n m b c : Nat} {σ : En} {d : D} {ma hs : List Str} {k : Nat} {st : List (Str × Str)} {fo : Str}
end
end Bk

set_option Elab.async false
set_option linter.all false
set_option autoImplicit false
set_option maxRecDepth 100000
set_option maxHeartbeats 4000000
/-! Bv5: steps: of any plain value. -/
namespace Bk
open PySem L2 L2H LamX PyProof.Rows Si
/-- the slots written out -/
local macro_rules | `(tactic| walk_at "nm_Bv5") => `(tactic| (simp only [startD, wipeD, List.foldl_cons, List.foldl_nil, List.set_cons_succ, List.set_cons_zero, List.map_cons, List.map_nil, List.length_cons, List.length_nil, Nat.reduceAdd, Nat.reduceSub, List.replicate_succ, List.replicate_zero, List.cons_append, List.nil_append]; rfl))
/-- one step by the form of the code -/
local macro_rules | `(tactic| walk_at "g1_Bv5") => `(tactic| with_reducible first
  | (refine go_idD ?_; first
    | refine go_env (σ := List.set _ _ _) (by walk_at "nm_Bv5") ?_ | refine go_var rfl ?_ | refine go_c ?_ | refine go_op ?_ | refine go_call ?_ | refine go_eqS ?_ | refine go_eqI ?_ | refine go_tup ?_ | refine go_lst ?_ | refine go_addI ?_ | refine go_isi ?_ | refine go_and ?_ | refine go_lt ?_ | refine go_le ?_ | refine go_gt ?_ | refine go_ge ?_ | refine go_ixT rfl ?_ | refine go_ixL rfl ?_
    | refine go_lc ?_ | refine go_if ?_ | refine go_not ?_ | refine go_or ?_ | refine go_chain ?_ | refine go_callK ?_ | refine go_lstM ?_ | refine go_neg ?_ | refine go_sl ?_ | refine go_isi2 ?_ | refine go_join ?_ | refine go_app ?_ | refine go_lenSet ?_ | refine go_lcM ?_
    | refine go_subI ?_ | refine go_neI ?_ | refine go_neS ?_ | refine go_lenL ?_ | refine go_lenT ?_ | refine go_lenS (by assumption) ?_
    | refine go_slL ?_ | refine go_slT ?_ | refine go_slS (by assumption) ?_ | refine go_intI ?_ | refine go_lstL ?_ | refine go_lstT ?_ | refine go_tupL ?_ | refine go_tupT ?_ | refine go_isN ?_ | refine go_notN ?_ | refine go_allM ?_ | refine go_max2 ?_ | refine go_min2 ?_)
  | (refine go_idL ?_; first | refine go_cons ?_ | refine go_nil ?_ | refine go_iter ?_ | refine go_rng1 ?_ | refine go_zip ?_ | refine go_enum ?_ | refine go_star ?_ | refine go_rng2 ?_)
  | (refine gd_id ?_; first | refine gd_env (σ := List.set _ _ _) (by walk_at "nm_Bv5") ?_ | refine gd_env (σ := startD _ _) (by walk_at "nm_Bv5") ?_ | refine gd_seq ?_ | refine gd_nm ?_ | refine gd_asg ?_ | refine gd_ret ?_ | refine gd_if ?_ | refine gd_next ?_ | refine gd_expr ?_ | refine gd_par ?_ | refine gd_retN ?_ | refine gd_brk ?_ | refine gd_cnt ?_ | refine gd_for ?_)
  | (refine go_idB ?_; first | refine go_asB ?_ | refine go_tru ?_ | refine go_bAnd ?_ | refine go_bOr ?_ | refine go_bNot ?_ | refine go_bYes ?_)
  | (refine br_id ?_; first | refine br_t ?_ | refine br_f ?_ | refine br_not ?_)
  | (refine go_idO ?_; first | refine go_oNone ?_ | refine go_oSome ?_))
local macro_rules | `(tactic| walk_at "g2_Bv5") => `(tactic| first
  | with_reducible refine ex_bl ?_ | with_reducible refine ex_int ?_ | with_reducible refine ex_str ?_ | with_reducible refine ex_nm ?_
  | with_reducible refine ex_zip ?_ | with_reducible refine ex_enum ?_
  | with_reducible refine ex_seq (by with_unfolding_all exact rfl) ?_
  | with_reducible refine ex_tg (by with_unfolding_all exact rfl) ?_
  | with_reducible refine ex_tru (by with_unfolding_all exact rfl) ?_
  | with_reducible refine ex_ty (by with_unfolding_all exact rfl) ?_
  | with_reducible refine ex_it (by with_unfolding_all exact rfl) ?_
  | ((with_reducible refine br_id ?_); first
    | with_reducible refine br_is (b := Si.isNon _) (by with_unfolding_all rfl) ?_ | with_reducible refine br_isnt (b := Si.isNon _) (by with_unfolding_all rfl) ?_
    | with_reducible refine br_is (b := isB _ _) (by with_unfolding_all decide) ?_ | with_reducible refine br_isnt (b := isB _ _) (by with_unfolding_all decide) ?_
    | with_reducible refine br_is (b := isB _ _ || isB _ _) (by with_unfolding_all decide) ?_ | with_reducible refine br_isnt (b := isB _ _ || isB _ _) (by with_unfolding_all decide) ?_
    | with_reducible refine br_y (by decide +kernel) ?_ | with_reducible refine br_n (by decide +kernel) ?_ | with_reducible refine br_y (by with_unfolding_all rfl) ?_ | with_reducible refine br_n (by simp only [List.length_cons, List.length_nil]; omega) ?_)
  | ((with_reducible refine go_idD ?_); first
    | with_reducible refine go_mulL ⟨by decide, by decide⟩ ?_ | with_reducible refine go_mulR ⟨by decide, by decide⟩ ?_ | with_reducible refine go_mod (by decide) ?_ | with_reducible refine go_div (by decide) (by decide) ?_
    | with_reducible refine go_inTt (by decide +kernel) (by decide +kernel) ?_ | with_reducible refine go_inTf (by decide +kernel) (by decide +kernel) ?_ | with_reducible refine go_niTt (by decide +kernel) (by decide +kernel) ?_ | with_reducible refine go_niTf (by decide +kernel) (by decide +kernel) ?_)
  | (with_reducible refine an_le ?hh ?_; case hh => (first | decide | (simp only [List.length_cons, List.length_nil]; omega)))
  | (with_reducible refine an_rng ?hh ?_; case hh => (first | decide | omega))
  | (with_reducible refine an_rng2 ?hh ?_; case hh => (first | decide | omega))
  | fail)
local macro_rules | `(tactic| walk_at "gg_Bv5") => `(tactic| repeat' (first | walk_at "g1_Bv5" | walk_at "g2_Bv5"))

section
variable {X : EX} {Q : D → Wd → Prop} {N B C : En → Wd → Prop} {T : D → Wd → Prop} {w w0 : Wd} {n m b c : Nat} {σ : En} {d : D} {ma hs : List Str} {k : Nat} {st : List (Str × Str)} {fo : Str}
end
end Bk

set_option Elab.async false
set_option linter.all false
set_option autoImplicit false
set_option maxRecDepth 100000
set_option maxHeartbeats 4000000
/-! Bv6: jobs, readings: of any plain value. -/
namespace Bk
open PySem L2 L2H LamX PyProof.Rows Si
/-- the slots written out -/
local macro_rules | `(tactic| walk_at "nm_Bv6") => `(tactic| (simp only [startD, wipeD, List.foldl_cons, List.foldl_nil, List.set_cons_succ, List.set_cons_zero, List.map_cons, List.map_nil, List.length_cons, List.length_nil, Nat.reduceAdd, Nat.reduceSub, List.replicate_succ, List.replicate_zero, List.cons_append, List.nil_append]; rfl))
/-- one step by the form of the code -/
local macro_rules | `(tactic| walk_at "g1_Bv6") => `(tactic| with_reducible first
  | (refine go_idD ?_; first
    | refine go_env (σ := List.set _ _ _) (by walk_at "nm_Bv6") ?_ | refine go_var rfl ?_ | refine go_c ?_ | refine go_op ?_ | refine go_call ?_ | refine go_eqS ?_ | refine go_eqI ?_ | refine go_tup ?_ | refine go_lst ?_ | refine go_addI ?_ | refine go_isi ?_ | refine go_and ?_ | refine go_lt ?_ | refine go_le ?_ | refine go_gt ?_ | refine go_ge ?_ | refine go_ixT rfl ?_ | refine go_ixL rfl ?_
    | refine go_lc ?_ | refine go_if ?_ | refine go_not ?_ | refine go_or ?_ | refine go_chain ?_ | refine go_callK ?_ | refine go_lstM ?_ | refine go_neg ?_ | refine go_sl ?_ | refine go_isi2 ?_ | refine go_join ?_ | refine go_app ?_ | refine go_lenSet ?_ | refine go_lcM ?_
    | refine go_subI ?_ | refine go_neI ?_ | refine go_neS ?_ | refine go_lenL ?_ | refine go_lenT ?_ | refine go_lenS (by assumption) ?_
    | refine go_slL ?_ | refine go_slT ?_ | refine go_slS (by assumption) ?_ | refine go_intI ?_ | refine go_lstL ?_ | refine go_lstT ?_ | refine go_tupL ?_ | refine go_tupT ?_ | refine go_isN ?_ | refine go_notN ?_ | refine go_allM ?_ | refine go_max2 ?_ | refine go_min2 ?_)
  | (refine go_idL ?_; first | refine go_cons ?_ | refine go_nil ?_ | refine go_iter ?_ | refine go_rng1 ?_ | refine go_zip ?_ | refine go_enum ?_ | refine go_star ?_ | refine go_rng2 ?_)
  | (refine gd_id ?_; first | refine gd_env (σ := List.set _ _ _) (by walk_at "nm_Bv6") ?_ | refine gd_env (σ := startD _ _) (by walk_at "nm_Bv6") ?_ | refine gd_seq ?_ | refine gd_nm ?_ | refine gd_asg ?_ | refine gd_ret ?_ | refine gd_if ?_ | refine gd_next ?_ | refine gd_expr ?_ | refine gd_par ?_ | refine gd_retN ?_ | refine gd_brk ?_ | refine gd_cnt ?_ | refine gd_for ?_)
  | (refine go_idB ?_; first | refine go_asB ?_ | refine go_tru ?_ | refine go_bAnd ?_ | refine go_bOr ?_ | refine go_bNot ?_ | refine go_bYes ?_)
  | (refine br_id ?_; first | refine br_t ?_ | refine br_f ?_ | refine br_not ?_)
  | (refine go_idO ?_; first | refine go_oNone ?_ | refine go_oSome ?_))
local macro_rules | `(tactic| walk_at "g2_Bv6") => `(tactic| first
  | with_reducible refine ex_bl ?_ | with_reducible refine ex_int ?_ | with_reducible refine ex_str ?_ | with_reducible refine ex_nm ?_
  | with_reducible refine ex_zip ?_ | with_reducible refine ex_enum ?_
  | with_reducible refine ex_seq (by with_unfolding_all exact rfl) ?_
  | with_reducible refine ex_tg (by with_unfolding_all exact rfl) ?_
  | with_reducible refine ex_tru (by with_unfolding_all exact rfl) ?_
  | with_reducible refine ex_ty (by with_unfolding_all exact rfl) ?_
  | with_reducible refine ex_it (by with_unfolding_all exact rfl) ?_
  | ((with_reducible refine br_id ?_); first
    | with_reducible refine br_is (b := Si.isNon _) (by with_unfolding_all rfl) ?_ | with_reducible refine br_isnt (b := Si.isNon _) (by with_unfolding_all rfl) ?_
    | with_reducible refine br_is (b := isB _ _) (by with_unfolding_all decide) ?_ | with_reducible refine br_isnt (b := isB _ _) (by with_unfolding_all decide) ?_
    | with_reducible refine br_is (b := isB _ _ || isB _ _) (by with_unfolding_all decide) ?_ | with_reducible refine br_isnt (b := isB _ _ || isB _ _) (by with_unfolding_all decide) ?_
    | with_reducible refine br_y (by decide +kernel) ?_ | with_reducible refine br_n (by decide +kernel) ?_ | with_reducible refine br_y (by with_unfolding_all rfl) ?_ | with_reducible refine br_n (by simp only [List.length_cons, List.length_nil]; omega) ?_)
  | ((with_reducible refine go_idD ?_); first
    | with_reducible refine go_mulL ⟨by decide, by decide⟩ ?_ | with_reducible refine go_mulR ⟨by decide, by decide⟩ ?_ | with_reducible refine go_mod (by decide) ?_ | with_reducible refine go_div (by decide) (by decide) ?_
    | with_reducible refine go_inTt (by decide +kernel) (by decide +kernel) ?_ | with_reducible refine go_inTf (by decide +kernel) (by decide +kernel) ?_ | with_reducible refine go_niTt (by decide +kernel) (by decide +kernel) ?_ | with_reducible refine go_niTf (by decide +kernel) (by decide +kernel) ?_)
  | (with_reducible refine an_le ?hh ?_; case hh => (first | decide | (simp only [List.length_cons, List.length_nil]; omega)))
  | (with_reducible refine an_rng ?hh ?_; case hh => (first | decide | omega))
  | (with_reducible refine an_rng2 ?hh ?_; case hh => (first | decide | omega))
  | fail)
local macro_rules | `(tactic| walk_at "gg_Bv6") => `(tactic| repeat' (first | walk_at "g1_Bv6" | walk_at "g2_Bv6"))

section
variable {X : EX} {Q : D → Wd → Prop} {N B C : En → Wd → Prop} {T : D → Wd → Prop} {w w0 : Wd} {n m b c : Nat} {σ : En} {d : D} {ma hs : List Str} {k : Nat} {st : List (Str × Str)} {fo : Str}
end
end Bk

set_option Elab.async false
set_option linter.all false
set_option autoImplicit false
set_option maxRecDepth 100000
set_option maxHeartbeats 4000000
/-! Bv7: the checks that raise, of any plain values. Printed by mkv7.py. -/
namespace Bk
open PySem L2 L2H LamX PyProof.Rows Si
/-- the slots written out -/
local macro_rules | `(tactic| walk_at "nm_Bv7") => `(tactic| (simp only [startD, wipeD, List.foldl_cons, List.foldl_nil, List.set_cons_succ, List.set_cons_zero, List.map_cons, List.map_nil, List.length_cons, List.length_nil, Nat.reduceAdd, Nat.reduceSub, List.replicate_succ, List.replicate_zero, List.cons_append, List.nil_append]; rfl))
/-- one step by the form of the code -/
local macro_rules | `(tactic| walk_at "g1_Bv7") => `(tactic| with_reducible first
  | (refine go_idD ?_; first
    | refine go_env (σ := List.set _ _ _) (by walk_at "nm_Bv7") ?_ | refine go_var rfl ?_ | refine go_c ?_ | refine go_op ?_ | refine go_call ?_ | refine go_eqS ?_ | refine go_eqI ?_ | refine go_tup ?_ | refine go_lst ?_ | refine go_addI ?_ | refine go_isi ?_ | refine go_and ?_ | refine go_lt ?_ | refine go_le ?_ | refine go_gt ?_ | refine go_ge ?_ | refine go_ixT rfl ?_ | refine go_ixL rfl ?_
    | refine go_lc ?_ | refine go_if ?_ | refine go_not ?_ | refine go_or ?_ | refine go_chain ?_ | refine go_callK ?_ | refine go_lstM ?_ | refine go_neg ?_ | refine go_sl ?_ | refine go_isi2 ?_ | refine go_join ?_ | refine go_app ?_ | refine go_lenSet ?_ | refine go_lcM ?_
    | refine go_subI ?_ | refine go_neI ?_ | refine go_neS ?_ | refine go_lenL ?_ | refine go_lenT ?_ | refine go_lenS (by assumption) ?_
    | refine go_slL ?_ | refine go_slT ?_ | refine go_slS (by assumption) ?_ | refine go_intI ?_ | refine go_lstL ?_ | refine go_lstT ?_ | refine go_tupL ?_ | refine go_tupT ?_ | refine go_isN ?_ | refine go_notN ?_ | refine go_allM ?_ | refine go_max2 ?_ | refine go_min2 ?_)
  | (refine go_idL ?_; first | refine go_cons ?_ | refine go_nil ?_ | refine go_iter ?_ | refine go_rng1 ?_ | refine go_zip ?_ | refine go_enum ?_ | refine go_star ?_ | refine go_rng2 ?_)
  | (refine gd_id ?_; first | refine gd_env (σ := List.set _ _ _) (by walk_at "nm_Bv7") ?_ | refine gd_env (σ := startD _ _) (by walk_at "nm_Bv7") ?_ | refine gd_seq ?_ | refine gd_nm ?_ | refine gd_asg ?_ | refine gd_ret ?_ | refine gd_if ?_ | refine gd_next ?_ | refine gd_expr ?_ | refine gd_par ?_ | refine gd_retN ?_ | refine gd_brk ?_ | refine gd_cnt ?_ | refine gd_for ?_)
  | (refine go_idB ?_; first | refine go_asB ?_ | refine go_tru ?_ | refine go_bAnd ?_ | refine go_bOr ?_ | refine go_bNot ?_ | refine go_bYes ?_)
  | (refine br_id ?_; first | refine br_t ?_ | refine br_f ?_ | refine br_not ?_)
  | (refine go_idO ?_; first | refine go_oNone ?_ | refine go_oSome ?_))
local macro_rules | `(tactic| walk_at "g2_Bv7") => `(tactic| first
  | with_reducible refine ex_bl ?_ | with_reducible refine ex_int ?_ | with_reducible refine ex_str ?_ | with_reducible refine ex_nm ?_
  | with_reducible refine ex_zip ?_ | with_reducible refine ex_enum ?_
  | with_reducible refine ex_seq (by with_unfolding_all exact rfl) ?_
  | with_reducible refine ex_tg (by with_unfolding_all exact rfl) ?_
  | with_reducible refine ex_tru (by with_unfolding_all exact rfl) ?_
  | with_reducible refine ex_ty (by with_unfolding_all exact rfl) ?_
  | with_reducible refine ex_it (by with_unfolding_all exact rfl) ?_
  | ((with_reducible refine br_id ?_); first
    | with_reducible refine br_is (b := Si.isNon _) (by with_unfolding_all rfl) ?_ | with_reducible refine br_isnt (b := Si.isNon _) (by with_unfolding_all rfl) ?_
    | with_reducible refine br_is (b := isB _ _) (by with_unfolding_all decide) ?_ | with_reducible refine br_isnt (b := isB _ _) (by with_unfolding_all decide) ?_
    | with_reducible refine br_is (b := isB _ _ || isB _ _) (by with_unfolding_all decide) ?_ | with_reducible refine br_isnt (b := isB _ _ || isB _ _) (by with_unfolding_all decide) ?_
    | with_reducible refine br_y (by decide +kernel) ?_ | with_reducible refine br_n (by decide +kernel) ?_ | with_reducible refine br_y (by with_unfolding_all rfl) ?_ | with_reducible refine br_n (by simp only [List.length_cons, List.length_nil]; omega) ?_)
  | ((with_reducible refine go_idD ?_); first
    | with_reducible refine go_mulL ⟨by decide, by decide⟩ ?_ | with_reducible refine go_mulR ⟨by decide, by decide⟩ ?_ | with_reducible refine go_mod (by decide) ?_ | with_reducible refine go_div (by decide) (by decide) ?_
    | with_reducible refine go_inTt (by decide +kernel) (by decide +kernel) ?_ | with_reducible refine go_inTf (by decide +kernel) (by decide +kernel) ?_ | with_reducible refine go_niTt (by decide +kernel) (by decide +kernel) ?_ | with_reducible refine go_niTf (by decide +kernel) (by decide +kernel) ?_)
  | (with_reducible refine an_le ?hh ?_; case hh => (first | decide | (simp only [List.length_cons, List.length_nil]; omega)))
  | (with_reducible refine an_rng ?hh ?_; case hh => (first | decide | omega))
  | (with_reducible refine an_rng2 ?hh ?_; case hh => (first | decide | omega))
  | fail)
local macro_rules | `(tactic| walk_at "gg_Bv7") => `(tactic| repeat' (first | walk_at "g1_Bv7" | walk_at "g2_Bv7"))

def listD : D → Option (List D)
  | .lst xs => some xs
  | .tup xs => some xs
  | _ => none
section
variable {X : EX} {Q : D → Wd → Prop} {N B C : En → Wd → Prop} {T : D → Wd → Prop} {w w0 : Wd} {n m b c : Nat} {σ : En} {d md : D} {ma hs nm : List Str} {k : Nat} {st : List (Str × Str)} {fo : Str}
/-- how a check ends -/
def Fin (X : EX) (Q : D → Wd → Prop) (c : Str) (w : Wd) : Option Int → Prop
  | none => ∀ w', Ap w w' → Q .non w'
  | some i => ∀ w', Ap w w' → X c [("at", .int i), ("code", .str c)] w'
theorem go_enumS {QA : List D → Wd → Prop} {ma : En → Wd → R (List D)} {xs : List D} (h : Go X (ma σ w) fun us w1 => ∃ d, us = [d] ∧ listD d = some xs ∧ QA (enumD 0 xs) w1) : Go X (mEnumS ma σ w) QA :=
  go_bind (go_weak h fun us w1 ⟨d, e, e1, q⟩ => by
    subst e
    cases d with
    | lst ys => cases e1; exact q
    | tup ys => cases e1; exact q
    | _ => cases e1)
end
end Bk

set_option Elab.async false
set_option linter.all false
set_option autoImplicit false
set_option maxRecDepth 100000
set_option maxHeartbeats 4000000
/-! Bv8: right books pass the checks that raise. Printed by mkv8.py. -/
namespace Bk
open PySem L2 L2H LamX PyProof.Rows Si
/-- the slots written out -/
local macro_rules | `(tactic| walk_at "nm_Bv8") => `(tactic| (simp only [startD, wipeD, List.foldl_cons, List.foldl_nil, List.set_cons_succ, List.set_cons_zero, List.map_cons, List.map_nil, List.length_cons, List.length_nil, Nat.reduceAdd, Nat.reduceSub, List.replicate_succ, List.replicate_zero, List.cons_append, List.nil_append]; rfl))
/-- one step by the form of the code -/
local macro_rules | `(tactic| walk_at "g1_Bv8") => `(tactic| with_reducible first
  | (refine go_idD ?_; first
    | refine go_env (σ := List.set _ _ _) (by walk_at "nm_Bv8") ?_ | refine go_var rfl ?_ | refine go_c ?_ | refine go_op ?_ | refine go_call ?_ | refine go_eqS ?_ | refine go_eqI ?_ | refine go_tup ?_ | refine go_lst ?_ | refine go_addI ?_ | refine go_isi ?_ | refine go_and ?_ | refine go_lt ?_ | refine go_le ?_ | refine go_gt ?_ | refine go_ge ?_ | refine go_ixT rfl ?_ | refine go_ixL rfl ?_
    | refine go_lc ?_ | refine go_if ?_ | refine go_not ?_ | refine go_or ?_ | refine go_chain ?_ | refine go_callK ?_ | refine go_lstM ?_ | refine go_neg ?_ | refine go_sl ?_ | refine go_isi2 ?_ | refine go_join ?_ | refine go_app ?_ | refine go_lenSet ?_ | refine go_lcM ?_
    | refine go_subI ?_ | refine go_neI ?_ | refine go_neS ?_ | refine go_lenL ?_ | refine go_lenT ?_ | refine go_lenS (by assumption) ?_
    | refine go_slL ?_ | refine go_slT ?_ | refine go_slS (by assumption) ?_ | refine go_intI ?_ | refine go_lstL ?_ | refine go_lstT ?_ | refine go_tupL ?_ | refine go_tupT ?_ | refine go_isN ?_ | refine go_notN ?_ | refine go_allM ?_ | refine go_max2 ?_ | refine go_min2 ?_)
  | (refine go_idL ?_; first | refine go_cons ?_ | refine go_nil ?_ | refine go_iter ?_ | refine go_rng1 ?_ | refine go_zip ?_ | refine go_enum ?_ | refine go_star ?_ | refine go_rng2 ?_)
  | (refine gd_id ?_; first | refine gd_env (σ := List.set _ _ _) (by walk_at "nm_Bv8") ?_ | refine gd_env (σ := startD _ _) (by walk_at "nm_Bv8") ?_ | refine gd_seq ?_ | refine gd_nm ?_ | refine gd_asg ?_ | refine gd_ret ?_ | refine gd_if ?_ | refine gd_next ?_ | refine gd_expr ?_ | refine gd_par ?_ | refine gd_retN ?_ | refine gd_brk ?_ | refine gd_cnt ?_ | refine gd_for ?_)
  | (refine go_idB ?_; first | refine go_asB ?_ | refine go_tru ?_ | refine go_bAnd ?_ | refine go_bOr ?_ | refine go_bNot ?_ | refine go_bYes ?_)
  | (refine br_id ?_; first | refine br_t ?_ | refine br_f ?_ | refine br_not ?_)
  | (refine go_idO ?_; first | refine go_oNone ?_ | refine go_oSome ?_))
local macro_rules | `(tactic| walk_at "g2_Bv8") => `(tactic| first
  | with_reducible refine ex_bl ?_ | with_reducible refine ex_int ?_ | with_reducible refine ex_str ?_ | with_reducible refine ex_nm ?_
  | with_reducible refine ex_zip ?_ | with_reducible refine ex_enum ?_
  | with_reducible refine ex_seq (by with_unfolding_all exact rfl) ?_
  | with_reducible refine ex_tg (by with_unfolding_all exact rfl) ?_
  | with_reducible refine ex_tru (by with_unfolding_all exact rfl) ?_
  | with_reducible refine ex_ty (by with_unfolding_all exact rfl) ?_
  | with_reducible refine ex_it (by with_unfolding_all exact rfl) ?_
  | ((with_reducible refine br_id ?_); first
    | with_reducible refine br_is (b := Si.isNon _) (by with_unfolding_all rfl) ?_ | with_reducible refine br_isnt (b := Si.isNon _) (by with_unfolding_all rfl) ?_
    | with_reducible refine br_is (b := isB _ _) (by with_unfolding_all decide) ?_ | with_reducible refine br_isnt (b := isB _ _) (by with_unfolding_all decide) ?_
    | with_reducible refine br_is (b := isB _ _ || isB _ _) (by with_unfolding_all decide) ?_ | with_reducible refine br_isnt (b := isB _ _ || isB _ _) (by with_unfolding_all decide) ?_
    | with_reducible refine br_y (by decide +kernel) ?_ | with_reducible refine br_n (by decide +kernel) ?_ | with_reducible refine br_y (by with_unfolding_all rfl) ?_ | with_reducible refine br_n (by simp only [List.length_cons, List.length_nil]; omega) ?_)
  | ((with_reducible refine go_idD ?_); first
    | with_reducible refine go_mulL ⟨by decide, by decide⟩ ?_ | with_reducible refine go_mulR ⟨by decide, by decide⟩ ?_ | with_reducible refine go_mod (by decide) ?_ | with_reducible refine go_div (by decide) (by decide) ?_
    | with_reducible refine go_inTt (by decide +kernel) (by decide +kernel) ?_ | with_reducible refine go_inTf (by decide +kernel) (by decide +kernel) ?_ | with_reducible refine go_niTt (by decide +kernel) (by decide +kernel) ?_ | with_reducible refine go_niTf (by decide +kernel) (by decide +kernel) ?_)
  | (with_reducible refine an_le ?hh ?_; case hh => (first | decide | (simp only [List.length_cons, List.length_nil]; omega)))
  | (with_reducible refine an_rng ?hh ?_; case hh => (first | decide | omega))
  | (with_reducible refine an_rng2 ?hh ?_; case hh => (first | decide | omega))
  | fail)
local macro_rules | `(tactic| walk_at "gg_Bv8") => `(tactic| repeat' (first | walk_at "g1_Bv8" | walk_at "g2_Bv8"))

section
variable {X : EX} {Q : D → Wd → Prop} {QA : List D → Wd → Prop} {w0 w : Wd} {n m c : Nat} {σ : En} {st : List (Str × Str)} {ma : List Str} {fo : Str} {N B C : En → Wd → Prop} {T : D → Wd → Prop} {md pd : D}
end
end Bk

set_option Elab.async false
set_option linter.all false
set_option autoImplicit false
set_option maxRecDepth 100000
set_option maxHeartbeats 4000000
/-! Bv9: a book is made by the raising __init__ (turned from Bk17). -/
namespace Bk
open PySem L2 L2H LamX PyProof.Rows Si
/-- the slots written out -/
local macro_rules | `(tactic| walk_at "nm_Bv9") => `(tactic| (simp only [startD, wipeD, List.foldl_cons, List.foldl_nil, List.set_cons_succ, List.set_cons_zero, List.map_cons, List.map_nil, List.length_cons, List.length_nil, Nat.reduceAdd, Nat.reduceSub, List.replicate_succ, List.replicate_zero, List.cons_append, List.nil_append]; rfl))
/-- one step by the form of the code -/
local macro_rules | `(tactic| walk_at "g1_Bv9") => `(tactic| with_reducible first
  | (refine go_idD ?_; first
    | refine go_env (σ := List.set _ _ _) (by walk_at "nm_Bv9") ?_ | refine go_var rfl ?_ | refine go_c ?_ | refine go_op ?_ | refine go_call ?_ | refine go_eqS ?_ | refine go_eqI ?_ | refine go_tup ?_ | refine go_lst ?_ | refine go_addI ?_ | refine go_isi ?_ | refine go_and ?_ | refine go_lt ?_ | refine go_le ?_ | refine go_gt ?_ | refine go_ge ?_ | refine go_ixT rfl ?_ | refine go_ixL rfl ?_
    | refine go_lc ?_ | refine go_if ?_ | refine go_not ?_ | refine go_or ?_ | refine go_chain ?_ | refine go_callK ?_ | refine go_lstM ?_ | refine go_neg ?_ | refine go_sl ?_ | refine go_isi2 ?_ | refine go_join ?_ | refine go_app ?_ | refine go_lenSet ?_ | refine go_lcM ?_
    | refine go_subI ?_ | refine go_neI ?_ | refine go_neS ?_ | refine go_lenL ?_ | refine go_lenT ?_ | refine go_lenS (by assumption) ?_
    | refine go_slL ?_ | refine go_slT ?_ | refine go_slS (by assumption) ?_ | refine go_intI ?_ | refine go_lstL ?_ | refine go_lstT ?_ | refine go_tupL ?_ | refine go_tupT ?_ | refine go_isN ?_ | refine go_notN ?_ | refine go_allM ?_ | refine go_max2 ?_ | refine go_min2 ?_)
  | (refine go_idL ?_; first | refine go_cons ?_ | refine go_nil ?_ | refine go_iter ?_ | refine go_rng1 ?_ | refine go_zip ?_ | refine go_enum ?_ | refine go_star ?_ | refine go_rng2 ?_)
  | (refine gd_id ?_; first | refine gd_env (σ := List.set _ _ _) (by walk_at "nm_Bv9") ?_ | refine gd_env (σ := startD _ _) (by walk_at "nm_Bv9") ?_ | refine gd_seq ?_ | refine gd_nm ?_ | refine gd_asg ?_ | refine gd_ret ?_ | refine gd_if ?_ | refine gd_next ?_ | refine gd_expr ?_ | refine gd_par ?_ | refine gd_retN ?_ | refine gd_brk ?_ | refine gd_cnt ?_ | refine gd_for ?_)
  | (refine go_idB ?_; first | refine go_asB ?_ | refine go_tru ?_ | refine go_bAnd ?_ | refine go_bOr ?_ | refine go_bNot ?_ | refine go_bYes ?_)
  | (refine br_id ?_; first | refine br_t ?_ | refine br_f ?_ | refine br_not ?_)
  | (refine go_idO ?_; first | refine go_oNone ?_ | refine go_oSome ?_))
local macro_rules | `(tactic| walk_at "g2_Bv9") => `(tactic| first
  | with_reducible refine ex_bl ?_ | with_reducible refine ex_int ?_ | with_reducible refine ex_str ?_ | with_reducible refine ex_nm ?_
  | with_reducible refine ex_zip ?_ | with_reducible refine ex_enum ?_
  | with_reducible refine ex_seq (by with_unfolding_all exact rfl) ?_
  | with_reducible refine ex_tg (by with_unfolding_all exact rfl) ?_
  | with_reducible refine ex_tru (by with_unfolding_all exact rfl) ?_
  | with_reducible refine ex_ty (by with_unfolding_all exact rfl) ?_
  | with_reducible refine ex_it (by with_unfolding_all exact rfl) ?_
  | ((with_reducible refine br_id ?_); first
    | with_reducible refine br_is (b := Si.isNon _) (by with_unfolding_all rfl) ?_ | with_reducible refine br_isnt (b := Si.isNon _) (by with_unfolding_all rfl) ?_
    | with_reducible refine br_is (b := isB _ _) (by with_unfolding_all decide) ?_ | with_reducible refine br_isnt (b := isB _ _) (by with_unfolding_all decide) ?_
    | with_reducible refine br_is (b := isB _ _ || isB _ _) (by with_unfolding_all decide) ?_ | with_reducible refine br_isnt (b := isB _ _ || isB _ _) (by with_unfolding_all decide) ?_
    | with_reducible refine br_y (by decide +kernel) ?_ | with_reducible refine br_n (by decide +kernel) ?_ | with_reducible refine br_y (by with_unfolding_all rfl) ?_ | with_reducible refine br_n (by simp only [List.length_cons, List.length_nil]; omega) ?_)
  | ((with_reducible refine go_idD ?_); first
    | with_reducible refine go_mulL ⟨by decide, by decide⟩ ?_ | with_reducible refine go_mulR ⟨by decide, by decide⟩ ?_ | with_reducible refine go_mod (by decide) ?_ | with_reducible refine go_div (by decide) (by decide) ?_
    | with_reducible refine go_inTt (by decide +kernel) (by decide +kernel) ?_ | with_reducible refine go_inTf (by decide +kernel) (by decide +kernel) ?_ | with_reducible refine go_niTt (by decide +kernel) (by decide +kernel) ?_ | with_reducible refine go_niTf (by decide +kernel) (by decide +kernel) ?_)
  | (with_reducible refine an_le ?hh ?_; case hh => (first | decide | (simp only [List.length_cons, List.length_nil]; omega)))
  | (with_reducible refine an_rng ?hh ?_; case hh => (first | decide | omega))
  | (with_reducible refine an_rng2 ?hh ?_; case hh => (first | decide | omega))
  | fail)
local macro_rules | `(tactic| walk_at "gg_Bv9") => `(tactic| repeat' (first | walk_at "g1_Bv9" | walk_at "g2_Bv9"))

section
variable {X : EX} {Q : D → Wd → Prop} {QA : List D → Wd → Prop} {w0 w : Wd} {n m c b : Nat} {σ : En} {sp : Sp} {st : List (Str × Str)} {ma : List Str} {fo : Str} {md pd mv nv ev jv rv : D} {N B C : En → Wd → Prop} {T : D → Wd → Prop}
end
end Bk

set_option Elab.async false
set_option linter.all false
set_option autoImplicit false
set_option maxRecDepth 100000
set_option maxHeartbeats 4000000
/-! Bv10: a book of any plain values: which error. -/
namespace Bk
open PySem L2 L2H LamX PyProof.Rows Si
/-- the slots written out -/
local macro_rules | `(tactic| walk_at "nm_Bv10") => `(tactic| (simp only [startD, wipeD, List.foldl_cons, List.foldl_nil, List.set_cons_succ, List.set_cons_zero, List.map_cons, List.map_nil, List.length_cons, List.length_nil, Nat.reduceAdd, Nat.reduceSub, List.replicate_succ, List.replicate_zero, List.cons_append, List.nil_append]; rfl))
/-- one step by the form of the code -/
local macro_rules | `(tactic| walk_at "g1_Bv10") => `(tactic| with_reducible first
  | (refine go_idD ?_; first
    | refine go_env (σ := List.set _ _ _) (by walk_at "nm_Bv10") ?_ | refine go_var rfl ?_ | refine go_c ?_ | refine go_op ?_ | refine go_call ?_ | refine go_eqS ?_ | refine go_eqI ?_ | refine go_tup ?_ | refine go_lst ?_ | refine go_addI ?_ | refine go_isi ?_ | refine go_and ?_ | refine go_lt ?_ | refine go_le ?_ | refine go_gt ?_ | refine go_ge ?_ | refine go_ixT rfl ?_ | refine go_ixL rfl ?_
    | refine go_lc ?_ | refine go_if ?_ | refine go_not ?_ | refine go_or ?_ | refine go_chain ?_ | refine go_callK ?_ | refine go_lstM ?_ | refine go_neg ?_ | refine go_sl ?_ | refine go_isi2 ?_ | refine go_join ?_ | refine go_app ?_ | refine go_lenSet ?_ | refine go_lcM ?_
    | refine go_subI ?_ | refine go_neI ?_ | refine go_neS ?_ | refine go_lenL ?_ | refine go_lenT ?_ | refine go_lenS (by assumption) ?_
    | refine go_slL ?_ | refine go_slT ?_ | refine go_slS (by assumption) ?_ | refine go_intI ?_ | refine go_lstL ?_ | refine go_lstT ?_ | refine go_tupL ?_ | refine go_tupT ?_ | refine go_isN ?_ | refine go_notN ?_ | refine go_allM ?_ | refine go_max2 ?_ | refine go_min2 ?_)
  | (refine go_idL ?_; first | refine go_cons ?_ | refine go_nil ?_ | refine go_iter ?_ | refine go_rng1 ?_ | refine go_zip ?_ | refine go_enum ?_ | refine go_star ?_ | refine go_rng2 ?_)
  | (refine gd_id ?_; first | refine gd_env (σ := List.set _ _ _) (by walk_at "nm_Bv10") ?_ | refine gd_env (σ := startD _ _) (by walk_at "nm_Bv10") ?_ | refine gd_seq ?_ | refine gd_nm ?_ | refine gd_asg ?_ | refine gd_ret ?_ | refine gd_if ?_ | refine gd_next ?_ | refine gd_expr ?_ | refine gd_par ?_ | refine gd_retN ?_ | refine gd_brk ?_ | refine gd_cnt ?_ | refine gd_for ?_)
  | (refine go_idB ?_; first | refine go_asB ?_ | refine go_tru ?_ | refine go_bAnd ?_ | refine go_bOr ?_ | refine go_bNot ?_ | refine go_bYes ?_)
  | (refine br_id ?_; first | refine br_t ?_ | refine br_f ?_ | refine br_not ?_)
  | (refine go_idO ?_; first | refine go_oNone ?_ | refine go_oSome ?_))
local macro_rules | `(tactic| walk_at "g2_Bv10") => `(tactic| first
  | with_reducible refine ex_bl ?_ | with_reducible refine ex_int ?_ | with_reducible refine ex_str ?_ | with_reducible refine ex_nm ?_
  | with_reducible refine ex_zip ?_ | with_reducible refine ex_enum ?_
  | with_reducible refine ex_seq (by with_unfolding_all exact rfl) ?_
  | with_reducible refine ex_tg (by with_unfolding_all exact rfl) ?_
  | with_reducible refine ex_tru (by with_unfolding_all exact rfl) ?_
  | with_reducible refine ex_ty (by with_unfolding_all exact rfl) ?_
  | with_reducible refine ex_it (by with_unfolding_all exact rfl) ?_
  | ((with_reducible refine br_id ?_); first
    | with_reducible refine br_is (b := Si.isNon _) (by with_unfolding_all rfl) ?_ | with_reducible refine br_isnt (b := Si.isNon _) (by with_unfolding_all rfl) ?_
    | with_reducible refine br_is (b := isB _ _) (by with_unfolding_all decide) ?_ | with_reducible refine br_isnt (b := isB _ _) (by with_unfolding_all decide) ?_
    | with_reducible refine br_is (b := isB _ _ || isB _ _) (by with_unfolding_all decide) ?_ | with_reducible refine br_isnt (b := isB _ _ || isB _ _) (by with_unfolding_all decide) ?_
    | with_reducible refine br_y (by decide +kernel) ?_ | with_reducible refine br_n (by decide +kernel) ?_ | with_reducible refine br_y (by with_unfolding_all rfl) ?_ | with_reducible refine br_n (by simp only [List.length_cons, List.length_nil]; omega) ?_)
  | ((with_reducible refine go_idD ?_); first
    | with_reducible refine go_mulL ⟨by decide, by decide⟩ ?_ | with_reducible refine go_mulR ⟨by decide, by decide⟩ ?_ | with_reducible refine go_mod (by decide) ?_ | with_reducible refine go_div (by decide) (by decide) ?_
    | with_reducible refine go_inTt (by decide +kernel) (by decide +kernel) ?_ | with_reducible refine go_inTf (by decide +kernel) (by decide +kernel) ?_ | with_reducible refine go_niTt (by decide +kernel) (by decide +kernel) ?_ | with_reducible refine go_niTf (by decide +kernel) (by decide +kernel) ?_)
  | (with_reducible refine an_le ?hh ?_; case hh => (first | decide | (simp only [List.length_cons, List.length_nil]; omega)))
  | (with_reducible refine an_rng ?hh ?_; case hh => (first | decide | omega))
  | (with_reducible refine an_rng2 ?hh ?_; case hh => (first | decide | omega))
  | fail)
local macro_rules | `(tactic| walk_at "gg_Bv10") => `(tactic| repeat' (first | walk_at "g1_Bv10" | walk_at "g2_Bv10"))

section
variable {X : EX} {Q : D → Wd → Prop} {N B C : En → Wd → Prop} {T : D → Wd → Prop} {w w0 : Wd} {n m b c : Nat} {σ : En} {d md : D} {ma hs nm : List Str} {k : Nat} {st : List (Str × Str)} {fo : Str}
end
end Bk

set_option Elab.async false
set_option linter.all false
set_option autoImplicit false
set_option maxRecDepth 100000
set_option maxHeartbeats 4000000
/-! Bv11: laws that refuse books: what they share (turned from K04b). -/
namespace Bk
open PySem L2 L2H LamX PyProof.Rows Si
/-- the slots written out -/
local macro_rules | `(tactic| walk_at "nm_Bv11") => `(tactic| (simp only [startD, wipeD, List.foldl_cons, List.foldl_nil, List.set_cons_succ, List.set_cons_zero, List.map_cons, List.map_nil, List.length_cons, List.length_nil, Nat.reduceAdd, Nat.reduceSub, List.replicate_succ, List.replicate_zero, List.cons_append, List.nil_append]; rfl))
/-- one step by the form of the code -/
local macro_rules | `(tactic| walk_at "g1_Bv11") => `(tactic| with_reducible first
  | (refine go_idD ?_; first
    | refine go_env (σ := List.set _ _ _) (by walk_at "nm_Bv11") ?_ | refine go_var rfl ?_ | refine go_c ?_ | refine go_op ?_ | refine go_call ?_ | refine go_eqS ?_ | refine go_eqI ?_ | refine go_tup ?_ | refine go_lst ?_ | refine go_addI ?_ | refine go_isi ?_ | refine go_and ?_ | refine go_lt ?_ | refine go_le ?_ | refine go_gt ?_ | refine go_ge ?_ | refine go_ixT rfl ?_ | refine go_ixL rfl ?_
    | refine go_lc ?_ | refine go_if ?_ | refine go_not ?_ | refine go_or ?_ | refine go_chain ?_ | refine go_callK ?_ | refine go_lstM ?_ | refine go_neg ?_ | refine go_sl ?_ | refine go_isi2 ?_ | refine go_join ?_ | refine go_app ?_ | refine go_lenSet ?_ | refine go_lcM ?_
    | refine go_subI ?_ | refine go_neI ?_ | refine go_neS ?_ | refine go_lenL ?_ | refine go_lenT ?_ | refine go_lenS (by assumption) ?_
    | refine go_slL ?_ | refine go_slT ?_ | refine go_slS (by assumption) ?_ | refine go_intI ?_ | refine go_lstL ?_ | refine go_lstT ?_ | refine go_tupL ?_ | refine go_tupT ?_ | refine go_isN ?_ | refine go_notN ?_ | refine go_allM ?_ | refine go_max2 ?_ | refine go_min2 ?_)
  | (refine go_idL ?_; first | refine go_cons ?_ | refine go_nil ?_ | refine go_iter ?_ | refine go_rng1 ?_ | refine go_zip ?_ | refine go_enum ?_ | refine go_star ?_ | refine go_rng2 ?_)
  | (refine gd_id ?_; first | refine gd_env (σ := List.set _ _ _) (by walk_at "nm_Bv11") ?_ | refine gd_env (σ := startD _ _) (by walk_at "nm_Bv11") ?_ | refine gd_seq ?_ | refine gd_nm ?_ | refine gd_asg ?_ | refine gd_ret ?_ | refine gd_if ?_ | refine gd_next ?_ | refine gd_expr ?_ | refine gd_par ?_ | refine gd_retN ?_ | refine gd_brk ?_ | refine gd_cnt ?_ | refine gd_for ?_)
  | (refine go_idB ?_; first | refine go_asB ?_ | refine go_tru ?_ | refine go_bAnd ?_ | refine go_bOr ?_ | refine go_bNot ?_ | refine go_bYes ?_)
  | (refine br_id ?_; first | refine br_t ?_ | refine br_f ?_ | refine br_not ?_)
  | (refine go_idO ?_; first | refine go_oNone ?_ | refine go_oSome ?_))
local macro_rules | `(tactic| walk_at "g2_Bv11") => `(tactic| first
  | with_reducible refine ex_bl ?_ | with_reducible refine ex_int ?_ | with_reducible refine ex_str ?_ | with_reducible refine ex_nm ?_
  | with_reducible refine ex_zip ?_ | with_reducible refine ex_enum ?_
  | with_reducible refine ex_seq (by with_unfolding_all exact rfl) ?_
  | with_reducible refine ex_tg (by with_unfolding_all exact rfl) ?_
  | with_reducible refine ex_tru (by with_unfolding_all exact rfl) ?_
  | with_reducible refine ex_ty (by with_unfolding_all exact rfl) ?_
  | with_reducible refine ex_it (by with_unfolding_all exact rfl) ?_
  | ((with_reducible refine br_id ?_); first
    | with_reducible refine br_is (b := Si.isNon _) (by with_unfolding_all rfl) ?_ | with_reducible refine br_isnt (b := Si.isNon _) (by with_unfolding_all rfl) ?_
    | with_reducible refine br_is (b := isB _ _) (by with_unfolding_all decide) ?_ | with_reducible refine br_isnt (b := isB _ _) (by with_unfolding_all decide) ?_
    | with_reducible refine br_is (b := isB _ _ || isB _ _) (by with_unfolding_all decide) ?_ | with_reducible refine br_isnt (b := isB _ _ || isB _ _) (by with_unfolding_all decide) ?_
    | with_reducible refine br_y (by decide +kernel) ?_ | with_reducible refine br_n (by decide +kernel) ?_ | with_reducible refine br_y (by with_unfolding_all rfl) ?_ | with_reducible refine br_n (by simp only [List.length_cons, List.length_nil]; omega) ?_)
  | ((with_reducible refine go_idD ?_); first
    | with_reducible refine go_mulL ⟨by decide, by decide⟩ ?_ | with_reducible refine go_mulR ⟨by decide, by decide⟩ ?_ | with_reducible refine go_mod (by decide) ?_ | with_reducible refine go_div (by decide) (by decide) ?_
    | with_reducible refine go_inTt (by decide +kernel) (by decide +kernel) ?_ | with_reducible refine go_inTf (by decide +kernel) (by decide +kernel) ?_ | with_reducible refine go_niTt (by decide +kernel) (by decide +kernel) ?_ | with_reducible refine go_niTf (by decide +kernel) (by decide +kernel) ?_)
  | (with_reducible refine an_le ?hh ?_; case hh => (first | decide | (simp only [List.length_cons, List.length_nil]; omega)))
  | (with_reducible refine an_rng ?hh ?_; case hh => (first | decide | omega))
  | (with_reducible refine an_rng2 ?hh ?_; case hh => (first | decide | omega))
  | fail)
local macro_rules | `(tactic| walk_at "gg_Bv11") => `(tactic| repeat' (first | walk_at "g1_Bv11" | walk_at "g2_Bv11"))

section
variable {X : EX} {Q : D → Wd → Prop} {QA : List D → Wd → Prop} {N B C : En → Wd → Prop} {T : D → Wd → Prop} {w w0 : Wd} {n m b : Nat} {sp : Bk.Sp} {σ : En} {d : D} {wd sv la ba fv mv nv ev jv rv : D} {st : List (Str × Str)} {k : Nat}
/-- rows that are stores with different names -/
structure RwOk (st : List (Str × Str)) : Prop where
  nd : (st.map (·.1)).Nodup
  le : st.length ≤ 5
  ok : ∀ p ∈ st, NmOk p.1 ∧ (p.2 = "fine" ∨ p.2 = "coarse")
theorem RwOk.take (h : RwOk st) (i : Nat) : RwOk (st.take i) := by
  refine ⟨?_, ?_, fun p hp => h.ok p (List.mem_of_mem_take hp)⟩
  · rw [List.map_take]
    exact h.nd.sublist (List.take_sublist _ _)
  · rw [List.length_take]
    have := h.le
    omega
end
end Bk

set_option Elab.async false
set_option linter.all false
set_option autoImplicit false
set_option maxRecDepth 100000
set_option maxHeartbeats 4000000
/-! Bv12: drawn names hold consonants alone (turned from Bk4). -/
namespace Bk
open PySem L2 L2H LamX PyProof.Rows Si
/-- one step by the form of the code -/
local macro_rules | `(tactic| walk_at "g1_Bv12") => `(tactic| with_reducible first
  | (refine go_idD ?_; first
    | refine go_var rfl ?_ | refine go_c ?_ | refine go_op ?_ | refine go_call ?_ | refine go_eqS ?_ | refine go_eqI ?_ | refine go_tup ?_ | refine go_lst ?_ | refine go_addI ?_ | refine go_isi ?_ | refine go_and ?_ | refine go_lt ?_ | refine go_le ?_ | refine go_gt ?_ | refine go_ge ?_ | refine go_ixT rfl ?_ | refine go_ixL rfl ?_
    | refine go_lc ?_ | refine go_if ?_ | refine go_not ?_ | refine go_or ?_ | refine go_chain ?_ | refine go_callK ?_ | refine go_lstM ?_ | refine go_neg ?_ | refine go_sl ?_ | refine go_isi2 ?_ | refine go_join ?_ | refine go_app ?_ | refine go_lenSet ?_ | refine go_lcM ?_
    | refine go_subI ?_ | refine go_neI ?_ | refine go_neS ?_ | refine go_lenL ?_ | refine go_lenT ?_ | refine go_lenS (by assumption) ?_
    | refine go_slL ?_ | refine go_slT ?_ | refine go_slS (by assumption) ?_ | refine go_intI ?_ | refine go_lstL ?_ | refine go_lstT ?_ | refine go_tupL ?_ | refine go_tupT ?_ | refine go_isN ?_ | refine go_notN ?_ | refine go_allM ?_ | refine go_max2 ?_ | refine go_min2 ?_)
  | (refine go_idL ?_; first | refine go_cons ?_ | refine go_nil ?_ | refine go_iter ?_ | refine go_rng1 ?_ | refine go_zip ?_ | refine go_enum ?_ | refine go_star ?_ | refine go_rng2 ?_)
  | (refine gd_id ?_; first | refine gd_seq ?_ | refine gd_nm ?_ | refine gd_asg ?_ | refine gd_ret ?_ | refine gd_if ?_ | refine gd_next ?_ | refine gd_expr ?_ | refine gd_par ?_ | refine gd_retN ?_ | refine gd_brk ?_ | refine gd_cnt ?_ | refine gd_for ?_)
  | (refine go_idB ?_; first | refine go_asB ?_ | refine go_tru ?_ | refine go_bAnd ?_ | refine go_bOr ?_ | refine go_bNot ?_ | refine go_bYes ?_)
  | (refine br_id ?_; first | refine br_t ?_ | refine br_f ?_ | refine br_not ?_)
  | (refine go_idO ?_; first | refine go_oNone ?_ | refine go_oSome ?_))
local macro_rules | `(tactic| walk_at "g2_Bv12") => `(tactic| first
  | with_reducible refine ex_bl ?_ | with_reducible refine ex_int ?_ | with_reducible refine ex_str ?_ | with_reducible refine ex_nm ?_
  | with_reducible refine ex_zip ?_ | with_reducible refine ex_enum ?_
  | with_reducible refine ex_seq (by with_unfolding_all exact rfl) ?_
  | with_reducible refine ex_tg (by with_unfolding_all exact rfl) ?_
  | with_reducible refine ex_tru (by with_unfolding_all exact rfl) ?_
  | with_reducible refine ex_ty (by with_unfolding_all exact rfl) ?_
  | with_reducible refine ex_it (by with_unfolding_all exact rfl) ?_
  | ((with_reducible refine br_id ?_); first
    | with_reducible refine br_is (b := Si.isNon _) (by with_unfolding_all rfl) ?_ | with_reducible refine br_isnt (b := Si.isNon _) (by with_unfolding_all rfl) ?_
    | with_reducible refine br_is (b := isB _ _) (by with_unfolding_all decide) ?_ | with_reducible refine br_isnt (b := isB _ _) (by with_unfolding_all decide) ?_
    | with_reducible refine br_is (b := isB _ _ || isB _ _) (by with_unfolding_all decide) ?_ | with_reducible refine br_isnt (b := isB _ _ || isB _ _) (by with_unfolding_all decide) ?_
    | with_reducible refine br_y (by decide +kernel) ?_ | with_reducible refine br_n (by decide +kernel) ?_ | with_reducible refine br_y (by with_unfolding_all rfl) ?_ | with_reducible refine br_n (by simp only [List.length_cons, List.length_nil]; omega) ?_)
  | ((with_reducible refine go_idD ?_); first
    | with_reducible refine go_mulL ⟨by decide, by decide⟩ ?_ | with_reducible refine go_mulR ⟨by decide, by decide⟩ ?_ | with_reducible refine go_mod (by decide) ?_ | with_reducible refine go_div (by decide) (by decide) ?_
    | with_reducible refine go_inTt (by decide +kernel) (by decide +kernel) ?_ | with_reducible refine go_inTf (by decide +kernel) (by decide +kernel) ?_ | with_reducible refine go_niTt (by decide +kernel) (by decide +kernel) ?_ | with_reducible refine go_niTf (by decide +kernel) (by decide +kernel) ?_)
  | (with_reducible refine an_le ?hh ?_; case hh => (first | decide | (simp only [List.length_cons, List.length_nil]; omega)))
  | (with_reducible refine an_rng ?hh ?_; case hh => (first | decide | omega))
  | (with_reducible refine an_rng2 ?hh ?_; case hh => (first | decide | omega))
  | fail)
local macro_rules | `(tactic| walk_at "gg_Bv12") => `(tactic| repeat' (first | walk_at "g1_Bv12" | walk_at "g2_Bv12"))

/-- of the drawn letters alone -/
def ConOk (z : Str) : Prop := ∀ c ∈ z.cps.toList, c ∈ lets
theorem ConOk.ne {z y : Str} (h : ConOk z) (hy : (y.cps.toList.all fun c => decide (c ∈ lets)) = false) : z ≠ y := by
  rintro rfl
  rw [List.all_eq_false] at hy
  obtain ⟨c, hc, hd⟩ := hy
  exact hd (decide_eq_true (h c hc))
section
variable {X : EX} {Q : D → Wd → Prop} {QA : List D → Wd → Prop} {N B C : En → Wd → Prop} {T : D → Wd → Prop} {w w0 : Wd} {n m b : Nat} {σ : En}
end
end Bk

set_option Elab.async false
set_option linter.all false
set_option autoImplicit false
set_option maxRecDepth 100000
set_option maxHeartbeats 4000000
/-! Bv13: books with other parts (remade), books beside specs (_law_book_so). -/
namespace Bk
open PySem L2 L2H LamX PyProof.Rows Si
/-- the slots written out -/
local macro_rules | `(tactic| walk_at "nm_Bv13") => `(tactic| (simp only [startD, wipeD, List.foldl_cons, List.foldl_nil, List.set_cons_succ, List.set_cons_zero, List.map_cons, List.map_nil, List.length_cons, List.length_nil, Nat.reduceAdd, Nat.reduceSub, List.replicate_succ, List.replicate_zero, List.cons_append, List.nil_append]; rfl))
/-- one step by the form of the code -/
local macro_rules | `(tactic| walk_at "g1_Bv13") => `(tactic| with_reducible first
  | (refine go_idD ?_; first
    | refine go_env (σ := List.set _ _ _) (by walk_at "nm_Bv13") ?_ | refine go_var rfl ?_ | refine go_c ?_ | refine go_op ?_ | refine go_call ?_ | refine go_eqS ?_ | refine go_eqI ?_ | refine go_tup ?_ | refine go_lst ?_ | refine go_addI ?_ | refine go_isi ?_ | refine go_and ?_ | refine go_lt ?_ | refine go_le ?_ | refine go_gt ?_ | refine go_ge ?_ | refine go_ixT rfl ?_ | refine go_ixL rfl ?_
    | refine go_lc ?_ | refine go_if ?_ | refine go_not ?_ | refine go_or ?_ | refine go_chain ?_ | refine go_callK ?_ | refine go_lstM ?_ | refine go_neg ?_ | refine go_sl ?_ | refine go_isi2 ?_ | refine go_join ?_ | refine go_app ?_ | refine go_lenSet ?_ | refine go_lcM ?_
    | refine go_subI ?_ | refine go_neI ?_ | refine go_neS ?_ | refine go_lenL ?_ | refine go_lenT ?_ | refine go_lenS (by assumption) ?_
    | refine go_slL ?_ | refine go_slT ?_ | refine go_slS (by assumption) ?_ | refine go_intI ?_ | refine go_lstL ?_ | refine go_lstT ?_ | refine go_tupL ?_ | refine go_tupT ?_ | refine go_isN ?_ | refine go_notN ?_ | refine go_allM ?_ | refine go_max2 ?_ | refine go_min2 ?_)
  | (refine go_idL ?_; first | refine go_cons ?_ | refine go_nil ?_ | refine go_iter ?_ | refine go_rng1 ?_ | refine go_zip ?_ | refine go_enum ?_ | refine go_star ?_ | refine go_rng2 ?_)
  | (refine gd_id ?_; first | refine gd_env (σ := List.set _ _ _) (by walk_at "nm_Bv13") ?_ | refine gd_env (σ := startD _ _) (by walk_at "nm_Bv13") ?_ | refine gd_seq ?_ | refine gd_nm ?_ | refine gd_asg ?_ | refine gd_ret ?_ | refine gd_if ?_ | refine gd_next ?_ | refine gd_expr ?_ | refine gd_par ?_ | refine gd_retN ?_ | refine gd_brk ?_ | refine gd_cnt ?_ | refine gd_for ?_)
  | (refine go_idB ?_; first | refine go_asB ?_ | refine go_tru ?_ | refine go_bAnd ?_ | refine go_bOr ?_ | refine go_bNot ?_ | refine go_bYes ?_)
  | (refine br_id ?_; first | refine br_t ?_ | refine br_f ?_ | refine br_not ?_)
  | (refine go_idO ?_; first | refine go_oNone ?_ | refine go_oSome ?_))
local macro_rules | `(tactic| walk_at "g2_Bv13") => `(tactic| first
  | with_reducible refine ex_bl ?_ | with_reducible refine ex_int ?_ | with_reducible refine ex_str ?_ | with_reducible refine ex_nm ?_
  | with_reducible refine ex_zip ?_ | with_reducible refine ex_enum ?_
  | with_reducible refine ex_seq (by with_unfolding_all exact rfl) ?_
  | with_reducible refine ex_tg (by with_unfolding_all exact rfl) ?_
  | with_reducible refine ex_tru (by with_unfolding_all exact rfl) ?_
  | with_reducible refine ex_ty (by with_unfolding_all exact rfl) ?_
  | with_reducible refine ex_it (by with_unfolding_all exact rfl) ?_
  | ((with_reducible refine br_id ?_); first
    | with_reducible refine br_is (b := Si.isNon _) (by with_unfolding_all rfl) ?_ | with_reducible refine br_isnt (b := Si.isNon _) (by with_unfolding_all rfl) ?_
    | with_reducible refine br_is (b := isB _ _) (by with_unfolding_all decide) ?_ | with_reducible refine br_isnt (b := isB _ _) (by with_unfolding_all decide) ?_
    | with_reducible refine br_is (b := isB _ _ || isB _ _) (by with_unfolding_all decide) ?_ | with_reducible refine br_isnt (b := isB _ _ || isB _ _) (by with_unfolding_all decide) ?_
    | with_reducible refine br_y (by decide +kernel) ?_ | with_reducible refine br_n (by decide +kernel) ?_ | with_reducible refine br_y (by with_unfolding_all rfl) ?_ | with_reducible refine br_n (by simp only [List.length_cons, List.length_nil]; omega) ?_)
  | ((with_reducible refine go_idD ?_); first
    | with_reducible refine go_mulL ⟨by decide, by decide⟩ ?_ | with_reducible refine go_mulR ⟨by decide, by decide⟩ ?_ | with_reducible refine go_mod (by decide) ?_ | with_reducible refine go_div (by decide) (by decide) ?_
    | with_reducible refine go_inTt (by decide +kernel) (by decide +kernel) ?_ | with_reducible refine go_inTf (by decide +kernel) (by decide +kernel) ?_ | with_reducible refine go_niTt (by decide +kernel) (by decide +kernel) ?_ | with_reducible refine go_niTf (by decide +kernel) (by decide +kernel) ?_)
  | (with_reducible refine an_le ?hh ?_; case hh => (first | decide | (simp only [List.length_cons, List.length_nil]; omega)))
  | (with_reducible refine an_rng ?hh ?_; case hh => (first | decide | omega))
  | (with_reducible refine an_rng2 ?hh ?_; case hh => (first | decide | omega))
  | fail)
local macro_rules | `(tactic| walk_at "gg_Bv13") => `(tactic| repeat' (first | walk_at "g1_Bv13" | walk_at "g2_Bv13"))

section
variable {X : EX} {Q : D → Wd → Prop} {QA : List D → Wd → Prop} {N B C : En → Wd → Prop} {T : D → Wd → Prop} {w w0 : Wd} {n m b : Nat} {σ : En} {d : D} {k : Nat} {sp sp' : Bk.Sp}
/-! parts of a Book -/
/-! remade -/
end
end Bk

set_option Elab.async false
set_option linter.all false
set_option autoImplicit false
set_option maxRecDepth 100000
set_option maxHeartbeats 4000000
/-! Bv14: drawn books with their titles (turned from Bk10). -/
namespace Bk
open PySem L2 PyProof.Rows Si
/-- one step by the form of the code -/
local macro_rules | `(tactic| walk_at "g1_Bv14") => `(tactic| with_reducible first
  | (refine go_idD ?_; first
    | refine go_var rfl ?_ | refine go_c ?_ | refine go_op ?_ | refine go_call ?_ | refine go_eqS ?_ | refine go_eqI ?_ | refine go_tup ?_ | refine go_lst ?_ | refine go_addI ?_ | refine go_isi ?_ | refine go_and ?_ | refine go_lt ?_ | refine go_le ?_ | refine go_gt ?_ | refine go_ge ?_ | refine go_ixT rfl ?_ | refine go_ixL rfl ?_
    | refine go_lc ?_ | refine go_if ?_ | refine go_not ?_ | refine go_or ?_ | refine go_chain ?_ | refine go_callK ?_ | refine go_lstM ?_ | refine go_neg ?_ | refine go_sl ?_ | refine go_isi2 ?_ | refine go_join ?_ | refine go_app ?_ | refine go_lenSet ?_ | refine go_lcM ?_
    | refine go_subI ?_ | refine go_neI ?_ | refine go_neS ?_ | refine go_lenL ?_ | refine go_lenT ?_ | refine go_lenS (by assumption) ?_
    | refine go_slL ?_ | refine go_slT ?_ | refine go_slS (by assumption) ?_ | refine go_intI ?_ | refine go_lstL ?_ | refine go_lstT ?_ | refine go_tupL ?_ | refine go_tupT ?_ | refine go_isN ?_ | refine go_notN ?_ | refine go_allM ?_ | refine go_max2 ?_ | refine go_min2 ?_)
  | (refine go_idL ?_; first | refine go_cons ?_ | refine go_nil ?_ | refine go_iter ?_ | refine go_rng1 ?_ | refine go_zip ?_ | refine go_enum ?_ | refine go_star ?_ | refine go_rng2 ?_)
  | (refine gd_id ?_; first | refine gd_seq ?_ | refine gd_nm ?_ | refine gd_asg ?_ | refine gd_ret ?_ | refine gd_if ?_ | refine gd_next ?_ | refine gd_expr ?_ | refine gd_par ?_ | refine gd_retN ?_ | refine gd_brk ?_ | refine gd_cnt ?_ | refine gd_for ?_)
  | (refine go_idB ?_; first | refine go_asB ?_ | refine go_tru ?_ | refine go_bAnd ?_ | refine go_bOr ?_ | refine go_bNot ?_ | refine go_bYes ?_)
  | (refine br_id ?_; first | refine br_t ?_ | refine br_f ?_ | refine br_not ?_)
  | (refine go_idO ?_; first | refine go_oNone ?_ | refine go_oSome ?_))
local macro_rules | `(tactic| walk_at "g2_Bv14") => `(tactic| first
  | with_reducible refine ex_bl ?_ | with_reducible refine ex_int ?_ | with_reducible refine ex_str ?_ | with_reducible refine ex_nm ?_
  | with_reducible refine ex_zip ?_ | with_reducible refine ex_enum ?_
  | with_reducible refine ex_seq (by with_unfolding_all exact rfl) ?_
  | with_reducible refine ex_tg (by with_unfolding_all exact rfl) ?_
  | with_reducible refine ex_tru (by with_unfolding_all exact rfl) ?_
  | with_reducible refine ex_ty (by with_unfolding_all exact rfl) ?_
  | with_reducible refine ex_it (by with_unfolding_all exact rfl) ?_
  | ((with_reducible refine br_id ?_); first
    | with_reducible refine br_is (b := Si.isNon _) (by with_unfolding_all rfl) ?_ | with_reducible refine br_isnt (b := Si.isNon _) (by with_unfolding_all rfl) ?_
    | with_reducible refine br_is (b := isB _ _) (by with_unfolding_all decide) ?_ | with_reducible refine br_isnt (b := isB _ _) (by with_unfolding_all decide) ?_
    | with_reducible refine br_is (b := isB _ _ || isB _ _) (by with_unfolding_all decide) ?_ | with_reducible refine br_isnt (b := isB _ _ || isB _ _) (by with_unfolding_all decide) ?_
    | with_reducible refine br_y (by decide +kernel) ?_ | with_reducible refine br_n (by decide +kernel) ?_ | with_reducible refine br_y (by with_unfolding_all rfl) ?_ | with_reducible refine br_n (by simp only [List.length_cons, List.length_nil]; omega) ?_)
  | ((with_reducible refine go_idD ?_); first
    | with_reducible refine go_mulL ⟨by decide, by decide⟩ ?_ | with_reducible refine go_mulR ⟨by decide, by decide⟩ ?_ | with_reducible refine go_mod (by decide) ?_ | with_reducible refine go_div (by decide) (by decide) ?_
    | with_reducible refine go_inTt (by decide +kernel) (by decide +kernel) ?_ | with_reducible refine go_inTf (by decide +kernel) (by decide +kernel) ?_ | with_reducible refine go_niTt (by decide +kernel) (by decide +kernel) ?_ | with_reducible refine go_niTf (by decide +kernel) (by decide +kernel) ?_)
  | (with_reducible refine an_le ?hh ?_; case hh => (first | decide | (simp only [List.length_cons, List.length_nil]; omega)))
  | (with_reducible refine an_rng ?hh ?_; case hh => (first | omega | decide))
  | (with_reducible refine an_rng2 ?hh ?_; case hh => (first | omega | decide))
  | fail)
local macro_rules | `(tactic| walk_at "gg_Bv14") => `(tactic| repeat' (first | walk_at "g1_Bv14" | walk_at "g2_Bv14"))

section
variable {X : EX} {Q : D → Wd → Prop} {w w0 : Wd} {n : Nat}
end
end Bk

set_option Elab.async false
set_option linter.all false
set_option autoImplicit false
set_option maxRecDepth 100000
set_option maxHeartbeats 4000000
/-! Bu2: walks of hulls. -/
namespace Bk
open PySem L2 L2H LamX PyProof.Rows Si Bh
theorem go_zipG {X : EX} {QA : List D → Wd → Prop} {w : Wd} {mas : En → Wd → R (List D)} {σ : En} (h : Go X (mas σ w) fun us w1 => ∃ ds es, (us = [.lst ds, .lst es] ∨ us = [.tup ds, .tup es]) ∧ QA (zipD ds es) w1) : Go X (mZip mas σ w) QA :=
  go_bind (go_weak h fun _ _ ⟨_, _, e, h⟩ => by rcases e with e | e <;> (subst e; exact h))
theorem ex_zipL {ds es : List D} {R : List D → List D → Prop} (h : R ds es) : ∃ a b, ([D.lst ds, D.lst es] = [D.lst a, D.lst b] ∨ [D.lst ds, D.lst es] = [D.tup a, D.tup b]) ∧ R a b := ⟨_, _, .inl rfl, h⟩
theorem ex_zipT {ds es : List D} {R : List D → List D → Prop} (h : R ds es) : ∃ a b, ([D.tup ds, D.tup es] = [D.lst a, D.lst b] ∨ [D.tup ds, D.tup es] = [D.tup a, D.tup b]) ∧ R a b := ⟨_, _, .inr rfl, h⟩
/-- the slots written out -/
local macro_rules | `(tactic| walk_at "nm_Bu2") => `(tactic| (simp only [startD, wipeD, List.foldl_cons, List.foldl_nil, List.set_cons_succ, List.set_cons_zero, List.map_cons, List.map_nil, List.length_cons, List.length_nil, Nat.reduceAdd, Nat.reduceSub, List.replicate_succ, List.replicate_zero, List.cons_append, List.nil_append]; rfl))
/-- one step by the form of the code -/
local macro_rules | `(tactic| walk_at "g1_Bu2") => `(tactic| with_reducible first
  | (refine go_idD ?_; first
    | refine go_env (σ := List.set _ _ _) (by walk_at "nm_Bu2") ?_ | refine go_var rfl ?_ | refine go_c ?_ | refine go_op ?_ | refine go_call ?_ | refine go_eqS ?_ | refine go_eqI ?_ | refine go_tup ?_ | refine go_lst ?_ | refine go_addI ?_ | refine go_isi ?_ | refine go_and ?_ | refine go_lt ?_ | refine go_le ?_ | refine go_gt ?_ | refine go_ge ?_ | refine go_ixT rfl ?_ | refine go_ixL rfl ?_
    | refine go_lc ?_ | refine go_if ?_ | refine go_not ?_ | refine go_or ?_ | refine go_chain ?_ | refine go_callK ?_ | refine go_lstM ?_ | refine go_neg ?_ | refine go_sl ?_ | refine go_isi2 ?_ | refine go_join ?_ | refine go_app ?_ | refine go_lenSet ?_ | refine go_lcM ?_
    | refine go_subI ?_ | refine go_neI ?_ | refine go_neS ?_ | refine go_lenL ?_ | refine go_lenT ?_ | refine go_lenS (by assumption) ?_
    | refine go_slL ?_ | refine go_slT ?_ | refine go_slS (by assumption) ?_ | refine go_intI ?_ | refine go_lstL ?_ | refine go_lstT ?_ | refine go_tupL ?_ | refine go_tupT ?_ | refine go_isN ?_ | refine go_notN ?_ | refine go_allM ?_ | refine go_max2 ?_ | refine go_min2 ?_)
  | (refine go_idL ?_; first | refine go_cons ?_ | refine go_nil ?_ | refine go_iter ?_ | refine go_rng1 ?_ | refine go_zipG ?_ | refine go_enum ?_ | refine go_star ?_ | refine go_rng2 ?_)
  | (refine gd_id ?_; first | refine gd_env (σ := List.set _ _ _) (by walk_at "nm_Bu2") ?_ | refine gd_env (σ := startD _ _) (by walk_at "nm_Bu2") ?_ | refine gd_seq ?_ | refine gd_nm ?_ | refine gd_asg ?_ | refine gd_ret ?_ | refine gd_if ?_ | refine gd_next ?_ | refine gd_expr ?_ | refine gd_par ?_ | refine gd_retN ?_ | refine gd_brk ?_ | refine gd_cnt ?_ | refine gd_for ?_)
  | (refine go_idB ?_; first | refine go_asB ?_ | refine go_tru ?_ | refine go_bAnd ?_ | refine go_bOr ?_ | refine go_bNot ?_ | refine go_bYes ?_)
  | (refine br_id ?_; first | refine br_t ?_ | refine br_f ?_ | refine br_not ?_)
  | (refine go_idO ?_; first | refine go_oNone ?_ | refine go_oSome ?_))
local macro_rules | `(tactic| walk_at "g2_Bu2") => `(tactic| first
  | with_reducible refine ex_bl ?_ | with_reducible refine ex_int ?_ | with_reducible refine ex_str ?_ | with_reducible refine ex_nm ?_
  | with_reducible refine ex_zipL ?_ | with_reducible refine ex_zipT ?_ | with_reducible refine ex_enum ?_
  | with_reducible refine ex_seq (by with_unfolding_all exact rfl) ?_
  | with_reducible refine ex_tg (by with_unfolding_all exact rfl) ?_
  | with_reducible refine ex_tru (by with_unfolding_all exact rfl) ?_
  | with_reducible refine ex_ty (by with_unfolding_all exact rfl) ?_
  | with_reducible refine ex_it (by with_unfolding_all exact rfl) ?_
  | ((with_reducible refine br_id ?_); first
    | with_reducible refine br_is (b := Si.isNon _) (by with_unfolding_all rfl) ?_ | with_reducible refine br_isnt (b := Si.isNon _) (by with_unfolding_all rfl) ?_
    | with_reducible refine br_is (b := isB _ _) (by with_unfolding_all decide) ?_ | with_reducible refine br_isnt (b := isB _ _) (by with_unfolding_all decide) ?_
    | with_reducible refine br_is (b := isB _ _ || isB _ _) (by with_unfolding_all decide) ?_ | with_reducible refine br_isnt (b := isB _ _ || isB _ _) (by with_unfolding_all decide) ?_
    | with_reducible refine br_y (by decide +kernel) ?_ | with_reducible refine br_n (by decide +kernel) ?_ | with_reducible refine br_y (by with_unfolding_all rfl) ?_ | with_reducible refine br_n (by simp only [List.length_cons, List.length_nil]; omega) ?_)
  | ((with_reducible refine go_idD ?_); first
    | with_reducible refine go_mulL ⟨by decide, by decide⟩ ?_ | with_reducible refine go_mulR ⟨by decide, by decide⟩ ?_ | with_reducible refine go_mod (by decide) ?_ | with_reducible refine go_div (by decide) (by decide) ?_
    | with_reducible refine go_inTt (by decide +kernel) (by decide +kernel) ?_ | with_reducible refine go_inTf (by decide +kernel) (by decide +kernel) ?_ | with_reducible refine go_niTt (by decide +kernel) (by decide +kernel) ?_ | with_reducible refine go_niTf (by decide +kernel) (by decide +kernel) ?_)
  | (with_reducible refine an_le ?hh ?_; case hh => (first | decide | (simp only [List.length_cons, List.length_nil]; omega)))
  | (with_reducible refine an_rng ?hh ?_; case hh => (first | omega | decide))
  | (with_reducible refine an_rng2 ?hh ?_; case hh => (first | omega | decide))
  | fail)
local macro_rules | `(tactic| walk_at "gg_Bu2") => `(tactic| repeat' (first | walk_at "g1_Bu2" | walk_at "g2_Bu2"))

section
variable {X : EX} {Q : D → Wd → Prop} {N B C : En → Wd → Prop} {T : D → Wd → Prop} {w w0 : Wd} {n m b : Nat} {σ : En}
theorem go_abs {i : Int} (q : Q (.int i.natAbs) w) : Go X (gAbs [.int i] w) Q := by
  refine go_ok (a := D.int i.natAbs) (w' := w) ?_ q
  show R.ok (D.int (if i < 0 then -i else i)) w = _
  congr 2
  split <;> omega
theorem go_divW {i j : Int} (h0 : 0 < j) (h1 : j.natAbs.log2 < 9000) (q : Q (.int (i / j)) w) : Go X (gDiv (.int i) (.int j) w) Q := by
  refine go_ok (a := D.int (i / j)) (w' := w) ?_ q
  unfold gDiv
  dsimp only
  rw [if_pos ⟨h0, h1⟩]
theorem next_of_gd {r : SR} {σ2 : En} {w2 : Wd} (h : Gd EX0 (fun σ' w' => σ' = σ2 ∧ w' = w2) (fun _ _ => False) (fun _ _ => False) (fun _ _ => False) r) : r = .next σ2 w2 := by
  cases r with
  | next σ w => obtain ⟨rfl, rfl⟩ := h; rfl
  | ret d w => exact h.elim
  | brk σ w => exact h.elim
  | cnt σ w => exact h.elim
  | err c fs w => exact h.elim
  | stuck => exact h.elim
theorem gcd_loop {c : En → Wd → R Bool} {bd : En → Wd → SR} {v o2 : Option D} (hc : c = asB (mOp gNe (mVar 3) (mC (.int 0)))) (hbd : bd = mPar 1 3 (aCons (mVar 3) (aCons (mOp gMod (mVar 1) (mVar 3)) aNil))) : ∀ (fuel d r : Nat), r < fuel → (N [v, some (.int (Nat.gcd d r)), o2, some (.int 0)] w) → Gd X N T B C (whileL c bd fuel [v, some (.int d), o2, some (.int r)] w)
  | 0, d, r, h, _ => absurd h (Nat.not_lt_zero _)
  | fuel + 1, d, r, h, q => by
    have e1 : c [v, some (.int d), o2, some (.int r)] w = .ok (!decide ((r : Int) = 0)) w := by rw [hc]; rfl
    unfold whileL
    rw [e1]
    by_cases hr : r = 0
    · subst hr
      rw [Nat.gcd_zero_right] at q
      exact q
    · have h0 : (!decide ((r : Int) = 0)) = true := by simp [hr]
      have e2 : bd [v, some (.int d), o2, some (.int r)] w = .next [v, some (.int r), o2, some (.int ((d % r : Nat) : Int))] w := by
        refine next_of_gd ?_
        rw [hbd]
        walk_at "gg_Bu2"
        refine go_mod (by omega) ⟨?_, rfl⟩
        rw [Int.natCast_emod]
        rfl
      rw [h0]
      show Gd X N T B C (match bd [v, some (.int d), o2, some (.int r)] w with | .next σ2 w2 => whileL c bd fuel σ2 w2 | .cnt σ2 w2 => whileL c bd fuel σ2 w2 | .brk σ2 w2 => .next σ2 w2 | .ret d w2 => .ret d w2 | .err c fs w2 => .err c fs w2 | .stuck => .stuck)
      rw [e2]
      refine gcd_loop hc hbd fuel r (d % r) (by have := Nat.mod_lt d (Nat.pos_of_ne_zero hr); omega) ?_
      rw [show Nat.gcd r (d % r) = Nat.gcd d r from by rw [Nat.gcd_comm r, ← Nat.gcd_rec, Nat.gcd_comm]]
      exact q
theorem common_go {l : List Int} (q : Q (.int (gcdL l)) w) : Go X (F_common [.lst (l.map .int)] w) Q := by
  refine go_fn rfl ?_
  unfold M_common
  walk_at "gg_Bu2"
  refine gd_forL (fun r σ w' => w' = w ∧ ∃ (l' : List Int) (d : Nat) (o2 o3 : Option D), r = l'.map .int ∧ σ = [some (.lst (l.map .int)), some (.int d), o2, o3] ∧ l'.foldl (fun d x => Nat.gcd d x.natAbs) d = gcdL l) ?_ ?_ _ _ _ ⟨rfl, l, 0, none, none, rfl, rfl, rfl⟩
  · rintro x r σ w' ⟨rfl, l', d, o2, o3, e, rfl, hd⟩
    match l', e, hd with
    | y :: l', e, hd =>
      obtain ⟨rfl, rfl⟩ := List.cons.inj e
      walk_at "gg_Bu2"
      refine go_abs ?_
      walk_at "gg_Bu2"
      refine gcd_loop rfl rfl _ d y.natAbs ?_ ?_
      · show y.natAbs < (Int.natAbs (y.natAbs : Int)) + 1
        simp
      · exact ⟨rfl, l', _, _, _, rfl, rfl, hd⟩
  · rintro σ w' ⟨rfl, l', d, o2, o3, e, rfl, hd⟩
    have : l' = [] := by cases l' with | nil => rfl | cons _ _ => cases e
    subst this
    walk_at "gg_Bu2"
    have hd : d = gcdL l := hd
    rw [hd]
    exact q
theorem shortened_go {l : List Int} {b : Nat} (hb : Bd b l) (h9 : b < 9000) (hl : l.length ≤ 1000) (q : Q (.lst ((short l).map .int)) w) : Go X (F_shortened [.lst (l.map .int)] w) Q := by
  refine go_fn rfl ?_
  unfold M_shortened
  walk_at "gg_Bu2"
  refine common_go ?_
  walk_at "gg_Bu2"
  by_cases h : 1 < gcdL l
  · refine br_y (by first | omega | (simp; omega)) ?_
    walk_at "gg_Bu2"
    have hg := gcdL_le hb
    refine lc_mapT D.int (fun x => D.int (x / (gcdL l : Int))) l (by omega) (fun x hx => ⟨_, rfl, ?_⟩) ?_
    · walk_at "gg_Bu2"
      refine go_divW (by omega) ?_ ⟨rfl, rfl⟩
      rw [Int.natAbs_natCast]
      exact (Nat.log2_lt (by omega)).mpr (Nat.lt_of_le_of_lt hg (Nat.pow_lt_pow_right (by decide) h9))
    · rw [show short l = l.map (· / (gcdL l : Int)) from if_pos h, List.map_map] at q
      exact q
  · refine br_n (by first | omega | (simp; omega)) ?_
    walk_at "gg_Bu2"
    rw [show short l = l from if_neg h] at q
    exact q
theorem gd_forCl {f : D → En → Wd → Option En} {body : En → Wd → SR} {c : Nat} {ds0 : List D} (I : List D → En → Wd → Prop) (hw : ∀ ds σ w, I ds σ w → w[c]? = some (.lst ds0))
    (hs : ∀ d r σ w, I (d :: r) σ w → ∃ σ1, f d σ w = some σ1 ∧ Gd X (I r) T N (I r) (body σ1 w))
    (he : ∀ σ w, I [] σ w → N σ w) : ∀ (ds : List D) (σ : En) (w : Wd), I ds σ w → Gd X N T B C (forC c ds0 f body ds σ w)
  | [], σ, w, h => by
    unfold forC
    rw [if_pos (hw _ _ _ h)]
    exact he σ w h
  | d :: r, σ, w, h => by
    obtain ⟨σ1, e, h1⟩ := hs d r σ w h
    unfold forC
    rw [if_pos (hw _ _ _ h)]
    simp only [e]
    cases e1 : body σ1 w <;> rw [e1] at h1
    · exact gd_forCl I hw hs he r _ _ h1
    · exact h1
    · exact h1
    · exact gd_forCl I hw hs he r _ _ h1
    · exact h1
    · exact h1
theorem gd_mforC {ma : En → Wd → R D} {f : D → En → Wd → Option En} {body : En → Wd → SR} (h : Go X (ma σ w) fun u w1 => ∃ c ds, cellL u w1 = some (c, ds) ∧ Gd X N T B C (forC c ds f body ds σ w1)) : Gd X N T B C (mForC ma f body σ w) :=
  gd_toS (go_bind (go_weak h fun u w1 ⟨c, ds, e, h⟩ => by rw [e]; exact h))
theorem log2_le {i : Int} {b : Nat} (h : i.natAbs ≤ 2 ^ b) : i.natAbs.log2 ≤ b := by
  by_cases h0 : i.natAbs = 0
  · rw [h0]; simp
  · have := (Nat.log2_lt h0).mpr (Nat.lt_of_le_of_lt h (Nat.pow_lt_pow_right (by decide) (Nat.lt_succ_self b)))
    omega
theorem go_mulW {i j : Int} {b c : Nat} (hi : i.natAbs ≤ 2 ^ b) (hj : j.natAbs ≤ 2 ^ c) (h : b + c < 900000) (q : Q (.int (i * j)) w) : Go X (gMul (.int i) (.int j) w) Q := by
  have h1 := log2_le hi
  have h2 := log2_le hj
  refine go_ok (a := D.int (i * j)) (w' := w) ?_ q
  unfold gMul
  dsimp only
  rw [if_pos (.inr (by omega))]
abbrev eV (l : List Int) : List D := l.map .int
abbrev eR (l : List Int) : D := .tup (eV l)
abbrev eLn (l : Line) : D := .tup [.int l.1, .lst (eV l.2)]
/-- a hull as it stands: its rows and its lines are cells -/
structure HlC (b rb lb : Nat) (w : Wd) (n : Nat) (h : Hl) : Prop where
  o : w[b]? = some (.ins "Hull" [("own_size", .int n), ("own_rows", .obj rb), ("own_lines", .obj lb)])
  r : w[rb]? = some (.lst (h.rows.map eR))
  l : w[lb]? = some (.lst (h.lines.map eLn))
  ne : rb ≠ lb
theorem go_fldH {rb lb : Nat} {h : Hl} {i : Nat} {f : Str} {d : D} (ha : HlC b rb lb w n h) (e : σ[i]? = some (some (.obj b))) (hl : ([("own_size", .int n), ("own_rows", .obj rb), ("own_lines", .obj lb)] : List (Str × D)).lookup f = some d) (q : Q d w) : Go X (mFld ["Hull"] f (mVar i) σ w) Q :=
  go_fld (go_var e ⟨b, _, _, _, rfl, ha.o, List.mem_singleton.mpr rfl, hl, q⟩)
theorem zip_V : ∀ (a b : List Int), zipD (eV a) (eV b) = (a.zip b).map fun p => D.tup [.int p.1, .int p.2]
  | [], _ => by simp [zipD]
  | _ :: _, [] => by simp [zipD]
  | x :: a, y :: b => by
    have ih := zip_V a b
    show D.tup [.int x, .int y] :: zipD (eV a) (eV b) = _
    rw [ih]
    rfl
theorem zipWith_zip {f : Int → Int → Int} : ∀ (a b : List Int), (a.zip b).map (fun p => f p.1 p.2) = List.zipWith f a b
  | [], _ => by simp
  | _ :: _, [] => by simp
  | x :: a, y :: b => by simp [zipWith_zip a b]
theorem at0 {d : D} {l : List D} : L2.atI (d :: l) 0 = some d := by
  unfold L2.atI
  rw [ixN_nat (by decide) (by simp)]
  rfl
theorem atG {l : List Int} {a : Nat} (h : a < l.length) : L2.atI (eV l) (a : Nat) = some (.int (g l a)) := by
  unfold L2.atI
  rw [ixN_nat (by omega) (by rw [List.length_map]; omega)]
  show (l.map D.int)[((a : Nat) : Int).toNat]? = _
  rw [Int.toNat_natCast, List.getElem?_map, List.getElem?_eq_getElem h]
  simp [g, List.getD_eq_getElem?_getD, List.getElem?_eq_getElem h]
theorem bd_mem {b : Nat} {l : List Int} {x : Int} (h : Bd b l) (hx : x ∈ l) : x.natAbs ≤ 2 ^ b := by
  obtain ⟨i, hi, rfl⟩ := List.mem_iff_getElem.mp hx
  have := h i
  rwa [show g l i = l[i] by simp [g, List.getD_eq_getElem?_getD, List.getElem?_eq_getElem hi]] at this
theorem sub_V (a b : List Int) : (a.zip b).map (fun p => D.int (p.1 - p.2)) = eV (Bh.sub a b) := by
  unfold Bh.sub
  rw [← zipWith_zip]
  unfold eV
  rw [List.map_map]
  rfl
theorem cross_V (y m : List Int) (a : Nat) : (y.zip m).map (fun p => D.int (p.1 * g m a - p.2 * g y a)) = eV (cross y m a) := by
  unfold cross
  rw [← zipWith_zip (f := fun p q => p * g m a - q * g y a)]
  unfold eV
  rw [List.map_map]
  rfl
theorem left_go {rb lb : Nat} {h : Hl} {r0 x : List Int} {rs : List (List Int)} {bx : Nat} {es : List Nat} (ha : HlC b rb lb w n h) (hr : h.rows = r0 :: rs) (hi : Inv n h) (hx : x.length = n) (hn : n ≤ 1000) (hb : Bd bx (Bh.sub x r0)) (hl : LBd es h.lines) (h9 : bits bx es < 9000)
    (q : Q (.lst (eV (left short r0 h.lines x))) w) : Go X (F_Hull_left_of [.obj b, eR x] w) Q := by
  refine go_fn rfl ?_
  unfold M_Hull_left_of
  walk_at "gg_Bu2"
  refine go_fldH ha rfl rfl ?_
  walk_at "gg_Bu2"
  refine go_ixC (d := eR r0) ha.r (by rw [hr]; exact at0) ?_
  walk_at "gg_Bu2"
  rw [zip_V]
  refine lc_mapT (fun p : Int × Int => D.tup [.int p.1, .int p.2]) (fun p => D.int (p.1 - p.2)) _ (by rw [List.length_zip]; omega) (fun p hp => ⟨_, rfl, ?_⟩) ?_
  · walk_at "gg_Bu2"
    exact ⟨rfl, rfl⟩
  rw [sub_V]
  walk_at "gg_Bu2"
  refine gd_mforC (go_fldH ha rfl rfl ?_)
  refine ⟨lb, h.lines.map eLn, cel_of ha.l, ?_⟩
  have hx0 : x.length = r0.length := by rw [hx, hi.rl r0 (by rw [hr]; exact List.mem_cons_self)]
  refine gd_forCl (fun r σ w' => w' = w ∧ ∃ (L : List Line) (y : List Int) (by' : Nat) (es' : List Nat) (o3 o4 o5 o6 o7 o8 o9 : Option D), r = L.map eLn ∧ σ = [some (.obj b), some (eR x), some (.lst (eV y)), o3, o4, o5, o6, o7, o8, o9] ∧ red short y L = left short r0 h.lines x ∧ y.length = n ∧ Bd by' y ∧ LBd es' L ∧ bits by' es' < 9000 ∧ (∀ l ∈ L, l.2.length = n) ∧ Tri L)
    (fun _ _ _ hh => by rw [hh.1]; exact ha.l) ?_ ?_ _ _ _ ⟨rfl, h.lines, Bh.sub x r0, bx, es, _, _, _, _, _, _, _, rfl, rfl, rfl, by rw [Bh.sub_len hx0, hx], hb, hl, h9, hi.ll, hi.tri⟩
  · rintro d r σ w' ⟨rfl, L, y, by', es', o3, o4, o5, o6, o7, o8, o9, e, rfl, h1, h2, h3, h4, h5, h6, h7⟩
    match L, es', e, h1, h4, h5, h6, h7 with
    | [], _, e, _, _, _, _, _ => cases e
    | _ :: _, [], _, _, h4, _, _, _ => exact h4.elim
    | (a, m) :: L, e' :: es', e, h1, ⟨h4, h4'⟩, h5, h6, ⟨h7, h7a, h7'⟩ =>
      obtain ⟨rfl, rfl⟩ := List.cons.inj e
      have hm : y.length = m.length := by rw [h2]; exact (h6 _ List.mem_cons_self).symm
      have hat : a < m.length := g_lt h7
      have hbt : bits (by' + e' + 1) es' < 9000 := h5
      have hb0 := bits_zero es' (by' + e' + 1)
      have hb1 := bits_zero es' by'
      walk_at "gg_Bu2"
      refine go_ixL (atG (by omega)) ?_
      walk_at "gg_Bu2"
      by_cases hz : g y a = 0
      · refine br_y hz ?_
        walk_at "gg_Bu2"
        refine ⟨rfl, L, y, by', es', _, _, _, _, _, _, _, rfl, rfl, ?_, h2, h3, h4', by omega, fun l k => h6 l (List.mem_cons_of_mem _ k), h7'⟩
        rw [← h1, red, if_neg (by simpa using hz)]
      · refine br_n hz ?_
        walk_at "gg_Bu2"
        refine go_ixL (atG hat) ?_
        walk_at "gg_Bu2"
        refine go_ixL (atG (by omega)) ?_
        walk_at "gg_Bu2"
        rw [zip_V]
        refine lc_mapT (fun p : Int × Int => D.tup [.int p.1, .int p.2]) (fun p => D.int (p.1 * g m a - p.2 * g y a)) _ (by rw [List.length_zip]; omega) (fun p hp => ⟨_, rfl, ?_⟩) ?_
        · have hp' := List.of_mem_zip hp
          walk_at "gg_Bu2"
          refine go_mulW (b := by') (c := e') (bd_mem h3 hp'.1) (h4 a) (by omega) ?_
          walk_at "gg_Bu2"
          refine go_mulW (b := e') (c := by') (bd_mem h4 hp'.2) (h3 a) (by omega) ?_
          walk_at "gg_Bu2"
          exact ⟨rfl, rfl⟩
        rw [cross_V]
        walk_at "gg_Bu2"
        refine shortened_go (Bd.cross hm h3 h4) (by omega) (by rw [cross_len hm]; omega) ?_
        walk_at "gg_Bu2"
        refine ⟨rfl, L, short (cross y m a), by' + e' + 1, es', _, _, _, _, _, _, _, rfl, rfl, ?_, by rw [sh_short.len, cross_len hm, h2], (Bd.cross hm h3 h4).short, h4', hbt, fun l k => h6 l (List.mem_cons_of_mem _ k), h7'⟩
        rw [← h1, red, if_pos hz]
  · rintro σ w' ⟨rfl, L, y, by', es', o3, o4, o5, o6, o7, o8, o9, e, rfl, h1, h2, h3, h4, h5, h6⟩
    have : L = [] := by cases L with | nil => rfl | cons _ _ => cases e
    subst this
    walk_at "gg_Bu2"
    have h1 : y = left short r0 h.lines x := h1
    rw [h1]
    exact q
theorem law_left_go {rb lb : Nat} {h : Hl} {r0 x : List Int} {rs : List (List Int)} {bx : Nat} {es : List Nat} (har : w[rb]? = some (.lst (h.rows.map eR))) (hal : w[lb]? = some (.lst (h.lines.map eLn))) (hr : h.rows = r0 :: rs) (hi : Inv n h) (hx : x.length = n) (hn : n ≤ 1000) (hb : Bd bx (Bh.sub x r0)) (hl : LBd es h.lines) (h9 : bits bx es < 9000)
    (q : Q (.lst (eV (left id r0 h.lines x))) w) : Go X (F__law_left [.lst [.obj rb, .obj lb], eR x] w) Q := by
  refine go_fn rfl ?_
  unfold M__law_left
  walk_at "gg_Bu2"
  refine go_ixC (d := eR r0) har (by rw [hr]; exact at0) ?_
  walk_at "gg_Bu2"
  rw [zip_V]
  refine lc_mapT (fun p : Int × Int => D.tup [.int p.1, .int p.2]) (fun p => D.int (p.1 - p.2)) _ (by rw [List.length_zip]; omega) (fun p hp => ⟨_, rfl, ?_⟩) ?_
  · walk_at "gg_Bu2"
    exact ⟨rfl, rfl⟩
  rw [sub_V]
  walk_at "gg_Bu2"
  refine gd_mforC ?_
  walk_at "gg_Bu2"
  refine ⟨lb, h.lines.map eLn, cel_of hal, ?_⟩
  have hx0 : x.length = r0.length := by rw [hx, hi.rl r0 (by rw [hr]; exact List.mem_cons_self)]
  refine gd_forCl (fun r σ w' => w' = w ∧ ∃ (L : List Line) (y : List Int) (by' : Nat) (es' : List Nat) (o3 o4 o5 o6 o7 o8 o9 : Option D), r = L.map eLn ∧ σ = [some (.lst [.obj rb, .obj lb]), some (eR x), some (.lst (eV y)), o3, o4, o5, o6, o7, o8, o9] ∧ red id y L = left id r0 h.lines x ∧ y.length = n ∧ Bd by' y ∧ LBd es' L ∧ bits by' es' < 9000 ∧ (∀ l ∈ L, l.2.length = n) ∧ Tri L)
    (fun _ _ _ hh => by rw [hh.1]; exact hal) ?_ ?_ _ _ _ ⟨rfl, h.lines, Bh.sub x r0, bx, es, _, _, _, _, _, _, _, rfl, rfl, rfl, by rw [Bh.sub_len hx0, hx], hb, hl, h9, hi.ll, hi.tri⟩
  · rintro d r σ w' ⟨rfl, L, y, by', es', o3, o4, o5, o6, o7, o8, o9, e, rfl, h1, h2, h3, h4, h5, h6, h7⟩
    match L, es', e, h1, h4, h5, h6, h7 with
    | [], _, e, _, _, _, _, _ => cases e
    | _ :: _, [], _, _, h4, _, _, _ => exact h4.elim
    | (a, m) :: L, e' :: es', e, h1, ⟨h4, h4'⟩, h5, h6, ⟨h7, h7a, h7'⟩ =>
      obtain ⟨rfl, rfl⟩ := List.cons.inj e
      have hm : y.length = m.length := by rw [h2]; exact (h6 _ List.mem_cons_self).symm
      have hat : a < m.length := g_lt h7
      have hbt : bits (by' + e' + 1) es' < 9000 := h5
      have hb0 := bits_zero es' (by' + e' + 1)
      have hb1 := bits_zero es' by'
      walk_at "gg_Bu2"
      refine go_ixL (atG (by omega)) ?_
      walk_at "gg_Bu2"
      by_cases hz : g y a = 0
      · refine br_y hz ?_
        walk_at "gg_Bu2"
        refine ⟨rfl, L, y, by', es', _, _, _, _, _, _, _, rfl, rfl, ?_, h2, h3, h4', by omega, fun l k => h6 l (List.mem_cons_of_mem _ k), h7'⟩
        rw [← h1, red, if_neg (by simpa using hz)]
      · refine br_n hz ?_
        walk_at "gg_Bu2"
        refine go_ixL (atG hat) ?_
        walk_at "gg_Bu2"
        refine go_ixL (atG (by omega)) ?_
        walk_at "gg_Bu2"
        rw [zip_V]
        refine lc_mapT (fun p : Int × Int => D.tup [.int p.1, .int p.2]) (fun p => D.int (p.1 * g m a - p.2 * g y a)) _ (by rw [List.length_zip]; omega) (fun p hp => ⟨_, rfl, ?_⟩) ?_
        · have hp' := List.of_mem_zip hp
          walk_at "gg_Bu2"
          refine go_mulW (b := by') (c := e') (bd_mem h3 hp'.1) (h4 a) (by omega) ?_
          walk_at "gg_Bu2"
          refine go_mulW (b := e') (c := by') (bd_mem h4 hp'.2) (h3 a) (by omega) ?_
          walk_at "gg_Bu2"
          exact ⟨rfl, rfl⟩
        rw [cross_V]
        walk_at "gg_Bu2"
        refine ⟨rfl, L, cross y m a, by' + e' + 1, es', _, _, _, _, _, _, _, rfl, rfl, ?_, by rw [cross_len hm, h2], Bd.cross hm h3 h4, h4', hbt, fun l k => h6 l (List.mem_cons_of_mem _ k), h7'⟩
        rw [← h1, red, if_pos hz]
        rfl
  · rintro σ w' ⟨rfl, L, y, by', es', o3, o4, o5, o6, o7, o8, o9, e, rfl, h1, h2, h3, h4, h5, h6⟩
    have : L = [] := by cases L with | nil => rfl | cons _ _ => cases e
    subst this
    walk_at "gg_Bu2"
    have h1 : y = left id r0 h.lines x := h1
    rw [h1]
    exact q
end
end Bk

set_option Elab.async false
set_option linter.all false
set_option autoImplicit false
set_option maxRecDepth 100000
set_option maxHeartbeats 4000000
/-! Bu3: walks of hulls: take, in, len, the law's own lots. -/
namespace Bk
open PySem L2 L2H LamX PyProof.Rows Si Bh
/-- the slots written out -/
local macro_rules | `(tactic| walk_at "nm_Bu3") => `(tactic| (simp only [startD, wipeD, List.foldl_cons, List.foldl_nil, List.set_cons_succ, List.set_cons_zero, List.map_cons, List.map_nil, List.length_cons, List.length_nil, Nat.reduceAdd, Nat.reduceSub, List.replicate_succ, List.replicate_zero, List.cons_append, List.nil_append]; rfl))
/-- one step by the form of the code -/
local macro_rules | `(tactic| walk_at "g1_Bu3") => `(tactic| with_reducible first
  | (refine go_idD ?_; first
    | refine go_env (σ := List.set _ _ _) (by walk_at "nm_Bu3") ?_ | refine go_var rfl ?_ | refine go_c ?_ | refine go_op ?_ | refine go_call ?_ | refine go_eqS ?_ | refine go_eqI ?_ | refine go_tup ?_ | refine go_lst ?_ | refine go_addI ?_ | refine go_isi ?_ | refine go_and ?_ | refine go_lt ?_ | refine go_le ?_ | refine go_gt ?_ | refine go_ge ?_ | refine go_ixT rfl ?_ | refine go_ixL rfl ?_
    | refine go_lc ?_ | refine go_if ?_ | refine go_not ?_ | refine go_or ?_ | refine go_chain ?_ | refine go_callK ?_ | refine go_lstM ?_ | refine go_neg ?_ | refine go_sl ?_ | refine go_isi2 ?_ | refine go_join ?_ | refine go_app ?_ | refine go_lenSet ?_ | refine go_lcM ?_
    | refine go_subI ?_ | refine go_neI ?_ | refine go_neS ?_ | refine go_lenL ?_ | refine go_lenT ?_ | refine go_lenS (by assumption) ?_
    | refine go_slL ?_ | refine go_slT ?_ | refine go_slS (by assumption) ?_ | refine go_intI ?_ | refine go_lstL ?_ | refine go_lstT ?_ | refine go_tupL ?_ | refine go_tupT ?_ | refine go_isN ?_ | refine go_notN ?_ | refine go_allM ?_ | refine go_max2 ?_ | refine go_min2 ?_)
  | (refine go_idL ?_; first | refine go_cons ?_ | refine go_nil ?_ | refine go_iter ?_ | refine go_rng1 ?_ | refine go_zipG ?_ | refine go_enum ?_ | refine go_star ?_ | refine go_rng2 ?_)
  | (refine gd_id ?_; first | refine gd_env (σ := List.set _ _ _) (by walk_at "nm_Bu3") ?_ | refine gd_env (σ := startD _ _) (by walk_at "nm_Bu3") ?_ | refine gd_seq ?_ | refine gd_nm ?_ | refine gd_asg ?_ | refine gd_ret ?_ | refine gd_if ?_ | refine gd_next ?_ | refine gd_expr ?_ | refine gd_par ?_ | refine gd_retN ?_ | refine gd_brk ?_ | refine gd_cnt ?_ | refine gd_for ?_)
  | (refine go_idB ?_; first | refine go_asB ?_ | refine go_tru ?_ | refine go_bAnd ?_ | refine go_bOr ?_ | refine go_bNot ?_ | refine go_bYes ?_)
  | (refine br_id ?_; first | refine br_t ?_ | refine br_f ?_ | refine br_not ?_)
  | (refine go_idO ?_; first | refine go_oNone ?_ | refine go_oSome ?_))
local macro_rules | `(tactic| walk_at "g2_Bu3") => `(tactic| first
  | with_reducible refine ex_bl ?_ | with_reducible refine ex_int ?_ | with_reducible refine ex_str ?_ | with_reducible refine ex_nm ?_
  | with_reducible refine ex_zipL ?_ | with_reducible refine ex_zipT ?_ | with_reducible refine ex_enum ?_
  | with_reducible refine ex_seq (by with_unfolding_all exact rfl) ?_
  | with_reducible refine ex_tg (by with_unfolding_all exact rfl) ?_
  | with_reducible refine ex_tru (by with_unfolding_all exact rfl) ?_
  | with_reducible refine ex_ty (by with_unfolding_all exact rfl) ?_
  | with_reducible refine ex_it (by with_unfolding_all exact rfl) ?_
  | ((with_reducible refine br_id ?_); first
    | with_reducible refine br_is (b := Si.isNon _) (by with_unfolding_all rfl) ?_ | with_reducible refine br_isnt (b := Si.isNon _) (by with_unfolding_all rfl) ?_
    | with_reducible refine br_is (b := isB _ _) (by with_unfolding_all decide) ?_ | with_reducible refine br_isnt (b := isB _ _) (by with_unfolding_all decide) ?_
    | with_reducible refine br_is (b := isB _ _ || isB _ _) (by with_unfolding_all decide) ?_ | with_reducible refine br_isnt (b := isB _ _ || isB _ _) (by with_unfolding_all decide) ?_
    | with_reducible refine br_y (by decide +kernel) ?_ | with_reducible refine br_n (by decide +kernel) ?_ | with_reducible refine br_y (by with_unfolding_all rfl) ?_ | with_reducible refine br_n (by simp only [List.length_cons, List.length_nil]; omega) ?_)
  | ((with_reducible refine go_idD ?_); first
    | with_reducible refine go_mulL ⟨by decide, by decide⟩ ?_ | with_reducible refine go_mulR ⟨by decide, by decide⟩ ?_ | with_reducible refine go_mod (by decide) ?_ | with_reducible refine go_div (by decide) (by decide) ?_
    | with_reducible refine go_inTt (by decide +kernel) (by decide +kernel) ?_ | with_reducible refine go_inTf (by decide +kernel) (by decide +kernel) ?_ | with_reducible refine go_niTt (by decide +kernel) (by decide +kernel) ?_ | with_reducible refine go_niTf (by decide +kernel) (by decide +kernel) ?_)
  | (with_reducible refine an_le ?hh ?_; case hh => (first | decide | (simp only [List.length_cons, List.length_nil]; omega)))
  | (with_reducible refine an_rng ?hh ?_; case hh => (first | omega | decide))
  | (with_reducible refine an_rng2 ?hh ?_; case hh => (first | omega | decide))
  | fail)
local macro_rules | `(tactic| walk_at "gg_Bu3") => `(tactic| repeat' (first | walk_at "g1_Bu3" | walk_at "g2_Bu3"))

section
variable {X : EX} {Q : D → Wd → Prop} {N B C : En → Wd → Prop} {T : D → Wd → Prop} {w w0 : Wd} {n m b rb lb bb : Nat} {σ : En} {h : Hl} {x r0 : List Int} {rs : List (List Int)}
theorem is_ints_go {r : List Int} {k : Nat} (h : r.length = k) (hk : k ≤ 1000) (q : Q (.bl true) w) : Go X (F_is_integers [eR r, .int (k : Nat)] w) Q := by
  refine go_fn rfl ?_
  unfold M_is_integers
  walk_at "gg_Bu3"
  refine br_y (by rw [List.length_map, h]) ?_
  walk_at "gg_Bu3"
  refine lc_mapT D.int (fun _ => D.bl true) r (by omega) (fun i hi => ⟨_, rfl, ?_⟩) ?_
  · walk_at "gg_Bu3"
    exact ⟨rfl, rfl⟩
  walk_at "gg_Bu3"
  rw [show (r.map fun _ => D.bl true) = (r.map D.int).map fun _ => D.bl true by rw [List.map_map]; rfl]
  walk_at "gg_Bu3"
  exact q
theorem ne_dec (i : Int) : (!decide (i = 0)) = (i != 0) := by by_cases h : i = 0 <;> simp [h]
theorem tm_rows {k : Nat} (rows : List (List Int)) : tame (k + 2) (.lst (rows.map eR)) = true := tame_lst fun d hd => by
  obtain ⟨r, _, rfl⟩ := List.mem_map.mp hd
  exact tame_tup fun y hy => by
    obtain ⟨i, _, rfl⟩ := List.mem_map.mp hy
    exact tm_int
theorem tm_ints {k : Nat} (l : List Int) : tame (k + 1) (.lst (eV l)) = true := tame_lst fun d hd => by
  obtain ⟨r, _, rfl⟩ := List.mem_map.mp hd
  exact tm_int
theorem enum_V : ∀ (l : List Int) (k : Nat), enumD k (eV l) = (List.range l.length).map fun i => D.tup [.int ((k + i : Nat) : Int), .int (g l i)]
  | [], _ => rfl
  | y :: r, k => by
    show D.tup [.int (k : Nat), .int y] :: enumD (k + 1) (eV r) = _
    rw [enum_V r (k + 1), List.length_cons, List.range_succ_eq_map, List.map_cons, List.map_map]
    refine List.cons_eq_cons.mpr ⟨rfl, List.map_congr_left fun i _ => ?_⟩
    show D.tup [.int ((k + 1 + i : Nat) : Int), .int (g r i)] = D.tup [.int ((k + (i + 1) : Nat) : Int), .int (g (y :: r) (i + 1))]
    rw [show k + 1 + i = k + (i + 1) by omega]
    simp [g]
/-- the places that are not zero -/
def places (l : List Int) : List Nat := (List.range l.length).filter fun i => g l i != 0
theorem places_head (l : List Int) : (places l).head? = spot l := find_head _
theorem places_none {l : List Int} (h : spot l = none) : places l = [] := by
  have := places_head l
  rw [h] at this
  exact List.head?_eq_none_iff.mp this
theorem places_some {l : List Int} {a : Nat} (h : spot l = some a) : ∃ r, places l = a :: r := by
  have := places_head l
  rw [h] at this
  cases e : places l with
  | nil => rw [e] at this; cases this
  | cons c r =>
    rw [e] at this
    cases this
    exact ⟨r, rfl⟩
structure Inv2 (n b : Nat) (h : Hl) : Prop where
  i : Inv n h
  hb : HB b h
  n9 : n ≤ 1000
  h9 : 2 ^ n * (b + 2) + b < 8000
theorem Inv2.es (i2 : Inv2 n bb h) {bx : Nat} (hx : bx ≤ bb + 900) : ∃ es, LBd es h.lines ∧ bits bx es < 9000 := by
  obtain ⟨es, h1, h2⟩ := i2.hb.bits i2.i
  have := i2.h9
  have := bits_zero es bx
  exact ⟨es, h1, by omega⟩
theorem Inv2.subb (i2 : Inv2 n bb h) (hr : h.rows = r0 :: rs) (hx : x.length = n) {bx : Nat} (hbx : bb ≤ bx) (bx' : Bd bx x) : Bd (bx + 1) (Bh.sub x r0) := by
  have hm : r0 ∈ h.rows := by rw [hr]; exact List.mem_cons_self
  exact Bd.sub (by rw [hx, i2.i.rl _ hm]) bx' ((i2.hb.r _ hm).mono hbx)
theorem take_go (ha : HlC b rb lb w n h) (i2 : Inv2 n bb h) (hx : x.length = n) (bx : Bd bb x)
    (q : ∀ r w1, (r = false ↔ h.rows ≠ [] ∧ Cov h x) → HlC b rb lb w1 n (take short h x) → w1.length = w.length → (∀ k, k ≠ rb → k ≠ lb → w1[k]? = w[k]?) → Q (.bl r) w1) : Go X (F_Hull_take_R [.obj b, eR x] w) Q := by
  refine go_fn rfl ?_
  unfold M_Hull_take_R
  have hbr : b ≠ rb := fun e => by have h1 := ha.o; rw [e, ha.r] at h1; cases h1
  have hbl : b ≠ lb := fun e => by have h1 := ha.o; rw [e, ha.l] at h1; cases h1
  have h10 := i2.n9
  walk_at "gg_Bu3"
  refine go_fldH ha rfl rfl ?_
  walk_at "gg_Bu3"
  refine is_ints_go hx i2.n9 ?_
  walk_at "gg_Bu3"
  refine go_fldH ha rfl rfl ?_
  walk_at "gg_Bu3"
  refine go_neNil (k := 3) (by simp only [Si.dl, ha.r]) rfl (tm_rows h.rows) (by decide) ?_
  cases hr : h.rows with
  | nil =>
    refine ⟨_, rfl, br_f ?_⟩
    walk_at "gg_Bu3"
    refine go_fldH ha rfl rfl ?_
    refine ⟨by rw [cel_of ha.r]; rfl, ?_⟩
    walk_at "gg_Bu3"
    refine ⟨rb, _, cel_of ha.r, by rw [hr]; simp, ?_⟩
    walk_at "gg_Bu3"
    have e : take short h x = ⟨[x], h.lines⟩ := by unfold Bh.take; rw [hr]
    refine q true _ (by simp [hr]) ?_ (by simp) fun k k1 k2 => List.getElem?_set_ne (Ne.symm k1)
    rw [e]
    refine ⟨(List.getElem?_set_ne (Ne.symm hbr)).trans ha.o, ?_, (List.getElem?_set_ne ha.ne).trans ha.l, ha.ne⟩
    rw [List.getElem?_set_self (lt_of_get ha.r), hr]
    rfl
  | cons r0 rs =>
    obtain ⟨es, l1, l2⟩ := i2.es (bx := bb + 1) (by omega)
    have hsb := i2.subb hr hx (Nat.le_refl _) bx
    have hx0 : x.length = r0.length := by rw [hx, i2.i.rl r0 (by rw [hr]; exact List.mem_cons_self)]
    have hll : (left short r0 h.lines x).length = n := by
      unfold left
      rw [(red_spec sh_short i2.i.tri (fun k hk => by rw [i2.i.ll k hk, Bh.sub_len hx0, hx])).1, Bh.sub_len hx0, hx]
    refine ⟨_, rfl, br_t ?_⟩
    walk_at "gg_Bu3"
    refine go_meth (go_var rfl ⟨b, _, rfl, ha.o, rfl, ?_⟩)
    walk_at "gg_Bu3"
    refine left_go ha hr i2.i hx i2.n9 hsb l1 l2 ?_
    walk_at "gg_Bu3"
    refine go_enumS (xs := eV (left short r0 h.lines x)) ?_
    walk_at "gg_Bu3"
    refine ⟨_, rfl, rfl, ?_⟩
    rw [enum_V]
    refine lc_filterT (fun i => D.tup [.int ((0 + i : Nat) : Int), .int (g (left short r0 h.lines x) i)]) (fun i => g (left short r0 h.lines x) i != 0) (fun i => D.int ((i : Nat) : Int)) _ (by rw [List.length_range, hll]; omega) (fun i hi => ⟨_, rfl, ?_⟩) ?_
    · walk_at "gg_Bu3"
      refine ⟨?_, rfl, fun _ => ?_⟩
      · exact ne_dec _
      · walk_at "gg_Bu3"
        exact ⟨by rw [Nat.zero_add], rfl⟩
    have hpl : (List.filter (fun i => g (left short r0 h.lines x) i != 0) (List.range (left short r0 h.lines x).length)) = places (left short r0 h.lines x) := rfl
    rw [hpl]
    walk_at "gg_Bu3"
    have htm : ∀ l : List Nat, tame 2 (.lst (l.map fun i => D.int ((i : Nat) : Int))) = true := fun l => tame_lst fun d hd => by
      obtain ⟨r, _, rfl⟩ := List.mem_map.mp hd
      exact tm_int
    refine go_eqNil (k := 2) rfl rfl (htm _) (by decide) ?_
    cases hp : spot (left short r0 h.lines x) with
    | none =>
      rw [places_none hp]
      walk_at "gg_Bu3"
      have e : take short h x = h := by unfold Bh.take; rw [hr]; dsimp only; rw [hp]
      refine q false w (by simp [hr]; exact (cov_iff sh_short i2.i hr hx).mp hp) (by rw [e]; exact ha) rfl fun k _ _ => rfl
    | some a =>
      obtain ⟨pr, hpr⟩ := places_some hp
      rw [hpr]
      refine ⟨_, rfl, br_f ?_⟩
      walk_at "gg_Bu3"
      refine go_fldH ha rfl rfl ?_
      refine ⟨by rw [cel_of ha.l]; rfl, ?_⟩
      have h3 := tri_len i2.i.tri i2.i.ll
      have hlr : h.rows.length < 16777216 := by have := i2.hb.c; omega
      walk_at "gg_Bu3"
      refine go_ixL at0 ?_
      walk_at "gg_Bu3"
      refine ⟨lb, _, cel_of ha.l, by rw [List.length_map]; omega, ?_⟩
      walk_at "gg_Bu3"
      have ha2 : HlC b rb lb (w.set lb (.lst (h.lines.map eLn ++ [D.tup [.int (a : Nat), .lst (eV (left short r0 h.lines x))]]))) n ⟨h.rows, h.lines ++ [(a, left short r0 h.lines x)]⟩ := by
        refine ⟨(List.getElem?_set_ne (Ne.symm hbl)).trans ha.o, (List.getElem?_set_ne (Ne.symm ha.ne)).trans ha.r, ?_, ha.ne⟩
        rw [List.getElem?_set_self (lt_of_get ha.l)]
        simp
      refine go_fldH ha2 rfl rfl ?_
      refine ⟨by rw [cel_of ha2.r]; rfl, ?_⟩
      walk_at "gg_Bu3"
      refine ⟨rb, _, cel_of ha2.r, by rw [List.length_map]; exact hlr, ?_⟩
      walk_at "gg_Bu3"
      have e : take short h x = ⟨h.rows ++ [x], h.lines ++ [(a, left short r0 h.lines x)]⟩ := by unfold Bh.take; rw [hr]; dsimp only; rw [hp]
      refine q true _ ⟨fun e => (by cases e), fun hc => ?_⟩ ?_ (by simp) fun k k1 k2 => (List.getElem?_set_ne (Ne.symm k1)).trans (List.getElem?_set_ne (Ne.symm k2))
      · have := (cov_iff sh_short i2.i hr hx).mpr hc.2
        rw [hp] at this
        cases this
      · rw [e]
        refine ⟨(List.getElem?_set_ne (Ne.symm hbr)).trans ha2.o, ?_, (List.getElem?_set_ne ha.ne).trans ha2.l, ha.ne⟩
        rw [List.getElem?_set_self (lt_of_get ha2.r)]
        simp
theorem go_anyI (l : List Int) (q : Q (.bl (l.any fun i => i != 0)) w) : Go X (gAny [.lst (l.map fun i => D.bl (!decide (i = 0)))] w) Q := by
  refine go_ok (a := D.bl (l.any fun i => i != 0)) (w' := w) ?_ q
  have e : ∀ l : List Int, blA (l.map fun i => D.bl (!decide (i = 0))) = some (l.map fun i => !decide (i = 0)) := by
    intro l
    induction l with
    | nil => rfl
    | cons y r ih => rw [List.map_cons, blA, ih]; rfl
  simp only [gAny, der_lst, Option.bind, e]
  rw [List.any_map]
  congr 2
theorem any_left {l : List Int} : (l.any fun i => i != 0) = (spot l).isSome := by
  cases h : spot l with
  | none =>
    rw [spot_none] at h
    rw [Option.isSome_none, List.any_eq_false]
    intro y hy
    obtain ⟨i, hi, rfl⟩ := List.mem_iff_getElem.mp hy
    have := h i
    rw [show g l i = l[i] by simp [g, List.getD_eq_getElem?_getD, List.getElem?_eq_getElem hi]] at this
    simp [this]
  | some a =>
    obtain ⟨h1, h2⟩ := spot_some h
    rw [Option.isSome_some, List.any_eq_true]
    refine ⟨l[a], List.getElem_mem h1, ?_⟩
    rw [show g l a = l[a] by simp [g, List.getD_eq_getElem?_getD, List.getElem?_eq_getElem h1]] at h2
    simpa using h2
theorem len_left {sh : List Int → List Int} (hs : Sh sh) (hi : Inv n h) (hr : h.rows = r0 :: rs) (hx : x.length = n) : (left sh r0 h.lines x).length = n := by
  have hx0 : x.length = r0.length := by rw [hx, hi.rl r0 (by rw [hr]; exact List.mem_cons_self)]
  unfold left
  rw [(red_spec hs hi.tri (fun k hk => by rw [hi.ll k hk, Bh.sub_len hx0, hx])).1, Bh.sub_len hx0, hx]
theorem cov_nil (hr : h.rows = []) : ¬ Cov h x := fun ⟨_, _, e, _⟩ => by rw [hr] at e; cases e
theorem contains_go {bx : Nat} (ha : HlC b rb lb w n h) (i2 : Inv2 n bb h) (hx : x.length = n) (hbx : bb ≤ bx) (hbx2 : bx ≤ bb + 800) (bx' : Bd bx x)
    (q : ∀ r, (r = true ↔ Cov h x) → Q (.bl r) w) : Go X (F_Hull___contains__ [.obj b, eR x] w) Q := by
  refine go_fn rfl ?_
  unfold M_Hull___contains__
  have h10 := i2.n9
  walk_at "gg_Bu3"
  refine go_fldH ha rfl rfl ?_
  walk_at "gg_Bu3"
  refine is_ints_go hx i2.n9 ?_
  walk_at "gg_Bu3"
  refine go_fldH ha rfl rfl ?_
  walk_at "gg_Bu3"
  refine go_eqNil (k := 3) (by simp only [Si.dl, ha.r]) rfl (tm_rows h.rows) (by decide) ?_
  cases hr : h.rows with
  | nil =>
    refine ⟨_, rfl, br_t ?_⟩
    walk_at "gg_Bu3"
    exact q false ⟨fun e => (by cases e), fun e => absurd e (cov_nil hr)⟩
  | cons r0 rs =>
    obtain ⟨es, l1, l2⟩ := i2.es (bx := bx + 1) (by omega)
    have hsb := i2.subb hr hx hbx bx'
    have hll := len_left sh_short i2.i hr hx
    refine ⟨_, rfl, br_f ?_⟩
    walk_at "gg_Bu3"
    refine go_meth (go_var rfl ⟨b, _, rfl, ha.o, rfl, ?_⟩)
    walk_at "gg_Bu3"
    refine left_go ha hr i2.i hx i2.n9 hsb l1 l2 ?_
    walk_at "gg_Bu3"
    refine lc_mapT D.int (fun i => D.bl (!decide (i = 0))) _ (by rw [hll]; omega) (fun i hi => ⟨_, rfl, ?_⟩) ?_
    · walk_at "gg_Bu3"
      exact ⟨rfl, rfl⟩
    walk_at "gg_Bu3"
    refine go_anyI _ ?_
    rw [any_left]
    walk_at "gg_Bu3"
    refine q _ ?_
    rw [← cov_iff sh_short i2.i hr hx]
    cases spot (left short r0 h.lines x) <;> simp
theorem go_ownIn {r : Bool} {c : Str} {G : List D → Wd → R D} {u v : D} {fs : List (Str × D)} (hu : insL v w = some (n, c, fs)) (he : G [v, u] w = .ok (.bl r) w) (q : Q (.bl r) w) : Go X (gOwnIn c G u v w) Q := by
  unfold gOwnIn
  rw [hu]
  dsimp only
  rw [if_pos rfl, he]
  exact q
theorem in_go {bx : Nat} (ha : HlC b rb lb w n h) (i2 : Inv2 n bb h) (hx : x.length = n) (hbx : bb ≤ bx) (hbx2 : bx ≤ bb + 800) (bx' : Bd bx x)
    (q : ∀ r, (r = true ↔ Cov h x) → Q (.bl r) w) : Go X (gOwnIn "Hull" F_Hull___contains__ (eR x) (.obj b) w) Q := by
  obtain ⟨d, w', e, ⟨r, hr, rfl, rfl⟩⟩ := go_get (contains_go ha i2 hx hbx hbx2 bx' (Q := fun d w' => ∃ r, (r = true ↔ Cov h x) ∧ d = .bl r ∧ w' = w) fun r hr => ⟨r, hr, rfl, rfl⟩)
  exact go_ownIn (insL_of ha.o) e (q r hr)
/-- the law's own lot -/
structure LtC (rb lb : Nat) (w : Wd) (n : Nat) (h : Hl) : Prop where
  r : w[rb]? = some (.lst (h.rows.map eR))
  l : w[lb]? = some (.lst (h.lines.map eLn))
  ne : rb ≠ lb
theorem covers_go {bx : Nat} (ha : LtC rb lb w n h) (hne : h.rows ≠ []) (i2 : Inv2 n bb h) (hx : x.length = n) (hbx : bb ≤ bx) (hbx2 : bx ≤ bb + 800) (bx' : Bd bx x)
    (q : ∀ r, (r = true ↔ Cov h x) → Q (.bl r) w) : Go X (F__law_covers [.lst [.obj rb, .obj lb], eR x, .str "sum"] w) Q := by
  refine go_fn rfl ?_
  unfold M__law_covers
  have h10 := i2.n9
  cases hr : h.rows with
  | nil => exact absurd hr hne
  | cons r0 rs =>
    obtain ⟨es, l1, l2⟩ := i2.es (bx := bx + 1) (by omega)
    have hsb := i2.subb hr hx hbx bx'
    have hll := len_left sh_id i2.i hr hx
    walk_at "gg_Bu3"
    refine go_eqNil (k := 3) (by simp only [Si.dl, ha.r]) rfl (tm_rows h.rows) (by decide) ?_
    rw [hr]
    refine ⟨_, rfl, br_f ?_⟩
    walk_at "gg_Bu3"
    refine law_left_go ha.r ha.l hr i2.i hx i2.n9 hsb l1 l2 ?_
    walk_at "gg_Bu3"
    refine lc_filterT D.int (fun i => i != 0) D.int _ (by rw [hll]; omega) (fun i hi => ⟨_, rfl, ?_⟩) ?_
    · walk_at "gg_Bu3"
      refine ⟨?_, rfl, fun _ => ?_⟩
      · exact ne_dec _
      · walk_at "gg_Bu3"
        exact ⟨rfl, rfl⟩
    walk_at "gg_Bu3"
    refine go_eqNil (k := 2) rfl rfl (tm_ints _) (by decide) ?_
    refine q _ ?_
    rw [← cov_iff sh_id i2.i hr hx]
    have e2 := any_left (l := left id r0 h.lines x)
    rw [List.isEmpty_iff, List.map_eq_nil_iff, List.filter_eq_nil_iff]
    constructor
    · intro z
      cases e : spot (left id r0 h.lines x) with
      | none => rfl
      | some a =>
        rw [e, Option.isSome_some, List.any_eq_true] at e2
        obtain ⟨y, hy, hy2⟩ := e2
        exact absurd hy2 (z y hy)
    · intro e y hy hy2
      rw [e, Option.isSome_none, List.any_eq_false] at e2
      exact e2 y hy hy2
theorem go_inNilC {x : List Int} {a : Nat} (h : w[a]? = some (.lst [])) (q : Q (.bl false) w) : Go X (gIn (eR x) (.obj a) w) Q := by
  refine go_ok (a := D.bl false) (w' := w) ?_ q
  have e : inD (eR x) (.lst []) = some false := by
    have h1 : okD (eR x) = true := okD_of (n := 1) (tame_tup fun y hy => by obtain ⟨i, _, rfl⟩ := List.mem_map.mp hy; exact tm_int) (by decide)
    unfold inD
    dsimp only
    split
    · rfl
    · rw [if_pos (by rw [h1]; decide)]; rfl
  unfold gIn
  rw [show Si.dl (eR x) w = eR x from rfl, show Si.dl (.obj a) w = .lst [] by simp only [Si.dl, h], e]
theorem keep_go (ha : LtC rb lb w n h) (i2 : Inv2 n bb h) (hx : x.length = n) (bx : Bd bb x)
    (q : ∀ r w1, LtC rb lb w1 n (take id h x) → w1.length = w.length → (∀ k, k ≠ rb → k ≠ lb → w1[k]? = w[k]?) → Q (.bl r) w1) : Go X (F__law_keep [.lst [.obj rb, .obj lb], eR x, .str "sum"] w) Q := by
  refine go_fn rfl ?_
  unfold M__law_keep
  have h10 := i2.n9
  cases hr : h.rows with
  | nil =>
    walk_at "gg_Bu3"
    refine go_fn rfl ?_
    unfold M__law_covers
    walk_at "gg_Bu3"
    refine go_eqNil (k := 3) (by simp only [Si.dl, ha.r]) rfl (tm_rows h.rows) (by decide) ?_
    rw [hr]
    refine ⟨_, rfl, br_t ?_⟩
    walk_at "gg_Bu3"
    refine go_inNilC (by rw [ha.r, hr]; rfl) ?_
    walk_at "gg_Bu3"
    refine go_neNil (k := 3) (by simp only [Si.dl, ha.r]) rfl (tm_rows h.rows) (by decide) ?_
    rw [hr]
    refine ⟨_, rfl, br_f ?_⟩
    walk_at "gg_Bu3"
    refine ⟨by rw [cel_of ha.r]; rfl, ?_⟩
    walk_at "gg_Bu3"
    refine ⟨rb, _, cel_of ha.r, by rw [hr]; simp, ?_⟩
    walk_at "gg_Bu3"
    have e : take id h x = ⟨[x], h.lines⟩ := by unfold Bh.take; rw [hr]
    refine q true _ ?_ (by simp) fun k k1 k2 => List.getElem?_set_ne (Ne.symm k1)
    rw [e]
    refine ⟨?_, (List.getElem?_set_ne ha.ne).trans ha.l, ha.ne⟩
    rw [List.getElem?_set_self (lt_of_get ha.r), hr]
    rfl
  | cons r0 rs =>
    obtain ⟨es, l1, l2⟩ := i2.es (bx := bb + 1) (by omega)
    have hsb := i2.subb hr hx (Nat.le_refl _) bx
    have hll := len_left sh_id i2.i hr hx
    walk_at "gg_Bu3"
    refine covers_go ha (by rw [hr]; simp) i2 hx (Nat.le_refl _) (by omega) bx fun r hcov => ?_
    rw [← cov_iff sh_id i2.i hr hx] at hcov
    cases r with
    | true =>
      walk_at "gg_Bu3"
      have e : take id h x = h := by unfold Bh.take; rw [hr]; dsimp only; rw [hcov.mp rfl]
      exact q false w (by rw [e]; exact ha) rfl fun k _ _ => rfl
    | false =>
      walk_at "gg_Bu3"
      refine go_neNil (k := 3) (by simp only [Si.dl, ha.r]) rfl (tm_rows h.rows) (by decide) ?_
      rw [hr]
      refine ⟨_, rfl, br_t ?_⟩
      walk_at "gg_Bu3"
      refine law_left_go ha.r ha.l hr i2.i hx i2.n9 hsb l1 l2 ?_
      walk_at "gg_Bu3"
      refine ⟨by rw [List.length_map, hll]; omega, ?_⟩
      rw [List.length_map, Int.toNat_natCast, rangeD0]
      refine lc_filterT (fun i : Nat => D.int i) (fun i => g (left id r0 h.lines x) i != 0) (fun i => D.int ((i : Nat) : Int)) _ (by rw [List.length_range, hll]; omega) (fun i hi => ⟨_, rfl, ?_⟩) ?_
      · walk_at "gg_Bu3"
        refine go_ixL (atG (List.mem_range.mp hi)) ?_
        walk_at "gg_Bu3"
        refine ⟨?_, rfl, fun _ => ?_⟩
        · exact ne_dec _
        · walk_at "gg_Bu3"
          exact ⟨rfl, rfl⟩
      have hpl : (List.filter (fun i => g (left id r0 h.lines x) i != 0) (List.range (left id r0 h.lines x).length)) = places (left id r0 h.lines x) := rfl
      rw [hpl]
      cases hp : spot (left id r0 h.lines x) with
      | none => exact absurd (hcov.mpr hp) (by simp)
      | some a =>
        obtain ⟨pr, hpr⟩ := places_some hp
        rw [hpr]
        walk_at "gg_Bu3"
        refine ⟨by rw [cel_of ha.l]; rfl, ?_⟩
        have h3 := tri_len i2.i.tri i2.i.ll
        have hlr : h.rows.length < 16777216 := by have := i2.hb.c; omega
        walk_at "gg_Bu3"
        refine go_ixL at0 ?_
        walk_at "gg_Bu3"
        refine ⟨lb, _, cel_of ha.l, by rw [List.length_map]; omega, ?_⟩
        walk_at "gg_Bu3"
        have ha2 : LtC rb lb (w.set lb (.lst (h.lines.map eLn ++ [D.tup [.int (a : Nat), .lst (eV (left id r0 h.lines x))]]))) n ⟨h.rows, h.lines ++ [(a, left id r0 h.lines x)]⟩ := by
          refine ⟨(List.getElem?_set_ne (Ne.symm ha.ne)).trans ha.r, ?_, ha.ne⟩
          rw [List.getElem?_set_self (lt_of_get ha.l)]
          simp
        refine ⟨by rw [cel_of ha2.r]; rfl, ?_⟩
        walk_at "gg_Bu3"
        refine ⟨rb, _, cel_of ha2.r, by rw [List.length_map]; exact hlr, ?_⟩
        walk_at "gg_Bu3"
        have e : take id h x = ⟨h.rows ++ [x], h.lines ++ [(a, left id r0 h.lines x)]⟩ := by unfold Bh.take; rw [hr]; dsimp only; rw [hp]
        refine q true _ ?_ (by simp) fun k k1 k2 => (List.getElem?_set_ne (Ne.symm k1)).trans (List.getElem?_set_ne (Ne.symm k2))
        rw [e]
        refine ⟨?_, (List.getElem?_set_ne ha.ne).trans ha2.l, ha.ne⟩
        rw [List.getElem?_set_self (lt_of_get ha2.r)]
        simp
theorem Inv2.take {sh : List Int → List Int} (hs : Sb sh) (i2 : Inv2 n bb h) (hx : x.length = n) (bx : Bd bb x) : Inv2 n bb (take sh h x) := ⟨i2.i.take hs.toSh hx, i2.hb.take hs i2.i hx bx, i2.n9, i2.h9⟩
theorem len_go (ha : HlC b rb lb w n h) (q : Q (.int h.rows.length) w) : Go X (F_Hull___len__ [.obj b] w) Q := by
  refine go_fn rfl ?_
  unfold M_Hull___len__
  walk_at "gg_Bu3"
  refine go_fldH ha rfl rfl ?_
  walk_at "gg_Bu3"
  refine go_lenC ha.r ?_
  rw [List.length_map]
  exact q
end
end Bk

set_option Elab.async false
set_option linter.all false
set_option autoImplicit false
set_option maxRecDepth 100000
set_option maxHeartbeats 4000000
/-! Bu4: new hulls, lots of rows, hulls under a drawing bag. -/
namespace Bk
open PySem L2 L2H LamX PyProof.Rows Si Bh
/-- the slots written out -/
local macro_rules | `(tactic| walk_at "nm_Bu4") => `(tactic| (simp only [startD, wipeD, List.foldl_cons, List.foldl_nil, List.set_cons_succ, List.set_cons_zero, List.map_cons, List.map_nil, List.length_cons, List.length_nil, Nat.reduceAdd, Nat.reduceSub, List.replicate_succ, List.replicate_zero, List.cons_append, List.nil_append]; rfl))
/-- one step by the form of the code -/
local macro_rules | `(tactic| walk_at "g1_Bu4") => `(tactic| with_reducible first
  | (refine go_idD ?_; first
    | refine go_env (σ := List.set _ _ _) (by walk_at "nm_Bu4") ?_ | refine go_var rfl ?_ | refine go_c ?_ | refine go_op ?_ | refine go_call ?_ | refine go_eqS ?_ | refine go_eqI ?_ | refine go_tup ?_ | refine go_lst ?_ | refine go_addI ?_ | refine go_isi ?_ | refine go_and ?_ | refine go_lt ?_ | refine go_le ?_ | refine go_gt ?_ | refine go_ge ?_ | refine go_ixT rfl ?_ | refine go_ixL rfl ?_
    | refine go_lc ?_ | refine go_if ?_ | refine go_not ?_ | refine go_or ?_ | refine go_chain ?_ | refine go_callK ?_ | refine go_lstM ?_ | refine go_neg ?_ | refine go_sl ?_ | refine go_isi2 ?_ | refine go_join ?_ | refine go_app ?_ | refine go_lenSet ?_ | refine go_lcM ?_
    | refine go_subI ?_ | refine go_neI ?_ | refine go_neS ?_ | refine go_lenL ?_ | refine go_lenT ?_ | refine go_lenS (by assumption) ?_
    | refine go_slL ?_ | refine go_slT ?_ | refine go_slS (by assumption) ?_ | refine go_intI ?_ | refine go_lstL ?_ | refine go_lstT ?_ | refine go_tupL ?_ | refine go_tupT ?_ | refine go_isN ?_ | refine go_notN ?_ | refine go_allM ?_ | refine go_max2 ?_ | refine go_min2 ?_)
  | (refine go_idL ?_; first | refine go_cons ?_ | refine go_nil ?_ | refine go_iter ?_ | refine go_rng1 ?_ | refine go_zipG ?_ | refine go_enum ?_ | refine go_star ?_ | refine go_rng2 ?_)
  | (refine gd_id ?_; first | refine gd_env (σ := List.set _ _ _) (by walk_at "nm_Bu4") ?_ | refine gd_env (σ := startD _ _) (by walk_at "nm_Bu4") ?_ | refine gd_seq ?_ | refine gd_nm ?_ | refine gd_asg ?_ | refine gd_ret ?_ | refine gd_if ?_ | refine gd_next ?_ | refine gd_expr ?_ | refine gd_par ?_ | refine gd_retN ?_ | refine gd_brk ?_ | refine gd_cnt ?_ | refine gd_for ?_)
  | (refine go_idB ?_; first | refine go_asB ?_ | refine go_tru ?_ | refine go_bAnd ?_ | refine go_bOr ?_ | refine go_bNot ?_ | refine go_bYes ?_)
  | (refine br_id ?_; first | refine br_t ?_ | refine br_f ?_ | refine br_not ?_)
  | (refine go_idO ?_; first | refine go_oNone ?_ | refine go_oSome ?_))
local macro_rules | `(tactic| walk_at "g2_Bu4") => `(tactic| first
  | with_reducible refine ex_bl ?_ | with_reducible refine ex_int ?_ | with_reducible refine ex_str ?_ | with_reducible refine ex_nm ?_
  | with_reducible refine ex_zipL ?_ | with_reducible refine ex_zipT ?_ | with_reducible refine ex_enum ?_
  | with_reducible refine ex_seq (by with_unfolding_all exact rfl) ?_
  | with_reducible refine ex_tg (by with_unfolding_all exact rfl) ?_
  | with_reducible refine ex_tru (by with_unfolding_all exact rfl) ?_
  | with_reducible refine ex_ty (by with_unfolding_all exact rfl) ?_
  | with_reducible refine ex_it (by with_unfolding_all exact rfl) ?_
  | ((with_reducible refine br_id ?_); first
    | with_reducible refine br_is (b := Si.isNon _) (by with_unfolding_all rfl) ?_ | with_reducible refine br_isnt (b := Si.isNon _) (by with_unfolding_all rfl) ?_
    | with_reducible refine br_is (b := isB _ _) (by with_unfolding_all decide) ?_ | with_reducible refine br_isnt (b := isB _ _) (by with_unfolding_all decide) ?_
    | with_reducible refine br_is (b := isB _ _ || isB _ _) (by with_unfolding_all decide) ?_ | with_reducible refine br_isnt (b := isB _ _ || isB _ _) (by with_unfolding_all decide) ?_
    | with_reducible refine br_y (by decide +kernel) ?_ | with_reducible refine br_n (by decide +kernel) ?_ | with_reducible refine br_y (by with_unfolding_all rfl) ?_ | with_reducible refine br_n (by simp only [List.length_cons, List.length_nil]; omega) ?_)
  | ((with_reducible refine go_idD ?_); first
    | with_reducible refine go_mulL ⟨by decide, by decide⟩ ?_ | with_reducible refine go_mulR ⟨by decide, by decide⟩ ?_ | with_reducible refine go_mod (by decide) ?_ | with_reducible refine go_div (by decide) (by decide) ?_
    | with_reducible refine go_inTt (by decide +kernel) (by decide +kernel) ?_ | with_reducible refine go_inTf (by decide +kernel) (by decide +kernel) ?_ | with_reducible refine go_niTt (by decide +kernel) (by decide +kernel) ?_ | with_reducible refine go_niTf (by decide +kernel) (by decide +kernel) ?_)
  | (with_reducible refine an_le ?hh ?_; case hh => (first | decide | (simp only [List.length_cons, List.length_nil]; omega)))
  | (with_reducible refine an_rng ?hh ?_; case hh => (first | omega | decide))
  | (with_reducible refine an_rng2 ?hh ?_; case hh => (first | omega | decide))
  | fail)
local macro_rules | `(tactic| walk_at "gg_Bu4") => `(tactic| repeat' (first | walk_at "g1_Bu4" | walk_at "g2_Bu4"))

section
variable {X : EX} {Q : D → Wd → Prop} {N B C : En → Wd → Prop} {T : D → Wd → Prop} {w w0 : Wd} {n m b rb lb bb : Nat} {σ : En} {h : Hl} {x r0 : List Int} {rs : List (List Int)}
theorem getA0 {w : Wd} {c : MO} {r : Wd} : (w ++ c :: r)[w.length]? = some c := by simp
theorem hull0_go (h1 : 1 ≤ n) (h2 : n ≤ 10) (q : ∀ w1, HlC w.length (w.length + 1) (w.length + 2) w1 n ⟨[], []⟩ → w1.length = w.length + 3 → (∀ k, k < w.length → w1[k]? = w[k]?) → Q .non w1) :
    Go X (F_Hull___init___R [.obj w.length, .int (n : Nat)] (w ++ [.ins "Hull" []])) Q := by
  refine go_fn rfl ?_
  unfold M_Hull___init___R
  walk_at "gg_Bu4"
  refine is_number_ok (by omega) (by omega) ?_
  walk_at "gg_Bu4"
  refine gd_setF ?_
  walk_at "gg_Bu4"
  refine ⟨w.length, _, _, rfl, getA0, List.mem_singleton.mpr rfl, by simp, ?_⟩
  rw [show (w ++ [MO.ins "Hull" []]).set w.length (MO.ins "Hull" (putD "own_size" (D.int n) [])) = w ++ [MO.ins "Hull" [("own_size", .int n)]] from by rw [List.set_append_right _ _ (Nat.le_refl _), Nat.sub_self]; rfl]
  walk_at "gg_Bu4"
  refine gd_setF ?_
  walk_at "gg_Bu4"
  refine go_lstM ?_
  walk_at "gg_Bu4"
  refine ⟨w.length, "Hull", [("own_size", .int n)], rfl, ?_, List.mem_singleton.mpr rfl, by simp, ?_⟩
  · rw [List.append_assoc]; exact getA0
  rw [show ((w ++ [MO.ins "Hull" [("own_size", D.int n)]]) ++ [MO.lst []]).set w.length (MO.ins "Hull" (putD "own_rows" (D.obj (w ++ [MO.ins "Hull" [("own_size", D.int n)]]).length) [("own_size", D.int n)])) = w ++ [MO.ins "Hull" [("own_size", .int n), ("own_rows", .obj (w.length + 1))], .lst []] from by
    rw [List.append_assoc, List.set_append_right _ _ (Nat.le_refl _), Nat.sub_self, List.length_append]; rfl]
  walk_at "gg_Bu4"
  refine gd_setF ?_
  walk_at "gg_Bu4"
  refine go_lstM ?_
  walk_at "gg_Bu4"
  refine ⟨w.length, "Hull", [("own_size", .int n), ("own_rows", .obj (w.length + 1))], rfl, ?_, List.mem_singleton.mpr rfl, by simp, ?_⟩
  · rw [List.append_assoc]; exact getA0
  rw [show ((w ++ [MO.ins "Hull" [("own_size", D.int n), ("own_rows", .obj (w.length + 1))], .lst []]) ++ [MO.lst []]).set w.length (MO.ins "Hull" (putD "own_lines" (D.obj (w ++ [MO.ins "Hull" [("own_size", D.int n), ("own_rows", .obj (w.length + 1))], .lst []]).length) [("own_size", D.int n), ("own_rows", .obj (w.length + 1))])) = w ++ [MO.ins "Hull" [("own_size", .int n), ("own_rows", .obj (w.length + 1)), ("own_lines", .obj (w.length + 2))], .lst [], .lst []] from by
    rw [List.append_assoc, List.set_append_right _ _ (Nat.le_refl _), Nat.sub_self, List.length_append]; rfl]
  refine q _ ⟨getA0, ?_, ?_, by omega⟩ (by simp) fun k hk => List.getElem?_append_left hk
  · rw [List.getElem?_append_right (by omega), show w.length + 1 - w.length = 1 by omega]; rfl
  · rw [List.getElem?_append_right (by omega), show w.length + 2 - w.length = 2 by omega]; rfl
theorem HlC.bg (ha : HlC b rb lb w n h) (hb : Bg m w w0) (h1 : m < b) (h2 : m < rb) (h3 : m < lb) : HlC b rb lb w0 n h := ⟨hb.get ha.o (by omega), hb.get ha.r (by omega), hb.get ha.l (by omega), ha.ne⟩
theorem LtC.bg (ha : LtC rb lb w n h) (hb : Bg m w w0) (h2 : m < rb) (h3 : m < lb) : LtC rb lb w0 n h := ⟨hb.get ha.r (by omega), hb.get ha.l (by omega), ha.ne⟩
theorem Inv2.start (h1 : n ≤ 1000) (h2 : 2 ^ n * (bb + 2) + bb < 8000) : Inv2 n bb ⟨[], []⟩ := ⟨Inv.start n, HB.start bb, h1, h2⟩
theorem lot_go {rows : List (List Int)} (hl : ∀ r ∈ rows, r.length = n) (hd : ∀ r ∈ rows, Bd bb r) (h1 : n ≤ 1000) (h2 : 2 ^ n * (bb + 2) + bb < 8000)
    (q : ∀ w1, LtC w.length (w.length + 1) w1 n (hull id rows) → w1.length = w.length + 2 → (∀ k, k < w.length → w1[k]? = w[k]?) → Q (.lst [.obj w.length, .obj (w.length + 1)]) w1) : Go X (F__law_lot [.lst (rows.map eR), .str "sum"] w) Q := by
  refine go_fn rfl ?_
  unfold M__law_lot
  walk_at "gg_Bu4"
  refine go_lstM ?_
  walk_at "gg_Bu4"
  refine go_lstM ?_
  walk_at "gg_Bu4"
  rw [show ((w ++ [MO.lst []]).length) = w.length + 1 by simp]
  refine gd_forL (fun r σ w' => ∃ (R : List (List Int)) (H : Hl) (o3 : Option D), r = R.map eR ∧ σ = [some (.lst (rows.map eR)), some (.str "sum"), some (.lst [.obj w.length, .obj (w.length + 1)]), o3] ∧ R.foldl (take id) H = hull id rows ∧ LtC w.length (w.length + 1) w' n H ∧ Inv2 n bb H ∧ (∀ r ∈ R, r.length = n) ∧ (∀ r ∈ R, Bd bb r) ∧ w'.length = w.length + 2 ∧ ∀ k, k < w.length → w'[k]? = w[k]?) ?_ ?_ _ _ _ ?_
  · rintro d r σ w' ⟨R, H, o3, e, rfl, e2, ha, i2, hl, hd, hw, hk⟩
    match R, e with
    | x :: R, e =>
      obtain ⟨rfl, rfl⟩ := List.cons.inj e
      have l0 := hl x List.mem_cons_self
      have d0 := hd x List.mem_cons_self
      walk_at "gg_Bu4"
      refine keep_go ha i2 l0 d0 fun r w1 ha1 hw1 hk1 => ?_
      exact ⟨R, _, _, rfl, rfl, e2, ha1, i2.take sb_id l0 d0, fun y q => hl y (List.mem_cons_of_mem _ q), fun y q => hd y (List.mem_cons_of_mem _ q), by rw [hw1, hw], fun k hk2 => (hk1 k (by omega) (by omega)).trans (hk k hk2)⟩
  · rintro σ w' ⟨R, H, o3, e, rfl, e2, ha, i2, hl, hd, hw, hk⟩
    have : R = [] := by cases R with | nil => rfl | cons _ _ => cases e
    subst this
    have e2 : H = hull id rows := e2
    subst e2
    walk_at "gg_Bu4"
    exact q _ ha hw hk
  · refine ⟨rows, ⟨[], []⟩, _, rfl, rfl, rfl, ⟨?_, ?_, by omega⟩, Inv2.start h1 h2, hl, hd, by simp, fun k hk => ?_⟩
    · rw [List.append_assoc]; exact getA0
    · rw [List.append_assoc, List.getElem?_append_right (by omega), show w.length + 1 - w.length = 1 by omega]; rfl
    · rw [List.append_assoc]; exact List.getElem?_append_left hk
theorem gd_weakN {N' : En → Wd → Prop} {r : SR} (h : Gd X N T B C r) (hn : ∀ σ w, N σ w → N' σ w) : Gd X N' T B C r := gd_weak h hn (fun _ _ h => h) (fun _ _ h => h) (fun _ _ h => h)
theorem go_allBl {l : List Bool} (q : Q (.bl (l.all id)) w) : Go X (gAll [.lst (l.map .bl)] w) Q := by
  refine go_ok (a := D.bl (l.all id)) (w' := w) ?_ q
  have e : ∀ l : List Bool, blA (l.map D.bl) = some l := by
    intro l
    induction l with
    | nil => rfl
    | cons y r ih => rw [List.map_cons, blA, ih]; rfl
  simp only [gAll, der_lst, Option.bind, e]
theorem go_sumI {l : List Int} (q : Q (.int (isum l)) w) : Go X (gSum [.lst (l.map .int)] w) Q := by
  refine go_ok (a := D.int (isum l)) (w' := w) ?_ q
  have e : ∀ l : List Int, inA (l.map D.int) = some l := by
    intro l
    induction l with
    | nil => rfl
    | cons y r ih => rw [List.map_cons, inA, ih]; rfl
  simp only [gSum, der_lst, Option.bind, e]
  rfl
theorem go_powC {i j k : Int} (e : gPow (.int i) (.int j) w = .ok (.int k) w) (q : Q (.int k) w) : Go X (gPow (.int i) (.int j) w) Q := go_ok e q
theorem bd_of {b : Nat} {l : List Int} (h : ∀ x ∈ l, x.natAbs ≤ 2 ^ b) : Bd b l := fun i => by
  rcases g_mem (l := l) (i := i) with e | e
  · rw [e]; exact Nat.zero_le _
  · exact h _ e
end
end Bk

set_option Elab.async false
set_option linter.all false
set_option autoImplicit false
set_option maxRecDepth 100000
set_option maxHeartbeats 4000000
namespace K13
open PySem L2 L2H LamX PyProof.Rows Si Bk
noncomputable section
/-! ### what the module holds -/
def lamq : Str := "law.<locals>.<lambda>"
structure Bl (mg : Str → Option Value) : Prop where
  b_isinstance : mg "isinstance" = none
  b_int : mg "int" = none
  b_bool : mg "bool" = none
  b_tuple : mg "tuple" = none
  b_len : mg "len" = none
  b_all : mg "all" = none
  b_abs : mg "abs" = none
  b_list : mg "list" = none
  b_zip : mg "zip" = none
  b_enumerate : mg "enumerate" = none
  b_any : mg "any" = none
  b_str : mg "str" = none
  b_range : mg "range" = none
  b_sum : mg "sum" = none
structure Cn (K : PySem.W.Frag) (mg : Str → Option Value) : Prop where
  c_MOST_SIZE : CN K mg "MOST_SIZE" c_MOST_SIZE
structure Lf (K : PySem.W.Frag) (cl : Str → Option Addr) : Prop where
  f_own_size : CF K cl ["Hull"] "own_size"
  f_own_rows : CF K cl ["Hull"] "own_rows"
  f_own_lines : CF K cl ["Hull"] "own_lines"
section
variable {P : Program} {w : World} {K : PySem.W.Frag} {mg : Str → Option Value} {base : Heap} {cl : Str → Option Addr}

/-! ### is_number -/
def N_is_number : List Str := ["value", "least", "most"]
theorem sc_is_number : FnScope N_is_number ["value", "least", "most"] (defScope st_is_number) := ⟨rfl, rfl, rfl, by decide +kernel, rfl, by decide +kernel, by decide +kernel⟩
theorem ok_is_number (B : Bl mg) (C : Cn K mg) (L : Lf K cl)     {f : Addr} {fd : FuncData} (F_ : Fun K "is_number" "is_number" st_is_number f fd) : SF P w K cl mg base 2 f fd ["value", "least", "most"] F_is_number := by
  refine sf_mk F_ sc_is_number rfl rfl fun cdv A outer s H E hr => ?_
  have hu := hu64 hr
  have hu5 := hu65 hr
  have tk : Takes (cxOf (L2.CX P w) P w K mg base N_is_number "is_number" (defScope st_is_number) f cdv A outer s H E) (fun cls d _ H => E cls d H) := takes_of rfl rfl rfl rfl
  have hx : Passes (L2.CX P w) (cxOf (L2.CX P w) P w K mg base N_is_number "is_number" (defScope st_is_number) f cdv A outer s H E) E := passes_call tk fun _ _ _ _ h => h
  have hpo := passes_of (X := (cxOf (L2.CX P w) P w K mg base N_is_number "is_number" (defScope st_is_number) f cdv A outer s H E)) rfl
  exact (sb_one (ss_ret (se_and (se_isi (T' := "int") (se_var (pv 0)) rfl B.b_isinstance rfl B.b_int (by decide +kernel) (by decide)) (se_and (se_not (se_isi (T' := "bool") (se_var (pv 0)) rfl B.b_isinstance rfl B.b_bool (by decide +kernel) (by decide))) (se_one (se_chain op_le op_le gr_le gr_le (se_var (pv 1)) (se_var (pv 0)) (se_var (pv 2))))))))
/-! ### Hull.__init__ -/
def N_Hull___init___R : List Str := ["self", "size"]
theorem sc_Hull___init___R : FnScope N_Hull___init___R ["self", "size"] (defScope st_Hull___init___R) := ⟨rfl, rfl, rfl, by decide +kernel, rfl, by decide +kernel, by decide +kernel⟩
theorem ok_Hull___init___R (B : Bl mg) (C : Cn K mg) (L : Lf K cl)  {f_is_number : Addr} {fd_is_number : FuncData} (h_is_number : At P w K cl mg base 2 "is_number" st_is_number ["value", "least", "most"] f_is_number fd_is_number G_is_number)  {CX_InvalidNumber fI_InvalidNumber : Addr} {fdI_InvalidNumber : FuncData} (x_InvalidNumber : AtX P w K cl mg base "InvalidNumber" "given" "given" CX_InvalidNumber fI_InvalidNumber fdI_InvalidNumber) {f : Addr} {fd : FuncData} (F_ : Fun K "__init__" "Hull.__init__" st_Hull___init___R f fd) : SF P w K cl mg base 4 f fd ["self", "size"] F_Hull___init___R := by
  refine sf_mk F_ sc_Hull___init___R rfl rfl fun cdv A outer s H E hr => ?_
  have hu := hu64 hr
  have hu5 := hu65 hr
  have tk : Takes (cxOf (L2.CX P w) P w K mg base N_Hull___init___R "Hull.__init__" (defScope st_Hull___init___R) f cdv A outer s H E) (fun cls d _ H => E cls d H) := takes_of rfl rfl rfl rfl
  have hx : Passes (L2.CX P w) (cxOf (L2.CX P w) P w K mg base N_Hull___init___R "Hull.__init__" (defScope st_Hull___init___R) f cdv A outer s H E) E := passes_call tk fun _ _ _ _ h => h
  have hpo := passes_of (X := (cxOf (L2.CX P w) P w K mg base N_Hull___init___R "Hull.__init__" (defScope st_Hull___init___R) f cdv A outer s H E)) rfl
  exact (sb_cons (ss_if (st_not (st_truth (se_fn h_is_number.ok (hr.mono (by decide)) rfl h_is_number.g h_is_number.F.kp h_is_number.b hx (sa_cons (se_var (pv 1)) (sa_cons se_int (sa_cons (se_cn rfl C.c_MOST_SIZE) sa_nil)))) (fun _ => rfl))) (sb_one (ss_raise rfl tk x_InvalidNumber.E x_InvalidNumber.iC x_InvalidNumber.tI x_InvalidNumber.F1 (hr.mono (by decide)) x_InvalidNumber.b rfl x_InvalidNumber.g (se_var (pv 1)))) sb_nil)
  (sb_cons (ss_setF (se_var (pv 0)) (se_var (pv 1)) L.f_own_size)
  (sb_cons (ss_setF (se_var (pv 0)) (se_lstM sa_nil) L.f_own_rows)
  (sb_one (ss_setF (se_var (pv 0)) (se_lstM sa_nil) L.f_own_lines)))))
/-! ### is_integers -/
def N_is_integers : List Str := ["value", "size", "one"]
theorem sc_is_integers : FnScope N_is_integers ["value", "size"] (defScope st_is_integers) := ⟨rfl, rfl, rfl, by decide +kernel, rfl, by decide +kernel, by decide +kernel⟩
theorem ok_is_integers (B : Bl mg) (C : Cn K mg) (L : Lf K cl)     {f : Addr} {fd : FuncData} (F_ : Fun K "is_integers" "is_integers" st_is_integers f fd) : SF P w K cl mg base 2 f fd ["value", "size"] F_is_integers := by
  refine sf_mk F_ sc_is_integers rfl rfl fun cdv A outer s H E hr => ?_
  have hu := hu64 hr
  have hu5 := hu65 hr
  have tk : Takes (cxOf (L2.CX P w) P w K mg base N_is_integers "is_integers" (defScope st_is_integers) f cdv A outer s H E) (fun cls d _ H => E cls d H) := takes_of rfl rfl rfl rfl
  have hx : Passes (L2.CX P w) (cxOf (L2.CX P w) P w K mg base N_is_integers "is_integers" (defScope st_is_integers) f cdv A outer s H E) E := passes_call tk fun _ _ _ _ h => h
  have hpo := passes_of (X := (cxOf (L2.CX P w) P w K mg base N_is_integers "is_integers" (defScope st_is_integers) f cdv A outer s H E)) rfl
  exact (sb_cons (ss_if (st_of (sw_or (st_not (st_truth (se_isi (T' := "tuple") (se_var (pv 0)) rfl B.b_isinstance rfl B.b_tuple (by decide +kernel) (by decide)) (fun _ => rfl))) (sw_or1 (st_cmp (op_neA hu) gr_ne (se_len rfl B.b_len (sa_cons (se_var (pv 0)) sa_nil)) (se_var (pv 1)) (nomark _))))) (sb_one (ss_ret se_bl)) sb_nil)
  (sb_one (ss_ret (se_all rfl rfl B.b_all (sa_cons (se_lc (own := [("one", 2)]) rfl (sc_is_integers).nd (si_seq (se_var (pv 0))) (blkOk_by (own := [("one", 2)]) (N := N_is_integers) (sc := defScope st_is_integers) (by decide +kernel)) (fun _ _ _ _ _ => (sg_name (pg_name (i := 2) (sc_is_integers).nd rfl (by first | exact Or.inl rfl | exact Or.inr rfl)))) (fun _ _ _ _ _ => sts_nil) (fun _ _ _ _ _ => (se_and (se_isi (T' := "int") (se_var (pv 2)) rfl B.b_isinstance rfl B.b_int (by decide +kernel) (by decide)) (se_one (se_not (se_isi (T' := "bool") (se_var (pv 2)) rfl B.b_isinstance rfl B.b_bool (by decide +kernel) (by decide))))))) sa_nil)))))
/-! ### common -/
def N_common : List Str := ["values", "found", "value", "rest"]
theorem sc_common : FnScope N_common ["values"] (defScope st_common) := ⟨rfl, rfl, rfl, by decide +kernel, rfl, by decide +kernel, by decide +kernel⟩
theorem ok_common (B : Bl mg) (C : Cn K mg) (L : Lf K cl)     {f : Addr} {fd : FuncData} (F_ : Fun K "common" "common" st_common f fd) : SF P w K cl mg base 2 f fd ["values"] F_common := by
  refine sf_mk F_ sc_common rfl rfl fun cdv A outer s H E hr => ?_
  have hu := hu64 hr
  have hu5 := hu65 hr
  have tk : Takes (cxOf (L2.CX P w) P w K mg base N_common "common" (defScope st_common) f cdv A outer s H E) (fun cls d _ H => E cls d H) := takes_of rfl rfl rfl rfl
  have hx : Passes (L2.CX P w) (cxOf (L2.CX P w) P w K mg base N_common "common" (defScope st_common) f cdv A outer s H E) E := passes_call tk fun _ _ _ _ h => h
  have hpo := passes_of (X := (cxOf (L2.CX P w) P w K mg base N_common "common" (defScope st_common) f cdv A outer s H E)) rfl
  exact (sb_cons (ss_set (i := 1) (sc_common).nd rfl (by first | exact Or.inl rfl | exact Or.inr rfl) se_int)
  (sb_cons (ss_for hpo rfl (si_seq (se_var (pv 0))) (sg_name (pg_name (i := 2) (sc_common).nd rfl (by first | exact Or.inl rfl | exact Or.inr rfl))) (sb_cons (ss_set (i := 3) (sc_common).nd rfl (by first | exact Or.inl rfl | exact Or.inr rfl) (se_absC rfl B.b_abs (sa_cons (se_var (pv 2)) sa_nil)))
  (sb_one (ss_while fuel_common hpo (st_cmp (op_neA hu) gr_ne (se_var (pv 3)) se_int (nomark _)) (sb_one (ss_par (i := 1) (j := 3) rfl (sc_common).nd rfl rfl (by decide) rfl rfl (sa_cons (se_var (pv 3)) (sa_cons (se_op op_mod gr_mod (se_var (pv 1)) (se_var (pv 3))) sa_nil)) (by rfl)))))))
  (sb_one (ss_ret (se_var (pv 1))))))
/-! ### shortened -/
def N_shortened : List Str := ["values", "divisor", "value"]
theorem sc_shortened : FnScope N_shortened ["values"] (defScope st_shortened) := ⟨rfl, rfl, rfl, by decide +kernel, rfl, by decide +kernel, by decide +kernel⟩
theorem ok_shortened (B : Bl mg) (C : Cn K mg) (L : Lf K cl)  {f_common : Addr} {fd_common : FuncData} (h_common : At P w K cl mg base 2 "common" st_common ["values"] f_common fd_common G_common)   {f : Addr} {fd : FuncData} (F_ : Fun K "shortened" "shortened" st_shortened f fd) : SF P w K cl mg base 4 f fd ["values"] F_shortened := by
  refine sf_mk F_ sc_shortened rfl rfl fun cdv A outer s H E hr => ?_
  have hu := hu64 hr
  have hu5 := hu65 hr
  have tk : Takes (cxOf (L2.CX P w) P w K mg base N_shortened "shortened" (defScope st_shortened) f cdv A outer s H E) (fun cls d _ H => E cls d H) := takes_of rfl rfl rfl rfl
  have hx : Passes (L2.CX P w) (cxOf (L2.CX P w) P w K mg base N_shortened "shortened" (defScope st_shortened) f cdv A outer s H E) E := passes_call tk fun _ _ _ _ h => h
  have hpo := passes_of (X := (cxOf (L2.CX P w) P w K mg base N_shortened "shortened" (defScope st_shortened) f cdv A outer s H E)) rfl
  exact (sb_cons (ss_set (i := 1) (sc_shortened).nd rfl (by first | exact Or.inl rfl | exact Or.inr rfl) (se_fn h_common.ok (hr.mono (by decide)) rfl h_common.g h_common.F.kp h_common.b hx (sa_cons (se_var (pv 0)) sa_nil)))
  (sb_one (ss_ret (se_if (st_cmp op_gt gr_gt (se_var (pv 1)) se_int (nomark _)) (se_lc (own := [("value", 2)]) rfl (sc_shortened).nd (si_seq (se_var (pv 0))) (blkOk_by (own := [("value", 2)]) (N := N_shortened) (sc := defScope st_shortened) (by decide +kernel)) (fun _ _ _ _ _ => (sg_name (pg_name (i := 2) (sc_shortened).nd rfl (by first | exact Or.inl rfl | exact Or.inr rfl)))) (fun _ _ _ _ _ => sts_nil) (fun _ _ _ _ _ => (se_op op_fdivW gr_div (se_var (pv 2)) (se_var (pv 1))))) (se_listC rfl B.b_list (sa_cons (se_var (pv 0)) sa_nil))))))
/-! ### Hull.left_of -/
def N_Hull_left_of : List Str := ["self", "row", "left", "at", "line", "ours", "theirs", "one", "first", "other"]
theorem sc_Hull_left_of : FnScope N_Hull_left_of ["self", "row"] (defScope st_Hull_left_of) := ⟨rfl, rfl, rfl, by decide +kernel, rfl, by decide +kernel, by decide +kernel⟩
theorem ok_Hull_left_of (B : Bl mg) (C : Cn K mg) (L : Lf K cl)  {f_shortened : Addr} {fd_shortened : FuncData} (h_shortened : At P w K cl mg base 4 "shortened" st_shortened ["values"] f_shortened fd_shortened G_shortened)   {f : Addr} {fd : FuncData} (F_ : Fun K "left_of" "Hull.left_of" st_Hull_left_of f fd) : SF P w K cl mg base 6 f fd ["self", "row"] F_Hull_left_of := by
  refine sf_mk F_ sc_Hull_left_of rfl rfl fun cdv A outer s H E hr => ?_
  have hu := hu64 hr
  have hu5 := hu65 hr
  have tk : Takes (cxOf (L2.CX P w) P w K mg base N_Hull_left_of "Hull.left_of" (defScope st_Hull_left_of) f cdv A outer s H E) (fun cls d _ H => E cls d H) := takes_of rfl rfl rfl rfl
  have hx : Passes (L2.CX P w) (cxOf (L2.CX P w) P w K mg base N_Hull_left_of "Hull.left_of" (defScope st_Hull_left_of) f cdv A outer s H E) E := passes_call tk fun _ _ _ _ h => h
  have hpo := passes_of (X := (cxOf (L2.CX P w) P w K mg base N_Hull_left_of "Hull.left_of" (defScope st_Hull_left_of) f cdv A outer s H E)) rfl
  exact (sb_cons (ss_setLc (i := 2) (own := [("one", 7), ("first", 8)]) rfl (sc_Hull_left_of).nd rfl rfl (sw_true rfl rfl rfl (by decide +kernel)) (si_zip rfl B.b_zip (sa_cons (se_var (pv 1)) (sa_cons (se_ix (se_fld (se_var (pv 0)) L.f_own_rows) se_int (fun _ _ => rfl)) sa_nil))) (blkOk_by (own := [("one", 7), ("first", 8)]) (N := N_Hull_left_of) (sc := defScope st_Hull_left_of) (by decide +kernel)) (fun _ _ _ _ _ => (sg_tup rfl (sgs_cons (sg_name (pg_name (i := 7) (sc_Hull_left_of).nd rfl (by first | exact Or.inl rfl | exact Or.inr rfl))) (sgs_cons (sg_name (pg_name (i := 8) (sc_Hull_left_of).nd rfl (by first | exact Or.inl rfl | exact Or.inr rfl))) sgs_nil)))) (fun _ _ _ _ _ => sts_nil) (fun _ _ _ _ _ => (se_op op_sub gr_sub (se_var (pv 7)) (se_var (pv 8)))))
  (sb_cons (ss_forC hpo rfl (se_fld (se_var (pv 0)) L.f_own_lines) (sg_tup rfl (sgs_cons (sg_name (pg_name (i := 3) (sc_Hull_left_of).nd rfl (by first | exact Or.inl rfl | exact Or.inr rfl))) (sgs_cons (sg_name (pg_name (i := 4) (sc_Hull_left_of).nd rfl (by first | exact Or.inl rfl | exact Or.inr rfl))) sgs_nil))) (sb_one (ss_if (st_cmp (op_neA hu) gr_ne (se_ix (se_var (pv 2)) (se_var (pv 3)) (fun _ _ => rfl)) se_int (nomark _)) (sb_cons (ss_asg (se_tup (sa_cons (se_ix (se_var (pv 4)) (se_var (pv 3)) (fun _ _ => rfl)) (sa_cons (se_ix (se_var (pv 2)) (se_var (pv 3)) (fun _ _ => rfl)) sa_nil))) (sg_tup rfl (sgs_cons (sg_name (pg_name (i := 5) (sc_Hull_left_of).nd rfl (by first | exact Or.inl rfl | exact Or.inr rfl))) (sgs_cons (sg_name (pg_name (i := 6) (sc_Hull_left_of).nd rfl (by first | exact Or.inl rfl | exact Or.inr rfl))) sgs_nil))))
  (sb_one (ss_set (i := 2) (sc_Hull_left_of).nd rfl (by first | exact Or.inl rfl | exact Or.inr rfl) (se_fn h_shortened.ok (hr.mono (by decide)) rfl h_shortened.g h_shortened.F.kp h_shortened.b hx (sa_cons (se_lc (own := [("one", 7), ("other", 9)]) rfl (sc_Hull_left_of).nd (si_zip rfl B.b_zip (sa_cons (se_var (pv 2)) (sa_cons (se_var (pv 4)) sa_nil))) (blkOk_by (own := [("one", 7), ("other", 9)]) (N := N_Hull_left_of) (sc := defScope st_Hull_left_of) (by decide +kernel)) (fun _ _ _ _ _ => (sg_tup rfl (sgs_cons (sg_name (pg_name (i := 7) (sc_Hull_left_of).nd rfl (by first | exact Or.inl rfl | exact Or.inr rfl))) (sgs_cons (sg_name (pg_name (i := 9) (sc_Hull_left_of).nd rfl (by first | exact Or.inl rfl | exact Or.inr rfl))) sgs_nil)))) (fun _ _ _ _ _ => sts_nil) (fun _ _ _ _ _ => (se_op op_sub gr_sub (se_op op_mulA gr_mul (se_var (pv 7)) (se_var (pv 5))) (se_op op_mulA gr_mul (se_var (pv 9)) (se_var (pv 6)))))) sa_nil))))) sb_nil)))
  (sb_one (ss_ret (se_var (pv 2))))))
/-! ### Hull.take -/
def N_Hull_take_R : List Str := ["self", "row", "left", "places", "at", "one"]
theorem sc_Hull_take_R : FnScope N_Hull_take_R ["self", "row"] (defScope st_Hull_take_R) := ⟨rfl, rfl, rfl, by decide +kernel, rfl, by decide +kernel, by decide +kernel⟩
theorem ok_Hull_take_R (B : Bl mg) (C : Cn K mg) (L : Lf K cl) {C_Hull : Addr} (c_Hull : ClO K cl "Hull" C_Hull) {f_is_integers : Addr} {fd_is_integers : FuncData} (h_is_integers : At P w K cl mg base 2 "is_integers" st_is_integers ["value", "size"] f_is_integers fd_is_integers G_is_integers) {f_Hull_left_of : Addr} {fd_Hull_left_of : FuncData} (h_Hull_left_of : AtM P w K cl mg base 6 C_Hull "left_of" "Hull.left_of" st_Hull_left_of ["self", "row"] f_Hull_left_of fd_Hull_left_of G_Hull_left_of)  {CX_InvalidRow fI_InvalidRow : Addr} {fdI_InvalidRow : FuncData} (x_InvalidRow : AtX P w K cl mg base "InvalidRow" "given" "given" CX_InvalidRow fI_InvalidRow fdI_InvalidRow) {f : Addr} {fd : FuncData} (F_ : Fun K "take" "Hull.take" st_Hull_take_R f fd) : SF P w K cl mg base 8 f fd ["self", "row"] F_Hull_take_R := by
  refine sf_mk F_ sc_Hull_take_R rfl rfl fun cdv A outer s H E hr => ?_
  have hu := hu64 hr
  have hu5 := hu65 hr
  have tk : Takes (cxOf (L2.CX P w) P w K mg base N_Hull_take_R "Hull.take" (defScope st_Hull_take_R) f cdv A outer s H E) (fun cls d _ H => E cls d H) := takes_of rfl rfl rfl rfl
  have hx : Passes (L2.CX P w) (cxOf (L2.CX P w) P w K mg base N_Hull_take_R "Hull.take" (defScope st_Hull_take_R) f cdv A outer s H E) E := passes_call tk fun _ _ _ _ h => h
  have hpo := passes_of (X := (cxOf (L2.CX P w) P w K mg base N_Hull_take_R "Hull.take" (defScope st_Hull_take_R) f cdv A outer s H E)) rfl
  exact (sb_cons (ss_if (st_not (st_truth (se_fn h_is_integers.ok (hr.mono (by decide)) rfl h_is_integers.g h_is_integers.F.kp h_is_integers.b hx (sa_cons (se_var (pv 1)) (sa_cons (se_fld (se_var (pv 0)) L.f_own_size) sa_nil))) (fun _ => rfl))) (sb_one (ss_raise rfl tk x_InvalidRow.E x_InvalidRow.iC x_InvalidRow.tI x_InvalidRow.F1 (hr.mono (by decide)) x_InvalidRow.b rfl x_InvalidRow.g (se_var (pv 1)))) sb_nil)
  (sb_cons (ss_if (st_cmp (op_neA hu) gr_ne (se_fld (se_var (pv 0)) L.f_own_rows) (se_lst sa_nil) (nomark _)) (sb_cons (ss_set (i := 2) (sc_Hull_take_R).nd rfl (by first | exact Or.inl rfl | exact Or.inr rfl) (se_meth (se_var (pv 0)) c_Hull.e c_Hull.c h_Hull_left_of.m h_Hull_left_of.ok (hr.mono (by decide)) h_Hull_left_of.b hx (sa_cons (se_var (pv 1)) sa_nil)))
  (sb_cons (ss_setLc (i := 3) (own := [("at", 4), ("one", 5)]) rfl (sc_Hull_take_R).nd rfl rfl (sw_true rfl rfl rfl (by decide +kernel)) (si_enumS rfl B.b_enumerate (sa_cons (se_var (pv 2)) sa_nil)) (blkOk_by (own := [("at", 4), ("one", 5)]) (N := N_Hull_take_R) (sc := defScope st_Hull_take_R) (by decide +kernel)) (fun _ _ _ _ _ => (sg_tup rfl (sgs_cons (sg_name (pg_name (i := 4) (sc_Hull_take_R).nd rfl (by first | exact Or.inl rfl | exact Or.inr rfl))) (sgs_cons (sg_name (pg_name (i := 5) (sc_Hull_take_R).nd rfl (by first | exact Or.inl rfl | exact Or.inr rfl))) sgs_nil)))) (fun _ _ _ _ _ => (sts_one (st_cmp (op_neA hu) gr_ne (se_var (pv 5)) se_int (nomark _)))) (fun _ _ _ _ _ => (se_var (pv 4))))
  (sb_cons (ss_if (st_cmp (op_eqA hu) gr_eq (se_var (pv 3)) (se_lst sa_nil) (nomark _)) (sb_one (ss_ret se_bl)) sb_nil)
  (sb_one (ss_expr (se_append (se_fld (se_var (pv 0)) L.f_own_lines) (se_tup (sa_cons (se_ix (se_var (pv 3)) se_int (fun _ _ => rfl)) (sa_cons (se_var (pv 2)) sa_nil))))))))) sb_nil)
  (sb_cons (ss_expr (se_append (se_fld (se_var (pv 0)) L.f_own_rows) (se_var (pv 1))))
  (sb_one (ss_ret se_bl)))))
/-! ### Hull.__contains__ -/
def N_Hull___contains__ : List Str := ["self", "value", "one"]
theorem sc_Hull___contains__ : FnScope N_Hull___contains__ ["self", "value"] (defScope st_Hull___contains__) := ⟨rfl, rfl, rfl, by decide +kernel, rfl, by decide +kernel, by decide +kernel⟩
theorem ok_Hull___contains__ (B : Bl mg) (C : Cn K mg) (L : Lf K cl) {C_Hull : Addr} (c_Hull : ClO K cl "Hull" C_Hull) {f_is_integers : Addr} {fd_is_integers : FuncData} (h_is_integers : At P w K cl mg base 2 "is_integers" st_is_integers ["value", "size"] f_is_integers fd_is_integers G_is_integers) {f_Hull_left_of : Addr} {fd_Hull_left_of : FuncData} (h_Hull_left_of : AtM P w K cl mg base 6 C_Hull "left_of" "Hull.left_of" st_Hull_left_of ["self", "row"] f_Hull_left_of fd_Hull_left_of G_Hull_left_of)   {f : Addr} {fd : FuncData} (F_ : Fun K "__contains__" "Hull.__contains__" st_Hull___contains__ f fd) : SF P w K cl mg base 8 f fd ["self", "value"] F_Hull___contains__ := by
  refine sf_mk F_ sc_Hull___contains__ rfl rfl fun cdv A outer s H E hr => ?_
  have hu := hu64 hr
  have hu5 := hu65 hr
  have tk : Takes (cxOf (L2.CX P w) P w K mg base N_Hull___contains__ "Hull.__contains__" (defScope st_Hull___contains__) f cdv A outer s H E) (fun cls d _ H => E cls d H) := takes_of rfl rfl rfl rfl
  have hx : Passes (L2.CX P w) (cxOf (L2.CX P w) P w K mg base N_Hull___contains__ "Hull.__contains__" (defScope st_Hull___contains__) f cdv A outer s H E) E := passes_call tk fun _ _ _ _ h => h
  have hpo := passes_of (X := (cxOf (L2.CX P w) P w K mg base N_Hull___contains__ "Hull.__contains__" (defScope st_Hull___contains__) f cdv A outer s H E)) rfl
  exact (sb_cons (ss_if (st_of (sw_or (st_not (st_truth (se_fn h_is_integers.ok (hr.mono (by decide)) rfl h_is_integers.g h_is_integers.F.kp h_is_integers.b hx (sa_cons (se_var (pv 1)) (sa_cons (se_fld (se_var (pv 0)) L.f_own_size) sa_nil))) (fun _ => rfl))) (sw_or1 (st_cmp (op_eqA hu) gr_eq (se_fld (se_var (pv 0)) L.f_own_rows) (se_lst sa_nil) (nomark _))))) (sb_one (ss_ret se_bl)) sb_nil)
  (sb_one (ss_ret (se_not (se_any rfl rfl B.b_any (sa_cons (se_lc (own := [("one", 2)]) rfl (sc_Hull___contains__).nd (si_seq (se_meth (se_var (pv 0)) c_Hull.e c_Hull.c h_Hull_left_of.m h_Hull_left_of.ok (hr.mono (by decide)) h_Hull_left_of.b hx (sa_cons (se_var (pv 1)) sa_nil))) (blkOk_by (own := [("one", 2)]) (N := N_Hull___contains__) (sc := defScope st_Hull___contains__) (by decide +kernel)) (fun _ _ _ _ _ => (sg_name (pg_name (i := 2) (sc_Hull___contains__).nd rfl (by first | exact Or.inl rfl | exact Or.inr rfl)))) (fun _ _ _ _ _ => sts_nil) (fun _ _ _ _ _ => (se_cmp (op_neA hu) gr_ne (se_var (pv 2)) se_int (nomark _)))) sa_nil))))))
/-! ### _law_bag -/
def N__law_bag : List Str := ["_law_script", "_law_cells", "_law_mark", "_law_cell"]
theorem sc__law_bag : FnScope N__law_bag ["_law_script"] (defScope st__law_bag) := ⟨rfl, rfl, rfl, by decide +kernel, rfl, by decide +kernel, by decide +kernel⟩
theorem ok__law_bag (B : Bl mg) (C : Cn K mg) (L : Lf K cl)     {f : Addr} {fd : FuncData} (F_ : Fun K "_law_bag" "_law_bag" st__law_bag f fd) : SF P w K cl mg base 2 f fd ["_law_script"] F__law_bag := by
  refine sf_mk F_ sc__law_bag rfl rfl fun cdv A outer s H E hr => ?_
  have hu := hu64 hr
  have hu5 := hu65 hr
  have tk : Takes (cxOf (L2.CX P w) P w K mg base N__law_bag "_law_bag" (defScope st__law_bag) f cdv A outer s H E) (fun cls d _ H => E cls d H) := takes_of rfl rfl rfl rfl
  have hx : Passes (L2.CX P w) (cxOf (L2.CX P w) P w K mg base N__law_bag "_law_bag" (defScope st__law_bag) f cdv A outer s H E) E := passes_call tk fun _ _ _ _ h => h
  have hpo := passes_of (X := (cxOf (L2.CX P w) P w K mg base N__law_bag "_law_bag" (defScope st__law_bag) f cdv A outer s H E)) rfl
  exact (sb_cons (ss_setLc (i := 1) (own := [("_law_cell", 3)]) rfl (sc__law_bag).nd rfl rfl (sw_true rfl rfl rfl (by decide +kernel)) (si_seq (se_slice (se_var (pv 0)) so_none (so_some se_int))) (blkOk_by (own := [("_law_cell", 3)]) (N := N__law_bag) (sc := defScope st__law_bag) (by decide +kernel)) (fun _ _ _ _ _ => (sg_name (pg_name (i := 3) (sc__law_bag).nd rfl (by first | exact Or.inl rfl | exact Or.inr rfl)))) (fun _ _ _ _ _ => sts_nil) (fun _ _ _ _ _ => (se_intC rfl B.b_int (sa_cons (se_var (pv 3)) sa_nil))))
  (sb_cons (ss_set (i := 2) (sc__law_bag).nd rfl (by first | exact Or.inl rfl | exact Or.inr rfl) (se_op op_addA gr_add se_int (se_op op_mulA gr_mul se_int (se_len rfl B.b_len (sa_cons (se_var (pv 1)) sa_nil)))))
  (sb_cons (ss_for hpo rfl (si_seq (se_var (pv 1))) (sg_name (pg_name (i := 3) (sc__law_bag).nd rfl (by first | exact Or.inl rfl | exact Or.inr rfl))) (sb_one (ss_set (i := 2) (sc__law_bag).nd rfl (by first | exact Or.inl rfl | exact Or.inr rfl) (se_op op_mod gr_mod (se_intC rfl B.b_int (sa_cons (se_op op_addA gr_add (se_op op_mulA gr_mul (se_var (pv 2)) se_int) (se_var (pv 3))) sa_nil)) se_int))))
  (sb_one (ss_ret (se_lstM (sa_cons (se_var (pv 1)) (sa_cons se_int (sa_cons se_int (sa_cons (se_var (pv 2)) sa_nil))))))))))
/-! ### _law_draw -/
def N__law_draw : List Str := ["_law_bag_here", "_law_many", "_law_cell", "_law_first", "_law_second", "_law_digit"]
theorem sc__law_draw : FnScope N__law_draw ["_law_bag_here", "_law_many"] (defScope st__law_draw) := ⟨rfl, rfl, rfl, by decide +kernel, rfl, by decide +kernel, by decide +kernel⟩
theorem ok__law_draw (B : Bl mg) (C : Cn K mg) (L : Lf K cl)     {f : Addr} {fd : FuncData} (F_ : Fun K "_law_draw" "_law_draw" st__law_draw f fd) : SF P w K cl mg base 2 f fd ["_law_bag_here", "_law_many"] F__law_draw := by
  refine sf_mk F_ sc__law_draw rfl rfl fun cdv A outer s H E hr => ?_
  have hu := hu64 hr
  have hu5 := hu65 hr
  have tk : Takes (cxOf (L2.CX P w) P w K mg base N__law_draw "_law_draw" (defScope st__law_draw) f cdv A outer s H E) (fun cls d _ H => E cls d H) := takes_of rfl rfl rfl rfl
  have hx : Passes (L2.CX P w) (cxOf (L2.CX P w) P w K mg base N__law_draw "_law_draw" (defScope st__law_draw) f cdv A outer s H E) E := passes_call tk fun _ _ _ _ h => h
  have hpo := passes_of (X := (cxOf (L2.CX P w) P w K mg base N__law_draw "_law_draw" (defScope st__law_draw) f cdv A outer s H E)) rfl
  exact (sb_cons (ss_if (st_cmp op_lt gr_lt (se_ix (se_var (pv 0)) se_int (fun _ _ => rfl)) se_int (nomark _)) (sb_cons (ss_setI (se_op op_addA gr_add (se_ix (se_var (pv 0)) se_int (fun _ _ => rfl)) se_int) (se_var (pv 0)) se_int)
  (sb_cons (ss_set (i := 2) (sc__law_draw).nd rfl (by first | exact Or.inl rfl | exact Or.inr rfl) (se_op op_addA gr_add (se_ix (se_var (pv 0)) se_int (fun _ _ => rfl)) (se_op op_mulA gr_mul (se_ix (se_var (pv 0)) se_int (fun _ _ => rfl)) se_int)))
  (sb_cons (ss_if (st_cmp op_le gr_le (se_ix (se_var (pv 0)) se_int (fun _ _ => rfl)) (se_len rfl B.b_len (sa_cons (se_ix (se_var (pv 0)) se_int (fun _ _ => rfl)) sa_nil)) (nomark _)) (sb_one (ss_set (i := 2) (sc__law_draw).nd rfl (by first | exact Or.inl rfl | exact Or.inr rfl) (se_ix (se_ix (se_var (pv 0)) se_int (fun _ _ => rfl)) (se_op op_sub gr_sub (se_ix (se_var (pv 0)) se_int (fun _ _ => rfl)) se_int) (fun _ _ => rfl)))) sb_nil)
  (sb_cons (ss_if (st_of (sw_or (st_cmp op_gt gr_gt (se_ix (se_var (pv 0)) se_int (fun _ _ => rfl)) (se_len rfl B.b_len (sa_cons (se_ix (se_var (pv 0)) se_int (fun _ _ => rfl)) sa_nil)) (nomark _)) (sw_or1 (st_cmp op_lt gr_lt (se_var (pv 2)) (se_op op_pow gr_pow se_int se_int) (nomark _))))) (sb_cons (ss_set (i := 3) (sc__law_draw).nd rfl (by first | exact Or.inl rfl | exact Or.inr rfl) (se_op op_mod gr_mod (se_intC rfl B.b_int (sa_cons (se_op op_addA gr_add (se_op op_addA gr_add (se_op op_mulA gr_mul (se_var (pv 2)) se_int) (se_op op_mulA gr_mul (se_ix (se_var (pv 0)) se_int (fun _ _ => rfl)) se_int)) (se_ix (se_var (pv 0)) se_int (fun _ _ => rfl))) sa_nil)) se_int))
  (sb_cons (ss_set (i := 4) (sc__law_draw).nd rfl (by first | exact Or.inl rfl | exact Or.inr rfl) (se_op op_mod gr_mod (se_intC rfl B.b_int (sa_cons (se_op op_addA gr_add (se_op op_mulA gr_mul (se_var (pv 3)) (se_var (pv 3))) (se_op op_mulA gr_mul (se_ix (se_var (pv 0)) se_int (fun _ _ => rfl)) se_int)) sa_nil)) se_int))
  (sb_one (ss_ret (se_op op_mod gr_mod (se_op op_fdivW gr_div (se_op op_mod gr_mod (se_intC rfl B.b_int (sa_cons (se_op op_addA gr_add (se_op op_mulA gr_mul (se_var (pv 4)) se_int) (se_var (pv 3))) sa_nil)) se_int) se_int) (se_var (pv 1))))))) sb_nil)
  (sb_one (ss_setI (se_var (pv 2)) (se_var (pv 0)) se_int)))))) sb_nil)
  (sb_cons (ss_set (i := 5) (sc__law_draw).nd rfl (by first | exact Or.inl rfl | exact Or.inr rfl) (se_op op_mod gr_mod (se_intC rfl B.b_int (sa_cons (se_ix (se_var (pv 0)) se_int (fun _ _ => rfl)) sa_nil)) (se_var (pv 1))))
  (sb_cons (ss_setI (se_op op_fdivW gr_div (se_intC rfl B.b_int (sa_cons (se_ix (se_var (pv 0)) se_int (fun _ _ => rfl)) sa_nil)) (se_var (pv 1))) (se_var (pv 0)) se_int)
  (sb_one (ss_ret (se_var (pv 5)))))))
/-! ### _law_of -/
def N__law_of : List Str := ["_law_bag_here", "_law_some"]
theorem sc__law_of : FnScope N__law_of ["_law_bag_here", "_law_some"] (defScope st__law_of) := ⟨rfl, rfl, rfl, by decide +kernel, rfl, by decide +kernel, by decide +kernel⟩
theorem ok__law_of (B : Bl mg) (C : Cn K mg) (L : Lf K cl)  {f__law_draw : Addr} {fd__law_draw : FuncData} (h__law_draw : At P w K cl mg base 2 "_law_draw" st__law_draw ["_law_bag_here", "_law_many"] f__law_draw fd__law_draw G__law_draw)   {f : Addr} {fd : FuncData} (F_ : Fun K "_law_of" "_law_of" st__law_of f fd) : SF P w K cl mg base 4 f fd ["_law_bag_here", "_law_some"] F__law_of := by
  refine sf_mk F_ sc__law_of rfl rfl fun cdv A outer s H E hr => ?_
  have hu := hu64 hr
  have hu5 := hu65 hr
  have tk : Takes (cxOf (L2.CX P w) P w K mg base N__law_of "_law_of" (defScope st__law_of) f cdv A outer s H E) (fun cls d _ H => E cls d H) := takes_of rfl rfl rfl rfl
  have hx : Passes (L2.CX P w) (cxOf (L2.CX P w) P w K mg base N__law_of "_law_of" (defScope st__law_of) f cdv A outer s H E) E := passes_call tk fun _ _ _ _ h => h
  have hpo := passes_of (X := (cxOf (L2.CX P w) P w K mg base N__law_of "_law_of" (defScope st__law_of) f cdv A outer s H E)) rfl
  exact (sb_one (ss_ret (se_ix (se_var (pv 1)) (se_fn h__law_draw.ok (hr.mono (by decide)) rfl h__law_draw.g h__law_draw.F.kp h__law_draw.b hx (sa_cons (se_var (pv 0)) (sa_cons (se_len rfl B.b_len (sa_cons (se_var (pv 1)) sa_nil)) sa_nil))) (fun _ _ => rfl))))
/-! ### _law_same -/
def N__law_same : List Str := ["_law_found", "_law_due", "_law_one", "_law_two"]
theorem sc__law_same : FnScope N__law_same ["_law_found", "_law_due"] (defScope st__law_same) := ⟨rfl, rfl, rfl, by decide +kernel, rfl, by decide +kernel, by decide +kernel⟩
theorem ok__law_same (B : Bl mg) (C : Cn K mg) (L : Lf K cl)     {f : Addr} {fd : FuncData} {k : Nat} (F_ : Fun K "_law_same" "_law_same" st__law_same f fd) (g__law_same : mg "_law_same" = some (.ref f)) (b_ : Binds K fd ["_law_found", "_law_due"] []) {G__law_same : List D → Wd → R D} (h__law_same : SF P w K cl mg base k f fd ["_law_found", "_law_due"] G__law_same) : SF P w K cl mg base (k + 1) f fd ["_law_found", "_law_due"] (F__law_same G__law_same) := by
  refine sf_mk F_ sc__law_same rfl rfl fun cdv A outer s H E hr => ?_
  have hu := hu64 hr
  have hu5 := hu65 hr
  have tk : Takes (cxOf (L2.CX P w) P w K mg base N__law_same "_law_same" (defScope st__law_same) f cdv A outer s H E) (fun cls d _ H => E cls d H) := takes_of rfl rfl rfl rfl
  have hx : Passes (L2.CX P w) (cxOf (L2.CX P w) P w K mg base N__law_same "_law_same" (defScope st__law_same) f cdv A outer s H E) E := passes_call tk fun _ _ _ _ h => h
  have hpo := passes_of (X := (cxOf (L2.CX P w) P w K mg base N__law_same "_law_same" (defScope st__law_same) f cdv A outer s H E)) rfl
  exact (sb_cons (ss_if (st_cmp op_isN gr_isN (se_var (pv 1)) se_non (nomark _)) (sb_one (ss_ret (se_cmp op_isN gr_isN (se_var (pv 0)) se_non (nomark _)))) sb_nil)
  (sb_cons (ss_if (st_of (sw_or (st_truth (se_isi (T' := "bool") (se_var (pv 1)) rfl B.b_isinstance rfl B.b_bool (by decide +kernel) (by decide)) (fun _ => rfl)) (sw_or1 (st_truth (se_isi (T' := "bool") (se_var (pv 0)) rfl B.b_isinstance rfl B.b_bool (by decide +kernel) (by decide)) (fun _ => rfl))))) (sb_one (ss_ret (se_and (se_isi (T' := "bool") (se_var (pv 1)) rfl B.b_isinstance rfl B.b_bool (by decide +kernel) (by decide)) (se_and (se_isi (T' := "bool") (se_var (pv 0)) rfl B.b_isinstance rfl B.b_bool (by decide +kernel) (by decide)) (se_one (se_cmp (op_eqA hu) gr_eq (se_var (pv 0)) (se_var (pv 1)) (nomark _))))))) sb_nil)
  (sb_cons (ss_if (st_truth (se_isi2 (T' := "int") (U' := "str") (se_var (pv 1)) rfl B.b_isinstance rfl B.b_int (by decide +kernel) (by decide) rfl B.b_str (by decide +kernel) (by decide)) (fun _ => rfl)) (sb_one (ss_ret (se_and (se_isi2 (T' := "int") (U' := "str") (se_var (pv 0)) rfl B.b_isinstance rfl B.b_int (by decide +kernel) (by decide) rfl B.b_str (by decide +kernel) (by decide)) (se_and (se_cmp (op_eqA hu) gr_eq (se_isi (T' := "int") (se_var (pv 0)) rfl B.b_isinstance rfl B.b_int (by decide +kernel) (by decide)) (se_isi (T' := "int") (se_var (pv 1)) rfl B.b_isinstance rfl B.b_int (by decide +kernel) (by decide)) (nomark _)) (se_one (se_cmp (op_eqA hu) gr_eq (se_var (pv 0)) (se_var (pv 1)) (nomark _))))))) sb_nil)
  (sb_cons (ss_if (st_of (sw_or (st_cmp (op_neA hu) gr_ne (se_isi (T' := "list") (se_var (pv 1)) rfl B.b_isinstance rfl B.b_list (by decide +kernel) (by decide)) (se_isi (T' := "list") (se_var (pv 0)) rfl B.b_isinstance rfl B.b_list (by decide +kernel) (by decide)) (nomark _)) (sw_or1 (st_cmp (op_neA hu) gr_ne (se_isi (T' := "tuple") (se_var (pv 1)) rfl B.b_isinstance rfl B.b_tuple (by decide +kernel) (by decide)) (se_isi (T' := "tuple") (se_var (pv 0)) rfl B.b_isinstance rfl B.b_tuple (by decide +kernel) (by decide)) (nomark _))))) (sb_one (ss_ret se_bl)) sb_nil)
  (sb_cons (ss_if (st_not (st_truth (se_isi2 (T' := "list") (U' := "tuple") (se_var (pv 0)) rfl B.b_isinstance rfl B.b_list (by decide +kernel) (by decide) rfl B.b_tuple (by decide +kernel) (by decide)) (fun _ => rfl))) (sb_one (ss_ret se_bl)) sb_nil)
  (sb_one (ss_ret (se_and (se_cmp (op_eqA hu) gr_eq (se_len rfl B.b_len (sa_cons (se_var (pv 0)) sa_nil)) (se_len rfl B.b_len (sa_cons (se_var (pv 1)) sa_nil)) (nomark _)) (se_one (se_all rfl rfl B.b_all (sa_cons (se_lc (own := [("_law_one", 2), ("_law_two", 3)]) rfl (sc__law_same).nd (si_zip rfl B.b_zip (sa_cons (se_var (pv 0)) (sa_cons (se_var (pv 1)) sa_nil))) (blkOk_by (own := [("_law_one", 2), ("_law_two", 3)]) (N := N__law_same) (sc := defScope st__law_same) (by decide +kernel)) (fun _ _ _ _ _ => (sg_tup rfl (sgs_cons (sg_name (pg_name (i := 2) (sc__law_same).nd rfl (by first | exact Or.inl rfl | exact Or.inr rfl))) (sgs_cons (sg_name (pg_name (i := 3) (sc__law_same).nd rfl (by first | exact Or.inl rfl | exact Or.inr rfl))) sgs_nil)))) (fun _ _ _ _ _ => sts_nil) (fun _ _ _ _ _ => (se_fn h__law_same hr rfl g__law_same F_.kp b_ passL (sa_cons (se_var (pv 2)) (sa_cons (se_var (pv 3)) sa_nil))))) sa_nil)))))))))))
/-! ### _law_left -/
def N__law_left : List Str := ["_law_lot_here", "_law_row", "_law_left_here", "_law_at", "_law_line", "_law_ours", "_law_theirs", "_law_one", "_law_first", "_law_other"]
theorem sc__law_left : FnScope N__law_left ["_law_lot_here", "_law_row"] (defScope st__law_left) := ⟨rfl, rfl, rfl, by decide +kernel, rfl, by decide +kernel, by decide +kernel⟩
theorem ok__law_left (B : Bl mg) (C : Cn K mg) (L : Lf K cl)     {f : Addr} {fd : FuncData} (F_ : Fun K "_law_left" "_law_left" st__law_left f fd) : SF P w K cl mg base 2 f fd ["_law_lot_here", "_law_row"] F__law_left := by
  refine sf_mk F_ sc__law_left rfl rfl fun cdv A outer s H E hr => ?_
  have hu := hu64 hr
  have hu5 := hu65 hr
  have tk : Takes (cxOf (L2.CX P w) P w K mg base N__law_left "_law_left" (defScope st__law_left) f cdv A outer s H E) (fun cls d _ H => E cls d H) := takes_of rfl rfl rfl rfl
  have hx : Passes (L2.CX P w) (cxOf (L2.CX P w) P w K mg base N__law_left "_law_left" (defScope st__law_left) f cdv A outer s H E) E := passes_call tk fun _ _ _ _ h => h
  have hpo := passes_of (X := (cxOf (L2.CX P w) P w K mg base N__law_left "_law_left" (defScope st__law_left) f cdv A outer s H E)) rfl
  exact (sb_cons (ss_setLc (i := 2) (own := [("_law_one", 7), ("_law_first", 8)]) rfl (sc__law_left).nd rfl rfl (sw_true rfl rfl rfl (by decide +kernel)) (si_zip rfl B.b_zip (sa_cons (se_var (pv 1)) (sa_cons (se_ix (se_ix (se_var (pv 0)) se_int (fun _ _ => rfl)) se_int (fun _ _ => rfl)) sa_nil))) (blkOk_by (own := [("_law_one", 7), ("_law_first", 8)]) (N := N__law_left) (sc := defScope st__law_left) (by decide +kernel)) (fun _ _ _ _ _ => (sg_tup rfl (sgs_cons (sg_name (pg_name (i := 7) (sc__law_left).nd rfl (by first | exact Or.inl rfl | exact Or.inr rfl))) (sgs_cons (sg_name (pg_name (i := 8) (sc__law_left).nd rfl (by first | exact Or.inl rfl | exact Or.inr rfl))) sgs_nil)))) (fun _ _ _ _ _ => sts_nil) (fun _ _ _ _ _ => (se_op op_sub gr_sub (se_var (pv 7)) (se_var (pv 8)))))
  (sb_cons (ss_forC hpo rfl (se_ix (se_var (pv 0)) se_int (fun _ _ => rfl)) (sg_tup rfl (sgs_cons (sg_name (pg_name (i := 3) (sc__law_left).nd rfl (by first | exact Or.inl rfl | exact Or.inr rfl))) (sgs_cons (sg_name (pg_name (i := 4) (sc__law_left).nd rfl (by first | exact Or.inl rfl | exact Or.inr rfl))) sgs_nil))) (sb_one (ss_if (st_cmp (op_neA hu) gr_ne (se_ix (se_var (pv 2)) (se_var (pv 3)) (fun _ _ => rfl)) se_int (nomark _)) (sb_cons (ss_asg (se_tup (sa_cons (se_ix (se_var (pv 4)) (se_var (pv 3)) (fun _ _ => rfl)) (sa_cons (se_ix (se_var (pv 2)) (se_var (pv 3)) (fun _ _ => rfl)) sa_nil))) (sg_tup rfl (sgs_cons (sg_name (pg_name (i := 5) (sc__law_left).nd rfl (by first | exact Or.inl rfl | exact Or.inr rfl))) (sgs_cons (sg_name (pg_name (i := 6) (sc__law_left).nd rfl (by first | exact Or.inl rfl | exact Or.inr rfl))) sgs_nil))))
  (sb_one (ss_setLc (i := 2) (own := [("_law_one", 7), ("_law_other", 9)]) rfl (sc__law_left).nd rfl rfl (sw_true rfl rfl rfl (by decide +kernel)) (si_zip rfl B.b_zip (sa_cons (se_var (pv 2)) (sa_cons (se_var (pv 4)) sa_nil))) (blkOk_by (own := [("_law_one", 7), ("_law_other", 9)]) (N := N__law_left) (sc := defScope st__law_left) (by decide +kernel)) (fun _ _ _ _ _ => (sg_tup rfl (sgs_cons (sg_name (pg_name (i := 7) (sc__law_left).nd rfl (by first | exact Or.inl rfl | exact Or.inr rfl))) (sgs_cons (sg_name (pg_name (i := 9) (sc__law_left).nd rfl (by first | exact Or.inl rfl | exact Or.inr rfl))) sgs_nil)))) (fun _ _ _ _ _ => sts_nil) (fun _ _ _ _ _ => (se_op op_sub gr_sub (se_op op_mulA gr_mul (se_var (pv 7)) (se_var (pv 5))) (se_op op_mulA gr_mul (se_var (pv 9)) (se_var (pv 6)))))))) sb_nil)))
  (sb_one (ss_ret (se_var (pv 2))))))
/-! ### _law_covers -/
def N__law_covers : List Str := ["_law_lot_here", "_law_row", "_law_fold", "_law_one"]
theorem sc__law_covers : FnScope N__law_covers ["_law_lot_here", "_law_row", "_law_fold"] (defScope st__law_covers) := ⟨rfl, rfl, rfl, by decide +kernel, rfl, by decide +kernel, by decide +kernel⟩
theorem ok__law_covers (B : Bl mg) (C : Cn K mg) (L : Lf K cl)  {f__law_left : Addr} {fd__law_left : FuncData} (h__law_left : At P w K cl mg base 2 "_law_left" st__law_left ["_law_lot_here", "_law_row"] f__law_left fd__law_left G__law_left)   {f : Addr} {fd : FuncData} (F_ : Fun K "_law_covers" "_law_covers" st__law_covers f fd) : SF P w K cl mg base 4 f fd ["_law_lot_here", "_law_row", "_law_fold"] F__law_covers := by
  refine sf_mk F_ sc__law_covers rfl rfl fun cdv A outer s H E hr => ?_
  have hu := hu64 hr
  have hu5 := hu65 hr
  have tk : Takes (cxOf (L2.CX P w) P w K mg base N__law_covers "_law_covers" (defScope st__law_covers) f cdv A outer s H E) (fun cls d _ H => E cls d H) := takes_of rfl rfl rfl rfl
  have hx : Passes (L2.CX P w) (cxOf (L2.CX P w) P w K mg base N__law_covers "_law_covers" (defScope st__law_covers) f cdv A outer s H E) E := passes_call tk fun _ _ _ _ h => h
  have hpo := passes_of (X := (cxOf (L2.CX P w) P w K mg base N__law_covers "_law_covers" (defScope st__law_covers) f cdv A outer s H E)) rfl
  exact (sb_cons (ss_if (st_of (sw_or (st_cmp (op_eqA hu) gr_eq (se_var (pv 2)) se_str (nomark _)) (sw_or1 (st_cmp (op_eqA hu) gr_eq (se_ix (se_var (pv 0)) se_int (fun _ _ => rfl)) (se_lst sa_nil) (nomark _))))) (sb_one (ss_ret (se_cmp (op_inA hu5) gr_in (se_var (pv 1)) (se_ix (se_var (pv 0)) se_int (fun _ _ => rfl)) (by rfl)))) sb_nil)
  (sb_one (ss_ret (se_cmp (op_eqA hu) gr_eq (se_lc (own := [("_law_one", 3)]) rfl (sc__law_covers).nd (si_seq (se_fn h__law_left.ok (hr.mono (by decide)) rfl h__law_left.g h__law_left.F.kp h__law_left.b hx (sa_cons (se_var (pv 0)) (sa_cons (se_var (pv 1)) sa_nil)))) (blkOk_by (own := [("_law_one", 3)]) (N := N__law_covers) (sc := defScope st__law_covers) (by decide +kernel)) (fun _ _ _ _ _ => (sg_name (pg_name (i := 3) (sc__law_covers).nd rfl (by first | exact Or.inl rfl | exact Or.inr rfl)))) (fun _ _ _ _ _ => (sts_one (st_cmp (op_neA hu) gr_ne (se_var (pv 3)) se_int (nomark _)))) (fun _ _ _ _ _ => (se_var (pv 3)))) (se_lst sa_nil) (nomark _)))))
/-! ### _law_keep -/
def N__law_keep : List Str := ["_law_lot_here", "_law_row", "_law_fold", "_law_left_here", "_law_spots", "_law_at"]
theorem sc__law_keep : FnScope N__law_keep ["_law_lot_here", "_law_row", "_law_fold"] (defScope st__law_keep) := ⟨rfl, rfl, rfl, by decide +kernel, rfl, by decide +kernel, by decide +kernel⟩
theorem ok__law_keep (B : Bl mg) (C : Cn K mg) (L : Lf K cl)  {f__law_covers : Addr} {fd__law_covers : FuncData} (h__law_covers : At P w K cl mg base 4 "_law_covers" st__law_covers ["_law_lot_here", "_law_row", "_law_fold"] f__law_covers fd__law_covers G__law_covers) {f__law_left : Addr} {fd__law_left : FuncData} (h__law_left : At P w K cl mg base 2 "_law_left" st__law_left ["_law_lot_here", "_law_row"] f__law_left fd__law_left G__law_left)   {f : Addr} {fd : FuncData} (F_ : Fun K "_law_keep" "_law_keep" st__law_keep f fd) : SF P w K cl mg base 6 f fd ["_law_lot_here", "_law_row", "_law_fold"] F__law_keep := by
  refine sf_mk F_ sc__law_keep rfl rfl fun cdv A outer s H E hr => ?_
  have hu := hu64 hr
  have hu5 := hu65 hr
  have tk : Takes (cxOf (L2.CX P w) P w K mg base N__law_keep "_law_keep" (defScope st__law_keep) f cdv A outer s H E) (fun cls d _ H => E cls d H) := takes_of rfl rfl rfl rfl
  have hx : Passes (L2.CX P w) (cxOf (L2.CX P w) P w K mg base N__law_keep "_law_keep" (defScope st__law_keep) f cdv A outer s H E) E := passes_call tk fun _ _ _ _ h => h
  have hpo := passes_of (X := (cxOf (L2.CX P w) P w K mg base N__law_keep "_law_keep" (defScope st__law_keep) f cdv A outer s H E)) rfl
  exact (sb_cons (ss_if (st_truth (se_fn h__law_covers.ok (hr.mono (by decide)) rfl h__law_covers.g h__law_covers.F.kp h__law_covers.b hx (sa_cons (se_var (pv 0)) (sa_cons (se_var (pv 1)) (sa_cons (se_var (pv 2)) sa_nil)))) (fun _ => rfl)) (sb_one (ss_ret se_bl)) sb_nil)
  (sb_cons (ss_if (st_of (sw_and (st_cmp (op_eqA hu) gr_eq (se_var (pv 2)) se_str (nomark _)) (sw_and1 (st_cmp (op_neA hu) gr_ne (se_ix (se_var (pv 0)) se_int (fun _ _ => rfl)) (se_lst sa_nil) (nomark _))))) (sb_cons (ss_set (i := 3) (sc__law_keep).nd rfl (by first | exact Or.inl rfl | exact Or.inr rfl) (se_fn h__law_left.ok (hr.mono (by decide)) rfl h__law_left.g h__law_left.F.kp h__law_left.b hx (sa_cons (se_var (pv 0)) (sa_cons (se_var (pv 1)) sa_nil))))
  (sb_cons (ss_setLc (i := 4) (own := [("_law_at", 5)]) rfl (sc__law_keep).nd rfl rfl (sw_true rfl rfl rfl (by decide +kernel)) (si_rng1 rfl B.b_range (se_len rfl B.b_len (sa_cons (se_var (pv 3)) sa_nil))) (blkOk_by (own := [("_law_at", 5)]) (N := N__law_keep) (sc := defScope st__law_keep) (by decide +kernel)) (fun _ _ _ _ _ => (sg_name (pg_name (i := 5) (sc__law_keep).nd rfl (by first | exact Or.inl rfl | exact Or.inr rfl)))) (fun _ _ _ _ _ => (sts_one (st_cmp (op_neA hu) gr_ne (se_ix (se_var (pv 3)) (se_var (pv 5)) (fun _ _ => rfl)) se_int (nomark _)))) (fun _ _ _ _ _ => (se_var (pv 5))))
  (sb_one (ss_expr (se_append (se_ix (se_var (pv 0)) se_int (fun _ _ => rfl)) (se_tup (sa_cons (se_ix (se_var (pv 4)) se_int (fun _ _ => rfl)) (sa_cons (se_var (pv 3)) sa_nil)))))))) sb_nil)
  (sb_cons (ss_expr (se_append (se_ix (se_var (pv 0)) se_int (fun _ _ => rfl)) (se_var (pv 1))))
  (sb_one (ss_ret se_bl)))))
/-! ### _law_lot -/
def N__law_lot : List Str := ["_law_rows", "_law_fold", "_law_lot_here", "_law_row"]
theorem sc__law_lot : FnScope N__law_lot ["_law_rows", "_law_fold"] (defScope st__law_lot) := ⟨rfl, rfl, rfl, by decide +kernel, rfl, by decide +kernel, by decide +kernel⟩
theorem ok__law_lot (B : Bl mg) (C : Cn K mg) (L : Lf K cl)  {f__law_keep : Addr} {fd__law_keep : FuncData} (h__law_keep : At P w K cl mg base 6 "_law_keep" st__law_keep ["_law_lot_here", "_law_row", "_law_fold"] f__law_keep fd__law_keep G__law_keep)   {f : Addr} {fd : FuncData} (F_ : Fun K "_law_lot" "_law_lot" st__law_lot f fd) : SF P w K cl mg base 8 f fd ["_law_rows", "_law_fold"] F__law_lot := by
  refine sf_mk F_ sc__law_lot rfl rfl fun cdv A outer s H E hr => ?_
  have hu := hu64 hr
  have hu5 := hu65 hr
  have tk : Takes (cxOf (L2.CX P w) P w K mg base N__law_lot "_law_lot" (defScope st__law_lot) f cdv A outer s H E) (fun cls d _ H => E cls d H) := takes_of rfl rfl rfl rfl
  have hx : Passes (L2.CX P w) (cxOf (L2.CX P w) P w K mg base N__law_lot "_law_lot" (defScope st__law_lot) f cdv A outer s H E) E := passes_call tk fun _ _ _ _ h => h
  have hpo := passes_of (X := (cxOf (L2.CX P w) P w K mg base N__law_lot "_law_lot" (defScope st__law_lot) f cdv A outer s H E)) rfl
  exact (sb_cons (ss_set (i := 2) (sc__law_lot).nd rfl (by first | exact Or.inl rfl | exact Or.inr rfl) (se_lst (sa_cons (se_lstM sa_nil) (sa_cons (se_lstM sa_nil) sa_nil))))
  (sb_cons (ss_for hpo rfl (si_seq (se_var (pv 0))) (sg_name (pg_name (i := 3) (sc__law_lot).nd rfl (by first | exact Or.inl rfl | exact Or.inr rfl))) (sb_one (ss_expr (se_fn h__law_keep.ok (hr.mono (by decide)) rfl h__law_keep.g h__law_keep.F.kp h__law_keep.b hx (sa_cons (se_var (pv 2)) (sa_cons (se_var (pv 3)) (sa_cons (se_var (pv 1)) sa_nil)))))))
  (sb_one (ss_ret (se_var (pv 2))))))
/-! ### Hull.__len__ -/
def N_Hull___len__ : List Str := ["self"]
theorem sc_Hull___len__ : FnScope N_Hull___len__ ["self"] (defScope st_Hull___len__) := ⟨rfl, rfl, rfl, by decide +kernel, rfl, by decide +kernel, by decide +kernel⟩
theorem ok_Hull___len__ (B : Bl mg) (C : Cn K mg) (L : Lf K cl)     {f : Addr} {fd : FuncData} (F_ : Fun K "__len__" "Hull.__len__" st_Hull___len__ f fd) : SF P w K cl mg base 2 f fd ["self"] F_Hull___len__ := by
  refine sf_mk F_ sc_Hull___len__ rfl rfl fun cdv A outer s H E hr => ?_
  have hu := hu64 hr
  have hu5 := hu65 hr
  have tk : Takes (cxOf (L2.CX P w) P w K mg base N_Hull___len__ "Hull.__len__" (defScope st_Hull___len__) f cdv A outer s H E) (fun cls d _ H => E cls d H) := takes_of rfl rfl rfl rfl
  have hx : Passes (L2.CX P w) (cxOf (L2.CX P w) P w K mg base N_Hull___len__ "Hull.__len__" (defScope st_Hull___len__) f cdv A outer s H E) E := passes_call tk fun _ _ _ _ h => h
  have hpo := passes_of (X := (cxOf (L2.CX P w) P w K mg base N_Hull___len__ "Hull.__len__" (defScope st_Hull___len__) f cdv A outer s H E)) rfl
  exact (sb_one (ss_ret (se_len rfl B.b_len (sa_cons (se_fld (se_var (pv 0)) L.f_own_rows) sa_nil))))
/-! ### _law_wide_so -/
def N__law_wide_so_R : List Str := ["_law_row", "_law_at", "_law_made", "_law_wide", "_law_k", "_law_unit", "_law_late", "_law_bent", "_law_place"]
theorem sc__law_wide_so_R : FnScope N__law_wide_so_R ["_law_row", "_law_at"] (defScope st__law_wide_so_R) := ⟨rfl, rfl, rfl, by decide +kernel, rfl, by decide +kernel, by decide +kernel⟩
def M__law_wide_so_R : En → Wd → SR :=
  (mSeq (mPar 2 3 (aCons (mMake "Hull" G_Hull___init___R [0, 1] [] (aCons (mC (.int 10)) aNil) aNil) (aCons (mMake "Hull" G_Hull___init___R [0, 1] [] (aCons (mC (.int 10)) aNil) aNil) aNil)))
  (mSeq (mFor (mRng (aCons (mC (.int 11)) aNil)) (gNm 4) (mSeq (mAsg (mCall gTupOf (aCons (mLc (mRng (aCons (mC (.int 10)) aNil)) [8] (gNm 8) bYes (mIf (asB (mOp gEq (mVar 4) (mVar 8))) (mC (.int 1)) (mC (.int 0)))) aNil)) (gNm 5))
  (mSeq (mExpr (mMeth "Hull" "take" G_Hull_take_R (mVar 3) (aCons (mVar 5) aNil)))
  (mIfS (asB (mOp gNe (mVar 4) (mVar 1))) (mExpr (mMeth "Hull" "take" G_Hull_take_R (mVar 2) (aCons (mVar 5) aNil))) mNext))))
  (mSeq (mAsg (mCall gTupOf (aCons (mOp gAdd (mOp gAdd (mSl (mVar 0) oNone (oSome (mVar 1))) (mLst (aCons (mC (.int 0)) aNil))) (mSl (mVar 0) (oSome (mOp gAdd (mVar 1) (mC (.int 1)))) oNone)) aNil)) (gNm 6))
  (mSeq (mAsg (mCall gTupOf (aCons (mOp gAdd (mOp gAdd (mSl (mVar 0) oNone (oSome (mVar 1))) (mLst (aCons (mC (.int 1)) aNil))) (mSl (mVar 0) (oSome (mOp gAdd (mVar 1) (mC (.int 1)))) oNone)) aNil)) (gNm 7))
  (mRet (mCall G__law_same (aCons (mLst (aCons (mOp (gOwnIn "Hull" G_Hull___contains__) (mVar 6) (mVar 2)) (aCons (mOp (gOwnIn "Hull" G_Hull___contains__) (mVar 7) (mVar 2)) (aCons (mOp (gOwnIn "Hull" G_Hull___contains__) (mVar 7) (mVar 3)) (aCons (mCall (gLenO "Hull" G_Hull___len__) (aCons (mVar 2) aNil)) (aCons (mCall (gLenO "Hull" G_Hull___len__) (aCons (mVar 3) aNil)) aNil)))))) (aCons (mLst (aCons (mC (.bl true)) (aCons (mC (.bl false)) (aCons (mC (.bl true)) (aCons (mC (.int 10)) (aCons (mC (.int 11)) aNil)))))) aNil))))))))
def F__law_wide_so_R : List D → Wd → R D := fnD 9 2 M__law_wide_so_R
theorem ok__law_wide_so_R (B : Bl mg) (C : Cn K mg) (L : Lf K cl) {C_Hull : Addr} (c_Hull : ClO K cl "Hull" C_Hull) {f_Hull___init___R : Addr} {fd_Hull___init___R : FuncData} (h_Hull___init___R : AtI P w K cl mg base 4 C_Hull "Hull" ["self", "size"] f_Hull___init___R fd_Hull___init___R G_Hull___init___R) {f_Hull_take_R : Addr} {fd_Hull_take_R : FuncData} (h_Hull_take_R : AtM P w K cl mg base 8 C_Hull "take" "Hull.take" st_Hull_take_R ["self", "row"] f_Hull_take_R fd_Hull_take_R G_Hull_take_R) {f_Hull___len__ : Addr} {fd_Hull___len__ : FuncData} (h_Hull___len__ : AtM P w K cl mg base 2 C_Hull "__len__" "Hull.__len__" st_Hull___len__ ["self"] f_Hull___len__ fd_Hull___len__ G_Hull___len__) {f_Hull___contains__ : Addr} {fd_Hull___contains__ : FuncData} (h_Hull___contains__ : AtM P w K cl mg base 8 C_Hull "__contains__" "Hull.__contains__" st_Hull___contains__ ["self", "value"] f_Hull___contains__ fd_Hull___contains__ G_Hull___contains__) {f__law_same : Addr} {fd__law_same : FuncData} (h__law_same : At P w K cl mg base 6 "_law_same" st__law_same ["_law_found", "_law_due"] f__law_same fd__law_same G__law_same)   {f : Addr} {fd : FuncData} (F_ : Fun K "_law_wide_so" "_law_wide_so" st__law_wide_so_R f fd) : SF P w K cl mg base 10 f fd ["_law_row", "_law_at"] F__law_wide_so_R := by
  refine sf_mk F_ sc__law_wide_so_R rfl rfl fun cdv A outer s H E hr => ?_
  have hu := hu64 hr
  have hu5 := hu65 hr
  have tk : Takes (cxOf (L2.CX P w) P w K mg base N__law_wide_so_R "_law_wide_so" (defScope st__law_wide_so_R) f cdv A outer s H E) (fun cls d _ H => E cls d H) := takes_of rfl rfl rfl rfl
  have hx : Passes (L2.CX P w) (cxOf (L2.CX P w) P w K mg base N__law_wide_so_R "_law_wide_so" (defScope st__law_wide_so_R) f cdv A outer s H E) E := passes_call tk fun _ _ _ _ h => h
  have hpo := passes_of (X := (cxOf (L2.CX P w) P w K mg base N__law_wide_so_R "_law_wide_so" (defScope st__law_wide_so_R) f cdv A outer s H E)) rfl
  exact (sb_cons (ss_par (i := 2) (j := 3) rfl (sc__law_wide_so_R).nd rfl rfl (by decide) rfl rfl (sa_cons (se_make1 c_Hull.e h_Hull___init___R.M h_Hull___init___R.ok (hr.mono (by decide)) (by rfl) h_Hull___init___R.g h_Hull___init___R.b hx (sa_cons se_int sa_nil) (aCons_len (fun _ _ _ _ => aNil_len)) permL_2) (sa_cons (se_make1 c_Hull.e h_Hull___init___R.M h_Hull___init___R.ok (hr.mono (by decide)) (by rfl) h_Hull___init___R.g h_Hull___init___R.b hx (sa_cons se_int sa_nil) (aCons_len (fun _ _ _ _ => aNil_len)) permL_2) sa_nil)) (by rfl))
  (sb_cons (ss_for hpo rfl (si_rng1 rfl B.b_range se_int) (sg_name (pg_name (i := 4) (sc__law_wide_so_R).nd rfl (by first | exact Or.inl rfl | exact Or.inr rfl))) (sb_cons (ss_set (i := 5) (sc__law_wide_so_R).nd rfl (by first | exact Or.inl rfl | exact Or.inr rfl) (se_tupleC rfl B.b_tuple (sa_cons (se_lc (own := [("_law_place", 8)]) rfl (sc__law_wide_so_R).nd (si_rng1 rfl B.b_range se_int) (blkOk_by (own := [("_law_place", 8)]) (N := N__law_wide_so_R) (sc := defScope st__law_wide_so_R) (by decide +kernel)) (fun _ _ _ _ _ => (sg_name (pg_name (i := 8) (sc__law_wide_so_R).nd rfl (by first | exact Or.inl rfl | exact Or.inr rfl)))) (fun _ _ _ _ _ => sts_nil) (fun _ _ _ _ _ => (se_if (st_cmp (op_eqA hu) gr_eq (se_var (pv 4)) (se_var (pv 8)) (nomark _)) se_int se_int))) sa_nil)))
  (sb_cons (ss_expr (se_meth (se_var (pv 3)) c_Hull.e c_Hull.c h_Hull_take_R.m h_Hull_take_R.ok (hr.mono (by decide)) h_Hull_take_R.b hx (sa_cons (se_var (pv 5)) sa_nil)))
  (sb_one (ss_if (st_cmp (op_neA hu) gr_ne (se_var (pv 4)) (se_var (pv 1)) (nomark _)) (sb_one (ss_expr (se_meth (se_var (pv 2)) c_Hull.e c_Hull.c h_Hull_take_R.m h_Hull_take_R.ok (hr.mono (by decide)) h_Hull_take_R.b hx (sa_cons (se_var (pv 5)) sa_nil)))) sb_nil)))))
  (sb_cons (ss_set (i := 6) (sc__law_wide_so_R).nd rfl (by first | exact Or.inl rfl | exact Or.inr rfl) (se_tupleC rfl B.b_tuple (sa_cons (se_op op_addA gr_add (se_op op_addA gr_add (se_slice (se_var (pv 0)) so_none (so_some (se_var (pv 1)))) (se_lst (sa_cons se_int sa_nil))) (se_slice (se_var (pv 0)) (so_some (se_op op_addA gr_add (se_var (pv 1)) se_int)) so_none)) sa_nil)))
  (sb_cons (ss_set (i := 7) (sc__law_wide_so_R).nd rfl (by first | exact Or.inl rfl | exact Or.inr rfl) (se_tupleC rfl B.b_tuple (sa_cons (se_op op_addA gr_add (se_op op_addA gr_add (se_slice (se_var (pv 0)) so_none (so_some (se_var (pv 1)))) (se_lst (sa_cons se_int sa_nil))) (se_slice (se_var (pv 0)) (so_some (se_op op_addA gr_add (se_var (pv 1)) se_int)) so_none)) sa_nil)))
  (sb_one (ss_ret (se_fn h__law_same.ok (hr.mono (by decide)) rfl h__law_same.g h__law_same.F.kp h__law_same.b hx (sa_cons (se_lst (sa_cons (se_cmp (ops_in h_Hull___contains__.m h_Hull___contains__.ok h_Hull___contains__.b (hr.mono (by decide))) (gr_ownIn c_Hull.e) (se_var (pv 6)) (se_var (pv 2)) (by rfl)) (sa_cons (se_cmp (ops_in h_Hull___contains__.m h_Hull___contains__.ok h_Hull___contains__.b (hr.mono (by decide))) (gr_ownIn c_Hull.e) (se_var (pv 7)) (se_var (pv 2)) (by rfl)) (sa_cons (se_cmp (ops_in h_Hull___contains__.m h_Hull___contains__.ok h_Hull___contains__.b (hr.mono (by decide))) (gr_ownIn c_Hull.e) (se_var (pv 7)) (se_var (pv 3)) (by rfl)) (sa_cons (se_lenO c_Hull.e h_Hull___len__.m h_Hull___len__.ok (hr.mono (by decide)) h_Hull___len__.b hx rfl B.b_len (sa_cons (se_var (pv 2)) sa_nil)) (sa_cons (se_lenO c_Hull.e h_Hull___len__.m h_Hull___len__.ok (hr.mono (by decide)) h_Hull___len__.b hx rfl B.b_len (sa_cons (se_var (pv 3)) sa_nil)) sa_nil)))))) (sa_cons (se_lst (sa_cons se_bl (sa_cons se_bl (sa_cons se_bl (sa_cons se_int (sa_cons se_int sa_nil)))))) sa_nil)))))))))
abbrev G__law_wide_so_R := F__law_wide_so_R
/-! ### law -/
def N_law : List Str := ["_law_script", "_law_bag_here", "_law_turn", "_law_size", "_law_rows", "_law_made", "_law_lot_here", "_law_row", "_law_again", "_law_factors", "_law_late", "_law_at", "_law_bent", "_law_one", "_law_two", "_law_middle", "_law_even", "_law_k", "_law_factor", "_law_a", "_law_b"]
theorem sc_law : FnScope N_law ["_law_script"] (defScope st_law) := ⟨rfl, rfl, rfl, by decide +kernel, rfl, by decide +kernel, by decide +kernel⟩
def M_law : En → Wd → SR :=
  (mSeq (mAsg (mCall G__law_bag (aCons (mVar 0) aNil)) (gNm 1))
  (mSeq (mFor (mRng (aCons (mC (.int 4)) aNil)) (gNm 2) (mSeq (mAsg (mOp gAdd (mC (.int 1)) (mCall G__law_draw (aCons (mVar 1) (aCons (mC (.int 6)) aNil)))) (gNm 3))
  (mSeq (mAsg (mLc (mRng (aCons (mOp gAdd (mC (.int 1)) (mCall G__law_draw (aCons (mVar 1) (aCons (mC (.int 4)) aNil)))) aNil)) [8] (gNm 8) bYes (mCall gTupOf (aCons (mLc (mRng (aCons (mVar 3) aNil)) [17] (gNm 17) bYes (mIf (asB (mOp gEq (mCall G__law_draw (aCons (mVar 1) (aCons (mC (.int 3)) aNil))) (mC (.int 0)))) (mOp gSub (mCall G__law_draw (aCons (mVar 1) (aCons (mOp gPow (mC (.int 10)) (mC (.int 9))) aNil))) (mOp gMul (mC (.int 5)) (mOp gPow (mC (.int 10)) (mC (.int 8))))) (mCall G__law_draw (aCons (mVar 1) (aCons (mC (.int 5)) aNil))))) aNil))) (gNm 4))
  (mSeq (mPar 5 6 (aCons (mMake "Hull" G_Hull___init___R [0, 1] [] (aCons (mVar 3) aNil) aNil) (aCons (mCall G__law_lot (aCons (mVar 4) (aCons (mC (.str "sum")) aNil))) aNil)))
  (mSeq (mFor (mIter (mVar 4)) (gNm 7) (mExpr (mMeth "Hull" "take" G_Hull_take_R (mVar 5) (aCons (mVar 7) aNil))))
  (mSeq (mFor (mRng (aCons (mC (.int 3)) aNil)) (gNm 8) (mSeq (mAsg (mLc (mIter (mSl (mVar 4) (oSome (mC (.int 1))) oNone)) [7] (gNm 7) bYes (mOp gSub (mCall G__law_draw (aCons (mVar 1) (aCons (mC (.int 21)) aNil))) (mC (.int 10)))) (gNm 9))
  (mSeq (mAsg (mOp gAdd (mLst (aCons (mOp gSub (mC (.int 1)) (mCall gSum (aCons (mVar 9) aNil))) aNil)) (mVar 9)) (gNm 9))
  (mSeq (mAsg (mCall gTupOf (aCons (mLc (mRng (aCons (mVar 3) aNil)) [17] (gNm 17) bYes (mCall gSum (aCons (mLc (mZip (aCons (mVar 9) (aCons (mVar 4) aNil))) [18, 7] (gTupD 2 (gConsD (gNm 18) (gConsD (gNm 7) gNilD))) bYes (mOp gMul (mVar 18) (mOp gIx (mVar 7) (mVar 17)))) aNil))) aNil)) (gNm 10))
  (mSeq (mAsg (mCall G__law_draw (aCons (mVar 1) (aCons (mVar 3) aNil))) (gNm 11))
  (mSeq (mAsg (mOp gAdd (mOp gAdd (mSl (mVar 10) oNone (oSome (mVar 11))) (mTup (aCons (mOp gAdd (mOp gIx (mVar 10) (mVar 11)) (mC (.int 1))) aNil))) (mSl (mVar 10) (oSome (mOp gAdd (mVar 11) (mC (.int 1)))) oNone)) (gNm 12))
  (mIfS (bNot (mTru (mCall G__law_same (aCons (mLst (aCons (mOp (gOwnIn "Hull" G_Hull___contains__) (mVar 10) (mVar 5)) (aCons (mOp (gOwnIn "Hull" G_Hull___contains__) (mVar 12) (mVar 5)) aNil))) (aCons (mLst (aCons (mC (.bl true)) (aCons (mCall G__law_covers (aCons (mVar 6) (aCons (mVar 12) (aCons (mC (.str "sum")) aNil)))) aNil))) aNil))))) (mRet (mC (.bl false))) mNext)))))))
  (mSeq (mPar 13 14 (aCons (mOp gIx (mVar 4) (mC (.int 0))) (aCons (mCall G__law_of (aCons (mVar 1) (aCons (mVar 4) aNil))) aNil)))
  (mSeq (mAsg (mCall gTupOf (aCons (mLc (mZip (aCons (mVar 13) (aCons (mVar 14) aNil))) [19, 20] (gTupD 2 (gConsD (gNm 19) (gConsD (gNm 20) gNilD))) bYes (mOp gDiv (mOp gAdd (mVar 19) (mVar 20)) (mC (.int 2)))) aNil)) (gNm 15))
  (mSeq (mAsg (mCall gAll (aCons (mLc (mZip (aCons (mVar 13) (aCons (mVar 14) aNil))) [19, 20] (gTupD 2 (gConsD (gNm 19) (gConsD (gNm 20) gNilD))) bYes (mOp gEq (mOp gMod (mCall gInt (aCons (mOp gAdd (mVar 19) (mVar 20)) aNil)) (mC (.int 2))) (mC (.int 0)))) aNil)) (gNm 16))
  (mIfS (bOr (bAnd (mTru (mVar 16)) (bNot (asB (mOp (gOwnIn "Hull" G_Hull___contains__) (mVar 15) (mVar 5))))) (bAnd (asB (mOp (gOwnIn "Hull" G_Hull___contains__) (mVar 15) (mVar 5))) (bNot (mTru (mCall G__law_covers (aCons (mVar 6) (aCons (mVar 15) (aCons (mC (.str "sum")) aNil)))))))) (mRet (mC (.bl false))) mNext))))))))))
  (mRet (mCall G__law_wide_so_R (aCons (mLc (mRng (aCons (mC (.int 10)) aNil)) [17] (gNm 17) bYes (mCall G__law_draw (aCons (mVar 1) (aCons (mOp gPow (mC (.int 10)) (mC (.int 6))) aNil)))) (aCons (mCall G__law_draw (aCons (mVar 1) (aCons (mC (.int 10)) aNil))) aNil))))))
def F_law : List D → Wd → R D := fnD 21 1 M_law
theorem ok_law (B : Bl mg) (C : Cn K mg) (L : Lf K cl) {C_Hull : Addr} (c_Hull : ClO K cl "Hull" C_Hull) {f__law_bag : Addr} {fd__law_bag : FuncData} (h__law_bag : At P w K cl mg base 2 "_law_bag" st__law_bag ["_law_script"] f__law_bag fd__law_bag G__law_bag) {f__law_draw : Addr} {fd__law_draw : FuncData} (h__law_draw : At P w K cl mg base 2 "_law_draw" st__law_draw ["_law_bag_here", "_law_many"] f__law_draw fd__law_draw G__law_draw) {f__law_lot : Addr} {fd__law_lot : FuncData} (h__law_lot : At P w K cl mg base 8 "_law_lot" st__law_lot ["_law_rows", "_law_fold"] f__law_lot fd__law_lot G__law_lot) {f_Hull___init___R : Addr} {fd_Hull___init___R : FuncData} (h_Hull___init___R : AtI P w K cl mg base 4 C_Hull "Hull" ["self", "size"] f_Hull___init___R fd_Hull___init___R G_Hull___init___R) {f_Hull_take_R : Addr} {fd_Hull_take_R : FuncData} (h_Hull_take_R : AtM P w K cl mg base 8 C_Hull "take" "Hull.take" st_Hull_take_R ["self", "row"] f_Hull_take_R fd_Hull_take_R G_Hull_take_R) {f__law_covers : Addr} {fd__law_covers : FuncData} (h__law_covers : At P w K cl mg base 4 "_law_covers" st__law_covers ["_law_lot_here", "_law_row", "_law_fold"] f__law_covers fd__law_covers G__law_covers) {f_Hull___contains__ : Addr} {fd_Hull___contains__ : FuncData} (h_Hull___contains__ : AtM P w K cl mg base 8 C_Hull "__contains__" "Hull.__contains__" st_Hull___contains__ ["self", "value"] f_Hull___contains__ fd_Hull___contains__ G_Hull___contains__) {f__law_same : Addr} {fd__law_same : FuncData} (h__law_same : At P w K cl mg base 6 "_law_same" st__law_same ["_law_found", "_law_due"] f__law_same fd__law_same G__law_same) {f__law_of : Addr} {fd__law_of : FuncData} (h__law_of : At P w K cl mg base 4 "_law_of" st__law_of ["_law_bag_here", "_law_some"] f__law_of fd__law_of G__law_of) {f__law_wide_so_R : Addr} {fd__law_wide_so_R : FuncData} (h__law_wide_so_R : At P w K cl mg base 10 "_law_wide_so" st__law_wide_so_R ["_law_row", "_law_at"] f__law_wide_so_R fd__law_wide_so_R G__law_wide_so_R)   {f : Addr} {fd : FuncData} (F_ : Fun K "law" "law" st_law f fd) : SF P w K cl mg base 12 f fd ["_law_script"] F_law := by
  refine sf_mk F_ sc_law rfl rfl fun cdv A outer s H E hr => ?_
  have hu := hu64 hr
  have hu5 := hu65 hr
  have tk : Takes (cxOf (L2.CX P w) P w K mg base N_law "law" (defScope st_law) f cdv A outer s H E) (fun cls d _ H => E cls d H) := takes_of rfl rfl rfl rfl
  have hx : Passes (L2.CX P w) (cxOf (L2.CX P w) P w K mg base N_law "law" (defScope st_law) f cdv A outer s H E) E := passes_call tk fun _ _ _ _ h => h
  have hpo := passes_of (X := (cxOf (L2.CX P w) P w K mg base N_law "law" (defScope st_law) f cdv A outer s H E)) rfl
  exact (sb_cons (ss_set (i := 1) (sc_law).nd rfl (by first | exact Or.inl rfl | exact Or.inr rfl) (se_fn h__law_bag.ok (hr.mono (by decide)) rfl h__law_bag.g h__law_bag.F.kp h__law_bag.b hx (sa_cons (se_var (pv 0)) sa_nil)))
  (sb_cons (ss_for hpo rfl (si_rng1 rfl B.b_range se_int) (sg_name (pg_name (i := 2) (sc_law).nd rfl (by first | exact Or.inl rfl | exact Or.inr rfl))) (sb_cons (ss_set (i := 3) (sc_law).nd rfl (by first | exact Or.inl rfl | exact Or.inr rfl) (se_op op_addA gr_add se_int (se_fn h__law_draw.ok (hr.mono (by decide)) rfl h__law_draw.g h__law_draw.F.kp h__law_draw.b hx (sa_cons (se_var (pv 1)) (sa_cons se_int sa_nil)))))
  (sb_cons (ss_set (i := 4) (sc_law).nd rfl (by first | exact Or.inl rfl | exact Or.inr rfl) (se_lc (own := [("_law_again", 8)]) rfl (sc_law).nd (si_rng1 rfl B.b_range (se_op op_addA gr_add se_int (se_fn h__law_draw.ok (hr.mono (by decide)) rfl h__law_draw.g h__law_draw.F.kp h__law_draw.b hx (sa_cons (se_var (pv 1)) (sa_cons se_int sa_nil))))) (blkOk_by (own := [("_law_again", 8)]) (N := N_law) (sc := defScope st_law) (by decide +kernel)) (fun _ _ _ _ _ => (sg_name (pg_name (i := 8) (sc_law).nd rfl (by first | exact Or.inl rfl | exact Or.inr rfl)))) (fun _ _ _ _ _ => sts_nil) (fun _ _ _ _ _ => (se_tupleC rfl B.b_tuple (sa_cons (se_lc (own := [("_law_k", 17)]) rfl (sc_law).nd (si_rng1 rfl B.b_range (se_var (pv 3))) (blkOk_by (own := [("_law_k", 17)]) (by kernel_rfl)) (fun _ _ _ _ _ => (sg_name (pg_name (i := 17) (sc_law).nd rfl (by first | exact Or.inl rfl | exact Or.inr rfl)))) (fun _ _ _ _ _ => sts_nil) (fun _ _ _ _ _ => (se_if (st_cmp (op_eqA hu) gr_eq (se_fn h__law_draw.ok (hr.mono (by decide)) rfl h__law_draw.g h__law_draw.F.kp h__law_draw.b passL (sa_cons (se_var (pv 1)) (sa_cons se_int sa_nil))) se_int (nomark _)) (se_op op_sub gr_sub (se_fn h__law_draw.ok (hr.mono (by decide)) rfl h__law_draw.g h__law_draw.F.kp h__law_draw.b passL (sa_cons (se_var (pv 1)) (sa_cons (se_op op_pow gr_pow se_int se_int) sa_nil))) (se_op op_mulA gr_mul se_int (se_op op_pow gr_pow se_int se_int))) (se_fn h__law_draw.ok (hr.mono (by decide)) rfl h__law_draw.g h__law_draw.F.kp h__law_draw.b passL (sa_cons (se_var (pv 1)) (sa_cons se_int sa_nil)))))) sa_nil)))))
  (sb_cons (ss_par (i := 5) (j := 6) rfl (sc_law).nd rfl rfl (by decide) rfl rfl (sa_cons (se_make1 c_Hull.e h_Hull___init___R.M h_Hull___init___R.ok (hr.mono (by decide)) (by rfl) h_Hull___init___R.g h_Hull___init___R.b hx (sa_cons (se_var (pv 3)) sa_nil) (aCons_len (fun _ _ _ _ => aNil_len)) permL_2) (sa_cons (se_fn h__law_lot.ok (hr.mono (by decide)) rfl h__law_lot.g h__law_lot.F.kp h__law_lot.b hx (sa_cons (se_var (pv 4)) (sa_cons se_str sa_nil))) sa_nil)) (by rfl))
  (sb_cons (ss_for hpo rfl (si_seq (se_var (pv 4))) (sg_name (pg_name (i := 7) (sc_law).nd rfl (by first | exact Or.inl rfl | exact Or.inr rfl))) (sb_one (ss_expr (se_meth (se_var (pv 5)) c_Hull.e c_Hull.c h_Hull_take_R.m h_Hull_take_R.ok (hr.mono (by decide)) h_Hull_take_R.b hx (sa_cons (se_var (pv 7)) sa_nil)))))
  (sb_cons (ss_for hpo rfl (si_rng1 rfl B.b_range se_int) (sg_name (pg_name (i := 8) (sc_law).nd rfl (by first | exact Or.inl rfl | exact Or.inr rfl))) (sb_cons (ss_set (i := 9) (sc_law).nd rfl (by first | exact Or.inl rfl | exact Or.inr rfl) (se_lc (own := [("_law_row", 7)]) rfl (sc_law).nd (si_seq (se_slice (se_var (pv 4)) (so_some se_int) so_none)) (blkOk_by (own := [("_law_row", 7)]) (N := N_law) (sc := defScope st_law) (by decide +kernel)) (fun _ _ _ _ _ => (sg_name (pg_name (i := 7) (sc_law).nd rfl (by first | exact Or.inl rfl | exact Or.inr rfl)))) (fun _ _ _ _ _ => sts_nil) (fun _ _ _ _ _ => (se_op op_sub gr_sub (se_fn h__law_draw.ok (hr.mono (by decide)) rfl h__law_draw.g h__law_draw.F.kp h__law_draw.b passL (sa_cons (se_var (pv 1)) (sa_cons se_int sa_nil))) se_int))))
  (sb_cons (ss_set (i := 9) (sc_law).nd rfl (by first | exact Or.inl rfl | exact Or.inr rfl) (se_op op_addA gr_add (se_lst (sa_cons (se_op op_sub gr_sub se_int (se_sum rfl rfl B.b_sum (sa_cons (se_var (pv 9)) sa_nil))) sa_nil)) (se_var (pv 9))))
  (sb_cons (ss_set (i := 10) (sc_law).nd rfl (by first | exact Or.inl rfl | exact Or.inr rfl) (se_tupleC rfl B.b_tuple (sa_cons (se_lc (own := [("_law_k", 17)]) rfl (sc_law).nd (si_rng1 rfl B.b_range (se_var (pv 3))) (blkOk_by (own := [("_law_k", 17)]) (N := N_law) (sc := defScope st_law) (by decide +kernel)) (fun _ _ _ _ _ => (sg_name (pg_name (i := 17) (sc_law).nd rfl (by first | exact Or.inl rfl | exact Or.inr rfl)))) (fun _ _ _ _ _ => sts_nil) (fun _ _ _ _ _ => (se_sum rfl rfl B.b_sum (sa_cons (se_lc (own := [("_law_factor", 18), ("_law_row", 7)]) rfl (sc_law).nd (si_zip rfl B.b_zip (sa_cons (se_var (pv 9)) (sa_cons (se_var (pv 4)) sa_nil))) (blkOk_by (own := [("_law_factor", 18), ("_law_row", 7)]) (by kernel_rfl)) (fun _ _ _ _ _ => (sg_tup rfl (sgs_cons (sg_name (pg_name (i := 18) (sc_law).nd rfl (by first | exact Or.inl rfl | exact Or.inr rfl))) (sgs_cons (sg_name (pg_name (i := 7) (sc_law).nd rfl (by first | exact Or.inl rfl | exact Or.inr rfl))) sgs_nil)))) (fun _ _ _ _ _ => sts_nil) (fun _ _ _ _ _ => (se_op op_mulA gr_mul (se_var (pv 18)) (se_ix (se_var (pv 7)) (se_var (pv 17)) (fun _ _ => rfl))))) sa_nil)))) sa_nil)))
  (sb_cons (ss_set (i := 11) (sc_law).nd rfl (by first | exact Or.inl rfl | exact Or.inr rfl) (se_fn h__law_draw.ok (hr.mono (by decide)) rfl h__law_draw.g h__law_draw.F.kp h__law_draw.b hx (sa_cons (se_var (pv 1)) (sa_cons (se_var (pv 3)) sa_nil))))
  (sb_cons (ss_set (i := 12) (sc_law).nd rfl (by first | exact Or.inl rfl | exact Or.inr rfl) (se_op op_addA gr_add (se_op op_addA gr_add (se_slice (se_var (pv 10)) so_none (so_some (se_var (pv 11)))) (se_tup (sa_cons (se_op op_addA gr_add (se_ix (se_var (pv 10)) (se_var (pv 11)) (fun _ _ => rfl)) se_int) sa_nil))) (se_slice (se_var (pv 10)) (so_some (se_op op_addA gr_add (se_var (pv 11)) se_int)) so_none)))
  (sb_one (ss_if (st_not (st_truth (se_fn h__law_same.ok (hr.mono (by decide)) rfl h__law_same.g h__law_same.F.kp h__law_same.b hx (sa_cons (se_lst (sa_cons (se_cmp (ops_in h_Hull___contains__.m h_Hull___contains__.ok h_Hull___contains__.b (hr.mono (by decide))) (gr_ownIn c_Hull.e) (se_var (pv 10)) (se_var (pv 5)) (by rfl)) (sa_cons (se_cmp (ops_in h_Hull___contains__.m h_Hull___contains__.ok h_Hull___contains__.b (hr.mono (by decide))) (gr_ownIn c_Hull.e) (se_var (pv 12)) (se_var (pv 5)) (by rfl)) sa_nil))) (sa_cons (se_lst (sa_cons se_bl (sa_cons (se_fn h__law_covers.ok (hr.mono (by decide)) rfl h__law_covers.g h__law_covers.F.kp h__law_covers.b hx (sa_cons (se_var (pv 6)) (sa_cons (se_var (pv 12)) (sa_cons se_str sa_nil)))) sa_nil))) sa_nil))) (fun _ => rfl))) (sb_one (ss_ret se_bl)) sb_nil))))))))
  (sb_cons (ss_par (i := 13) (j := 14) rfl (sc_law).nd rfl rfl (by decide) rfl rfl (sa_cons (se_ix (se_var (pv 4)) se_int (fun _ _ => rfl)) (sa_cons (se_fn h__law_of.ok (hr.mono (by decide)) rfl h__law_of.g h__law_of.F.kp h__law_of.b hx (sa_cons (se_var (pv 1)) (sa_cons (se_var (pv 4)) sa_nil))) sa_nil)) (by rfl))
  (sb_cons (ss_set (i := 15) (sc_law).nd rfl (by first | exact Or.inl rfl | exact Or.inr rfl) (se_tupleC rfl B.b_tuple (sa_cons (se_lc (own := [("_law_a", 19), ("_law_b", 20)]) rfl (sc_law).nd (si_zip rfl B.b_zip (sa_cons (se_var (pv 13)) (sa_cons (se_var (pv 14)) sa_nil))) (blkOk_by (own := [("_law_a", 19), ("_law_b", 20)]) (N := N_law) (sc := defScope st_law) (by decide +kernel)) (fun _ _ _ _ _ => (sg_tup rfl (sgs_cons (sg_name (pg_name (i := 19) (sc_law).nd rfl (by first | exact Or.inl rfl | exact Or.inr rfl))) (sgs_cons (sg_name (pg_name (i := 20) (sc_law).nd rfl (by first | exact Or.inl rfl | exact Or.inr rfl))) sgs_nil)))) (fun _ _ _ _ _ => sts_nil) (fun _ _ _ _ _ => (se_op op_fdivW gr_div (se_op op_addA gr_add (se_var (pv 19)) (se_var (pv 20))) se_int))) sa_nil)))
  (sb_cons (ss_set (i := 16) (sc_law).nd rfl (by first | exact Or.inl rfl | exact Or.inr rfl) (se_all rfl rfl B.b_all (sa_cons (se_lc (own := [("_law_a", 19), ("_law_b", 20)]) rfl (sc_law).nd (si_zip rfl B.b_zip (sa_cons (se_var (pv 13)) (sa_cons (se_var (pv 14)) sa_nil))) (blkOk_by (own := [("_law_a", 19), ("_law_b", 20)]) (N := N_law) (sc := defScope st_law) (by decide +kernel)) (fun _ _ _ _ _ => (sg_tup rfl (sgs_cons (sg_name (pg_name (i := 19) (sc_law).nd rfl (by first | exact Or.inl rfl | exact Or.inr rfl))) (sgs_cons (sg_name (pg_name (i := 20) (sc_law).nd rfl (by first | exact Or.inl rfl | exact Or.inr rfl))) sgs_nil)))) (fun _ _ _ _ _ => sts_nil) (fun _ _ _ _ _ => (se_cmp (op_eqA hu) gr_eq (se_op op_mod gr_mod (se_intC rfl B.b_int (sa_cons (se_op op_addA gr_add (se_var (pv 19)) (se_var (pv 20))) sa_nil)) se_int) se_int (nomark _)))) sa_nil)))
  (sb_one (ss_if (st_of (sw_or (st_of (sw_and (st_truth (se_var (pv 16)) (fun _ => rfl)) (sw_and1 (st_not (st_cmp (ops_in h_Hull___contains__.m h_Hull___contains__.ok h_Hull___contains__.b (hr.mono (by decide))) (gr_ownIn c_Hull.e) (se_var (pv 15)) (se_var (pv 5)) (by rfl)))))) (sw_or1 (st_of (sw_and (st_cmp (ops_in h_Hull___contains__.m h_Hull___contains__.ok h_Hull___contains__.b (hr.mono (by decide))) (gr_ownIn c_Hull.e) (se_var (pv 15)) (se_var (pv 5)) (by rfl)) (sw_and1 (st_not (st_truth (se_fn h__law_covers.ok (hr.mono (by decide)) rfl h__law_covers.g h__law_covers.F.kp h__law_covers.b hx (sa_cons (se_var (pv 6)) (sa_cons (se_var (pv 15)) (sa_cons se_str sa_nil)))) (fun _ => rfl))))))))) (sb_one (ss_ret se_bl)) sb_nil)))))))))))
  (sb_one (ss_ret (se_fn h__law_wide_so_R.ok (hr.mono (by decide)) rfl h__law_wide_so_R.g h__law_wide_so_R.F.kp h__law_wide_so_R.b hx (sa_cons (se_lc (own := [("_law_k", 17)]) rfl (sc_law).nd (si_rng1 rfl B.b_range se_int) (blkOk_by (own := [("_law_k", 17)]) (N := N_law) (sc := defScope st_law) (by decide +kernel)) (fun _ _ _ _ _ => (sg_name (pg_name (i := 17) (sc_law).nd rfl (by first | exact Or.inl rfl | exact Or.inr rfl)))) (fun _ _ _ _ _ => sts_nil) (fun _ _ _ _ _ => (se_fn h__law_draw.ok (hr.mono (by decide)) rfl h__law_draw.g h__law_draw.F.kp h__law_draw.b passL (sa_cons (se_var (pv 1)) (sa_cons (se_op op_pow gr_pow se_int se_int) sa_nil))))) (sa_cons (se_fn h__law_draw.ok (hr.mono (by decide)) rfl h__law_draw.g h__law_draw.F.kp h__law_draw.b hx (sa_cons (se_var (pv 1)) (sa_cons se_int sa_nil))) sa_nil)))))))
end

end
end K13
set_option Elab.async false
set_option linter.all false
set_option autoImplicit false
set_option maxRecDepth 100000
set_option maxHeartbeats 4000000
namespace K13
open PySem L2 L2H LamX PyProof.Rows Si Bk Bh
/-- the slots written out -/
local macro_rules | `(tactic| walk_at "nm_K13b") => `(tactic| (simp only [startD, wipeD, List.foldl_cons, List.foldl_nil, List.set_cons_succ, List.set_cons_zero, List.map_cons, List.map_nil, List.length_cons, List.length_nil, Nat.reduceAdd, Nat.reduceSub, List.replicate_succ, List.replicate_zero, List.cons_append, List.nil_append]; rfl))
/-- one step by the form of the code -/
local macro_rules | `(tactic| walk_at "g1_K13b") => `(tactic| with_reducible first
  | (refine go_idD ?_; first
    | refine go_env (σ := List.set _ _ _) (by walk_at "nm_K13b") ?_ | refine go_var rfl ?_ | refine go_c ?_ | refine go_op ?_ | refine go_call ?_ | refine go_eqS ?_ | refine go_eqI ?_ | refine go_tup ?_ | refine go_lst ?_ | refine go_addI ?_ | refine go_isi ?_ | refine go_and ?_ | refine go_lt ?_ | refine go_le ?_ | refine go_gt ?_ | refine go_ge ?_ | refine go_ixT rfl ?_ | refine go_ixL rfl ?_
    | refine go_lc ?_ | refine go_if ?_ | refine go_not ?_ | refine go_or ?_ | refine go_chain ?_ | refine go_callK ?_ | refine go_lstM ?_ | refine go_neg ?_ | refine go_sl ?_ | refine go_isi2 ?_ | refine go_join ?_ | refine go_app ?_ | refine go_lenSet ?_ | refine go_lcM ?_
    | refine go_subI ?_ | refine go_neI ?_ | refine go_neS ?_ | refine go_lenL ?_ | refine go_lenT ?_ | refine go_lenS (by assumption) ?_
    | refine go_slL ?_ | refine go_slT ?_ | refine go_slS (by assumption) ?_ | refine go_intI ?_ | refine go_lstL ?_ | refine go_lstT ?_ | refine go_tupL ?_ | refine go_tupT ?_ | refine go_isN ?_ | refine go_notN ?_ | refine go_allM ?_ | refine go_max2 ?_ | refine go_min2 ?_)
  | (refine go_idL ?_; first | refine go_cons ?_ | refine go_nil ?_ | refine go_iter ?_ | refine go_rng1 ?_ | refine go_zipG ?_ | refine go_enum ?_ | refine go_star ?_ | refine go_rng2 ?_)
  | (refine gd_id ?_; first | refine gd_env (σ := List.set _ _ _) (by walk_at "nm_K13b") ?_ | refine gd_env (σ := startD _ _) (by walk_at "nm_K13b") ?_ | refine gd_seq ?_ | refine gd_nm ?_ | refine gd_asg ?_ | refine gd_ret ?_ | refine gd_if ?_ | refine gd_next ?_ | refine gd_expr ?_ | refine gd_par ?_ | refine gd_retN ?_ | refine gd_brk ?_ | refine gd_cnt ?_ | refine gd_for ?_)
  | (refine go_idB ?_; first | refine go_asB ?_ | refine go_tru ?_ | refine go_bAnd ?_ | refine go_bOr ?_ | refine go_bNot ?_ | refine go_bYes ?_)
  | (refine br_id ?_; first | refine br_t ?_ | refine br_f ?_ | refine br_not ?_)
  | (refine go_idO ?_; first | refine go_oNone ?_ | refine go_oSome ?_))
local macro_rules | `(tactic| walk_at "g2_K13b") => `(tactic| first
  | with_reducible refine ex_bl ?_ | with_reducible refine ex_int ?_ | with_reducible refine ex_str ?_ | with_reducible refine ex_nm ?_
  | with_reducible refine ex_zipL ?_ | with_reducible refine ex_zipT ?_ | with_reducible refine ex_enum ?_
  | with_reducible refine ex_seq (by with_unfolding_all exact rfl) ?_
  | with_reducible refine ex_tg (by with_unfolding_all exact rfl) ?_
  | with_reducible refine ex_tru (by with_unfolding_all exact rfl) ?_
  | with_reducible refine ex_ty (by with_unfolding_all exact rfl) ?_
  | with_reducible refine ex_it (by with_unfolding_all exact rfl) ?_
  | ((with_reducible refine br_id ?_); first
    | with_reducible refine br_is (b := Si.isNon _) (by with_unfolding_all rfl) ?_ | with_reducible refine br_isnt (b := Si.isNon _) (by with_unfolding_all rfl) ?_
    | with_reducible refine br_is (b := isB _ _) (by with_unfolding_all decide) ?_ | with_reducible refine br_isnt (b := isB _ _) (by with_unfolding_all decide) ?_
    | with_reducible refine br_is (b := isB _ _ || isB _ _) (by with_unfolding_all decide) ?_ | with_reducible refine br_isnt (b := isB _ _ || isB _ _) (by with_unfolding_all decide) ?_
    | with_reducible refine br_y (by decide +kernel) ?_ | with_reducible refine br_n (by decide +kernel) ?_ | with_reducible refine br_y (by with_unfolding_all rfl) ?_ | with_reducible refine br_n (by simp only [List.length_cons, List.length_nil]; omega) ?_)
  | ((with_reducible refine go_idD ?_); first
    | with_reducible refine go_mulL ⟨by decide, by decide⟩ ?_ | with_reducible refine go_mulR ⟨by decide, by decide⟩ ?_ | with_reducible refine go_mod (by decide) ?_ | with_reducible refine go_div (by decide) (by decide) ?_
    | with_reducible refine go_inTt (by decide +kernel) (by decide +kernel) ?_ | with_reducible refine go_inTf (by decide +kernel) (by decide +kernel) ?_ | with_reducible refine go_niTt (by decide +kernel) (by decide +kernel) ?_ | with_reducible refine go_niTf (by decide +kernel) (by decide +kernel) ?_)
  | (with_reducible refine an_le ?hh ?_; case hh => (first | decide | (simp only [List.length_cons, List.length_nil]; omega)))
  | (with_reducible refine an_rng ?hh ?_; case hh => (first | omega | decide))
  | (with_reducible refine an_rng2 ?hh ?_; case hh => (first | omega | decide))
  | fail)
local macro_rules | `(tactic| walk_at "gg_K13b") => `(tactic| repeat' (first | walk_at "g1_K13b" | walk_at "g2_K13b"))

section
variable {X : EX} {Q : D → Wd → Prop} {N B C : En → Wd → Prop} {T : D → Wd → Prop} {w w0 : Wd} {n m b rb lb bb : Nat} {σ : En} {h : Hl} {x r0 : List Int} {rs : List (List Int)}
theorem cut_to {α : Type} {xs : List α} {a : Int} (h0 : 0 ≤ a) : cutD xs none (some a) = xs.take a.toNat := by
  have := cut_mid (xs := xs) (a := 0) (b := a) (by decide) h0
  rw [show ((0 : Int).toNat) = 0 from rfl, List.drop_zero] at this
  rw [← this]
  rfl
theorem cut_le1 {xs : List D} {a : Nat} : (cutD xs none (some (a : Int))).length ≤ xs.length := by
  rw [cut_to (by omega), List.length_take]
  omega
theorem cut_le2 {xs : List D} {a : Nat} : (cutD xs (some ((a : Int) + 1)) none).length ≤ xs.length := by
  rw [cut_from (by omega), List.length_drop]
  omega
theorem bend_V {l : List Int} {a : Nat} {v : Int} (ha : a < l.length) : (cutD (eV l) none (some (a : Int)) ++ [D.int v]) ++ cutD (eV l) (some ((a : Int) + 1)) none = eV (l.set a v) := by
  rw [cut_to (by omega), cut_from (by omega), Int.toNat_natCast, show ((a : Int) + 1).toNat = a + 1 by omega, List.set_eq_take_append_cons_drop, if_pos ha]
  simp [eV]
theorem g_bend {l : List Int} {a : Nat} {v : Int} (ha : a < l.length) (i : Nat) : g (l.set a v) i = if i = a then v else g l i := by
  unfold g
  rw [List.getD_eq_getElem?_getD, List.getElem?_set]
  by_cases e : a = i
  · subst e
    rw [if_pos rfl, if_pos ha, if_pos rfl]
    rfl
  · rw [if_neg e, if_neg (fun q => e q.symm), List.getD_eq_getElem?_getD]
theorem unit_V (k : Nat) : ((List.range 10).map fun p : Nat => D.int (if k = p then 1 else 0)) = eV (unit k) := by
  unfold unit eV
  rw [List.map_map]
  rfl
theorem lenO_go (ha : HlC b rb lb w n h) (hl : h.rows.length < 2 ^ 62) (q : Q (.int h.rows.length) w) : Go X (gLenO "Hull" F_Hull___len__ [.obj b] w) Q := by
  obtain ⟨d, w', e, rfl, rfl⟩ := go_get (len_go ha (Q := fun d w' => d = .int h.rows.length ∧ w' = w) ⟨rfl, rfl⟩)
  exact go_ok (gLenO_ok (insL_of ha.o) e (by omega)) q
theorem _root_.Bk.HlC.keep {rb2 lb2 : Nat} {w1 : Wd} (ha : HlC b rb lb w n h) (hk : ∀ k, k ≠ rb2 → k ≠ lb2 → w1[k]? = w[k]?) (h1 : b ≠ rb2) (h2 : b ≠ lb2) (h3 : rb ≠ rb2) (h4 : rb ≠ lb2) (h5 : lb ≠ rb2) (h6 : lb ≠ lb2) : HlC b rb lb w1 n h :=
  ⟨(hk _ h1 h2).trans ha.o, (hk _ h3 h4).trans ha.r, (hk _ h5 h6).trans ha.l, ha.ne⟩
theorem wide_so_go {row : List Int} {a : Nat} (hl : row.length = 10) (hbd : Bd 20 row) (ha : a < 10) : Go X (F__law_wide_so_R [.lst (eV row), .int (a : Nat)] w) fun d _ => d = .bl true := by
  refine go_fn rfl ?_
  unfold M__law_wide_so_R
  walk_at "gg_K13b"
  refine go_make ?_
  walk_at "gg_K13b"
  refine hull0_go (n := 10) (by decide) (by decide) fun w1 a1 l1 k1 => ⟨rfl, ?_⟩
  refine go_make ?_
  walk_at "gg_K13b"
  refine hull0_go (n := 10) (by decide) (by decide) fun w2 a2 l2 k2 => ⟨rfl, ?_⟩
  have a1' : HlC w.length (w.length + 1) (w.length + 2) w2 10 ⟨[], []⟩ := ⟨(k2 _ (by omega)).trans a1.o, (k2 _ (by omega)).trans a1.r, (k2 _ (by omega)).trans a1.l, a1.ne⟩
  walk_at "gg_K13b"
  refine gd_forL (fun r σ w' => ∃ (L : List Nat) (H1 H2 : Hl) (o4 o5 o6 o7 o8 : Option D), r = L.map (fun i : Nat => D.int (0 + (i : Int))) ∧ σ = [some (.lst (eV row)), some (.int (a : Nat)), some (.obj w.length), some (.obj w1.length), o4, o5, o6, o7, o8] ∧
      ((L.filter fun k => decide (k ≠ a)).map unit).foldl (take short) H1 = hull short (units a) ∧ (L.map unit).foldl (take short) H2 = hull short (units 11) ∧
      HlC w.length (w.length + 1) (w.length + 2) w' 10 H1 ∧ HlC w1.length (w1.length + 1) (w1.length + 2) w' 10 H2 ∧ Inv2 10 0 H1 ∧ Inv2 10 0 H2) ?_ ?_ _ _ _
      ⟨List.range 11, _, _, _, _, _, _, _, rfl, rfl, rfl, rfl, a1', a2, Inv2.start (by decide) (by decide), Inv2.start (by decide) (by decide)⟩
  · rintro d r σ w' ⟨L, H1, H2, o4, o5, o6, o7, o8, e, rfl, e1, e2, a1, a2, i1, i2⟩
    match L, e with
    | k :: L, e =>
      obtain ⟨rfl, rfl⟩ := List.cons.inj e
      walk_at "gg_K13b"
      refine lc_mapT (fun p : Nat => D.int (0 + (p : Int))) (fun p : Nat => D.int (if k = p then 1 else 0)) (List.range 10) (by decide) (fun p hp => ⟨_, rfl, ?_⟩) ?_
      · walk_at "gg_K13b"
        by_cases q : k = p
        · refine br_y (by omega) ?_
          walk_at "gg_K13b"
          exact ⟨by rw [if_pos q], rfl⟩
        · refine br_n (by omega) ?_
          walk_at "gg_K13b"
          exact ⟨by rw [if_neg q], rfl⟩
      rw [unit_V]
      walk_at "gg_K13b"
      refine go_meth (go_var rfl ⟨w1.length, _, rfl, a2.o, rfl, ?_⟩)
      walk_at "gg_K13b"
      refine take_go a2 i2 (unit_len k) (bd_unit k) fun r w3 _ b2 _ k3 => ?_
      have b1 : HlC w.length (w.length + 1) (w.length + 2) w3 10 H1 := a1.keep k3 (by omega) (by omega) (by omega) (by omega) (by omega) (by omega)
      walk_at "gg_K13b"
      by_cases q : k = a
      · refine br_y (by omega) ?_
        walk_at "gg_K13b"
        refine ⟨L, H1, _, _, _, _, _, _, rfl, rfl, ?_, e2, b1, b2, i1, i2.take sb_short (unit_len k) (bd_unit k)⟩
        rw [List.filter_cons, if_neg (by simpa using q)] at e1
        exact e1
      · refine br_n (by omega) ?_
        walk_at "gg_K13b"
        refine go_meth (go_var rfl ⟨w.length, _, rfl, b1.o, rfl, ?_⟩)
        walk_at "gg_K13b"
        refine take_go b1 i1 (unit_len k) (bd_unit k) fun r w4 _ c1 _ k4 => ?_
        have c2 := b2.keep k4 (by omega) (by omega) (by omega) (by omega) (by omega) (by omega)
        refine ⟨L, _, _, _, _, _, _, _, rfl, rfl, ?_, e2, c1, c2, i1.take sb_short (unit_len k) (bd_unit k), i2.take sb_short (unit_len k) (bd_unit k)⟩
        rw [List.filter_cons, if_pos (by simpa using q)] at e1
        exact e1
  · rintro σ w' ⟨L, H1, H2, o4, o5, o6, o7, o8, e, rfl, e1, e2, a1, a2, i1, i2⟩
    have : L = [] := by cases L with | nil => rfl | cons _ _ => cases e
    subst this
    have e1 : H1 = hull short (units a) := e1
    have e2 : H2 = hull short (units 11) := e2
    have n1 : H1.rows.length = 10 := by rw [e1]; exact wide_len a ha
    have n2 : H2.rows.length = 11 := by rw [e2]; exact wide_all
    have bdb : ∀ v : Int, v.natAbs ≤ 1 → Bd 20 (row.set a v) := fun v hv i => by
      rw [g_bend (by omega)]
      split
      · omega
      · exact hbd i
    have lnb : ∀ v : Int, (row.set a v).length = 10 := fun v => by rw [List.length_set, hl]
    have gb : ∀ v : Int, g (row.set a v) a = v := fun v => by rw [g_bend (by omega), if_pos rfl]
    walk_at "gg_K13b"
    refine go_addL (by have h := @cut_le1 (eV row) a; rw [List.length_map] at h; show _ + 1 ≤ _; omega) ?_
    refine go_addL (by have h := @cut_le1 (eV row) a; have h2 := @cut_le2 (eV row) a; rw [List.length_map] at h h2; rw [List.length_append, List.length_singleton]; omega) ?_
    rw [bend_V (by omega)]
    walk_at "gg_K13b"
    refine go_addL (by have h := @cut_le1 (eV row) a; rw [List.length_map] at h; show _ + 1 ≤ _; omega) ?_
    refine go_addL (by have h := @cut_le1 (eV row) a; have h2 := @cut_le2 (eV row) a; rw [List.length_map] at h h2; rw [List.length_append, List.length_singleton]; omega) ?_
    rw [bend_V (by omega)]
    walk_at "gg_K13b"
    refine in_go a1 i1 (lnb 0) (bx := 20) (by decide) (by decide) (bdb 0 (by decide)) fun r1 c1 => ?_
    walk_at "gg_K13b"
    refine in_go a1 i1 (lnb 1) (bx := 20) (by decide) (by decide) (bdb 1 (by decide)) fun r2 c2 => ?_
    walk_at "gg_K13b"
    refine in_go a2 i2 (lnb 1) (bx := 20) (by decide) (by decide) (bdb 1 (by decide)) fun r3 c3 => ?_
    walk_at "gg_K13b"
    refine lenO_go a1 (by omega) ?_
    walk_at "gg_K13b"
    refine lenO_go a2 (by omega) ?_
    have x1 : r1 = true := c1.mpr (by rw [e1]; exact units_cov (lnb 0) (by rw [← e1]; intro z; rw [z] at n1; cases n1) (fun j _ e => by subst e; exact gb 0) (by omega))
    have x2 : r2 = false := by
      cases r2 with
      | false => rfl
      | true => exact absurd (c2.mp rfl) (by rw [e1]; exact units_not ha (by rw [gb 1]; decide))
    have x3 : r3 = true := c3.mpr (by rw [e2]; exact units_cov (lnb 1) (by rw [← e2]; intro z; rw [z] at n2; cases n2) (fun j hj e => by omega) (by decide))
    rw [x1, x2, x3, n1, n2]
    walk_at "gg_K13b"
    exact go_same (n := 5) rfl (by decide) rfl
theorem pw9 {w : Wd} : gPow (.int 10) (.int 9) w = .ok (.int (10 ^ 9)) w := by simp only [gPow]; rw [if_pos (by decide)]; rfl
theorem pw8 {w : Wd} : gPow (.int 10) (.int 8) w = .ok (.int (10 ^ 8)) w := by simp only [gPow]; rw [if_pos (by decide)]; rfl
theorem pw6 {w : Wd} : gPow (.int 10) (.int 6) w = .ok (.int (10 ^ 6)) w := by simp only [gPow]; rw [if_pos (by decide)]; rfl
theorem bg_grow {w w' : Wd} (hb : BagAt w 1) (hl : w.length ≤ w'.length) (hk : ∀ k, k < w.length → w'[k]? = w[k]?) : Bg 1 w w' := by
  have h1 := BagAt.lt hb
  obtain ⟨a, b, c, d, e, i⟩ := hb
  exact ⟨⟨a, b, c, d, (hk 1 h1).trans e, i⟩, hl, fun k q _ => hk k q⟩
theorem zip_VR : ∀ (a : List Int) (b : List (List Int)), zipD (eV a) (b.map eR) = (a.zip b).map fun p => D.tup [.int p.1, eR p.2]
  | [], _ => by simp [zipD]
  | _ :: _, [] => by simp [zipD]
  | x :: a, y :: b => by
    have ih := zip_VR a b
    show D.tup [.int x, eR y] :: zipD (eV a) (b.map eR) = _
    rw [ih]
    rfl
theorem isum_csum : ∀ (a : List Int) (b : List (List Int)) (k : Nat), isum ((a.zip b).map fun p => p.1 * g p.2 k) = csum a b k
  | [], _, _ => by simp [isum, csum]
  | _ :: _, [], _ => by simp [isum, csum]
  | x :: a, y :: b, k => by
    show x * g y k + isum ((a.zip b).map fun p => p.1 * g p.2 k) = x * g y k + csum a b k
    rw [isum_csum a b k]
/-- the sum of the sizes of numbers -/
def asum : List Int → Nat
  | [] => 0
  | x :: r => x.natAbs + asum r
theorem csum_le {c : Nat} : ∀ (a : List Int) (b : List (List Int)) (k : Nat), (∀ r ∈ b, Bd c r) → (csum a b k).natAbs ≤ asum a * 2 ^ c
  | [], _, _, _ => by simp [csum]
  | _ :: _, [], _, _ => by simp [csum]
  | x :: a, y :: b, k, h => by
    have h1 := csum_le a b k fun r q => h r (List.mem_cons_of_mem _ q)
    have h2 := h y List.mem_cons_self k
    show (x * g y k + csum a b k).natAbs ≤ (x.natAbs + asum a) * 2 ^ c
    have h3 : (x * g y k).natAbs ≤ x.natAbs * 2 ^ c := by rw [Int.natAbs_mul]; exact Nat.mul_le_mul_left _ h2
    have h4 := Int.natAbs_add_le (x * g y k) (csum a b k)
    rw [Nat.add_mul]
    omega
theorem asum_le {c : Nat} : ∀ (a : List Int), (∀ x ∈ a, x.natAbs ≤ c) → asum a ≤ a.length * c
  | [], _ => by simp [asum]
  | x :: a, h => by
    have h1 := asum_le a fun y q => h y (List.mem_cons_of_mem _ q)
    have h2 := h x List.mem_cons_self
    rw [asum, List.length_cons, Nat.add_mul]
    omega
theorem isum_le : ∀ (a : List Int), (isum a).natAbs ≤ asum a
  | [] => by simp [isum, asum]
  | x :: a => by
    have h1 := isum_le a
    have h2 := Int.natAbs_add_le x (isum a)
    show (x + isum a).natAbs ≤ x.natAbs + asum a
    omega
theorem g_mapR {f : Nat → Int} {n i : Nat} : g ((List.range n).map f) i = if i < n then f i else 0 := by
  by_cases h : i < n
  · rw [if_pos h]
    unfold g
    rw [List.getD_eq_getElem?_getD, List.getElem?_map, List.getElem?_range h]
    rfl
  · rw [if_neg h, g_ge (by simp; omega)]
theorem csum_ge {n : Nat} : ∀ (a : List Int) (b : List (List Int)) (k : Nat), (∀ r ∈ b, r.length = n) → n ≤ k → csum a b k = 0
  | [], _, _, _, _ => rfl
  | _ :: _, [], _, _, _ => rfl
  | x :: a, y :: b, k, h, hk => by
    rw [csum, csum_ge a b k (fun r q => h r (List.mem_cons_of_mem _ q)) hk, g_ge (by rw [h y List.mem_cons_self]; exact hk)]
    simp
theorem law_go (ns : List Int) (hl : ns.length ≤ 63) : Go EX0 (F_law [.scr ns] [.tab lamq]) fun d _ => d = .bl true := by
  refine go_fn rfl ?_
  unfold M_law
  walk_at "gg_K13b"
  refine go_bag hl fun b hb => ?_
  walk_at "gg_K13b"
  refine gd_forL (fun r σ w => BagAt w 1 ∧ ∃ o2 o3 o4 o5 o6 o7 o8 o9 o10 o11 o12 o13 o14 o15 o16 o17 o18 o19 o20, σ = [some (.scr ns), some (.obj 1), o2, o3, o4, o5, o6, o7, o8, o9, o10, o11, o12, o13, o14, o15, o16, o17, o18, o19, o20]) ?_ ?_ _ _ _ ⟨hb, _, _, _, _, _, _, _, _, _, _, _, _, _, _, _, _, _, _, _, rfl⟩
  · rintro d r σ w ⟨hb, o2, o3, o4, o5, o6, o7, o8, o9, o10, o11, o12, o13, o14, o15, o16, o17, o18, o19, o20, rfl⟩
    walk_at "gg_K13b"
    refine drb (Bg.refl hb) (by decide) (by decide) fun z w1 z0 z1 hb1 => ?_
    obtain ⟨n, hn⟩ : ∃ n : Nat, 1 + z = (n : Int) := ⟨(1 + z).toNat, by omega⟩
    have hn1 : 1 ≤ n := by omega
    have hn6 : n ≤ 6 := by omega
    have hp6 : 2 ^ n ≤ 2 ^ 6 := Nat.pow_le_pow_right (by decide) hn6
    walk_at "gg_K13b"
    rw [hn]
    refine drb (Bg.refl hb1.b) (by decide) (by decide) fun z2 w2 z20 z21 hb2 => ?_
    walk_at "gg_K13b"
    refine lc_drawT (fun r => r.length = n ∧ Bd 29 r) eR _ (by rw [range_len]; omega) (Bg.refl hb2.b) (fun d w hd hb => ⟨_, rfl, ?_⟩) fun rows w3 hlen hrows hb3 => ?_
    · walk_at "gg_K13b"
      refine lc_drawT (fun i : Int => i.natAbs ≤ 2 ^ 29) D.int _ (by rw [range_len]; omega) hb (fun d w hd hb => ⟨_, rfl, ?_⟩) fun l w' hl hp hb' => ?_
      · walk_at "gg_K13b"
        refine drb hb (by decide) (by decide) fun u w3 u0 u1 hb3 => ?_
        walk_at "gg_K13b"
        by_cases hu : u = 0
        · refine br_y hu ?_
          walk_at "gg_K13b"
          refine go_powC pw9 ?_
          walk_at "gg_K13b"
          refine drb hb3 (by decide) (by decide) fun v w4 v0 v1 hb4 => ?_
          walk_at "gg_K13b"
          refine go_powC pw8 ?_
          walk_at "gg_K13b"
          exact ⟨⟨_, by omega, rfl⟩, hb4⟩
        · refine br_n hu ?_
          walk_at "gg_K13b"
          refine drb hb3 (by decide) (by decide) fun v w4 v0 v1 hb4 => ?_
          exact ⟨⟨_, by omega, rfl⟩, hb4⟩
      · walk_at "gg_K13b"
        exact ⟨⟨l, ⟨by rw [hl, range_len, Int.toNat_natCast], bd_of hp⟩, rfl⟩, hb'⟩
    rw [range_len] at hlen
    have hlen1 : 1 ≤ rows.length := by omega
    have hlen4 : rows.length ≤ 4 := by omega
    have hrl : ∀ r ∈ rows, r.length = n := fun r q => (hrows r q).1
    have hrd : ∀ r ∈ rows, Bd 29 r := fun r q => (hrows r q).2
    walk_at "gg_K13b"
    refine go_make ?_
    walk_at "gg_K13b"
    refine hull0_go (n := n) hn1 (by omega) fun w4 a4 l4 k4 => ⟨rfl, ?_⟩
    walk_at "gg_K13b"
    refine lot_go (bb := 29) hrl hrd (by omega) (by omega) fun w5 t5 l5 k5 => ?_
    walk_at "gg_K13b"
    have hw3 := BagAt.lt hb3.b
    have hb5 : Bg 1 w3 w5 := bg_grow hb3.b (by omega) fun k hk => (k5 k (by omega)).trans (k4 k hk)
    have a5 : HlC w3.length (w3.length + 1) (w3.length + 2) w5 n ⟨[], []⟩ := ⟨(k5 _ (by omega)).trans a4.o, (k5 _ (by omega)).trans a4.r, (k5 _ (by omega)).trans a4.l, a4.ne⟩
    refine gd_weakN (N := fun σ' w' => HlC w3.length (w3.length + 1) (w3.length + 2) w' n (hull short rows) ∧ LtC w4.length (w4.length + 1) w' n (hull id rows) ∧ BagAt w' 1 ∧ ∃ o7, σ' = [some (.scr ns), some (.obj 1), some d, some (.int (n : Nat)), some (.lst (rows.map eR)), some (.obj w3.length), some (.lst [.obj w4.length, .obj (w4.length + 1)]), o7, o8, o9, o10, o11, o12, o13, o14, o15, o16, o17, o18, o19, o20]) ?_ ?_
    · refine gd_forL (fun r σ w' => ∃ (R : List (List Int)) (H : Hl) (o7 : Option D), r = R.map eR ∧ σ = [some (.scr ns), some (.obj 1), some d, some (.int (n : Nat)), some (.lst (rows.map eR)), some (.obj w3.length), some (.lst [.obj w4.length, .obj (w4.length + 1)]), o7, o8, o9, o10, o11, o12, o13, o14, o15, o16, o17, o18, o19, o20] ∧ R.foldl (take short) H = hull short rows ∧ HlC w3.length (w3.length + 1) (w3.length + 2) w' n H ∧ Inv2 n 29 H ∧ LtC w4.length (w4.length + 1) w' n (hull id rows) ∧ BagAt w' 1 ∧ (∀ r ∈ R, r.length = n) ∧ (∀ r ∈ R, Bd 29 r)) ?_ ?_ _ _ _
        ⟨rows, ⟨[], []⟩, _, rfl, rfl, rfl, a5, Inv2.start (by omega) (by omega), t5, hb5.b, hrl, hrd⟩
      · rintro d r σ w' ⟨R, H, o7, e, rfl, e1, a, i, t, hb, hl, hd⟩
        match R, e with
        | x :: R, e =>
          obtain ⟨rfl, rfl⟩ := List.cons.inj e
          have l0 := hl x List.mem_cons_self
          have d0 := hd x List.mem_cons_self
          walk_at "gg_K13b"
          refine go_meth (go_var rfl ⟨w3.length, _, rfl, a.o, rfl, ?_⟩)
          walk_at "gg_K13b"
          refine take_go a i l0 d0 fun r w6 _ a6 l6 k6 => ?_
          exact ⟨R, _, _, rfl, rfl, e1, a6, i.take sb_short l0 d0, ⟨(k6 _ (by omega) (by omega)).trans t.r, (k6 _ (by omega) (by omega)).trans t.l, t.ne⟩, (by
            obtain ⟨a, b, c, d, e, i⟩ := hb
            exact ⟨a, b, c, d, (k6 1 (by omega) (by omega)).trans e, i⟩), fun y q => hl y (List.mem_cons_of_mem _ q), fun y q => hd y (List.mem_cons_of_mem _ q)⟩
      · rintro σ w' ⟨R, H, o7, e, rfl, e1, a, i, t, hb, hl, hd⟩
        have : R = [] := by cases R with | nil => rfl | cons _ _ => cases e
        subst this
        have e1 : H = hull short rows := e1
        subst e1
        exact ⟨a, t, hb, _, rfl⟩
    rintro _ w6 ⟨a6, t6, hb6, o7, rfl⟩
    obtain ⟨iv, ib, _, hcov⟩ := hull_ind (n := n) (b := 29) sb_short rows ⟨[], []⟩ (Inv.start n) (HB.start 29) hrl hrd
    obtain ⟨jv, jb, _, _⟩ := hull_ind (n := n) (b := 29) sb_id rows ⟨[], []⟩ (Inv.start n) (HB.start 29) hrl hrd
    have i1 : Inv2 n 29 (hull short rows) := ⟨iv, ib, by omega, by omega⟩
    have i2 : Inv2 n 29 (hull id rows) := ⟨jv, jb, by omega, by omega⟩
    have two : (hull short rows).rows = (hull id rows).rows := hull_two sb_short sb_id rows _ _ (Inv.start n) (Inv.start n) rfl hrl
    have hcov : ∀ x ∈ rows, Cov (hull short rows) x := hcov
    obtain ⟨r1, rt, hr⟩ : ∃ r1 rt, rows = r1 :: rt := by
      cases rows with
      | nil => simp at hlen1
      | cons a b => exact ⟨a, b, rfl⟩
    have m1 : r1 ∈ rows := by rw [hr]; exact List.mem_cons_self
    have hne : (hull short rows).rows ≠ [] := by
      obtain ⟨_, _, e, _⟩ := hcov r1 m1
      rw [e]
      simp
    have hne2 : (hull id rows).rows ≠ [] := by rw [← two]; exact hne
    walk_at "gg_K13b"
    refine gd_weakN (N := fun σ' w' => Bg 1 w6 w' ∧ ∃ o7 o8 o9 o10 o11 o12, σ' = [some (.scr ns), some (.obj 1), some d, some (.int (n : Nat)), some (.lst (rows.map eR)), some (.obj w3.length), some (.lst [.obj w4.length, .obj (w4.length + 1)]), o7, o8, o9, o10, o11, o12, o13, o14, o15, o16, o17, o18, o19, o20]) ?_ ?_
    · refine gd_forL (fun r σ' w' => Bg 1 w6 w' ∧ ∃ o7 o8 o9 o10 o11 o12, σ' = [some (.scr ns), some (.obj 1), some d, some (.int (n : Nat)), some (.lst (rows.map eR)), some (.obj w3.length), some (.lst [.obj w4.length, .obj (w4.length + 1)]), o7, o8, o9, o10, o11, o12, o13, o14, o15, o16, o17, o18, o19, o20]) ?_ ?_ _ _ _ ⟨Bg.refl hb6, _, _, _, _, _, _, rfl⟩
      · rintro d r σ w7 ⟨hb7, o7, o8, o9, o10, o11, o12, rfl⟩
        walk_at "gg_K13b"
        rw [cut_from (by decide), ← List.map_drop]
        refine lc_drawT (fun i : Int => i.natAbs ≤ 10) D.int _ (by simp; omega) hb7 (fun d w hd hb => ⟨_, rfl, ?_⟩) fun f w8 hf hfp hb8 => ?_
        · walk_at "gg_K13b"
          refine drb hb (by decide) (by decide) fun v w4 v0 v1 hb4 => ?_
          walk_at "gg_K13b"
          exact ⟨⟨_, by omega, rfl⟩, hb4⟩
        have hf : f.length = rows.length - 1 := by rw [hf]; simp
        walk_at "gg_K13b"
        refine go_sumI ?_
        walk_at "gg_K13b"
        refine go_addL (by simp; omega) ?_
        rw [show [D.int (1 - isum f)] ++ f.map D.int = eV ((1 - isum f) :: f) from rfl]
        have hF : isum ((1 - isum f) :: f) = 1 := by show (1 - isum f) + isum f = 1; omega
        have ha1 := asum_le f hfp
        have ha2 := isum_le f
        have ha3 : asum ((1 - isum f) :: f) ≤ 61 := by show (1 - isum f).natAbs + asum f ≤ 61; omega
        have hFl : ((1 - isum f) :: f).length = rows.length := by rw [List.length_cons, hf]; omega
        have hFs : ∀ x ∈ (1 - isum f) :: f, x.natAbs ≤ 61 := by
          intro x hx
          rcases List.mem_cons.mp hx with rfl | hx
          · omega
          · have := hfp x hx; omega
        generalize (1 - isum f) :: f = F at hF ha3 hFl hFs
        walk_at "gg_K13b"
        rw [Int.toNat_natCast]
        refine lc_mapT (fun k : Nat => D.int (0 + (k : Int))) (fun k : Nat => D.int (csum F rows k)) (List.range n) (by simp; omega) (fun k hk => ⟨_, rfl, ?_⟩) ?_
        · have hk := List.mem_range.mp hk
          walk_at "gg_K13b"
          rw [zip_VR]
          refine lc_mapT (fun p : Int × List Int => D.tup [.int p.1, eR p.2]) (fun p => D.int (p.1 * g p.2 k)) _ (by rw [List.length_zip]; omega) (fun p hp => ⟨_, rfl, ?_⟩) ?_
          · have hp' := List.of_mem_zip hp
            walk_at "gg_K13b"
            rw [Int.zero_add]
            refine go_ixT (atG (by rw [hrl _ hp'.2]; exact hk)) ?_
            walk_at "gg_K13b"
            refine go_mulL (by have := hFs _ hp'.1; omega) ?_
            exact ⟨rfl, rfl⟩
          walk_at "gg_K13b"
          rw [show (F.zip rows).map (fun p => D.int (p.1 * g p.2 k)) = ((F.zip rows).map fun p => p.1 * g p.2 k).map D.int by rw [List.map_map]; rfl]
          refine go_sumI ?_
          rw [isum_csum]
          exact ⟨rfl, rfl⟩
        rw [show ((List.range n).map fun k : Nat => D.int (csum F rows k)) = eV ((List.range n).map fun k => csum F rows k) by unfold eV; rw [List.map_map]; rfl]
        have hgl : ∀ i, g ((List.range n).map fun k => csum F rows k) i = csum F rows i := fun i => by
          rw [g_mapR]
          split
          · rfl
          · rw [csum_ge (n := n) F rows i hrl (by omega)]
        have hll : ((List.range n).map fun k => csum F rows k).length = n := by simp
        generalize ((List.range n).map fun k => csum F rows k) = late at hgl hll
        have hle : ∀ i, (g late i).natAbs ≤ 61 * 2 ^ 29 := fun i => by
          rw [hgl]
          exact Nat.le_trans (csum_le F rows i hrd) (Nat.mul_le_mul_right _ ha3)
        walk_at "gg_K13b"
        refine drb hb8 (by omega) (by omega) fun v w9 v0 v1 hb9 => ?_
        obtain ⟨a, rfl⟩ := Int.eq_ofNat_of_zero_le v0
        have ha : a < n := by omega
        walk_at "gg_K13b"
        refine go_ixT (atG (by rw [hll]; exact ha)) ?_
        walk_at "gg_K13b"
        refine go_addT (by have h := @cut_le1 (eV late) a; rw [List.length_map] at h; show _ + 1 ≤ _; omega) ?_
        walk_at "gg_K13b"
        refine go_addT (by have h := @cut_le1 (eV late) a; have h2 := @cut_le2 (eV late) a; rw [List.length_map] at h h2; rw [List.length_append, List.length_singleton]; omega) ?_
        rw [bend_V (by rw [hll]; exact ha)]
        walk_at "gg_K13b"
        have a9 := a6.bg hb9 (by omega) (by omega) (by omega)
        have t9 := t6.bg hb9 (by omega) (by omega)
        have hlb : Bd 36 late := fun i => by have := hle i; omega
        have hbb : Bd 36 (late.set a (g late a + 1)) := fun i => by
          rw [g_bend (by omega)]
          split
          · have := hle a; omega
          · exact hlb i
        have hbl : (late.set a (g late a + 1)).length = n := by rw [List.length_set, hll]
        refine in_go a9 i1 hll (bx := 36) (by decide) (by decide) hlb fun r1 c1 => ?_
        walk_at "gg_K13b"
        refine in_go a9 i1 hbl (bx := 36) (by decide) (by decide) hbb fun r2 c2 => ?_
        walk_at "gg_K13b"
        refine covers_go t9 hne2 i2 hbl (bx := 36) (by decide) (by decide) hbb fun r3 c3 => ?_
        have x1 : r1 = true := c1.mpr (cov_comb hne hFl hcov hF hgl)
        have x2 : r2 = r3 := by
          have : r2 = true ↔ r3 = true := c2.trans ((Cov.rows two _).trans c3.symm)
          cases r2 <;> cases r3 <;> simp_all
        subst x1 x2
        walk_at "gg_K13b"
        refine go_same (n := 5) rfl (by cases r2 <;> decide) ?_
        walk_at "gg_K13b"
        exact ⟨hb9, _, _, _, _, _, _, rfl⟩
      · rintro σ w7 ⟨hb7, o7, o8, o9, o10, o11, o12, rfl⟩
        exact ⟨hb7, _, _, _, _, _, _, rfl⟩
    rintro _ w7 ⟨hb7, p7, p8, p9, p10, p11, p12, rfl⟩
    walk_at "gg_K13b"
    refine go_ixL (d := eR r1) (by rw [hr]; exact at0) ?_
    walk_at "gg_K13b"
    refine oflb hb7 (by rw [List.length_map]; omega) (by rw [List.length_map]; omega) fun d2 w8 hd2 hb8 => ?_
    obtain ⟨r2, m2, rfl⟩ := List.mem_map.mp hd2
    have l1 := hrl r1 m1
    have l2 := hrl r2 m2
    walk_at "gg_K13b"
    rw [zip_V]
    refine lc_mapT (fun p : Int × Int => D.tup [.int p.1, .int p.2]) (fun p => D.int ((p.1 + p.2) / 2)) _ (by rw [List.length_zip]; omega) (fun p hp => ⟨_, rfl, ?_⟩) ?_
    · walk_at "gg_K13b"
      exact ⟨rfl, rfl⟩
    rw [show (r1.zip r2).map (fun p => D.int ((p.1 + p.2) / 2)) = eV (List.zipWith (fun a b => (a + b) / 2) r1 r2) by
      rw [← zipWith_zip (f := fun a b => (a + b) / 2)]; unfold eV; rw [List.map_map]; rfl]
    have hgm : ∀ i, g (List.zipWith (fun a b => (a + b) / 2) r1 r2) i = (g r1 i + g r2 i) / 2 := fun i => g_zip (f := fun a b => (a + b) / 2) (by decide) (by rw [l1, l2]) i
    have hml : (List.zipWith (fun a b => (a + b) / 2) r1 r2).length = n := by rw [List.length_zipWith]; omega
    generalize List.zipWith (fun a b => (a + b) / 2) r1 r2 = mid at hgm hml
    walk_at "gg_K13b"
    rw [zip_V]
    refine lc_mapT (fun p : Int × Int => D.tup [.int p.1, .int p.2]) (fun p => D.bl (decide ((p.1 + p.2) % 2 = 0))) _ (by rw [List.length_zip]; omega) (fun p hp => ⟨_, rfl, ?_⟩) ?_
    · walk_at "gg_K13b"
      exact ⟨rfl, rfl⟩
    rw [show (r1.zip r2).map (fun p => D.bl (decide ((p.1 + p.2) % 2 = 0))) = ((r1.zip r2).map fun p => decide ((p.1 + p.2) % 2 = 0)).map D.bl by rw [List.map_map]; rfl]
    walk_at "gg_K13b"
    refine go_allBl ?_
    walk_at "gg_K13b"
    have a8 := a6.bg hb8 (by omega) (by omega) (by omega)
    have t8 := t6.bg hb8 (by omega) (by omega)
    have hmb : Bd 36 mid := fun i => by
      rw [hgm]
      have := hrd r1 m1 i
      have := hrd r2 m2 i
      omega
    have hall : ((r1.zip r2).map fun p => decide ((p.1 + p.2) % 2 = 0)).all id = true → Cov (hull short rows) mid := fun e => cov_half (hcov r1 m1) (hcov r2 m2) fun i => by
      rw [hgm]
      have h2 : (g r1 i + g r2 i) % 2 = 0 := by
        by_cases hi : i < n
        · have hm : (g r1 i, g r2 i) ∈ r1.zip r2 := by
            refine List.mem_iff_getElem.mpr ⟨i, by rw [List.length_zip]; omega, ?_⟩
            rw [List.getElem_zip]
            simp [g, List.getD_eq_getElem?_getD, List.getElem?_eq_getElem (show i < r1.length by omega), List.getElem?_eq_getElem (show i < r2.length by omega)]
          have := List.all_eq_true.mp e _ (List.mem_map.mpr ⟨_, hm, rfl⟩)
          simpa using this
        · rw [g_ge (by omega), g_ge (by omega)]
          rfl
      omega
    generalize ((r1.zip r2).map fun p => decide ((p.1 + p.2) % 2 = 0)).all id = ev at hall
    cases ev with
    | false =>
      walk_at "gg_K13b"
      refine in_go a8 i1 hml (bx := 36) (by decide) (by decide) hmb fun r c => ?_
      cases r with
      | false =>
        walk_at "gg_K13b"
        exact ⟨hb8.b, _, _, _, _, _, _, _, _, _, _, _, _, _, _, _, _, _, _, _, rfl⟩
      | true =>
        walk_at "gg_K13b"
        refine covers_go t8 hne2 i2 hml (bx := 36) (by decide) (by decide) hmb fun r3 c3 => ?_
        have x3 : r3 = true := c3.mpr ((Cov.rows two _).mp (c.mp rfl))
        subst x3
        walk_at "gg_K13b"
        exact ⟨hb8.b, _, _, _, _, _, _, _, _, _, _, _, _, _, _, _, _, _, _, _, rfl⟩
    | true =>
      walk_at "gg_K13b"
      refine in_go a8 i1 hml (bx := 36) (by decide) (by decide) hmb fun r c => ?_
      have x1 : r = true := c.mpr (hall rfl)
      subst x1
      walk_at "gg_K13b"
      refine in_go a8 i1 hml (bx := 36) (by decide) (by decide) hmb fun r c2 => ?_
      have x2 : r = true := c2.mpr (hall rfl)
      subst x2
      walk_at "gg_K13b"
      refine covers_go t8 hne2 i2 hml (bx := 36) (by decide) (by decide) hmb fun r3 c3 => ?_
      have x3 : r3 = true := c3.mpr ((Cov.rows two _).mp (hall rfl))
      subst x3
      walk_at "gg_K13b"
      exact ⟨hb8.b, _, _, _, _, _, _, _, _, _, _, _, _, _, _, _, _, _, _, _, rfl⟩
  · rintro σ w ⟨hb, o2, o3, o4, o5, o6, o7, o8, o9, o10, o11, o12, o13, o14, o15, o16, o17, o18, o19, o20, rfl⟩
    walk_at "gg_K13b"
    refine lc_drawT (fun i : Int => i.natAbs ≤ 2 ^ 20) D.int _ (by rw [range_len]; decide) (Bg.refl hb) (fun d w hd hb => ⟨_, rfl, ?_⟩) fun l w' hl hp hb' => ?_
    · walk_at "gg_K13b"
      refine go_powC pw6 ?_
      walk_at "gg_K13b"
      refine drb hb (by decide) (by decide) fun v w4 v0 v1 hb4 => ?_
      exact ⟨⟨_, by omega, rfl⟩, hb4⟩
    walk_at "gg_K13b"
    refine drb (Bg.refl hb'.b) (by decide) (by decide) fun v w4 v0 v1 hb4 => ?_
    obtain ⟨a, rfl⟩ := Int.eq_ofNat_of_zero_le v0
    walk_at "gg_K13b"
    exact wide_so_go (by rw [hl, range_len]; rfl) (bd_of hp) (by omega)
end
theorem law_true (ns : List Int) (hl : ns.length ≤ 63) : ∃ w, F_law [.scr ns] [.tab lamq] = .ok (.bl true) w := by
  obtain ⟨d, w, e, h⟩ := go_get (law_go ns hl)
  exact ⟨w, by rw [e, h]⟩
end K13

set_option Elab.async false
set_option linter.all false
set_option autoImplicit false
set_option maxRecDepth 100000
set_option maxHeartbeats 4000000
namespace K13
open PySem L2 L2H LamX PyProof.Rows Si Bk
theorem facts {l : PySem.W.OpenLaw} {w : World} {K : PySem.W.Frag} {h : Heap} {mg : Str → Option Value} {fa : Addr} (X : K.In h) (G : h.Ns mainGlobals mg) (hfa : mg "law" = some (.ref fa)) (c : SaysA fs ds K) {p : Addr × Addr} (hp : tabOf (gA "law") K = some p) :
    ∃ fd : FuncData, (∀ (s : Shared) (v : Value), BindsTo s fd ⟨[v], []⟩ [("_law_script", v)]) ∧ ∀ base : Heap, K.In base → base.Ns mainGlobals mg → TabB base mg p.1 p.2 → SF l.prog w K (clsT lamq p.2 K) mg base 12 fa fd ["_law_script"] F_law := by
  let cs_ : List Value := ([] : List Str).map fun x => .ref (He.ga K x)
  have c_Hull : ClO K (clsT lamq p.2 K) "Hull" (He.ga K "Hull") := clT_clO (cls_clO (c.fact 0 (f := fGlo "Hull") rfl) (c.fact 1 (f := fCls "Hull") rfl)) (by decide +kernel)
  have fl_own_size : CF K (clsT lamq p.2 K) ["Hull"] "own_size" := (cf_cons c_Hull (He.noat_ok (c.fact 2 (f := fNoat "Hull" "own_size") rfl)) cf_nil)
  have fl_own_rows : CF K (clsT lamq p.2 K) ["Hull"] "own_rows" := (cf_cons c_Hull (He.noat_ok (c.fact 3 (f := fNoat "Hull" "own_rows") rfl)) cf_nil)
  have fl_own_lines : CF K (clsT lamq p.2 K) ["Hull"] "own_lines" := (cf_cons c_Hull (He.noat_ok (c.fact 4 (f := fNoat "Hull" "own_lines") rfl)) cf_nil)
  obtain ⟨fd_is_number, F_is_number⟩ := c.def_ 0 (d := da_is_number) rfl
  replace F_is_number : Fun K "is_number" "is_number" st_is_number ((gA "is_number") K) fd_is_number := funOf F_is_number
  have b_is_number := F_is_number.binds (ps := ["value", "least", "most"]) fun _ _ _ _ _ _ us hl => match us, hl with | [_, _, _], _ => rfl
  obtain ⟨fd_Hull___init___R, F_Hull___init___R⟩ := c.def_ 1 (d := da_Hull___init___R) rfl
  replace F_Hull___init___R : Fun K "__init__" "Hull.__init__" st_Hull___init___R ((mA "Hull" "__init__") K) fd_Hull___init___R := funOf F_Hull___init___R
  have b_Hull___init___R := F_Hull___init___R.binds (ps := ["self", "size"]) fun _ _ _ _ _ _ us hl => match us, hl with | [_, _], _ => rfl
  obtain ⟨fd_is_integers, F_is_integers⟩ := c.def_ 2 (d := da_is_integers) rfl
  replace F_is_integers : Fun K "is_integers" "is_integers" st_is_integers ((gA "is_integers") K) fd_is_integers := funOf F_is_integers
  have b_is_integers := F_is_integers.binds (ps := ["value", "size"]) fun _ _ _ _ _ _ us hl => match us, hl with | [_, _], _ => rfl
  obtain ⟨fd_common, F_common⟩ := c.def_ 3 (d := da_common) rfl
  replace F_common : Fun K "common" "common" st_common ((gA "common") K) fd_common := funOf F_common
  have b_common := F_common.binds (ps := ["values"]) fun _ _ _ _ _ _ us hl => match us, hl with | [_], _ => rfl
  obtain ⟨fd_shortened, F_shortened⟩ := c.def_ 4 (d := da_shortened) rfl
  replace F_shortened : Fun K "shortened" "shortened" st_shortened ((gA "shortened") K) fd_shortened := funOf F_shortened
  have b_shortened := F_shortened.binds (ps := ["values"]) fun _ _ _ _ _ _ us hl => match us, hl with | [_], _ => rfl
  obtain ⟨fd_Hull_left_of, F_Hull_left_of⟩ := c.def_ 5 (d := da_Hull_left_of) rfl
  replace F_Hull_left_of : Fun K "left_of" "Hull.left_of" st_Hull_left_of ((mA "Hull" "left_of") K) fd_Hull_left_of := funOf F_Hull_left_of
  have b_Hull_left_of := F_Hull_left_of.binds (ps := ["self", "row"]) fun _ _ _ _ _ _ us hl => match us, hl with | [_, _], _ => rfl
  obtain ⟨fd_Hull_take_R, F_Hull_take_R⟩ := c.def_ 6 (d := da_Hull_take_R) rfl
  replace F_Hull_take_R : Fun K "take" "Hull.take" st_Hull_take_R ((mA "Hull" "take") K) fd_Hull_take_R := funOf F_Hull_take_R
  have b_Hull_take_R := F_Hull_take_R.binds (ps := ["self", "row"]) fun _ _ _ _ _ _ us hl => match us, hl with | [_, _], _ => rfl
  obtain ⟨fd_Hull___contains__, F_Hull___contains__⟩ := c.def_ 7 (d := da_Hull___contains__) rfl
  replace F_Hull___contains__ : Fun K "__contains__" "Hull.__contains__" st_Hull___contains__ ((mA "Hull" "__contains__") K) fd_Hull___contains__ := funOf F_Hull___contains__
  have b_Hull___contains__ := F_Hull___contains__.binds (ps := ["self", "value"]) fun _ _ _ _ _ _ us hl => match us, hl with | [_, _], _ => rfl
  obtain ⟨fd__law_bag, F__law_bag⟩ := c.def_ 8 (d := da__law_bag) rfl
  replace F__law_bag : Fun K "_law_bag" "_law_bag" st__law_bag ((gA "_law_bag") K) fd__law_bag := funOf F__law_bag
  have b__law_bag := F__law_bag.binds (ps := ["_law_script"]) fun _ _ _ _ _ _ us hl => match us, hl with | [_], _ => rfl
  obtain ⟨fd__law_draw, F__law_draw⟩ := c.def_ 9 (d := da__law_draw) rfl
  replace F__law_draw : Fun K "_law_draw" "_law_draw" st__law_draw ((gA "_law_draw") K) fd__law_draw := funOf F__law_draw
  have b__law_draw := F__law_draw.binds (ps := ["_law_bag_here", "_law_many"]) fun _ _ _ _ _ _ us hl => match us, hl with | [_, _], _ => rfl
  obtain ⟨fd__law_of, F__law_of⟩ := c.def_ 10 (d := da__law_of) rfl
  replace F__law_of : Fun K "_law_of" "_law_of" st__law_of ((gA "_law_of") K) fd__law_of := funOf F__law_of
  have b__law_of := F__law_of.binds (ps := ["_law_bag_here", "_law_some"]) fun _ _ _ _ _ _ us hl => match us, hl with | [_, _], _ => rfl
  obtain ⟨fd__law_same, F__law_same⟩ := c.def_ 11 (d := da__law_same) rfl
  replace F__law_same : Fun K "_law_same" "_law_same" st__law_same ((gA "_law_same") K) fd__law_same := funOf F__law_same
  have b__law_same := F__law_same.binds (ps := ["_law_found", "_law_due"]) fun _ _ _ _ _ _ us hl => match us, hl with | [_, _], _ => rfl
  obtain ⟨fd__law_left, F__law_left⟩ := c.def_ 12 (d := da__law_left) rfl
  replace F__law_left : Fun K "_law_left" "_law_left" st__law_left ((gA "_law_left") K) fd__law_left := funOf F__law_left
  have b__law_left := F__law_left.binds (ps := ["_law_lot_here", "_law_row"]) fun _ _ _ _ _ _ us hl => match us, hl with | [_, _], _ => rfl
  obtain ⟨fd__law_covers, F__law_covers⟩ := c.def_ 13 (d := da__law_covers) rfl
  replace F__law_covers : Fun K "_law_covers" "_law_covers" st__law_covers ((gA "_law_covers") K) fd__law_covers := funOf F__law_covers
  have b__law_covers := F__law_covers.binds (ps := ["_law_lot_here", "_law_row", "_law_fold"]) fun _ _ _ _ _ _ us hl => match us, hl with | [_, _, _], _ => rfl
  obtain ⟨fd__law_keep, F__law_keep⟩ := c.def_ 14 (d := da__law_keep) rfl
  replace F__law_keep : Fun K "_law_keep" "_law_keep" st__law_keep ((gA "_law_keep") K) fd__law_keep := funOf F__law_keep
  have b__law_keep := F__law_keep.binds (ps := ["_law_lot_here", "_law_row", "_law_fold"]) fun _ _ _ _ _ _ us hl => match us, hl with | [_, _, _], _ => rfl
  obtain ⟨fd__law_lot, F__law_lot⟩ := c.def_ 15 (d := da__law_lot) rfl
  replace F__law_lot : Fun K "_law_lot" "_law_lot" st__law_lot ((gA "_law_lot") K) fd__law_lot := funOf F__law_lot
  have b__law_lot := F__law_lot.binds (ps := ["_law_rows", "_law_fold"]) fun _ _ _ _ _ _ us hl => match us, hl with | [_, _], _ => rfl
  obtain ⟨fd_Hull___len__, F_Hull___len__⟩ := c.def_ 16 (d := da_Hull___len__) rfl
  replace F_Hull___len__ : Fun K "__len__" "Hull.__len__" st_Hull___len__ ((mA "Hull" "__len__") K) fd_Hull___len__ := funOf F_Hull___len__
  have b_Hull___len__ := F_Hull___len__.binds (ps := ["self"]) fun _ _ _ _ _ _ us hl => match us, hl with | [_], _ => rfl
  obtain ⟨fd__law_wide_so_R, F__law_wide_so_R⟩ := c.def_ 17 (d := da__law_wide_so_R) rfl
  replace F__law_wide_so_R : Fun K "_law_wide_so" "_law_wide_so" st__law_wide_so_R ((gA "_law_wide_so") K) fd__law_wide_so_R := funOf F__law_wide_so_R
  have b__law_wide_so_R := F__law_wide_so_R.binds (ps := ["_law_row", "_law_at"]) fun _ _ _ _ _ _ us hl => match us, hl with | [_, _], _ => rfl
  obtain ⟨fd_law, F_law⟩ := c.def_ 18 (d := da_law) rfl
  have F0_law : FunD K "law" "law" (defArgs st_law) (defBody st_law) (defScope st_law) [] [] ((gA "law") K) fd_law := F_law
  replace F_law : Fun K "law" "law" st_law ((gA "law") K) fd_law := funOf F_law
  obtain ⟨fd_InvalidNumber___init__, F_InvalidNumber___init__⟩ := c.def_ 19 (d := da_InvalidNumber___init__) rfl
  replace F_InvalidNumber___init__ : Fun K "__init__" "InvalidNumber.__init__" st_InvalidNumber___init__ ((mA "InvalidNumber" "__init__") K) fd_InvalidNumber___init__ := funOf F_InvalidNumber___init__
  have b_InvalidNumber___init__ := F_InvalidNumber___init__.binds (ps := ["self", "given"]) fun _ _ _ _ _ _ us hl => match us, hl with | [_, _], _ => rfl
  have sc_InvalidNumber___init__ : FnScope ["self", "given"] ["self", "given"] (defScope st_InvalidNumber___init__) := ⟨rfl, rfl, rfl, by decide +kernel, rfl, by decide +kernel, by decide +kernel⟩
  have ec_InvalidNumber : ErrC K (clsT lamq p.2 K) "InvalidNumber" "given" (He.ga K "InvalidNumber") := err_C (c.fact 5 (f := fGlo "InvalidNumber") rfl) (c.fact 6 (f := fOex "InvalidNumber") rfl) (c.fact 7 (f := fNoat "InvalidNumber" "code") rfl) (c.fact 8 (f := fNoat "InvalidNumber" "given") rfl) (by decide +kernel)
  have mc_InvalidNumber := He.meth_ok (c.fact 9 (f := fMeth "InvalidNumber" "__init__") rfl)
  obtain ⟨fd_InvalidRow___init__, F_InvalidRow___init__⟩ := c.def_ 20 (d := da_InvalidRow___init__) rfl
  replace F_InvalidRow___init__ : Fun K "__init__" "InvalidRow.__init__" st_InvalidRow___init__ ((mA "InvalidRow" "__init__") K) fd_InvalidRow___init__ := funOf F_InvalidRow___init__
  have b_InvalidRow___init__ := F_InvalidRow___init__.binds (ps := ["self", "given"]) fun _ _ _ _ _ _ us hl => match us, hl with | [_, _], _ => rfl
  have sc_InvalidRow___init__ : FnScope ["self", "given"] ["self", "given"] (defScope st_InvalidRow___init__) := ⟨rfl, rfl, rfl, by decide +kernel, rfl, by decide +kernel, by decide +kernel⟩
  have ec_InvalidRow : ErrC K (clsT lamq p.2 K) "InvalidRow" "given" (He.ga K "InvalidRow") := err_C (c.fact 10 (f := fGlo "InvalidRow") rfl) (c.fact 11 (f := fOex "InvalidRow") rfl) (c.fact 12 (f := fNoat "InvalidRow" "code") rfl) (c.fact 13 (f := fNoat "InvalidRow" "given") rfl) (by decide +kernel)
  have mc_InvalidRow := He.meth_ok (c.fact 14 (f := fMeth "InvalidRow" "__init__") rfl)
  have K_MOST_SIZE : CN K mg "MOST_SIZE" c_MOST_SIZE := cn_int X G (c.fact 15 (f := fInt "MOST_SIZE" 10) rfl)
  have B : Bl mg := ⟨He.free_ok X G (c.fact 16 (f := fFree "isinstance") rfl), He.free_ok X G (c.fact 17 (f := fFree "int") rfl), He.free_ok X G (c.fact 18 (f := fFree "bool") rfl), He.free_ok X G (c.fact 19 (f := fFree "tuple") rfl), He.free_ok X G (c.fact 20 (f := fFree "len") rfl), He.free_ok X G (c.fact 21 (f := fFree "all") rfl), He.free_ok X G (c.fact 22 (f := fFree "abs") rfl), He.free_ok X G (c.fact 23 (f := fFree "list") rfl), He.free_ok X G (c.fact 24 (f := fFree "zip") rfl), He.free_ok X G (c.fact 25 (f := fFree "enumerate") rfl), He.free_ok X G (c.fact 26 (f := fFree "any") rfl), He.free_ok X G (c.fact 27 (f := fFree "str") rfl), He.free_ok X G (c.fact 28 (f := fFree "range") rfl), He.free_ok X G (c.fact 29 (f := fFree "sum") rfl)⟩
  have C : Cn K mg := ⟨K_MOST_SIZE⟩
  have L : Lf K (clsT lamq p.2 K) := ⟨fl_own_size, fl_own_rows, fl_own_lines⟩
  have e := hfa.symm.trans (He.glo_ok X G (c.fact 30 (f := fGlo "law") rfl))
  cases e
  have bl := FunD.bindsA (ps := ["_law_script"]) F0_law fun _ _ _ _ _ _ us hl => match us, hl with | [_], _ => rfl
  refine ⟨fd_law, fun s v => bl s [v] rfl, fun base _ _ TB_ => ?_⟩
  have x_InvalidNumber : AtX l.prog w K (clsT lamq p.2 K) mg base "InvalidNumber" "given" "given" (He.ga K "InvalidNumber") (mA "InvalidNumber" "__init__" K) fd_InvalidNumber___init__ := ⟨ec_InvalidNumber, mc_InvalidNumber.1, of_decide_eq_true (c.fact 31 (f := fTyF "InvalidNumber" "__init__") rfl), err_init F_InvalidNumber___init__ sc_InvalidNumber___init__ ec_InvalidNumber (by decide +kernel) (by decide +kernel) (.inl rfl) (.inl rfl) rfl, b_InvalidNumber___init__, (He.glo_ok X G (c.fact 5 (f := fGlo "InvalidNumber") rfl))⟩
  have x_InvalidRow : AtX l.prog w K (clsT lamq p.2 K) mg base "InvalidRow" "given" "given" (He.ga K "InvalidRow") (mA "InvalidRow" "__init__" K) fd_InvalidRow___init__ := ⟨ec_InvalidRow, mc_InvalidRow.1, of_decide_eq_true (c.fact 32 (f := fTyF "InvalidRow" "__init__") rfl), err_init F_InvalidRow___init__ sc_InvalidRow___init__ ec_InvalidRow (by decide +kernel) (by decide +kernel) (.inl rfl) (.inl rfl) rfl, b_InvalidRow___init__, (He.glo_ok X G (c.fact 10 (f := fGlo "InvalidRow") rfl))⟩
  have h_is_number : At l.prog w K (clsT lamq p.2 K) mg base 2 "is_number" st_is_number ["value", "least", "most"] ((gA "is_number") K) fd_is_number G_is_number := ⟨F_is_number, (He.glo_ok X G (c.fact 33 (f := fGlo "is_number") rfl)), b_is_number, ok_is_number B C L     F_is_number⟩
  have h_Hull___init___R : AtI l.prog w K (clsT lamq p.2 K) mg base 4 (He.ga K "Hull") "Hull" ["self", "size"] ((mA "Hull" "__init__") K) fd_Hull___init___R G_Hull___init___R := ⟨He.mkr_ok (c.fact 34 (f := fMkr "Hull") rfl), (He.glo_ok X G (c.fact 0 (f := fGlo "Hull") rfl)), b_Hull___init___R, ok_Hull___init___R B C L  h_is_number  x_InvalidNumber F_Hull___init___R⟩
  have h_is_integers : At l.prog w K (clsT lamq p.2 K) mg base 2 "is_integers" st_is_integers ["value", "size"] ((gA "is_integers") K) fd_is_integers G_is_integers := ⟨F_is_integers, (He.glo_ok X G (c.fact 35 (f := fGlo "is_integers") rfl)), b_is_integers, ok_is_integers B C L     F_is_integers⟩
  have h_common : At l.prog w K (clsT lamq p.2 K) mg base 2 "common" st_common ["values"] ((gA "common") K) fd_common G_common := ⟨F_common, (He.glo_ok X G (c.fact 36 (f := fGlo "common") rfl)), b_common, ok_common B C L     F_common⟩
  have h_shortened : At l.prog w K (clsT lamq p.2 K) mg base 4 "shortened" st_shortened ["values"] ((gA "shortened") K) fd_shortened G_shortened := ⟨F_shortened, (He.glo_ok X G (c.fact 37 (f := fGlo "shortened") rfl)), b_shortened, ok_shortened B C L  h_common   F_shortened⟩
  have h_Hull_left_of : AtM l.prog w K (clsT lamq p.2 K) mg base 6 (He.ga K "Hull") "left_of" "Hull.left_of" st_Hull_left_of ["self", "row"] ((mA "Hull" "left_of") K) fd_Hull_left_of G_Hull_left_of := ⟨F_Hull_left_of, He.meth_ok (c.fact 38 (f := fMeth "Hull" "left_of") rfl), b_Hull_left_of, ok_Hull_left_of B C L  h_shortened   F_Hull_left_of⟩
  have h_Hull_take_R : AtM l.prog w K (clsT lamq p.2 K) mg base 8 (He.ga K "Hull") "take" "Hull.take" st_Hull_take_R ["self", "row"] ((mA "Hull" "take") K) fd_Hull_take_R G_Hull_take_R := ⟨F_Hull_take_R, He.meth_ok (c.fact 39 (f := fMeth "Hull" "take") rfl), b_Hull_take_R, ok_Hull_take_R B C L c_Hull h_is_integers h_Hull_left_of  x_InvalidRow F_Hull_take_R⟩
  have h_Hull___contains__ : AtM l.prog w K (clsT lamq p.2 K) mg base 8 (He.ga K "Hull") "__contains__" "Hull.__contains__" st_Hull___contains__ ["self", "value"] ((mA "Hull" "__contains__") K) fd_Hull___contains__ G_Hull___contains__ := ⟨F_Hull___contains__, He.meth_ok (c.fact 40 (f := fMeth "Hull" "__contains__") rfl), b_Hull___contains__, ok_Hull___contains__ B C L c_Hull h_is_integers h_Hull_left_of   F_Hull___contains__⟩
  have h__law_bag : At l.prog w K (clsT lamq p.2 K) mg base 2 "_law_bag" st__law_bag ["_law_script"] ((gA "_law_bag") K) fd__law_bag G__law_bag := ⟨F__law_bag, (He.glo_ok X G (c.fact 41 (f := fGlo "_law_bag") rfl)), b__law_bag, ok__law_bag B C L     F__law_bag⟩
  have h__law_draw : At l.prog w K (clsT lamq p.2 K) mg base 2 "_law_draw" st__law_draw ["_law_bag_here", "_law_many"] ((gA "_law_draw") K) fd__law_draw G__law_draw := ⟨F__law_draw, (He.glo_ok X G (c.fact 42 (f := fGlo "_law_draw") rfl)), b__law_draw, ok__law_draw B C L     F__law_draw⟩
  have h__law_of : At l.prog w K (clsT lamq p.2 K) mg base 4 "_law_of" st__law_of ["_law_bag_here", "_law_some"] ((gA "_law_of") K) fd__law_of G__law_of := ⟨F__law_of, (He.glo_ok X G (c.fact 43 (f := fGlo "_law_of") rfl)), b__law_of, ok__law_of B C L  h__law_draw   F__law_of⟩
  have h__law_same : At l.prog w K (clsT lamq p.2 K) mg base 6 "_law_same" st__law_same ["_law_found", "_law_due"] ((gA "_law_same") K) fd__law_same G__law_same := ⟨F__law_same, (He.glo_ok X G (c.fact 44 (f := fGlo "_law_same") rfl)), b__law_same, rec__law_same fun k GG hG => ok__law_same B C L     F__law_same (He.glo_ok X G (c.fact 44 (f := fGlo "_law_same") rfl)) b__law_same hG⟩
  have h__law_left : At l.prog w K (clsT lamq p.2 K) mg base 2 "_law_left" st__law_left ["_law_lot_here", "_law_row"] ((gA "_law_left") K) fd__law_left G__law_left := ⟨F__law_left, (He.glo_ok X G (c.fact 45 (f := fGlo "_law_left") rfl)), b__law_left, ok__law_left B C L     F__law_left⟩
  have h__law_covers : At l.prog w K (clsT lamq p.2 K) mg base 4 "_law_covers" st__law_covers ["_law_lot_here", "_law_row", "_law_fold"] ((gA "_law_covers") K) fd__law_covers G__law_covers := ⟨F__law_covers, (He.glo_ok X G (c.fact 46 (f := fGlo "_law_covers") rfl)), b__law_covers, ok__law_covers B C L  h__law_left   F__law_covers⟩
  have h__law_keep : At l.prog w K (clsT lamq p.2 K) mg base 6 "_law_keep" st__law_keep ["_law_lot_here", "_law_row", "_law_fold"] ((gA "_law_keep") K) fd__law_keep G__law_keep := ⟨F__law_keep, (He.glo_ok X G (c.fact 47 (f := fGlo "_law_keep") rfl)), b__law_keep, ok__law_keep B C L  h__law_covers h__law_left   F__law_keep⟩
  have h__law_lot : At l.prog w K (clsT lamq p.2 K) mg base 8 "_law_lot" st__law_lot ["_law_rows", "_law_fold"] ((gA "_law_lot") K) fd__law_lot G__law_lot := ⟨F__law_lot, (He.glo_ok X G (c.fact 48 (f := fGlo "_law_lot") rfl)), b__law_lot, ok__law_lot B C L  h__law_keep   F__law_lot⟩
  have h_Hull___len__ : AtM l.prog w K (clsT lamq p.2 K) mg base 2 (He.ga K "Hull") "__len__" "Hull.__len__" st_Hull___len__ ["self"] ((mA "Hull" "__len__") K) fd_Hull___len__ G_Hull___len__ := ⟨F_Hull___len__, He.meth_ok (c.fact 49 (f := fMeth "Hull" "__len__") rfl), b_Hull___len__, ok_Hull___len__ B C L     F_Hull___len__⟩
  have h__law_wide_so_R : At l.prog w K (clsT lamq p.2 K) mg base 10 "_law_wide_so" st__law_wide_so_R ["_law_row", "_law_at"] ((gA "_law_wide_so") K) fd__law_wide_so_R G__law_wide_so_R := ⟨F__law_wide_so_R, (He.glo_ok X G (c.fact 50 (f := fGlo "_law_wide_so") rfl)), b__law_wide_so_R, ok__law_wide_so_R B C L c_Hull h_Hull___init___R h_Hull_take_R h_Hull___len__ h_Hull___contains__ h__law_same   F__law_wide_so_R⟩
  exact ok_law B C L c_Hull h__law_bag h__law_draw h__law_lot h_Hull___init___R h_Hull_take_R h__law_covers h_Hull___contains__ h__law_same h__law_of h__law_wide_so_R  F_law
end K13
open PySem PySem.W PySem.Calls PyProof.Rows
set_option maxRecDepth 100000 in
set_option maxHeartbeats 0 in
theorem PySem.Challenge.cw_coarseonce_k13_whole_combinations_are_co_holds : PySem.Challenge.rw_coarseonce_k13_whole_combinations_are_co.Holds := by
  refine K13.fin_ ?_
  refine Si.walk_lawT (l := PySem.Challenge.rw_coarseonce_k13_whole_combinations_are_co) (k := 12) (x := "_law_script") (ql := K13.lamq) (G := K13.F_law) rfl K13.hdf_ ⟨rfl, by decide, by decide⟩ (fun K c => c.fact 51 rfl) ?F K13.law_true
  intro w K mg fa h p KX c G hmg0 hp
  have hmg : mg ("law" : PySem.Str) = some (.ref fa) := by
    rw [← K13.nm_]
    exact hmg0
  exact K13.facts KX G hmg c hp

