import PyProof.Rows.All
import Wide.All
import OpenK.AllK
import Wide.FinOn
import Lean
import HandS.Words
import HandS.Head0
import HandS.Head1
import HandS.Head2
import HandS.HeadEnd
import HandS.HeadHook1
import HandS.HeadHook2
import HandS.HeadHook3
import HandS.HeadHook4
import HandS.ForMost
import HandS.Exc
import HandS.ExcOwn
import HandS.WordsExc
import HandS.Deep
import HandS.Lambda
import PySem.Str
import HandS.Base
import HandS.Defaults
import HandS.TupAny
import HandS.IsInst
import HandS.DictEq
import KE.DataCmp
import KE.DataMinMax
import HandS.Conv
import HandS.Zip
import PyProof.DictWalks
import PyProof.DictUpdate
import HandS.SortInts
import HandS.More
import PyProof.Rows.SortShellAny
import HandS.SetFor
import HandS.Small
import KE.GoesEnum
import KE.SortData
import HandS.MakeKwOnly
import PyProof.NeKinds
import KE.DataFind
import HandS.Remove
import HandS.TupMul
import HandS.DictComp
import HandS.Iter
import HandS.TryOnly
import PyProof.P3In
import HandS.CallSlots
import HandS.Text
import HandS.RaiseMore
import HandS.ExcIs
import HandS.EndTab
import HandS.HeadWalk
import PySem.Challenge.RW_clipformats_k07_bodies_made_along_kinds
set_option Elab.async false
set_option linter.all false
set_option autoImplicit false
set_option maxRecDepth 100000
set_option maxHeartbeats 0
noncomputable section
namespace Mm
theorem aa'.{u} {α : Type u} {a : α} {l : List α} : (a :: l)[0]? = some a := rfl
theorem ab'.{u} {α : Type u} {a : α} {l : List α} {i : Nat} : (a :: l)[i + 1]? = l[i]? := rfl
theorem ac'.{u} {α : Type u} {a : α} {l : List α} {b : α} : (a :: l).set 0 b = b :: l := rfl
theorem ad'.{u} {α : Type u} {a : α} {l : List α} {n : Nat} {b : α} : (a :: l).set (n + 1) b = a :: l.set n b := rfl
theorem ae' : (!true) = false := rfl
theorem af' : (!false) = true := rfl
theorem ag' : (false = true) = False := Bool.false_eq_true
theorem ah' (n : Nat) : 0 ≤ n := Nat.zero_le n
theorem al'.{u, v} {α : Type u} {β : Type v} {f : α → β} {a : α} {l : List α} : (a :: l).map f = f a :: l.map f := rfl
theorem am'.{u, v} {α : Type u} {β : Type v} {f : α → β} : ([] : List α).map f = [] := rfl
theorem an'.{u} {α : Type u} {a : α} {l : List α} : (a :: l).length = l.length + 1 := rfl
theorem ao'.{u} {α : Type u} : ([] : List α).length = 0 := rfl
theorem aq'.{u} {α : Type u} {a : α} {l r : List α} : (a :: l) ++ r = a :: (l ++ r) := rfl
theorem ar'.{u} {α : Type u} (l : List α) : [] ++ l = l := rfl
end Mm
namespace Mm
open PySem PySem.Spec PyProof.Rows L2
def top (i : Nat) : Stmt := PySem.Challenge.pw_clipformats_k07_bodies_made_along_kinds.main.body.getD i (.Pass ⟨0, 0, 0, 0⟩)
abbrev s_is_between : Stmt := top 22
abbrev s_is_kind : Stmt := top 23
abbrev s_is_body : Stmt := top 24
abbrev s_is_way : Stmt := top 25
abbrev s_need_ways : Stmt := top 26
abbrev s_are_kinds : Stmt := top 27
abbrev s_need_kinds : Stmt := top 28
abbrev s_need_body : Stmt := top 29
abbrev s_turned : Stmt := top 30
abbrev s_along : Stmt := top 31
abbrev s_made : Stmt := top 32
abbrev s_law_dice : Stmt := top 34
abbrev s_law_off : Stmt := top 35
abbrev s_law_alike : Stmt := top 36
abbrev s_law_word : Stmt := top 37
abbrev s_law_are : Stmt := top 38
abbrev s_law_ways : Stmt := top 39
abbrev s_law_body : Stmt := top 40
abbrev s_law_turned : Stmt := top 41
abbrev s_law_made : Stmt := top 42
abbrev s_law_walk : Stmt := top 43
abbrev s_law : Stmt := top 44
def d_is_between : He.DefD := ⟨("is_between", none), "is_between", "is_between", defArgs s_is_between, defBody s_is_between, defScope s_is_between, [], []⟩
def d_is_kind : He.DefD := ⟨("is_kind", none), "is_kind", "is_kind", defArgs s_is_kind, defBody s_is_kind, defScope s_is_kind, [], []⟩
def d_is_body : He.DefD := ⟨("is_body", none), "is_body", "is_body", defArgs s_is_body, defBody s_is_body, defScope s_is_body, [], []⟩
def d_is_way : He.DefD := ⟨("is_way", none), "is_way", "is_way", defArgs s_is_way, defBody s_is_way, defScope s_is_way, [], []⟩
def d_need_ways : He.DefD := ⟨("need_ways", none), "need_ways", "need_ways", defArgs s_need_ways, defBody s_need_ways, defScope s_need_ways, [], []⟩
def d_are_kinds : He.DefD := ⟨("are_kinds", none), "are_kinds", "are_kinds", defArgs s_are_kinds, defBody s_are_kinds, defScope s_are_kinds, [], []⟩
def d_need_kinds : He.DefD := ⟨("need_kinds", none), "need_kinds", "need_kinds", defArgs s_need_kinds, defBody s_need_kinds, defScope s_need_kinds, [], []⟩
def d_need_body : He.DefD := ⟨("need_body", none), "need_body", "need_body", defArgs s_need_body, defBody s_need_body, defScope s_need_body, [], []⟩
def d_turned : He.DefD := ⟨("turned", none), "turned", "turned", defArgs s_turned, defBody s_turned, defScope s_turned, [], []⟩
def d_along : He.DefD := ⟨("along", none), "along", "along", defArgs s_along, defBody s_along, defScope s_along, [], []⟩
def d_made : He.DefD := ⟨("made", none), "made", "made", defArgs s_made, defBody s_made, defScope s_made, [], []⟩
def d_law_dice : He.DefD := ⟨("_law_dice", none), "_law_dice", "_law_dice", defArgs s_law_dice, defBody s_law_dice, defScope s_law_dice, [], []⟩
def d_law_off : He.DefD := ⟨("_law_off", none), "_law_off", "_law_off", defArgs s_law_off, defBody s_law_off, defScope s_law_off, [], []⟩
def d_law_alike : He.DefD := ⟨("_law_alike", none), "_law_alike", "_law_alike", defArgs s_law_alike, defBody s_law_alike, defScope s_law_alike, [], []⟩
def d_law_word : He.DefD := ⟨("_law_word", none), "_law_word", "_law_word", defArgs s_law_word, defBody s_law_word, defScope s_law_word, [], []⟩
def d_law_are : He.DefD := ⟨("_law_are", none), "_law_are", "_law_are", defArgs s_law_are, defBody s_law_are, defScope s_law_are, [], []⟩
def d_law_ways : He.DefD := ⟨("_law_ways", none), "_law_ways", "_law_ways", defArgs s_law_ways, defBody s_law_ways, defScope s_law_ways, [], []⟩
def d_law_body : He.DefD := ⟨("_law_body", none), "_law_body", "_law_body", defArgs s_law_body, defBody s_law_body, defScope s_law_body, [], []⟩
def d_law_turned : He.DefD := ⟨("_law_turned", none), "_law_turned", "_law_turned", defArgs s_law_turned, defBody s_law_turned, defScope s_law_turned, [], []⟩
def d_law_made : He.DefD := ⟨("_law_made", none), "_law_made", "_law_made", defArgs s_law_made, defBody s_law_made, defScope s_law_made, [], []⟩
def d_law_walk : He.DefD := ⟨("_law_walk", none), "_law_walk", "_law_walk", defArgs s_law_walk, defBody s_law_walk, defScope s_law_walk, [], []⟩
def d_law : He.DefD := ⟨("law", none), "law", "law", defArgs s_law, defBody s_law, defScope s_law, [], []⟩
def fn : List He.DefD := ([d_is_between, d_is_kind, d_is_body, d_is_way, d_need_ways, d_are_kinds, d_need_kinds, d_need_body, d_turned, d_along, d_made, d_law_dice, d_law_off, d_law_alike, d_law_word, d_law_are, d_law_ways, d_law_body, d_law_turned, d_law_made, d_law_walk, d_law] : List He.DefD)
def fa : List He.Fa := ([.glo "is_between", .glo "is_kind", .glo "is_body", .glo "is_way", .glo "need_ways", .glo "are_kinds", .glo "need_kinds", .glo "need_body", .glo "turned", .glo "along", .glo "made", .glo "_law_dice", .glo "_law_off", .glo "_law_alike", .glo "_law_word", .glo "_law_are", .glo "_law_ways", .glo "_law_body", .glo "_law_turned", .glo "_law_made", .glo "_law_walk", .glo "law", .free "ValueError", .free "abs", .free "all", .free "bool", .free "enumerate", .free "int", .free "isinstance", .free "len"] : List He.Fa) ++ ([.free "list", .free "range", .free "set", .free "sorted", .free "str", .free "tuple", .int "KINDS" 10, .int "MOST_BODY" 12, .int "MOST_LOSS" 9, .int "MOST_WAYS" 30, .glo "RULES", .exc "BadRoute", .glo "BadRoute", .glo "BadWays", .glo "BadSteps", .glo "BadLog", .glo "BadKind", .glo "BadKinds", .glo "BadBody", .glo "BadMost", .glo "BadOffers", .glo "NoProgram", .glo "NoClip", .glo "NotOffered", .glo "Full", .glo "BadText", .glo "ClipError", .exm "BadRoute" "ClipError" true] : List He.Fa)
def raiH : List PySem.Str := ["BadRoute"]
def errsH : List PySem.Str := ["BadWays", "BadSteps", "BadLog", "BadKind", "BadKinds", "BadBody", "BadRoute", "BadMost", "BadOffers", "NoProgram", "NoClip", "NotOffered", "Full", "BadText"]
def exE (K : PySem.W.Frag) : Bool := raiH.all fun y => (errsH.all fun z => decide (PySem.W.kitOne K (.ref (He.ga K y)) (.ref (He.ga K z)) = some (decide (z = y)))) && (decide (PySem.W.kitOne K (.ref (He.ga K y)) (.type "ValueError") = some true) &&
  (decide (PySem.W.findIn K (.ref (He.ga K y)) "__getattribute__" = some (some (.builtin "BaseException.__getattribute__"))) && (decide (PySem.W.findIn K (.ref (He.ga K y)) "__getattr__" = some none) && (decide (PySem.W.subIn K (.ref (He.ga K y)) (.type "BaseException") = some true) && (PySem.W.hasDictIn K (He.ga K y) && (decide (PySem.W.findIn K (.ref (He.ga K y)) "__class__" = some (some (.builtin "object.__class__"))) &&
  (decide (PySem.W.specialIn K (.builtin "object.__class__") "__get__" = some (some (.builtin "getset_descriptor.__get__"))) && (decide (PySem.W.takesIn K (.builtin "object.__class__") = some true) && decide (PySem.W.mroIn K (He.ga K y) (.type "object") = some true)))))))))
def ex (K : PySem.W.Frag) : Bool := (exE K && (He.tupB K "RULES" [.str "same", .str "turn", .str "sort", .str "half", .str "next"] && true))
def ts : List He.Tab := []
abbrev R0 : PySem.W.OpenRow := PySem.W.OpenLaw.row PySem.Challenge.rw_clipformats_k07_bodies_made_along_kinds
abbrev hk : PySem.W.Hook := He.hookX 5 fa fn ts [("law", none)] ex
def ob (s : PySem.W.SharedT) : He.AlX := He.obsX 5 fa fn ts [("law", none)] ex (HandSHeadRun.getT s)
theorem ob_eq (s : PySem.W.SharedT) : ob s = hk.obs s.abs := He.obsX_eq (HandSHeadRun.getT_eq s)
def names : List PySem.Str := (["ClipError", "BadWays", "BadSteps", "BadLog", "BadKind", "BadKinds", "BadBody", "BadRoute", "BadMost", "BadOffers", "NoProgram", "NoClip", "NotOffered", "Full", "BadText", "KINDS", "MOST_BODY", "MOST_LOSS", "MOST_WAYS", "RULES", "is_between", "is_kind", "is_body", "is_way", "need_ways", "are_kinds", "need_kinds", "need_body", "turned", "along"] : List PySem.Str) ++ (["made", "_law_dice", "_law_off", "_law_alike", "_law_word", "_law_are", "_law_ways", "_law_body", "_law_turned", "_law_made", "_law_walk"] : List PySem.Str)
end Mm
namespace Mm
open PySem PySem.Spec PyProof.Rows L2
theorem run (w : World) : HandSHeadRun.RunEq R0 (PySem.W.view R0.prog [44]) hk ob 20000 names w := by
  intro os
  kernel_rfl
end Mm
namespace Mm
abbrev Str := PySem.Str
abbrev Key := Sum Int Str
/-- data: tuples, frozen lists, frozen dicts by content (rt, rl: such as are only read; st: a tuple known to have no dict); mutable objects by their place; globals by name; built-in types; function objects by their address (fn); tb: a code object's table, beside it what the maker of a lambda knows of its names -/
inductive D where
  | non | bl (b : Bool) | int (i : Int) | str (s : Str)
  | t (ds : List D) | l (ds : List D) | dk (ks : List Key) (ds : List D)
  | rt (ds : List D) | rl (ds : List D)
  | st (ds : List D)
  | loc (n : Nat) | g (x : Str) | ty (n : String)
  | fn (a : Nat)
/-- a mutable object -/
inductive O where
  | lst (ds : List D)
  | dk (kvs : List (Key × D))
  | dt (kvs : List (List Key × D))
  | lt (kvs : List (List Key × D)) (ho : L2.HO)
  | ins (c : Str) (fs : List (Str × D))
  | tb (q : Str) (cs : List Nat) (fs : List (Option D)) (vs : List (Option L2.V))
  | dead
abbrev Hs := List O
abbrev Fs := List (Option D)
inductive R (α : Type) where
  | ok (a : α) (hs : Hs)
  | exc (c : Str) (p : D) (hs : Hs)
  | bad
def R.bind {α β : Type} (r : R α) (k : α → Hs → R β) : R β := match r with
  | .ok a hs => k a hs
  | .exc c p hs => .exc c p hs
  | .bad => .bad
@[simp] theorem R.bind_ok {α β : Type} (a : α) (hs : Hs) (k : α → Hs → R β) : (R.ok a hs).bind k = k a hs := rfl
@[simp] theorem R.bind_exc {α β : Type} (c : Str) (p : D) (hs : Hs) (k : α → Hs → R β) : (R.exc c p hs : R α).bind k = .exc c p hs := rfl
@[simp] theorem R.bind_bad {α β : Type} (k : α → Hs → R β) : (R.bad : R α).bind k = .bad := rfl
/-- what may not raise -/
def R.bindN {α β : Type} (r : R α) (k : α → Hs → R β) : R β := match r with
  | .ok a hs => k a hs
  | _ => .bad
@[simp] theorem R.bindN_ok {α β : Type} (a : α) (hs : Hs) (k : α → Hs → R β) : (R.ok a hs).bindN k = k a hs := rfl
@[simp] theorem R.bindN_exc {α β : Type} (c : Str) (p : D) (hs : Hs) (k : α → Hs → R β) : (R.exc c p hs : R α).bindN k = .bad := rfl
@[simp] theorem R.bindN_bad {α β : Type} (k : α → Hs → R β) : (R.bad : R α).bindN k = .bad := rfl
abbrev M := Fs → Hs → R D
abbrev MA := Fs → Hs → R (List D)
abbrev MT := Fs → Hs → R Bool
abbrev MG := D → Fs → Hs → R Fs
/-- what a loop walks: the items; the tracked list (its place, its items) that must stand -/
abbrev MI := Fs → Hs → R (List D × Option (Nat × List D))
def eVar (i : Nat) : M := fun fs hs => match fs[i]? with
  | some (some d) => .ok d hs
  | _ => .bad
def eC (d : D) : M := fun _ hs => .ok d hs
def eBin (op : D → D → Hs → R D) (a b : M) : M := fun fs hs => (a fs hs).bind fun x h1 => (b fs h1).bind fun y h2 => op x y h2
def eUn (op : D → Hs → R D) (a : M) : M := fun fs hs => (a fs hs).bind fun x h1 => op x h1
def aNil : MA := fun _ hs => .ok [] hs
def aCons (a : M) (r : MA) : MA := fun fs hs => (a fs hs).bind fun x h1 => (r fs h1).bind fun xs h2 => .ok (x :: xs) h2
/-- displays, calls: by the values -/
def eArgs (op : List D → Hs → R D) (as : MA) : M := fun fs hs => (as fs hs).bind op
/-- a method of a built-in type: the object (of that type), then the arguments -/
def eMeth (ty : D → Hs → Bool) (op : D → List D → Hs → R D) (o : M) (as : MA) : M := fun fs hs => (o fs hs).bind fun x h1 => if ty x h1 = true then (as fs h1).bind fun xs h2 => op x xs h2 else .bad
def isLst (x : D) (hs : Hs) : Bool := match x with
  | .l _ => true
  | .loc n => match hs[n]? with
    | some (.lst _) => true
    | _ => false
  | _ => false
def isDct (x : D) (hs : Hs) : Bool := match x with
  | .dk _ _ => true
  | .loc n => match hs[n]? with
    | some (.dk _) => true
    | some (.dt _) => true
    | _ => false
  | _ => false
def eIf (t : MT) (a b : M) : M := fun fs hs => (t fs hs).bind fun c h1 => if c = true then a fs h1 else b fs h1
/-- and, or of truths as values -/
def eAnd (a b : M) : M := fun fs hs => (a fs hs).bind fun x h1 => match x with
  | .bl c => if c = true then b fs h1 else .ok (.bl false) h1
  | _ => .bad
def eOr (a b : M) : M := fun fs hs => (a fs hs).bind fun x h1 => match x with
  | .bl c => if c = true then .ok (.bl true) h1 else b fs h1
  | _ => .bad
def eNot (a : M) : M := fun fs hs => (a fs hs).bind fun x h1 => match x with
  | .bl c => .ok (.bl (!c)) h1
  | _ => .bad
/-- a op b op' c -/
def eChain (op op' : D → D → Hs → R D) (a b c : M) : M := fun fs hs => (a fs hs).bind fun x h1 => (b fs h1).bind fun y h2 => (op x y h2).bind fun z h3 => match z with
  | .bl k => if k = true then (c fs h3).bind fun u h4 => op' y u h4 else .ok (.bl false) h3
  | _ => .bad
def tVal (a : M) : MT := fun fs hs => (a fs hs).bind fun x h1 => match x with
  | .bl c => .ok c h1
  | _ => .bad
def tAnd (a b : MT) : MT := fun fs hs => (a fs hs).bind fun c h1 => if c = true then b fs h1 else .ok false h1
def tOr (a b : MT) : MT := fun fs hs => (a fs hs).bind fun c h1 => if c = true then .ok true h1 else b fs h1
def tNot (a : MT) : MT := fun fs hs => (a fs hs).bind fun c h1 => .ok (!c) h1
def tYes : MT := fun _ hs => .ok true hs
def frz (d : D) (hs : Hs) : R D := match d with
  | .loc n => match hs[n]? with
    | some (.lst ds) => .ok (.l ds) (hs.set n .dead)
    | some (.dk kvs) => .ok (.dk (kvs.map (·.1)) (kvs.map (·.2))) (hs.set n .dead)
    | _ => .bad
  | d => .ok d hs
def eFrz (a : M) : M := eUn frz a
def seqOf (d : D) (hs : Hs) : Option (List D) := match d with
  | .t ds => some ds
  | .l ds => some ds
  | .rt ds => some ds
  | .rl ds => some ds
  | .st ds => some ds
  | .loc n => match hs[n]? with
    | some (.lst ds) => some ds
    | _ => none
  | _ => none
def ixN (n : Nat) (i : Int) : Option Nat := if 0 ≤ i then (if i < n then some i.toNat else none) else if 0 ≤ i + n then some (i + n).toNat else none
def vIx (x i : D) (hs : Hs) : R D := match i with
  | .int k => match seqOf x hs with
    | some ds => match (ixN ds.length k).bind fun j => ds[j]? with
      | some d => .ok d hs
      | none => .bad
    | none => .bad
  | _ => .bad
abbrev MO := Fs → Hs → R (Option Int)
def oNone : MO := fun _ hs => .ok none hs
def oSome (a : M) : MO := fun fs hs => (a fs hs).bind fun x h1 => match x with
  | .int i => .ok (some i) h1
  | _ => .bad
def eSl (op : D → Option Int → Option Int → Hs → R D) (a : M) (lo hi : MO) : M := fun fs hs => (a fs hs).bind fun x h1 => (lo fs h1).bind fun l h2 => (hi fs h2).bind fun u h3 => op x l u h3
inductive RS where
  | nx (fs : Fs) (hs : Hs) | ret (d : D) (hs : Hs) | brk (fs : Fs) (hs : Hs) | cnt (fs : Fs) (hs : Hs) | exc (c : Str) (p : D) (fs : Fs) (hs : Hs) | bad
abbrev MS := Fs → Hs → RS
def R.bindS {α : Type} (fs : Fs) (r : R α) (k : α → Hs → RS) : RS := match r with
  | .ok a hs => k a hs
  | .exc c p hs => .exc c p fs hs
  | .bad => .bad
@[simp] theorem R.bindS_ok {α : Type} (fs : Fs) (a : α) (hs : Hs) (k : α → Hs → RS) : R.bindS fs (R.ok a hs) k = k a hs := rfl
@[simp] theorem R.bindS_exc {α : Type} (fs : Fs) (c : Str) (p : D) (hs : Hs) (k : α → Hs → RS) : R.bindS fs (R.exc c p hs : R α) k = .exc c p fs hs := rfl
@[simp] theorem R.bindS_bad {α : Type} (fs : Fs) (k : α → Hs → RS) : R.bindS fs (R.bad : R α) k = .bad := rfl
def RS.seq (r : RS) (k : MS) : RS := match r with
  | .nx fs hs => k fs hs
  | r => r
def sNx : MS := fun fs hs => .nx fs hs
def sSeq (a b : MS) : MS := fun fs hs => (a fs hs).seq b
def gName (i : Nat) : MG := fun d fs hs => .ok (fs.set i (some d)) hs
/-- the targets of a tuple, from the left -/
def gNil : List D → Fs → Hs → R Fs := fun ds fs hs => match ds with
  | [] => .ok fs hs
  | _ => .bad
def gCons (g : MG) (r : List D → Fs → Hs → R Fs) : List D → Fs → Hs → R Fs := fun ds fs hs => match ds with
  | d :: ds => (g d fs hs).bind fun fs h1 => r ds fs h1
  | [] => .bad
def gTup (g : List D → Fs → Hs → R Fs) : MG := fun d fs hs => match d with
  | .t ds => g ds fs hs
  | _ => .bad
/-- o[i] = v -/
def gSub (set : D → D → D → Hs → R Unit) (o i : M) : MG := fun v fs hs => (o fs hs).bind fun x h1 => (i fs h1).bind fun k h2 => (set x k v h2).bind fun _ h3 => .ok fs h3
def sAsg (a : M) (g : MG) : MS := fun fs hs => R.bindS fs (a fs hs) fun d h1 => R.bindS fs (g d fs h1) fun fs' h2 => .nx fs' h2
/-- a, b = x, y (local names) -/
def sPar (i j : Nat) (a b : M) : MS := fun fs hs => R.bindS fs (a fs hs) fun x h1 => R.bindS fs (b fs h1) fun y h2 => .nx ((fs.set i (some x)).set j (some y)) h2
def sExpr (a : M) : MS := fun fs hs => R.bindS fs (a fs hs) fun _ h1 => .nx fs h1
def sRet (a : M) : MS := fun fs hs => R.bindS fs (a fs hs) fun d h1 => .ret d h1
def sRetN : MS := fun _ hs => .ret .non hs
def sIf (t : MT) (a b : MS) : MS := fun fs hs => R.bindS fs (t fs hs) fun c h1 => if c = true then a fs h1 else b fs h1
def sNever : MS := fun _ _ => .bad
/-- the tracked list is as it was -/
def stands (k : Option (Nat × List D)) (hs : Hs) : Prop := match k with
  | none => True
  | some p => hs[p.1]? = some (.lst p.2)
open Classical in
def forL (k : Option (Nat × List D)) (g : MG) (body : MS) : List D → MS
  | [], fs, hs => if stands k hs then .nx fs hs else .bad
  | x :: r, fs, hs => if stands k hs then (R.bindS fs (g x fs hs) fun fs' h1 => match body fs' h1 with
      | .nx fs2 h2 => forL k g body r fs2 h2
      | .cnt fs2 h2 => forL k g body r fs2 h2
      | .brk fs2 h2 => .nx fs2 h2
      | z => z) else .bad
def sFor (src : MI) (g : MG) (body : MS) : MS := fun fs hs => R.bindS fs (src fs hs) fun p h1 => forL p.2 g body p.1 fs h1
def whileN (t : MT) (body : MS) : Nat → MS
  | 0, _, _ => .bad
  | n + 1, fs, hs => R.bindS fs (t fs hs) fun c h1 => if c = true then (match body fs h1 with
      | .nx fs2 h2 => whileN t body n fs2 h2
      | .cnt fs2 h2 => whileN t body n fs2 h2
      | .brk fs2 h2 => .nx fs2 h2
      | z => z) else .nx fs h1
def sWhile (fuel : Nat) (t : MT) (body : MS) : MS := whileN t body fuel
def iSeq (a : M) : MI := fun fs hs => (a fs hs).bind fun d h1 => match d with
  | .t ds => .ok (ds, none) h1
  | .st ds => .ok (ds, none) h1
  | .l ds => .ok (ds, none) h1
  | .rl ds => .ok (ds, none) h1
  | .loc n => match h1[n]? with
    | some (.lst ds) => .ok (ds, some (n, ds)) h1
    | _ => .bad
  | _ => .bad
def onlyT (m : M) : M := fun fs hs => (m fs hs).bind fun d h1 => match d with
  | .t ds => .ok (.t ds) h1
  | _ => .bad
def onlyL (m : M) : M := fun fs hs => (m fs hs).bind fun d h1 => match d with
  | .t _ => .bad
  | .st _ => .bad
  | d => .ok d h1
def rng (lo : Int) (n : Nat) : List D := (List.range n).map fun (k : Nat) => .int (lo + (k : Int))
def lim : Int := 1000000
def int1 : List D → Option Int
  | [.int j] => some j
  | _ => none
def int2 : List D → Option (Int × Int)
  | [.int i, .int j] => some (i, j)
  | _ => none
theorem int1_some {ds : List D} {j : Int} (h : int1 ds = some j) : ds = [.int j] := by
  unfold int1 at h
  split at h
  · cases h; rfl
  · cases h
theorem int2_some {ds : List D} {p : Int × Int} (h : int2 ds = some p) : ds = [.int p.1, .int p.2] := by
  unfold int2 at h
  split at h
  · cases h; rfl
  · cases h
def iRng1 (as : MA) : MI := fun fs hs => (as fs hs).bind fun ds h1 => match int1 ds with
  | some j => if -lim ≤ j ∧ j ≤ lim then .ok (rng 0 j.toNat, none) h1 else .bad
  | none => .bad
def iRng2 (as : MA) : MI := fun fs hs => (as fs hs).bind fun ds h1 => match int2 ds with
  | some p => if (-lim ≤ p.1 ∧ p.1 ≤ lim) ∧ (-lim ≤ p.2 ∧ p.2 ≤ lim) then .ok (rng p.1 (p.2 - p.1).toNat, none) h1 else .bad
  | none => .bad
def enumD (ds : List D) : List D := List.zipWith (fun (k : Nat) d => .t [.int (k : Int), d]) (List.range ds.length) ds
def one1 : List D → Option D
  | [d] => some d
  | _ => none
theorem one1_some {ds : List D} {d : D} (h : one1 ds = some d) : ds = [d] := by
  unfold one1 at h
  split at h
  · cases h; rfl
  · cases h
def wipe (fs : Fs) : List Nat → Fs
  | [] => fs
  | v :: vs => (wipe fs vs).set v none
open Classical in
def lcL (k : Option (Nat × List D)) (g : MG) (t : MT) (e : M) (fs : Fs) : List D → List D → Hs → R (List D)
  | [], acc, hs => if stands k hs then .ok acc hs else .bad
  | x :: r, acc, hs => if stands k hs then ((g x fs hs).bindN fun fs' h1 => (t fs' h1).bindN fun c h2 => if c = true then ((e fs' h2).bindN fun y h3 =>
      if acc.length < 100000 then lcL k g t e fs r (acc ++ [y]) h3 else .bad) else lcL k g t e fs r acc h2) else .bad
/-- the new list is frozen -/
def eLc (own : List Nat) (src : MI) (g : MG) (t : MT) (e : M) : M := fun fs hs => (src fs hs).bind fun p h1 => (lcL p.2 g t e (wipe fs own) p.1 [] h1).bind fun ds h2 => .ok (.l ds) h2
def start (n : Nat) (ds : List D) : Fs := ds.map some ++ List.replicate (n - ds.length) none
def RS.toR : RS → R D
  | .nx _ hs => .ok .non hs
  | .ret d hs => .ok d hs
  | .exc c p _ hs => .exc c p hs
  | _ => .bad
def runD (n : Nat) (body : MS) (ds : List D) (hs : Hs) : R D := (body (start n ds) hs).toR
mutual
def closed (n : Nat) : D → Bool
  | .t ds => closedL n ds
  | .l ds => closedL n ds
  | .dk _ ds => closedL n ds
  | .rt ds => closedL n ds
  | .st ds => closedL n ds
  | .rl ds => closedL n ds
  | .loc k => decide (k < n)
  | _ => true
def closedL (n : Nat) : List D → Bool
  | [] => true
  | d :: ds => closed n d && closedL n ds
end
def closedO (n : Nat) : O → Bool
  | .lst ds => closedL n ds
  | .dk kvs => closedL n (kvs.map (·.2))
  | .dt kvs => closedL n (kvs.map (·.2))
  | .lt kvs _ => closedL n (kvs.map (·.2))
  | .ins _ fs => closedL n (fs.map (·.2))
  | .tb _ _ fs _ => decide (1 < n) && closedL n (fs.filterMap id)
  | .dead => true
/-- the objects that the def has made are forgotten, but the first k -/
def Trims (hs hs' : Hs) (m : Nat) : Prop := hs.length ≤ m ∧ m ≤ hs'.length ∧ ∀ i, i < m → hs'[i]? = hs[i]? ∨ ∃ o, hs'[i]? = some o ∧ closedO m o = true
open Classical in
def trim (k : Nat) (hs : Hs) (r : R D) : R D := match r with
  | .ok d hs' => if closed (hs.length + k) d = true ∧ Trims hs hs' (hs.length + k) then .ok d (hs'.take (hs.length + k)) else .bad
  | .exc c p hs' => if closed hs.length p = true ∧ Trims hs hs' hs.length then .exc c p (hs'.take hs.length) else .bad
  | .bad => .bad
/-- a def: np parameters, n names; the first k objects that it makes stay -/
def callD (np n k : Nat) (body : MS) : List D → Hs → R D := fun ds hs => if ds.length = np then trim k hs (runD n body ds hs) else .bad
theorem ba' {α β : Type} (a : α) (hs : Hs) (k : α → Hs → R β) : (R.ok a hs).bind k = k a hs := rfl
theorem bb' {α : Type} (fs : Fs) (a : α) (hs : Hs) (k : α → Hs → RS) : R.bindS fs (R.ok a hs) k = k a hs := rfl
theorem bc' {α β : Type} (a : α) (hs : Hs) (k : α → Hs → R β) : (R.ok a hs).bindN k = k a hs := rfl
end Mm
namespace Mm
open PySem PySem.Spec PyProof.Rows L2
structure Ct where
  K : PySem.W.Frag
  G : Str → Addr
  P0 : Addr
structure Wd where
  ρ : List Addr
  F : Hp
  H : Hp
mutual
def Rp (c : Ct) (ρ : List Addr) (F : Hp) : D → V → Prop
  | .non, v => v = .non
  | .bl b, v => v = .bl b
  | .int i, v => v = .int i
  | .str s, v => v = .str s
  | .t ds, v => ∃ a vs, v = .ref a ∧ F a = some (.tup vs) ∧ Rps c ρ F ds vs
  | .l ds, v => ∃ a vs, v = .ref a ∧ F a = some (.lst vs) ∧ Rps c ρ F ds vs
  | .st ds, v => ∃ a vs, v = .ref a ∧ (∃ ob, F a = some (.frz ob (.tup vs)) ∧ ob.cls = .type "tuple" ∧ ob.dict = none) ∧ Rps c ρ F ds vs
  | .rt ds, v => ∃ a vs, v = .ref a ∧ SqT c.K F a vs ∧ Rps c ρ F ds vs
  | .rl ds, v => ∃ a vs, v = .ref a ∧ SqL c.K F a vs ∧ Rps c ρ F ds vs
  | .dk ks ds, v => ∃ a kvs, v = .ref a ∧ F a = some (.dK kvs) ∧ kvs.map (·.1) = ks ∧ Rps c ρ F ds (kvs.map (·.2))
  | .loc n, v => ∃ a, v = .ref a ∧ ρ[n]? = some a
  | .g x, v => v = .ref (c.G x)
  | .ty n, v => v = .ty n
  | .fn a, v => v = .ref a
def Rps (c : Ct) (ρ : List Addr) (F : Hp) : List D → List V → Prop
  | [], vs => vs = []
  | d :: ds, vs => ∃ v r, vs = v :: r ∧ Rp c ρ F d v ∧ Rps c ρ F ds r
end
structure Wd.le (w w' : Wd) : Prop where
  pre : ∃ s, w'.ρ = w.ρ ++ s ∧ ∀ a ∈ s, w.H a = none
  sub : ∀ a o, w.F a = some o → w'.F a = some o
  keep : ∀ a o, w.H a = some o → a ∉ w.ρ → w'.H a = some o
  there : ∀ a o, w.H a = some o → ∃ o', w'.H a = some o'
  newF : ∀ a o, w'.F a = some o → w.F a = some o ∨ w.H a = none ∨ a ∈ w.ρ
theorem sqt_sub {K : PySem.W.Frag} {F F' : Hp} (h : ∀ a o, F a = some o → F' a = some o) {a : Addr} {vs : List V} (r : SqT K F a vs) : SqT K F' a vs := by
  rcases r with (r | ⟨o, r⟩) | r
  · exact .inl (.inl (h _ _ r))
  · exact .inl (.inr ⟨o, h _ _ r⟩)
  · exact .inr r
theorem sql_sub {K : PySem.W.Frag} {F F' : Hp} (h : ∀ a o, F a = some o → F' a = some o) {a : Addr} {vs : List V} (r : SqL K F a vs) : SqL K F' a vs := by
  rcases r with (r | ⟨o, r⟩) | r
  · exact .inl (.inl (h _ _ r))
  · exact .inl (.inr ⟨o, h _ _ r⟩)
  · exact .inr r
theorem st_sqt {K : PySem.W.Frag} {F : Hp} {a : Addr} {vs : List V} (h : ∃ ob, F a = some (.frz ob (.tup vs)) ∧ ob.cls = .type "tuple" ∧ ob.dict = none) : SqT K F a vs := let ⟨ob, q, _⟩ := h; .inl (.inr ⟨ob, q⟩)
section
variable {c : Ct} {ρ ρ' : List Addr} {F F' : Hp}
mutual
theorem Rp.mono (hρ : ∃ s, ρ' = ρ ++ s) (hF : ∀ a o, F a = some o → F' a = some o) : ∀ {d : D} {v : V}, Rp c ρ F d v → Rp c ρ' F' d v
  | .non, _, h => h
  | .bl _, _, h => h
  | .int _, _, h => h
  | .str _, _, h => h
  | .t ds, v, h => by
    unfold Rp at h ⊢
    obtain ⟨a, vs, e, q, r⟩ := h
    exact ⟨a, vs, e, hF _ _ q, Rps.mono hρ hF r⟩
  | .l ds, v, h => by
    unfold Rp at h ⊢
    obtain ⟨a, vs, e, q, r⟩ := h
    exact ⟨a, vs, e, hF _ _ q, Rps.mono hρ hF r⟩
  | .st ds, v, h => by
    unfold Rp at h ⊢
    obtain ⟨a, vs, e, ⟨ob, q, q2⟩, r⟩ := h
    exact ⟨a, vs, e, ⟨ob, hF _ _ q, q2⟩, Rps.mono hρ hF r⟩
  | .rt ds, v, h => by
    unfold Rp at h ⊢
    obtain ⟨a, vs, e, q, r⟩ := h
    exact ⟨a, vs, e, sqt_sub hF q, Rps.mono hρ hF r⟩
  | .rl ds, v, h => by
    unfold Rp at h ⊢
    obtain ⟨a, vs, e, q, r⟩ := h
    exact ⟨a, vs, e, sql_sub hF q, Rps.mono hρ hF r⟩
  | .dk ks ds, v, h => by
    unfold Rp at h ⊢
    obtain ⟨a, kvs, e, q, z, r⟩ := h
    exact ⟨a, kvs, e, hF _ _ q, z, Rps.mono hρ hF r⟩
  | .loc n, v, h => by
    unfold Rp at h ⊢
    obtain ⟨a, e, q⟩ := h
    obtain ⟨s, rfl⟩ := hρ
    exact ⟨a, e, by rw [List.getElem?_append_left (List.getElem?_eq_some_iff.mp q).1]; exact q⟩
  | .g _, _, h => h
  | .ty _, _, h => h
  | .fn _, _, h => h
theorem Rps.mono (hρ : ∃ s, ρ' = ρ ++ s) (hF : ∀ a o, F a = some o → F' a = some o) : ∀ {ds : List D} {vs : List V}, Rps c ρ F ds vs → Rps c ρ' F' ds vs
  | [], _, h => h
  | d :: ds, vs, h => by
    unfold Rps at h ⊢
    obtain ⟨v, r, e, h1, h2⟩ := h
    exact ⟨v, r, e, Rp.mono hρ hF h1, Rps.mono hρ hF h2⟩
end
theorem Rps.length : ∀ {ds : List D} {vs : List V}, Rps c ρ F ds vs → vs.length = ds.length
  | [], vs, h => by unfold Rps at h; subst h; rfl
  | d :: ds, vs, h => by
    unfold Rps at h
    obtain ⟨v, r, rfl, _, h2⟩ := h
    simp [Rps.length h2]
theorem Rps.get : ∀ {ds : List D} {vs : List V} {i : Nat} {d : D}, Rps c ρ F ds vs → ds[i]? = some d → ∃ v, vs[i]? = some v ∧ Rp c ρ F d v
  | [], _, _, _, _, e => by simp at e
  | x :: ds, vs, 0, d, h, e => by
    unfold Rps at h
    obtain ⟨v, r, rfl, h1, _⟩ := h
    simp at e; subst e
    exact ⟨v, rfl, h1⟩
  | x :: ds, vs, i + 1, d, h, e => by
    unfold Rps at h
    obtain ⟨v, r, rfl, _, h2⟩ := h
    have e2 : ds[i]? = some d := by simpa using e
    obtain ⟨u, e3, h3⟩ := Rps.get h2 e2
    exact ⟨u, by simpa using e3, h3⟩
theorem Rps.append : ∀ {ds es : List D} {vs us : List V}, Rps c ρ F ds vs → Rps c ρ F es us → Rps c ρ F (ds ++ es) (vs ++ us)
  | [], es, vs, us, h, h2 => by unfold Rps at h; subst h; exact h2
  | d :: ds, es, vs, us, h, h2 => by
    unfold Rps at h
    obtain ⟨v, r, rfl, h1, h3⟩ := h
    show Rps c ρ F (d :: (ds ++ es)) (v :: (r ++ us))
    unfold Rps
    exact ⟨v, _, rfl, h1, Rps.append h3 h2⟩
theorem Rps.one {d : D} {v : V} (h : Rp c ρ F d v) : Rps c ρ F [d] [v] := by
  unfold Rps
  exact ⟨v, [], rfl, h, by unfold Rps; rfl⟩
theorem Rps.nil : Rps c ρ F [] [] := by unfold Rps; rfl
theorem Rps.cons {d : D} {v : V} {ds : List D} {vs : List V} (h : Rp c ρ F d v) (h2 : Rps c ρ F ds vs) : Rps c ρ F (d :: ds) (v :: vs) := by
  unfold Rps
  exact ⟨v, vs, rfl, h, h2⟩
theorem Rps.take : ∀ {ds : List D} {vs : List V} (n : Nat), Rps c ρ F ds vs → Rps c ρ F (ds.take n) (vs.take n)
  | _, _, 0, _ => by simp; exact Rps.nil
  | [], vs, n + 1, h => by unfold Rps at h; subst h; simp; exact Rps.nil
  | d :: ds, vs, n + 1, h => by
    unfold Rps at h
    obtain ⟨v, r, rfl, h1, h2⟩ := h
    simp only [List.take_succ_cons]
    exact Rps.cons h1 (Rps.take n h2)
theorem Rps.drop : ∀ {ds : List D} {vs : List V} (n : Nat), Rps c ρ F ds vs → Rps c ρ F (ds.drop n) (vs.drop n)
  | _, _, 0, h => by simpa using h
  | [], vs, n + 1, h => by unfold Rps at h; subst h; simp; exact Rps.nil
  | d :: ds, vs, n + 1, h => by
    unfold Rps at h
    obtain ⟨v, r, rfl, h1, h2⟩ := h
    simp only [List.drop_succ_cons]
    exact Rps.drop n h2
theorem Rps.set : ∀ {ds : List D} {vs : List V} (n : Nat) {d : D} {v : V}, Rps c ρ F ds vs → Rp c ρ F d v → Rps c ρ F (ds.set n d) (vs.set n v)
  | [], vs, n, d, v, h, _ => by unfold Rps at h; subst h; simp; exact Rps.nil
  | x :: ds, vs, 0, d, v, h, h2 => by
    unfold Rps at h
    obtain ⟨u, r, rfl, _, h3⟩ := h
    exact Rps.cons h2 h3
  | x :: ds, vs, n + 1, d, v, h, h2 => by
    unfold Rps at h
    obtain ⟨u, r, rfl, h1, h3⟩ := h
    exact Rps.cons h1 (Rps.set n h3 h2)
theorem Rps.reverse : ∀ {ds : List D} {vs : List V}, Rps c ρ F ds vs → Rps c ρ F ds.reverse vs.reverse
  | [], vs, h => by unfold Rps at h; subst h; exact Rps.nil
  | x :: ds, vs, h => by
    unfold Rps at h
    obtain ⟨u, r, rfl, h1, h3⟩ := h
    rw [List.reverse_cons, List.reverse_cons]
    exact Rps.append (Rps.reverse h3) (Rps.one h1)
end
def RO (c : Ct) (ρ : List Addr) (F : Hp) : O → HO → Prop
  | .lst ds, ho => ∃ vs, ho = .lst vs ∧ Rps c ρ F ds vs
  | .dk kvs, ho => ∃ us, ho = .dK us ∧ us.map (·.1) = kvs.map (·.1) ∧ Rps c ρ F (kvs.map (·.2)) (us.map (·.2))
  | .dt kvs, ho => ∃ us, ho = .dT us ∧ us.map (·.1) = kvs.map (·.1) ∧ Rps c ρ F (kvs.map (·.2)) (us.map (·.2))
  | .lt kvs ho0, ho => ho = ho0 ∧ ∃ od us, ho = .frz od (.dT us) ∧ us.map (·.1) = kvs.map (·.1) ∧ Rps c ρ F (kvs.map (·.2)) (us.map (·.2))
  | .ins x fs, ho => ∃ dx us, ho = .ins (c.G x) dx us ∧ us.map (·.1) = fs.map (·.1) ∧ Rps c ρ F (fs.map (·.2)) (us.map (·.2))
  | .tb q cs fs vs, ho => ρ[1]? = some c.P0 ∧ (∀ cc ∈ cs, F cc = some (LamX.CodeO cc q)) ∧ (∃ ps, ho = .tbl ps ∧ TriplesOk ps.toList ∧ ∀ pos cv, codeAmong pos ps.toList = some cv → ∃ cc, cv = .ref cc ∧ F cc = some (LamX.CodeO cc q)) ∧
      fs.length = vs.length ∧ ∀ (i : Nat) (d : D), fs[i]? = some (some d) → ∃ v, vs[i]? = some (some v) ∧ Rp c ρ F d v
  | .dead, _ => True
theorem RO.mono {c : Ct} {ρ ρ' : List Addr} {F F' : Hp} (hρ : ∃ s, ρ' = ρ ++ s) (hF : ∀ a o, F a = some o → F' a = some o) {o : O} {ho : HO} (h : RO c ρ F o ho) : RO c ρ' F' o ho := by
  cases o with
  | lst ds => obtain ⟨vs, e, r⟩ := h; exact ⟨vs, e, r.mono hρ hF⟩
  | dk kvs => obtain ⟨us, e, k, r⟩ := h; exact ⟨us, e, k, r.mono hρ hF⟩
  | dt kvs => obtain ⟨us, e, k, r⟩ := h; exact ⟨us, e, k, r.mono hρ hF⟩
  | lt kvs ho0 => obtain ⟨e0, od, us, e, k, r⟩ := h; exact ⟨e0, od, us, e, k, r.mono hρ hF⟩
  | ins x fs => obtain ⟨dx, us, e, k, r⟩ := h; exact ⟨dx, us, e, k, r.mono hρ hF⟩
  | tb q cs fs vs =>
    obtain ⟨e, kc, ⟨ps, e2, t, k⟩, l, r⟩ := h
    refine ⟨?_, fun cc z => hF _ _ (kc cc z), ⟨ps, e2, t, fun pos cv z => let ⟨cc, z1, z2⟩ := k pos cv z; ⟨cc, z1, hF _ _ z2⟩⟩, l, fun i d z => let ⟨v, z1, z2⟩ := r i d z; ⟨v, z1, z2.mono hρ hF⟩⟩
    obtain ⟨s, rfl⟩ := hρ
    rw [List.getElem?_append_left (List.getElem?_eq_some_iff.mp e).1]; exact e
  | dead => trivial
structure SR (c : Ct) (w : Wd) (hs : Hs) : Prop where
  sub : ∀ a o, w.F a = some o → w.H a = some o
  len : w.ρ.length = hs.length
  nd : w.ρ.Nodup
  fr : ∀ (i : Nat) a o, w.ρ[i]? = some a → hs[i]? = some o → o ≠ .dead → w.F a = none
  ob : ∀ (i : Nat) a o, w.ρ[i]? = some a → hs[i]? = some o → ∃ ho, w.H a = some ho ∧ RO c w.ρ w.F o ho
theorem Wd.le.refl (w : Wd) : w.le w := ⟨⟨[], by simp, by simp⟩, fun _ _ h => h, fun _ _ h _ => h, fun _ o h => ⟨o, h⟩, fun _ _ h => .inl h⟩
theorem Wd.le.rho {w w' : Wd} (h : w.le w') : ∃ s, w'.ρ = w.ρ ++ s := let ⟨s, e, _⟩ := h.pre; ⟨s, e⟩
theorem Wd.le.trans {w w1 w2 : Wd} (a : w.le w1) (b : w1.le w2) : w.le w2 := by
  obtain ⟨s, e, n⟩ := a.pre
  obtain ⟨s', e', n'⟩ := b.pre
  refine ⟨⟨s ++ s', by rw [e', e, List.append_assoc], fun x hx => ?_⟩, fun x o h => b.sub x o (a.sub x o h), fun x o h hx => ?_, fun x o h => ?_, fun x o h => ?_⟩
  · rcases List.mem_append.mp hx with h | h
    · exact n x h
    · cases q : w.H x with
      | none => rfl
      | some o =>
        obtain ⟨o', e2⟩ := a.there x o q
        rw [n' x h] at e2
        cases e2
  · refine b.keep x o (a.keep x o h hx) ?_
    rw [e]
    intro hm
    rcases List.mem_append.mp hm with z | z
    · exact hx z
    · rw [n x z] at h; cases h
  · obtain ⟨o', e2⟩ := a.there x o h
    exact b.there x o' e2
  · rcases b.newF x o h with z | z | z
    · exact a.newF x o z
    · refine .inr (.inl ?_)
      cases q : w.H x with
      | none => rfl
      | some u =>
        obtain ⟨o', e2⟩ := a.there x u q
        rw [z] at e2; cases e2
    · rw [e] at z
      rcases List.mem_append.mp z with z | z
      · exact .inr (.inr z)
      · exact .inr (.inl (n x z))
theorem Rp.le {c : Ct} {w w' : Wd} {d : D} {v : V} (h : w.le w') (r : Rp c w.ρ w.F d v) : Rp c w'.ρ w'.F d v := r.mono h.rho h.sub
theorem Rps.le {c : Ct} {w w' : Wd} {d : List D} {v : List V} (h : w.le w') (r : Rps c w.ρ w.F d v) : Rps c w'.ρ w'.F d v := r.mono h.rho h.sub
section
variable {c : Ct} {w : Wd} {hs : Hs} {p a : Addr} {ho : HO} {o : O} {i : Nat}
theorem SR.the (S : SR c w hs) (h : a ∈ w.ρ) : ∃ o, w.H a = some o := by
  obtain ⟨i, hi, e⟩ := List.mem_iff_getElem.mp h
  have h2 : i < hs.length := by rw [← S.len]; exact hi
  obtain ⟨ho, q, _⟩ := S.ob i a hs[i] (by rw [List.getElem?_eq_getElem hi, e]) (List.getElem?_eq_getElem h2)
  exact ⟨ho, q⟩
theorem SR.new (S : SR c w hs) (h : w.H p = none) : p ∉ w.ρ := fun hm => by
  obtain ⟨o, q⟩ := S.the hm
  rw [h] at q; cases q
theorem SR.newF (S : SR c w hs) (h : w.H p = none) : w.F p = none := by
  cases q : w.F p with
  | none => rfl
  | some o => rw [S.sub p o q] at h; cases h
/-- a new frozen object -/
theorem SR.froz (S : SR c w hs) (h : w.H p = none) (ho : HO) : w.le ⟨w.ρ, upd w.F p ho, upd w.H p ho⟩ ∧ SR c ⟨w.ρ, upd w.F p ho, upd w.H p ho⟩ hs := by
  have hF := S.newF h
  have e1 : ∀ a o, w.F a = some o → upd w.F p ho a = some o := fun a o q => by rw [upd_ne (ne_of_none q hF)]; exact q
  have e2 : ∀ a o, w.H a = some o → upd w.H p ho a = some o := fun a o q => by rw [upd_ne (ne_of_none q h)]; exact q
  refine ⟨⟨⟨[], by simp, by simp⟩, e1, fun a o q _ => e2 a o q, fun a o q => ⟨o, e2 a o q⟩, fun a o q => ?_⟩, ⟨fun a o q => ?_, S.len, S.nd, fun i a o r q d => ?_, fun i a o r q => ?_⟩⟩
  · have q' : upd w.F p ho a = some o := q
    by_cases hp : a = p
    · subst hp; exact .inr (.inl h)
    · rw [upd_ne hp] at q'; exact .inl q'
  · show upd w.H p ho a = some o
    have q' : upd w.F p ho a = some o := q
    by_cases hp : a = p
    · subst hp; rw [upd_same] at q' ⊢; exact q'
    · rw [upd_ne hp] at q' ⊢; exact S.sub a o q'
  · show upd w.F p ho a = none
    have hm : a ∈ w.ρ := List.mem_of_getElem? r
    rw [upd_ne (fun z : a = p => S.new h (by rw [← z]; exact hm))]
    exact S.fr i a o r q d
  · obtain ⟨ho', q1, q2⟩ := S.ob i a o r q
    exact ⟨ho', e2 a ho' q1, q2.mono ⟨[], by simp⟩ e1⟩
/-- a new tracked object -/
theorem SR.push (S : SR c w hs) (h : w.H p = none) (r : RO c w.ρ w.F o ho) : w.le ⟨w.ρ ++ [p], w.F, upd w.H p ho⟩ ∧ SR c ⟨w.ρ ++ [p], w.F, upd w.H p ho⟩ (hs ++ [o]) := by
  have e2 : ∀ a o, w.H a = some o → upd w.H p ho a = some o := fun a o q => by rw [upd_ne (ne_of_none q h)]; exact q
  refine ⟨⟨⟨[p], rfl, by simpa using h⟩, fun _ _ q => q, fun a o q _ => e2 a o q, fun a o q => ⟨o, e2 a o q⟩, fun _ _ q => .inl q⟩, ⟨fun a o q => e2 a o (S.sub a o q), by simp [S.len], ?_, fun i a o' q1 q2 d => ?_, fun i a o' q1 q2 => ?_⟩⟩
  · exact List.nodup_append.mpr ⟨S.nd, by simp, fun a ha b hb => by
      have : b = p := by simpa using hb
      subst this
      exact fun z => S.new h (z ▸ ha)⟩
  · have q1' : (w.ρ ++ [p])[i]? = some a := q1
    by_cases hi : i < w.ρ.length
    · rw [List.getElem?_append_left hi] at q1'
      rw [List.getElem?_append_left (by rw [← S.len]; exact hi)] at q2
      exact S.fr i a o' q1' q2 d
    · have hi' : w.ρ.length ≤ i := Nat.le_of_not_lt hi
      rw [List.getElem?_append_right hi'] at q1'
      have : a = p := by
        have := List.mem_of_getElem? q1'
        simpa using this
      subst this
      exact S.newF h
  · have q1' : (w.ρ ++ [p])[i]? = some a := q1
    by_cases hi : i < w.ρ.length
    · rw [List.getElem?_append_left hi] at q1'
      rw [List.getElem?_append_left (by rw [← S.len]; exact hi)] at q2
      obtain ⟨ho', z1, z2⟩ := S.ob i a o' q1' q2
      exact ⟨ho', e2 a ho' z1, z2.mono ⟨[p], rfl⟩ fun _ _ q => q⟩
    · have hi' : w.ρ.length ≤ i := Nat.le_of_not_lt hi
      rw [List.getElem?_append_right hi'] at q1'
      rw [List.getElem?_append_right (by rw [← S.len]; exact hi')] at q2
      have ea : a = p := by
        have := List.mem_of_getElem? q1'
        simpa using this
      have eo : o' = o := by
        have := List.mem_of_getElem? q2
        simpa using this
      subst ea eo
      exact ⟨ho, upd_same, r.mono ⟨_, rfl⟩ fun _ _ q => q⟩
theorem SR.at_ (S : SR c w hs) (h : hs[i]? = some o) : ∃ a ho, w.ρ[i]? = some a ∧ w.H a = some ho ∧ RO c w.ρ w.F o ho := by
  have hi : i < w.ρ.length := by rw [S.len]; exact (List.getElem?_eq_some_iff.mp h).1
  obtain ⟨ho, q1, q2⟩ := S.ob i w.ρ[i] o (List.getElem?_eq_getElem hi) h
  exact ⟨_, ho, List.getElem?_eq_getElem hi, q1, q2⟩
theorem nodup_at {l : List Addr} (hN : l.Nodup) {i j : Nat} {x : Addr} (a : l[i]? = some x) (b : l[j]? = some x) : i = j := nd_ix hN a b
/-- a tracked object is changed -/
theorem SR.put (S : SR c w hs) (hi : w.ρ[i]? = some a) (hnd : ∃ o', hs[i]? = some o' ∧ o' ≠ .dead) (r : RO c w.ρ w.F o ho) : w.le ⟨w.ρ, w.F, upd w.H a ho⟩ ∧ SR c ⟨w.ρ, w.F, upd w.H a ho⟩ (hs.set i o) := by
  have ha : a ∈ w.ρ := List.mem_of_getElem? hi
  obtain ⟨o', h1, h2⟩ := hnd
  have hF := S.fr i a o' hi h1 h2
  have hlt : i < hs.length := (List.getElem?_eq_some_iff.mp h1).1
  have ne : ∀ x, x ∉ w.ρ → x ≠ a := fun x hx z => hx (z ▸ ha)
  refine ⟨⟨⟨[], by simp, by simp⟩, fun _ _ q => q, fun x u q hx => by show upd w.H a ho x = some u; rw [upd_ne (ne x hx)]; exact q, fun x u q => ?_, fun _ _ q => .inl q⟩, ⟨fun x u q => ?_, by simp [S.len], S.nd, fun j x u q1 q2 d => ?_, fun j x u q1 q2 => ?_⟩⟩
  · by_cases z : x = a
    · subst z; exact ⟨ho, upd_same⟩
    · exact ⟨u, by show upd w.H a ho x = some u; rw [upd_ne z]; exact q⟩
  · show upd w.H a ho x = some u
    rw [upd_ne (ne_of_none q hF)]
    exact S.sub x u q
  · by_cases hj : j = i
    · subst hj
      rw [hi] at q1; cases q1
      exact hF
    · rw [List.getElem?_set_ne (Ne.symm hj)] at q2
      exact S.fr j x u q1 q2 d
  · by_cases hj : j = i
    · subst hj
      rw [hi] at q1; cases q1
      rw [List.getElem?_set_self hlt] at q2
      cases q2
      exact ⟨ho, upd_same, r⟩
    · rw [List.getElem?_set_ne (Ne.symm hj)] at q2
      obtain ⟨ho', z1, z2⟩ := S.ob j x u q1 q2
      have xa : x ≠ a := fun z => hj (nodup_at S.nd q1 (z ▸ hi))
      exact ⟨ho', by show upd w.H a ho x = some ho'; rw [upd_ne xa]; exact z1, z2⟩
/-- a tracked object is frozen -/
theorem SR.freeze (S : SR c w hs) (hi : w.ρ[i]? = some a) (h1 : hs[i]? = some o) (h2 : o ≠ .dead) (e : w.H a = some ho) : w.le ⟨w.ρ, upd w.F a ho, w.H⟩ ∧ SR c ⟨w.ρ, upd w.F a ho, w.H⟩ (hs.set i .dead) := by
  have hF := S.fr i a o hi h1 h2
  have hlt : i < hs.length := (List.getElem?_eq_some_iff.mp h1).1
  have e1 : ∀ x u, w.F x = some u → upd w.F a ho x = some u := fun x u q => by rw [upd_ne (ne_of_none q hF)]; exact q
  refine ⟨⟨⟨[], by simp, by simp⟩, e1, fun _ _ q _ => q, fun _ u q => ⟨u, q⟩, fun x u q => ?_⟩, ⟨fun x u q => ?_, by simp [S.len], S.nd, fun j x u q1 q2 d => ?_, fun j x u q1 q2 => ?_⟩⟩
  · have q' : upd w.F a ho x = some u := q
    by_cases z : x = a
    · subst z; exact .inr (.inr (List.mem_of_getElem? hi))
    · rw [upd_ne z] at q'; exact .inl q'
  · have q' : upd w.F a ho x = some u := q
    by_cases z : x = a
    · subst z; rw [upd_same] at q'; cases q'; exact e
    · rw [upd_ne z] at q'; exact S.sub x u q'
  · show upd w.F a ho x = none
    by_cases hj : j = i
    · subst hj
      rw [List.getElem?_set_self hlt] at q2
      cases q2
      exact absurd rfl d
    · rw [List.getElem?_set_ne (Ne.symm hj)] at q2
      rw [upd_ne (fun z : x = a => hj (nodup_at S.nd q1 (by rw [z]; exact hi)))]
      exact S.fr j x u q1 q2 d
  · by_cases hj : j = i
    · subst hj
      rw [hi] at q1; cases q1
      rw [List.getElem?_set_self hlt] at q2
      cases q2
      exact ⟨ho, e, trivial⟩
    · rw [List.getElem?_set_ne (Ne.symm hj)] at q2
      obtain ⟨ho', z1, z2⟩ := S.ob j x u q1 q2
      exact ⟨ho', z1, z2.mono ⟨[], by simp⟩ e1⟩
/-- what H adds elsewhere (not tracked, not frozen) does not matter -/
theorem SR.heap (S : SR c w hs) {H' : Hp} (h : ∀ a o, w.H a = some o → H' a = some o) : w.le ⟨w.ρ, w.F, H'⟩ ∧ SR c ⟨w.ρ, w.F, H'⟩ hs :=
  ⟨⟨⟨[], by simp, by simp⟩, fun _ _ q => q, fun a o q _ => h a o q, fun a o q => ⟨o, h a o q⟩, fun _ _ q => .inl q⟩, ⟨fun a o q => h a o (S.sub a o q), S.len, S.nd, S.fr, fun i a o q1 q2 => let ⟨ho, z1, z2⟩ := S.ob i a o q1 q2; ⟨ho, h a ho z1, z2⟩⟩⟩
end
/-- an exception's own field -/
def Exn (c : Ct) (w : Wd) (p : D) (od : Option Addr) : Prop := (p = .non ∧ od = none) ∨ ∃ dd f d v, od = some dd ∧ p = .t [.str f, d] ∧ w.H dd = some (.xd [(f, v)]) ∧ Rp c w.ρ w.F d v
def PostG {α : Type} (c : Ct) (w : Wd) (r : R α) (P : α → Hs → Wd → Prop) (E : XK) : Prop := match r with
  | .ok a hs => ∀ w', w.le w' → SR c w' hs → P a hs w'
  | .exc x p hs => ∀ w' od, w.le w' → SR c w' hs → Exn c w' p od → E (.ref (c.G x)) od w'.H
  | .bad => False
abbrev Post (c : Ct) (w : Wd) (r : R D) (Q : VK) (E : XK) : Prop := PostG c w r (fun d _ w' => ∀ v, Rp c w'.ρ w'.F d v → Q v w'.H) E
def RE (c : Ct) (w : Wd) (fs : Fs) (σ : L2.St) : Prop := fs.length = σ.length ∧ ∀ (i : Nat) (d : D), fs[i]? = some (some d) → ∃ v, σ[i]? = some (some v) ∧ Rp c w.ρ w.F d v
def PostS (c : Ct) (w : Wd) (r : RS) (De : Ends) (W : WX) : Prop := match r with
  | .nx fs hs => ∀ w' σ', w.le w' → SR c w' hs → RE c w' fs σ' → De.nx σ' w'.H
  | .ret d hs => ∀ w' v, w.le w' → SR c w' hs → Rp c w'.ρ w'.F d v → De.rt v w'.H
  | .brk fs hs => ∀ w' σ', w.le w' → SR c w' hs → RE c w' fs σ' → De.bk σ' w'.H
  | .cnt fs hs => ∀ w' σ', w.le w' → SR c w' hs → RE c w' fs σ' → De.ct σ' w'.H
  | .exc x p fs hs => ∀ w' od σ', w.le w' → SR c w' hs → RE c w' fs σ' → Exn c w' p od → W (.ref (c.G x)) od σ' w'.H
  | .bad => False
section
variable {c : Ct} {w w' : Wd} {α β : Type} {E : XK}
theorem PostG.mono {r : R α} {P : α → Hs → Wd → Prop} (h : w.le w') (p : PostG c w r P E) : PostG c w' r P E := by
  cases r with
  | ok a hs => exact fun w2 l S => p w2 (h.trans l) S
  | exc x q hs => exact fun w2 od l S z => p w2 od (h.trans l) S z
  | bad => exact p
theorem PostG.bind {r : R α} {k : α → Hs → R β} {P : β → Hs → Wd → Prop} (p : PostG c w (r.bind k) P E) : PostG c w r (fun a hs w' => PostG c w' (k a hs) P E) E := by
  cases r with
  | ok a hs => exact fun w2 l S => p.mono l
  | exc x q hs => exact p
  | bad => exact p
theorem PostG.bindN {r : R α} {k : α → Hs → R β} {P : β → Hs → Wd → Prop} (p : PostG c w (r.bindN k) P E) : PostG c w r (fun a hs w' => PostG c w' (k a hs) P E) (fun _ _ _ => False) := by
  cases r with
  | ok a hs => exact fun w2 l S => p.mono l
  | exc x q hs => exact p.elim
  | bad => exact p
theorem PostG.imp {r : R α} {P P' : α → Hs → Wd → Prop} (p : PostG c w r P E) (h : ∀ a hs w', w.le w' → SR c w' hs → P a hs w' → P' a hs w') : PostG c w r P' E := by
  cases r with
  | ok a hs => exact fun w2 l S => h a hs w2 l S (p w2 l S)
  | exc x q hs => exact p
  | bad => exact p
/-- at hand -/
theorem PostG.now {a : α} {hs : Hs} {P : α → Hs → Wd → Prop} (p : PostG c w (.ok a hs) P E) (S : SR c w hs) : P a hs w := p w (Wd.le.refl w) S
theorem PostS.mono {r : RS} {De : Ends} {W : WX} (h : w.le w') (p : PostS c w r De W) : PostS c w' r De W := by
  cases r with
  | nx fs hs => exact fun w2 σ' l S e => p w2 σ' (h.trans l) S e
  | ret d hs => exact fun w2 v l S e => p w2 v (h.trans l) S e
  | brk fs hs => exact fun w2 σ' l S e => p w2 σ' (h.trans l) S e
  | cnt fs hs => exact fun w2 σ' l S e => p w2 σ' (h.trans l) S e
  | exc x q fs hs => exact fun w2 od σ' l S e z => p w2 od σ' (h.trans l) S e z
  | bad => exact p
theorem RE.le {fs : Fs} {σ : L2.St} (h : w.le w') (e : RE c w fs σ) : RE c w' fs σ := ⟨e.1, fun i d q => let ⟨v, z1, z2⟩ := e.2 i d q; ⟨v, z1, z2.le h⟩⟩
theorem RE.set {fs : Fs} {σ : L2.St} {i : Nat} {d : D} {v : V} (e : RE c w fs σ) (r : Rp c w.ρ w.F d v) : RE c w (fs.set i (some d)) (σ.set i (some v)) := by
  refine ⟨by simp [e.1], fun j x q => ?_⟩
  by_cases hj : j = i
  · subst hj
    have hl : j < fs.length := by
      have := (List.getElem?_eq_some_iff.mp q).1
      simpa using this
    rw [List.getElem?_set_self hl] at q
    cases q
    exact ⟨v, by rw [List.getElem?_set_self (by rw [← e.1]; exact hl)], r⟩
  · rw [List.getElem?_set_ne (Ne.symm hj)] at q
    obtain ⟨u, z1, z2⟩ := e.2 j x q
    exact ⟨u, by rw [List.getElem?_set_ne (Ne.symm hj)]; exact z1, z2⟩
theorem RE.get {fs : Fs} {σ : L2.St} {i : Nat} {d : D} (e : RE c w fs σ) (q : fs[i]? = some (some d)) : ∃ v, σ[i]? = some (some v) ∧ Rp c w.ρ w.F d v := e.2 i d q
theorem RE.wipe {fs : Fs} {σ : L2.St} (e : RE c w fs σ) : ∀ vs : List Nat, RE c w (Mm.wipe fs vs) (L2.wipe σ vs)
  | [] => e
  | v :: vs => by
    have ih := RE.wipe e vs
    unfold Mm.wipe L2.wipe
    refine ⟨by simp [ih.1], fun j x q => ?_⟩
    by_cases hj : j = v
    · subst hj
      have hl : j < (Mm.wipe fs vs).length := by
        have := (List.getElem?_eq_some_iff.mp q).1
        simpa using this
      rw [List.getElem?_set_self hl] at q
      cases q
    · rw [List.getElem?_set_ne (Ne.symm hj)] at q
      obtain ⟨u, z1, z2⟩ := ih.2 j x q
      exact ⟨u, by rw [List.getElem?_set_ne (Ne.symm hj)]; exact z1, z2⟩
/-- from an expression's post into the statement's -/
theorem PostS.bindS {r : R α} {k : α → Hs → RS} {De : Ends} {W : WX} {fs : Fs} {σ : L2.St} (p : PostS c w (R.bindS fs r k) De W) (e : RE c w fs σ) : PostG c w r (fun a hs w' => PostS c w' (k a hs) De W) (fun x d H => W x d σ H) := by
  cases r with
  | ok a hs => exact fun w2 l S => PostS.mono l p
  | exc x q hs => exact fun w2 od l S z => p w2 od σ l S (e.le l) z
  | bad => exact p
end
end Mm
namespace Mm
open PySem PySem.Spec PyProof.Rows L2
structure JE (c : Ct) (X : Cx) (W : WX) (e : Expr) (m : M) : Prop where
  ex : ∃ te : TE, PE X e te ∧ ∀ (w : Wd) (fs : Fs) (hs : Hs) (σ : L2.St) (Q : VK), SR c w hs → RE c w fs σ → Post c w (m fs hs) Q (fun k d H => W k d σ H) → te σ w.H Q
structure JT (c : Ct) (X : Cx) (W : WX) (e : Expr) (m : MT) : Prop where
  ex : ∃ te : TT, PT X e te ∧ ∀ (w : Wd) (fs : Fs) (hs : Hs) (σ : L2.St) (Q : Bool → Hp → Prop), SR c w hs → RE c w fs σ → PostG c w (m fs hs) (fun b _ w' => Q b w'.H) (fun k d H => W k d σ H) → te σ w.H Q
structure JW (c : Ct) (X : Cx) (W : WX) (e : Expr) (m : MT) : Prop where
  ex : ∃ te : TT, PW X e te ∧ ∀ (w : Wd) (fs : Fs) (hs : Hs) (σ : L2.St) (Q : Bool → Hp → Prop), SR c w hs → RE c w fs σ → PostG c w (m fs hs) (fun b _ w' => Q b w'.H) (fun k d H => W k d σ H) → te σ w.H Q
structure JA (c : Ct) (X : Cx) (W : WX) (es : List Expr) (m : MA) : Prop where
  ex : ∃ ta : TA, PA X es ta ∧ ∀ (w : Wd) (fs : Fs) (hs : Hs) (σ : L2.St) (Q : List V → Hp → Prop), SR c w hs → RE c w fs σ → PostG c w (m fs hs) (fun ds _ w' => ∀ vs, Rps c w'.ρ w'.F ds vs → Q vs w'.H) (fun k d H => W k d σ H) → ta σ w.H Q
structure JP (c : Ct) (X : Cx) (W : WX) (e : Option Expr) (m : MO) : Prop where
  ex : ∃ to : TO, PO X e to ∧ ∀ (w : Wd) (fs : Fs) (hs : Hs) (σ : L2.St) (Q : Option Int → Hp → Prop), SR c w hs → RE c w fs σ → PostG c w (m fs hs) (fun o _ w' => Q o w'.H) (fun k d H => W k d σ H) → to σ w.H Q
structure JG (c : Ct) (X : Cx) (W : WX) (e : Expr) (m : MG) : Prop where
  ex : ∃ tg : TG, PG X e tg ∧ ∀ (w : Wd) (fs : Fs) (hs : Hs) (σ : L2.St) (d : D) (v : V) (Q : L2.St → Hp → Prop), SR c w hs → RE c w fs σ → Rp c w.ρ w.F d v → PostG c w (m d fs hs) (fun fs' _ w' => ∀ σ', RE c w' fs' σ' → Q σ' w'.H) (fun k d H => W k d σ H) → tg v σ w.H Q
structure JGs (c : Ct) (X : Cx) (W : WX) (es : List Expr) (m : List D → Fs → Hs → R Fs) : Prop where
  ex : ∃ tg : TGs, PGs X es tg ∧ (∀ ds fs hs fs' hs', m ds fs hs = .ok fs' hs' → ds.length = es.length) ∧ (∀ ds fs hs x p h, m ds fs hs ≠ .exc x p h) ∧ ∀ (w : Wd) (fs : Fs) (hs : Hs) (σ : L2.St) (ds : List D) (vs : List V) (Q : L2.St → Hp → Prop), SR c w hs → RE c w fs σ → Rps c w.ρ w.F ds vs → PostG c w (m ds fs hs) (fun fs' _ w' => ∀ σ', RE c w' fs' σ' → Q σ' w'.H) (fun k d H => W k d σ H) → tg vs σ w.H Q
structure JS (c : Ct) (X : Cx) (W : WX) (st : Stmt) (m : MS) : Prop where
  ex : ∃ ts : TS, PS X st ts ∧ ∀ (w : Wd) (fs : Fs) (hs : Hs) (σ : L2.St) (De : Ends), SR c w hs → RE c w fs σ → PostS c w (m fs hs) De W → ts De σ w.H
structure JSs (c : Ct) (X : Cx) (W : WX) (st : List Stmt) (m : MS) : Prop where
  ex : ∃ ts : TS, PSs X st ts ∧ ∀ (w : Wd) (fs : Fs) (hs : Hs) (σ : L2.St) (De : Ends), SR c w hs → RE c w fs σ → PostS c w (m fs hs) De W → ts De σ w.H
/-- J walks these items -/
structure SrcOk (c : Ct) (J : It) (w : Wd) (ds : List D) (k : Option (Nat × List D)) : Prop where
  go : ∀ (i : Nat) (d : D) (w' : Wd) (hs' : Hs), w.le w' → SR c w' hs' → stands k hs' → ds[i]? = some d → J.go i w'.H ∧ ∀ x H', J.yld i w'.H x H' → ∃ w'' : Wd, w'.le w'' ∧ w''.H = H' ∧ SR c w'' hs' ∧ Rp c w''.ρ w''.F d x
  stop : ∀ (w' : Wd) (hs' : Hs), w.le w' → SR c w' hs' → stands k hs' → J.stop ds.length w'.H
structure JI (c : Ct) (X : Cx) (W : WX) (tg iter : Expr) (m : MI) : Prop where
  ex : ∃ wi : TI, PI X tg iter wi ∧ ∀ (w : Wd) (fs : Fs) (hs : Hs) (σ : L2.St) (Rr : It → Hp → Prop), SR c w hs → RE c w fs σ → PostG c w (m fs hs) (fun p _ w' => ∀ J, SrcOk c J w' p.1 p.2 → Rr J w'.H) (fun k d H => W k d σ H) → wi σ w.H Rr
structure JO (c : Ct) (X : Cx) (f : Value → Value → Sem Value) (op : D → D → Hs → R D) : Prop where
  ex : ∃ r : R2, OpR X f r ∧ ∀ (w : Wd) (hs : Hs) (x y : D) (vx vy : V) (Q : VK) (E : XK), SR c w hs → Rp c w.ρ w.F x vx → Rp c w.ρ w.F y vy → Post c w (op x y hs) Q E → r vx vy w.H Q
structure JX (c : Ct) (X : Cx) (op : D → D → Hs → R D) : Prop where
  ex : ∃ r : R2, IxR X r ∧ ∀ (w : Wd) (hs : Hs) (x y : D) (vx vy : V) (Q : VK) (E : XK), SR c w hs → Rp c w.ρ w.F x vx → Rp c w.ρ w.F y vy → Post c w (op x y hs) Q E → r vx vy w.H Q
structure JU (c : Ct) (X : Cx) (f : Value → Sem Value) (op : D → Hs → R D) : Prop where
  ex : ∃ r : V → Hp → VK → Prop, UnR X f r ∧ ∀ (w : Wd) (hs : Hs) (x : D) (vx : V) (Q : VK) (E : XK), SR c w hs → Rp c w.ρ w.F x vx → Post c w (op x hs) Q E → r vx w.H Q
structure JC (c : Ct) (X : Cx) (f : Value) (op : List D → Hs → R D) : Prop where
  ex : ∃ r : List V → Hp → VK → Prop, CallR X f r ∧ ∀ (w : Wd) (hs : Hs) (ds : List D) (vs : List V) (Q : VK) (E : XK), SR c w hs → Rps c w.ρ w.F ds vs → Post c w (op ds hs) Q E → r vs w.H Q
structure JM (c : Ct) (X : Cx) (T id : String) (op : D → List D → Hs → R D) : Prop where
  ex : ∃ r : V → List V → Hp → VK → Prop, MtR X id r ∧ ∀ (w : Wd) (hs : Hs) (x : D) (ds : List D) (vx : V) (vs : List V) (Q : VK) (E : XK), SR c w hs → Rp c w.ρ w.F x vx → Rps c w.ρ w.F ds vs → Post c w (op x ds hs) Q E → r vx vs w.H Q
structure JSl (c : Ct) (X : Cx) (op : D → Option Int → Option Int → Hs → R D) : Prop where
  ex : ∃ r : V → Option Int → Option Int → Hp → VK → Prop, SlR X r ∧ ∀ (w : Wd) (hs : Hs) (x : D) (vx : V) (lo hi : Option Int) (Q : VK) (E : XK), SR c w hs → Rp c w.ρ w.F x vx → Post c w (op x lo hi hs) Q E → r vx lo hi w.H Q
structure JSet (c : Ct) (X : Cx) (op : D → D → D → Hs → R Unit) : Prop where
  ex : ∃ r : TSet, PSet X r ∧ ∀ (w : Wd) (hs : Hs) (o i v : D) (vo vi vv : V) (Q : Hp → Prop) (E : XK), SR c w hs → Rp c w.ρ w.F o vo → Rp c w.ρ w.F i vi → Rp c w.ρ w.F v vv → PostG c w (op o i v hs) (fun _ _ w' => Q w'.H) E → r vo vi vv w.H Q
section
variable {c : Ct} {X : Cx} {W : WX} {a b e : Expr} {es : List Expr} {ma mb mc : M} {mas : MA} {pos : Pos}
theorem je_var (i : Nat) {x : Str} (hN : X.N[i]? = some x := by rfl) (hv : Vis X.env.scope x := by first | exact Or.inl rfl | exact Or.inr (Or.inl rfl) | exact Or.inr (Or.inr rfl)) (hd : (x == ("__debug__" : Str)) = false := by decide)
    (hcd : (x == ("__classdict__" : Str)) = false := by decide) : JE c X W (.Name x pos) (eVar i) := by
  refine ⟨_, pe_var hN hv hd hcd, fun w fs hs σ Q S E h => ?_⟩
  unfold eVar at h
  cases q : fs[i]? with
  | none => rw [q] at h; exact h.elim
  | some o =>
    cases o with
    | none => rw [q] at h; exact h.elim
    | some d =>
      rw [q] at h
      obtain ⟨v, e1, r⟩ := E.get q
      exact ⟨v, e1, h.now S v r⟩
theorem je_c {d : D} {v : V} (h : PE X e (tC v)) (r : ∀ ρ F, Rp c ρ F d v) : JE c X W e (eC d) :=
  ⟨_, h, fun w fs hs σ Q S E p => p.now S v (r _ _)⟩
theorem je_int {i : Int} {j} : JE c X W (.Constant (.int i) j pos) (eC (.int i)) := je_c pe_int fun _ _ => rfl
theorem je_bl {i : Bool} {j} : JE c X W (.Constant (.bool i) j pos) (eC (.bl i)) := je_c pe_bl fun _ _ => rfl
theorem je_non {j} : JE c X W (.Constant .none j pos) (eC .non) := je_c pe_non fun _ _ => rfl
theorem je_str {x : Str} {j} : JE c X W (.Constant (.str x) j pos) (eC (.str x)) := je_c pe_str fun _ _ => rfl
/-- a module's constant number -/
theorem je_gint {x : Str} {i : Int} (hg : Gl X x) (hm : ∃ t, X.mg x = some (.int i t)) (hd : (x == ("__debug__" : Str)) = false := by decide) : JE c X W (.Name x pos) (eC (.int i)) := by
  obtain ⟨t, hm⟩ := hm
  exact je_c (pe_glob (v := .int i) hg hm ⟨t, rfl⟩ hd) fun _ _ => rfl
/-- a module's name that stands for an object of the text, as data d -/
theorem je_glob {x : Str} {a : Addr} {d : D} (hg : Gl X x) (hm : X.mg x = some (.ref a)) (r : ∀ ρ F, Rp c ρ F d (.ref a)) (hd : (x == ("__debug__" : Str)) = false := by decide) : JE c X W (.Name x pos) (eC d) :=
  je_c (pe_glob (v := .ref a) hg hm rfl hd) r
theorem je_bin {op : Operator} {f : D → D → Hs → R D} (ho : JO c X (binaryOp op) f) (ha : JE c X W a ma) (hb : JE c X W b mb) : JE c X W (.BinOp a op b pos) (eBin f ma mb) := by
  obtain ⟨r, pr, sr⟩ := ho.ex; obtain ⟨ta, pa, sa⟩ := ha.ex; obtain ⟨tb, pb, sb⟩ := hb.ex
  refine ⟨_, pe_op pr pa pb, fun w fs hs σ Q S E h => ?_⟩
  refine sa w fs hs σ _ S E (h.bind.imp fun x h1 w1 l1 S1 p1 v1 r1 => ?_)
  refine sb w1 fs h1 σ _ S1 (E.le l1) (p1.bind.imp fun y h2 w2 l2 S2 p2 v2 r2 => ?_)
  exact sr w2 h2 x y v1 v2 Q _ S2 (r1.le l2) r2 p2
theorem je_cmp {op : CmpOp} {f : D → D → Hs → R D} (ho : JO c X (compareOp op) f) (ha : JE c X W a ma) (hb : JE c X W b mb) (hm : behindInMarks op b = false := by first | exact nomark _ | rfl) : JE c X W (.Compare a [op] [b] pos) (eBin f ma mb) := by
  obtain ⟨r, pr, sr⟩ := ho.ex; obtain ⟨ta, pa, sa⟩ := ha.ex; obtain ⟨tb, pb, sb⟩ := hb.ex
  refine ⟨_, pe_cmpR pr pa pb hm, fun w fs hs σ Q S E h => ?_⟩
  refine sa w fs hs σ _ S E (h.bind.imp fun x h1 w1 l1 S1 p1 v1 r1 => ?_)
  refine sb w1 fs h1 σ _ S1 (E.le l1) (p1.bind.imp fun y h2 w2 l2 S2 p2 v2 r2 => ?_)
  exact sr w2 h2 x y v1 v2 Q _ S2 (r1.le l2) r2 p2
theorem je_ix {f : D → D → Hs → R D} (ho : JX c X f) (ha : JE c X W a ma) (hb : JE c X W b mb) (hs : PlainIx b := by exact fun _ _ => rfl) : JE c X W (.Subscript a b pos) (eBin f ma mb) := by
  obtain ⟨r, pr, sr⟩ := ho.ex; obtain ⟨ta, pa, sa⟩ := ha.ex; obtain ⟨tb, pb, sb⟩ := hb.ex
  refine ⟨_, pe_ix pr pa pb hs, fun w fs hs σ Q S E h => ?_⟩
  refine sa w fs hs σ _ S E (h.bind.imp fun x h1 w1 l1 S1 p1 v1 r1 => ?_)
  refine sb w1 fs h1 σ _ S1 (E.le l1) (p1.bind.imp fun y h2 w2 l2 S2 p2 v2 r2 => ?_)
  exact sr w2 h2 x y v1 v2 Q _ S2 (r1.le l2) r2 p2
theorem je_un {op : UnaryOp} {f : D → Hs → R D} (ho : JU c X (unaryOp op) f) (ha : JE c X W a ma) : JE c X W (.UnaryOp op a pos) (eUn f ma) := by
  obtain ⟨r, pr, sr⟩ := ho.ex; obtain ⟨ta, pa, sa⟩ := ha.ex
  refine ⟨_, pe_un pr pa, fun w fs hs σ Q S E h => ?_⟩
  refine sa w fs hs σ _ S E (h.bind.imp fun x h1 w1 l1 S1 p1 v1 r1 => ?_)
  exact sr w1 h1 x v1 Q _ S1 r1 p1
/-- freezing, opening: nothing happens -/
theorem je_ghost {f : D → Hs → R D} (hf : ∀ (w : Wd) (hs : Hs) (x : D) (vx : V) (Q : VK) (E : XK), SR c w hs → Rp c w.ρ w.F x vx → Post c w (f x hs) Q E → Q vx w.H) (ha : JE c X W e ma) : JE c X W e (eUn f ma) := by
  obtain ⟨ta, pa, sa⟩ := ha.ex
  refine ⟨_, pa, fun w fs hs σ Q S E h => ?_⟩
  exact sa w fs hs σ _ S E (h.bind.imp fun x h1 w1 l1 S1 p1 v1 r1 => hf w1 h1 x v1 Q _ S1 r1 p1)
theorem ja_nil : JA c X W [] aNil := ⟨_, pa_nil, fun w fs hs σ Q S E h => h.now S [] Rps.nil⟩
theorem ja_cons (ha : JE c X W e ma) (hr : JA c X W es mas) (hs : starEach (e :: es) X.env = (false, eval e X.env) :: starEach es X.env := by rfl) : JA c X W (e :: es) (aCons ma mas) := by
  obtain ⟨ta, pa, sa⟩ := ha.ex; obtain ⟨tr, pr, sr⟩ := hr.ex
  refine ⟨_, pa_cons pa pr hs, fun w fs hs σ Q S E h => ?_⟩
  refine sa w fs hs σ _ S E (h.bind.imp fun x h1 w1 l1 S1 p1 v1 r1 => ?_)
  refine sr w1 fs h1 σ _ S1 (E.le l1) (p1.bind.imp fun xs h2 w2 l2 S2 p2 vs rs => ?_)
  exact p2.now S2 (v1 :: vs) (.cons (r1.le l2) rs)
theorem je_and {bs : List Expr} (ha : JE c X W a ma) (hb : JE c X W (.BoolOp .And (b :: bs) pos) mb) : JE c X W (.BoolOp .And (a :: b :: bs) pos) (eAnd ma mb) := by
  obtain ⟨ta, pa, sa⟩ := ha.ex; obtain ⟨tb, pb, sb⟩ := hb.ex
  refine ⟨_, pe_and pa pb, fun w fs hs σ Q S E h => ?_⟩
  refine sa w fs hs σ _ S E (h.bind.imp fun x h1 w1 l1 S1 p1 v1 r1 => ?_)
  cases x <;> first | exact p1.elim | skip
  rename_i k
  obtain rfl : v1 = .bl k := r1
  refine ⟨k, rfl, ?_⟩
  cases k with
  | true => exact sb w1 fs h1 σ Q S1 (E.le l1) p1
  | false => exact p1.now S1 _ rfl
theorem je_one {op} (h : JE c X W a ma) : JE c X W (.BoolOp op [a] pos) ma := let ⟨t, p, s⟩ := h.ex; ⟨t, pe_one p, s⟩
theorem je_not (ha : JE c X W a ma) : JE c X W (.UnaryOp .Not a pos) (eNot ma) := by
  obtain ⟨ta, pa, sa⟩ := ha.ex
  refine ⟨_, pe_not pa, fun w fs hs σ Q S E h => ?_⟩
  refine sa w fs hs σ _ S E (h.bind.imp fun x h1 w1 l1 S1 p1 v1 r1 => ?_)
  cases x <;> first | exact p1.elim | skip
  rename_i k
  obtain rfl : v1 = .bl k := r1
  exact ⟨k, rfl, p1.now S1 _ rfl⟩
theorem je_if {t : Expr} {mt : MT} (ht : JT c X W t mt) (ha : JE c X W a ma) (hb : JE c X W b mb) : JE c X W (.IfExp t a b pos) (eIf mt ma mb) := by
  obtain ⟨tt, pt, st⟩ := ht.ex; obtain ⟨ta, pa, sa⟩ := ha.ex; obtain ⟨tb, pb, sb⟩ := hb.ex
  refine ⟨_, pe_ifExp pt pa pb, fun w fs hs σ Q S E h => ?_⟩
  refine st w fs hs σ _ S E (h.bind.imp fun k h1 w1 l1 S1 p1 => ?_)
  cases k with
  | true => exact sa w1 fs h1 σ Q S1 (E.le l1) p1
  | false => exact sb w1 fs h1 σ Q S1 (E.le l1) p1
theorem je_chain {op op' : CmpOp} {f f' : D → D → Hs → R D} {d : Expr} (ho : JO c X (compareOp op) f) (ho' : JO c X (compareOp op') f') (ha : JE c X W a ma) (hb : JE c X W b mb) (hc : JE c X W d mc)
    (hm : lastMarks [op, op'] [b, d] = false := by with_unfolding_all rfl) : JE c X W (.Compare a [op, op'] [b, d] pos) (eChain f f' ma mb mc) := by
  obtain ⟨r, pr, sr⟩ := ho.ex; obtain ⟨r', pr', sr'⟩ := ho'.ex; obtain ⟨ta, pa, sa⟩ := ha.ex; obtain ⟨tb, pb, sb⟩ := hb.ex; obtain ⟨tc, pc, sc⟩ := hc.ex
  refine ⟨_, pe_chain pr pr' pa pb pc hm, fun w fs hs σ Q S E h => ?_⟩
  refine sa w fs hs σ _ S E (h.bind.imp fun x h1 w1 l1 S1 p1 v1 r1 => ?_)
  refine sb w1 fs h1 σ _ S1 (E.le l1) (p1.bind.imp fun y h2 w2 l2 S2 p2 v2 r2 => ?_)
  refine sr w2 h2 x y v1 v2 _ _ S2 (r1.le l2) r2 (p2.bind.imp fun z h3 w3 l3 S3 p3 v3 r3 => ?_)
  cases z <;> first | exact p3.elim | skip
  rename_i k
  obtain rfl : v3 = .bl k := r3
  refine ⟨k, rfl, ?_⟩
  cases k with
  | true =>
    refine sc w3 fs h3 σ _ S3 (((E.le l1).le l2).le l3) (PostG.imp (PostG.bind (show PostG c w3 ((mc fs h3).bind fun u h4 => f' y u h4) _ _ from p3)) fun u h4 w4 l4 S4 p4 v4 r4 => ?_)
    exact sr' w4 h4 y u v2 v4 Q _ S4 ((r2.le l3).le l4) r4 p4
  | false => exact p3.now S3 _ rfl
theorem jt_cmp {op : CmpOp} {f : D → D → Hs → R D} (ho : JO c X (compareOp op) f) (ha : JE c X W a ma) (hb : JE c X W b mb) (hm : behindInMarks op b = false := by first | exact nomark _ | rfl) : JT c X W (.Compare a [op] [b] pos) (tVal (eBin f ma mb)) := by
  obtain ⟨r, pr, sr⟩ := ho.ex; obtain ⟨ta, pa, sa⟩ := ha.ex; obtain ⟨tb, pb, sb⟩ := hb.ex
  refine ⟨_, pt_cmpR pr pa pb hm, fun w fs hs σ Q S E h => ?_⟩
  have h' := (PostG.bind h)
  have h2 := PostG.bind h'
  refine sa w fs hs σ _ S E (h2.imp fun x h1 w1 l1 S1 p1 v1 r1 => ?_)
  refine sb w1 fs h1 σ _ S1 (E.le l1) ((PostG.bind p1).imp fun y h2 w2 l2 S2 p2 v2 r2 => ?_)
  refine sr w2 h2 x y v1 v2 _ _ S2 (r1.le l2) r2 (p2.imp fun z h3 w3 l3 S3 p3 v3 r3 => ?_)
  cases z <;> first | exact p3.elim | skip
  rename_i k
  obtain rfl : v3 = .bl k := r3
  exact ⟨k, rfl, p3.now S3⟩
theorem jt_val (ha : JE c X W a ma) (he : ∀ whole, isTrue a X.env whole = (do let v ← whole; standAt a.pos; holding [v] (truthy v)) := by intro _; rfl) : JT c X W a (tVal ma) := by
  obtain ⟨ta, pa, sa⟩ := ha.ex
  refine ⟨_, pt_val pa he, fun w fs hs σ Q S E h => ?_⟩
  refine sa w fs hs σ _ S E ((PostG.bind h).imp fun x h1 w1 l1 S1 p1 v1 r1 => ?_)
  cases x <;> first | exact p1.elim | skip
  rename_i k
  obtain rfl : v1 = .bl k := r1
  exact ⟨k, rfl, p1.now S1⟩
variable {mt mu : MT} {ts : List Expr}
theorem JW.pt (h : JW c X W e mt) : JT c X W e mt := let ⟨t, p, s⟩ := h.ex; ⟨t, p.pt, s⟩
theorem jw_and1 (h : JT c X W a mt) : JW c X W (.BoolOp .And [a] pos) mt := let ⟨t, p, s⟩ := h.ex; ⟨t, pw_and1 p, s⟩
theorem jw_or1 (h : JT c X W a mt) : JW c X W (.BoolOp .Or [a] pos) mt := let ⟨t, p, s⟩ := h.ex; ⟨t, pw_or1 p, s⟩
theorem jw_and (ha : JT c X W a mt) (hb : JW c X W (.BoolOp .And (b :: ts) pos) mu) : JW c X W (.BoolOp .And (a :: b :: ts) pos) (tAnd mt mu) := by
  obtain ⟨ta, pa, sa⟩ := ha.ex; obtain ⟨tb, pb, sb⟩ := hb.ex
  refine ⟨_, pw_and pa pb, fun w fs hs σ Q S E h => ?_⟩
  refine sa w fs hs σ _ S E (h.bind.imp fun k h1 w1 l1 S1 p1 => ?_)
  cases k with
  | true => exact sb w1 fs h1 σ Q S1 (E.le l1) p1
  | false => exact p1.now S1
theorem jw_or (ha : JT c X W a mt) (hb : JW c X W (.BoolOp .Or (b :: ts) pos) mu) : JW c X W (.BoolOp .Or (a :: b :: ts) pos) (tOr mt mu) := by
  obtain ⟨ta, pa, sa⟩ := ha.ex; obtain ⟨tb, pb, sb⟩ := hb.ex
  refine ⟨_, pw_or pa pb, fun w fs hs σ Q S E h => ?_⟩
  refine sa w fs hs σ _ S E (h.bind.imp fun k h1 w1 l1 S1 p1 => ?_)
  cases k with
  | true => exact p1.now S1
  | false => exact sb w1 fs h1 σ Q S1 (E.le l1) p1
theorem jt_not (ha : JT c X W a mt) : JT c X W (.UnaryOp .Not a pos) (tNot mt) := by
  obtain ⟨ta, pa, sa⟩ := ha.ex
  refine ⟨_, pt_not pa, fun w fs hs σ Q S E h => ?_⟩
  exact sa w fs hs σ _ S E (h.bind.imp fun k h1 w1 l1 S1 p1 => p1.now S1)
theorem jp_none : JP c X W none oNone := ⟨_, po_none, fun w fs hs σ Q S E h => h.now S⟩
theorem jp_some (ha : JE c X W a ma) : JP c X W (some a) (oSome ma) := by
  obtain ⟨ta, pa, sa⟩ := ha.ex
  refine ⟨_, po_some pa, fun w fs hs σ Q S E h => ?_⟩
  refine sa w fs hs σ _ S E (h.bind.imp fun x h1 w1 l1 S1 p1 v1 r1 => ?_)
  cases x <;> first | exact p1.elim | skip
  rename_i k
  exact ⟨k, r1, p1.now S1⟩
theorem je_sl {f : D → Option Int → Option Int → Hs → R D} {lo hi : Option Expr} {ml mh : MO} {p2 : Pos} (ho : JSl c X f) (ha : JE c X W a ma) (hl : JP c X W lo ml) (hh : JP c X W hi mh) : JE c X W (.Subscript a (.Slice lo hi none p2) pos) (eSl f ma ml mh) := by
  obtain ⟨r, pr, sr⟩ := ho.ex; obtain ⟨ta, pa, sa⟩ := ha.ex; obtain ⟨tl, pl, sl⟩ := hl.ex; obtain ⟨th, ph, sh⟩ := hh.ex
  refine ⟨_, pe_slice pr pa pl ph, fun w fs hs σ Q S E h => ?_⟩
  refine sa w fs hs σ _ S E (h.bind.imp fun x h1 w1 l1 S1 p1 v1 r1 => ?_)
  refine sl w1 fs h1 σ _ S1 (E.le l1) (p1.bind.imp fun l h2 w2 l2 S2 p2 => ?_)
  refine sh w2 fs h2 σ _ S2 ((E.le l1).le l2) (p2.bind.imp fun u h3 w3 l3 S3 p3 => ?_)
  exact sr w3 h3 x v1 l u Q _ S3 ((r1.le l2).le l3) p3
def vTup : List D → Hs → R D := fun ds hs => if ds.length ≤ 100000 then .ok (.t ds) hs else .bad
def vLst : List D → Hs → R D := fun ds hs => if ds.length ≤ 100000 then .ok (.l ds) hs else .bad
def vLstO : List D → Hs → R D := fun ds hs => if ds.length ≤ 100000 then .ok (.loc hs.length) (hs ++ [.lst ds]) else .bad
theorem sz_le {n : Nat} (h : n ≤ 100000) : n ≤ sizeLine := Nat.le_trans h (by decide)
theorem sz_lt {n : Nat} (h : n < 100000) : n < sizeLine := Nat.lt_of_lt_of_le h (by decide)
theorem rp_t {ρ : List Addr} {F : Hp} {p : Addr} {ds : List D} {vs : List V} (r : Rps c ρ F ds vs) (h : F p = some (.tup vs)) : Rp c ρ F (.t ds) (.ref p) := by
  unfold Rp; exact ⟨p, vs, rfl, h, r⟩
theorem rp_l {ρ : List Addr} {F : Hp} {p : Addr} {ds : List D} {vs : List V} (r : Rps c ρ F ds vs) (h : F p = some (.lst vs)) : Rp c ρ F (.l ds) (.ref p) := by
  unfold Rp; exact ⟨p, vs, rfl, h, r⟩
theorem rp_loc {ρ : List Addr} {F : Hp} {p : Addr} {n : Nat} (h : ρ[n]? = some p) : Rp c ρ F (.loc n) (.ref p) := by
  unfold Rp; exact ⟨p, rfl, h⟩
/-- a new tuple, by its post -/
theorem new_tup {w : Wd} {hs : Hs} {ds : List D} {vs : List V} {Q : VK} {E : XK} (S : SR c w hs) (r : Rps c w.ρ w.F ds vs) (h : Post c w (.ok (.t ds) hs) Q E) {p : Addr} (hp : w.H p = none) : Q (.ref p) (upd w.H p (.tup vs)) := by
  obtain ⟨l, S'⟩ := S.froz hp (.tup vs)
  exact h _ l S' (.ref p) (rp_t (r.le l) upd_same)
theorem new_lst {w : Wd} {hs : Hs} {ds : List D} {vs : List V} {Q : VK} {E : XK} (S : SR c w hs) (r : Rps c w.ρ w.F ds vs) (h : Post c w (.ok (.l ds) hs) Q E) {p : Addr} (hp : w.H p = none) : Q (.ref p) (upd w.H p (.lst vs)) := by
  obtain ⟨l, S'⟩ := S.froz hp (.lst vs)
  exact h _ l S' (.ref p) (rp_l (r.le l) upd_same)
theorem new_lstO {w : Wd} {hs : Hs} {ds : List D} {vs : List V} {Q : VK} {E : XK} (S : SR c w hs) (r : Rps c w.ρ w.F ds vs) (h : Post c w (.ok (.loc hs.length) (hs ++ [.lst ds])) Q E) {p : Addr} (hp : w.H p = none) : Q (.ref p) (upd w.H p (.lst vs)) := by
  obtain ⟨l, S'⟩ := S.push (o := .lst ds) (ho := .lst vs) hp ⟨vs, rfl, r⟩
  refine h _ l S' (.ref p) (rp_loc ?_)
  show (w.ρ ++ [p])[hs.length]? = some p
  rw [← S.len]; simp
theorem je_tup {k} (h : JA c X W es mas) : JE c X W (.Tuple es k pos) (eArgs vTup mas) := by
  obtain ⟨ta, pa, sa⟩ := h.ex
  refine ⟨_, pe_tup pa, fun w fs hs σ Q S E h => ?_⟩
  refine sa w fs hs σ _ S E (h.bind.imp fun ds h1 w1 l1 S1 p1 vs rs => ?_)
  unfold vTup at p1
  split at p1
  · rename_i hl
    exact ⟨by rw [rs.length]; exact sz_le hl, fun p hp => new_tup S1 rs p1 hp⟩
  · exact p1.elim
theorem je_lst (h : JA c X W es mas) : JE c X W (.List es pos) (eArgs vLst mas) := by
  obtain ⟨ta, pa, sa⟩ := h.ex
  refine ⟨_, pe_lst pa, fun w fs hs σ Q S E h => ?_⟩
  refine sa w fs hs σ _ S E (h.bind.imp fun ds h1 w1 l1 S1 p1 vs rs => ?_)
  unfold vLst at p1
  split at p1
  · rename_i hl
    exact ⟨by rw [rs.length]; exact sz_le hl, fun p hp => new_lst S1 rs p1 hp⟩
  · exact p1.elim
theorem je_lstO (h : JA c X W es mas) : JE c X W (.List es pos) (eArgs vLstO mas) := by
  obtain ⟨ta, pa, sa⟩ := h.ex
  refine ⟨_, pe_lst pa, fun w fs hs σ Q S E h => ?_⟩
  refine sa w fs hs σ _ S E (h.bind.imp fun ds h1 w1 l1 S1 p1 vs rs => ?_)
  unfold vLstO at p1
  split at p1
  · rename_i hl
    exact ⟨by rw [rs.length]; exact sz_le hl, fun p hp => new_lstO S1 rs p1 hp⟩
  · exact p1.elim
theorem je_callB {id : String} {x : Str} {p : Pos} {f : List D → Hs → R D} (hc : JC c X (.builtin id) f) (hg : Gl X x) (hm : X.mg x = none) (hv : bootBuiltins x = some (.builtin id)) (ha : JA c X W (e :: es) mas) (hn : x ≠ "__name__" := by decide) (hdb : (x == ("__debug__" : Str)) = false := by decide)
    (he : starEach (e :: es) X.env = (false, eval e X.env) :: starEach es X.env := by rfl) (hpl : (backTo pos (starEach es X.env)).any (·.1) = false := by rfl) : JE c X W (.Call (.Name x p) (e :: es) [] pos) (eArgs f mas) := by
  obtain ⟨r, pr, sr⟩ := hc.ex; obtain ⟨ta, pa, sa⟩ := ha.ex
  refine ⟨_, pe_callB pr hg hm hv pa hn hdb he hpl, fun w fs hs σ Q S E h => ?_⟩
  exact sa w fs hs σ _ S E (h.bind.imp fun ds h1 w1 l1 S1 p1 vs rs => sr w1 h1 ds vs Q _ S1 rs p1)
theorem je_callTy {T : String} {x : Str} {p : Pos} {f : List D → Hs → R D} (hc : JC c X (.type T) f) (hg : Gl X x) (hm : X.mg x = none) (hv : bootBuiltins x = some (.type T)) (ha : JA c X W (e :: es) mas) (hn : x ≠ "__name__" := by decide) (hdb : (x == ("__debug__" : Str)) = false := by decide)
    (he : starEach (e :: es) X.env = (false, eval e X.env) :: starEach es X.env := by rfl) (hpl : (backTo pos (starEach es X.env)).any (·.1) = false := by rfl) : JE c X W (.Call (.Name x p) (e :: es) [] pos) (eArgs f mas) := by
  obtain ⟨r, pr, sr⟩ := hc.ex; obtain ⟨ta, pa, sa⟩ := ha.ex
  refine ⟨_, pe_callTy pr hg hm hv pa hn hdb he hpl, fun w fs hs σ Q S E h => ?_⟩
  exact sa w fs hs σ _ S E (h.bind.imp fun ds h1 w1 l1 S1 p1 vs rs => sr w1 h1 ds vs Q _ S1 rs p1)
end
end Mm
namespace Mm
open PySem PySem.Spec PyProof.Rows L2
section
variable {c : Ct} {X : Cx} {W : WX} {a b e : Expr} {es : List Expr} {ma mb mc : M} {mas : MA} {pos : Pos} {st : Stmt} {sts : List Stmt} {m m1 m2 : MS}
theorem jg_name (i : Nat) {x : Str} (hN : X.N.Nodup) (hi : X.N[i]? = some x := by rfl) (hx : Loc X.env.scope x := by first | exact Or.inl rfl | exact Or.inr rfl) (hf : X.fn x = true ∨ X.env.scope.names.lookup x = some .local := by first | exact .inl rfl | exact .inr rfl) : JG c X W (.Name x pos) (Mm.gName i) :=
  ⟨_, pg_name hN hi hx hf, fun w fs hs σ d v Q S E r h => h.now S _ (E.set r)⟩
theorem jgs_nil : JGs c X W [] Mm.gNil := by
  refine ⟨_, pgs_nil, fun ds fs hs fs' hs' h => ?_, fun ds fs hs x p h => ?_, fun w fs hs σ ds vs Q S E r h => ?_⟩
  · unfold Mm.gNil at h
    split at h
    · rfl
    · cases h
  · unfold Mm.gNil
    split <;> simp
  · unfold Mm.gNil at h
    split at h
    · unfold Rps at r
      subst r
      exact ⟨rfl, h.now S _ E⟩
    · exact h.elim
theorem jgs_name (i : Nat) {x : Str} {g : List D → Fs → Hs → R Fs} (hN : X.N.Nodup) (hr : JGs c X W es g) (hi : X.N[i]? = some x := by rfl) (hx : Loc X.env.scope x := by first | exact Or.inl rfl | exact Or.inr rfl) (hf : X.fn x = true ∨ X.env.scope.names.lookup x = some .local := by first | exact .inl rfl | exact .inr rfl) :
    JGs c X W (.Name x pos :: es) (Mm.gCons (Mm.gName i) g) := by
  obtain ⟨tr, pr, len, nex, sr⟩ := hr.ex
  refine ⟨_, pgs_cons (pg_name hN hi hx hf) pr, fun ds fs hs fs' hs' h => ?_, fun ds fs hs x p h => ?_, fun w fs hs σ ds vs Q S E r h => ?_⟩
  · cases ds with
    | nil => simp [Mm.gCons] at h
    | cons d ds =>
      simp only [Mm.gCons, Mm.gName, R.bind_ok] at h
      simp [len _ _ _ _ _ h]
  · cases ds with
    | nil => simp [Mm.gCons]
    | cons d ds =>
      simp only [Mm.gCons, Mm.gName, R.bind_ok]
      exact nex _ _ _ _ _ _
  · cases ds with
    | nil => exact h.elim
    | cons d ds =>
      unfold Rps at r
      obtain ⟨v, r', rfl, h1, h2⟩ := r
      simp only [Mm.gCons, Mm.gName, R.bind_ok] at h
      exact ⟨v, r', rfl, sr w _ hs _ ds r' Q S (E.set h1) h2 (by cases q : g ds (fs.set i (some d)) hs with
        | ok a h' => rw [q] at h; exact h
        | exc x p h' => exact absurd q (nex _ _ _ _ _ _)
        | bad => rw [q] at h; exact h)⟩
theorem jg_tup {g : List D → Fs → Hs → R Fs} {k : Nat} (hc : X.calm = true) (h : JGs c X W es g) (hn : (assignEach es X.env).length = es.length := by rfl) (hst : (assignEach es X.env).findIdx? (·.1) = none := by rfl) : JG c X W (.Tuple es k pos) (Mm.gTup g) := by
  obtain ⟨tr, pr, len, nex, sr⟩ := h.ex
  refine ⟨_, pg_tup hc pr hn hst, fun w fs hs σ d v Q S E r h => ?_⟩
  cases d <;> first | exact h.elim | skip
  rename_i ds
  unfold Rp at r
  obtain ⟨p, vs, rfl, hq, r2⟩ := r
  have h' : PostG c w (g ds fs hs) (fun fs' _ w' => ∀ σ', RE c w' fs' σ' → Q σ' w'.H) (fun k d H => W k d σ H) := h
  have hl : ds.length = es.length := by
    cases q : g ds fs hs with
    | ok fs' hs' => exact len _ _ _ _ _ q
    | exc x p h2 => exact absurd q (nex _ _ _ _ _ _)
    | bad => rw [q] at h'; exact h'.elim
  exact ⟨p, vs, rfl, SqT.of (S.sub _ _ hq), by rw [r2.length, hl], sr w fs hs σ ds vs Q S E r2 h'⟩
theorem jg_sub {o i : Expr} {mo mi : M} {set : D → D → D → Hs → R Unit} (hs : JSet c X set) (ho : JE c X W o mo) (hi : JE c X W i mi)
    (ha : ∀ v, assign (.Subscript o i pos) X.env v = (do
      let ov ← holding [v] (eval o X.env)
      let iv ← holding [v, ov] (eval i X.env)
      standAt pos
      holding [v, ov, iv] (setItem ov iv v)
      release [v, ov, iv] []) := by intro _; rfl) : JG c X W (.Subscript o i pos) (Mm.gSub set mo mi) := by
  obtain ⟨r, pr, sr⟩ := hs.ex; obtain ⟨to, po, so⟩ := ho.ex; obtain ⟨ti, pi, si⟩ := hi.ex
  refine ⟨_, pg_sub po pi pr ha, fun w fs hs σ d v Q S E rd h => ?_⟩
  refine so w fs hs σ _ S E (h.bind.imp fun x h1 w1 l1 S1 p1 v1 r1 => ?_)
  refine si w1 fs h1 σ _ S1 (E.le l1) (p1.bind.imp fun k h2 w2 l2 S2 p2 v2 r2 => ?_)
  refine sr w2 h2 x k d v1 v2 v _ _ S2 (r1.le l2) r2 ((rd.le l1).le l2) (p2.bind.imp fun u h3 w3 l3 S3 p3 => ?_)
  exact p3.now S3 σ (((E.le l1).le l2).le l3)
theorem jss_nil : JSs c X W [] sNx := ⟨_, pss_nil, fun w fs hs σ De S E h => h w σ (Wd.le.refl w) S E⟩
theorem jss_one (h : JS c X W st m) : JSs c X W [st] m := let ⟨t, p, s⟩ := h.ex; ⟨t, pss_one p, s⟩
theorem PostS.seq {w : Wd} {r : RS} {k : MS} {De : Ends} {t : TS} (h : PostS c w (r.seq k) De W) (s : ∀ (w : Wd) (fs : Fs) (hs : Hs) (σ : L2.St) (De : Ends), SR c w hs → RE c w fs σ → PostS c w (k fs hs) De W → t De σ w.H) : PostS c w r { De with nx := t De } W := by
  cases r with
  | nx fs hs => exact fun w' σ' l S E => s w' fs hs σ' De S E (PostS.mono l h)
  | ret d hs => exact h
  | brk fs hs => exact h
  | cnt fs hs => exact h
  | exc x p fs hs => exact h
  | bad => exact h
theorem jss_cons (h1 : JS c X W st m1) (h2 : JSs c X W sts m2) : JSs c X W (st :: sts) (sSeq m1 m2) := by
  obtain ⟨t1, p1, s1⟩ := h1.ex; obtain ⟨t2, p2, s2⟩ := h2.ex
  exact ⟨_, pss_cons p1 p2, fun w fs hs σ De S E h => s1 w fs hs σ _ S E (PostS.seq h s2)⟩
theorem js_never : JS c X W st sNever := ⟨_, ps_never, fun w fs hs σ De S E h => h.elim⟩
theorem jss_never : JSs c X W sts sNever := ⟨_, pss_never, fun w fs hs σ De S E h => h.elim⟩
theorem js_set (i : Nat) {x : Str} {pos' : Pos} (hN : X.N.Nodup) (he : JE c X W e ma) (hi : X.N[i]? = some x := by rfl) (hx : Loc X.env.scope x := by first | exact Or.inl rfl | exact Or.inr rfl) (hs : swapsWith e (some (.Name x pos')) pos.line X.env = pure false := by rfl) (hf : X.fn x = true ∨ X.env.scope.names.lookup x = some .local := by first | exact .inl rfl | exact .inr rfl) :
    JS c X W (.Assign [.Name x pos'] e pos) (sAsg ma (Mm.gName i)) := by
  obtain ⟨t, p, s⟩ := he.ex
  refine ⟨_, ps_set hN hi hx p hs hf, fun w fs hs σ De S E h => ?_⟩
  exact s w fs hs σ _ S E ((PostS.bindS h E).imp fun d h1 w1 l1 S1 p1 v1 r1 => p1 w1 _ (Wd.le.refl w1) S1 ((E.le l1).set r1))
theorem js_asg {tg : Expr} {g : MG} (he : JE c X W e ma) (hg : JG c X W tg g) (hs : swapsWithSole [tg] e pos.line X.env = pure false := by rfl) (hw : swappedStores [tg] e X.env = pure none := by rfl)
    (h1 : (assignEach [tg] X.env).map (·.2) = [assign tg X.env] := by rfl) : JS c X W (.Assign [tg] e pos) (sAsg ma g) := by
  obtain ⟨t, p, s⟩ := he.ex; obtain ⟨tg', pg, sg⟩ := hg.ex
  refine ⟨_, ps_asg p pg hs hw h1, fun w fs hs σ De S E h => ?_⟩
  refine s w fs hs σ _ S E ((PostS.bindS h E).imp fun d h1 w1 l1 S1 p1 v1 r1 => ?_)
  exact sg w1 fs h1 σ d v1 _ S1 (E.le l1) r1 ((PostS.bindS p1 (E.le l1)).imp fun fs' h2 w2 l2 S2 p2 σ' E2 => p2 w2 σ' (Wd.le.refl w2) S2 E2)
theorem js_expr (he : JE c X W e ma) (hs : swapsWith e none pos.line X.env = pure false := by rfl) : JS c X W (.Expr e pos) (sExpr ma) := by
  obtain ⟨t, p, s⟩ := he.ex
  refine ⟨_, ps_expr p hs, fun w fs hs σ De S E h => ?_⟩
  exact s w fs hs σ _ S E ((PostS.bindS h E).imp fun d h1 w1 l1 S1 p1 v1 r1 => p1 w1 σ (Wd.le.refl w1) S1 (E.le l1))
theorem js_ret (he : JE c X W e ma) : JS c X W (.Return (some e) pos) (sRet ma) := by
  obtain ⟨t, p, s⟩ := he.ex
  refine ⟨_, ps_ret p, fun w fs hs σ De S E h => ?_⟩
  exact s w fs hs σ _ S E ((PostS.bindS h E).imp fun d h1 w1 l1 S1 p1 v1 r1 => p1 w1 v1 (Wd.le.refl w1) S1 r1)
theorem js_if {t : Expr} {mt : MT} {ba bb : List Stmt} (ht : JT c X W t mt) (ha : JSs c X W ba m1) (hb : JSs c X W bb m2) : JS c X W (.If t ba bb pos) (sIf mt m1 m2) := by
  obtain ⟨tt, pt, stt⟩ := ht.ex; obtain ⟨t1, p1, s1⟩ := ha.ex; obtain ⟨t2, p2, s2⟩ := hb.ex
  refine ⟨_, ps_if pt p1 p2, fun w fs hs σ De S E h => ?_⟩
  refine stt w fs hs σ _ S E ((PostS.bindS h E).imp fun k h1 w1 l1 S1 q => ?_)
  cases k with
  | true => exact s1 w1 fs h1 σ De S1 (E.le l1) q
  | false => exact s2 w1 fs h1 σ De S1 (E.le l1) q
/-- a, b = x, y with local names -/
theorem js_par (i j : Nat) {x y : Str} {px py pt : Pos} {kt k2 : Nat} {pt2 : Pos} (hc : X.calm = true) (hN : X.N.Nodup) (hij : i ≠ j) (ha : JE c X W a ma) (hb : JE c X W b mb)
    (hw : swappedStores [.Tuple [.Name x px, .Name y py] kt pt] (.Tuple [a, b] k2 pt2) X.env = pure (some [x, y])) (hi : X.N[i]? = some x := by rfl) (hj : X.N[j]? = some y := by rfl)
    (hx : X.env.scope.names.lookup x = some .local := by rfl) (hy : X.env.scope.names.lookup y = some .local := by rfl)
    (hs : swapsWithSole [.Tuple [.Name x px, .Name y py] kt pt] (.Tuple [a, b] k2 pt2) pos.line X.env = pure false := by rfl)
    (h1 : starEach [a, b] X.env = (false, eval a X.env) :: starEach [b] X.env := by rfl) (h2 : starEach [b] X.env = (false, eval b X.env) :: starEach [] X.env := by rfl) :
    JS c X W (.Assign [.Tuple [.Name x px, .Name y py] kt pt] (.Tuple [a, b] k2 pt2) pos) (sPar i j ma mb) := by
  obtain ⟨ta, pa, sa⟩ := ha.ex; obtain ⟨tb, pb, sb⟩ := hb.ex
  refine ⟨_, ps_par hc hN hi hj hij hx hy (pa_cons pa (pa_cons pb pa_nil h2) h1) hw hs, fun w fs hs σ De S E h => ?_⟩
  refine sa w fs hs σ _ S E ((PostS.bindS h E).imp fun d h1 w1 l1 S1 p1 v1 r1 => ?_)
  refine sb w1 fs h1 σ _ S1 (E.le l1) ((PostS.bindS p1 (E.le l1)).imp fun d2 h2 w2 l2 S2 p2 v2 r2 => ?_)
  exact ⟨v1, v2, rfl, p2 w2 _ (Wd.le.refl w2) S2 ((((E.le l1).le l2).set (r1.le l2)).set r2)⟩
theorem js_for {tg iter : Expr} {body : List Stmt} {src : MI} {g : MG} (hp : PassesOwn (model X.prog X.w) X.A X.env X.xe) (hc : X.calm = true) (hi : JI c X W tg iter src) (hg : JG c X W tg g) (hb : JSs c X W body m)
    (hs : ∀ x, foldedSetIterable iter X.env x = pure x := by intro _; rfl) : JS c X W (.For tg iter body [] pos) (sFor src g m) := by
  obtain ⟨wi, pi, si⟩ := hi.ex; obtain ⟨tg', pg, sg⟩ := hg.ex; obtain ⟨tb, pb, sb⟩ := hb.ex
  refine ⟨_, ps_for hp hc pi pg pb hs, fun w fs hs σ De S E h => ?_⟩
  refine si w fs hs σ _ S E ((PostS.bindS h E).imp fun p h1 w1 l1 S1 p1 J sJ => ?_)
  obtain ⟨ds, k⟩ := p
  refine ⟨fun i mm σ' H => ∃ w' fs' hs', w1.le w' ∧ w'.H = H ∧ SR c w' hs' ∧ RE c w' fs' σ' ∧ i ≤ ds.length ∧ mm = ds.length - i ∧ PostS c w' (forL k g m (ds.drop i) fs' hs') De W, ⟨_, w1, fs, h1, Wd.le.refl w1, rfl, S1, E.le l1, Nat.zero_le _, rfl, p1⟩, ?_⟩
  rintro i mm σ' H ⟨w', fs', hs', lw, rfl, S', E', hi, rfl, q⟩
  by_cases hil : i < ds.length
  · have ed : ds.drop i = ds[i] :: ds.drop (i + 1) := List.drop_eq_getElem_cons hil
    rw [ed] at q
    unfold forL at q
    split at q
    · rename_i hst
      obtain ⟨hgo, hy⟩ := sJ.go i ds[i] w' hs' lw S' hst (List.getElem?_eq_getElem hil)
      refine .inr ⟨hgo, fun σ2 H2 => ∃ w2 fs2 hs2, w1.le w2 ∧ w2.H = H2 ∧ SR c w2 hs2 ∧ RE c w2 fs2 σ2 ∧ i + 1 ≤ ds.length ∧ PostS c w2 (forL k g m (ds.drop (i + 1)) fs2 hs2) De W, fun σ2 H2 ⟨w2, fs2, hs2, z1, z2, z3, z4, z5, z6⟩ => ⟨ds.length - (i + 1), by omega, w2, fs2, hs2, z1, z2, z3, z4, z5, rfl, z6⟩, fun x H' hx => ?_⟩
      obtain ⟨w2, l2, rfl, S2, r2⟩ := hy x H' hx
      refine sg w2 fs' hs' σ' ds[i] x _ S2 (E'.le l2) r2 ((PostS.bindS (PostS.mono l2 q) (E'.le l2)).imp fun fs3 h3 w3 l3 S3 p3 σ3 E3 => ?_)
      refine sb w3 fs3 h3 σ3 _ S3 E3 ?_
      have lw3 : w1.le w3 := (lw.trans l2).trans l3
      cases qb : m fs3 h3 with
      | nx fs4 h4 =>
        rw [qb] at p3
        exact fun w4 σ4 l4 S4 E4 => ⟨w4, fs4, h4, lw3.trans l4, rfl, S4, E4, hil, PostS.mono l4 p3⟩
      | cnt fs4 h4 =>
        rw [qb] at p3
        exact fun w4 σ4 l4 S4 E4 => ⟨w4, fs4, h4, lw3.trans l4, rfl, S4, E4, hil, PostS.mono l4 p3⟩
      | brk fs4 h4 =>
        rw [qb] at p3
        exact p3
      | ret d h4 =>
        rw [qb] at p3
        exact p3
      | exc x p fs4 h4 =>
        rw [qb] at p3
        exact p3
      | bad =>
        rw [qb] at p3
        exact p3.elim
    · exact q.elim
  · have e0 : i = ds.length := by omega
    subst e0
    rw [List.drop_length] at q
    unfold forL at q
    split at q
    · rename_i hst
      exact .inl ⟨sJ.stop w' hs' lw S' hst, q w' σ' (Wd.le.refl w') S' E'⟩
    · exact q.elim
theorem seqL_src {w : Wd} {ds : List D} {p : Addr} {vs : List V} (hq : SqL c.K w.F p vs) (r : Rps c w.ρ w.F ds vs) (hK : X.K = c.K) : SrcOk c (Itl X.K p) w ds none := by
  refine ⟨fun i d w' hs' l S' _ e => ?_, fun w' hs' l S' _ => ?_⟩
  · obtain ⟨v, e2, r2⟩ := r.get e
    have hq' : SqL X.K w'.H p vs := by rw [hK]; exact sql_sub S'.sub (sql_sub l.sub hq)
    refine ⟨⟨vs, v, hq', e2⟩, fun x H' hy => ?_⟩
    obtain ⟨rfl, hx⟩ := hy
    have e3 := hx vs hq'
    rw [e2] at e3
    cases e3
    exact ⟨w', Wd.le.refl w', rfl, S', r2.le l⟩
  · exact ⟨vs, by rw [hK]; exact sql_sub S'.sub (sql_sub l.sub hq), Nat.le_of_eq r.length⟩
theorem seqT_src {w : Wd} {ds : List D} {p : Addr} {vs : List V} (hq : SqT c.K w.F p vs) (r : Rps c w.ρ w.F ds vs) (hK : X.K = c.K) : SrcOk c (Itt X.K p) w ds none := by
  refine ⟨fun i d w' hs' l S' _ e => ?_, fun w' hs' l S' _ => ?_⟩
  · obtain ⟨v, e2, r2⟩ := r.get e
    have hq' : SqT X.K w'.H p vs := by rw [hK]; exact sqt_sub S'.sub (sqt_sub l.sub hq)
    refine ⟨⟨vs, v, hq', e2⟩, fun x H' hy => ?_⟩
    obtain ⟨rfl, hx⟩ := hy
    have e3 := hx vs hq'
    rw [e2] at e3
    cases e3
    exact ⟨w', Wd.le.refl w', rfl, S', r2.le l⟩
  · exact ⟨vs, by rw [hK]; exact sqt_sub S'.sub (sqt_sub l.sub hq), Nat.le_of_eq r.length⟩
/-- a tracked list, as it stands -/
theorem loc_at {w : Wd} {hs : Hs} {n : Nat} {o : O} {p : Addr} (S : SR c w hs) (hp : w.ρ[n]? = some p) (h : hs[n]? = some o) : ∃ ho, w.H p = some ho ∧ RO c w.ρ w.F o ho := S.ob n p o hp h
theorem rho_le {w w' : Wd} {n : Nat} {p : Addr} (l : w.le w') (hp : w.ρ[n]? = some p) : w'.ρ[n]? = some p := by
  obtain ⟨s, e⟩ := l.rho
  rw [e, List.getElem?_append_left (List.getElem?_eq_some_iff.mp hp).1]
  exact hp
theorem loc_src {w : Wd} {ds : List D} {n : Nat} {p : Addr} (hp : w.ρ[n]? = some p) : SrcOk c (Itl X.K p) w ds (some (n, ds)) := by
  refine ⟨fun i d w' hs' l S' st e => ?_, fun w' hs' l S' st => ?_⟩
  · obtain ⟨ho, e1, vs, rfl, r⟩ := loc_at S' (rho_le l hp) st
    obtain ⟨v, e2, r2⟩ := r.get e
    refine ⟨⟨vs, v, SqL.of e1, e2⟩, fun x H' hy => ?_⟩
    obtain ⟨rfl, hx⟩ := hy
    have e3 := hx vs (SqL.of e1)
    rw [e2] at e3
    cases e3
    exact ⟨w', Wd.le.refl w', rfl, S', r2⟩
  · obtain ⟨ho, e1, vs, rfl, r⟩ := loc_at S' (rho_le l hp) st
    exact ⟨vs, SqL.of e1, Nat.le_of_eq r.length⟩
variable {tg : Expr}
theorem rng_get {lo : Int} {n i : Nat} {d : D} (h : (rng lo n)[i]? = some d) : i < n ∧ d = .int (lo + i) := by
  unfold rng at h
  rw [List.getElem?_map] at h
  cases q : (List.range n)[i]? with
  | none => rw [q] at h; cases h
  | some k =>
    rw [q] at h
    obtain ⟨h1, h2⟩ := List.getElem?_eq_some_iff.mp q
    simp at h1 h2 h
    subst h2
    exact ⟨h1, h.symm⟩
theorem rng_len (lo : Int) (n : Nat) : (rng lo n).length = n := by unfold rng; simp
theorem rng_src {w : Wd} {lo : Int} {n : Nat} : SrcOk c (Itr lo n) w (rng lo n) none := by
  refine ⟨fun i d w' hs' l S' _ e => ?_, fun w' hs' l S' _ => ?_⟩
  · obtain ⟨h1, rfl⟩ := rng_get e
    refine ⟨h1, fun x H' hy => ?_⟩
    obtain ⟨rfl, rfl⟩ := hy
    exact ⟨w', Wd.le.refl w', rfl, S', rfl⟩
  · show n ≤ (rng lo n).length
    rw [rng_len]
    exact Nat.le_refl _
theorem ji_rng1 {p : Pos} (hg : Gl X "range") (hm : X.mg "range" = none) (ha : JA c X W [a] mas) (hs : starEach [a] X.env = [(false, eval a X.env)] := by rfl) : JI c X W tg (.Call (.Name "range" p) [a] [] pos) (Mm.iRng1 mas) := by
  obtain ⟨t, pa, s⟩ := ha.ex
  refine ⟨_, pi_range1 hg hm pa hs, fun w fs hs σ Rr S E h => ?_⟩
  refine s w fs hs σ _ S E (h.bind.imp fun ds h1 w1 l1 S1 p1 vs rs => ?_)
  cases e : int1 ds with
  | none => simp only [e] at p1; exact p1.elim
  | some j =>
    simp only [e] at p1
    obtain rfl := int1_some e
    split at p1
    · rename_i hj
      unfold lim at hj
      unfold Rps at rs
      obtain ⟨v, r, rfl, h1, h2⟩ := rs
      unfold Rps at h2
      subst h2
      obtain rfl : v = .int j := h1
      exact ⟨j, rfl, by omega, by omega, p1.now S1 _ rng_src⟩
    · exact p1.elim
theorem ji_rng2 {p : Pos} (hg : Gl X "range") (hm : X.mg "range" = none) (ha : JA c X W [a, b] mas) (hs : starEach [a, b] X.env = [(false, eval a X.env), (false, eval b X.env)] := by rfl) (hs2 : starEach [b] X.env = [(false, eval b X.env)] := by rfl) :
    JI c X W tg (.Call (.Name "range" p) [a, b] [] pos) (Mm.iRng2 mas) := by
  obtain ⟨t, pa, s⟩ := ha.ex
  refine ⟨_, pi_range2 hg hm pa hs hs2, fun w fs hs σ Rr S E h => ?_⟩
  refine s w fs hs σ _ S E (h.bind.imp fun ds h1 w1 l1 S1 p1 vs rs => ?_)
  cases e : int2 ds with
  | none => simp only [e] at p1; exact p1.elim
  | some q =>
    simp only [e] at p1
    obtain rfl := int2_some e
    split at p1
    · rename_i hj
      unfold lim at hj
      unfold Rps at rs
      obtain ⟨v, r, rfl, h1, h2⟩ := rs
      unfold Rps at h2
      obtain ⟨v2, r2, rfl, h3, h4⟩ := h2
      unfold Rps at h4
      subst h4
      obtain rfl : v = .int q.1 := h1
      obtain rfl : v2 = .int q.2 := h3
      exact ⟨q.1, q.2, rfl, ⟨by omega, by omega, by omega, by omega⟩, p1.now S1 _ rng_src⟩
    · exact p1.elim
theorem enum_get {ds : List D} {i : Nat} {d : D} (h : (enumD ds)[i]? = some d) : ∃ x, ds[i]? = some x ∧ d = .t [.int (i : Nat), x] := by
  unfold enumD at h
  rw [List.getElem?_zipWith] at h
  cases q : (List.range ds.length)[i]? with
  | none => rw [q] at h; simp at h
  | some k =>
    rw [q] at h
    cases z : ds[i]? with
    | none => rw [z] at h; simp at h
    | some x =>
      rw [z] at h
      obtain ⟨h1, h2⟩ := List.getElem?_eq_some_iff.mp q
      simp at h2
      subst h2
      simp at h
      exact ⟨x, rfl, h.symm⟩
theorem enum_len (ds : List D) : (enumD ds).length = ds.length := by unfold enumD; simp
end
end Mm
namespace Mm
open PySem PySem.Spec PyProof.Rows L2
/-- nothing leaves a comprehension's block -/
abbrev W0 : WX := fun _ _ _ _ => False
structure JTs (c : Ct) (X : Cx) (W : WX) (es : List Expr) (m : MT) : Prop where
  ex : ∃ te : TT, PTs X es te ∧ ∀ (w : Wd) (fs : Fs) (hs : Hs) (σ : L2.St) (Q : Bool → Hp → Prop), SR c w hs → RE c w fs σ → PostG c w (m fs hs) (fun b _ w' => Q b w'.H) (fun k d H => W k d σ H) → te σ w.H Q
theorem wipe_get (σ : L2.St) : ∀ (vs : List Nat) (j : Nat), (L2.wipe σ vs)[j]? = if j ∈ vs ∧ j < σ.length then some none else σ[j]?
  | [], j => by simp [L2.wipe]
  | v :: vs, j => by
    unfold L2.wipe
    have ih := wipe_get σ vs j
    by_cases hj : j = v
    · subst hj
      by_cases hl : j < σ.length
      · rw [List.getElem?_set_self (by rw [L2.wipe_length]; exact hl)]
        simp [hl]
      · rw [List.getElem?_eq_none (by rw [List.length_set, L2.wipe_length]; omega)]
        simp [hl, List.getElem?_eq_none (Nat.le_of_not_lt hl)]
    · rw [List.getElem?_set_ne (Ne.symm hj), ih]
      simp [hj]
theorem wipe_set {σ : L2.St} {own : List Nat} {i : Nat} {x : Option V} (h : i ∈ own) : L2.wipe (σ.set i x) own = L2.wipe σ own := by
  apply List.ext_getElem?
  intro j
  rw [wipe_get, wipe_get, List.length_set]
  by_cases hj : j = i
  · subst hj
    by_cases hl : j < σ.length
    · simp [h, hl]
    · simp [hl, List.getElem?_eq_none (Nat.le_of_not_lt hl)]
  · rw [List.getElem?_set_ne (Ne.symm hj)]
section
variable {c : Ct} {X : Cx} {W : WX} {a b e : Expr} {es : List Expr} {ma mb mc : M} {mas : MA} {pos : Pos}
theorem jts_nil : JTs c X W [] tYes := ⟨_, pts_nil, fun w fs hs σ Q S E h => h.now S⟩
theorem jts_one {m : MT} (h : JT c X W e m) : JTs c X W [e] m := let ⟨t, p, s⟩ := h.ex; ⟨_, pts_one p, s⟩
def tM (c : Ct) (W : WX) (m : M) : TE := fun σ H Q => ∃ w fs hs, w.H = H ∧ SR c w hs ∧ RE c w fs σ ∧ Post c w (m fs hs) Q (fun k d H => W k d σ H)
theorem JE.pe {m : M} (h : JE c X W e m) : PE X e (tM c W m) := by
  obtain ⟨te, p, s⟩ := h.ex
  refine ⟨fun pins st σ H Q I q => ?_⟩
  obtain ⟨w, fs, hs, rfl, S, E, q⟩ := q
  exact p.run pins st σ w.H Q I (s w fs hs σ Q S E q)
def tMs (c : Ct) (W : WX) (m : MT) : TT := fun σ H Q => ∃ w fs hs, w.H = H ∧ SR c w hs ∧ RE c w fs σ ∧ PostG c w (m fs hs) (fun b _ w' => Q b w'.H) (fun k d H => W k d σ H)
theorem JTs.pts {m : MT} (h : JTs c X W es m) : PTs X es (tMs c W m) := by
  obtain ⟨te, p, s⟩ := h.ex
  refine ⟨fun pins st σ H Q I q => ?_⟩
  obtain ⟨w, fs, hs, rfl, S, E, q⟩ := q
  exact p.run pins st σ w.H Q I (s w fs hs σ Q S E q)
/-- targets that store into the own slots alone -/
def gMo (c : Ct) (own : List Nat) (m : MG) : TG := fun v σ H Q => ∃ w fs hs d, w.H = H ∧ SR c w hs ∧ RE c w fs σ ∧ Rp c w.ρ w.F d v ∧ PostG c w (m d fs hs) (fun fs' _ w' => ∀ σ', RE c w' fs' σ' → L2.wipe σ' own = L2.wipe σ own → Q σ' w'.H) (fun _ _ _ => False)
structure JGo (c : Ct) (X : Cx) (own : List Nat) (e : Expr) (m : MG) : Prop where
  pg : PG X e (gMo c own m)
def gMos (c : Ct) (own : List Nat) (m : List D → Fs → Hs → R Fs) : TGs := fun vs σ H Q => ∃ w fs hs ds, w.H = H ∧ SR c w hs ∧ RE c w fs σ ∧ Rps c w.ρ w.F ds vs ∧ PostG c w (m ds fs hs) (fun fs' _ w' => ∀ σ', RE c w' fs' σ' → L2.wipe σ' own = L2.wipe σ own → Q σ' w'.H) (fun _ _ _ => False)
structure JGos (c : Ct) (X : Cx) (own : List Nat) (es : List Expr) (m : List D → Fs → Hs → R Fs) : Prop where
  pg : PGs X es (gMos c own m)
  len : ∀ ds fs hs, m ds fs hs ≠ .bad → ds.length = es.length
theorem PG.weak {t t' : TG} (p : PG X e t) (h : ∀ v σ H Q, t' v σ H Q → t v σ H Q) : PG X e t' := ⟨fun pins s σ H v u Q I r q => p.run pins s σ H v u Q I r (h _ _ _ _ q)⟩
theorem PGs.weak {t t' : TGs} (p : PGs X es t) (h : ∀ v σ H Q, t' v σ H Q → t v σ H Q) : PGs X es t' := ⟨fun pins s σ H v u Q I r q => p.run pins s σ H v u Q I r (h _ _ _ _ q)⟩
theorem jgo_name {own : List Nat} (i : Nat) {x : Str} (hN : X.N.Nodup) (ho : i ∈ own) (hi : X.N[i]? = some x := by rfl) (hx : Loc X.env.scope x := by first | exact Or.inl rfl | exact Or.inr rfl) (hf : X.fn x = true ∨ X.env.scope.names.lookup x = some .local := by first | exact .inl rfl | exact .inr rfl) : JGo c X own (.Name x pos) (Mm.gName i) := by
  refine ⟨PG.weak (pg_name hN hi hx hf) fun v σ H Q h => ?_⟩
  obtain ⟨w, fs, hs, d, rfl, S, E, r, q⟩ := h
  exact q.now S _ (E.set r) (wipe_set ho)
theorem jgos_nil {own : List Nat} : JGos c X own [] Mm.gNil := by
  refine ⟨PGs.weak pgs_nil fun v σ H Q h => ?_, fun ds fs hs h => ?_⟩
  · obtain ⟨w, fs, hs, ds, rfl, S, E, r, q⟩ := h
    cases ds with
    | nil =>
      unfold Rps at r
      subst r
      exact ⟨rfl, PostG.now q S _ E rfl⟩
    | cons d ds => exact q.elim
  · cases ds with
    | nil => rfl
    | cons d ds => exact absurd rfl h
theorem jgos_name {own : List Nat} (i : Nat) {x : Str} {g : List D → Fs → Hs → R Fs} (hN : X.N.Nodup) (ho : i ∈ own) (hr : JGos c X own es g) (hi : X.N[i]? = some x := by rfl) (hx : Loc X.env.scope x := by first | exact Or.inl rfl | exact Or.inr rfl) (hf : X.fn x = true ∨ X.env.scope.names.lookup x = some .local := by first | exact .inl rfl | exact .inr rfl) :
    JGos c X own (.Name x pos :: es) (Mm.gCons (Mm.gName i) g) := by
  refine ⟨PGs.weak (pgs_cons (pg_name hN hi hx hf) hr.pg) fun v σ H Q h => ?_, fun ds fs hs h => ?_⟩
  · obtain ⟨w, fs, hs, ds, rfl, S, E, r, q⟩ := h
    cases ds with
    | nil => exact q.elim
    | cons d ds =>
      unfold Rps at r
      obtain ⟨v1, r', rfl, h1, h2⟩ := r
      simp only [Mm.gCons, Mm.gName, R.bind_ok] at q
      exact ⟨v1, r', rfl, w, _, hs, ds, rfl, S, E.set h1, h2, q.imp fun fs' h' w' l S' p σ' E' z => p σ' E' (z.trans (wipe_set ho))⟩
  · cases ds with
    | nil => exact absurd rfl h
    | cons d ds =>
      simp only [Mm.gCons, Mm.gName, R.bind_ok] at h
      simp [hr.len _ _ _ h]
theorem jgo_tup {own : List Nat} {g : List D → Fs → Hs → R Fs} {k : Nat} (hc : X.calm = true) (h : JGos c X own es g) (hn : (assignEach es X.env).length = es.length := by rfl) (hst : (assignEach es X.env).findIdx? (·.1) = none := by rfl) : JGo c X own (.Tuple es k pos) (Mm.gTup g) := by
  refine ⟨PG.weak (pg_tup hc h.pg hn hst) fun v σ H Q z => ?_⟩
  obtain ⟨w, fs, hs, d, rfl, S, E, r, q⟩ := z
  cases d <;> first | exact q.elim | skip
  rename_i ds
  unfold Rp at r
  obtain ⟨p, vs, rfl, hq, r2⟩ := r
  have q' : PostG c w (g ds fs hs) (fun fs' _ w' => ∀ σ', RE c w' fs' σ' → L2.wipe σ' own = L2.wipe σ own → Q σ' w'.H) (fun _ _ _ => False) := q
  have hl : ds.length = es.length := h.len ds fs hs fun e => by rw [e] at q'; exact q'.elim
  exact ⟨p, vs, rfl, SqT.of (S.sub _ _ hq), by rw [r2.length, hl], w, fs, hs, ds, rfl, S, E, r2, q'⟩
/-- an address that is neither tracked nor frozen stays so -/
theorem le_out {w w' : Wd} {A : Addr} {o : HO} (l : w.le w') (e : w.H A = some o) (n : A ∉ w.ρ) (f : w.F A = none) : w'.H A = some o ∧ A ∉ w'.ρ ∧ w'.F A = none := by
  refine ⟨l.keep A o e n, fun hm => ?_, ?_⟩
  · obtain ⟨s, es, ns⟩ := l.pre
    rw [es] at hm
    rcases List.mem_append.mp hm with z | z
    · exact n z
    · rw [ns A z] at e; cases e
  · cases q : w'.F A with
    | none => rfl
    | some u =>
      rcases l.newF A u q with z | z | z
      · rw [f] at z; cases z
      · rw [e] at z; cases z
      · exact absurd z n
/-- it may be written -/
theorem SR.out {w : Wd} {hs : Hs} {A : Addr} {o o' : HO} (S : SR c w hs) (e : w.H A = some o) (n : A ∉ w.ρ) (f : w.F A = none) : SR c ⟨w.ρ, w.F, upd w.H A o'⟩ hs :=
  ⟨fun a u q => by show upd w.H A o' a = some u; rw [upd_ne (ne_of_none q f)]; exact S.sub a u q, S.len, S.nd, S.fr, fun i a u q1 q2 => by
    obtain ⟨ho, z1, z2⟩ := S.ob i a u q1 q2
    refine ⟨ho, ?_, z2⟩
    show upd w.H A o' a = some ho
    have : a ≠ A := fun z => n (z ▸ List.mem_of_getElem? q1)
    rw [upd_ne this]; exact z1⟩
/-- two worlds that differ at A alone -/
theorem le_swap {w w' : Wd} {A : Addr} {o : HO} (l : w.le w') (hA : w.H A = none) (e : w'.H A = some o) (n : A ∉ w'.ρ) (o' : HO) : w.le ⟨w'.ρ, w'.F, upd w'.H A o'⟩ := by
  refine ⟨l.pre, l.sub, fun a u q hx => ?_, fun a u q => ?_, l.newF⟩
  · show upd w'.H A o' a = some u
    rw [upd_ne (ne_of_none q hA)]; exact l.keep a u q hx
  · obtain ⟨z, e2⟩ := l.there a u q
    exact ⟨z, by show upd w'.H A o' a = some z; rw [upd_ne (ne_of_none q hA)]; exact e2⟩
/-- it may be frozen -/
theorem SR.outF {w w1 : Wd} {hs : Hs} {A : Addr} {o : HO} (S : SR c w hs) (l : w1.le w) (h1 : w1.H A = none) (e : w.H A = some o) (n : A ∉ w.ρ) (f : w.F A = none) : w1.le ⟨w.ρ, upd w.F A o, w.H⟩ ∧ SR c ⟨w.ρ, upd w.F A o, w.H⟩ hs := by
  have e1 : ∀ x u, w.F x = some u → upd w.F A o x = some u := fun x u q => by rw [upd_ne (ne_of_none q f)]; exact q
  refine ⟨⟨l.pre, fun x u q => e1 x u (l.sub x u q), l.keep, l.there, fun x u q => ?_⟩, ⟨fun x u q => ?_, S.len, S.nd, fun i x u q1 q2 d => ?_, fun i x u q1 q2 => ?_⟩⟩
  · have q' : upd w.F A o x = some u := q
    by_cases z : x = A
    · subst z; exact .inr (.inl h1)
    · rw [upd_ne z] at q'; exact l.newF x u q'
  · have q' : upd w.F A o x = some u := q
    by_cases z : x = A
    · subst z; rw [upd_same] at q'; cases q'; exact e
    · rw [upd_ne z] at q'; exact S.sub x u q'
  · show upd w.F A o x = none
    rw [upd_ne (fun z : x = A => n (by rw [← z]; exact List.mem_of_getElem? q1))]
    exact S.fr i x u q1 q2 d
  · obtain ⟨ho, z1, z2⟩ := S.ob i x u q1 q2
    exact ⟨ho, z1, z2.mono ⟨[], by simp⟩ e1⟩
theorem lc_sound {own : List Nat} {g : MG} {mt : MT} {me : M} {J : It} {k : Option (Nat × List D)} {ds : List D} {w1 : Wd} {h1 : Hs} {fs : Fs} {σ : L2.St} {Q : VK} {E : XK}
    (sJ : SrcOk c J w1 ds k) (S1 : SR c w1 h1) (E1 : RE c w1 fs σ)
    (h : PostG c w1 ((lcL k g mt me (wipe fs own) ds [] h1).bind fun ys h2 => .ok (D.l ys) h2) (fun d _ w' => ∀ v, Rp c w'.ρ w'.F d v → Q v w'.H) E)
    (A : Addr) (hA : w1.H A = none) : ∃ Wi : Nat → Nat → Hp → Prop, (∃ m, Wi 0 m (upd w1.H A (.lst []))) ∧ ∀ i m H, Wi i m H →
      (J.stop i H ∧ Q (.ref A) H) ∨ (J.go i H ∧ ∃ Nx : Hp → Prop, (∀ H', Nx H' → ∃ m', m' < m ∧ Wi (i + 1) m' H') ∧ ∀ x H', J.yld i H x H' → gMo c own g x (L2.wipe σ own) H' fun σ2 H2 => L2.wipe σ2 own = L2.wipe σ own ∧ tMs c W0 mt σ2 H2 fun b H3 =>
        if b = true then tM c W0 me σ2 H3 fun y H4 => ∃ acc, H4 A = some (.lst acc) ∧ acc.length < sizeLine ∧ Nx (upd H4 A (.lst (acc ++ [y]))) else Nx H3) := by
  obtain ⟨l0, S0⟩ := S1.heap (H' := upd w1.H A (.lst [])) fun a o q => by rw [upd_ne (ne_of_none q hA)]; exact q
  let Inv (i : Nat) (H : Hp) (w : Wd) (acc : List D) (hs : Hs) : Prop := w1.le w ∧ w.H = H ∧ SR c w hs ∧ (∃ vs, w.H A = some (.lst vs) ∧ Rps c w.ρ w.F acc vs) ∧ A ∉ w.ρ ∧ w.F A = none ∧ i ≤ ds.length ∧
    PostG c w1 ((lcL k g mt me (wipe fs own) (ds.drop i) acc hs).bind fun ys h2 => .ok (D.l ys) h2) (fun d _ w' => ∀ v, Rp c w'.ρ w'.F d v → Q v w'.H) E
  refine ⟨fun i m H => m = ds.length - i ∧ ∃ w acc hs, Inv i H w acc hs, ⟨_, rfl, _, [], h1, l0, rfl, S0, ⟨[], upd_same, Rps.nil⟩, S1.new hA, S1.newF hA, Nat.zero_le _, h⟩, ?_⟩
  rintro i m H ⟨rfl, w, acc, hs, lw, rfl, S, ⟨vs, eA, rA⟩, nA, nF, hi, q⟩
  by_cases hil : i < ds.length
  · have ed : ds.drop i = ds[i] :: ds.drop (i + 1) := List.drop_eq_getElem_cons hil
    rw [ed] at q
    unfold lcL at q
    by_cases hst : stands k hs
    · rw [if_pos hst] at q
      obtain ⟨hgo, hy⟩ := sJ.go i ds[i] w hs lw S hst (List.getElem?_eq_getElem hil)
      refine .inr ⟨hgo, fun H' => ∃ w' acc' hs', Inv (i + 1) H' w' acc' hs', fun H' z => ⟨ds.length - (i + 1), by omega, rfl, z⟩, fun x H' hx => ?_⟩
      obtain ⟨w2, l2, rfl, S2, r2⟩ := hy x H' hx
      have E2 : RE c w2 (wipe fs own) (L2.wipe σ own) := ((E1.le lw).le l2).wipe own
      refine ⟨w2, wipe fs own, hs, ds[i], rfl, S2, E2, r2, ?_⟩
      cases zg : g ds[i] (wipe fs own) hs with
      | exc x p h3 => rw [zg] at q; exact q.elim
      | bad => rw [zg] at q; exact q.elim
      | ok fs' h3 =>
        rw [zg] at q
        simp only [R.bindN_ok] at q
        refine fun w3 l3 S3 σ' E3 hw => ⟨?_, w3, fs', h3, rfl, S3, E3, ?_⟩
        · rw [hw]
          apply List.ext_getElem?
          intro j
          rw [wipe_get, wipe_get, L2.wipe_length]
          by_cases hj : j ∈ own ∧ j < σ.length
          · simp [hj]
          · simp [hj]
        · cases zt : mt fs' h3 with
          | exc x p h4 => rw [zt] at q; exact q.elim
          | bad => rw [zt] at q; exact q.elim
          | ok b h4 =>
            rw [zt] at q
            simp only [R.bindN_ok] at q
            refine fun w4 l4 S4 => ?_
            have l24 : w.le w4 := (l2.trans l3).trans l4
            obtain ⟨eA4, nA4, nF4⟩ := le_out l24 eA nA nF
            cases b with
            | false => exact ⟨w4, acc, h4, lw.trans l24, rfl, S4, ⟨vs, eA4, rA.le l24⟩, nA4, nF4, hil, q⟩
            | true =>
              simp only [if_true] at q ⊢
              refine ⟨w4, fs', h4, rfl, S4, E3.le l4, ?_⟩
              cases ze : me fs' h4 with
              | exc x p h5 => rw [ze] at q; exact q.elim
              | bad => rw [ze] at q; exact q.elim
              | ok y h5 =>
                rw [ze] at q
                simp only [R.bindN_ok] at q
                refine fun w5 l5 S5 v5 r5 => ?_
                have l25 : w.le w5 := l24.trans l5
                obtain ⟨eA5, nA5, nF5⟩ := le_out l25 eA nA nF
                by_cases hz : acc.length < 100000
                · rw [if_pos hz] at q
                  exact ⟨vs, eA5, by rw [rA.length]; exact sz_lt hz, ⟨w5.ρ, w5.F, upd w5.H A (.lst (vs ++ [v5]))⟩, acc ++ [y], h5, le_swap (lw.trans l25) hA eA5 nA5 _, rfl, S5.out eA5 nA5 nF5, ⟨_, upd_same, ((rA.le l25).append (Rps.one r5))⟩, nA5, nF5, hil, q⟩
                · rw [if_neg hz] at q
                  exact q.elim
    · rw [if_neg hst] at q
      exact q.elim
  · have e0 : i = ds.length := by omega
    subst e0
    rw [List.drop_length] at q
    unfold lcL at q
    by_cases hst : stands k hs
    · rw [if_pos hst] at q
      refine .inl ⟨sJ.stop w hs lw S hst, ?_⟩
      obtain ⟨l, S'⟩ := S.outF lw hA eA nA nF
      exact q _ l S' (.ref A) (rp_l (rA.mono ⟨[], by simp⟩ fun x u q => by show upd w.F A _ x = some u; rw [upd_ne (ne_of_none q nF)]; exact q) upd_same)
    · rw [if_neg hst] at q
      exact q.elim
variable {elt tg iter : Expr} {ifs : List Expr} {scope : Scope} {own : List (Str × Nat)} {src : MI} {g : MG} {mt : MT}
theorem je_lc (hc : X.calm = true) (hN : X.N.Nodup) (hi : JI c X W tg iter src) (ok : BlkOk X.N X.env.scope scope own)
    (hg : ∀ (s : Shared) (H : Hp) (C : Addr) (cl : List (Str × Addr)) (fp : List Addr), JGo c (X.blk s H scope (compEnvC scope cl C X.env) fp) (own.map (·.2)) tg g)
    (ht : ∀ (s : Shared) (H : Hp) (C : Addr) (cl : List (Str × Addr)) (fp : List Addr), JTs c (X.blk s H scope (compEnvC scope cl C X.env) fp) W0 ifs mt)
    (he : ∀ (s : Shared) (H : Hp) (C : Addr) (cl : List (Str × Addr)) (fp : List Addr), JE c (X.blk s H scope (compEnvC scope cl C X.env) fp) W0 elt ma) (hs : ∀ x, foldedSetIterable iter X.env x = pure x := by intro _; rfl) :
    JE c X W (.ListComp elt [⟨tg, iter, ifs, 0⟩] scope pos) (eLc (own.map (·.2)) src g mt ma) := by
  obtain ⟨wi, pi, si⟩ := hi.ex
  refine ⟨_, pe_lc hc hN pi ok (fun s H C cl fp => (hg s H C cl fp).pg) (fun s H C cl fp => (ht s H C cl fp).pts) (fun s H C cl fp => (he s H C cl fp).pe) hs, fun w fs hs σ Q S E h => ?_⟩
  refine si w fs hs σ _ S E (h.bind.imp fun p h1 w1 l1 S1 p1 J sJ => fun A hA => ?_)
  exact lc_sound sJ S1 (E.le l1) p1 A hA
/-- y = [..] -/
theorem js_setLc (i : Nat) {y : Str} {py : Pos} {spos : Pos} (hc : X.calm = true) (hN : X.N.Nodup) (hi : JI c X W tg iter src) (ok : BlkOk X.N X.env.scope scope own)
    (hg : ∀ (s : Shared) (H : Hp) (C : Addr) (cl : List (Str × Addr)) (fp : List Addr), JGo c (X.blk s H scope (compEnvC scope cl C X.env) fp) (own.map (·.2)) tg g)
    (ht : ∀ (s : Shared) (H : Hp) (C : Addr) (cl : List (Str × Addr)) (fp : List Addr), JTs c (X.blk s H scope (compEnvC scope cl C X.env) fp) W0 ifs mt)
    (he : ∀ (s : Shared) (H : Hp) (C : Addr) (cl : List (Str × Addr)) (fp : List Addr), JE c (X.blk s H scope (compEnvC scope cl C X.env) fp) W0 elt ma)
    (hsw : swapsWith (.ListComp elt [⟨tg, iter, ifs, 0⟩] scope pos) (some (.Name y py)) spos.line X.env = pure true)
    (hy : X.N[i]? = some y := by rfl) (hyl : X.env.scope.names.lookup y = some .local := by rfl) (hs : ∀ x, foldedSetIterable iter X.env x = pure x := by intro _; rfl) :
    JS c X W (.Assign [.Name y py] (.ListComp elt [⟨tg, iter, ifs, 0⟩] scope pos) spos) (sAsg (eLc (own.map (·.2)) src g mt ma) (Mm.gName i)) := by
  obtain ⟨wi, pi, si⟩ := hi.ex
  refine ⟨_, ps_setLc hc hN hy hyl hsw pi ok (fun s H C cl fp => (hg s H C cl fp).pg) (fun s H C cl fp => (ht s H C cl fp).pts) (fun s H C cl fp => (he s H C cl fp).pe) hs, fun w fs hs σ De S E h => ?_⟩
  have h2 := (PostS.bindS h E).bind
  refine si w fs hs σ _ S E (h2.imp fun p h1 w1 l1 S1 p1 J sJ => fun A hA => ?_)
  exact lc_sound (Q := fun v H => De.nx (σ.set i (some v)) H) sJ S1 (E.le l1) (p1.imp fun d h2 w2 l2 S2 p2 v r => p2 w2 _ (Wd.le.refl w2) S2 (((E.le l1).le l2).set r)) A hA
end
end Mm
namespace Mm
open PySem PySem.Spec PyProof.Rows L2
section
variable {c : Ct} {ρ ρ' : List Addr} {F F' : Hp}
mutual
theorem Rp.closed : ∀ {d : D} {v : V}, Rp c ρ F d v → closed ρ.length d = true
  | .non, _, _ => rfl
  | .bl _, _, _ => rfl
  | .int _, _, _ => rfl
  | .str _, _, _ => rfl
  | .t ds, _, h => by unfold Rp at h; obtain ⟨a, vs, e, q, r⟩ := h; unfold Mm.closed; exact Rps.closed r
  | .l ds, _, h => by unfold Rp at h; obtain ⟨a, vs, e, q, r⟩ := h; unfold Mm.closed; exact Rps.closed r
  | .st ds, _, h => by unfold Rp at h; obtain ⟨a, vs, e, q, r⟩ := h; unfold Mm.closed; exact Rps.closed r
  | .rt ds, _, h => by unfold Rp at h; obtain ⟨a, vs, e, q, r⟩ := h; unfold Mm.closed; exact Rps.closed r
  | .rl ds, _, h => by unfold Rp at h; obtain ⟨a, vs, e, q, r⟩ := h; unfold Mm.closed; exact Rps.closed r
  | .dk ks ds, _, h => by unfold Rp at h; obtain ⟨a, vs, e, q, z, r⟩ := h; unfold Mm.closed; exact Rps.closed r
  | .loc n, _, h => by unfold Rp at h; obtain ⟨a, e, q⟩ := h; unfold Mm.closed; exact decide_eq_true (List.getElem?_eq_some_iff.mp q).1
  | .g _, _, _ => rfl
  | .ty _, _, _ => rfl
  | .fn _, _, _ => rfl
theorem Rps.closed : ∀ {ds : List D} {vs : List V}, Rps c ρ F ds vs → closedL ρ.length ds = true
  | [], _, _ => rfl
  | d :: ds, vs, h => by
    unfold Rps at h
    obtain ⟨v, r, e, h1, h2⟩ := h
    unfold closedL
    rw [Rp.closed h1, Rps.closed h2]; rfl
end
mutual
theorem closed_mono {m n : Nat} (h : m ≤ n) : ∀ {d : D}, closed m d = true → closed n d = true
  | .non, _ => rfl
  | .bl _, _ => rfl
  | .int _, _ => rfl
  | .str _, _ => rfl
  | .t ds, q => by unfold Mm.closed at q ⊢; exact closedL_mono h q
  | .l ds, q => by unfold Mm.closed at q ⊢; exact closedL_mono h q
  | .st ds, q => by unfold Mm.closed at q ⊢; exact closedL_mono h q
  | .rt ds, q => by unfold Mm.closed at q ⊢; exact closedL_mono h q
  | .rl ds, q => by unfold Mm.closed at q ⊢; exact closedL_mono h q
  | .dk ks ds, q => by unfold Mm.closed at q ⊢; exact closedL_mono h q
  | .loc k, q => by unfold Mm.closed at q ⊢; exact decide_eq_true (Nat.lt_of_lt_of_le (of_decide_eq_true q) h)
  | .g _, _ => rfl
  | .ty _, _ => rfl
  | .fn _, _ => rfl
theorem closedL_mono {m n : Nat} (h : m ≤ n) : ∀ {ds : List D}, closedL m ds = true → closedL n ds = true
  | [], _ => rfl
  | d :: ds, q => by
    unfold closedL at q ⊢
    obtain ⟨q1, q2⟩ := Bool.and_eq_true_iff.mp q
    rw [closed_mono h q1, closedL_mono h q2]; rfl
end
theorem closedO_mono {m n : Nat} (h : m ≤ n) {o : O} (q : closedO m o = true) : closedO n o = true := by
  cases o with
  | lst ds => exact closedL_mono h q
  | dk kvs => exact closedL_mono h q
  | dt kvs => exact closedL_mono h q
  | lt kvs ho => exact closedL_mono h q
  | ins x fs => exact closedL_mono h q
  | tb x cs fs vs =>
    obtain ⟨q1, q2⟩ := Bool.and_eq_true_iff.mp (show (decide (1 < m) && closedL m (fs.filterMap id)) = true from q)
    exact Bool.and_eq_true_iff.mpr ⟨decide_eq_true (Nat.lt_of_lt_of_le (of_decide_eq_true q1) h), closedL_mono h q2⟩
  | dead => rfl
theorem closedL_allM {n : Nat} : ∀ {ds : List D}, (∀ d ∈ ds, closed n d = true) → closedL n ds = true
  | [], _ => rfl
  | d :: ds, h => by
    unfold closedL
    rw [h d List.mem_cons_self, closedL_allM fun x hx => h x (List.mem_cons_of_mem _ hx)]; rfl
theorem closedL_memM {n : Nat} : ∀ {ds : List D}, closedL n ds = true → ∀ d ∈ ds, closed n d = true
  | [], _, _, h => by cases h
  | x :: ds, q, d, h => by
    unfold closedL at q
    obtain ⟨q1, q2⟩ := Bool.and_eq_true_iff.mp q
    rcases List.mem_cons.mp h with rfl | h
    · exact q1
    · exact closedL_memM q2 d h
theorem fs_mem {fs : List (Option D)} {d : D} (h : d ∈ fs.filterMap id) : ∃ i : Nat, fs[i]? = some (some d) := by
  obtain ⟨o, ho, e⟩ := List.mem_filterMap.mp h
  obtain ⟨i, hi⟩ := List.mem_iff_getElem?.mp ho
  exact ⟨i, by rw [hi, show o = some d from e]⟩
theorem mem_fs {fs : List (Option D)} {d : D} {i : Nat} (h : fs[i]? = some (some d)) : d ∈ fs.filterMap id :=
  List.mem_filterMap.mpr ⟨some d, List.mem_iff_getElem?.mpr ⟨i, h⟩, rfl⟩
theorem RO.closed {o : O} {ho : HO} (r : RO c ρ F o ho) : closedO ρ.length o = true := by
  cases o with
  | lst ds => obtain ⟨vs, e, r⟩ := r; exact r.closed
  | dk kvs => obtain ⟨us, e, k, r⟩ := r; exact r.closed
  | dt kvs => obtain ⟨us, e, k, r⟩ := r; exact r.closed
  | lt kvs ho0 => obtain ⟨e0, od, us, e, k, r⟩ := r; exact r.closed
  | ins x fs => obtain ⟨dx, us, e, k, r⟩ := r; exact r.closed
  | tb x cs fs vs =>
    obtain ⟨e, _, _, _, r⟩ := r
    refine Bool.and_eq_true_iff.mpr ⟨decide_eq_true (List.getElem?_eq_some_iff.mp e).1, closedL_allM fun d hd => ?_⟩
    obtain ⟨i, hi⟩ := fs_mem hd
    obtain ⟨v, _, z⟩ := r i d hi
    exact z.closed
  | dead => rfl
mutual
theorem Rp.shrink {m : Nat} : ∀ {d : D} {v : V}, closed m d = true → Rp c ρ F d v → Rp c (ρ.take m) F d v
  | .non, _, _, h => h
  | .bl _, _, _, h => h
  | .int _, _, _, h => h
  | .str _, _, _, h => h
  | .t ds, _, q, h => by unfold Rp at h ⊢; unfold Mm.closed at q; obtain ⟨a, vs, e, z, r⟩ := h; exact ⟨a, vs, e, z, Rps.shrink q r⟩
  | .l ds, _, q, h => by unfold Rp at h ⊢; unfold Mm.closed at q; obtain ⟨a, vs, e, z, r⟩ := h; exact ⟨a, vs, e, z, Rps.shrink q r⟩
  | .st ds, _, q, h => by unfold Rp at h ⊢; unfold Mm.closed at q; obtain ⟨a, vs, e, z, r⟩ := h; exact ⟨a, vs, e, z, Rps.shrink q r⟩
  | .rt ds, _, q, h => by unfold Rp at h ⊢; unfold Mm.closed at q; obtain ⟨a, vs, e, z, r⟩ := h; exact ⟨a, vs, e, z, Rps.shrink q r⟩
  | .rl ds, _, q, h => by unfold Rp at h ⊢; unfold Mm.closed at q; obtain ⟨a, vs, e, z, r⟩ := h; exact ⟨a, vs, e, z, Rps.shrink q r⟩
  | .dk ks ds, _, q, h => by unfold Rp at h ⊢; unfold Mm.closed at q; obtain ⟨a, vs, e, z, y, r⟩ := h; exact ⟨a, vs, e, z, y, Rps.shrink q r⟩
  | .loc n, _, q, h => by
    unfold Rp at h ⊢
    unfold Mm.closed at q
    obtain ⟨a, e, z⟩ := h
    exact ⟨a, e, by rw [List.getElem?_take_of_lt (of_decide_eq_true q)]; exact z⟩
  | .g _, _, _, h => h
  | .ty _, _, _, h => h
  | .fn _, _, _, h => h
theorem Rps.shrink {m : Nat} : ∀ {ds : List D} {vs : List V}, closedL m ds = true → Rps c ρ F ds vs → Rps c (ρ.take m) F ds vs
  | [], _, _, h => h
  | d :: ds, vs, q, h => by
    unfold closedL at q
    obtain ⟨q1, q2⟩ := Bool.and_eq_true_iff.mp q
    unfold Rps at h ⊢
    obtain ⟨v, r, e, h1, h2⟩ := h
    exact ⟨v, r, e, Rp.shrink q1 h1, Rps.shrink q2 h2⟩
end
theorem RO.shrink {m : Nat} {o : O} {ho : HO} (q : closedO m o = true) (r : RO c ρ F o ho) : RO c (ρ.take m) F o ho := by
  cases o with
  | lst ds => obtain ⟨vs, e, r⟩ := r; exact ⟨vs, e, r.shrink q⟩
  | dk kvs => obtain ⟨us, e, k, r⟩ := r; exact ⟨us, e, k, r.shrink q⟩
  | dt kvs => obtain ⟨us, e, k, r⟩ := r; exact ⟨us, e, k, r.shrink q⟩
  | lt kvs ho0 => obtain ⟨e0, od, us, e, k, r⟩ := r; exact ⟨e0, od, us, e, k, r.shrink q⟩
  | ins x fs => obtain ⟨dx, us, e, k, r⟩ := r; exact ⟨dx, us, e, k, r.shrink q⟩
  | tb x cs fs vs =>
    obtain ⟨e, kc, t, l, r⟩ := r
    unfold closedO at q
    obtain ⟨q1, q2⟩ := Bool.and_eq_true_iff.mp q
    refine ⟨by rw [List.getElem?_take_of_lt (of_decide_eq_true q1)]; exact e, kc, t, l, fun i d hi => ?_⟩
    obtain ⟨v, z1, z2⟩ := r i d hi
    exact ⟨v, z1, z2.shrink (closedL_memM q2 d (mem_fs hi))⟩
  | dead => trivial
end
theorem take_get {α : Type} {l : List α} {m i : Nat} {x : α} (h : (l.take m)[i]? = some x) : i < m ∧ l[i]? = some x := by
  rw [List.getElem?_take] at h
  split at h
  · rename_i hi; exact ⟨hi, h⟩
  · cases h
/-- what a def has made is forgotten -/
theorem trim_world {c : Ct} {w w' : Wd} {hs hs' : Hs} {m : Nat} (S : SR c w hs) (l : w.le w') (S' : SR c w' hs') (T : Trims hs hs' m) : w.le ⟨w'.ρ.take m, w'.F, w'.H⟩ ∧ SR c ⟨w'.ρ.take m, w'.F, w'.H⟩ (hs'.take m) := by
  obtain ⟨h1, h2, h3⟩ := T
  obtain ⟨s, es, ns⟩ := l.pre
  have hm : w.ρ.length ≤ m := by rw [S.len]; exact h1
  refine ⟨⟨⟨s.take (m - w.ρ.length), ?_, fun a ha => ns a (List.mem_of_mem_take ha)⟩, l.sub, l.keep, l.there, l.newF⟩, ⟨S'.sub, ?_, ?_, fun i a o q1 q2 d => ?_, fun i a o q1 q2 => ?_⟩⟩
  · show w'.ρ.take m = w.ρ ++ s.take (m - w.ρ.length)
    rw [es, List.take_append]
    rw [List.take_of_length_le hm]
  · show (w'.ρ.take m).length = (hs'.take m).length
    rw [List.length_take, List.length_take, S'.len]
  · exact List.Sublist.nodup (List.take_sublist _ _) S'.nd
  · obtain ⟨i1, e1⟩ := take_get q1
    obtain ⟨_, e2⟩ := take_get q2
    exact S'.fr i a o e1 e2 d
  · obtain ⟨i1, e1⟩ := take_get q1
    obtain ⟨_, e2⟩ := take_get q2
    obtain ⟨ho, z1, z2⟩ := S'.ob i a o e1 e2
    refine ⟨ho, z1, z2.shrink ?_⟩
    rcases h3 i i1 with q | ⟨o', q, k⟩
    · rw [e2] at q
      have hi : i < w.ρ.length := by rw [S.len]; exact (List.getElem?_eq_some_iff.mp q.symm).1
      obtain ⟨ho', _, r⟩ := S.ob i w.ρ[i] o (List.getElem?_eq_getElem hi) q.symm
      exact closedO_mono hm r.closed
    · rw [e2] at q
      cases q
      exact k
/-- the promise of a def, by its mirror -/
def SpC (c : Ct) (cf : List D → Hs → R D) : Sp := fun vs H Q E => ∃ ρ F hs ds, SR c ⟨ρ, F, H⟩ hs ∧ Rps c ρ F ds vs ∧ Post c ⟨ρ, F, H⟩ (cf ds hs) Q E
theorem start_re {c : Ct} {w : Wd} {n : Nat} {N : List Str} {ds : List D} {vs : List V} (hN : N.length = n) (r : Rps c w.ρ w.F ds vs) : RE c w (Mm.start n ds) (L2.start N vs) := by
  unfold Mm.start L2.start
  refine ⟨by simp [r.length, hN], fun i d e => ?_⟩
  by_cases hi : i < ds.length
  · rw [List.getElem?_append_left (by simpa using hi), List.getElem?_map] at e
    cases q : ds[i]? with
    | none => rw [q] at e; cases e
    | some x =>
      rw [q] at e
      cases e
      obtain ⟨v, z1, z2⟩ := r.get q
      exact ⟨v, by rw [List.getElem?_append_left (by rw [List.length_map, r.length]; exact hi), List.getElem?_map, z1]; rfl, z2⟩
  · rw [List.getElem?_append_right (by simpa using hi)] at e
    have := List.mem_of_getElem? e
    simp at this
section
variable {P : Program} {pw : World} {K : PySem.W.Frag} {mg : Str → Option Value} {base : Heap} {x qual : Str} {params : Arguments} {body : List Stmt} {scope : Scope} {dvs : List V} {kws : List (Str × V)} {f : Addr} {fd : FuncData} {c : Ct}
/-- A DEF keeps its mirror's promise -/
theorem def_ok {N ps : List Str} {k : Nat} (np n kk : Nat) {m : MS} (Fd : FunD K x qual params body scope dvs kws f fd) (S : FnScope N ps scope) (hps : ps.length = np) (hN : N.length = n)
    (hb : ∀ (cdv : Value) (A : Around) (outer : List Env) (s : Shared) (H : Hp) (E : XK), Room k (A.deeper (envOfC qual scope s.heap.objs.size f cdv)) →
      JSs c (cxOf (L2.CX P pw) P pw K mg base N qual scope f cdv A outer s H E) (fun cls d _ H => E cls d H) body m) :
    FnOk P pw K mg base (L2.CX P pw) (k + 1) f fd ps (SpC c (callD np n kk m)) := by
  refine Fd.ok S (fun vs H Q E h => ?_) (fun cdv A outer s H vs Q E hr h => ?_)
  · obtain ⟨ρ, F, hs, ds, S, r, p⟩ := h
    unfold callD at p
    split at p
    · rename_i hl
      rw [r.length, hl, hps]
    · exact p.elim
  · obtain ⟨ρ, F, hs, ds, S, r, p⟩ := h
    obtain ⟨t, pt, st⟩ := (hb cdv A outer s H E hr).ex
    refine ⟨t, pt, ?_⟩
    refine st ⟨ρ, F, H⟩ (Mm.start n ds) hs (L2.start N vs) _ S (start_re (w := ⟨ρ, F, H⟩) hN r) ?_
    unfold callD at p
    split at p
    · unfold runD at p
      have okc : ∀ (d : D) (h' : Hs), (m (Mm.start n ds) hs).toR = .ok d h' → ∀ (w' : Wd) (v : V), (⟨ρ, F, H⟩ : Wd).le w' → SR c w' h' → Rp c w'.ρ w'.F d v → Q v w'.H := fun d h' e w' v l S' rv => by
        rw [e] at p
        by_cases hc : Mm.closed (hs.length + kk) d = true ∧ Trims hs h' (hs.length + kk)
        · have e2 : trim kk hs (.ok d h') = .ok d (h'.take (hs.length + kk)) := by unfold trim; exact if_pos hc
          rw [e2] at p
          obtain ⟨l2, S2⟩ := trim_world S l S' hc.2
          exact p _ l2 S2 v (rv.shrink hc.1)
        · have e2 : trim kk hs (.ok d h') = .bad := by unfold trim; exact if_neg hc
          rw [e2] at p
          exact p.elim
      cases e : m (Mm.start n ds) hs with
      | nx fs' h' => exact fun w' σ' l S' E' => okc .non h' (by rw [e]; rfl) w' .non l S' rfl
      | ret d h' => exact fun w' v l S' rv => okc d h' (by rw [e]; rfl) w' v l S' rv
      | brk fs' h' => rw [e] at p; exact p.elim
      | cnt fs' h' => rw [e] at p; exact p.elim
      | bad => rw [e] at p; exact p.elim
      | exc x q fs' h' =>
        rw [e] at p
        by_cases hc : Mm.closed hs.length q = true ∧ Trims hs h' hs.length
        · have e2 : trim kk hs (RS.exc x q fs' h').toR = .exc x q (h'.take hs.length) := by unfold RS.toR trim; exact if_pos hc
          rw [e2] at p
          refine fun w' od σ' l S' E' z => ?_
          obtain ⟨l2, S2⟩ := trim_world S l S' hc.2
          refine (fun z2 => p ⟨w'.ρ.take hs.length, w'.F, w'.H⟩ od l2 S2 z2) ?_
          rcases z with ⟨e1, e2⟩ | ⟨dd, fl, d, v, e1, e2, e3, e4⟩
          · exact .inl ⟨e1, e2⟩
          · refine .inr ⟨dd, fl, d, v, e1, e2, e3, e4.shrink ?_⟩
            have h1 := hc.1
            rw [e2] at h1
            unfold Mm.closed closedL closedL at h1
            obtain ⟨_, h2⟩ := Bool.and_eq_true_iff.mp h1
            exact (Bool.and_eq_true_iff.mp h2).1
        · have e2 : trim kk hs (RS.exc x q fs' h').toR = .bad := by unfold RS.toR trim; exact if_neg hc
          rw [e2] at p
          exact p.elim
    · exact p.elim
end
section
variable {c : Ct} {X : Cx} {W : WX} {e : Expr} {es : List Expr} {mas : MA} {pos p : Pos} {x : Str} {f : Addr} {fd : FuncData} {ps : List Str} {k : Nat} {cf : List D → Hs → R D}
/-- what leaves a callee is wished for -/
def Pz (X : Cx) (W : WX) : Prop := ∀ σ, PassesAt (L2.CX X.prog X.w) X σ (WE W σ)
theorem pz_of (tk : Takes X W) : Pz X W := fun σ => passAt tk σ
theorem pz_0 : Pz X W0 := fun _ _ _ _ _ _ _ z => by
  obtain ⟨_, _, _, _, _, _, _, _, _, _, _, _, q⟩ := z
  exact q.elim
theorem je_call (G : FnOk X.prog X.w X.K X.mg X.base (L2.CX X.prog X.w) k f fd ps (SpC c cf)) (hr : Room k X.A) (hm : X.mg x = some (.ref f)) (hk : PySem.W.keepIn X.K (.ref f) = true) (hb : Binds X.K fd ps []) (hx : Pz X W) (hg : Gl X x)
    (ha : JA c X W (e :: es) mas) (hdb : (x == ("__debug__" : Str)) = false := by decide) (he : starEach (e :: es) X.env = (false, eval e X.env) :: starEach es X.env := by rfl) (hpl : (backTo pos (starEach es X.env)).any (·.1) = false := by rfl) :
    JE c X W (.Call (.Name x p) (e :: es) [] pos) (eArgs cf mas) := by
  obtain ⟨ta, pa, sa⟩ := ha.ex
  refine ⟨_, pe_callS G hr hg hm hk hb hx pa hdb he hpl, fun w fs hs σ Q S E h => ?_⟩
  refine sa w fs hs σ _ S E (h.bind.imp fun ds h1 w1 l1 S1 p1 vs rs => ?_)
  exact ⟨w1.ρ, w1.F, h1, ds, S1, rs, p1⟩
end
end Mm
namespace Mm
def sOk (x : Str) : Bool := x.cps.all (· < 0x110000)
mutual
/-- plain data, not deeper than n -/
def okd (n : Nat) : D → Bool
  | .non => true
  | .bl _ => true
  | .int _ => true
  | .str s => sOk s
  | .t ds => okL n ds
  | .st ds => okL n ds
  | .l ds => okL n ds
  | _ => false
def okL (n : Nat) : List D → Bool
  | [] => decide (0 < n)
  | d :: ds => (match n with
    | 0 => false
    | k + 1 => okd k d) && okL n ds
end
mutual
/-- Python's == of plain data -/
def deq : D → D → Bool
  | .non, .non => true
  | .bl a, .bl b => a == b
  | .bl a, .int j => (if a then 1 else 0) == j
  | .int i, .bl b => i == (if b then 1 else 0)
  | .int i, .int j => i == j
  | .str x, .str y => x == y
  | .l xs, .l ys => deqL xs ys
  | .t xs, .t ys => deqL xs ys
  | .t xs, .st ys => deqL xs ys
  | .st xs, .t ys => deqL xs ys
  | .st xs, .st ys => deqL xs ys
  | _, _ => false
def deqL : List D → List D → Bool
  | [], [] => true
  | x :: xs, y :: ys => deq x y && deqL xs ys
  | _, _ => false
end
/-- a tracked list by its items -/
def res (d : D) (hs : Hs) : D := match d with
  | .loc n => match hs[n]? with
    | some (.lst ds) => .l ds
    | _ => .loc n
  | d => d
def dictOf (d : D) (hs : Hs) : Option (List (Key × D)) := match d with
  | .dk ks ds => some (ks.zip ds)
  | .loc n => match hs[n]? with
    | some (.dk kvs) => some kvs
    | _ => none
  | _ => none
/-- == where one side is the empty dict -/
def emD (x y : D) (hs : Hs) : Option Bool := match dictOf x hs, dictOf y hs with
  | some a, some [] => some a.isEmpty
  | _, _ => none
def eqB (x y : D) (hs : Hs) : Option Bool := if (okd 60 (res x hs) && okd 60 (res y hs)) = true then some (deq (res x hs) (res y hs)) else emD x y hs
def vEq (x y : D) (hs : Hs) : R D := match eqB x y hs with
  | some b => .ok (.bl b) hs
  | none => .bad
def vNe (x y : D) (hs : Hs) : R D := match eqB x y hs with
  | some b => .ok (.bl (!b)) hs
  | none => .bad
def isNon : D → Bool
  | .non => true
  | _ => false
/-- is None: of what is no global -/
def vIsN (x _ : D) (hs : Hs) : R D := .ok (.bl (isNon x)) hs
mutual
def dlt : D → D → Bool
  | .int i, .int j => decide (i < j)
  | .bl a, .bl b => decide ((if a then 1 else 0 : Int) < (if b then 1 else 0))
  | .str x, .str y => decide (x.cps.toList < y.cps.toList)
  | .l xs, .l ys => dltL xs ys
  | .t xs, .t ys => dltL xs ys
  | .t xs, .st ys => dltL xs ys
  | .st xs, .t ys => dltL xs ys
  | .st xs, .st ys => dltL xs ys
  | _, _ => false
def dltL : List D → List D → Bool
  | [], [] => false
  | [], _ :: _ => true
  | _ :: _, [] => false
  | x :: xs, y :: ys => if deq x y = true then dltL xs ys else dlt x y
end
mutual
def likeD : D → D → Bool
  | .non, .non => true
  | .bl _, .bl _ => true
  | .int _, .int _ => true
  | .str _, .str _ => true
  | .l xs, .l ys => likeL xs ys
  | .t xs, .t ys => likeL xs ys
  | .t xs, .st ys => likeL xs ys
  | .st xs, .t ys => likeL xs ys
  | .st xs, .st ys => likeL xs ys
  | _, _ => false
def likeL : List D → List D → Bool
  | [], _ => true
  | _ :: _, [] => true
  | x :: xs, y :: ys => likeD x y && likeL xs ys
end
def cmpOk (x y : D) : Bool := okd 60 x && okd 60 y && likeD x y && !isNon x
def vI (f : Int → Int → Bool) (x y : D) (hs : Hs) : R D := match x, y with
  | .int i, .int j => .ok (.bl (f i j)) hs
  | _, _ => .bad
def vLe : D → D → Hs → R D := vI fun i j => decide (i ≤ j)
def vGt : D → D → Hs → R D := vI fun i j => decide (j < i)
def vGe : D → D → Hs → R D := vI fun i j => decide (j ≤ i)
def listOf (d : D) (hs : Hs) : Option (List D) := match d with
  | .l ds => some ds
  | .loc n => match hs[n]? with
    | some (.lst ds) => some ds
    | _ => none
  | _ => none
def vAdd (x y : D) (hs : Hs) : R D := match x, y with
  | .int i, .int j => .ok (.int (i + j)) hs
  | .t ds, .t es => if ds.length + es.length ≤ 100000 then .ok (.t (ds ++ es)) hs else .bad
  | .str a, .str b => if a.length + b.length ≤ 100000 then .ok (.str (a ++ b)) hs else .bad
  | x, y => match listOf x hs, listOf y hs with
    | some ds, some es => if ds.length + es.length ≤ 100000 then .ok (.l (ds ++ es)) hs else .bad
    | _, _ => .bad
def vSub (x y : D) (hs : Hs) : R D := match x, y with
  | .int i, .int j => .ok (.int (i - j)) hs
  | _, _ => .bad
def big : Int := 2 ^ 64
def vMul (x y : D) (hs : Hs) : R D := match x, y with
  | .int i, .int j => if (-big < i ∧ i < big) ∨ (-big < j ∧ j < big) then .ok (.int (i * j)) hs else .bad
  | _, _ => .bad
def vFdiv (x y : D) (hs : Hs) : R D := match x, y with
  | .int i, .int j => if 0 < j ∧ j < 1073741824 then .ok (.int (i / j)) hs else .bad
  | _, _ => .bad
def vMod (x y : D) (hs : Hs) : R D := match x, y with
  | .int i, .int j => if 0 < j then .ok (.int (i % j)) hs else .bad
  | _, _ => .bad
def vPow (x y : D) (hs : Hs) : R D := match x, y with
  | .int i, .int j => if 0 ≤ j ∧ j ≤ 1000 ∧ i.natAbs < 2 ^ 64 then .ok (.int (i ^ j.toNat)) hs else .bad
  | _, _ => .bad
def vNeg (x : D) (hs : Hs) : R D := match x with
  | .int i => .ok (.int (-i)) hs
  | _ => .bad
def keyOf : D → Option Key
  | .int i => some (.inl i)
  | .str s => some (.inr s)
  | _ => none
def keysOf : D → Option (List Key)
  | .t ds => ds.mapM keyOf
  | _ => none
def dget {κ : Type} [DecidableEq κ] : List (κ × D) → κ → Option D
  | [], _ => none
  | p :: r, k => if p.1 = k then some p.2 else dget r k
def dput {κ : Type} [DecidableEq κ] (kvs : List (κ × D)) (k : κ) (v : D) : List (κ × D) :=
  if (kvs.any fun p => decide (p.1 = k)) = true then kvs.map (fun p => if p.1 = k then (p.1, v) else p) else kvs ++ [(k, v)]
def ddrop {κ : Type} [DecidableEq κ] (kvs : List (κ × D)) (k : κ) : List (κ × D) := kvs.filter fun p => decide (p.1 ≠ k)
/-- what a dict holds at a key; none: it isn't one, or the key is none -/
def dlook (x k : D) (hs : Hs) : Option (Option D) := match x with
  | .dk ks ds => (keyOf k).map fun q => dget (ks.zip ds) q
  | .loc n => match hs[n]? with
    | some (.dk kvs) => (keyOf k).map fun q => dget kvs q
    | some (.dt kvs) => (keysOf k).map fun q => dget kvs q
    | some (.lt kvs _) => (keysOf k).map fun q => dget kvs q
    | _ => none
  | _ => none
def vIxD (x k : D) (hs : Hs) : R D := match dlook x k hs with
  | some (some d) => .ok d hs
  | _ => .bad
def sIx (n dflt : Nat) : Option Int → Nat
  | none => dflt
  | some i => if i < 0 then (i + n).toNat else min i.toNat n
def cut (ds : List D) (lo hi : Option Int) : List D := (ds.drop (sIx ds.length 0 lo)).take (sIx ds.length ds.length hi - sIx ds.length 0 lo)
def vSl (x : D) (lo hi : Option Int) (hs : Hs) : R D := match x with
  | .t ds => .ok (.t (cut ds lo hi)) hs
  | x => match listOf x hs with
    | some ds => .ok (.l (cut ds lo hi)) hs
    | none => .bad
def flatD : D → Bool
  | .non => true
  | .bl _ => true
  | .int _ => true
  | .str _ => true
  | _ => false
def inB (x y : D) (hs : Hs) : Option Bool := match y with
  | .t ds => if (flatD x && ds.all flatD) = true then some (ds.any fun z => deq z x) else none
  | .rt ds => if (flatD x && ds.all flatD) = true then some (ds.any fun z => deq z x) else none
  | y => match listOf y hs with
    | some ds => if (okd 60 x && okd 60 (.l ds)) = true then some (ds.any fun z => deq z x) else none
    | none => (dlook y x hs).map Option.isSome
def vIn (x y : D) (hs : Hs) : R D := match inB x y hs with
  | some b => .ok (.bl b) hs
  | none => .bad
def vNotIn (x y : D) (hs : Hs) : R D := match inB x y hs with
  | some b => .ok (.bl (!b)) hs
  | none => .bad
def vLen (ds : List D) (hs : Hs) : R D := match one1 ds with
  | some d => match seqOf d hs with
    | some es => .ok (.int es.length) hs
    | none => .bad
  | none => .bad
def vAbs (ds : List D) (hs : Hs) : R D := match int1 ds with
  | some i => .ok (.int (if i < 0 then -i else i)) hs
  | none => .bad
def seqA (ds : List D) (hs : Hs) : Option (List D) := (one1 ds).bind fun d => seqOf d hs
/-- list(xs): frozen; open -/
def vList (ds : List D) (hs : Hs) : R D := match seqA ds hs with
  | some es => .ok (.l es) hs
  | none => .bad
def vTuple (ds : List D) (hs : Hs) : R D := match one1 ds with
  | some (.t es) => .ok (.t es) hs
  | some d => match listOf d hs with
    | some es => .ok (.t es) hs
    | none => .bad
  | none => .bad
def intsOf : List D → Option (List Int)
  | [] => some []
  | .int i :: r => (intsOf r).map (i :: ·)
  | _ => none
def insI (i : Int) : List Int → List Int
  | [] => [i]
  | j :: r => if i ≤ j then i :: j :: r else j :: insI i r
def sortI : List Int → List Int
  | [] => []
  | i :: r => insI i (sortI r)
/-- the first of the least -/
def leastD (d : D) (ds : List D) : D := ds.foldl (fun a y => if dlt y a = true then y else a) d
def minOk (ds : List D) : Bool := ds.all fun x => (okd 60 x && !isNon x) && ds.all fun y => likeD x y
/-- min(d.values()) -/
def vMinV (d : D) (hs : Hs) : R D := match dictOf d hs with
  | some (x :: xs) => if minOk ((x :: xs).map (·.2)) = true then .ok (leastD x.2 (xs.map (·.2))) hs else .bad
  | _ => .bad
def two2 : List D → Option (D × D)
  | [a, b] => some (a, b)
  | _ => none
theorem two2_some {ds : List D} {p : D × D} (h : two2 ds = some p) : ds = [p.1, p.2] := by
  unfold two2 at h
  split at h
  · cases h; rfl
  · cases h
def vMin2 (ds : List D) (hs : Hs) : R D := match two2 ds with
  | some (a, b) => if (cmpOk a b && cmpOk b a) = true then .ok (if dlt b a = true then b else a) hs else .bad
  | none => .bad
/-- isinstance of a built-in type -/
def isiB (d : D) (T : String) (hs : Hs) : Option Bool := match d with
  | .non => some false
  | .bl _ => some (T == "bool" || T == "int")
  | .int _ => some (T == "int")
  | .str _ => some (T == "str")
  | .t _ => some (T == "tuple")
  | .st _ => some (T == "tuple")
  | .rt _ => some (T == "tuple")
  | .l _ => some (T == "list")
  | .loc n => match hs[n]? with
    | some (.lst _) => some (T == "list")
    | _ => none
  | _ => none
def vIsi (ds : List D) (hs : Hs) : R D := match two2 ds with
  | some (d, .ty T) => match isiB d T hs with
    | some b => if (["bool", "int", "str", "tuple", "list"] : List String).contains T = true then .ok (.bl b) hs else .bad
    | none => .bad
  | _ => .bad
def blsOf : List D → Option (List Bool)
  | [] => some []
  | .bl i :: r => (blsOf r).map (i :: ·)
  | _ => none
def vAll (ds : List D) (hs : Hs) : R D := match ((one1 ds).bind fun d => listOf d hs).bind blsOf with
  | some bs => .ok (.bl (bs.all id)) hs
  | none => .bad
def mAppend (x : D) (ds : List D) (hs : Hs) : R D := match x, one1 ds with
  | .loc n, some d => match hs[n]? with
    | some (.lst es) => if es.length < 100000 then .ok .non (hs.set n (.lst (es ++ [d]))) else .bad
    | _ => .bad
  | _, _ => .bad
/-- xs.pop(i), 0 ≤ i -/
def mPopAt (x : D) (ds : List D) (hs : Hs) : R D := match x, int1 ds with
  | .loc n, some i => match hs[n]? with
    | some (.lst es) => if 0 ≤ i ∧ i ≤ 100000 then (match es[i.toNat]? with
      | some d => .ok d (hs.set n (.lst (es.eraseIdx i.toNat)))
      | none => .bad) else .bad
    | _ => .bad
  | _, _ => .bad
/-- d.pop(k), it is there -/
def mPopK (x : D) (ds : List D) (hs : Hs) : R D := match x, (one1 ds).bind keyOf with
  | .loc n, some k => match hs[n]? with
    | some (.dk kvs) => match dget kvs k with
      | some v => .ok v (hs.set n (.dk (ddrop kvs k)))
      | none => .bad
    | _ => .bad
  | _, _ => .bad
def mGet2 (x : D) (ds : List D) (hs : Hs) : R D := match two2 ds with
  | some (k, z) => match dlook x k hs with
    | some o => .ok (o.getD z) hs
    | none => .bad
  | none => .bad
/-- o[i] = v -/
def setIx (o i v : D) (hs : Hs) : R Unit := match o with
  | .loc n => match hs[n]?, i with
    | some (.lst es), .int k => match ixN es.length k with
      | some j => .ok () (hs.set n (.lst (es.set j v)))
      | none => .bad
    | some (.dk kvs), k => match keyOf k with
      | some q => if kvs.length < 100000 then .ok () (hs.set n (.dk (dput kvs q v))) else .bad
      | none => .bad
    | some (.dt kvs), k => match keysOf k with
      | some q => if kvs.length < 100000 then .ok () (hs.set n (.dt (dput kvs q v))) else .bad
      | none => .bad
    | _, _ => .bad
  | _ => .bad
/-- {} -/
def eDk : M := fun _ hs => .ok (.loc hs.length) (hs ++ [.dk []])
def eDt : M := fun _ hs => .ok (.loc hs.length) (hs ++ [.dt []])
def eDf : M := fun _ hs => .ok (.dk [] []) hs
/-- {k: v}, open -/
def vDisp1 (ds : List D) (hs : Hs) : R D := match two2 ds with
  | some (k, v) => match keyOf k with
    | some q => .ok (.loc hs.length) (hs ++ [.dk [(q, v)]])
    | none => .bad
  | none => .bad
end Mm
namespace Mm
open PySem PySem.Spec PyProof.Rows L2
mutual
def toPy : D → PyData
  | .non => .none
  | .bl b => .bool b
  | .int i => .int i
  | .str s => .str s
  | .t ds => .tuple (toPyL ds)
  | .st ds => .tuple (toPyL ds)
  | .l ds => .list (toPyL ds)
  | _ => .none
def toPyL : List D → List PyData
  | [] => []
  | d :: ds => toPy d :: toPyL ds
end
mutual
theorem okd_py : ∀ {d : D} {n : Nat}, okd n d = true → (toPy d).canLay0 = true ∧ (toPy d).depth ≤ n
  | .non, _, _ => ⟨by simp [toPy, PyData.canLay0], by simp [toPy, PyData.depth]⟩
  | .bl _, _, _ => ⟨by simp [toPy, PyData.canLay0], by simp [toPy, PyData.depth]⟩
  | .int _, _, _ => ⟨by simp [toPy, PyData.canLay0], by simp [toPy, PyData.depth]⟩
  | .str s, _, h => ⟨by simp only [toPy, PyData.canLay0]; exact h, by simp [toPy, PyData.depth]⟩
  | .t ds, n, h => by
    unfold okd at h
    obtain ⟨h1, h2, h3⟩ := okL_py h
    exact ⟨by simp only [toPy, PyData.canLay0]; exact h1, by simp only [toPy, PyData.depth]; omega⟩
  | .st ds, n, h => by
    unfold okd at h
    obtain ⟨h1, h2, h3⟩ := okL_py h
    exact ⟨by simp only [toPy, PyData.canLay0]; exact h1, by simp only [toPy, PyData.depth]; omega⟩
  | .l ds, n, h => by
    unfold okd at h
    obtain ⟨h1, h2, h3⟩ := okL_py h
    exact ⟨by simp only [toPy, PyData.canLay0]; exact h1, by simp only [toPy, PyData.depth]; omega⟩
  | .dk _ _, _, h => by simp [okd] at h
  | .rt _, _, h => by simp [okd] at h
  | .rl _, _, h => by simp [okd] at h
  | .loc _, _, h => by simp [okd] at h
  | .g _, _, h => by simp [okd] at h
  | .ty _, _, h => by simp [okd] at h
theorem okL_py : ∀ {ds : List D} {n : Nat}, okL n ds = true → PyData.canLayAll0 (toPyL ds) = true ∧ PyData.depthAll (toPyL ds) + 1 ≤ n ∧ 0 < n
  | [], n, h => by
    unfold okL at h
    exact ⟨by simp [toPyL, PyData.canLayAll0], by simp [toPyL, PyData.depthAll]; have := of_decide_eq_true h; omega, of_decide_eq_true h⟩
  | d :: ds, 0, h => by simp [okL] at h
  | d :: ds, n + 1, h => by
    unfold okL at h
    obtain ⟨h1, h2⟩ := Bool.and_eq_true_iff.mp h
    obtain ⟨a1, a2⟩ := okd_py (d := d) (n := n) h1
    obtain ⟨b1, b2, b3⟩ := okL_py (ds := ds) h2
    refine ⟨by simp [toPyL, PyData.canLayAll0, a1, b1], ?_, by omega⟩
    simp only [toPyL, PyData.depthAll]
    omega
end
theorem shaped_of {d : D} (h : okd 60 d = true) : SeqAt.shaped (toPy d) = true := by
  obtain ⟨h1, h2⟩ := okd_py h
  unfold SeqAt.shaped
  rw [h1, decide_eq_true (show (toPy d).depth ≤ 64 by omega)]; rfl
mutual
theorem deq_eqv : ∀ {x y : D} {n m : Nat}, okd n x = true → okd m y = true → deq x y = PyData.eqv (toPy x) (toPy y)
  | .non, y, _, _, _, hy => by cases y <;> first | (simp [okd] at hy; done) | simp [deq, toPy, PyData.eqv]
  | .bl _, y, _, _, _, hy => by cases y <;> first | (simp [okd] at hy; done) | simp [deq, toPy, PyData.eqv]
  | .int _, y, _, _, _, hy => by cases y <;> first | (simp [okd] at hy; done) | simp [deq, toPy, PyData.eqv]
  | .str _, y, _, _, _, hy => by cases y <;> first | (simp [okd] at hy; done) | simp [deq, toPy, PyData.eqv]
  | .t xs, y, n, m, hx, hy => by
    cases y <;> first | (simp [okd] at hy; done) | skip
    all_goals first | (simp [deq, toPy, PyData.eqv]; done) | skip
    all_goals
      rename_i ys
      unfold okd at hx hy
      simp only [deq, toPy, PyData.eqv]
      exact deqL_eqv hx hy
  | .st xs, y, n, m, hx, hy => by
    cases y <;> first | (simp [okd] at hy; done) | skip
    all_goals first | (simp [deq, toPy, PyData.eqv]; done) | skip
    all_goals
      rename_i ys
      unfold okd at hx hy
      simp only [deq, toPy, PyData.eqv]
      exact deqL_eqv hx hy
  | .l xs, y, n, m, hx, hy => by
    cases y <;> first | (simp [okd] at hy; done) | skip
    all_goals first | (simp [deq, toPy, PyData.eqv]; done) | skip
    all_goals
      rename_i ys
      unfold okd at hx hy
      simp only [deq, toPy, PyData.eqv]
      exact deqL_eqv hx hy
  | .dk _ _, _, _, _, h, _ => by simp [okd] at h
  | .rt _, _, _, _, h, _ => by simp [okd] at h
  | .rl _, _, _, _, h, _ => by simp [okd] at h
  | .loc _, _, _, _, h, _ => by simp [okd] at h
  | .g _, _, _, _, h, _ => by simp [okd] at h
  | .ty _, _, _, _, h, _ => by simp [okd] at h
theorem deqL_eqv : ∀ {xs ys : List D} {n m : Nat}, okL n xs = true → okL m ys = true → deqL xs ys = PyData.eqvAll (toPyL xs) (toPyL ys)
  | [], ys, _, _, _, _ => by cases ys <;> simp [deqL, toPyL, PyData.eqvAll]
  | x :: xs, [], _, _, _, _ => by simp [deqL, toPyL, PyData.eqvAll]
  | x :: xs, y :: ys, 0, _, hx, _ => by simp [okL] at hx
  | x :: xs, y :: ys, _, 0, _, hy => by simp [okL] at hy
  | x :: xs, y :: ys, n + 1, m + 1, hx, hy => by
    unfold okL at hx hy
    obtain ⟨a1, a2⟩ := Bool.and_eq_true_iff.mp hx
    obtain ⟨b1, b2⟩ := Bool.and_eq_true_iff.mp hy
    simp only [deqL, toPyL, PyData.eqvAll]
    rw [deq_eqv (n := n) (m := m) a1 b1, deqL_eqv a2 b2]
end
section
variable {c : Ct} {K : PySem.W.Frag} {w : Wd} {hs : Hs}
mutual
theorem Rp.dp (hF : ∀ a o, w.F a = some o → w.H a = some o) : ∀ {d : D} {v : V} {n : Nat}, okd n d = true → Rp c w.ρ w.F d v → Dp K w.H v (toPy d)
  | .non, _, _, _, r => by obtain rfl := r; exact .non
  | .bl _, _, _, _, r => by obtain rfl := r; exact .bl _
  | .int _, _, _, _, r => by obtain rfl := r; exact .int _
  | .str _, _, _, _, r => by obtain rfl := r; exact .str _
  | .t ds, v, n, h, r => by
    unfold Rp at r
    unfold okd at h
    obtain ⟨a, vs, rfl, q, rs⟩ := r
    exact .tup (SqT.of (hF _ _ q)) (Rps.dp hF h rs)
  | .st ds, v, n, h, r => by
    unfold Rp at r
    unfold okd at h
    obtain ⟨a, vs, rfl, q, rs⟩ := r
    exact .tup (sqt_sub hF (st_sqt q)) (Rps.dp hF h rs)
  | .l ds, v, n, h, r => by
    unfold Rp at r
    unfold okd at h
    obtain ⟨a, vs, rfl, q, rs⟩ := r
    exact .lst (SqL.of (hF _ _ q)) (Rps.dp hF h rs)
  | .dk _ _, _, _, h, _ => by simp [okd] at h
  | .rt _, _, _, h, _ => by simp [okd] at h
  | .rl _, _, _, h, _ => by simp [okd] at h
  | .loc _, _, _, h, _ => by simp [okd] at h
  | .g _, _, _, h, _ => by simp [okd] at h
  | .ty _, _, _, h, _ => by simp [okd] at h
theorem Rps.dp (hF : ∀ a o, w.F a = some o → w.H a = some o) : ∀ {ds : List D} {vs : List V} {n : Nat}, okL n ds = true → Rps c w.ρ w.F ds vs → DpAll K w.H vs (toPyL ds)
  | [], vs, _, _, r => by unfold Rps at r; subst r; exact .nil
  | d :: ds, vs, 0, h, _ => by simp [okL] at h
  | d :: ds, vs, n + 1, h, r => by
    unfold okL at h
    obtain ⟨h1, h2⟩ := Bool.and_eq_true_iff.mp h
    unfold Rps at r
    obtain ⟨v, r', rfl, q1, q2⟩ := r
    exact .cons (Rp.dp hF (n := n) h1 q1) (Rps.dp hF h2 q2)
end
/-- a tracked list reads as its items -/
theorem res_dp {d : D} {v : V} (S : SR c w hs) (h : okd 60 (res d hs) = true) (r : Rp c w.ρ w.F d v) : Dp K w.H v (toPy (res d hs)) := by
  cases d with
  | loc n =>
    unfold Rp at r
    obtain ⟨a, rfl, q⟩ := r
    unfold res at h ⊢
    cases e : hs[n]? with
    | none => simp only [e] at h; simp [okd] at h
    | some o =>
      cases o with
      | lst ds =>
        simp only [e] at h ⊢
        obtain ⟨ho, e1, vs, rfl, rr⟩ := loc_at S q e
        unfold okd at h
        exact .lst (SqL.of e1) (Rps.dp S.sub h rr)
      | _ => simp only [e] at h; simp [okd] at h
  | _ => exact Rp.dp S.sub h r
/-- what stands behind dictOf -/
theorem dictOf_at {d : D} {v : V} {kvs : List (Key × D)} (S : SR c w hs) (h : dictOf d hs = some kvs) (r : Rp c w.ρ w.F d v) : ∃ a us, v = .ref a ∧ w.H a = some (.dK us) ∧ us.map (·.1) = kvs.map (·.1) ∧ Rps c w.ρ w.F (kvs.map (·.2)) (us.map (·.2)) := by
  cases d with
  | dk ks ds =>
    unfold Rp at r
    obtain ⟨a, us, rfl, q, z, rs⟩ := r
    unfold dictOf at h
    cases h
    have hl : ks.length = ds.length := by rw [← z, List.length_map, ← List.length_map (f := fun p : Key × V => p.2), rs.length]
    exact ⟨a, us, rfl, S.sub _ _ q, by rw [z, List.map_fst_zip (by omega)], by rw [List.map_snd_zip (by omega)]; exact rs⟩
  | loc n =>
    unfold Rp at r
    obtain ⟨a, rfl, q⟩ := r
    unfold dictOf at h
    cases e : hs[n]? with
    | none => simp [e] at h
    | some o =>
      cases o with
      | dk us =>
        simp only [e] at h
        cases h
        obtain ⟨ho, e1, us, rfl, k, rr⟩ := loc_at S q e
        exact ⟨a, us, rfl, e1, k, rr⟩
      | _ => simp [e] at h
  | _ => simp [dictOf] at h
theorem listOf_at {d : D} {v : V} {es : List D} (S : SR c w hs) (h : listOf d hs = some es) (r : Rp c w.ρ w.F d v) : ∃ a vs, v = .ref a ∧ w.H a = some (.lst vs) ∧ Rps c w.ρ w.F es vs := by
  cases d with
  | l ds =>
    unfold Rp at r
    obtain ⟨a, vs, rfl, q, rs⟩ := r
    unfold listOf at h
    cases h
    exact ⟨a, vs, rfl, S.sub _ _ q, rs⟩
  | loc n =>
    unfold Rp at r
    obtain ⟨a, rfl, q⟩ := r
    unfold listOf at h
    cases e : hs[n]? with
    | none => simp [e] at h
    | some o =>
      cases o with
      | lst us =>
        simp only [e] at h
        cases h
        obtain ⟨ho, e1, us, rfl, rr⟩ := loc_at S q e
        exact ⟨a, us, rfl, e1, rr⟩
      | _ => simp [e] at h
  | _ => simp [listOf] at h
theorem seqOf_at {d : D} {v : V} {es : List D} (S : SR c w hs) (hK : K = c.K) (h : seqOf d hs = some es) (r : Rp c w.ρ w.F d v) : ∃ a vs, v = .ref a ∧ (SqL K w.H a vs ∨ SqT K w.H a vs) ∧ Rps c w.ρ w.F es vs := by
  subst hK
  cases d with
  | t ds => unfold Rp at r; obtain ⟨a, vs, rfl, q, rs⟩ := r; cases h; exact ⟨a, vs, rfl, .inr (SqT.of (S.sub _ _ q)), rs⟩
  | rt ds => unfold Rp at r; obtain ⟨a, vs, rfl, q, rs⟩ := r; cases h; exact ⟨a, vs, rfl, .inr (sqt_sub S.sub q), rs⟩
  | st ds => unfold Rp at r; obtain ⟨a, vs, rfl, q, rs⟩ := r; cases h; exact ⟨a, vs, rfl, .inr (sqt_sub S.sub (st_sqt q)), rs⟩
  | rl ds => unfold Rp at r; obtain ⟨a, vs, rfl, q, rs⟩ := r; cases h; exact ⟨a, vs, rfl, .inl (sql_sub S.sub q), rs⟩
  | l ds => unfold Rp at r; obtain ⟨a, vs, rfl, q, rs⟩ := r; cases h; exact ⟨a, vs, rfl, .inl (SqL.of (S.sub _ _ q)), rs⟩
  | loc n =>
    obtain ⟨a, vs, e, q, rs⟩ := listOf_at (es := es) S (by unfold seqOf at h; unfold listOf; exact h) r
    exact ⟨a, vs, e, .inl (SqL.of q), rs⟩
  | _ => simp [seqOf] at h
end
section
variable {c : Ct} {X : Cx}
/-- a dict against the empty one -/
def rEqE : R2 := fun x y H Q => ∃ a b kvs, x = .ref a ∧ y = .ref b ∧ H a = some (.dK kvs) ∧ H b = some (.dK []) ∧ Q (.bl kvs.isEmpty) H
def rNeE : R2 := fun x y H Q => ∃ a b kvs, x = .ref a ∧ y = .ref b ∧ H a = some (.dK kvs) ∧ H b = some (.dK []) ∧ Q (.bl (!kvs.isEmpty)) H
theorem jo_eqD (f : Bool → Bool) {op : CmpOp} {rr : R2} (h1 : OpR X (compareOp op) (fun x y H Q => ∃ d e, Dp X.K H x d ∧ Dp X.K H y e ∧ SeqAt.shaped d = true ∧ SeqAt.shaped e = true ∧ Q (.bl (f (PyData.eqv d e))) H))
    (h2 : OpR X (compareOp op) (fun x y H Q => ∃ a b kvs, x = .ref a ∧ y = .ref b ∧ H a = some (.dK kvs) ∧ H b = some (.dK []) ∧ Q (.bl (f kvs.isEmpty)) H)) :
    JO c X (compareOp op) (fun x y hs => match eqB x y hs with
      | some b => .ok (.bl (f b)) hs
      | none => .bad) := by
  refine ⟨_, h1.or h2, fun w hs x y vx vy Q E S rx ry h => ?_⟩
  cases e : eqB x y hs with
  | none => simp only [e] at h; exact h.elim
  | some b =>
    simp only [e] at h
    unfold eqB at e
    split at e
    · rename_i hok
      obtain ⟨ox, oy⟩ := Bool.and_eq_true_iff.mp hok
      cases e
      refine .inl ⟨_, _, res_dp S ox rx, res_dp S oy ry, shaped_of ox, shaped_of oy, ?_⟩
      rw [← deq_eqv ox oy]
      exact h.now S _ rfl
    · unfold emD at e
      cases e1 : dictOf x hs with
      | none => simp [e1] at e
      | some kv =>
        cases e2 : dictOf y hs with
        | none => simp [e1, e2] at e
        | some kv2 =>
          cases kv2 with
          | cons p r => simp [e1, e2] at e
          | nil =>
            simp only [e1, e2] at e
            cases e
            obtain ⟨a, us, rfl, q1, k1, r1⟩ := dictOf_at S e1 rx
            obtain ⟨b, us2, rfl, q2, k2, r2⟩ := dictOf_at S e2 ry
            have u2 : us2 = [] := by
              have := congrArg List.length k2
              simpa using this
            subst u2
            refine .inr ⟨a, b, us, rfl, rfl, q1, q2, ?_⟩
            have u1 : us.isEmpty = kv.isEmpty := by
              have := congrArg List.length k1
              simp only [List.length_map] at this
              cases us <;> cases kv <;> simp_all
            rw [u1]
            exact h.now S _ rfl
theorem op_eqE (hu : X.A.units < cLine) : OpR X (compareOp .Eq) rEqE := by
  intro pins s σ H x y v u Q I rx ry h
  obtain ⟨a, b, kvs, rfl, rfl, ha, hb, q⟩ := h
  cases rx; cases ry
  obtain ⟨z1, d1, vs1, rel1, dd1⟩ := dk_of I.hok ha
  obtain ⟨z2, d2, vs2, rel2, dd2⟩ := dk_of I.hok hb
  have e2 : vs2 = [] := by cases rel2; rfl
  subst e2
  show wpAny _ _ (richCompare .Eq (.ref a) (.ref b)) _ _ _
  refine PySem.W.rcP_dicts (r := true) d1 d2 dd1 dd2 hu (fun hl => ?_) _ _ ?_
  · cases vs1 with
    | nil => exact .nil
    | cons p r => simp at hl
  · refine ⟨.bl _, H, I, rfl, ?_⟩
    have e3 : (vs1.length == ([] : List (Key × Value)).length && true) = kvs.isEmpty := by
      have := isEmpty_kv rel1
      cases kvs <;> cases vs1 <;> simp_all
    rw [e3]
    exact q
theorem op_neE (hu : X.A.units < cLine) : OpR X (compareOp .NotEq) rNeE := by
  intro pins s σ H x y v u Q I rx ry h
  obtain ⟨a, b, kvs, rfl, rfl, ha, hb, q⟩ := h
  cases rx; cases ry
  obtain ⟨z1, d1, vs1, rel1, dd1⟩ := dk_of I.hok ha
  obtain ⟨z2, d2, vs2, rel2, dd2⟩ := dk_of I.hok hb
  have e2 : vs2 = [] := by cases rel2; rfl
  subst e2
  show wpAny _ _ (richCompare .NotEq (.ref a) (.ref b)) _ _ _
  refine wpAny_richCompare_same_room (op := .NotEq) dd1.typeIs dd2.typeIs PySem.F.slot_dict_ne (wpAny_call_entry PySem.F.slot_dict_ne dd1.typeIs PySem.F.entry_dict_ne ?_ (PySem.F.args_dict_ne_2 _ _)) hu
  show wpAny _ _ (Builtin.Dict.dictSlotArgs "__ne__" ⟨[.ref a, .ref b], []⟩ >>= _) _ _ s
  refine wpAny_bind ?_
  unfold Builtin.Dict.dictSlotArgs
  refine wpAny_bind (wpAny_notOrdered_dict dd1.typeIs ?_)
  refine wpAny_pure ?_
  refine wpAny_bind (wpAny_isInstance (T := "dict") dd2.typeIs PySem.F.sub_dict_dict ?_)
  rw [show (!true) = false from rfl, if_neg (by decide)]
  refine wpAny_bind (wpAny_pure ?_); refine wpAny_bind (wpAny_pure ?_)
  refine wpAny_bind (PySem.W.samePairsP (r := true) d1 d2 dd1 dd2 (fun hl => ?_) ?_)
  · cases vs1 with
    | nil => exact .nil
    | cons p r => simp at hl
  · refine wpAny_pure ⟨_, rfl, ?_, ?_⟩
    · exact fun x => nomatch x
    · refine ⟨.bl _, H, I, rfl, ?_⟩
      have e3 : ((vs1.length == ([] : List (Key × Value)).length && true) == false) = !kvs.isEmpty := by
        have := isEmpty_kv rel1
        cases kvs <;> cases vs1 <;> simp_all
      rw [e3]
      exact q
theorem jo_eq (hu : X.A.units + 64 < cLine) : JO c X (compareOp .Eq) vEq :=
  jo_eqD (rr := rEqE) (fun b => b) (op_eqD hu) (op_eqE (by omega))
theorem jo_ne (hu : X.A.units + 64 < cLine) : JO c X (compareOp .NotEq) vNe :=
  jo_eqD (rr := rNeE) (fun b => !b) (op_neD hu) (op_neE (by omega))
theorem isNon_rp {ρ : List Addr} {F : Hp} {d : D} {v : V} (r : Rp c ρ F d v) : isNon d = decide (v = .non) := by
  cases d with
  | non => obtain rfl := r; rfl
  | bl b => obtain rfl := r; rfl
  | int b => obtain rfl := r; rfl
  | str b => obtain rfl := r; rfl
  | t ds => unfold Rp at r; obtain ⟨a, vs, rfl, _⟩ := r; rfl
  | l ds => unfold Rp at r; obtain ⟨a, vs, rfl, _⟩ := r; rfl
  | rt ds => unfold Rp at r; obtain ⟨a, vs, rfl, _⟩ := r; rfl
  | st ds => unfold Rp at r; obtain ⟨a, vs, rfl, _⟩ := r; rfl
  | rl ds => unfold Rp at r; obtain ⟨a, vs, rfl, _⟩ := r; rfl
  | dk ks ds => unfold Rp at r; obtain ⟨a, vs, rfl, _⟩ := r; rfl
  | loc n => unfold Rp at r; obtain ⟨a, rfl, _⟩ := r; rfl
  | g x => obtain rfl := r; rfl
  | ty x => obtain rfl := r; rfl
  | fn x => obtain rfl := r; rfl
/-- is None: the right side None -/
def onN (f : D → D → Hs → R D) (x y : D) (hs : Hs) : R D := if isNon y = true then f x y hs else .bad
theorem jo_isN : JO c X (compareOp .Is) (onN vIsN) := by
  refine ⟨_, op_isN, fun w hs x y vx vy Q E S rx ry h => ?_⟩
  unfold onN at h
  split at h
  · rename_i hn
    rw [isNon_rp ry] at hn
    refine ⟨of_decide_eq_true hn, ?_⟩
    rw [← isNon_rp rx]
    exact h.now S _ rfl
  · exact h.elim
theorem jo_cmpI {op : CmpOp} {f : Int → Int → Bool} (h : OpR X (compareOp op) (rI0 fun i j => .bl (f i j))) : JO c X (compareOp op) (vI f) := by
  refine ⟨_, h, fun w hs x y vx vy Q E S rx ry h => ?_⟩
  unfold vI at h
  split at h
  · rename_i i j
    exact ⟨i, j, rx, ry, h.now S _ rfl⟩
  · exact h.elim
theorem jo_le : JO c X (compareOp .LtE) vLe := jo_cmpI op_le
theorem jo_gt : JO c X (compareOp .Gt) vGt := jo_cmpI op_gt
theorem jo_ge : JO c X (compareOp .GtE) vGe := jo_cmpI op_ge
theorem jo_sub : JO c X (binaryOp .Sub) vSub := by
  refine ⟨_, op_sub, fun w hs x y vx vy Q E S rx ry h => ?_⟩
  unfold vSub at h
  split at h
  · rename_i i j
    exact ⟨i, j, rx, ry, h.now S _ rfl⟩
  · exact h.elim
theorem jo_mul : JO c X (binaryOp .Mult) vMul := by
  refine ⟨_, op_mul, fun w hs x y vx vy Q E S rx ry h => ?_⟩
  unfold vMul at h
  split at h
  · rename_i i j
    split at h
    · rename_i hc
      exact ⟨i, j, rx, ry, hc, h.now S _ rfl⟩
    · exact h.elim
  · exact h.elim
theorem jo_fdiv : JO c X (binaryOp .FloorDiv) vFdiv := by
  refine ⟨_, op_fdiv, fun w hs x y vx vy Q E S rx ry h => ?_⟩
  unfold vFdiv at h
  split at h
  · rename_i i j
    split at h
    · rename_i hc
      exact ⟨i, j, rx, ry, hc, h.now S _ rfl⟩
    · exact h.elim
  · exact h.elim
theorem jo_mod : JO c X (binaryOp .Mod) vMod := by
  refine ⟨_, op_mod, fun w hs x y vx vy Q E S rx ry h => ?_⟩
  unfold vMod at h
  split at h
  · rename_i i j
    split at h
    · rename_i hc
      exact ⟨i, j, rx, ry, hc, h.now S _ rfl⟩
    · exact h.elim
  · exact h.elim
theorem jo_pow : JO c X (binaryOp .Pow) vPow := by
  refine ⟨_, op_pow, fun w hs x y vx vy Q E S rx ry h => ?_⟩
  unfold vPow at h
  split at h
  · rename_i i j
    split at h
    · rename_i hc
      exact ⟨i, j, rx, ry, ⟨hc.1, by omega, hc.2.2⟩, h.now S _ rfl⟩
    · exact h.elim
  · exact h.elim
theorem ju_neg : JU c X (unaryOp .USub) vNeg := by
  refine ⟨_, un_neg, fun w hs x vx Q E S rx h => ?_⟩
  unfold vNeg at h
  split at h
  · rename_i i
    exact ⟨i, rx, h.now S _ rfl⟩
  · exact h.elim
theorem jo_add : JO c X (binaryOp .Add) vAdd := by
  refine ⟨_, op_add.or (op_catA.or (op_add_str.or op_cat)), fun w hs x y vx vy Q E S rx ry h => ?_⟩
  unfold vAdd at h
  split at h
  · rename_i i j
    exact .inl ⟨i, j, rx, ry, h.now S _ rfl⟩
  · rename_i ds es
    split at h
    · rename_i hl
      unfold Rp at rx ry
      obtain ⟨a, vs, rfl, qa, ra⟩ := rx
      obtain ⟨b, us, rfl, qb, rb⟩ := ry
      refine .inr (.inl ⟨a, b, vs, us, rfl, rfl, SqT.of (S.sub _ _ qa), SqT.of (S.sub _ _ qb), by rw [ra.length, rb.length]; exact sz_le hl, fun e => ?_, fun _ e => ?_, fun _ _ p hp => ?_⟩)
      · subst e
        have : ds = [] := by have := ra.length; simpa using this.symm
        subst this
        exact h.now S _ (rp_t rb qb)
      · subst e
        have : es = [] := by have := rb.length; simpa using this.symm
        subst this
        rw [List.append_nil] at h
        exact h.now S _ (rp_t ra qa)
      · exact new_tup S (ra.append rb) h hp
    · exact h.elim
  · rename_i a b
    split at h
    · rename_i hl
      exact .inr (.inr (.inl ⟨a, b, rx, ry, sz_le hl, h.now S _ rfl⟩))
    · exact h.elim
  · split at h
    · rename_i ds es e1 e2
      split at h
      · rename_i hl
        obtain ⟨a, vs, rfl, qa, ra⟩ := listOf_at S e1 rx
        obtain ⟨b, us, rfl, qb, rb⟩ := listOf_at S e2 ry
        exact .inr (.inr (.inr ⟨a, b, vs, us, rfl, rfl, qa, qb, by rw [ra.length, rb.length]; exact sz_le hl, fun p hp => new_lst S (ra.append rb) h hp⟩))
      · exact h.elim
    · exact h.elim
theorem atI_ixN {α : Type} {xs : List α} {i : Int} {j : Nat} {x : α} (h : Mm.ixN xs.length i = some j) (e : xs[j]? = some x) : atI xs i = some x := by
  unfold atI
  unfold Mm.ixN at h
  unfold L2.ixN
  split at h
  · rename_i h0
    split at h
    · rename_i h1
      cases h
      rw [if_pos h0, if_pos h1]
      exact e
    · cases h
  · rename_i h0
    split at h
    · rename_i h1
      cases h
      rw [if_neg h0, if_pos (by omega)]
      exact e
    · cases h
theorem jx_seq (hK : X.K = c.K) : JX c X vIx := by
  refine ⟨_, ix_list.or ix_tup, fun w hs x y vx vy Q E S rx ry h => ?_⟩
  unfold vIx at h
  split at h
  · rename_i k
    split at h
    · rename_i ds e
      split at h
      · rename_i d e2
        obtain ⟨a, vs, rfl, q, rr⟩ := seqOf_at (K := X.K) S hK e rx
        cases e3 : Mm.ixN ds.length k with
        | none => rw [e3] at e2; cases e2
        | some j =>
          rw [e3] at e2
          obtain ⟨v, e4, r4⟩ := rr.get (i := j) (d := d) e2
          have e5 : atI vs k = some v := atI_ixN (j := j) (by rw [rr.length]; exact e3) e4
          rcases q with q | q
          · exact .inl ⟨a, vs, k, v, rfl, ry, q, e5, h.now S v r4⟩
          · exact .inr ⟨a, vs, k, v, rfl, ry, q, e5, h.now S v r4⟩
      · exact h.elim
    · exact h.elim
  · exact h.elim
end
end Mm
namespace Mm
open PySem PySem.Spec PyProof.Rows L2
section
variable {c : Ct} {ρ : List Addr} {F : Hp} {κ : Type}
def KR (c : Ct) (ρ : List Addr) (F : Hp) (kvs : List (κ × D)) (us : List (κ × V)) : Prop := us.map (·.1) = kvs.map (·.1) ∧ Rps c ρ F (kvs.map (·.2)) (us.map (·.2))
theorem KR.nil : KR c ρ F ([] : List (κ × D)) [] := ⟨rfl, Rps.nil⟩
theorem KR.cons {p : κ × D} {q : κ × V} {r : List (κ × D)} {s : List (κ × V)} (h1 : q.1 = p.1) (h2 : Rp c ρ F p.2 q.2) (h : KR c ρ F r s) : KR c ρ F (p :: r) (q :: s) :=
  ⟨by simp [h1, h.1], Rps.cons h2 h.2⟩
theorem KR.inv {p : κ × D} {r : List (κ × D)} {us : List (κ × V)} (h : KR c ρ F (p :: r) us) : ∃ q s, us = q :: s ∧ q.1 = p.1 ∧ Rp c ρ F p.2 q.2 ∧ KR c ρ F r s := by
  obtain ⟨h1, h2⟩ := h
  cases us with
  | nil => simp at h1
  | cons q s =>
    simp only [List.map_cons, List.cons.injEq] at h1
    have h3 : Rps c ρ F (p.2 :: r.map (·.2)) (q.2 :: s.map (·.2)) := h2
    unfold Rps at h3
    obtain ⟨v, t, e, r1, r2⟩ := h3
    cases e
    exact ⟨q, s, rfl, h1.1, r1, h1.2, r2⟩
theorem KR.inv0 {us : List (κ × V)} (h : KR c ρ F ([] : List (κ × D)) us) : us = [] := by
  have := congrArg List.length h.1
  simpa using this
variable [DecidableEq κ]
def OR (c : Ct) (ρ : List Addr) (F : Hp) : Option D → Option V → Prop
  | some d, ov => ∃ v, ov = some v ∧ Rp c ρ F d v
  | none, ov => ov = none
theorem KR.look (k : κ) : ∀ {kvs : List (κ × D)} {us : List (κ × V)}, KR c ρ F kvs us → OR c ρ F (dget kvs k) (valV us k)
  | [], us, h => by rw [h.inv0]; exact valV_nil
  | p :: r, us, h => by
    obtain ⟨q, s, rfl, e, rp, h'⟩ := h.inv
    have ih := KR.look k h'
    unfold dget
    by_cases z : p.1 = k
    · rw [if_pos z]
      exact ⟨q.2, valV_pos (e.trans z), rp⟩
    · rw [if_neg z, valV_neg (fun y => z (e.symm.trans y))]
      exact ih
theorem KR.any (k : κ) : ∀ {kvs : List (κ × D)} {us : List (κ × V)}, KR c ρ F kvs us → (us.any fun p => decide (p.1 = k)) = kvs.any fun p => decide (p.1 = k)
  | [], us, h => by rw [h.inv0]; rfl
  | p :: r, us, h => by
    obtain ⟨q, s, rfl, e, rp, h'⟩ := h.inv
    rw [List.any_cons, List.any_cons, KR.any k h', e]
theorem KR.mapk (k : κ) {d : D} {v : V} (rv : Rp c ρ F d v) : ∀ {kvs : List (κ × D)} {us : List (κ × V)}, KR c ρ F kvs us → KR c ρ F (kvs.map fun p => if p.1 = k then (p.1, d) else p) (us.map fun p => if p.1 = k then (p.1, v) else p)
  | [], us, h => by rw [h.inv0]; exact KR.nil
  | p :: r, us, h => by
    obtain ⟨q, s, rfl, e, rp, h'⟩ := h.inv
    rw [List.map_cons, List.map_cons]
    by_cases z : p.1 = k
    · rw [if_pos z, if_pos (e.trans z)]
      exact KR.cons e rv (KR.mapk k rv h')
    · rw [if_neg z, if_neg (fun y => z (e.symm.trans y))]
      exact KR.cons e rp (KR.mapk k rv h')
theorem KR.app : ∀ {kvs kvs2 : List (κ × D)} {us us2 : List (κ × V)}, KR c ρ F kvs us → KR c ρ F kvs2 us2 → KR c ρ F (kvs ++ kvs2) (us ++ us2)
  | [], _, us, _, h, h2 => by rw [h.inv0]; exact h2
  | p :: r, _, us, _, h, h2 => by
    obtain ⟨q, s, rfl, e, rp, h'⟩ := h.inv
    exact KR.cons e rp (KR.app h' h2)
theorem KR.put {kvs : List (κ × D)} {us : List (κ × V)} (k : κ) {d : D} {v : V} (h : KR c ρ F kvs us) (rv : Rp c ρ F d v) : KR c ρ F (dput kvs k d) (putK us k v) := by
  unfold dput putK
  rw [h.any k]
  split
  · exact h.mapk k rv
  · exact h.app (KR.cons rfl rv KR.nil)
theorem KR.drop (k : κ) : ∀ {kvs : List (κ × D)} {us : List (κ × V)}, KR c ρ F kvs us → KR c ρ F (ddrop kvs k) (dropK us k)
  | [], us, h => by rw [h.inv0]; exact KR.nil
  | p :: r, us, h => by
    obtain ⟨q, s, rfl, e, rp, h'⟩ := h.inv
    unfold ddrop dropK
    rw [List.filter_cons, List.filter_cons, e]
    split
    · exact KR.cons e rp (KR.drop k h')
    · exact KR.drop k h'
theorem KR.len {kvs : List (κ × D)} {us : List (κ × V)} (h : KR c ρ F kvs us) : us.length = kvs.length := by
  have := congrArg List.length h.1
  simpa using this
end
theorem zip_kr {c : Ct} {ρ : List Addr} {F : Hp} {ks : List Mm.Key} {ds : List D} {us : List (Mm.Key × V)} (z : us.map (·.1) = ks) (rs : Rps c ρ F ds (us.map (·.2))) : KR c ρ F (ks.zip ds) us := by
  have hl : ks.length = ds.length := by rw [← z, List.length_map, ← List.length_map (f := fun p : Mm.Key × V => p.2), rs.length]
  exact ⟨by rw [z, List.map_fst_zip (by omega)], by rw [List.map_snd_zip (by omega)]; exact rs⟩
section
variable {c : Ct} {w : Wd} {hs : Hs}
theorem key_at {d : D} {v : V} {k : Mm.Key} (h : keyOf d = some k) (r : Rp c w.ρ w.F d v) : v = kV k := by
  cases d <;> first | (simp [keyOf] at h; done) | skip
  · cases h; exact r
  · cases h; exact r
theorem keys_at : ∀ {ds : List D} {vs : List V} {ks : List Mm.Key}, ds.mapM keyOf = some ks → Rps c w.ρ w.F ds vs → vs = ks.map kV
  | [], vs, ks, h, r => by
    unfold Rps at r
    subst r
    simp at h
    subst h
    rfl
  | d :: ds, vs, ks, h, r => by
    unfold Rps at r
    obtain ⟨v, r', rfl, r1, r2⟩ := r
    rw [List.mapM_cons] at h
    cases e : keyOf d with
    | none => rw [e] at h; cases h
    | some k =>
      rw [e] at h
      cases e2 : ds.mapM keyOf with
      | none => rw [e2] at h; cases h
      | some ks' =>
        rw [e2] at h
        cases h
        rw [key_at e r1, keys_at e2 r2]
        rfl
theorem dlook_at {x k : D} {vx vk : V} {o : Option D} (S : SR c w hs) (h : dlook x k hs = some o) (rx : Rp c w.ρ w.F x vx) (rk : Rp c w.ρ w.F k vk) : ∃ a ov, vx = .ref a ∧ DGet w.H a vk ov ∧ OR c w.ρ w.F o ov := by
  cases x with
  | dk ks ds =>
    unfold Rp at rx
    obtain ⟨a, us, rfl, q, z, rs⟩ := rx
    unfold dlook at h
    cases e : keyOf k with
    | none => simp [e] at h
    | some kk =>
      simp only [e, Option.map_some] at h
      cases h
      refine ⟨a, _, rfl, by rw [key_at e rk]; exact DGet.k (S.sub _ _ q), (zip_kr z rs).look kk⟩
  | loc n =>
    unfold Rp at rx
    obtain ⟨a, rfl, q⟩ := rx
    unfold dlook at h
    cases e : hs[n]? with
    | none => simp [e] at h
    | some oo =>
      cases oo with
      | dk kvs =>
        simp only [e] at h
        obtain ⟨ho, e1, us, rfl, k1, rr⟩ := loc_at S q e
        cases e3 : keyOf k with
        | none => simp [e3] at h
        | some kk =>
          simp only [e3, Option.map_some] at h
          cases h
          refine ⟨a, _, rfl, by rw [key_at e3 rk]; exact DGet.k e1, KR.look kk (show KR c w.ρ w.F kvs us from ⟨k1, rr⟩)⟩
      | dt kvs =>
        simp only [e] at h
        obtain ⟨ho, e1, us, rfl, k1, rr⟩ := loc_at S q e
        cases k with
        | t ks =>
          cases e3 : ks.mapM keyOf with
          | none => simp [keysOf, e3] at h
          | some kk =>
            simp only [keysOf, e3, Option.map_some] at h
            cases h
            unfold Rp at rk
            obtain ⟨b, vs, rfl, qb, rb⟩ := rk
            refine ⟨a, _, rfl, DGet.t (k := kk) e1 (by rw [← keys_at e3 rb]; exact S.sub _ _ qb), KR.look kk (show KR c w.ρ w.F kvs us from ⟨k1, rr⟩)⟩
        | _ => simp [keysOf] at h
      | lt kvs ho0 =>
        simp only [e] at h
        obtain ⟨ho, e1, e0, od, us, rfl, k1, rr⟩ := loc_at S q e
        cases k with
        | t ks =>
          cases e3 : ks.mapM keyOf with
          | none => simp [keysOf, e3] at h
          | some kk =>
            simp only [keysOf, e3, Option.map_some] at h
            cases h
            unfold Rp at rk
            obtain ⟨b, vs, rfl, qb, rb⟩ := rk
            refine ⟨a, _, rfl, .inr ⟨us, kk, b, .inr ⟨od, e1⟩, rfl, by rw [← keys_at e3 rb]; exact S.sub _ _ qb, rfl⟩, KR.look kk (show KR c w.ρ w.F kvs us from ⟨k1, rr⟩)⟩
        | _ => simp [keysOf] at h
      | _ => simp [e] at h
  | _ => simp [dlook] at h
end
section
variable {c : Ct} {X : Cx}
def rIxD : R2 := fun x y H Q => ∃ a v, x = .ref a ∧ DGet H a y (some v) ∧ Q v H
theorem ix_dict (hu : X.A.units + 1 < cLine) : IxR X rIxD := by
  intro value slice pins s σ H x y v u Q I rx ry h hs
  obtain ⟨a, z, rfl, g, q⟩ := h
  cases rx
  exact tail_any (dict_typeIs I g) PySem.F.slot_dict_getitem.lookup (d_getItem hu I g ry fun w' s' I' rw' => ⟨z, H, I', rw', q⟩) hs
theorem jx_dict (hu : X.A.units + 1 < cLine) : JX c X vIxD := by
  refine ⟨_, ix_dict hu, fun w hs x y vx vy Q E S rx ry h => ?_⟩
  unfold vIxD at h
  split at h
  · rename_i d e
    obtain ⟨a, ov, rfl, g, v, rfl, r⟩ := dlook_at S e rx ry
    exact ⟨a, v, rfl, g, h.now S v r⟩
  · exact h.elim
theorem cut_rps {ρ : List Addr} {F : Hp} {ds : List D} {vs : List V} (lo hi : Option Int) (r : Rps c ρ F ds vs) : Rps c ρ F (cut ds lo hi) (cutV vs lo hi) := by
  unfold cut cutV
  rw [r.length]
  exact Rps.take _ (Rps.drop _ r)
theorem jsl : JSl c X vSl := by
  refine ⟨_, sl_tupA.or sl_list, fun w hs x vx lo hi Q E S rx h => ?_⟩
  unfold vSl at h
  split at h
  · rename_i ds
    unfold Rp at rx
    obtain ⟨a, vs, rfl, q, r⟩ := rx
    refine .inl ⟨a, vs, rfl, SqT.of (S.sub _ _ q), fun e => ?_, fun _ p hp => new_tup S (cut_rps lo hi r) h hp⟩
    have e2 : cut ds lo hi = ds := by
      unfold cut
      rw [r.length] at e
      rw [show sIx ds.length 0 lo = 0 from e.1, show sIx ds.length ds.length hi = ds.length from e.2]
      simp
    rw [e2] at h
    exact h.now S _ (rp_t r q)
  · split at h
    · rename_i ds e
      obtain ⟨a, vs, rfl, q, r⟩ := listOf_at S e rx
      exact .inr ⟨a, vs, rfl, SqL.of q, fun p hp => new_lst S (cut_rps lo hi r) h hp⟩
    · exact h.elim
def rInK (f : Bool → Bool) : R2 := fun x y H Q => ∃ a o, y = .ref a ∧ DGet H a x o ∧ Q (.bl (f o.isSome)) H
theorem op_inK (hu : X.A.units + 1 < cLine) : OpR X (compareOp .In) (rInK fun b => b) := by
  intro pins s σ H x y v u Q I rx ry h
  obtain ⟨a, o, rfl, g, q⟩ := h
  cases ry
  exact d_in hu I g rx fun s' I' => ⟨.bl o.isSome, H, I', rfl, q⟩
theorem op_notInK (hu : X.A.units + 1 < cLine) : OpR X (compareOp .NotIn) (rInK fun b => !b) := by
  intro pins s σ H x y v u Q I rx ry h
  obtain ⟨a, o, rfl, g, q⟩ := h
  cases ry
  exact d_notIn hu I g rx fun s' I' => ⟨.bl (!o.isSome), H, I', rfl, q⟩
theorem flat_rp {ρ : List Addr} {F : Hp} {d : D} {v : V} (h : flatD d = true) (r : Rp c ρ F d v) : flatV v = true ∧ ∀ {e : D} {u : V}, flatD e = true → Rp c ρ F e u → eqV v u = deq d e := by
  cases d <;> first | (simp [flatD] at h; done) | skip
  all_goals
    obtain rfl := r
    refine ⟨rfl, fun {e u} he re => ?_⟩
    cases e <;> first | (simp [flatD] at he; done) | skip
    all_goals
      obtain rfl := re
      rfl
theorem flats_rp {ρ : List Addr} {F : Hp} {x : D} {vx : V} (fx : flatD x = true) (rx : Rp c ρ F x vx) : ∀ {ds : List D} {vs : List V}, ds.all flatD = true → Rps c ρ F ds vs → vs.all flatV = true ∧ inV vx vs = ds.any fun z => deq z x
  | [], vs, _, r => by unfold Rps at r; subst r; exact ⟨rfl, rfl⟩
  | d :: ds, vs, h, r => by
    unfold Rps at r
    obtain ⟨v, r', rfl, r1, r2⟩ := r
    rw [List.all_cons] at h
    obtain ⟨h1, h2⟩ := Bool.and_eq_true_iff.mp h
    obtain ⟨a1, a2⟩ := flat_rp h1 r1
    obtain ⟨b1, b2⟩ := flats_rp fx rx h2 r2
    refine ⟨by rw [List.all_cons, a1, b1]; rfl, ?_⟩
    show (eqV v vx || inV vx r') = _
    rw [b2, a2 fx rx, List.any_cons]
theorem toPyL_any {x : D} {n : Nat} (hx : okd 60 x = true) : ∀ {ds : List D}, okL n ds = true → (ds.any fun z => deq z x) = (toPyL ds).any fun z => PyData.eqv z (toPy x)
  | [], _ => rfl
  | d :: ds, h => by
    cases n with
    | zero => simp [okL] at h
    | succ n =>
      unfold okL at h
      obtain ⟨h1, h2⟩ := Bool.and_eq_true_iff.mp h
      rw [List.any_cons, toPyL, List.any_cons, toPyL_any hx h2, deq_eqv (n := n) h1 hx]
theorem jo_inG {op : CmpOp} (f : Bool → Bool) (hK : X.K = c.K) (h1 : OpR X (compareOp op) (fun x y H Q => ∃ p xs, y = .ref p ∧ (SqL X.K H p xs ∨ SqT X.K H p xs) ∧ flatV x = true ∧ xs.all flatV = true ∧ Q (.bl (f (inV x xs))) H))
    (h2 : OpR X (compareOp op) (fun x y H Q => ∃ d ds, Dp X.K H x d ∧ Dp X.K H y (.list ds) ∧ SeqAt.shaped d = true ∧ SeqAt.shaped (.list ds) = true ∧ Q (.bl (f (ds.any fun z => PyData.eqv z d))) H))
    (h3 : OpR X (compareOp op) (rInK f)) : JO c X (compareOp op) (fun x y hs => match inB x y hs with
      | some b => .ok (.bl (f b)) hs
      | none => .bad) := by
  refine ⟨_, h1.or (h2.or h3), fun w hs x y vx vy Q E S rx ry h => ?_⟩
  cases e : inB x y hs with
  | none => simp only [e] at h; exact h.elim
  | some b =>
    simp only [e] at h
    have gen : ∀ y, Rp c w.ρ w.F y vy → (match listOf y hs with
        | some ds => if (okd 60 x && okd 60 (.l ds)) = true then some (ds.any fun z => deq z x) else none
        | none => (dlook y x hs).map Option.isSome) = some b → (∃ d ds, Dp X.K w.H vx d ∧ Dp X.K w.H vy (.list ds) ∧ SeqAt.shaped d = true ∧ SeqAt.shaped (.list ds) = true ∧ Q (.bl (f (ds.any fun z => PyData.eqv z d))) w.H) ∨ rInK f vx vy w.H Q := fun y ry e => by
      cases e1 : listOf y hs with
      | some ds =>
        simp only [e1] at e
        split at e
        · rename_i hok
          obtain ⟨o1, o2⟩ := Bool.and_eq_true_iff.mp hok
          cases e
          obtain ⟨a, vs, rfl, q, r⟩ := listOf_at S e1 ry
          have o3 : okL 60 ds = true := by unfold okd at o2; exact o2
          refine .inl ⟨toPy x, toPyL ds, Rp.dp S.sub o1 rx, .lst (SqL.of q) (Rps.dp S.sub o3 r), shaped_of o1, shaped_of (d := .l ds) o2, ?_⟩
          rw [← toPyL_any o1 o3]
          exact h.now S _ rfl
        · cases e
      | none =>
        simp only [e1] at e
        cases e2 : dlook y x hs with
        | none => rw [e2] at e; cases e
        | some o =>
          rw [e2] at e
          cases e
          obtain ⟨a, ov, rfl, g, z⟩ := dlook_at S e2 ry rx
          refine .inr ⟨a, ov, rfl, g, ?_⟩
          have e3 : ov.isSome = o.isSome := by
            cases o with
            | none => obtain rfl : ov = none := z; rfl
            | some d => obtain ⟨v, rfl, _⟩ := z; rfl
          rw [e3]
          exact h.now S _ rfl
    unfold inB at e
    split at e
    · rename_i ds
      split at e
      · rename_i hok
        obtain ⟨o1, o2⟩ := Bool.and_eq_true_iff.mp hok
        cases e
        unfold Rp at ry
        obtain ⟨a, vs, rfl, q, r⟩ := ry
        obtain ⟨a1, a2⟩ := flats_rp o1 rx o2 r
        exact .inl ⟨a, vs, rfl, .inr (SqT.of (S.sub _ _ q)), (flat_rp o1 rx).1, a1, by rw [a2]; exact h.now S _ rfl⟩
      · cases e
    · rename_i ds
      split at e
      · rename_i hok
        obtain ⟨o1, o2⟩ := Bool.and_eq_true_iff.mp hok
        cases e
        unfold Rp at ry
        obtain ⟨a, vs, rfl, q, r⟩ := ry
        obtain ⟨a1, a2⟩ := flats_rp o1 rx o2 r
        exact .inl ⟨a, vs, rfl, .inr (by rw [hK]; exact sqt_sub S.sub q), (flat_rp o1 rx).1, a1, by rw [a2]; exact h.now S _ rfl⟩
      · cases e
    · exact .inr (gen _ ry e)
theorem jo_in (hK : X.K = c.K) (hu : X.A.units + 65 < cLine) : JO c X (compareOp .In) vIn := jo_inG (fun b => b) hK op_in_seq (op_inD hu) (op_inK (by omega))
theorem jo_notIn (hK : X.K = c.K) (hu : X.A.units + 65 < cLine) : JO c X (compareOp .NotIn) vNotIn := jo_inG (fun b => !b) hK op_notIn_seq (op_notInD hu) (op_notInK (by omega))
theorem rps1 {ρ : List Addr} {F : Hp} {d : D} {vs : List V} (r : Rps c ρ F [d] vs) : ∃ v, vs = [v] ∧ Rp c ρ F d v := by
  unfold Rps at r
  obtain ⟨v, r', rfl, h1, h2⟩ := r
  unfold Rps at h2
  subst h2
  exact ⟨v, rfl, h1⟩
theorem rps2 {ρ : List Addr} {F : Hp} {d e : D} {vs : List V} (r : Rps c ρ F [d, e] vs) : ∃ v u, vs = [v, u] ∧ Rp c ρ F d v ∧ Rp c ρ F e u := by
  unfold Rps at r
  obtain ⟨v, r', rfl, h1, h2⟩ := r
  obtain ⟨u, rfl, h3⟩ := rps1 h2
  exact ⟨v, u, rfl, h1, h3⟩
theorem jc_len (hK : X.K = c.K) : JC c X (.builtin "len") vLen := by
  refine ⟨_, call_len, fun w hs ds vs Q E S r h => ?_⟩
  unfold vLen at h
  cases e : one1 ds with
  | none => simp only [e] at h; exact h.elim
  | some d =>
    simp only [e] at h
    obtain rfl := one1_some e
    obtain ⟨v, rfl, rd⟩ := rps1 r
    cases e2 : seqOf d hs with
    | none => simp only [e2] at h; exact h.elim
    | some es =>
      simp only [e2] at h
      obtain ⟨a, us, rfl, q, rr⟩ := seqOf_at (K := X.K) S hK e2 rd
      refine ⟨_, us.length, rfl, ?_, by rw [rr.length]; exact h.now S _ rfl⟩
      rcases q with q | q
      · exact .inl ⟨us, q, rfl⟩
      · exact .inr ⟨us, q, rfl⟩
theorem jc_abs : JC c X (.builtin "abs") vAbs := by
  refine ⟨_, call_abs, fun w hs ds vs Q E S r h => ?_⟩
  unfold vAbs at h
  cases e : int1 ds with
  | none => simp only [e] at h; exact h.elim
  | some i =>
    simp only [e] at h
    obtain rfl := int1_some e
    obtain ⟨v, rfl, rd⟩ := rps1 r
    exact ⟨i, by rw [show v = .int i from rd], h.now S _ rfl⟩
theorem seqA_at {w : Wd} {hs : Hs} {ds es : List D} {vs : List V} (hK : X.K = c.K) (S : SR c w hs) (h : seqA ds hs = some es) (r : Rps c w.ρ w.F ds vs) : ∃ a us, vs = [.ref a] ∧ (SqL X.K w.H a us ∨ SqT X.K w.H a us) ∧ Rps c w.ρ w.F es us := by
  unfold seqA at h
  cases e : one1 ds with
  | none => rw [e] at h; cases h
  | some d =>
    rw [e] at h
    obtain rfl := one1_some e
    obtain ⟨v, rfl, rd⟩ := rps1 r
    obtain ⟨a, us, rfl, q, rr⟩ := seqOf_at (K := X.K) S hK h rd
    exact ⟨a, us, rfl, q, rr⟩
theorem jc_list (hK : X.K = c.K) : JC c X (.type "list") vList := by
  refine ⟨_, call_list_of, fun w hs ds vs Q E S r h => ?_⟩
  unfold vList at h
  cases e : seqA ds hs with
  | none => simp only [e] at h; exact h.elim
  | some es =>
    simp only [e] at h
    obtain ⟨a, us, rfl, q, rr⟩ := seqA_at hK S e r
    exact ⟨a, us, rfl, q, fun p hp => new_lst S rr h hp⟩
theorem jc_tuple : JC c X (.type "tuple") vTuple := by
  refine ⟨_, call_tuple_of, fun w hs ds vs Q E S r h => ?_⟩
  unfold vTuple at h
  cases e : one1 ds with
  | none => simp only [e] at h; exact h.elim
  | some d =>
    obtain rfl := one1_some e
    obtain ⟨v, rfl, rd⟩ := rps1 r
    have gen : (match listOf d hs with
        | some es => Post c w (.ok (.t es) hs) Q E
        | none => False) → ∃ p ys, [v] = [.ref p] ∧ ((SqL X.K w.H p ys ∧ ∀ l, w.H l = none → Q (.ref l) (upd w.H l (.tup ys))) ∨ (SqT X.K w.H p ys ∧ Q (.ref p) w.H)) := fun z => by
      cases e2 : listOf d hs with
      | none => simp only [e2] at z
      | some es =>
        simp only [e2] at z
        obtain ⟨a, us, rfl, q, rr⟩ := listOf_at S e2 rd
        exact ⟨a, us, rfl, .inl ⟨SqL.of q, fun p hp => new_tup S rr z hp⟩⟩
    simp only [e] at h
    cases d with
    | t es =>
      have rd0 := rd
      unfold Rp at rd
      obtain ⟨a, us, rfl, q, rr⟩ := rd
      exact ⟨a, us, rfl, .inr ⟨SqT.of (S.sub _ _ q), h.now S _ rd0⟩⟩
    | _ =>
      refine gen ?_
      cases e2 : listOf _ hs with
      | none => simp only [e2] at h; exact h.elim
      | some es => simp only [e2] at h; exact h
theorem blsOf_rps {ρ : List Addr} {F : Hp} : ∀ {ds : List D} {bs : List Bool} {vs : List V}, blsOf ds = some bs → Rps c ρ F ds vs → vs = bs.map V.bl
  | [], bs, vs, h, r => by unfold Rps at r; subst r; cases h; rfl
  | d :: ds, bs, vs, h, r => by
    unfold Rps at r
    obtain ⟨v, r', rfl, r1, r2⟩ := r
    cases d <;> first | (simp [blsOf] at h; done) | skip
    rename_i b
    unfold blsOf at h
    cases e : blsOf ds with
    | none => rw [e] at h; cases h
    | some bs' =>
      rw [e] at h
      cases h
      rw [blsOf_rps e r2, show v = .bl b from r1]
      rfl
theorem jc_all (hc : X.calm = true) : JC c X (.builtin "all") vAll := by
  refine ⟨_, cr_all hc, fun w hs ds vs Q E S r h => ?_⟩
  unfold vAll at h
  cases e : ((one1 ds).bind fun d => listOf d hs).bind blsOf with
  | none => simp only [e] at h; exact h.elim
  | some bs =>
    simp only [e] at h
    cases e1 : one1 ds with
    | none => simp [e1] at e
    | some d =>
      obtain rfl := one1_some e1
      obtain ⟨v, rfl, rd⟩ := rps1 r
      cases e2 : listOf d hs with
      | none => simp [e1, e2] at e
      | some es =>
        simp only [e1, e2, Option.bind_some] at e
        obtain ⟨a, us, rfl, q, rr⟩ := listOf_at S e2 rd
        exact ⟨a, bs, rfl, by rw [← blsOf_rps e rr]; exact SqL.of q, h.now S _ rfl⟩
/-- isinstance of built-in types -/
theorem isi_ty {w : Wd} {hs : Hs} {d : D} {v : V} {T : String} {b : Bool} (S : SR c w hs) (r : Rp c w.ρ w.F d v) (h : isiB d T hs = some b) (hT : (["bool", "int", "str", "tuple", "list"] : List String).contains T = true) (hK : X.K = c.K) :
    ∃ t, TyX X.K w.H v t ∧ PySem.W.kitOne X.K t (.type T) = some b := by
  have hT2 : T = "bool" ∨ T = "int" ∨ T = "str" ∨ T = "tuple" ∨ T = "list" := by simpa using hT
  cases d <;> first | (simp [isiB] at h; done) | skip
  · obtain rfl := r; cases h; exact ⟨_, .base .non, by rcases hT2 with rfl | rfl | rfl | rfl | rfl <;> exact kit_ty (by decide +kernel)⟩
  · obtain rfl := r; cases h; exact ⟨_, .base (.bl _), by rcases hT2 with rfl | rfl | rfl | rfl | rfl <;> exact kit_ty (by decide +kernel)⟩
  · obtain rfl := r; cases h; exact ⟨_, .base (.int _), by rcases hT2 with rfl | rfl | rfl | rfl | rfl <;> exact kit_ty (by decide +kernel)⟩
  · obtain rfl := r; cases h; exact ⟨_, .base (.str _), by rcases hT2 with rfl | rfl | rfl | rfl | rfl <;> exact kit_ty (by decide +kernel)⟩
  · unfold Rp at r; obtain ⟨a, vs, rfl, q, _⟩ := r; cases h; exact ⟨_, .base (.tup (S.sub _ _ q)), by rcases hT2 with rfl | rfl | rfl | rfl | rfl <;> exact kit_ty (by decide +kernel)⟩
  · unfold Rp at r; obtain ⟨a, vs, rfl, q, _⟩ := r; cases h; exact ⟨_, .base (.lst (S.sub _ _ q)), by rcases hT2 with rfl | rfl | rfl | rfl | rfl <;> exact kit_ty (by decide +kernel)⟩
  · rename_i ds
    unfold Rp at r
    obtain ⟨a, vs, rfl, q, _⟩ := r
    cases h
    have q2 : SqT X.K w.H a vs := by rw [hK]; exact sqt_sub S.sub q
    have k : PySem.W.kitOne X.K (.type "tuple") (.type T) = some (T == "tuple") := by rcases hT2 with rfl | rfl | rfl | rfl | rfl <;> exact kit_ty (by decide +kernel)
    rcases q2 with (q2 | ⟨o, q2⟩) | q2
    · exact ⟨_, .base (.tup q2), k⟩
    · exact ⟨_, .fTuple q2, k⟩
    · obtain ⟨o, its, n, e1, e2, _⟩ := q2
      exact ⟨_, .kTuple e1 e2, k⟩
  · rename_i ds
    unfold Rp at r
    obtain ⟨a, vs, rfl, ⟨ob, q, _⟩, _⟩ := r
    cases h
    exact ⟨_, .fTuple (S.sub _ _ q), by rcases hT2 with rfl | rfl | rfl | rfl | rfl <;> exact kit_ty (by decide +kernel)⟩
  · unfold Rp at r
    obtain ⟨a, rfl, q⟩ := r
    rename_i n
    have h2 : (match hs[n]? with
      | some (O.lst _) => some (T == "list")
      | _ => none) = some b := h
    cases e : hs[n]? with
    | none => rw [e] at h2; cases h2
    | some o =>
      rw [e] at h2
      cases o with
      | lst ds =>
        cases h2
        obtain ⟨ho, e1, vs, rfl, rr⟩ := loc_at S q e
        exact ⟨_, .base (.lst e1), by rcases hT2 with rfl | rfl | rfl | rfl | rfl <;> exact kit_ty (by decide +kernel)⟩
      | _ => cases h2
theorem jc_isi (hK : X.K = c.K) : JC c X (.builtin "isinstance") vIsi := by
  refine ⟨_, call_isi, fun w hs ds vs Q E S r h => ?_⟩
  unfold vIsi at h
  split at h
  · rename_i d T e
    obtain rfl := two2_some e
    obtain ⟨v, u, rfl, r1, r2⟩ := rps2 r
    split at h
    · rename_i b e2
      split at h
      · rename_i hT
        obtain ⟨t, ty, k⟩ := isi_ty S r1 e2 hT hK
        exact ⟨v, u, t, .type T, b, rfl, by rw [show u = .ty T from r2]; exact .ty _, ty, k, h.now S _ rfl⟩
      · exact h.elim
    · exact h.elim
  · exact h.elim
end
end Mm
namespace Mm
open PySem PySem.Spec PyProof.Rows L2 PySem.W
section
variable {c : Ct} {X : Cx}
theorem ins_perm (i : Int) : ∀ l : List Int, (insI i l).Perm (i :: l)
  | [] => List.Perm.refl _
  | j :: r => by
    unfold insI
    split
    · exact List.Perm.refl _
    · exact ((ins_perm i r).cons j).trans (List.Perm.swap i j r)
theorem sort_perm : ∀ l : List Int, (sortI l).Perm l
  | [] => List.Perm.refl _
  | i :: r => (ins_perm i _).trans ((sort_perm r).cons i)
theorem ins_sorted {i : Int} : ∀ {l : List Int}, l.Pairwise (· ≤ ·) → (insI i l).Pairwise (· ≤ ·)
  | [], _ => List.pairwise_singleton _ _
  | j :: r, h => by
    obtain ⟨h1, h2⟩ := List.pairwise_cons.mp h
    unfold insI
    split
    · rename_i hij
      refine List.pairwise_cons.mpr ⟨fun x hx => ?_, h⟩
      rcases List.mem_cons.mp hx with rfl | hx
      · exact hij
      · exact Int.le_trans hij (h1 x hx)
    · rename_i hij
      refine List.pairwise_cons.mpr ⟨fun x hx => ?_, ins_sorted h2⟩
      rcases List.mem_cons.mp ((ins_perm i r).mem_iff.mp hx) with rfl | hx
      · omega
      · exact h1 x hx
theorem sort_sorted : ∀ l : List Int, (sortI l).Pairwise (· ≤ ·)
  | [] => List.Pairwise.nil
  | _ :: r => ins_sorted (sort_sorted r)
theorem sorted_eq {a b : List Int} (p : a.Perm b) (ha : a.Pairwise (· ≤ ·)) (hb : b.Pairwise (· ≤ ·)) : a = b := p.eq_of_pairwise (fun x y _ _ h1 h2 => Int.le_antisymm h1 h2) ha hb
theorem intsOf_rps {ρ : List Addr} {F : Hp} : ∀ {ds : List D} {ns : List Int} {vs : List V}, intsOf ds = some ns → Rps c ρ F ds vs → vs = ns.map V.int
  | [], ns, vs, h, r => by unfold Rps at r; subst r; cases h; rfl
  | d :: ds, ns, vs, h, r => by
    unfold Rps at r
    obtain ⟨v, r', rfl, r1, r2⟩ := r
    cases d <;> first | (simp [intsOf] at h; done) | skip
    rename_i i
    unfold intsOf at h
    cases e : intsOf ds with
    | none => rw [e] at h; cases h
    | some ns' =>
      rw [e] at h
      cases h
      rw [intsOf_rps e r2, show v = .int i from r1]
      rfl
theorem ints_rps {ρ : List Addr} {F : Hp} : ∀ ns : List Int, Rps c ρ F (ns.map D.int) (ns.map V.int)
  | [] => Rps.nil
  | _ :: r => Rps.cons rfl (ints_rps r)
theorem CallR.or {f : Value} {r r' : List V → Hp → VK → Prop} (h : CallR X f r) (h' : CallR X f r') : CallR X f (fun xs H Q => r xs H Q ∨ r' xs H Q) := by
  intro pins s σ H xs us Q I rv q
  rcases q with q | q
  · exact h pins s σ H xs us Q I rv q
  · exact h' pins s σ H xs us Q I rv q
variable {W : WX}
theorem je_meth {T id : String} {name : Str} {o e : Expr} {es : List Expr} {mo : M} {mas : MA} {op : D → List D → Hs → R D} {ty : D → Hs → Bool} {apos cpos : Pos} (pa : PlainAttrs T) (slot : Slot T name id) (hty : typeOf (.builtin id) = pure (.type "method_descriptor")) (hm : JM c X T id op)
    (ht : ∀ (w : Wd) (hs : Hs) (x : D) (v : V), SR c w hs → Rp c w.ρ w.F x v → ty x hs = true → tyV X.K T v w.H) (ho : JE c X W o mo) (ha : JA c X W (e :: es) mas)
    (hbase : attributeBase o name X.env (eval o X.env) = eval o X.env := by rfl)
    (hfew : ((backTo cpos (starEach (e :: es) X.env)).all (fun x => !x.1) && (backToKw cpos (keywordEach [] X.env)).all (fun x => x.1.isSome)
      && decide ((e :: es).length + ([] : List Keyword).length + (if ([] : List Keyword).isEmpty then 0 else 1) < 30)) = true := by rfl)
    (hline : (apos.endLine == cpos.line) = true := by rfl) (hs : starEach (e :: es) X.env = (false, eval e X.env) :: starEach es X.env := by rfl) (hplain : (backTo cpos (starEach es X.env)).any (·.1) = false := by rfl) :
    JE c X W (.Call (.Attribute o name apos) (e :: es) [] cpos) (eMeth ty op mo mas) := by
  obtain ⟨r, pr, sr⟩ := hm.ex; obtain ⟨to, po, so⟩ := ho.ex; obtain ⟨ta, pt, sa⟩ := ha.ex
  refine ⟨_, pe_bm pa slot hty pr po pt hbase hfew hline hs hplain, fun w fs hs σ Q S E h => ?_⟩
  refine so w fs hs σ _ S E (h.bind.imp fun x h1 w1 l1 S1 p1 v1 r1 => ?_)
  split at p1
  · rename_i hT
    refine ⟨ht w1 h1 x v1 S1 r1 hT, sa w1 fs h1 σ _ S1 (E.le l1) (p1.bind.imp fun ds h2 w2 l2 S2 p2 vs rs => ?_)⟩
    exact sr w2 h2 x ds v1 vs Q _ S2 (r1.le l2) rs p2
  · exact p1.elim
theorem isLst_ty (w : Wd) (hs : Hs) (x : D) (v : V) (S : SR c w hs) (r : Rp c w.ρ w.F x v) (h : isLst x hs = true) : tyV X.K "list" v w.H := by
  have : ∃ es, listOf x hs = some es := by
    cases x with
    | l ds => exact ⟨ds, rfl⟩
    | loc n =>
      unfold isLst at h
      unfold listOf
      cases e : hs[n]? with
      | none => simp [e] at h
      | some o =>
        cases o with
        | lst ds => exact ⟨ds, by simp only [e]⟩
        | _ => simp [e] at h
    | _ => simp [isLst] at h
  obtain ⟨es, e⟩ := this
  obtain ⟨a, vs, rfl, q, _⟩ := listOf_at S e r
  exact .inl ⟨rfl, vs, SqL.of q⟩
/-- a tracked list at hand -/
theorem lst_of {w : Wd} {hs : Hs} {n : Nat} {v : V} {es : List D} (S : SR c w hs) (r : Rp c w.ρ w.F (.loc n) v) (e : hs[n]? = some (.lst es)) : ∃ a vs, v = .ref a ∧ w.ρ[n]? = some a ∧ w.H a = some (.lst vs) ∧ Rps c w.ρ w.F es vs := by
  unfold Rp at r
  obtain ⟨a, rfl, q⟩ := r
  obtain ⟨ho, e1, vs, rfl, rr⟩ := loc_at S q e
  exact ⟨a, vs, rfl, q, e1, rr⟩
theorem dk_of' {w : Wd} {hs : Hs} {n : Nat} {v : V} {es : List (Mm.Key × D)} (S : SR c w hs) (r : Rp c w.ρ w.F (.loc n) v) (e : hs[n]? = some (.dk es)) : ∃ a vs, v = .ref a ∧ w.ρ[n]? = some a ∧ w.H a = some (.dK vs) ∧ KR c w.ρ w.F es vs := by
  unfold Rp at r
  obtain ⟨a, rfl, q⟩ := r
  obtain ⟨ho, e1, vs, rfl, k1, rr⟩ := loc_at S q e
  exact ⟨a, vs, rfl, q, e1, k1, rr⟩
/-- behind a change of a tracked list -/
theorem put_lst {w : Wd} {hs : Hs} {n : Nat} {a : Addr} {es es' : List D} {vs' : List V} {d : D} {v : V} {Q : VK} {E : XK} (S : SR c w hs) (q : w.ρ[n]? = some a) (e : hs[n]? = some (.lst es)) (r : Rps c w.ρ w.F es' vs') (rd : Rp c w.ρ w.F d v) (h : Post c w (.ok d (hs.set n (.lst es'))) Q E) : Q v (upd w.H a (.lst vs')) := by
  obtain ⟨l, S'⟩ := S.put (o := .lst es') (ho := .lst vs') q ⟨_, e, by simp⟩ ⟨vs', rfl, r⟩
  exact h _ l S' v (rd.le l)
theorem jm_append : JM c X "list" "list.append" mAppend := by
  refine ⟨_, mt_append, fun w hs x ds vx vs Q E S rx r h => ?_⟩
  unfold mAppend at h
  split at h
  · rename_i n d e
    obtain rfl := one1_some e
    obtain ⟨v, rfl, rd⟩ := rps1 r
    split at h
    · rename_i es e2
      split at h
      · rename_i hl
        obtain ⟨a, us, rfl, q, e3, rr⟩ := lst_of S rx e2
        exact ⟨a, us, v, rfl, rfl, e3, by rw [rr.length]; exact sz_lt hl, put_lst S q e2 (rr.append (Rps.one rd)) (d := .non) rfl h⟩
      · exact h.elim
    · exact h.elim
  · exact h.elim
theorem eraseIdx_rps {ρ : List Addr} {F : Hp} : ∀ {ds : List D} {vs : List V} (k : Nat), Rps c ρ F ds vs → Rps c ρ F (ds.eraseIdx k) (vs.eraseIdx k)
  | [], vs, k, r => by unfold Rps at r; subst r; simp; exact Rps.nil
  | d :: ds, vs, 0, r => by unfold Rps at r; obtain ⟨v, r', rfl, r1, r2⟩ := r; exact r2
  | d :: ds, vs, k + 1, r => by
    unfold Rps at r
    obtain ⟨v, r', rfl, r1, r2⟩ := r
    exact Rps.cons r1 (eraseIdx_rps k r2)
theorem jm_popAt : JM c X "list" "list.pop" mPopAt := by
  refine ⟨_, mt_popAt, fun w hs x ds vx vs Q E S rx r h => ?_⟩
  unfold mPopAt at h
  split at h
  · rename_i n i e
    obtain rfl := int1_some e
    obtain ⟨v, rfl, rd⟩ := rps1 r
    split at h
    · rename_i es e2
      split at h
      · rename_i hi
        split at h
        · rename_i d e3
          obtain ⟨a, us, rfl, q, e4, rr⟩ := lst_of S rx e2
          obtain ⟨y, e5, r5⟩ := rr.get e3
          have hlt : i.toNat < us.length := (List.getElem?_eq_some_iff.mp e5).1
          exact ⟨a, us, i, i.toNat, y, rfl, by rw [show v = .int i from rd], e4, by omega, by omega, seqIndex_of hi.1 (by omega), e5, put_lst S q e2 (eraseIdx_rps _ rr) r5 h⟩
        · exact h.elim
      · exact h.elim
    · exact h.elim
  · exact h.elim
end
end Mm
namespace Mm
open PySem PySem.Spec PyProof.Rows L2 PySem.W
section
variable {c : Ct} {X : Cx} {W : WX} {a e : Expr} {es : List Expr} {ma : M} {mas : MA}
theorem set_rps {ρ : List Addr} {F : Hp} {d : D} {v : V} (rd : Rp c ρ F d v) : ∀ {ds : List D} {vs : List V} (k : Nat), Rps c ρ F ds vs → Rps c ρ F (ds.set k d) (vs.set k v)
  | [], vs, k, r => by unfold Rps at r; subst r; simp; exact Rps.nil
  | d :: ds, vs, 0, r => by unfold Rps at r; obtain ⟨v, r', rfl, r1, r2⟩ := r; exact Rps.cons rd r2
  | d :: ds, vs, k + 1, r => by
    unfold Rps at r
    obtain ⟨v, r', rfl, r1, r2⟩ := r
    exact Rps.cons r1 (set_rps rd k r2)
theorem ixN_l2 {n : Nat} {i : Int} {j : Nat} (h : Mm.ixN n i = some j) : L2.ixN n i = some j := by
  unfold Mm.ixN at h
  unfold L2.ixN
  by_cases h0 : 0 ≤ i
  · rw [if_pos h0] at h ⊢; exact h
  · rw [if_neg h0] at h ⊢
    by_cases h1 : 0 ≤ i + (n : Int)
    · rw [if_pos h1] at h; rw [if_pos (by omega)]; exact h
    · rw [if_neg h1] at h; cases h
theorem PSet.or {r r' : TSet} (h : PSet X r) (h' : PSet X r') : PSet X (fun o i v H Q => r o i v H Q ∨ r' o i v H Q) := by
  intro pins s σ H o i v ov iv u Q I ro ri rv q
  rcases q with q | q
  · exact h pins s σ H o i v ov iv u Q I ro ri rv q
  · exact h' pins s σ H o i v ov iv u Q I ro ri rv q
theorem put_lstU {w : Wd} {hs : Hs} {n : Nat} {a : Addr} {es es' : List D} {vs' : List V} {Q : Hp → Prop} {E : XK} (S : SR c w hs) (q : w.ρ[n]? = some a) (e : hs[n]? = some (.lst es)) (r : Rps c w.ρ w.F es' vs') (h : PostG c w (.ok () (hs.set n (.lst es'))) (fun _ _ w' => Q w'.H) E) : Q (upd w.H a (.lst vs')) := by
  obtain ⟨l, S'⟩ := S.put (o := .lst es') (ho := .lst vs') q ⟨_, e, by simp⟩ ⟨vs', rfl, r⟩
  exact h _ l S'
theorem jset (hu : X.A.units + 1 < cLine) : JSet c X setIx := by
  refine ⟨_, PSet.or set_list (set_dict hu), fun w hs o i v vo vi vv Q E S ro ri rv h => ?_⟩
  unfold setIx at h
  split at h
  · rename_i n
    split at h
    · rename_i es k e
      split at h
      · rename_i j e2
        obtain ⟨a, us, rfl, q, e3, rr⟩ := lst_of S ro e
        exact .inl ⟨a, us, k, j, rfl, ri, e3, by rw [rr.length]; exact ixN_l2 e2, put_lstU S q e (set_rps rv j rr) h⟩
      · exact h.elim
    · rename_i kvs e
      split at h
      · rename_i k e2
        split at h
        · rename_i hl
          obtain ⟨a, us, rfl, q, e3, rr⟩ := dk_of' S ro e
          refine .inr ⟨a, _, rfl, .inl ⟨us, k, e3, key_at e2 ri, by rw [rr.len]; exact sz_lt hl, rfl⟩, ?_⟩
          have km := rr.put k rv
          obtain ⟨l, S'⟩ := S.put (o := .dk (dput kvs k v)) (ho := .dK (putK us k vv)) q ⟨_, e, by simp⟩ ⟨_, rfl, km.1, km.2⟩
          exact h _ l S'
        · exact h.elim
      · exact h.elim
    · rename_i kvs e
      split at h
      · rename_i k e2
        split at h
        · rename_i hl
          unfold Rp at ro
          obtain ⟨a, rfl, q⟩ := ro
          obtain ⟨ho, e3, us, rfl, k1, rr⟩ := loc_at S q e
          unfold keysOf at e2
          split at e2
          · rename_i ds
            unfold Rp at ri
            obtain ⟨b, vs, rfl, qb, rb⟩ := ri
            have ek := keys_at e2 rb
            refine .inr ⟨a, _, rfl, .inr ⟨us, k, b, e3, rfl, by rw [← ek]; exact S.sub _ _ qb, by rw [(show KR c w.ρ w.F kvs us from ⟨k1, rr⟩).len]; exact sz_lt hl, rfl⟩, ?_⟩
            have km := (show KR c w.ρ w.F kvs us from ⟨k1, rr⟩).put k rv
            obtain ⟨l, S'⟩ := S.put (o := .dt (dput kvs k v)) (ho := .dT (putK us k vv)) q ⟨_, e, by simp⟩ ⟨_, rfl, km.1, km.2⟩
            exact h _ l S'
          · cases e2
        · exact h.elim
      · exact h.elim
    · exact h.elim
  · exact h.elim
theorem je_frz (ha : JE c X W e ma) : JE c X W e (eFrz ma) := by
  refine je_ghost (fun w hs x vx Q E S r h => ?_) ha
  cases x with
  | loc n =>
    unfold frz at h
    unfold Rp at r
    obtain ⟨a, rfl, q⟩ := r
    cases e : hs[n]? with
    | none => simp only [e] at h; exact h.elim
    | some o =>
      cases o with
      | lst ds =>
        simp only [e] at h
        obtain ⟨ho, e3, us, rfl, rr⟩ := loc_at S q e
        obtain ⟨l, S'⟩ := S.freeze q e (by simp) e3
        exact h _ l S' (.ref a) (rp_l (rr.le l) upd_same)
      | dk kvs =>
        simp only [e] at h
        obtain ⟨ho, e3, us, rfl, k1, rr⟩ := loc_at S q e
        obtain ⟨l, S'⟩ := S.freeze q e (by simp) e3
        refine h _ l S' (.ref a) ?_
        unfold Rp
        exact ⟨a, us, rfl, upd_same, k1, rr.le l⟩
      | _ => simp only [e] at h; exact h.elim
  | _ => exact h.now S _ r
def vAddO (x y : D) (hs : Hs) : R D := match listOf x hs, listOf y hs with
  | some ds, some es => if ds.length + es.length ≤ 100000 then .ok (.loc hs.length) (hs ++ [.lst (ds ++ es)]) else .bad
  | _, _ => .bad
theorem jo_addO : JO c X (binaryOp .Add) vAddO := by
  refine ⟨_, op_cat, fun w hs x y vx vy Q E S rx ry h => ?_⟩
  unfold vAddO at h
  split at h
  · rename_i ds es e1 e2
    split at h
    · rename_i hl
      obtain ⟨a, vs, rfl, qa, ra⟩ := listOf_at S e1 rx
      obtain ⟨b, us, rfl, qb, rb⟩ := listOf_at S e2 ry
      exact ⟨a, b, vs, us, rfl, rfl, qa, qb, by rw [ra.length, rb.length]; exact sz_le hl, fun p hp => new_lstO S (ra.append rb) h hp⟩
    · exact h.elim
  · exact h.elim
theorem je_ty {T : String} {x : Str} {p : Pos} (hg : Gl X x) (hm : X.mg x = none) (hv : bootBuiltins x = some (.type T)) (hn : x ≠ "__name__" := by decide) (hd : (x == ("__debug__" : Str)) = false := by decide) : JE c X W (.Name x p) (eC (.ty T)) :=
  je_c (pe_bltn (v := .ty T) hg hm hv rfl hn hd) fun _ _ => rfl
variable {pos : Pos}
theorem rp_push {w : Wd} {hs : Hs} {p : Addr} (S : SR c w hs) : Rp c (w.ρ ++ [p]) w.F (.loc hs.length) (.ref p) := by
  refine rp_loc ?_
  rw [← S.len]; simp
theorem je_dt0 : JE c X W (.Dict [] [] pos) eDt := by
  refine ⟨_, pe_dnewT, fun w fs hs σ Q S E h p hp => ?_⟩
  obtain ⟨l, S'⟩ := S.push (o := .dt []) (ho := .dT []) hp ⟨[], rfl, rfl, Rps.nil⟩
  exact h _ l S' (.ref p) (rp_push S)
/-- what stands untracked since after w may be tracked -/
theorem SR.adopt {w w2 : Wd} {hs : Hs} {p : Addr} {o : O} {ho : HO} (S : SR c w2 hs) (l : w.le w2) (hp : w.H p = none) (there : ∃ u, w2.H p = some u) (nA : p ∉ w2.ρ) (nF : w2.F p = none) (r : RO c w2.ρ w2.F o ho) : w.le ⟨w2.ρ ++ [p], w2.F, upd w2.H p ho⟩ ∧ SR c ⟨w2.ρ ++ [p], w2.F, upd w2.H p ho⟩ (hs ++ [o]) := by
  obtain ⟨s, es, ns⟩ := l.pre
  refine ⟨⟨⟨s ++ [p], by show w2.ρ ++ [p] = _; rw [es, List.append_assoc], fun a ha => ?_⟩, l.sub, fun a u q hx => ?_, fun a u q => ?_, l.newF⟩, ⟨fun a u q => ?_, by simp [S.len], ?_, fun i a o' q1 q2 d => ?_, fun i a o' q1 q2 => ?_⟩⟩
  · rcases List.mem_append.mp ha with z | z
    · exact ns a z
    · have : a = p := by simpa using z
      rw [this]; exact hp
  · show upd w2.H p ho a = some u
    rw [upd_ne (ne_of_none q hp)]; exact l.keep a u q hx
  · obtain ⟨z, e2⟩ := l.there a u q
    exact ⟨z, by show upd w2.H p ho a = some z; rw [upd_ne (ne_of_none q hp)]; exact e2⟩
  · show upd w2.H p ho a = some u
    rw [upd_ne (ne_of_none q nF)]; exact S.sub a u q
  · exact List.nodup_append.mpr ⟨S.nd, by simp, fun a ha b hb => by
      have : b = p := by simpa using hb
      subst this
      exact fun z => nA (z ▸ ha)⟩
  · have q1' : (w2.ρ ++ [p])[i]? = some a := q1
    by_cases hi : i < w2.ρ.length
    · rw [List.getElem?_append_left hi] at q1'
      rw [List.getElem?_append_left (by rw [← S.len]; exact hi)] at q2
      exact S.fr i a o' q1' q2 d
    · rw [List.getElem?_append_right (Nat.le_of_not_lt hi)] at q1'
      have : a = p := by
        have := List.mem_of_getElem? q1'
        simpa using this
      subst this
      exact nF
  · have q1' : (w2.ρ ++ [p])[i]? = some a := q1
    by_cases hi : i < w2.ρ.length
    · rw [List.getElem?_append_left hi] at q1'
      rw [List.getElem?_append_left (by rw [← S.len]; exact hi)] at q2
      obtain ⟨ho', z1, z2⟩ := S.ob i a o' q1' q2
      exact ⟨ho', by show upd w2.H p ho a = some ho'; rw [upd_ne (fun z : a = p => nA (z ▸ List.mem_of_getElem? q1'))]; exact z1, z2.mono ⟨[p], rfl⟩ fun _ _ q => q⟩
    · have hi' : w2.ρ.length ≤ i := Nat.le_of_not_lt hi
      rw [List.getElem?_append_right hi'] at q1'
      rw [List.getElem?_append_right (by rw [← S.len]; exact hi')] at q2
      have ea : a = p := by
        have := List.mem_of_getElem? q1'
        simpa using this
      have eo : o' = o := by
        have := List.mem_of_getElem? q2
        simpa using this
      subst ea eo
      exact ⟨ho, upd_same, r.mono ⟨_, rfl⟩ fun _ _ q => q⟩
theorem intsAre_ns : ∀ {ns : List Int} {us : List Value}, Vals (ns.map V.int) us → PyProof.Rows.IntsAre us ns
  | [], _, .nil => .nil
  | n :: ns, _, .cons r t => by
    obtain ⟨k, rfl⟩ := r
    exact .cons n k (intsAre_ns t)
def tLenSetT (K : PySem.W.Frag) (ta : TE) : TE := fun σ H Q => ta σ H fun x H1 => ∃ (l : Addr) (ns : List Int), x = .ref l ∧ SqT K H1 l (ns.map V.int) ∧ ns.Nodup ∧ ns.length ≤ 4000 ∧ Q (.int (ns.length : Nat)) H1
theorem pe_lenSetT {a : Expr} {ta : TE} {p p2 q pos : Pos} (hg : Gl X "len") (hm : X.mg "len" = none) (hg2 : Gl X "set") (hm2 : X.mg "set" = none) (ha : PE X a ta) (hc : X.calm = true)
    (na : starEach [a] X.env = (false, eval a X.env) :: starEach [] X.env := by rfl) : PE X (.Call (.Name "len" p) [.Call (.Name "set" p2) [a] [] q] [] pos) (tLenSetT X.K ta) := by
  refine ⟨fun pins s σ H Q I h => ?_⟩
  refine Call_ (ld_blt I hg hm PySem.boot_len ?_)
  refine PyProof.Rows.callWith_builtin1 (PyProof.Rows.args_cons ?_ rfl) rfl rfl
  refine Call_ (ld_blt I hg2 hm2 PyProof.Rows.boot_set ?_)
  refine PyProof.Rows.callWith_type1 (PyProof.Rows.args_cons (thn (ha.run pins s σ H _ I h) fun v s1 ⟨x, H1, I1, r1, q1⟩ => PyProof.Rows.args_nil ?_) na) na rfl
  obtain ⟨l, ns, rfl, hq, hnd, hl, q1⟩ := q1
  cases r1
  obtain ⟨its, r, pl, hz⟩ := I1.tuple hq
  refine call_set_tupI ns (I1.ok.hd hc) pl (by simpa using intsAre_ns r) (by unfold scanBound; omega) fun h' tk n hS hn hk => ?_
  refine PyProof.Rows.args_nil ?_
  obtain ⟨o, es, ep, t, ho, hex, hd, hg0, nd, hmem, hb, hf, en, _⟩ := hS
  have I2 : Inv X pins σ H1 { s1 with heap := h', toks := tk } := I1.kept hk
  have el : n = ns.length := by
    have pm : (es.toList.map L2.keyOf).Perm ns := (List.perm_ext_iff_of_nodup nd hnd).mpr fun k => by
      rw [← hmem k]; simp
    have := pm.length_eq
    simp at this
    omega
  exact call_len_set ho hex hd hf (by omega) ⟨.int ns.length, H1, I2.tok _, ⟨_, by rw [en, el]⟩, q1⟩
def vLenSetT (d : D) (hs : Hs) : R D := match d with
  | .t es => match intsOf es with
    | some ns => if ns.length ≤ 4000 ∧ ns.Nodup then .ok (.int ns.length) hs else .bad
    | none => .bad
  | _ => .bad
theorem je_lenSetT {p p2 q pos : Pos} (hc : X.calm = true) (hg : Gl X "len") (hm : X.mg "len" = none) (hg2 : Gl X "set") (hm2 : X.mg "set" = none) (ha : JE c X W a ma) (na : starEach [a] X.env = (false, eval a X.env) :: starEach [] X.env := by rfl) :
    JE c X W (.Call (.Name "len" p) [.Call (.Name "set" p2) [a] [] q] [] pos) (eUn vLenSetT ma) := by
  obtain ⟨ta, pa, sa⟩ := ha.ex
  refine ⟨_, pe_lenSetT hg hm hg2 hm2 pa hc na, fun w fs hs σ Q S E h => ?_⟩
  refine sa w fs hs σ _ S E (h.bind.imp fun x h1 w1 l1 S1 p1 v1 r1 => ?_)
  unfold vLenSetT at p1
  split at p1
  · rename_i es
    split at p1
    · rename_i ns e
      split at p1
      · rename_i hn
        unfold Rp at r1
        obtain ⟨b, vs, rfl, q, rr⟩ := r1
        exact ⟨b, ns, rfl, by rw [← intsOf_rps e rr]; exact SqT.of (S1.sub _ _ q), hn.2, hn.1, p1.now S1 _ rfl⟩
      · exact p1.elim
    · exact p1.elim
  · exact p1.elim
end
end Mm
namespace Mm
open PySem PySem.Spec PyProof.Rows L2 PySem.W
section
variable {X : Cx} {c : Ct} {W : WX} {tg a : Expr} {ma : M} {mas : MA}
def iAny (K : PySem.W.Frag) (tl : TE) : TI := fun σ H R => tl σ H fun x H1 => ∃ a, x = .ref a ∧ (((∃ xs, SqL K H1 a xs) ∧ R (Itl K a) H1) ∨ ((∃ xs, SqT K H1 a xs) ∧ R (Itt K a) H1))
theorem pi_any {l : Expr} {tl : TE} (hl : PE X l tl) : PI X tg l (iAny X.K tl) := by
  refine ⟨fun pins s σ H R I h => ?_⟩
  refine thn (hl.run pins s σ H _ I h) fun v s1 ⟨x, H1, I1, r1, q1⟩ => ?_
  obtain ⟨a, e, q1⟩ := q1
  subst e
  cases r1
  rcases q1 with ⟨⟨xs, hq⟩, q⟩ | ⟨⟨xs, hq⟩, q⟩
  · obtain ⟨its, rv, p, hz⟩ := I1.list hq
    refine wpAny_pyIter_list p.isList ?_
    refine ⟨s1.heap.objs.size, [s1.heap.objs.size], _, _, H1, rfl, I1.kept (t' := s1.toks) fun b o e => Heap.get?_push_of_some _ e, turn_list a _, ⟨_, Heap.get?_push_size _ rfl, rfl, rfl⟩, fun b hb => ?_, q⟩
    have e : b = s1.heap.objs.size := by simpa using hb
    subst e
    exact I1.fpOk (Nat.le_refl _) (I1.hok.fresh (Nat.le_refl _))
  · obtain ⟨its, rv, p, hz⟩ := I1.tuple hq
    refine wpAny_pyIter_tuple (show s1.heap.IsTuple a its.toArray from p) ?_
    refine ⟨s1.heap.objs.size, [s1.heap.objs.size], _, _, H1, rfl, I1.kept (t' := s1.toks) fun b o e => Heap.get?_push_of_some _ e, turn_tuple a _, ⟨_, Heap.get?_push_size _ rfl, rfl, rfl⟩, fun b hb => ?_, q⟩
    have e : b = s1.heap.objs.size := by simpa using hb
    subst e
    exact I1.fpOk (Nat.le_refl _) (I1.hok.fresh (Nat.le_refl _))
theorem ji_any (hK : X.K = c.K) (ha : JE c X W a ma) : JI c X W tg a (iSeq ma) := by
  obtain ⟨t, p, s⟩ := ha.ex
  refine ⟨_, pi_any p, fun w fs hs σ Rr S E h => ?_⟩
  refine s w fs hs σ _ S E ((PostG.bind h).imp fun d h1 w1 l1 S1 p1 v1 r1 => ?_)
  cases d with
  | l ds =>
    unfold Rp at r1
    obtain ⟨q, vs, rfl, hq, rs⟩ := r1
    exact ⟨q, rfl, .inl ⟨⟨vs, SqL.of (S1.sub _ _ hq)⟩, p1.now S1 _ (seqL_src (SqL.of hq) rs hK)⟩⟩
  | rl ds =>
    unfold Rp at r1
    obtain ⟨q, vs, rfl, hq, rs⟩ := r1
    exact ⟨q, rfl, .inl ⟨⟨vs, by rw [hK]; exact sql_sub S1.sub hq⟩, p1.now S1 _ (seqL_src hq rs hK)⟩⟩
  | loc n =>
    unfold Rp at r1
    obtain ⟨q, rfl, hq⟩ := r1
    cases e : h1[n]? with
    | none => simp only [e] at p1; exact p1.elim
    | some o =>
      cases o with
      | lst ds =>
        simp only [e] at p1
        obtain ⟨ho, e1, vs, rfl, rr⟩ := loc_at S1 hq e
        exact ⟨q, rfl, .inl ⟨⟨vs, SqL.of e1⟩, p1.now S1 _ (loc_src hq)⟩⟩
      | _ => simp only [e] at p1; exact p1.elim
  | st ds =>
    unfold Rp at r1
    obtain ⟨q, vs, rfl, hq, rs⟩ := r1
    exact ⟨q, rfl, .inr ⟨⟨vs, sqt_sub S1.sub (st_sqt hq)⟩, p1.now S1 _ (seqT_src (st_sqt hq) rs hK)⟩⟩
  | t ds =>
    unfold Rp at r1
    obtain ⟨q, vs, rfl, hq, rs⟩ := r1
    exact ⟨q, rfl, .inr ⟨⟨vs, SqT.of (S1.sub _ _ hq)⟩, p1.now S1 _ (seqT_src (SqT.of hq) rs hK)⟩⟩
  | _ => exact p1.elim
set_option maxHeartbeats 1000000 in
theorem meets_enumerate_new1 {v : Value} {o : Obj} {H : Heap → Prop} (B : Begins v o H) :
    Meets (Builtin.«enumerate.__new__» ⟨[.type "enumerate", v], []⟩) (fun _ R s => H s.heap ∧
      R (.ok (.ret (.ref (s.heap.push o).objs.size))) { s with heap := (s.heap.push o).push { cls := .type "enumerate", data := .fields #[.none, .bool false, .ref s.heap.objs.size, rawInt 0, .none, .none] } }) :=
  .of_wp fun prog w A R s h => by
    obtain ⟨hp, g, d, tk, os⟩ := s; obtain ⟨h1, h⟩ := h
    have hsub := sub_enumerate
    have q1 : ∀ {A' : Around} {E : Value → Shared → Prop} {Q : Value → Shared → Prop}, Q (.ref hp.objs.size) ⟨hp.push o, g, d, tk, os⟩ → wpAny (model prog w) A' (pyIter v) Q E ⟨hp, g, d, tk, os⟩ :=
      fun q => B.iter prog w _ _ ⟨hp, g, d, tk, os⟩ _ h1 q
    wp_walk using q1
    refine wpAny_stack_any fun st => wpAny_pure ?_
    split
    · rename_i c _ _ _ _ _
      cases (c == Value.type "enumerate")
      · wp_walk using q1
        exact ⟨_, rfl, h⟩
      · wp_walk using q1
        exact ⟨_, rfl, h⟩
    · wp_walk using q1
      exact ⟨_, rfl, h⟩
theorem call_enumerate_1 {prog : Program} {w : World} {A : Around} {E : Value → Shared → Prop} {s : Shared} {v : Value} {o : Obj} {H : Heap → Prop} {Q : Value → Shared → Prop} (B : Begins v o H) (h1 : H s.heap)
    (h : ∀ h', IsEnum h' (s.heap.objs.size + 1) s.heap.objs.size 0 .none → h'.get? s.heap.objs.size = some o → h'.objs.size = s.heap.objs.size + 2 →
      (∀ b o, s.heap.get? b = some o → h'.get? b = some o) → Q (.ref (s.heap.objs.size + 1)) { s with heap := h' }) :
    wpAny (model prog w) A (call (.type "enumerate") [v]) Q E s := by
  refine callType_new F.called_enumerate (by decide) (F.typeCall_enumerate_1 _) (F.newCall_enumerate_1 _) (fun obj => F.args_object_init_2 obj _) F.entry_enumerate_new
    (meets_enumerate_new1 B) ⟨h1, ?_⟩
  have hz : (s.heap.push o).objs.size = s.heap.objs.size + 1 := Heap.size_push ..
  show _ ∧ _
  rw [hz]
  have he : IsEnum ((s.heap.push o).push { cls := .type "enumerate", data := .fields #[.none, .bool false, .ref s.heap.objs.size, rawInt 0, .none, .none] }) (s.heap.objs.size + 1) s.heap.objs.size 0 .none := by
    have := Heap.get?_push_size (s.heap.push o) (o := { cls := .type "enumerate", data := .fields #[.none, .bool false, .ref s.heap.objs.size, rawInt 0, .none, .none] }) rfl
    rw [hz] at this; exact this
  refine ⟨⟨_, he, rfl⟩, h _ he (Heap.get?_push_of_some _ (Heap.get?_push_size _ B.free)) (by rw [Heap.size_push, hz]) fun b o x => Heap.get?_push_of_some _ (Heap.get?_push_of_some _ x)⟩
def IteT (K : PySem.W.Frag) (a : Addr) : It :=
  ⟨fun i H => ∃ (xs : List V) (x : V), SqT K H a xs ∧ xs[i]? = some x, fun i H v H' => ∃ T x, v = .ref T ∧ H T = none ∧ H' = upd H T (.tup [.int (i : Nat), x]) ∧ ∀ xs, SqT K H a xs → xs[i]? = some x, fun i H => ∃ xs : List V, SqT K H a xs ∧ xs.length ≤ i⟩
theorem turn_enumT {P : Program} {w : World} {K : PySem.W.Frag} {elts : List Expr} {kk : Nat} {tpos : Pos} (a e it : Addr) :
    Turn P w K (.Tuple elts kk tpos) (IteT K a) [e, it] e (fun i h => (∃ old, IsEnum h e it ((i : Nat) : Int) old) ∧ h.IsTupleIter it a i ∧ e ≠ it) where
  mem := by simp
  obj := fun i h st b hb => by
    obtain ⟨⟨old, he⟩, ⟨o, ho, hc, hd⟩, _⟩ := st
    have e' : b = e ∨ b = it := by simpa using hb
    rcases e' with z | z
    · rw [z]; exact ⟨_, he, fun v q => nomatch q⟩
    · rw [z]; exact ⟨o, ho, fun v q => by rw [hd] at q; cases q⟩
  keep := fun i h h' st k => let ⟨⟨old, he⟩, hi, hne⟩ := st; ⟨⟨old, k e (by simp) _ he⟩, hi.at fun o q => k it (by simp) o q, hne⟩
  item := by
    intro X hP hw hK hc i pins s σ H E I hf st hg
    subst hP hw hK
    obtain ⟨⟨old, he⟩, hit, hne⟩ := st
    obtain ⟨xs, x, hq, hx⟩ := hg
    obtain ⟨its, rv, p, hz⟩ := I.tuple hq
    obtain ⟨u, hu, ru⟩ := rv.get hx
    have hel : e < s.heap.objs.size := Heap.lt_size he
    have hil : it < s.heap.objs.size := by obtain ⟨_, q, _⟩ := hit; exact Heap.lt_size q
    have p' : s.heap.IsTuple a its.toArray := p
    have hai : a ≠ it := fun z => by
      obtain ⟨o1, e1, c1, _⟩ := hit
      obtain ⟨o2, e2, c2, _⟩ := p'
      rw [z] at e2
      rw [e1] at e2
      cases e2
      rw [c1] at c2
      injection c2 with z2
      exact absurd z2 (by decide)
    have hae : e ≠ a := fun z => by
      obtain ⟨o2, e2, c2, _⟩ := p'
      rw [← z] at e2
      have he' := he
      unfold IsEnum at he'
      rw [he'] at e2
      cases e2
      injection c2 with z2
      exact absurd z2 (by decide)
    have hd : X.A.in1.handled = none := I.ok.hd hc
    refine wpAny_pyNext_enum_itemD (Draws.tuple hd it a hai its.toArray) he ⟨hit, p'⟩ (by
      have := (List.getElem?_eq_some_iff.mp hu).1
      simpa using this) hne (by simp [hne, hae]) fun u' h' tk hu' ho hit' hT hsz hk => ?_
    have eu : u' = u := by
      have : its[i]? = some u' := by simpa using hu'
      rw [hu] at this
      cases this; rfl
    subst eu
    refine ⟨_, rfl, wpAny_letOwnedTupleGo_enum (s := { s with heap := h', toks := tk + 1 }) ho fun h'' he' sb => ?_⟩
    have hT2 : h''.get? s.heap.objs.size = some { cls := .type "tuple", data := .seq #[.int i tk, u'] } := (sb.2 _ (Nat.ne_of_gt hel)).trans hT
    have new : ObjOk X.prog X.w (upd H s.heap.objs.size (.tup [.int (i : Nat), x])) h'' s.heap.objs.size (.tup [.int (i : Nat), x]) :=
      ⟨by show 2 ≤ sizeLine; decide, [.int i tk, u'], .cons ⟨_, rfl⟩ (.cons ru .nil), ⟨_, hT2, rfl, _, rfl⟩⟩
    have I1 : Inv X pins σ (upd H s.heap.objs.size (.tup [.int (i : Nat), x])) { s with heap := h'', toks := tk + 1 } :=
      I.turnedNew (ch := [e, it]) (fun b ob hb q => (sb.2 b (fun z => hb (by simp [z]))).trans (hk b ob (fun z => hb (by simp [z])) (fun z => hb (by simp [z])) q)) hf (Nat.le_refl _) new
    refine ⟨.ref s.heap.objs.size, _, I1, rfl, ⟨_, x, rfl, I.hok.fresh (Nat.le_refl _), rfl, fun ys hy => by rw [I.tuple_inj hy hq]; exact hx⟩, ⟨⟨u', ?_⟩, hit'.1.at fun o q => (sb.2 it (Ne.symm hne)).trans q, hne⟩, fun b hb => ?_⟩
    · have e1 : ((i + 1 : Nat) : Int) = (i : Int) + 1 := by omega
      rw [e1]; exact he'
    · have hb' : b < s.heap.objs.size := by
        have e' : b = e ∨ b = it := by simpa using hb
        rcases e' with z | z
        · rw [z]; exact hel
        · rw [z]; exact hil
      rw [upd_ne (Nat.ne_of_lt hb')]
      exact (hf b hb).1
  done := by
    intro X hP hw hK hc i pins s σ H E I hf st hg
    subst hP hw hK
    obtain ⟨⟨old, he⟩, hit, hne⟩ := st
    obtain ⟨xs, hq, hx⟩ := hg
    obtain ⟨its, rv, p, hz⟩ := I.tuple hq
    obtain ⟨f0, f1, f2, f3, f4, f5⟩ := hf it (by simp)
    have hl := rv.length
    have p' : s.heap.IsTuple a its.toArray := p
    have hT : s.TypeIs (.ref e) "enumerate" := ⟨_, he, rfl⟩
    unfold pyNext
    refine wpAny_bind (wpAny_attempt (wpAny_callSpecial?_slot (name := Str.ofString "__next__") hT F.slot_enumerate_next
      (wpAny_call_entry F.slot_enumerate_next hT F.entry_enumerate_next ?_ (F.args_enumerate_next_1 _))))
    show wpAny _ _ (field (.ref e) 2 >>= _) _ _ _
    refine wpAny_bind (wpAny_field he rfl (x := .ref it) rfl ?_)
    refine wpAny_bind (wpAny_nextOf_tuple_end (I.ok.hd hc) hit p' (by simp; omega) fun h' x he' hx' => ?_)
    obtain ⟨o, ho, hc2⟩ := hx'
    refine wpAny_bind (wpAny_isInstance (T := "StopIteration") (b := true) ⟨o, ho, hc2⟩ isSubtype_stop ?_)
    exact wpAny_pure ⟨rfl, I.turned (t' := s.toks) (fun b o hb q => he' b o hb q) f0 f1 f3 f4 f5⟩
  self := fun A i s Q E st h => let ⟨⟨_, he⟩, _⟩ := st; wpAny_pyIter_enum he h
def iEnumA (K : PySem.W.Frag) (ta : TA) : TI := fun σ H R => ta σ H fun vs H1 => ∃ a, vs = [.ref a] ∧ ((∃ xs, SqL K H1 a xs ∧ R (L2.Ite K a) H1) ∨ ∃ xs, SqT K H1 a xs ∧ R (IteT K a) H1)
theorem pi_enumA {X : Cx} {e : Expr} {ta : TA} {p pos tpos : Pos} {elts : List Expr} {kk : Nat} (hg : Gl X "enumerate") (hm : X.mg "enumerate" = none) (ha : PA X [e] ta) (hs : starEach [e] X.env = [(false, eval e X.env)] := by rfl) :
    PI X (.Tuple elts kk tpos) (.Call (.Name "enumerate" p) [e] [] pos) (iEnumA X.K ta) := by
  refine ⟨fun pins s σ H R I h => ?_⟩
  refine Call_ (ld_blt I hg hm boot_enumerate (PyProof.Rows.callWith_type1 (thn (ha.run pos pins s σ H _ I h) fun us s1 ⟨vs, H1, I1, r1, q1⟩ => ?_) hs rfl))
  obtain ⟨a, ex, q1⟩ := q1
  subst ex
  have fin : ∀ (h' : Heap), (∀ b o, s1.heap.get? b = some o → h'.get? b = some o) → Inv X pins σ H1 { s1 with heap := h' } := fun h' hk => I1.kept (t' := s1.toks) hk
  have fp : ∀ b ∈ [s1.heap.objs.size + 1, s1.heap.objs.size], FpOk X pins H1 b := fun b hb => by
    have e' : b = s1.heap.objs.size + 1 ∨ b = s1.heap.objs.size := by simpa using hb
    have hle : s1.heap.objs.size ≤ b := by
      rcases e' with z | z
      · rw [z]; exact Nat.le_add_right _ _
      · rw [z]; exact Nat.le_refl _
    exact I1.fpOk hle (I1.hok.fresh hle)
  cases r1 with
  | cons r rr =>
    cases rr
    cases r
    rcases q1 with ⟨xs, hq, q⟩ | ⟨xs, hq, q⟩
    · obtain ⟨its, rv, p', hz⟩ := I1.list hq
      refine call_enumerate_list p'.isList fun h' he hit hsz hk => wpAny_pyIter_enum he ?_
      exact ⟨s1.heap.objs.size + 1, [s1.heap.objs.size + 1, s1.heap.objs.size], _, _, H1, rfl, fin h' hk, turn_enum a (s1.heap.objs.size + 1) s1.heap.objs.size, ⟨⟨.none, he⟩, hit, Nat.succ_ne_self _⟩, fp, q⟩
    · obtain ⟨its, rv, p', hz⟩ := I1.tuple hq
      refine call_enumerate_1 (begins_tuple a its.toArray) (show s1.heap.IsTuple a its.toArray from p') fun h' he hit hsz hk => wpAny_pyIter_enum he ?_
      exact ⟨s1.heap.objs.size + 1, [s1.heap.objs.size + 1, s1.heap.objs.size], _, _, H1, rfl, fin h' hk, turn_enumT a (s1.heap.objs.size + 1) s1.heap.objs.size, ⟨⟨.none, he⟩, ⟨_, hit, rfl, rfl⟩, Nat.succ_ne_self _⟩, fp, q⟩
/-- enumerate over a list or a tuple -/
def _root_.Mm.iEnum2 (as : MA) : MI := fun fs hs => (as fs hs).bind fun d h1 => match one1 d with
  | some (.l ds) => .ok (enumD ds, none) h1
  | some (.t ds) => .ok (enumD ds, none) h1
  | some (.loc n) => match h1[n]? with
    | some (.lst ds) => .ok (enumD ds, some (n, ds)) h1
    | _ => .bad
  | _ => .bad
theorem ji_enum2 {p tpos pos : Pos} {elts : List Expr} {kk : Nat} (hg : Gl X "enumerate") (hm : X.mg "enumerate" = none) (ha : JA c X W [a] mas) (hs : starEach [a] X.env = [(false, eval a X.env)] := by rfl) :
    JI c X W (.Tuple elts kk tpos) (.Call (.Name "enumerate" p) [a] [] pos) (Mm.iEnum2 mas) := by
  obtain ⟨t, pa, s⟩ := ha.ex
  refine ⟨_, pi_enumA hg hm pa hs, fun w fs hs σ Rr S E h => ?_⟩
  refine s w fs hs σ _ S E (h.bind.imp fun ds h1 w1 l1 S1 p1 vs rs => ?_)
  cases e : one1 ds with
  | none => simp only [e] at p1; exact p1.elim
  | some d =>
    simp only [e] at p1
    obtain rfl := one1_some e
    unfold Rps at rs
    obtain ⟨v, r, rfl, r1, h2⟩ := rs
    unfold Rps at h2
    subst h2
    have tupd : ∀ (w' : Wd) (hs' : Hs) (i : Nat) (x : D) (u : L2.V), SR c w' hs' → Rp c w'.ρ w'.F x u → ∀ (T : Addr), w'.H T = none → ∃ w'' : Wd, w'.le w'' ∧ w''.H = upd w'.H T (.tup [.int (i : Nat), u]) ∧ SR c w'' hs' ∧ Rp c w''.ρ w''.F (.t [.int (i : Nat), x]) (.ref T) := fun w' hs' i x u S' ru T hT => by
      obtain ⟨l, S2⟩ := S'.froz hT (.tup [.int (i : Nat), u])
      exact ⟨_, l, rfl, S2, rp_t (Rps.cons rfl (Rps.one (ru.le l))) upd_same⟩
    cases d with
    | l xs =>
      unfold Rp at r1
      obtain ⟨q, vs, rfl, hq, rr⟩ := r1
      have hq1 : SqL X.K w1.H q vs := SqL.of (S1.sub _ _ hq)
      refine ⟨q, rfl, .inl ⟨vs, hq1, p1.now S1 _ ⟨fun i d w' hs' l S' _ e2 => ?_, fun w' hs' l S' _ => ?_⟩⟩⟩
      · obtain ⟨x, e3, rfl⟩ := enum_get e2
        obtain ⟨u, e4, r4⟩ := rr.get e3
        have hq' : SqL X.K w'.H q vs := SqL.of (S'.sub _ _ (l.sub _ _ hq))
        refine ⟨⟨vs, u, hq', e4⟩, fun y H' hy => ?_⟩
        obtain ⟨T, x', rfl, hT, rfl, hx⟩ := hy
        have e5 := hx vs hq'
        rw [e4] at e5
        cases e5
        exact tupd w' hs' i x u S' (r4.le l) T hT
      · refine ⟨vs, SqL.of (S'.sub _ _ (l.sub _ _ hq)), ?_⟩
        show vs.length ≤ (enumD xs).length
        rw [enum_len, rr.length]
        exact Nat.le_refl _
    | t xs =>
      unfold Rp at r1
      obtain ⟨q, vs, rfl, hq, rr⟩ := r1
      have hq1 : SqT X.K w1.H q vs := SqT.of (S1.sub _ _ hq)
      refine ⟨q, rfl, .inr ⟨vs, hq1, p1.now S1 _ ⟨fun i d w' hs' l S' _ e2 => ?_, fun w' hs' l S' _ => ?_⟩⟩⟩
      · obtain ⟨x, e3, rfl⟩ := enum_get e2
        obtain ⟨u, e4, r4⟩ := rr.get e3
        have hq' : SqT X.K w'.H q vs := SqT.of (S'.sub _ _ (l.sub _ _ hq))
        refine ⟨⟨vs, u, hq', e4⟩, fun y H' hy => ?_⟩
        obtain ⟨T, x', rfl, hT, rfl, hx⟩ := hy
        have e5 := hx vs hq'
        rw [e4] at e5
        cases e5
        exact tupd w' hs' i x u S' (r4.le l) T hT
      · refine ⟨vs, SqT.of (S'.sub _ _ (l.sub _ _ hq)), ?_⟩
        show vs.length ≤ (enumD xs).length
        rw [enum_len, rr.length]
        exact Nat.le_refl _
    | loc n =>
      unfold Rp at r1
      obtain ⟨q, rfl, hq⟩ := r1
      cases z : h1[n]? with
      | none => simp only [z] at p1; exact p1.elim
      | some o =>
        cases o with
        | lst xs =>
          simp only [z] at p1
          obtain ⟨ho, e1, vs, rfl, rr⟩ := loc_at S1 hq z
          refine ⟨q, rfl, .inl ⟨vs, SqL.of e1, p1.now S1 _ ⟨fun i d w' hs' l S' st e2 => ?_, fun w' hs' l S' st => ?_⟩⟩⟩
          · obtain ⟨x, e3, rfl⟩ := enum_get e2
            obtain ⟨ho', e6, vs', rfl, rr'⟩ := loc_at S' (rho_le l hq) st
            obtain ⟨u, e4, r4⟩ := rr'.get e3
            refine ⟨⟨vs', u, SqL.of e6, e4⟩, fun y H' hy => ?_⟩
            obtain ⟨T, x', rfl, hT, rfl, hx⟩ := hy
            have e5 := hx vs' (SqL.of e6)
            rw [e4] at e5
            cases e5
            exact tupd w' hs' i x u S' r4 T hT
          · obtain ⟨ho', e6, vs', rfl, rr'⟩ := loc_at S' (rho_le l hq) st
            refine ⟨vs', SqL.of e6, ?_⟩
            show vs'.length ≤ (enumD xs).length
            rw [enum_len, rr'.length]
            exact Nat.le_refl _
        | _ => simp only [z] at p1; exact p1.elim
    | _ => exact p1.elim
end
end Mm
namespace Mm
open PySem PySem.Spec PyProof.Rows L2
/-- a def that forgets nothing -/
def callA (np n : Nat) (body : MS) : List D → Hs → R D := fun ds hs => if ds.length = np then runD n body ds hs else .bad
section
variable {P : Program} {pw : World} {K : PySem.W.Frag} {mg : Str → Option Value} {base : Heap} {x qual : Str} {params : Arguments} {body : List Stmt} {scope : Scope} {dvs : List V} {kws : List (Str × V)} {f : Addr} {fd : FuncData} {c : Ct}
theorem def_okA {N ps : List Str} {k : Nat} (np n : Nat) {m : MS} (Fd : FunD K x qual params body scope dvs kws f fd) (S : FnScope N ps scope) (hps : ps.length = np) (hN : N.length = n)
    (hb : ∀ (cdv : Value) (A : Around) (outer : List Env) (s : Shared) (H : Hp) (E : XK), Room k (A.deeper (envOfC qual scope s.heap.objs.size f cdv)) →
      JSs c (cxOf (L2.CX P pw) P pw K mg base N qual scope f cdv A outer s H E) (fun cls d _ H => E cls d H) body m) :
    FnOk P pw K mg base (L2.CX P pw) (k + 1) f fd ps (SpC c (callA np n m)) := by
  refine Fd.ok S (fun vs H Q E h => ?_) (fun cdv A outer s H vs Q E hr h => ?_)
  · obtain ⟨ρ, F, hs, ds, S, r, p⟩ := h
    unfold callA at p
    split at p
    · rename_i hl
      rw [r.length, hl, hps]
    · exact p.elim
  · obtain ⟨ρ, F, hs, ds, S, r, p⟩ := h
    obtain ⟨t, pt, st⟩ := (hb cdv A outer s H E hr).ex
    refine ⟨t, pt, ?_⟩
    refine st ⟨ρ, F, H⟩ (Mm.start n ds) hs (L2.start N vs) _ S (start_re (w := ⟨ρ, F, H⟩) hN r) ?_
    unfold callA at p
    split at p
    · unfold runD at p
      cases e : m (Mm.start n ds) hs with
      | nx fs' h' =>
        rw [e] at p
        exact fun w' σ' l S' E' => p w' l S' .non rfl
      | ret d h' =>
        rw [e] at p
        exact fun w' v l S' rv => p w' l S' v rv
      | brk fs' h' => rw [e] at p; exact p.elim
      | cnt fs' h' => rw [e] at p; exact p.elim
      | bad => rw [e] at p; exact p.elim
      | exc x q fs' h' =>
        rw [e] at p
        exact fun w' od σ' l S' E' z => p w' od l S' z
    · exact p.elim
end
end Mm
namespace Mm
open PySem PySem.Spec PyProof.Rows L2
def insOf (x : D) (hs : Hs) : Option (Str × List (Str × D)) := match x with
  | .loc n => match hs[n]? with
    | some (.ins c fs) => some (c, fs)
    | _ => none
  | _ => none
/-- x.f, x of one of these classes -/
def vFld (cs : List Str) (f : Str) (x : D) (hs : Hs) : R D := match insOf x hs with
  | some (C, fs) => if C ∈ cs then (match dget fs f with
    | some d => .ok d hs
    | none => .bad) else .bad
  | none => .bad
def isIns (C m : Str) (x : D) (hs : Hs) : Bool := match insOf x hs with
  | some (c, fs) => decide (c = C) && (dget fs m).isNone
  | none => false
/-- o.m(..): the object, then the arguments, then the call; dd: defaults -/
def eMethO (C m : Str) (cf : List D → Hs → R D) (o : M) (as : MA) : M := fun fs hs => (o fs hs).bind fun x h1 => if isIns C m x h1 = true then (as fs h1).bind fun xs h2 => cf (x :: xs) h2 else .bad
end Mm
namespace Mm
open PySem PySem.Spec PyProof.Rows L2 PySem.SeqAt
section
variable {c : Ct} {X : Cx}
theorem intsOf_map : ∀ {ds : List D} {ns : List Int}, intsOf ds = some ns → ds = ns.map .int
  | [], ns, h => by cases h; rfl
  | .int n :: r, ns, h => by
    cases e : intsOf r with
    | none => simp [intsOf, e] at h
    | some ms =>
      simp [intsOf, e] at h
      subst h
      rw [intsOf_map e]; rfl
  | .non :: _, _, h => by cases h
  | .bl _ :: _, _, h => by cases h
  | .loc _ :: _, _, h => by cases h
  | .str _ :: _, _, h => by cases h
  | .t _ :: _, _, h => by cases h
  | .st _ :: _, _, h => by cases h
  | .l _ :: _, _, h => by cases h
  | .dk _ _ :: _, _, h => by cases h
  | .rt _ :: _, _, h => by cases h
  | .rl _ :: _, _, h => by cases h
  | .g _ :: _, _, h => by cases h
  | .ty _ :: _, _, h => by cases h
theorem rps_intsV {ρ : List Addr} {F : Hp} : ∀ {ns : List Int} {vs : List V}, Rps c ρ F (ns.map .int) vs → vs = ns.map V.int
  | [], vs, r => by have r' : Rps c ρ F [] vs := r; unfold Rps at r'; exact r'
  | n :: ns, vs, r => by
    have r' : Rps c ρ F (.int n :: ns.map .int) vs := r
    unfold Rps at r'
    obtain ⟨v, r2, rfl, h1, h2⟩ := r'
    obtain rfl := h1
    rw [rps_intsV h2]; rfl
end
end Mm
namespace Mm
open PySem PySem.Spec PyProof.Rows L2
open PySem.AutoSeq1 (wpAny_loadPart')
section
variable {prog : Program} {w : World} {A : Around} {E : Value → Shared → Prop} {s : Shared}
theorem range_rev {α : Type} (xs : List α) : (List.range xs.length).filterMap (fun (k : Nat) => xs[((xs.length : Int) - 1 + -1 * (k : Int)).toNat]?) = xs.reverse := by
  have e : (List.range xs.length).map (fun (k : Nat) => xs[((xs.length : Int) - 1 + -1 * (k : Int)).toNat]?) = xs.reverse.map some := by
    apply List.ext_getElem
    · simp
    · intro i h1 h2
      have hi : i < xs.length := by simpa using h1
      have e2 : ((xs.length : Int) - 1 + -1 * (i : Int)).toNat = xs.length - 1 - i := by omega
      simp only [List.getElem_map, List.getElem_range, e2, List.getElem_reverse]
      rw [List.getElem?_eq_getElem (by omega)]
  have e3 : ∀ l : List Nat, l.filterMap (fun (k : Nat) => xs[((xs.length : Int) - 1 + -1 * (k : Int)).toNat]?) = (l.map (fun (k : Nat) => xs[((xs.length : Int) - 1 + -1 * (k : Int)).toNat]?)).filterMap id := fun l => by rw [List.filterMap_map]; rfl
  rw [e3, e, List.filterMap_map]
  simp
theorem pick_rev (its : List Value) : slicePick its.toArray none none (some (-1)) = its.reverse.toArray := by
  unfold slicePick
  have h1 : sliceBounds none none (some (-1)) its.toArray.size = ((its.length : Int) - 1, -1, -1) := by
    simp [sliceBounds]
  rw [h1]
  have h2 : sliceRange ((its.length : Int) - 1) (-1) (-1) = (List.range its.length).map fun (k : Nat) => ((its.length : Int) - 1 + -1 * (k : Int)).toNat := by
    unfold sliceRange
    have h3 : (if (-1 : Int) > 0 then (if ((its.length : Int) - 1) < -1 then (-1 - ((its.length : Int) - 1) + -1 - 1) / -1 else 0) else (if ((its.length : Int) - 1) > -1 then (((its.length : Int) - 1) - -1 - -1 - 1) / (-(-1)) else 0)).toNat = its.length := by
      rw [if_neg (by omega)]
      by_cases h : ((its.length : Int) - 1) > -1
      · rw [if_pos h]; simp
      · rw [if_neg h]; omega
    simp only [h3]
  simp only [h2, List.filterMap_map]
  have e := range_rev its
  congr 1
  rw [← e]
  apply congrArg (fun f => List.filterMap f (List.range its.length))
  funext k
  simp
theorem adjust_rev (n : Nat) : Builtin.Slice.sliceAdjust none none (-1) (n : Int) = ((n : Int) - 1, -1) := by
  unfold Builtin.Slice.sliceAdjust
  simp
theorem places_rev (n : Nat) : Builtin.Slice.slicePlaces ((n : Int) - 1) (-1) (-1) = n := by
  unfold Builtin.Slice.slicePlaces
  rw [if_neg (by omega)]
  by_cases h : ((n : Int) - 1) > -1
  · rw [if_pos h]
    simp
  · rw [if_neg h]; simp; omega
theorem applied_rev {sl : Addr} {t : Tok} {n : Nat} {Q : Int × Int × Nat → Shared → Prop} (hs : s.heap.IsSliceOf sl .none .none (.int (-1) t)) (h : Q ((n : Int) - 1, -1, n) s) :
    wpAny (model prog w) A (Builtin.Slice.sliceApplied (.ref sl) (pure (n : Int))) Q E s := by
  obtain ⟨os, hos, hcs, hds⟩ := id hs
  unfold Builtin.Slice.sliceApplied Builtin.Slice.sliceFields
  refine wpAny_bind (wpAny_bind (wpAny_field hos hds (x := .none) rfl (wpAny_bind (wpAny_field hos hds (x := .none) rfl (wpAny_bind (wpAny_field hos hds (x := .int (-1) t) rfl (wpAny_pure ?_)))))))
  refine wpAny_bind (HT.slicePart_ (.int (-1) t) ?_)
  show wpAny _ _ (if ((-1 : Int) == 0) = true then _ else _) _ _ s
  rw [if_neg (by decide)]
  refine wpAny_bind (HT.slicePart_ .none (wpAny_bind (HT.slicePart_ .none (wpAny_bind (wpAny_pure ?_)))))
  show wpAny _ _ (match Builtin.Slice.sliceAdjust none none (-1) (n : Int) with | (lo, hi) => pure (lo, (-1 : Int), Builtin.Slice.slicePlaces lo hi (-1))) _ _ s
  rw [adjust_rev n]
  show wpAny _ _ (pure (((n : Int) - 1), (-1 : Int), Builtin.Slice.slicePlaces ((n : Int) - 1) (-1) (-1))) _ _ s
  rw [places_rev]
  exact wpAny_pure h
theorem tup_rev {t sl : Addr} {its : List Value} {tk : Tok} {Q : Value → Shared → Prop} (ht : IsTup s.heap t its.toArray) (hs : s.heap.IsSliceOf sl .none .none (.int (-1) tk))
    (h : Q (.ref s.heap.objs.size) { s with heap := s.heap.push { cls := .type "tuple", data := .seq its.reverse.toArray } }) (hsz : its.length ≤ sizeLine) : wpAny (model prog w) A (getItem (.ref t) (.ref sl)) Q E s := by
  have htake : sizeOk (.seq its.reverse.toArray) := by
    show its.reverse.toArray.size ≤ sizeLine
    rw [List.size_toArray, List.length_reverse]
    exact hsz
  obtain ⟨os, hos, hcs, hds⟩ := id hs
  have hTs : s.TypeIs (.ref sl) "slice" := ⟨os, hos, hcs⟩
  unfold getItem
  try with_reducible refine wpAny_holding ?_
  first | refine wpAny_bind (wpAny_pure ?_) | skip
  refine wpAny_bind (wpAny_sequenceKey ht.typeIs (by decide) ?_)
  refine wpAny_bind (wpAny_callSpecial?_slot (name := Str.ofString "__getitem__") ht.typeIs PyProof.Rows.slot_tuple_getitem
    (wpAny_call_entry PyProof.Rows.slot_tuple_getitem ht.typeIs entry_tuple_getitem ?_ (args_tuple_getitem _ _)))
  show wpAny _ _ (Builtin.Tuple.tupleItemsOf (.ref t) >>= _) _ _ s
  refine wpAny_bind (tupleItemsOf_ ht ?_)
  refine wpAny_bind (wpAny_typeOf hTs ?_)
  rw [if_pos (by decide)]
  refine wpAny_bind (applied_rev (n := its.toArray.size) hs ?_)
  have hno : ¬ ((((its.toArray.size : Nat) : Int) - 1 == 0 && (-1 : Int) == 1 && its.toArray.size == its.toArray.size) = true) := by
    intro q
    rw [Bool.and_eq_true, Bool.and_eq_true] at q
    exact absurd q.1.2 (by decide)
  show wpAny _ _ (if (((its.toArray.size : Nat) : Int) - 1 == 0 && (-1 : Int) == 1 && its.toArray.size == its.toArray.size) = true then _ else _) _ _ s
  rw [if_neg hno]
  have epick : ((List.range its.toArray.size).filterMap fun (k : Nat) => its.toArray[(((its.toArray.size : Nat) : Int) - 1 + (k : Int) * -1).toNat]?).toArray = its.reverse.toArray := by
    have e := range_rev its
    simp only [List.size_toArray, List.getElem?_toArray]
    rw [← e]
    congr 1
    apply congrArg (fun f => List.filterMap f (List.range its.length))
    funext k
    rw [Int.mul_comm (k : Int) (-1)]
  rw [epick]
  first
    | exact wpAny_bind (m := Builtin.Tuple.tupleExact _) (wpAny_newObj_type (wpAny_pure ⟨_, rfl, wpAny_pure h⟩) htake)
    | exact wpAny_bind (m := Builtin.Tuple.tupleExact _) (wpAny_newObj_type (wpAny_bind (wpAny_pure (wpAny_pure ⟨_, rfl, wpAny_pure h⟩))) htake)
    | exact wpAny_bind (wpAny_bind (m := Builtin.Tuple.tupleExact _) (wpAny_newObj_type (wpAny_pure (wpAny_pure ⟨_, rfl, wpAny_pure h⟩)) htake))
    | exact wpAny_bind (wpAny_bind (m := Builtin.Tuple.tupleExact _) (wpAny_newObj_type (wpAny_pure ⟨_, rfl, wpAny_pure h⟩) htake))
end
def tRev (K : PySem.W.Frag) (te : TE) : TE := fun σ H Q => te σ H fun x H1 => ∃ a xs, x = .ref a ∧ ((SqT K H1 a xs ∧ ∀ p, H1 p = none → Q (.ref p) (upd H1 p (.tup xs.reverse))) ∨ (SqL K H1 a xs ∧ ∀ p, H1 p = none → Q (.ref p) (upd H1 p (.lst xs.reverse))))
theorem vals_reverse {xs : List V} {us : List Value} (r : Vals xs us) : Vals xs.reverse us.reverse := by
  induction r with
  | nil => exact .nil
  | cons h t ih =>
    rw [List.reverse_cons, List.reverse_cons]
    exact ih.append (.cons h .nil)
theorem pe_rev {X : Cx} {e st : Expr} {te tst : TE} {p2 pos : Pos} (he : PE X e te) (hst : PE X st tst) (h1 : ∀ σ H Q, Q (.int (-1)) H → tst σ H Q) : PE X (.Subscript e (.Slice none none (some st) p2) pos) (tRev X.K te) := by
  refine ⟨fun pins s σ H Q I h => ?_⟩
  refine Subscript_ (thn (he.run pins s σ H _ I h) fun v s1 ⟨x, H1, I1, r1, q1⟩ => ?_)
  refine wpAny_Slice ?_
  rw [evalPart_none]
  refine wpAny_pure (wpAny_pure ?_)
  rw [evalPart_some]
  refine thn (hst.run pins s1 σ H1 (fun y H2 => y = .int (-1) ∧ H2 = H1) I1 (h1 σ H1 _ ⟨rfl, rfl⟩)) fun vs s2 ⟨y, H2, I2, ry, ey, eH⟩ => ?_
  subst ey
  subst eH
  obtain ⟨tk, rfl⟩ := ry
  have I4 : Inv X pins σ H2 { s2 with heap := s2.heap.push { cls := .type "slice", data := .fields #[.none, .none, .int (-1) tk] } } := I2.kept (t' := s2.toks) fun b ob q => Heap.get?_push_of_some _ q
  obtain ⟨a, xs, rfl, q⟩ := q1
  cases r1
  show wpAny (model X.prog X.w) X.A (subscriptTail e (.Slice none none (some st) p2) (.ref a) (.ref s2.heap.objs.size)) (EP X pins σ Q) X.xe { s2 with heap := s2.heap.push { cls := .type "slice", data := .fields #[.none, .none, .int (-1) tk] } }
  rcases q with ⟨hT, q⟩ | ⟨hL, q⟩
  · obtain ⟨its, r, ht, hz⟩ := I4.tuple hT
    refine tail_any (ops := [.ref a, .ref s2.heap.objs.size]) ht.typeIs PyProof.Rows.slot_tuple_getitem.lookup (tup_rev ht (Heap.IsSliceOf.new ..) ?_ (by rw [← r.length]; exact hz)) (by with_unfolding_all rfl)
    refine ⟨.ref _, _, I4.laid (t' := s2.toks) (o := .tup xs.reverse) (fun b ob q => Heap.get?_push_of_some _ q) (Nat.le_refl _) ?_, rfl, q _ (I4.hok.fresh (Nat.le_refl _))⟩
    exact ⟨by rw [List.length_reverse]; exact hz, _, vals_reverse r, IsTup.new _ _⟩
  · obtain ⟨its, r, ht, hz⟩ := I4.list hL
    refine tail_any (ops := [.ref a, .ref s2.heap.objs.size]) ht.isList.typeIs slot_list_getitem.lookup (wpAny_getItem_list_slice ht.isList (Heap.IsSliceOf.new ..) .none .none (.int (-1) tk) (by simp) ?_ (by rw [List.size_toArray, ← r.length]; exact hz)) (by with_unfolding_all rfl)
    rw [pick_rev]
    refine ⟨.ref _, _, I4.laid (t' := s2.toks) (o := .lst xs.reverse) (fun b ob q => Heap.get?_push_of_some _ q) (Nat.le_refl _) ?_, rfl, q _ (I4.hok.fresh (Nat.le_refl _))⟩
    exact ⟨by rw [List.length_reverse]; exact hz, _, 0, vals_reverse r, Heap.get?_push_size _ rfl⟩
/-- xs[::-1] -/
def vRev (x : D) (hs : Hs) : R D := match x with
  | .t ds => .ok (.t ds.reverse) hs
  | .st ds => .ok (.t ds.reverse) hs
  | x => match listOf x hs with
    | some ds => .ok (.l ds.reverse) hs
    | none => .bad
section
variable {c : Ct} {X : Cx} {W : WX} {e : Expr} {ma : M}
theorem je_rev {j : Nat} {p1 p2 p3 pos : Pos} (ha : JE c X W e ma) : JE c X W (.Subscript e (.Slice none none (some (.UnaryOp .USub (.Constant (.int 1) j p1) p3)) p2) pos) (eUn vRev ma) := by
  obtain ⟨ta, pa, sa⟩ := ha.ex
  refine ⟨_, pe_rev pa (pe_un un_neg pe_int) (fun σ H Q q => ⟨1, rfl, q⟩), fun w fs hs σ Q S E h => ?_⟩
  refine sa w fs hs σ _ S E (h.bind.imp fun x h1 w1 l1 S1 p1 v1 r1 => ?_)
  unfold vRev at p1
  split at p1
  · rename_i ds
    unfold Rp at r1
    obtain ⟨a, vs, rfl, q, r⟩ := r1
    exact ⟨a, vs, rfl, .inl ⟨SqT.of (S1.sub _ _ q), fun p hp => new_tup S1 r.reverse p1 hp⟩⟩
  · rename_i ds
    unfold Rp at r1
    obtain ⟨a, vs, rfl, q, r⟩ := r1
    exact ⟨a, vs, rfl, .inl ⟨sqt_sub S1.sub (st_sqt q), fun p hp => new_tup S1 r.reverse p1 hp⟩⟩
  · split at p1
    · rename_i ds e
      obtain ⟨a, vs, rfl, q, r⟩ := listOf_at S1 e r1
      exact ⟨a, vs, rfl, .inr ⟨SqL.of q, fun p hp => new_lst S1 r.reverse p1 hp⟩⟩
    · exact p1.elim
end
section
theorem tuple_mul_one (l : Addr) (items : Array Value) (n : Nat) (dd : Option Addr) (sl : Array (Option Value)) (u : Tok) :
    Meets (Builtin.«tuple.__mul__» ⟨[.ref l, .int 1 u], []⟩) (fun _ R s => s.heap.get? l = some { cls := .type "tuple", dict := dd, data := .seq items n, slots := sl } ∧ R (.ok (.ret (Value.ref l))) s) :=
  .of_wp fun prog w A R s h => by
    obtain ⟨hp, g, d, tk, os⟩ := s
    obtain ⟨hl, h⟩ := h
    have f1 := AutoSeq1.idx_int
    wp_walk using wpAny_loadPart' hl
    repeat (first
      | (refine wpAny_ite_true (decide_eq_true (by simp)) ?_; wp_walk using wpAny_loadPart' hl)
      | (refine wpAny_ite_false (decide_eq_false (by simp)) ?_; wp_walk using wpAny_loadPart' hl))
    exact ⟨_, rfl, h⟩
theorem tuple_mul_zero (l : Addr) (items : Array Value) (n : Nat) (dd : Option Addr) (sl : Array (Option Value)) (u : Tok) (hne : items.isEmpty = false) :
    Meets (Builtin.«tuple.__mul__» ⟨[.ref l, .int 0 u], []⟩) (fun _ R s => s.heap.get? l = some { cls := .type "tuple", dict := dd, data := .seq items n, slots := sl } ∧
      R (.ok (.ret (Value.ref s.heap.objs.size))) { s with heap := s.heap.push { cls := Value.type "tuple", data := Data.seq #[] }, toks := s.toks }) :=
  .of_wp fun prog w A R s h => by
    obtain ⟨hp, g, d, tk, os⟩ := s
    obtain ⟨hl, h⟩ := h
    have f1 := AutoSeq1.idx_int
    wp_walk using wpAny_loadPart' hl
    repeat (first
      | (refine wpAny_ite_false (decide_eq_false (by rw [hne]; simp)) ?_; wp_walk using wpAny_loadPart' hl)
      | (refine wpAny_ite_true (decide_eq_true (by simp)) ?_; wp_walk using wpAny_loadPart' hl)
      | (refine wpAny_ite_false (decide_eq_false (by simp)) ?_; wp_walk using wpAny_loadPart' hl))
    exact ⟨_, rfl, h⟩
end
def repD (k : Nat) (ds : List D) : List D := (List.replicate k ds).flatten
section
variable {c : Ct} {X : Cx}
theorem rep_rps {ρ : List Addr} {F : Hp} {ds : List D} {vs : List V} (r : Rps c ρ F ds vs) : ∀ k : Nat, Rps c ρ F (repD k ds) (List.replicate k vs).flatten
  | 0 => Rps.nil
  | k + 1 => by
    unfold repD
    rw [List.replicate_succ, List.replicate_succ, List.flatten_cons, List.flatten_cons]
    exact r.append (rep_rps r k)
end
end Mm
namespace Mm
open PySem PySem.Spec PyProof.Rows L2
theorem d_dictSetP {X : Cx} {pins : List (Addr × Obj)} {σ : L2.St} {H H' : Hp} {s : Shared} {E : Value → Shared → Prop} {D : Addr} {y v : V} {u r : Value} {Q : Unit → Shared → Prop} (hu : X.A.units + 1 < cLine) (I : Inv X pins σ H s) (g : DPut H D y v H')
    (ry : RelV y u) (rv : RelV v r) (h : ∀ s', Inv X pins σ H' s' → Q () s') : wpAny (model X.prog X.w) X.A (dictSet D u r) Q E s := by
  rcases g with ⟨kvs, k, e, ey, l, eH⟩ | ⟨kvs, k, b, e, ey, eb, l, eH⟩
  · subst ey eH
    obtain ⟨z, hd, vs, rel, dd⟩ := dk_of I.hok e
    have hz : vs.length ≤ sizeLine := by rw [← rel.length]; exact z
    have hl : (putK kvs k v).length ≤ sizeLine := by have := length_putK kvs k v; omega
    refine wpAny_dictSet_pairs (hsz := hz) (kV_is ry) dd fun h' dd' hs => h _ ?_
    have he : ∃ q, h'.get? D = some q := let ⟨q, _, _, hq, _⟩ := dd'; ⟨q, hq⟩
    exact d_write I (by rw [e]; exact True.intro) hs he (dk_new hl hd (rel.put k rv) dd')
  · subst ey eH
    cases (show u = Value.ref b from ry)
    obtain ⟨z, hd, xs, rel, dd⟩ := dt_of I.hok e
    have hz : xs.length ≤ sizeLine := by rw [← Paired.length rel]; exact z
    have hl : (putK kvs k v).length ≤ sizeLine := by have := length_putK kvs k v; omega
    refine wpAny_dictSet_heap (hsz := hz) (show X.A.units < cLine by omega) (key_of I.hok eb) dd fun h' dd' hs => h _ ?_
    obtain ⟨q, es, ep, hq, h2, h3, h4, _, h5⟩ := dd'
    refine d_write I (by rw [e]; exact True.intro) hs ⟨q, hq⟩ ⟨hl, hd, _, (rel.put k eb rv).keeps fun c ys ec => ?_, q, es, ep, hq, h2, h3, h4, h5⟩
    rw [upd_ne (ne_of ec e (fun z => nomatch z))]
    exact ec
section
variable {X : Cx}
def tDcG (o0 : HO) (wi : TI) (g : TG) (tt : TT) (tk tv : TE) (vs : List Nat) : TE := fun σ H Q => wi σ H fun J H1 => ∀ D, H1 D = none → ∃ W : Nat → Nat → Hp → Prop, (∃ m, W 0 m (upd H1 D o0)) ∧ ∀ i m H, W i m H →
  (J.stop i H ∧ Q (.ref D) H) ∨ (J.go i H ∧ ∃ Nx : Hp → Prop, (∀ H', Nx H' → ∃ m', m' < m ∧ W (i + 1) m' H') ∧ ∀ x H', J.yld i H x H' → g x (L2.wipe σ vs) H' fun σ2 H2 => L2.wipe σ2 vs = L2.wipe σ vs ∧ tt σ2 H2 fun b H3 =>
    if b = true then tk σ2 H3 fun y H4 => tv σ2 H4 fun z H5 => ∃ H6, DPut H5 D y z H6 ∧ Nx H6 else Nx H3)
theorem dc_coreG {o0 : HO} (h0 : ∀ (h : Heap), sysModules < h.objs.size → ∀ (P : Program) (w : World) (H : Hp), ObjOk P w H (h.push { cls := .type "dict", data := .dict #[] }) h.objs.size o0) (hun : X.A.units + 1 < cLine) {pins : List (Addr × Obj)} {s : Shared} {σ : L2.St} {H : Hp} {Q : VK} {kx vx tg iter : Expr} {ifs : List Expr} {scope : Scope} {own : List (Str × Nat)} {pos pos' : Pos} {wi : TI} {g : TG} {tt : TT} {tk tv : TE} {use : Option (Value → Sem Unit)} {Qf : Value → Shared → Prop}
    (hc : X.calm = true) (hN : X.N.Nodup) (I : Inv X pins σ H s) (hi : PI X tg iter wi) (ok : BlkOk X.N X.env.scope scope own)
    (hg : ∀ (s : Shared) (H : Hp) (C : Addr) (cl : List (Str × Addr)) (fp : List Addr), PG (X.blk s H scope (compEnvC scope cl C X.env) fp) tg g) (ht : ∀ (s : Shared) (H : Hp) (C : Addr) (cl : List (Str × Addr)) (fp : List Addr), PTs (X.blk s H scope (compEnvC scope cl C X.env) fp) ifs tt)
    (hk : ∀ (s : Shared) (H : Hp) (C : Addr) (cl : List (Str × Addr)) (fp : List Addr), PE (X.blk s H scope (compEnvC scope cl C X.env) fp) kx tk)
    (he : ∀ (s : Shared) (H : Hp) (C : Addr) (cl : List (Str × Addr)) (fp : List Addr), PE (X.blk s H scope (compEnvC scope cl C X.env) fp) vx tv) (hs : ∀ x, foldedSetIterable iter X.env x = pure x)
    (h : tDcG o0 wi g tt tk tv (own.map (·.2)) σ H Q)
    (hRR : ∀ D C s' m H', Inv X pins σ H' s' → Q (.ref D) H' → s'.heap.Ns C m → FpOk X pins H' C → compPost (model X.prog X.w) X.A X.xe use Qf (.ref D) C (.ok .next) s') :
    wpAny (model X.prog X.w) X.A (comprehension (.DictComp kx vx [⟨tg, iter, ifs, 0⟩] scope pos) scope X.env pos' newDict false (eval iter X.env) use) Qf X.xe s := by
  have hfree : ∀ y ∈ scope.names, y.2 = .free → ∃ c, X.env.cells.lookup y.1 = some c := fun y hy e => by
    rcases ok.free y hy e with k | k
    · exact I.ok.has _ (.inl k)
    · exact I.ok.has _ (.inr k)
  refine wpAny_comprehension_free (use := use) rfl hs (closure_ok hfree) ok.kind (fun y hy e => by rw [ok.uniq y hy, e])
    (thn (hi.run pins s σ H _ I h) fun xv s1 hx => thn hx fun itv s2 h2 => ?_)
  obtain ⟨it, fp, tn, J, H2, e, I2, T, st2, f2, q⟩ := h2
  subst e
  refine wpAny_newObj_type (newEnv_comp ?_)
  generalize hD : s2.heap.objs.size = D
  have hDn : H2 D = none := I2.hok.fresh (Nat.le_of_eq hD)
  obtain ⟨W, ⟨m0, w0⟩, turn⟩ := q D hDn
  -- the new list
  generalize hs3 : ({ s2 with heap := s2.heap.push { cls := .type "dict", data := .dict #[] } } : Shared) = s3
  have I3 : Inv X pins σ (upd H2 D o0) s3 := by
    rw [← hs3]
    refine I2.laid (t' := s2.toks) (fun b o e => Heap.get?_push_of_some _ e) (Nat.le_of_eq hD) ?_
    rw [← hD]
    exact h0 s2.heap I2.big _ _ _
  have h3 : s3.heap = s2.heap.push { cls := .type "dict", data := .dict #[] } := by rw [← hs3]
  have sz : ∀ b ∈ fp, b < s2.heap.objs.size := fun b hb => by
    obtain ⟨o, e, _⟩ := T.obj _ _ st2 b hb
    exact Heap.lt_size e
  have f3 : ∀ b ∈ fp, FpOk X pins (upd H2 D o0) b ∧ b < s3.heap.objs.size := fun b hb => by
    have hlt := sz b hb
    refine ⟨⟨?_, (f2 b hb).2⟩, by rw [h3, Heap.size_push]; exact Nat.lt_succ_of_lt hlt⟩
    rw [upd_ne (by rw [← hD]; exact Nat.ne_of_lt hlt)]
    exact (f2 b hb).1
  have st3 : tn 0 s3.heap := T.keep _ _ _ st2 fun b _ o e => by rw [h3]; exact Heap.get?_push_of_some _ e
  have I4 := block_start I3 ok hN f3
  have pg := hg s3 (upd H2 D o0) s3.heap.objs.size (cellsFrom (s3.heap.objs.size + 1) scope.names (cloFrom X.env.cells scope.names [])) fp
  have pt := ht s3 (upd H2 D o0) s3.heap.objs.size (cellsFrom (s3.heap.objs.size + 1) scope.names (cloFrom X.env.cells scope.names [])) fp
  have pk := hk s3 (upd H2 D o0) s3.heap.objs.size (cellsFrom (s3.heap.objs.size + 1) scope.names (cloFrom X.env.cells scope.names [])) fp
  have pe := he s3 (upd H2 D o0) s3.heap.objs.size (cellsFrom (s3.heap.objs.size + 1) scope.names (cloFrom X.env.cells scope.names [])) fp
  show codeAny _ _ (.compStart (.DictComp kx vx [⟨tg, iter, ifs, 0⟩] scope pos) 0 (.ref it) (.ref D) (compEnvC scope (cellsFrom (s3.heap.objs.size + 1) scope.names (cloFrom X.env.cells scope.names [])) s3.heap.objs.size X.env)) (compPost (model X.prog X.w) X.A X.xe use Qf (.ref D) s3.heap.objs.size) { s3 with heap := pushCells (s3.heap.push { cls := .type "dict", data := .dict #[] }) scope.names }
  have nfp : ∀ b ∈ fp, (upd H2 D o0) b = none := fun b hb => (f3 b hb).1.1
  generalize hce : compEnvC scope (cellsFrom (s3.heap.objs.size + 1) scope.names (cloFrom X.env.cells scope.names [])) s3.heap.objs.size X.env = ce at I4 pg pt pk pe ⊢
  have cL : ce.locals = s3.heap.objs.size := by subst hce; rfl
  generalize hH3 : upd H2 D o0 = H3 at I3 I4 pg pt pk pe w0 nfp f3
  generalize hs4 : ({ s3 with heap := pushCells (s3.heap.push { cls := .type "dict", data := .dict #[] }) scope.names } : Shared) = s4 at I4 ⊢
  have st4 : tn 0 s4.heap := T.keep _ _ _ st3 fun b _ o e => by rw [← hs4]; exact pushCells_keeps _ _ _ _ (Heap.get?_push_of_some _ e)
  have stat : ∀ {σ' : L2.St} {H' : Hp} {s' : Shared}, Inv (X.blk s3 H3 scope ce fp) [] σ' H' s' → (∀ b ∈ fp, H' b = none) → ∀ b ∈ fp, FpOk (X.blk s3 H3 scope ce fp) [] H' b := fun {σ' H' s'} I' hn b hb =>
    ⟨hn b hb, (I'.ok.exf b hb).1, I'.ok.exfs b hb, .inl hb, fun x c e => (I'.ok.exf b hb).2 x c e, fun p hp => absurd (show p ∈ ([] : List (Addr × Obj)) ++ [] from hp) (by simp)⟩
  have loop : codeAny (model X.prog X.w) X.A (.compLoop (.DictComp kx vx [⟨tg, iter, ifs, 0⟩] scope pos) 0 (.ref it) (.ref D) ce) (compPost (model X.prog X.w) X.A X.xe use Qf (.ref D) s3.heap.objs.size) s4 := by
    refine compLoop_anyD (fun n s' => ∃ i H', Inv (X.blk s3 H3 scope ce fp) [] (L2.wipe σ (own.map (·.2))) H' s' ∧ tn i s'.heap ∧ (∀ b ∈ fp, H' b = none) ∧ W i n H') ?_ m0 ⟨0, H3, I4, st4, nfp, w0⟩
    rintro n s5 ⟨i, H5, I5, st5, n5, w5⟩
    rcases turn i n H5 w5 with ⟨stop, qq⟩ | ⟨go, Nx, hNx, step⟩
    · have td := T.done (X.blk s3 H3 scope ce fp) rfl rfl rfl hc i [] s5 _ H5 (fun _ _ => False) I5 (stat I5 n5) st5 stop
      refine thnF td fun r s6 ⟨hr, I6⟩ => ?_
      subst hr
      -- back in the def's context
      have I7 : Inv X pins σ H5 s6 := I3.call' (ch := fp) I6.os I6.base I6.hok I6.bare fun b hb => ⟨(f3 b hb).1.2.2.2.1, (f3 b hb).1.2.1, (f3 b hb).1.2.2.2.2.1, (f3 b hb).1.2.2.2.2.2⟩
      have nC : H5 s3.heap.objs.size = none := by
        have z : H5 ce.locals = none := I6.free
        rw [cL] at z
        exact z
      obtain ⟨m, hn, _⟩ := I6.loc
      have hn : s6.heap.Ns ce.locals m := hn
      rw [cL] at hn
      exact hRR D s3.heap.objs.size s6 m H5 I7 qq hn (I3.fpOk (Nat.le_refl _) nC)
    · have ti := T.item (X.blk s3 H3 scope ce fp) rfl rfl rfl hc i [] s5 _ H5 (fun _ _ => False) I5 (stat I5 n5) st5 go
      refine thnF ti fun r s6 ⟨u, hr, h6⟩ => ?_
      subst hr
      refine thnF h6 fun _ s7 ⟨x, H7, I7, r7, y7, st7, n7⟩ => ?_
      have I7' := I7.pinned (stat I7 n7) (T.obj _ _ st7)
      refine thnF (pg.run _ s7 _ H7 x u _ I7' r7 (step x H7 y7)) fun _ s8 ⟨σ8, H8, I8, hw8, q8⟩ => ?_
      refine thnF (pt.run _ s8 σ8 H8 _ I8 q8) fun b s9 ⟨H9, I9, q9⟩ => ?_
      -- the turn's end
      have fin : ∀ {s' : Shared} {H' : Hp}, Inv (X.blk s3 H3 scope ce fp) ([] ++ pinsAt fp s7.heap) σ8 H' s' → Nx H' → ∃ m, m < n ∧ ∃ i H', Inv (X.blk s3 H3 scope ce fp) [] (L2.wipe σ (own.map (·.2))) H' s' ∧ tn i s'.heap ∧ (∀ b ∈ fp, H' b = none) ∧ W i m H' := fun {s' H'} I' nx => by
        obtain ⟨m', hm, w'⟩ := hNx H' nx
        have pin' : ∀ b ∈ fp, ∀ o, s7.heap.get? b = some o → s'.heap.get? b = some o ∧ H' b = none := fun b hb o e =>
          let z := I'.pin (b, o) (List.mem_append_right _ (List.mem_append_right _ (mem_pinsAt hb e)))
          ⟨z.1, z.2.1⟩
        have hl : (L2.wipe σ (own.map (·.2))).length = σ8.length := by rw [← hw8, L2.wipe_length]
        refine ⟨m', hm, i + 1, H', (I'.unpinned (pins := [])).weak hl (fun j v e => ?_), T.keep _ _ _ st7 fun b hb o e => (pin' b hb o e).1, fun b hb => ?_, w'⟩
        · rw [← hw8] at e
          exact (L2.wipe_some e).1
        · obtain ⟨o, e, _⟩ := T.obj _ _ st7 b hb
          exact (pin' b hb o e).2
      cases b with
      | false =>
        simp only [Bool.false_eq_true, if_false] at q9 ⊢
        exact fin I9 q9
      | true =>
        simp only [if_true] at q9 ⊢
        refine thnF (pk.run _ s9 σ8 H9 _ I9 q9) fun z s10 ⟨yk, H10, I10, r10, q10⟩ => ?_
        refine thnF (pe.run _ s10 σ8 H10 _ I10 q10) fun z2 s11 ⟨yv, H11, I11, r11, H12, dp, nx⟩ => ?_
        exact d_dictSetP (X := X.blk s3 H3 scope ce fp) hun I11 dp r10 r11 fun s12 I12 => fin I12 nx
  exact codeAny_compStart_dict loop (T.self X.A 0 _ _ _ st4 loop)
end
end Mm
namespace Mm
open PySem PySem.Spec PyProof.Rows L2
open Classical in
def dcL {κ : Type} [DecidableEq κ] (ko : D → Option κ) (k : Option (Nat × List D)) (g : MG) (t : MT) (ek ev : M) (fs : Fs) : List D → List (κ × D) → Hs → R (List (κ × D))
  | [], acc, hs => if stands k hs then .ok acc hs else .bad
  | x :: r, acc, hs => if stands k hs then ((g x fs hs).bindN fun fs' h1 => (t fs' h1).bindN fun c h2 => if c = true then ((ek fs' h2).bindN fun y h3 => (ev fs' h3).bindN fun z h4 =>
      match ko y with
      | some q => if acc.length < 100000 then dcL ko k g t ek ev fs r (dput acc q z) h4 else .bad
      | none => .bad) else dcL ko k g t ek ev fs r acc h2) else .bad
def eDcT (own : List Nat) (src : MI) (g : MG) (t : MT) (ek ev : M) : M := fun fs hs => (src fs hs).bind fun p h1 => (dcL keysOf p.2 g t ek ev (wipe fs own) p.1 [] h1).bind fun kvs h2 => .ok (.loc h2.length) (h2 ++ [.dt kvs])
theorem upd_id {H : Hp} {a : Addr} {o : HO} (h : H a = some o) : upd H a o = H := by
  funext b
  by_cases e : b = a
  · subst e; rw [upd_same, h]
  · rw [upd_ne e]
section
variable {c : Ct} {X : Cx} {W : WX}
theorem dc_sound {κ : Type} [DecidableEq κ] {ko : D → Option κ} {mk : List (κ × D) → O} {mkH : List (κ × V) → HO} {own : List Nat} {g : MG} {mt : MT} {mk1 me : M} {J : It} {k : Option (Nat × List D)} {ds : List D} {w1 : Wd} {h1 : Hs} {fs : Fs} {σ : L2.St} {Q : VK} {E : XK}
    (hro : ∀ (ρ : List Addr) (F : Hp) (kvs : List (κ × D)) (us : List (κ × V)), KR c ρ F kvs us → RO c ρ F (mk kvs) (mkH us))
    (hput : ∀ (w : Wd) (d : D) (yv : V) (q : κ) (us : List (κ × V)) (A : Addr) (z : V), ko d = some q → Rp c w.ρ w.F d yv → (∀ a o, w.F a = some o → w.H a = some o) → w.H A = some (mkH us) → us.length < sizeLine → DPut w.H A yv z (upd w.H A (mkH (putK us q z))))
    (sJ : SrcOk c J w1 ds k) (S1 : SR c w1 h1) (E1 : RE c w1 fs σ)
    (h : PostG c w1 ((dcL ko k g mt mk1 me (wipe fs own) ds [] h1).bind fun ys h2 => .ok (D.loc h2.length) (h2 ++ [mk ys])) (fun d _ w' => ∀ v, Rp c w'.ρ w'.F d v → Q v w'.H) E)
    (A : Addr) (hA : w1.H A = none) : ∃ Wi : Nat → Nat → Hp → Prop, (∃ m, Wi 0 m (upd w1.H A (mkH []))) ∧ ∀ i m H, Wi i m H →
      (J.stop i H ∧ Q (.ref A) H) ∨ (J.go i H ∧ ∃ Nx : Hp → Prop, (∀ H', Nx H' → ∃ m', m' < m ∧ Wi (i + 1) m' H') ∧ ∀ x H', J.yld i H x H' → gMo c own g x (L2.wipe σ own) H' fun σ2 H2 => L2.wipe σ2 own = L2.wipe σ own ∧ tMs c W0 mt σ2 H2 fun b H3 =>
        if b = true then tM c W0 mk1 σ2 H3 fun y H4 => tM c W0 me σ2 H4 fun z H5 => ∃ H6, DPut H5 A y z H6 ∧ Nx H6 else Nx H3) := by
  obtain ⟨l0, S0⟩ := S1.heap (H' := upd w1.H A (mkH [])) fun a o q => by rw [upd_ne (ne_of_none q hA)]; exact q
  let Inv (i : Nat) (H : Hp) (w : Wd) (acc : List (κ × D)) (hs : Hs) : Prop := w1.le w ∧ w.H = H ∧ SR c w hs ∧ (∃ us, w.H A = some (mkH us) ∧ KR c w.ρ w.F acc us) ∧ A ∉ w.ρ ∧ w.F A = none ∧ i ≤ ds.length ∧
    PostG c w1 ((dcL ko k g mt mk1 me (wipe fs own) (ds.drop i) acc hs).bind fun ys h2 => .ok (D.loc h2.length) (h2 ++ [mk ys])) (fun d _ w' => ∀ v, Rp c w'.ρ w'.F d v → Q v w'.H) E
  refine ⟨fun i m H => m = ds.length - i ∧ ∃ w acc hs, Inv i H w acc hs, ⟨_, rfl, _, [], h1, l0, rfl, S0, ⟨[], upd_same, KR.nil⟩, S1.new hA, S1.newF hA, Nat.zero_le _, h⟩, ?_⟩
  rintro i m H ⟨rfl, w, acc, hs, lw, rfl, S, ⟨us, eA, rA⟩, nA, nF, hi, q⟩
  by_cases hil : i < ds.length
  · have ed : ds.drop i = ds[i] :: ds.drop (i + 1) := List.drop_eq_getElem_cons hil
    rw [ed] at q
    unfold dcL at q
    by_cases hst : stands k hs
    · rw [if_pos hst] at q
      obtain ⟨hgo, hy⟩ := sJ.go i ds[i] w hs lw S hst (List.getElem?_eq_getElem hil)
      refine .inr ⟨hgo, fun H' => ∃ w' acc' hs', Inv (i + 1) H' w' acc' hs', fun H' z => ⟨ds.length - (i + 1), by omega, rfl, z⟩, fun x H' hx => ?_⟩
      obtain ⟨w2, l2, rfl, S2, r2⟩ := hy x H' hx
      have E2 : RE c w2 (wipe fs own) (L2.wipe σ own) := ((E1.le lw).le l2).wipe own
      refine ⟨w2, wipe fs own, hs, ds[i], rfl, S2, E2, r2, ?_⟩
      cases zg : g ds[i] (wipe fs own) hs with
      | exc x p h3 => rw [zg] at q; exact q.elim
      | bad => rw [zg] at q; exact q.elim
      | ok fs' h3 =>
        rw [zg] at q
        simp only [R.bindN_ok] at q
        refine fun w3 l3 S3 σ' E3 hw => ⟨?_, w3, fs', h3, rfl, S3, E3, ?_⟩
        · rw [hw]
          apply List.ext_getElem?
          intro j
          rw [wipe_get, wipe_get, L2.wipe_length]
          by_cases hj : j ∈ own ∧ j < σ.length
          · simp [hj]
          · simp [hj]
        · cases zt : mt fs' h3 with
          | exc x p h4 => rw [zt] at q; exact q.elim
          | bad => rw [zt] at q; exact q.elim
          | ok b h4 =>
            rw [zt] at q
            simp only [R.bindN_ok] at q
            refine fun w4 l4 S4 => ?_
            have l24 : w.le w4 := (l2.trans l3).trans l4
            obtain ⟨eA4, nA4, nF4⟩ := le_out l24 eA nA nF
            cases b with
            | false =>
              exact ⟨w4, acc, h4, lw.trans l24, rfl, S4, ⟨us, eA4, rA.1, rA.2.le l24⟩, nA4, nF4, hil, q⟩
            | true =>
              simp only [if_true] at q ⊢
              refine ⟨w4, fs', h4, rfl, S4, E3.le l4, ?_⟩
              cases ze : mk1 fs' h4 with
              | exc x p h5 => rw [ze] at q; exact q.elim
              | bad => rw [ze] at q; exact q.elim
              | ok y h5 =>
                rw [ze] at q
                simp only [R.bindN_ok] at q
                refine fun w5 l5 S5 v5 r5 => ⟨w5, fs', h5, rfl, S5, (E3.le l4).le l5, ?_⟩
                cases zf : me fs' h5 with
                | exc x p h6 => rw [zf] at q; exact q.elim
                | bad => rw [zf] at q; exact q.elim
                | ok z h6 =>
                  rw [zf] at q
                  simp only [R.bindN_ok] at q
                  refine fun w6 l6 S6 v6 r6 => ?_
                  have l26 : w.le w6 := (l24.trans l5).trans l6
                  obtain ⟨eA6, nA6, nF6⟩ := le_out l26 eA nA nF
                  cases zk : ko y with
                  | none => simp only [zk] at q; exact q.elim
                  | some kq =>
                    simp only [zk] at q
                    by_cases hz : acc.length < 100000
                    · rw [if_pos hz] at q
                      have rA6 : KR c w6.ρ w6.F acc us := ⟨rA.1, rA.2.le l26⟩
                      refine ⟨_, hput w6 y v5 kq us A v6 zk (r5.le l6) S6.sub eA6 (by rw [rA6.len]; exact sz_lt hz), ?_⟩
                      exact ⟨⟨w6.ρ, w6.F, upd w6.H A (mkH (putK us kq v6))⟩, dput acc kq z, h6, le_swap (lw.trans l26) hA eA6 nA6 _, rfl, S6.out eA6 nA6 nF6, ⟨_, upd_same, rA6.put kq r6⟩, nA6, nF6, hil, q⟩
                    · rw [if_neg hz] at q
                      exact q.elim
    · rw [if_neg hst] at q
      exact q.elim
  · have e0 : i = ds.length := by omega
    subst e0
    rw [List.drop_length] at q
    unfold dcL at q
    by_cases hst : stands k hs
    · rw [if_pos hst] at q
      refine .inl ⟨sJ.stop w hs lw S hst, ?_⟩
      obtain ⟨l, S'⟩ := SR.adopt (o := mk acc) S lw hA ⟨_, eA⟩ nA nF (hro _ _ _ _ rA)
      have q2 := q _ l S' (.ref A) (rp_push S)
      have e2 : upd w.H A (mkH us) = w.H := upd_id eA
      have q3 : Q (.ref A) (upd w.H A (mkH us)) := q2
      rw [e2] at q3
      exact q3
    · rw [if_neg hst] at q
      exact q.elim
variable {kx elt tg iter : Expr} {ifs : List Expr} {scope : Scope} {own : List (Str × Nat)} {src : MI} {g : MG} {mt : MT} {mk ma : M} {pos : Pos}
end
end Mm
namespace SrtO
open PySem PySem.Spec PyProof.Rows
section
variable {prog : Program} {w : World} {A : Around} {E : Value → Shared → Prop} {s : Shared}
theorem collect_tup {l : Addr} {vs : List Value} {Q : List Value → Shared → Prop} (hl : s.heap.IsTuple l vs.toArray)
    (h : Q vs { s with heap := (s.heap.push (seqObj "list" #[] 0)).update s.heap.objs.size (Obj.mapSeq (· ++ vs.toArray)) }) (hsz : vs.length ≤ sizeLine := by size_fits) :
    wpAny (model prog w) A (collect (.ref l)) Q E s := by
  obtain ⟨o, ho, hc, n, hd⟩ := id hl
  unfold collect
  refine wpAny_bind (wpAny_runValue (codeAny_builtin entry_proto_collect' ?_))
  show wpAny _ _ (do again (.builtin "list.__iadd__" ⟨[← newList [], .ref l], []⟩)) _ _ s
  refine wpAny_bind (wpAny_newList (wpAny_pure ⟨Code.quiet_builtin _ (by decide +kernel), codeAny_builtin entry_list_iadd' ?_⟩))
  show wpAny _ _ (Builtin.List.listExtendWith (.ref s.heap.objs.size) (.ref l) (.ref s.heap.objs.size)) _ _ { s with heap := s.heap.push (seqObj "list" #[] 0) }
  unfold Builtin.List.listExtendWith
  have ho' : (s.heap.push (seqObj "list" #[] 0)).get? l = some o := Heap.get?_push_of_some _ ho
  refine wpAny_bind (wpAny_typeOf (T := "tuple") ⟨o, ho', hc⟩ ?_)
  have ht : (Value.type "tuple" == Value.type "tuple") = true := by rfl
  rw [if_pos (by rw [ht]; simp)]
  refine wpAny_bind (listItems_at ho' hd ?_)
  refine wpAny_bind (listItems_at (xs := #[]) (n := 0) (Heap.get?_push_size _ rfl) rfl ?_)
  rw [if_neg (by simp)]
  refine wpAny_bind (listUpdate_at (xs := #[]) (n := 0) (Heap.get?_push_size _ rfl) rfl ?_ (Nat.zero_le _) (by show (#[] ++ vs.toArray).size ≤ sizeLine + 1; simp only [Array.size_append, List.size_toArray, List.length_nil]; omega))
  refine wpAny_pure ?_
  show wpAny (model prog w) A (do
      let o ← load s.heap.objs.size
      match o.data with
      | .seq xs _ => pure xs.toList
      | _ => unsupported "internal:collect") Q E { s with heap := (s.heap.push (seqObj "list" #[] 0)).update s.heap.objs.size (Obj.mapSeq (· ++ vs.toArray)) }
  refine wpAny_bind (wpAny_load (get?_update_seq (Heap.get?_push_size _ rfl) _) ?_)
  show wpAny _ _ (pure ((#[] : Array Value) ++ vs.toArray).toList) Q E _
  rw [show ((#[] : Array Value) ++ vs.toArray).toList = vs by simp]
  exact wpAny_pure h
theorem sorted_ordT {l : Addr} {vs : List Value} {ltv : Value → Value → Bool} {Q : Value → Shared → Prop} (O : Swo ltv) (hl : s.heap.IsTuple l vs.toArray) (hz : vs.length ≤ sizeLine)
    (hS : 2 ≤ vs.length → ∀ (h₁ : Heap) (a : Addr), h₁.get? a = some (seqObj "list" vs.toArray 0) → (∀ b o, s.heap.get? b = some o → b ≠ a ∧ h₁.get? b = some o) → SortableO prog w A.in1.in1 { s with heap := h₁ } a vs ltv)
    (h : ∀ out : List Value, Srtd ltv out → Stb ltv out vs → Q (.ref (s.heap.objs.size + 1)) { s with heap := sortedAll s.heap vs out.toArray }) :
    wpAny (model prog w) A (call (.builtin "sorted") [.ref l]) Q E s := by
  refine Calls.call_function_entry kind_sorted plain_sorted entry_sorted (args_sorted1 _) ?_
  unfold Builtin.«sorted»
  refine wpAny_bind (m := checkCount "sorted" 1 1 _) (wpAny_pure ?_)
  refine wpAny_bind (collect_tup hl ?_ hz)
  refine wpAny_bind (wpAny_newList ?_ hz)
  have hsz : ((s.heap.push (seqObj "list" #[] 0)).update s.heap.objs.size (Obj.mapSeq (· ++ vs.toArray))).objs.size = s.heap.objs.size + 1 := by
    rw [Heap.size_update, size_push']
  have hoL : (((s.heap.push (seqObj "list" #[] 0)).update s.heap.objs.size (Obj.mapSeq (· ++ vs.toArray))).push (seqObj "list" vs.toArray 0)).get? (s.heap.objs.size + 1) = some (seqObj "list" vs.toArray 0) := by
    rw [← hsz]; exact Heap.get?_push_size _ rfl
  have keep : ∀ b o, s.heap.get? b = some o → b ≠ s.heap.objs.size + 1 ∧ (((s.heap.push (seqObj "list" #[] 0)).update s.heap.objs.size (Obj.mapSeq (· ++ vs.toArray))).push (seqObj "list" vs.toArray 0)).get? b = some o := fun b o q => by
    have hlt : b < s.heap.objs.size := Heap.lt_size q
    refine ⟨Nat.ne_of_lt (Nat.lt_succ_of_lt hlt), Heap.get?_push_of_some _ ?_⟩
    rw [Heap.get?_update_ne _ _ _ _ (Nat.ne_of_lt hlt)]
    exact Heap.get?_push_of_some _ q
  show wpAny _ _ _ _ _ { s with heap := ((s.heap.push (seqObj "list" #[] 0)).update s.heap.objs.size (Obj.mapSeq (· ++ vs.toArray))).push (seqObj "list" vs.toArray 0) }
  rw [hsz]
  refine wpAny_bind (wpAny_holding (wpAny_call_entry slot_list_sort ⟨_, hoL, rfl⟩ entry_list_sort (list_sort_ord O hoL hz (fun h2 => hS h2 _ _ hoL keep) fun out hs hb => ⟨_, rfl, ?_⟩) (args_list_sort _)))
  exact wpAny_pure ⟨_, rfl, h out hs hb⟩
end
end SrtO
namespace Mm
open PySem PySem.Spec PyProof.Rows L2
def rSortedTup (K : PySem.W.Frag) : List V → Hp → VK → Prop := fun vs H Q => ∃ (a : Addr) (ns : List Int), vs = [V.ref a] ∧ SqT K H a (ns.map V.int) ∧
  ∀ (ns' : List Int) (p : Addr), ns'.Perm ns → ns'.Pairwise (· ≤ ·) → H p = none → Q (.ref p) (upd H p (.lst (ns'.map V.int)))
theorem cr_sortedTup {X : Cx} : CallR X (.builtin "sorted") (rSortedTup X.K) := by
  intro pins s σ H vs us Q I r h
  obtain ⟨a, ns, rfl, hs, q⟩ := h
  obtain ⟨its, rv, hl, hz⟩ := I.tuple hs
  rw [Vals.ref1 r]
  have hi := rv.ints
  refine SrtO.sorted_ordT SrtO.swo_int hl (by rw [← rv.length]; exact hz) (fun h2 h₁ a' _ _ => SrtO.ints_sortable hi h2) fun out h1 h2 => ?_
  obtain ⟨k1, k2, k3⟩ := SrtO.ints_out hi h1 h2
  obtain ⟨ep, he'⟩ := PyProof.Rows.sortedAll_at s.heap its out.toArray
  have hlen : ((out.map SrtO.iv).map V.int).length ≤ sizeLine := by
    rw [List.length_map, k2.length_eq]
    rw [List.length_map] at hz
    exact hz
  exact ⟨.ref _, upd H (s.heap.objs.size + 1) (.lst ((out.map SrtO.iv).map V.int)), I.laid (t' := s.toks) (fun _ _ => PyProof.Rows.sortedAll_old) (Nat.le_succ _) ⟨hlen, out, ep, vals_of_ints k1, he'⟩, rfl, q _ _ k2 k3 (I.hok.fresh (Nat.le_succ _))⟩
def tupInts (ds : List D) : Option (List Int) := match one1 ds with
  | some (.t es) => intsOf es
  | some (.st es) => intsOf es
  | _ => none
/-- sorted(tuple of ints), frozen -/
def vSortTup (ds : List D) (hs : Hs) : R D := match tupInts ds with
  | some ns => .ok (.l ((sortI ns).map .int)) hs
  | none => .bad
section
variable {c : Ct} {X : Cx} {W : WX}
theorem jc_sortTup : JC c X (.builtin "sorted") vSortTup := by
  refine ⟨_, cr_sortedTup, fun w hs ds vs Q E S r h => ?_⟩
  unfold vSortTup at h
  split at h
  · rename_i ns e
    unfold tupInts at e
    split at e
    · rename_i es e1
      obtain rfl := one1_some e1
      obtain ⟨v, rfl, rd⟩ := rps1 r
      have e2 := intsOf_map e
      subst e2
      unfold Rp at rd
      obtain ⟨a, us, rfl, q, rr⟩ := rd
      obtain rfl := rps_intsV rr
      refine ⟨a, ns, rfl, SqT.of (S.sub _ _ q), fun ns' p hp ho hn => ?_⟩
      rw [sorted_eq (hp.trans (sort_perm ns).symm) ho (sort_sorted ns)]
      exact new_lst S (ints_rps _) h hn
    · rename_i es e1
      obtain rfl := one1_some e1
      obtain ⟨v, rfl, rd⟩ := rps1 r
      have e2 := intsOf_map e
      subst e2
      unfold Rp at rd
      obtain ⟨a, us, rfl, q, rr⟩ := rd
      obtain rfl := rps_intsV rr
      refine ⟨a, ns, rfl, sqt_sub S.sub (st_sqt q), fun ns' p hp ho hn => ?_⟩
      rw [sorted_eq (hp.trans (sort_perm ns).symm) ho (sort_sorted ns)]
      exact new_lst S (ints_rps _) h hn
    · cases e
  · exact h.elim
def rCntT (K : PySem.W.Frag) : V → List V → Hp → VK → Prop := fun x xs H Q => ∃ (p : Addr) (ns : List Int) (k : Int), x = .ref p ∧ xs = [.int k] ∧ SqT K H p (ns.map V.int) ∧ Q (.int (ns.count k : Nat)) H
theorem mt_tcount : MtR X "tuple.count" (rCntT X.K) := by
  intro pins s σ H x xs v us Q I rx rxs h
  obtain ⟨p, ns, k, rfl, rfl, hs, q⟩ := h
  cases rx
  obtain ⟨u, rfl, ru⟩ := rxs.one
  obtain ⟨t, rfl⟩ := ru
  obtain ⟨its, rv, ⟨⟨cls, dd, data, sl⟩, ho, hc, n, hd⟩, hlen⟩ := I.tuple hs
  simp only at hc hd
  subst hc hd
  have hi := ints_of_vals rv
  refine call_meets PySem.F.slot_tuple_count ⟨_, ho, rfl⟩ PySem.F.entry_tuple_count (PySem.F.args_tuple_count_2 _ _)
    (SeqAt.tuple_countAt p its.toArray n dd sl (.int k t) (eqk k)) ⟨ho, fun y hy => (eqk_gives hi y (by simpa using hy)).at _ _, ?_⟩
  have ec : its.toArray.toList.countP (eqk k) = ns.count k := eqk_count hi
  refine ⟨.int (ns.count k : Nat), H, I.tok _, ⟨s.toks, ?_⟩, q⟩
  show Value.int ((its.toArray.toList.countP (eqk k) : Nat) : Int) s.toks = Value.int ((ns.count k : Nat) : Int) s.toks
  rw [ec]
/-- o.m(e, ..) of an exact tuple known to have no dict -/
def isSt (x : D) (_ : Hs) : Bool := match x with
  | .st _ => true
  | _ => false
def tyS (x : V) (H : Hp) : Prop := ∃ a ob vs, x = .ref a ∧ H a = some (.frz ob (.tup vs)) ∧ ob.cls = .type "tuple" ∧ ob.dict = none
def tBMS (r : V → List V → Hp → VK → Prop) (to : TE) (t : TA) : TE := fun σ H Q => to σ H fun x H1 => tyS x H1 ∧ t σ H1 fun vs H2 => r x vs H2 Q
theorem pe_bmS {id : String} {name : Str} {o e : Expr} {es : List Expr} {to : TE} {t : TA} {r : V → List V → Hp → VK → Prop} {apos cpos : Pos} (pa : PlainAttrs "tuple") (slot : Slot "tuple" name id) (hty : typeOf (.builtin id) = pure (.type "method_descriptor")) (hm : MtR X id r) (ho : PE X o to) (ha : PA X (e :: es) t)
    (hbase : attributeBase o name X.env (eval o X.env) = eval o X.env := by rfl)
    (hfew : ((backTo cpos (starEach (e :: es) X.env)).all (fun x => !x.1) && (backToKw cpos (keywordEach [] X.env)).all (fun x => x.1.isSome)
      && decide ((e :: es).length + ([] : List Keyword).length + (if ([] : List Keyword).isEmpty then 0 else 1) < 30)) = true := by rfl)
    (hline : (apos.endLine == cpos.line) = true := by rfl) (hs : starEach (e :: es) X.env = (false, eval e X.env) :: starEach es X.env := by rfl) (hplain : (backTo cpos (starEach es X.env)).any (·.1) = false := by rfl) :
    PE X (.Call (.Attribute o name apos) (e :: es) [] cpos) (tBMS r to t) := by
  refine ⟨fun pins s σ H Q I h => ?_⟩
  refine wpAny_Call_method_late hbase hfew hline rfl (thn (ho.run pins s σ H _ I h) fun v s1 ⟨x, H1, I1, r1, ty, q1⟩ => ?_)
  obtain ⟨a, ob, vs, rfl, ha1, hc, hd⟩ := ty
  cases r1
  obtain ⟨hob, _⟩ := (show ObjOk X.prog X.w H1 s1.heap a (.frz ob (.tup vs)) from I1.hok a _ ha1)
  refine ⟨"tuple", id, pa, slot, hty, ⟨ob, hob, hc⟩, fun b hb => ⟨ob, by cases hb; exact hob, hd⟩, ?_⟩
  have hA := ha.run cpos pins s1 σ H1 _ I1 q1
  rw [hs] at hA ⊢
  refine Calls.callWith_builtin (by show (false || (backTo cpos (starEach es X.env)).any (·.1)) = false; rw [hplain] <;> rfl) (Calls.evalArgs_plain ?_)
  exact thn hA fun us s2 ⟨vs, H2, I2, r2, q2⟩ => hm pins s2 σ H2 (.ref a) vs (.ref a) us Q I2 rfl r2 q2
theorem je_methS {id : String} {name : Str} {o e : Expr} {es : List Expr} {mo : M} {mas : MA} {op : D → List D → Hs → R D} {apos cpos : Pos} (pa : PlainAttrs "tuple") (slot : Slot "tuple" name id) (hty : typeOf (.builtin id) = pure (.type "method_descriptor")) (hm : JM c X "tuple" id op) (ho : JE c X W o mo) (ha : JA c X W (e :: es) mas)
    (hbase : attributeBase o name X.env (eval o X.env) = eval o X.env := by rfl)
    (hfew : ((backTo cpos (starEach (e :: es) X.env)).all (fun x => !x.1) && (backToKw cpos (keywordEach [] X.env)).all (fun x => x.1.isSome)
      && decide ((e :: es).length + ([] : List Keyword).length + (if ([] : List Keyword).isEmpty then 0 else 1) < 30)) = true := by rfl)
    (hline : (apos.endLine == cpos.line) = true := by rfl) (hs : starEach (e :: es) X.env = (false, eval e X.env) :: starEach es X.env := by rfl) (hplain : (backTo cpos (starEach es X.env)).any (·.1) = false := by rfl) :
    JE c X W (.Call (.Attribute o name apos) (e :: es) [] cpos) (eMeth isSt op mo mas) := by
  obtain ⟨r, pr, sr⟩ := hm.ex; obtain ⟨to, po, so⟩ := ho.ex; obtain ⟨ta, pt, sa⟩ := ha.ex
  refine ⟨_, pe_bmS pa slot hty pr po pt hbase hfew hline hs hplain, fun w fs hs σ Q S E h => ?_⟩
  refine so w fs hs σ _ S E (h.bind.imp fun x h1 w1 l1 S1 p1 v1 r1 => ?_)
  split at p1
  · rename_i hT
    have hT2 : tyS v1 w1.H := by
      cases x <;> first | (simp [isSt] at hT; done) | skip
      unfold Rp at r1
      obtain ⟨a, us, rfl, ⟨ob, q, q2, q3⟩, rr⟩ := r1
      exact ⟨a, ob, us, rfl, S1.sub _ _ q, q2, q3⟩
    refine ⟨hT2, sa w1 fs h1 σ _ S1 (E.le l1) (p1.bind.imp fun ds h2 w2 l2 S2 p2 vs rs => ?_)⟩
    exact sr w2 h2 x ds v1 vs Q _ S2 (r1.le l2) rs p2
  · exact p1.elim
def mCount (x : D) (ds : List D) (hs : Hs) : R D := match x, int1 ds with
  | .st es, some k => match intsOf es with
    | some ns => .ok (.int ((ns.count k : Nat) : Int)) hs
    | none => .bad
  | _, _ => .bad
theorem jm_count : JM c X "tuple" "tuple.count" mCount := by
  refine ⟨_, mt_tcount, fun w hs x ds vx vs Q E S rx r h => ?_⟩
  unfold mCount at h
  split at h
  · rename_i es k e
    obtain rfl := int1_some e
    obtain ⟨v, rfl, rd⟩ := rps1 r
    split at h
    · rename_i ns e2
      have e3 := intsOf_map e2
      subst e3
      unfold Rp at rx
      obtain ⟨a, us, rfl, q, rr⟩ := rx
      obtain rfl := rps_intsV rr
      obtain rfl : v = .int k := rd
      exact ⟨a, ns, k, rfl, rfl, sqt_sub S.sub (st_sqt q), h.now S _ rfl⟩
    · exact h.elim
  · exact h.elim
end
end Mm
namespace Mm
open PySem PySem.Spec PyProof.Rows L2
open PySem.AutoSeq1 (wpAny_loadPart')
theorem new_st {c : Ct} {w : Wd} {hs : Hs} {ds : List D} {vs : List V} {Q : VK} {E : XK} {ob : Obj} (S : SR c w hs) (r : Rps c w.ρ w.F ds vs) (h : Post c w (.ok (.st ds) hs) Q E) {p : Addr} (hp : w.H p = none) (hc : ob.cls = .type "tuple") (hd : ob.dict = none) : Q (.ref p) (upd w.H p (.frz ob (.tup vs))) := by
  obtain ⟨l, S'⟩ := S.froz hp (.frz ob (.tup vs))
  refine h _ l S' (.ref p) ?_
  unfold Rp
  exact ⟨p, vs, rfl, ⟨ob, upd_same, hc, hd⟩, r.le l⟩
abbrev stO (us : List Value) : Obj := { cls := .type "tuple", data := .seq us.toArray }
/-- the new object is laid -/
theorem laid_st {X : Cx} {pins : List (Addr × Obj)} {σ : L2.St} {H : Hp} {s : Shared} {h' : Heap} {xs : List V} {us : List Value} {t' : Nat} (I : Inv X pins σ H s) (kp : ∀ b o, s.heap.get? b = some o → h'.get? b = some o) {p : Addr} (hp : s.heap.objs.size ≤ p) (r : Vals xs us) (z : xs.length ≤ sizeLine) (e : h'.get? p = some (stO us)) :
    Inv X pins σ (upd H p (.frz (stO us) (.tup xs))) { s with heap := h', toks := t' } := I.laid kp hp ⟨e, z, us, r, ⟨_, e, rfl, _, rfl⟩⟩
def tTupS (t : TA) : TE := fun σ H Q => t σ H fun vs H1 => vs.length ≤ sizeLine ∧ ∀ p ob, H1 p = none → ob.cls = .type "tuple" → ob.dict = none → Q (.ref p) (upd H1 p (.frz ob (.tup vs)))
theorem pe_tupS {X : Cx} {es : List Expr} {t : TA} {x1 : Nat} {pos : Pos} (h : PA X es t) : PE X (.Tuple es x1 pos) (tTupS t) := by
  refine ⟨fun pins s σ H Q I hq => ?_⟩
  refine wpAny_Tuple_spliced (thn (h.run pos pins s σ H _ I hq) fun us s1 ⟨xs, H1, I1, r, z, q⟩ => ⟨by rw [← r.length]; exact z, ?_⟩)
  have hf : H1 s1.heap.objs.size = none := I1.hok.fresh (Nat.le_refl _)
  exact ⟨.ref s1.heap.objs.size, _, laid_st (t' := s1.toks) I1 (fun b u e => Heap.get?_push_of_some _ e) (Nat.le_refl _) r z (Heap.get?_push_size _ rfl), rfl, q _ _ hf rfl rfl⟩
def vTupS : List D → Hs → R D := fun ds hs => if ds.length ≤ 100000 then .ok (.st ds) hs else .bad
section
variable {c : Ct} {X : Cx} {W : WX} {es : List Expr} {mas : MA} {pos : Pos}
theorem je_tupS {k} (h : JA c X W es mas) : JE c X W (.Tuple es k pos) (eArgs vTupS mas) := by
  obtain ⟨ta, pa, sa⟩ := h.ex
  refine ⟨_, pe_tupS pa, fun w fs hs σ Q S E h => ?_⟩
  refine sa w fs hs σ _ S E (h.bind.imp fun ds h1 w1 l1 S1 p1 vs rs => ?_)
  unfold vTupS at p1
  split at p1
  · rename_i hl
    exact ⟨by rw [rs.length]; exact sz_le hl, fun p ob hp hc hd => new_st S1 rs p1 hp hc hd⟩
  · exact p1.elim
def rTupS (K : PySem.W.Frag) : List V → Hp → VK → Prop := fun xs H Q => ∃ p ys, xs = [.ref p] ∧ SqL K H p ys ∧ ∀ l ob, H l = none → ob.cls = .type "tuple" → ob.dict = none → Q (.ref l) (upd H l (.frz ob (.tup ys)))
theorem call_tupS : CallR X (.type "tuple") (rTupS X.K) := by
  intro pins s σ H xs us Q I r h
  obtain ⟨p, ys, rfl, hq, q⟩ := h
  obtain ⟨u, rfl, rx⟩ := vals1 r
  cases rx
  obtain ⟨its, r', pl, hz⟩ := I.list hq
  have hlen := r'.length
  refine call_tuple_list pl.isList (fun h' kp => ?_) (by simp only [List.size_toArray] <;> omega)
  have I1 : Inv X pins σ H { s with heap := h' } := I.kept (t' := s.toks) kp
  have I2 := laid_st (t' := s.toks) (h' := h'.push (stO its)) I1 (fun b o e => Heap.get?_push_of_some _ e) (Nat.le_refl _) r' hz (Heap.get?_push_size _ rfl)
  exact ⟨.ref h'.objs.size, _, I2, rfl, q _ _ (I1.hok.fresh (Nat.le_refl _)) rfl rfl⟩
def vTupleS (ds : List D) (hs : Hs) : R D := match (one1 ds).bind fun d => listOf d hs with
  | some es => .ok (.st es) hs
  | none => .bad
theorem jc_tupleS : JC c X (.type "tuple") vTupleS := by
  refine ⟨_, call_tupS, fun w hs ds vs Q E S r h => ?_⟩
  unfold vTupleS at h
  split at h
  · rename_i es e
    cases e1 : one1 ds with
    | none => rw [e1] at e; cases e
    | some d =>
      obtain rfl := one1_some e1
      rw [e1] at e
      obtain ⟨v, rfl, rd⟩ := rps1 r
      obtain ⟨a, us, rfl, q, rr⟩ := listOf_at S (show listOf d hs = some es from e) rd
      exact ⟨a, us, rfl, SqL.of q, fun p ob hp hc hd => new_st S rr h hp hc hd⟩
  · exact h.elim
def rCatS (K : PySem.W.Frag) : R2 := fun x y H Q => ∃ a b xs ys, x = .ref a ∧ y = .ref b ∧ SqT K H a xs ∧ SqT K H b ys ∧ xs.length + ys.length ≤ sizeLine ∧
  (xs = [] → Q (.ref b) H) ∧ (xs ≠ [] → ys = [] → Q (.ref a) H) ∧ (xs ≠ [] → ys ≠ [] → ∀ p ob, H p = none → ob.cls = .type "tuple" → ob.dict = none → Q (.ref p) (upd H p (.frz ob (.tup (xs ++ ys)))))
theorem op_catS : OpR X (binaryOp .Add) (rCatS X.K) := by
  intro pins s σ H x y v u Q I rx ry h
  obtain ⟨a, b, xs, ys, rfl, rfl, ha, hb, hz, q0, q1, q2⟩ := h
  cases rx
  cases ry
  obtain ⟨its, r1, p1, _⟩ := I.tuple ha
  obtain ⟨its2, r2, p2, _⟩ := I.tuple hb
  by_cases hx : xs = []
  · subst hx
    cases r1
    exact cat_tup0 p1 p2 ⟨.ref b, H, I, rfl, q0 rfl⟩
  · refine HT.cat_tup p1 p2 (fun z => hx (r1.nil_iff.mp z)) (fun z => ⟨.ref a, H, I, rfl, q1 hx (r2.nil_iff.mp z)⟩) (fun z => ?_) (by rw [← r1.length, ← r2.length]; exact hz)
    exact ⟨.ref s.heap.objs.size, _, laid_st (t' := s.toks) I (fun b ob q => Heap.get?_push_of_some _ q) (Nat.le_refl _) (r1.append r2) (by rw [List.length_append]; exact hz) (Heap.get?_push_size _ rfl), rfl, q2 hx (fun w => z (r2.nil_iff.mpr w)) _ _ (I.hok.fresh (Nat.le_refl _)) rfl rfl⟩
def vAddS (x y : D) (hs : Hs) : R D := match x, y with
  | .st ds, .st es => if ds.length + es.length ≤ 100000 then .ok (.st (ds ++ es)) hs else .bad
  | _, _ => .bad
theorem jo_addS : JO c X (binaryOp .Add) vAddS := by
  refine ⟨_, op_catS, fun w hs x y vx vy Q E S rx ry h => ?_⟩
  unfold vAddS at h
  split at h
  · rename_i ds es
    split at h
    · rename_i hl
      have rx0 := rx
      have ry0 := ry
      unfold Rp at rx ry
      obtain ⟨a, vs, rfl, q, r⟩ := rx
      obtain ⟨b, us, rfl, q2, r2⟩ := ry
      refine ⟨a, b, vs, us, rfl, rfl, sqt_sub S.sub (st_sqt q), sqt_sub S.sub (st_sqt q2), by rw [r.length, r2.length]; exact sz_le hl, fun e => ?_, fun _ e => ?_, fun _ _ p ob hp hc hd => new_st S (r.append r2) h hp hc hd⟩
      · subst e
        have e1 : ds = [] := List.length_eq_zero_iff.mp r.length.symm
        subst e1
        exact h.now S _ ry0
      · subst e
        have e1 : es = [] := List.length_eq_zero_iff.mp r2.length.symm
        subst e1
        rw [List.append_nil] at h
        exact h.now S _ rx0
    · exact h.elim
  · exact h.elim
def rRepS (K : PySem.W.Frag) : R2 := fun x y H Q => ∃ l k xs, x = .ref l ∧ y = .int k ∧ SqT K H l xs ∧ xs ≠ [] ∧ 0 ≤ k ∧ k ≤ 1000 ∧ xs.length ≤ 1000 ∧ (k = 1 → Q (.ref l) H) ∧ (k ≠ 1 → ∀ p ob, H p = none → ob.cls = .type "tuple" → ob.dict = none → Q (.ref p) (upd H p (.frz ob (.tup (List.replicate k.toNat xs).flatten))))
theorem op_repS : OpR X (binaryOp .Mult) (rRepS X.K) := by
  intro pins s σ H x y v u Q I rx ry h
  obtain ⟨l, k, xs, rfl, rfl, hT, hne, h1, h2, hz, q1, q⟩ := h
  cases rx
  obtain ⟨t, rfl⟩ := ry
  obtain ⟨its, r, ⟨⟨cls, dd, data, sl⟩, ho, hc, n, hd⟩, hs⟩ := id (I.tuple hT)
  simp only at hc hd
  subst hc hd
  have hi : its.toArray.isEmpty = false := by
    cases r with
    | nil => exact absurd rfl hne
    | cons a b => rfl
  have hle : its.length = xs.length := r.length.symm
  have hsz0 : its.toArray.size = xs.length := by rw [List.size_toArray, hle]
  by_cases k1 : k = 1
  · subst k1
    refine wpAny_binaryOp_repeat_ref (T := "tuple") (U := "int") (by decide) ⟨_, ho, rfl⟩ (fun s' => typeIs_int s' 1 t) noFill_tuple_mul F.fills_int_mul F.slot_int_rmul repeat_tuple F.slot_int_index.lookup
      (call_meets F.slot_int_rmul (typeIs_int s 1 t) F.entry_int_rmul (F.args_int_rmul_2 _ _) (int_rmul_tuple 1 t l its.toArray n dd sl)
        ⟨ho, rfl, ⟨_, ho, rfl⟩, call_meets F.slot_tuple_mul ⟨_, ho, rfl⟩ F.entry_tuple_mul (F.args_tuple_mul_2 _ _) (tuple_mul_one l its.toArray n dd sl t) ⟨ho, ?_⟩⟩)
    exact ⟨.ref l, H, I, rfl, q1 rfl⟩
  · by_cases k0 : k = 0
    · subst k0
      refine wpAny_binaryOp_repeat_ref (T := "tuple") (U := "int") (by decide) ⟨_, ho, rfl⟩ (fun s' => typeIs_int s' 0 t) noFill_tuple_mul F.fills_int_mul F.slot_int_rmul repeat_tuple F.slot_int_index.lookup
        (call_meets F.slot_int_rmul (typeIs_int s 0 t) F.entry_int_rmul (F.args_int_rmul_2 _ _) (int_rmul_tuple 0 t l its.toArray n dd sl)
          ⟨ho, rfl, ⟨_, ho, rfl⟩, call_meets F.slot_tuple_mul ⟨_, ho, rfl⟩ F.entry_tuple_mul (F.args_tuple_mul_2 _ _) (tuple_mul_zero l its.toArray n dd sl t hi) ⟨ho, ?_⟩⟩)
      exact ⟨.ref s.heap.objs.size, _, laid_st (t' := s.toks) (xs := []) (us := []) I (fun b ob q => Heap.get?_push_of_some _ q) (Nat.le_refl _) .nil (Nat.zero_le _) (Heap.get?_push_size _ rfl), rfl, q (by omega) _ _ (I.hok.fresh (Nat.le_refl _)) rfl rfl⟩
    · have hm : ((its.toArray.size : Nat) : Int) * k ≤ 1000000 := by
        rw [hsz0]
        have a1 : ((xs.length : Nat) : Int) * k ≤ 1000 * k := Int.mul_le_mul_of_nonneg_right (by omega) (by omega)
        omega
      have flen : (List.replicate k.toNat its).flatten.length ≤ sizeLine := by
        rw [PyProof.Rows.lm_len_rep_flat, hle, sizeLine_eq]
        have a1 : k.toNat * xs.length ≤ 1000 * 1000 := Nat.mul_le_mul (by omega) hz
        omega
      have c0 : (decide (k < -(2 ^ 63)) || decide (k ≥ 2 ^ 63)) = false := by
        rw [decide_eq_false (by omega), decide_eq_false (by omega)] <;> rfl
      have c1 : (its.toArray.isEmpty || k == 1) = false := by
        rw [hi, Bool.false_or]
        exact beq_eq_false_iff_ne.mpr (by omega)
      have c2 : (decide (k ≤ 0) || its.toArray.isEmpty) = false := by
        rw [hi, Bool.or_false]
        exact decide_eq_false (by omega)
      have c4 : Builtin.Tuple.tupleTooMany (((its.toArray.size : Nat) : Int) * k) = false := by
        unfold Builtin.Tuple.tupleTooMany
        rw [sizeLine_eq]
        exact decide_eq_false (by omega)
      refine wpAny_binaryOp_repeat_ref (T := "tuple") (U := "int") (by decide) ⟨_, ho, rfl⟩ (fun s' => typeIs_int s' k t) noFill_tuple_mul F.fills_int_mul F.slot_int_rmul repeat_tuple F.slot_int_index.lookup
        (call_meets F.slot_int_rmul (typeIs_int s k t) F.entry_int_rmul (F.args_int_rmul_2 _ _) (int_rmul_tuple k t l its.toArray n dd sl)
          ⟨ho, rfl, ⟨_, ho, rfl⟩, call_meets F.slot_tuple_mul ⟨_, ho, rfl⟩ F.entry_tuple_mul (F.args_tuple_mul_2 _ _) (tuple_mulW l its.toArray n dd sl k t c0 c1 c2 (by omega) c4 (by rw [size_rep, List.size_toArray]; exact flen)) ⟨ho, ?_⟩⟩)
      rw [size_rep]
      exact ⟨.ref s.heap.objs.size, _, laid_st (t' := s.toks) I (fun b ob q => Heap.get?_push_of_some _ q) (Nat.le_refl _) (r.rep k.toNat) (by rw [PyProof.Rows.lm_len_rep_flat, sizeLine_eq]; have a1 : k.toNat * xs.length ≤ 1000 * 1000 := Nat.mul_le_mul (by omega) hz; omega) (Heap.get?_push_size _ rfl), rfl, q k1 _ _ (I.hok.fresh (Nat.le_refl _)) rfl rfl⟩
def vRepS (x y : D) (hs : Hs) : R D := match x, y with
  | .st ds, .int k => if ds ≠ [] ∧ ds.length ≤ 1000 ∧ 0 ≤ k ∧ k ≤ 1000 then .ok (.st (repD k.toNat ds)) hs else .bad
  | _, _ => .bad
theorem jo_repS : JO c X (binaryOp .Mult) vRepS := by
  refine ⟨_, op_repS, fun w hs x y vx vy Q E S rx ry h => ?_⟩
  unfold vRepS at h
  split at h
  · rename_i ds k
    split at h
    · rename_i hc
      obtain ⟨h1, h2, h3, h4⟩ := hc
      have rx0 := rx
      unfold Rp at rx
      obtain ⟨a, vs, rfl, q, r⟩ := rx
      obtain rfl : vy = .int k := ry
      have hne : vs ≠ [] := fun e => h1 (by subst e; exact List.length_eq_zero_iff.mp r.length.symm)
      refine ⟨a, k, vs, rfl, rfl, sqt_sub S.sub (st_sqt q), hne, h3, h4, by rw [r.length]; exact h2, fun e => ?_, fun _ p ob hp hc hd => new_st S (rep_rps r _) h hp hc hd⟩
      subst e
      have e1 : repD (1 : Int).toNat ds = ds := by
        show (List.replicate 1 ds).flatten = ds
        simp
      rw [e1] at h
      exact h.now S _ rx0
    · exact h.elim
  · exact h.elim
end
end Mm
namespace Mm
open PySem PySem.Spec PyProof.Rows L2
def rng2s (lo : Int) (n : Nat) : List D := (List.range n).map fun (k : Nat) => .int (lo + (k : Int) * 2)
def int3 : List D → Option (Int × Int × Int)
  | [.int i, .int j, .int k] => some (i, j, k)
  | _ => none
theorem int3_some {ds : List D} {p : Int × Int × Int} (h : int3 ds = some p) : ds = [.int p.1, .int p.2.1, .int p.2.2] := by
  unfold int3 at h
  split at h
  · cases h; rfl
  · cases h
/-- range(i, j, 2) -/
def iRng3 (as : MA) : MI := fun fs hs => (as fs hs).bind fun ds h1 => match int3 ds with
  | some p => if (0 ≤ p.1 ∧ p.1 ≤ 1000) ∧ (0 ≤ p.2.1 ∧ p.2.1 ≤ 1000) ∧ p.2.2 = 2 then .ok (rng2s p.1 ((p.2.1 - p.1 + 1) / 2).toNat, none) h1 else .bad
  | none => .bad
theorem rgc2 {i j : Int} (h : 0 ≤ i ∧ i ≤ 1000) (h2 : 0 ≤ j ∧ j ≤ 1000) : RgC i j 2 ((j - i + 1) / 2).toNat := by
  have e : Builtin.Range.rangeSize i j 2 = (((j - i + 1) / 2).toNat : Nat) := by
    unfold Builtin.Range.rangeSize
    rw [if_pos (by decide)]
    split <;> omega
  refine ⟨by decide, by decide, ?_, e⟩
  unfold Builtin.Range.small
  rw [e]
  simp only [Builtin.Range.rangeFitsLong, Bool.and_eq_true, Bool.or_eq_true, decide_eq_true_eq, beq_iff_eq, show (2 : Int) > 0 by decide, if_true]
  omega
section
variable {c : Ct} {X : Cx} {W : WX} {a b e tg : Expr} {mas : MA} {pos : Pos}
theorem rng2s_src {w : Wd} {lo : Int} {n : Nat} : SrcOk c (Itc lo 2 n) w (rng2s lo n) none := by
  refine ⟨fun i d w' hs' l S' _ e => ?_, fun w' hs' l S' _ => ?_⟩
  · unfold rng2s at e
    rw [List.getElem?_map] at e
    cases q : (List.range n)[i]? with
    | none => rw [q] at e; cases e
    | some k =>
      rw [q] at e
      obtain ⟨h1, h2⟩ := List.getElem?_eq_some_iff.mp q
      simp at h1 h2 e
      subst h2
      refine ⟨h1, fun x H' hy => ?_⟩
      obtain ⟨rfl, rfl⟩ := hy
      exact ⟨w', Wd.le.refl w', rfl, S', by rw [← e]; rfl⟩
  · show n ≤ (rng2s lo n).length
    unfold rng2s
    simp
theorem rps3 {ρ : List Addr} {F : Hp} {d e f : D} {vs : List V} (r : Rps c ρ F [d, e, f] vs) : ∃ v u z, vs = [v, u, z] ∧ Rp c ρ F d v ∧ Rp c ρ F e u ∧ Rp c ρ F f z := by
  unfold Rps at r
  obtain ⟨v, r', rfl, h1, h2⟩ := r
  obtain ⟨u, z, rfl, h3, h4⟩ := rps2 h2
  exact ⟨v, u, z, rfl, h1, h3, h4⟩
theorem ji_rng3 {p : Pos} (hg : Gl X "range") (hm : X.mg "range" = none) (ha : JA c X W [a, b, e] mas) (hs : starEach [a, b, e] X.env = (false, eval a X.env) :: starEach [b, e] X.env := by rfl) (hpl : (backTo pos (starEach [b, e] X.env)).any (·.1) = false := by rfl) :
    JI c X W tg (.Call (.Name "range" p) [a, b, e] [] pos) (Mm.iRng3 mas) := by
  obtain ⟨t, pa, s⟩ := ha.ex
  refine ⟨_, pi_range3 hg hm pa hs hpl, fun w fs hs σ Rr S E h => ?_⟩
  refine s w fs hs σ _ S E (h.bind.imp fun ds h1 w1 l1 S1 p1 vs rs => ?_)
  cases e : int3 ds with
  | none => simp only [e] at p1; exact p1.elim
  | some q =>
    simp only [e] at p1
    obtain rfl := int3_some e
    split at p1
    · rename_i hj
      obtain ⟨h1, h2, h3⟩ := hj
      obtain ⟨v, u, z, rfl, r1, r2, r3⟩ := rps3 rs
      obtain rfl : v = .int q.1 := r1
      obtain rfl : u = .int q.2.1 := r2
      obtain rfl : z = .int q.2.2 := r3
      refine ⟨q.1, q.2.1, q.2.2, _, rfl, by rw [h3]; exact rgc2 h1 h2, ?_⟩
      rw [h3]
      exact p1.now S1 _ rng2s_src
    · exact p1.elim
end
end Mm
namespace Mm
open PySem PySem.Spec PyProof.Rows L2
section
variable {X : Cx}
theorem ps_setDcG {o0 : HO} (h0 : ∀ (h : Heap), sysModules < h.objs.size → ∀ (P : Program) (w : World) (H : Hp), ObjOk P w H (h.push { cls := .type "dict", data := .dict #[] }) h.objs.size o0) (hun : X.A.units + 1 < cLine) {i : Nat} {y : Str} {py : Pos} {kx vx tg iter : Expr} {ifs : List Expr} {scope : Scope} {own : List (Str × Nat)} {pos spos : Pos} {wi : TI} {g : TG} {tt : TT} {tk tv : TE} (hc : X.calm = true) (hN : X.N.Nodup) (hy : X.N[i]? = some y) (hyl : X.env.scope.names.lookup y = some .local)
    (hsw : swapsWith (.DictComp kx vx [⟨tg, iter, ifs, 0⟩] scope pos) (some (.Name y py)) spos.line X.env = pure true) (hi : PI X tg iter wi) (ok : BlkOk X.N X.env.scope scope own)
    (hg : ∀ (s : Shared) (H : Hp) (C : Addr) (cl : List (Str × Addr)) (fp : List Addr), PG (X.blk s H scope (compEnvC scope cl C X.env) fp) tg g) (ht : ∀ (s : Shared) (H : Hp) (C : Addr) (cl : List (Str × Addr)) (fp : List Addr), PTs (X.blk s H scope (compEnvC scope cl C X.env) fp) ifs tt)
    (hk : ∀ (s : Shared) (H : Hp) (C : Addr) (cl : List (Str × Addr)) (fp : List Addr), PE (X.blk s H scope (compEnvC scope cl C X.env) fp) kx tk)
    (he : ∀ (s : Shared) (H : Hp) (C : Addr) (cl : List (Str × Addr)) (fp : List Addr), PE (X.blk s H scope (compEnvC scope cl C X.env) fp) vx tv) (hs : ∀ x, foldedSetIterable iter X.env x = pure x := by intro _; rfl) :
    PS X (.Assign [.Name y py] (.DictComp kx vx [⟨tg, iter, ifs, 0⟩] scope pos) spos) (tAsg (tDcG o0 wi g tt tk tv (own.map (·.2))) (L2.gName i)) := by
  refine ⟨fun pins s σ H D I h => ?_⟩
  rw [exec_Assign_Name_used _ _ _ _ hsw]
  refine wpAny_bind (wpAny_standAt (wpAny_bind ?_))
  show wpAny _ X.A (do let _ ← comprehension (.DictComp kx vx [⟨tg, iter, ifs, 0⟩] scope pos) scope X.env (firstIterPos [⟨tg, iter, ifs, 0⟩] pos) newDict false (eval iter X.env) (some (assign (.Name y py) X.env))) _ _ s
  have h : tDcG o0 wi g tt tk tv (own.map (·.2)) σ H (fun x H1 => L2.gName i x σ H1 D.nx) := h
  refine wpAny_bind (thn (dc_coreG h0 hun (Qf := fun _ s' => SP X pins D .next s') hc hN I hi ok hg ht hk he hs h fun L C s' m H' I' q hn f => ?_) fun _ s' hq => wpAny_pure (wpAny_pure hq))
  show wpAny _ _ (assign (.Name y py) X.env (.ref L)) _ _ _
  refine wpAny_assign_Name (store_ok2 (v := V.ref L) I' hN hy (.inl hyl) rfl (fun s2 I2 ⟨a, sb, ha⟩ => ?_) (.inr hyl))
  obtain ⟨f0, f1, f2, f3, f4, f5⟩ := f
  have haC : C ≠ a := by
    rcases ha with z | z
    · rw [z]; exact f1
    · exact fun e => f4 y a z e.symm
  refine ⟨m, hn.sameBut sb haC, fun h3 sb3 => ?_⟩
  exact ⟨_, H', I2.turned (t' := s2.toks) (fun b o hb e => (sb3.2 b hb).trans e) f0 f1 f3 f4 f5, q⟩
theorem sw_trueD {kx vx : Expr} {gs : List Comprehension} {scope : Scope} {pos py : Pos} {y : Str} {l : Nat} {env : Env} (hk : env.scope.kind = .function) (hy : env.scope.names.lookup y = some .local) (hl : (py.line == pos.line) = true)
    (ha : (scope.names.any fun (n, k) => n == y && (k == .local || k == .cell)) = false) : swapsWith (.DictComp kx vx gs scope pos) (some (.Name y py)) l env = pure true := by
  have ky : env.kindOf y = some .local := hy
  have hb : env.blockKind = .function := by unfold Env.blockKind; rw [hk]; rfl
  unfold swapsWith
  simp only [hb, ky, ha, Expr.pos, hl]
  rfl
end
section
variable {c : Ct} {X : Cx} {W : WX} {kx elt tg iter : Expr} {ifs : List Expr} {scope : Scope} {own : List (Str × Nat)} {src : MI} {g : MG} {mt : MT} {mk ma : M} {pos : Pos}
theorem js_setDcT (i : Nat) {y : Str} {py spos : Pos} (hc : X.calm = true) (hN : X.N.Nodup) (hu : X.A.units + 1 < cLine) (hi : JI c X W tg iter src) (ok : BlkOk X.N X.env.scope scope own)
    (hg : ∀ (s : Shared) (H : Hp) (C : Addr) (cl : List (Str × Addr)) (fp : List Addr), JGo c (X.blk s H scope (compEnvC scope cl C X.env) fp) (own.map (·.2)) tg g)
    (ht : ∀ (s : Shared) (H : Hp) (C : Addr) (cl : List (Str × Addr)) (fp : List Addr), JTs c (X.blk s H scope (compEnvC scope cl C X.env) fp) W0 ifs mt)
    (hk : ∀ (s : Shared) (H : Hp) (C : Addr) (cl : List (Str × Addr)) (fp : List Addr), JE c (X.blk s H scope (compEnvC scope cl C X.env) fp) W0 kx mk)
    (he : ∀ (s : Shared) (H : Hp) (C : Addr) (cl : List (Str × Addr)) (fp : List Addr), JE c (X.blk s H scope (compEnvC scope cl C X.env) fp) W0 elt ma)
    (hsw : swapsWith (.DictComp kx elt [⟨tg, iter, ifs, 0⟩] scope pos) (some (.Name y py)) spos.line X.env = pure true)
    (hy : X.N[i]? = some y := by rfl) (hyl : X.env.scope.names.lookup y = some .local := by rfl) (hs : ∀ x, foldedSetIterable iter X.env x = pure x := by intro _; rfl) :
    JS c X W (.Assign [.Name y py] (.DictComp kx elt [⟨tg, iter, ifs, 0⟩] scope pos) spos) (sAsg (eDcT (own.map (·.2)) src g mt mk ma) (Mm.gName i)) := by
  obtain ⟨wi, pi, si⟩ := hi.ex
  refine ⟨_, ps_setDcG (o0 := .dT []) (fun h hb P w H => dt_empty h hb) hu hc hN hy hyl hsw pi ok (fun s H C cl fp => (hg s H C cl fp).pg) (fun s H C cl fp => (ht s H C cl fp).pts) (fun s H C cl fp => (hk s H C cl fp).pe) (fun s H C cl fp => (he s H C cl fp).pe) hs, fun w fs hs σ De S E h => ?_⟩
  have h2 := (PostS.bindS h E).bind
  refine si w fs hs σ _ S E (h2.imp fun p h1 w1 l1 S1 p1 J sJ => fun A hA => ?_)
  refine dc_sound (mk := O.dt) (mkH := HO.dT) (Q := fun v H => De.nx (σ.set i (some v)) H) (fun ρ F kvs us r => ⟨us, rfl, r.1, r.2⟩) (fun w d yv q us A z e r sb eA hl => ?_) sJ S1 (E.le l1) (p1.imp fun d h2 w2 l2 S2 p2 v r => p2 w2 _ (Wd.le.refl w2) S2 (((E.le l1).le l2).set r)) A hA
  unfold keysOf at e
  split at e
  · rename_i ds
    unfold Rp at r
    obtain ⟨b, vs, rfl, qb, rb⟩ := r
    have ek := keys_at e rb
    exact .inr ⟨us, q, b, eA, rfl, by rw [← ek]; exact sb _ _ qb, hl, rfl⟩
  · cases e
end
end Mm
namespace Mm
open PySem PySem.Spec PyProof.Rows L2
/-- raise x('..') -/
def sRaise (x : Str) : MS := fun fs hs => .exc x .non fs hs
section
variable {c : Ct} {X : Cx} {W : WX}
structure ExcF (c : Ct) (X : Cx) (x : Str) : Prop where
  ei : PySem.W.excIn X.K (c.G x) He.veBase "ValueError.__new__" = true
  kp : PySem.W.keepIn X.K (.ref (c.G x)) = true
  sb : PySem.W.subIn X.K (.ref (c.G x)) (.type "BaseException") = some true
  ty : PySem.W.typeIn X.K (.ref (c.G x)) = some (.type "type")
theorem js_raise {x m : Str} {j : Nat} {p p2 pos cpos : Pos} (hc : X.calm = true) (tk : Takes X W) (F : ExcF c X x) (gC : X.mg x = some (.ref (c.G x))) (hg : Gl X x) (hdb : (x == ("__debug__" : Str)) = false := by decide) :
    JS c X W (.Raise (some (.Call (.Name x p) [.Constant (.str m) j p2] [] cpos)) none pos) (sRaise x) := by
  refine ⟨_, ps_raise hc tk (pmk_own PySem.F.excBase_ValueError F.ei gC F.kp (raises_own F.sb F.ty) hg hdb), fun w fs hs σ De S E h => ?_⟩
  exact h w none σ (Wd.le.refl w) S E (.inl ⟨rfl, rfl⟩)
/-- a canonical reading of statements -/
def tMS (c : Ct) (W : WX) (m : MS) : TS := fun De σ H => ∃ w fs hs, w.H = H ∧ SR c w hs ∧ RE c w fs σ ∧ PostS c w (m fs hs) De W
theorem JSs.pss {st : List Stmt} {m : MS} (h : JSs c X W st m) : PSs X st (tMS c W m) := by
  obtain ⟨ts, p, s⟩ := h.ex
  refine ⟨fun pins st σ H D I q => ?_⟩
  obtain ⟨w, fs, hs, rfl, S, E, q⟩ := q
  exact p.run pins st σ w.H D I (s w fs hs σ D S E q)
end
end Mm
namespace Mm
def m_is_between : MS := (sRet (eAnd (eArgs vIsi (aCons (eVar 0) (aCons (eC (.ty "int")) aNil))) (eAnd (eNot (eArgs vIsi (aCons (eVar 0) (aCons (eC (.ty "bool")) aNil)))) (eChain vLe vLe (eVar 1) (eVar 0) (eVar 2)))))
def c_is_between : List D → Hs → R D := callD 3 3 0 m_is_between
def body_routes_from_0 : MS := (sIf (tAnd (tVal (eBin vEq (eVar 6) (eVar 5))) (tVal (eBin vNotIn (eVar 7) (eVar 2)))) (sSeq (sAsg (eArgs vTup (aCons (eBin vAdd (eBin vIx (eVar 4) (eC (.int 0))) (eVar 8)) (aCons (eBin vAdd (eBin vIx (eVar 4) (eC (.int 1))) (eC (.int 1))) (aCons (eBin vAdd (eBin vIx (eVar 4) (eC (.int 2))) (eArgs vTup (aCons (eVar 7) aNil))) aNil)))) (Mm.gName 10))
  (sAsg (eArgs vMin2 (aCons (eMeth isDct mGet2 (eVar 3) (aCons (eVar 7) (aCons (eVar 10) aNil))) (aCons (eVar 10) aNil))) (Mm.gSub setIx (eVar 3) (eVar 7)))) sNx)
def body_routes_from_1 : MS := (sSeq (sAsg (eUn vMinV (eVar 3)) (Mm.gName 4))
  (sSeq (sAsg (eBin vIx (eBin vIx (eVar 4) (eC (.int 2))) (eUn vNeg (eC (.int 1)))) (Mm.gName 5))
  (sSeq (sExpr (eMeth isDct mPopK (eVar 3) (aCons (eVar 5) aNil)))
  (sSeq (sAsg (eVar 4) (Mm.gSub setIx (eVar 2) (eVar 5)))
  (sFor (iSeq (eVar 0)) (Mm.gTup (Mm.gCons (Mm.gName 6) (Mm.gCons (Mm.gName 7) (Mm.gCons (Mm.gName 8) (Mm.gCons (Mm.gName 9) Mm.gNil))))) body_routes_from_0)))))
def m_routes_from : MS := (sSeq (sAsg eDk (Mm.gName 2))
  (sSeq (sAsg (eArgs vDisp1 (aCons (eVar 1) (aCons (eArgs vTup (aCons (eC (.int 0)) (aCons (eC (.int 1)) (aCons (eArgs vTup (aCons (eVar 1) aNil)) aNil)))) aNil))) (Mm.gName 3))
  (sSeq (sWhile 100 (tVal (eBin vNe (eVar 3) eDf)) body_routes_from_1)
  (sRet (eFrz (eVar 2))))))
def c_routes_from : List D → Hs → R D := callD 2 11 0 m_routes_from
def body_law_dice_0 : MS := (sAsg (eBin vMod (eBin vAdd (eBin vMul (eVar 2) (eC (.int 31))) (eArgs vAbs (aCons (eVar 3) aNil))) (eC (.int 2147483647))) (Mm.gName 2))
def m_law_dice : MS := (sSeq (sAsg (eVar 1) (Mm.gName 2))
  (sSeq (sFor (iSeq (eVar 0)) (Mm.gName 3) body_law_dice_0)
  (sRet (eBin vAddO (eArgs vLst (aCons (eVar 2) (aCons (eC (.int 0)) aNil))) (eLc [3] (iSeq (eVar 0)) (Mm.gName 3) (tVal (eBin vGe (eVar 3) (eBin vPow (eC (.int 10)) (eC (.int 18))))) (eVar 3))))))
def c_law_dice : List D → Hs → R D := callD 2 4 1 m_law_dice
def m_law_off : MS := (sSeq (sIf (tAnd (tVal (eBin vEq (eBin vIx (eVar 0) (eC (.int 1))) (eC (.int 0)))) (tVal (eBin vGt (eArgs vLen (aCons (eVar 0) aNil)) (eC (.int 2))))) (sAsg (eMeth isLst mPopAt (eVar 0) (aCons (eC (.int 2)) aNil)) (Mm.gSub setIx (eVar 0) (eC (.int 1)))) sNx)
  (sSeq (sIf (tVal (eBin vGt (eBin vIx (eVar 0) (eC (.int 1))) (eC (.int 0)))) (sSeq (sAsg (eBin vMod (eBin vIx (eVar 0) (eC (.int 1))) (eVar 1)) (Mm.gName 2))
  (sSeq (sAsg (eBin vFdiv (eBin vIx (eVar 0) (eC (.int 1))) (eVar 1)) (Mm.gSub setIx (eVar 0) (eC (.int 1))))
  (sRet (eVar 2)))) sNx)
  (sSeq (sAsg (eBin vMod (eBin vAdd (eBin vMul (eBin vIx (eVar 0) (eC (.int 0))) (eC (.int 48271))) (eC (.int 11))) (eC (.int 2147483647))) (Mm.gSub setIx (eVar 0) (eC (.int 0))))
  (sRet (eBin vMod (eBin vFdiv (eBin vIx (eVar 0) (eC (.int 0))) (eC (.int 64))) (eVar 1))))))
def c_law_off : List D → Hs → R D := callD 2 3 0 m_law_off
def m_is_kind : MS := (sRet (eArgs c_is_between (aCons (eVar 0) (aCons (eC (.int 0)) (aCons (eBin vSub (eC (.int 10)) (eC (.int 1))) aNil)))))
def c_is_kind : List D → Hs → R D := callD 1 1 0 m_is_kind
def body_law_ways_0 : MS := (sSeq (sAsg (eArgs vTup (aCons (eArgs c_law_off (aCons (eVar 0) (aCons (eVar 3) aNil))) (aCons (eArgs c_law_off (aCons (eVar 0) (aCons (eVar 3) aNil))) aNil))) (Mm.gName 6))
  (sIf (tAnd (tVal (eBin vNe (eBin vIx (eVar 6) (eC (.int 0))) (eBin vIx (eVar 6) (eC (.int 1))))) (tVal (eBin vNotIn (eVar 6) (eVar 5)))) (sSeq (sExpr (eMeth isLst mAppend (eVar 5) (aCons (eVar 6) aNil)))
  (sSeq (sAsg (eArgs c_law_off (aCons (eVar 0) (aCons (eBin vIx (eArgs vLst (aCons (eC (.int 3)) (aCons (eC (.int 10)) aNil))) (eArgs c_law_off (aCons (eVar 0) (aCons (eC (.int 2)) aNil)))) aNil))) (Mm.gName 7))
  (sExpr (eMeth isLst mAppend (eVar 4) (aCons (eBin vAdd (eVar 6) (eArgs vTup (aCons (eVar 7) (aCons (eBin vIx (eArgs vLst (aCons (eC (.str "same")) (aCons (eC (.str "turn")) (aCons (eC (.str "sort")) (aCons (eC (.str "half")) (aCons (eC (.str "next")) aNil)))))) (eArgs c_law_off (aCons (eVar 0) (aCons (eC (.int 5)) aNil)))) aNil)))) aNil))))) sNx))
def m_law_ways : MS := (sSeq (sPar 2 3 (eBin vIx (eArgs vLst (aCons (eC (.int 4)) (aCons (eC (.int 12)) (aCons (eC (.int 30)) aNil)))) (eArgs c_law_off (aCons (eVar 0) (aCons (eC (.int 3)) aNil)))) (eBin vIx (eArgs vLst (aCons (eC (.int 3)) (aCons (eC (.int 6)) (aCons (eC (.int 10)) aNil)))) (eArgs c_law_off (aCons (eVar 0) (aCons (eC (.int 3)) aNil)))))
  (sSeq (sPar 4 5 (eArgs vLstO aNil) (eArgs vLstO aNil))
  (sSeq (sFor (Mm.iRng1 (aCons (eArgs c_law_off (aCons (eVar 0) (aCons (eBin vAdd (eVar 2) (eC (.int 1))) aNil))) aNil)) (Mm.gName 1) body_law_ways_0)
  (sRet (eFrz (eVar 4))))))
def c_law_ways : List D → Hs → R D := callD 1 8 0 m_law_ways
def m_is_way : MS := (sSeq (sIf (tOr (tNot (tVal (eArgs vIsi (aCons (eVar 0) (aCons (eC (.ty "tuple")) aNil))))) (tOr (tVal (eBin vNe (eArgs vLen (aCons (eVar 0) aNil)) (eC (.int 4)))) (tOr (tNot (tVal (eArgs c_is_kind (aCons (eBin vIx (eVar 0) (eC (.int 0))) aNil)))) (tOr (tNot (tVal (eArgs c_is_kind (aCons (eBin vIx (eVar 0) (eC (.int 1))) aNil)))) (tVal (eBin vEq (eBin vIx (eVar 0) (eC (.int 0))) (eBin vIx (eVar 0) (eC (.int 1))))))))) (sRet (eC (.bl false))) sNx)
  (sRet (eAnd (eArgs c_is_between (aCons (eBin vIx (eVar 0) (eC (.int 2))) (aCons (eC (.int 0)) (aCons (eC (.int 9)) aNil)))) (eAnd (eArgs vIsi (aCons (eBin vIx (eVar 0) (eC (.int 3))) (aCons (eC (.ty "str")) aNil))) (eBin vIn (eBin vIx (eVar 0) (eC (.int 3))) (eC (.rt [.str "same", .str "turn", .str "sort", .str "half", .str "next"])))))))
def c_is_way : List D → Hs → R D := callD 1 1 0 m_is_way
def m_are_kinds : MS := (sSeq (sIf (tOr (tNot (tVal (eArgs vIsi (aCons (eVar 0) (aCons (eC (.ty "tuple")) aNil))))) (tVal (eBin vEq (eVar 0) (eArgs vTup aNil)))) (sRet (eC (.bl false))) sNx)
  (sRet (eAnd (eBin vEq (eLc [1] (iSeq (eVar 0)) (Mm.gName 1) (tNot (tVal (eArgs c_is_kind (aCons (eVar 1) aNil)))) (eVar 1)) (eArgs vLst aNil)) (eBin vEq (eUn vLenSetT (eVar 0)) (eArgs vLen (aCons (eVar 0) aNil))))))
def c_are_kinds : List D → Hs → R D := callD 1 2 0 m_are_kinds
def body_need_ways_0 : MS := (sSeq (sIf (tOr (tVal (eBin vGe (eVar 2) (eC (.int 30)))) (tOr (tNot (tVal (eArgs c_is_way (aCons (eVar 3) aNil)))) (tVal (eBin vIn (eSl vSl (eVar 3) oNone (oSome (eC (.int 2)))) (eVar 1))))) sNever sNx)
  (sAsg (eC (.bl true)) (Mm.gSub setIx (eVar 1) (eSl vSl (eVar 3) oNone (oSome (eC (.int 2)))))))
def m_need_ways : MS := (sSeq (sAsg eDt (Mm.gName 1))
  (sFor (Mm.iEnum2 (aCons (eVar 0) aNil)) (Mm.gTup (Mm.gCons (Mm.gName 2) (Mm.gCons (Mm.gName 3) Mm.gNil))) body_need_ways_0))
def c_need_ways : List D → Hs → R D := callD 1 4 0 m_need_ways
def m_need_kinds : MS := (sIf (tNot (tVal (eArgs c_are_kinds (aCons (eVar 0) aNil)))) sNever sNx)
def c_need_kinds : List D → Hs → R D := callD 1 1 0 m_need_kinds
end Mm
namespace Mm
def m_law_alike (cr : List D → Hs → R D) : MS := (sSeq (sIf (tVal (eBin (onN vIsN) (eVar 1) (eC .non))) (sRet (eBin (onN vIsN) (eVar 0) (eC .non))) sNx)
  (sSeq (sIf (tVal (eArgs vIsi (aCons (eVar 1) (aCons (eC (.ty "bool")) aNil)))) (sRet (eAnd (eArgs vIsi (aCons (eVar 0) (aCons (eC (.ty "bool")) aNil))) (eBin vEq (eVar 0) (eVar 1)))) sNx)
  (sSeq (sIf (tVal (eArgs vIsi (aCons (eVar 1) (aCons (eC (.ty "int")) aNil)))) (sRet (eAnd (eArgs vIsi (aCons (eVar 0) (aCons (eC (.ty "int")) aNil))) (eAnd (eNot (eArgs vIsi (aCons (eVar 0) (aCons (eC (.ty "bool")) aNil)))) (eBin vEq (eVar 0) (eVar 1))))) sNx)
  (sSeq (sIf (tVal (eArgs vIsi (aCons (eVar 1) (aCons (eC (.ty "str")) aNil)))) (sRet (eAnd (eArgs vIsi (aCons (eVar 0) (aCons (eC (.ty "str")) aNil))) (eBin vEq (eVar 0) (eVar 1)))) sNx)
  (sSeq (sIf (tOr (tVal (eBin vNe (eArgs vIsi (aCons (eVar 1) (aCons (eC (.ty "tuple")) aNil))) (eArgs vIsi (aCons (eVar 0) (aCons (eC (.ty "tuple")) aNil))))) (tVal (eBin vNe (eArgs vIsi (aCons (eVar 1) (aCons (eC (.ty "list")) aNil))) (eArgs vIsi (aCons (eVar 0) (aCons (eC (.ty "list")) aNil)))))) (sRet (eC (.bl false))) sNx)
  (sSeq (sIf (tVal (eBin vNe (eArgs vLen (aCons (eVar 0) aNil)) (eArgs vLen (aCons (eVar 1) aNil)))) (sRet (eC (.bl false))) sNx)
  (sRet (eArgs vAll (aCons (eLc [2] (Mm.iRng1 (aCons (eArgs vLen (aCons (eVar 1) aNil)) aNil)) (Mm.gName 2) tYes (eArgs cr (aCons (eBin vIx (eVar 0) (eVar 2)) (aCons (eBin vIx (eVar 1) (eVar 2)) aNil)))) aNil)))))))))
def c_law_alike : Nat → List D → Hs → R D
  | 0 => callD 2 3 0 sNever
  | k + 1 => callD 2 3 0 (m_law_alike (c_law_alike k))
end Mm
namespace Mm
def m_is_body : MS := (sSeq (sIf (tOr (tNot (tVal (eArgs vIsi (aCons (eVar 0) (aCons (eC (.ty "tuple")) aNil))))) (tVal (eBin vGt (eArgs vLen (aCons (eVar 0) aNil)) (eC (.int 12))))) (sRet (eC (.bl false))) sNx)
  (sRet (eBin vEq (eLc [1] (iSeq (eVar 0)) (Mm.gName 1) (tNot (tVal (eArgs c_is_between (aCons (eVar 1) (aCons (eC (.int 0)) (aCons (eC (.int 9)) aNil)))))) (eVar 1)) (eArgs vLst aNil))))
def c_is_body : List D → Hs → R D := callD 1 2 0 m_is_body
end Mm
namespace Mm
def m_turned : MS := (sSeq (sIf (tVal (eBin vEq (eVar 1) (eC (.str "turn")))) (sRet (eUn vRev (eVar 0))) sNx)
  (sSeq (sIf (tVal (eBin vEq (eVar 1) (eC (.str "sort")))) (sRet (eArgs vTuple (aCons (eArgs vSortTup (aCons (eVar 0) aNil)) aNil))) sNx)
  (sSeq (sIf (tVal (eBin vEq (eVar 1) (eC (.str "half")))) (sRet (eArgs vTuple (aCons (eLc [2] (Mm.iRng3 (aCons (eC (.int 0)) (aCons (eArgs vLen (aCons (eVar 0) aNil)) (aCons (eC (.int 2)) aNil)))) (Mm.gName 2) tYes (eBin vIx (eVar 0) (eVar 2))) aNil))) sNx)
  (sRet (eIf (tVal (eBin vEq (eVar 1) (eC (.str "next")))) (eArgs vTuple (aCons (eLc [3] (iSeq (eVar 0)) (Mm.gName 3) tYes (eBin vMod (eBin vAdd (eVar 3) (eC (.int 1))) (eC (.int 10)))) aNil)) (eVar 0))))))
def c_turned : List D → Hs → R D := callA 2 4 m_turned
def m_Clip_told : MS := (sSeq (sAsg (eArgs vTuple (aCons (eLc [2] (iSeq (eUn (vFld ["Clip"] "kinds") (eVar 0))) (Mm.gName 2) tYes (eArgs vTup (aCons (eVar 2) (aCons (eBin vIn (eVar 2) (eUn (vFld ["Clip"] "bodies") (eVar 0))) aNil)))) aNil)) (Mm.gName 1))
  (sRet (eArgs vTup (aCons (eUn (vFld ["Clip", "Paste"] "number") (eVar 0)) (aCons (eUn (vFld ["Clip"] "owner") (eVar 0)) (aCons (eVar 1) (aCons (eUn (vFld ["Clip"] "pinned") (eVar 0)) aNil)))))))
def c_Clip_told : List D → Hs → R D := callA 1 3 m_Clip_told
def body_law_turned_0 : MS := (sAsg (eBin vAddS (eVar 2) (eBin vRepS (eArgs vTupS (aCons (eVar 3) aNil)) (eMeth isSt mCount (eVar 0) (aCons (eVar 3) aNil)))) (Mm.gName 2))
def m_law_turned : MS := (sSeq (sIf (tVal (eBin vEq (eVar 1) (eC (.str "turn")))) (sRet (eArgs vTupleS (aCons (eLc [4] (Mm.iRng1 (aCons (eArgs vLen (aCons (eVar 0) aNil)) aNil)) (Mm.gName 4) tYes (eBin vIx (eVar 0) (eBin vSub (eBin vSub (eArgs vLen (aCons (eVar 0) aNil)) (eC (.int 1))) (eVar 4)))) aNil))) sNx)
  (sSeq (sIf (tVal (eBin vEq (eVar 1) (eC (.str "half")))) (sRet (eArgs vTupleS (aCons (eLc [4] (Mm.iRng1 (aCons (eArgs vLen (aCons (eVar 0) aNil)) aNil)) (Mm.gName 4) (tVal (eBin vEq (eBin vMod (eVar 4) (eC (.int 2))) (eC (.int 0)))) (eBin vIx (eVar 0) (eVar 4))) aNil))) sNx)
  (sSeq (sIf (tVal (eBin vEq (eVar 1) (eC (.str "next")))) (sRet (eArgs vTupleS (aCons (eLc [5] (iSeq (eVar 0)) (Mm.gName 5) tYes (eIf (tVal (eBin vEq (eVar 5) (eC (.int 9)))) (eC (.int 0)) (eBin vAdd (eVar 5) (eC (.int 1))))) aNil))) sNx)
  (sSeq (sIf (tVal (eBin vEq (eVar 1) (eC (.str "same")))) (sRet (eVar 0)) sNx)
  (sSeq (sAsg (eArgs vTupS aNil) (Mm.gName 2))
  (sSeq (sFor (Mm.iRng1 (aCons (eC (.int 10)) aNil)) (Mm.gName 3) body_law_turned_0)
  (sRet (eVar 2))))))))
def c_law_turned : List D → Hs → R D := callA 2 6 m_law_turned
def m_Board_need_program : MS := (sIf (tOr (tNot (tVal (eArgs c_is_between (aCons (eVar 1) (aCons (eC (.int 0)) (aCons (eBin vSub (eUn (vFld ["Board"] "joined") (eVar 0)) (eC (.int 1))) aNil)))))) (tVal (eBin vNotIn (eVar 1) (eUn (vFld ["Board"] "ears") (eVar 0))))) (sRaise "NoProgram") sNx)
def c_Board_need_program : List D → Hs → R D := callA 2 2 m_Board_need_program
def m_Board_kept : MS := (sRet (eLc [1] (iSeq (eUn vRev (eUn (vFld ["Board"] "clips") (eVar 0)))) (Mm.gName 1) tYes (eMethO "Clip" "told" c_Clip_told (eVar 1) aNil)))
def c_Board_kept : List D → Hs → R D := callA 1 2 m_Board_kept
def m_law_body_v2 : MS := (sRet (eArgs vTupleS (aCons (eLc [1] (Mm.iRng1 (aCons (eArgs c_law_off (aCons (eVar 0) (aCons (eBin vIx (eArgs vLst (aCons (eC (.int 4)) (aCons (eC (.int 13)) aNil))) (eArgs c_law_off (aCons (eVar 0) (aCons (eC (.int 2)) aNil)))) aNil))) aNil)) (Mm.gName 1) tYes (eArgs c_law_off (aCons (eVar 0) (aCons (eC (.int 10)) aNil)))) aNil)))
def c_law_body_v2 : List D → Hs → R D := callA 1 2 m_law_body_v2
def body_law_made_0 : MS := (sSeq (sAsg (eBin vIx (eLc [5] (iSeq (eVar 0)) (Mm.gName 5) (tVal (eBin vEq (eSl vSl (eVar 5) oNone (oSome (eC (.int 2)))) (eArgs vTup (aCons (eBin vIx (eVar 1) (eBin vSub (eVar 3) (eC (.int 1)))) (aCons (eBin vIx (eVar 1) (eVar 3)) aNil))))) (eBin vIx (eVar 5) (eC (.int 3)))) (eC (.int 0))) (Mm.gName 4))
  (sAsg (eArgs c_law_turned (aCons (eVar 2) (aCons (eVar 4) aNil))) (Mm.gName 2)))
def m_law_made : MS := (sSeq (sFor (Mm.iRng2 (aCons (eC (.int 1)) (aCons (eArgs vLen (aCons (eVar 1) aNil)) aNil))) (Mm.gName 3) body_law_made_0)
  (sRet (eVar 2)))
def c_law_made : List D → Hs → R D := callA 3 6 m_law_made
def m_need_body : MS := (sIf (tNot (tVal (eArgs c_is_body (aCons (eVar 0) aNil)))) sNever sNx)
def c_need_body : List D → Hs → R D := callD 1 1 0 m_need_body
def m_Board_heard : MS := (sSeq (sExpr (eMethO "Board" "need_program" c_Board_need_program (eVar 0) (aCons (eVar 1) aNil)))
  (sRet (eArgs vList (aCons (eBin vIxD (eUn (vFld ["Board"] "ears") (eVar 0)) (eVar 1)) aNil))))
def c_Board_heard : List D → Hs → R D := callA 2 2 m_Board_heard
end Mm
namespace Mm
open PySem PySem.Spec PyProof.Rows L2
def ground (h : Heap) (H : Hp) (st : List Env) : Heap := PySem.W.hideAll h ((List.range h.objs.size).filter fun b => (H b).isSome || decide (b ∈ frs st))
section
variable {X : Cx} {pins : List (Addr × Obj)} {σ : L2.St} {H : Hp} {s : Shared} {st : List Env}
theorem ground_get {h : Heap} {b : Addr} {o : Obj} (e : h.get? b = some o) (n : H b = none) (f : b ∉ frs st) : (ground h H st).get? b = some o :=
  PySem.W.hideAll_get _ e fun hm => by
    have q := (List.mem_filter.mp hm).2
    rw [n, decide_eq_false f] at q
    simp at q
theorem of_ground {h : Heap} {b : Addr} {o : Obj} (e : (ground h H st).get? b = some o) : h.get? b = some o ∧ H b = none ∧ b ∉ frs st := by
  have e1 := PySem.W.of_hideAll _ e
  have key : ¬ ((H b).isSome || decide (b ∈ frs st)) = true := fun q => by
    have hm : b ∈ (List.range h.objs.size).filter fun b => (H b).isSome || decide (b ∈ frs st) := List.mem_filter.mpr ⟨List.mem_range.mpr (Heap.lt_size e1), q⟩
    have z := PySem.W.hideAll_none (h := h) _ hm
    rw [show PySem.W.hideAll h _ = ground h H st from rfl, e] at z
    cases z
  rw [Bool.or_eq_true, not_or] at key
  refine ⟨e1, ?_, fun z => key.2 (decide_eq_true z)⟩
  cases q : H b with
  | none => rfl
  | some u => rw [q] at key; exact (key.1 rfl).elim
theorem base_ground (I : Inv X pins σ H s) : ∀ b o, X.base.get? b = some o → (ground s.heap H X.stack).get? b = some o := fun b o e => by
  obtain ⟨h1, h2⟩ := I.bs b o e
  refine ground_get h1 h2 fun hm => ?_
  have z := (I.stack.mem hm).1
  rw [e] at z; cases z
theorem ground_env (I : Inv X pins σ H s) : Env0 X.prog X.w X.K X.mg (ground s.heap H X.stack) X.A X.stack s H := by
  have e0 := I.env0
  have k := base_ground I
  obtain ⟨mb, n1, n2⟩ := e0.mod.blt
  refine ⟨e0.frames, ⟨e0.mod.kin.keeps k, e0.mod.glob.keeps k, ⟨mb, n1.keeps k, n2⟩, e0.mod.nolimit.keeps k⟩, fun b o e => ⟨(of_ground e).1, (of_ground e).2.1⟩, Nat.le_of_eq (PySem.W.hideAll_size _ _), ?_, e0.frf, e0.hok, e0.bare⟩
  refine funFrames_none e0.funs fun L hL => ?_
  cases q : (ground s.heap H X.stack).get? L with
  | none => rfl
  | some o => exact ((of_ground q).2.2 hL).elim
end
abbrev cloOf (X : Cx) (scope : Scope) : List (Str × Addr) := cloFrom X.env.cells scope.names []
/-- base holds the lambda's function object at f, and its captured cells, that hold what σ tells -/
structure FnAt (X : Cx) (base : Heap) (q : Str) (f cc : Addr) (params : Arguments) (body : Expr) (scope : Scope) (σ : L2.St) : Prop where
  fo : ∃ pm ctv, base.get? f = some (PySem.W.kla_obj "<lambda>" q params body scope (cloOf X scope) pm cc ctv)
  cell : ∀ y ce, (cloOf X scope).lookup y = some ce → ∃ v, base.IsCell ce v
  loc : ∀ (i : Nat) (y : Str) (v : V), X.N[i]? = some y → σ[i]? = some (some v) → scope.names.lookup y = some .free → ∃ u ce, RelV v u ∧ (cloOf X scope).lookup y = some ce ∧ base.IsCell ce (some u)
  inj : ∀ x y ce, (cloOf X scope).lookup x = some ce → (cloOf X scope).lookup y = some ce → x = y
  has : ∀ y, scope.names.lookup y = some .free → ∃ ce, (cloOf X scope).lookup y = some ce
  len : σ.length = X.N.length
  L : LamX.LamS X.env.scope scope
open Classical in
def actF (a cc : Nat) (q : Str) (fs : Fs) (vs : L2.St) (m : M) (d : D) (hs : Hs) : R D := match d with
  | .fn b => if b = a ∧ ∃ cs, hs[1]? = some (.tb q cs fs vs) ∧ cc ∈ cs then m fs hs else .bad
  | _ => .bad
def eAct (act : D → Hs → R D) (i : Nat) : M := fun fs hs => match fs[i]? with
  | some (some d) => act d hs
  | _ => .bad
def orAct (a b : D → Hs → R D) (d : D) (hs : Hs) : R D := match a d hs with
  | .bad => b d hs
  | r => r
/-- in all contexts over this base a call of a name that holds such a function object does what act tells -/
def OkAct (c : Ct) (P : Program) (w : World) (K : PySem.W.Frag) (mg : Str → Option Value) (base : Heap) (k : Nat) (act : D → Hs → R D) : Prop :=
  ∀ (Z : Cx) (W : WX) (i : Nat) (a : Str) (p1 p2 : Pos), Z.prog = P → Z.w = w → Z.K = K → Z.mg = mg → Z.base = base → Takes Z W → Room (k + 1) Z.A → Z.N[i]? = some a → Vis Z.env.scope a → (a == ("__debug__" : Str)) = false → (a == ("__classdict__" : Str)) = false →
    JE c Z W (.Call (.Name a p1) [] [] p2) (eAct act i)
theorem je_orE {c : Ct} {X : Cx} {W : WX} {e : Expr} {m1 m2 m : M} (h1 : JE c X W e m1) (h2 : JE c X W e m2) (h : ∀ fs hs, m fs hs = m1 fs hs ∨ m fs hs = m2 fs hs) : JE c X W e m := by
  obtain ⟨t1, p1, s1⟩ := h1.ex
  obtain ⟨t2, p2, s2⟩ := h2.ex
  refine ⟨fun σ H Q => t1 σ H Q ∨ t2 σ H Q, ⟨fun pins s σ H Q I z => z.elim (p1.run pins s σ H Q I) (p2.run pins s σ H Q I)⟩, fun w fs hs σ Q S E z => ?_⟩
  rcases h fs hs with e | e
  · exact .inl (s1 w fs hs σ Q S E (e ▸ z))
  · exact .inr (s2 w fs hs σ Q S E (e ▸ z))
theorem OkAct.or {c : Ct} {P : Program} {w : World} {K : PySem.W.Frag} {mg : Str → Option Value} {base : Heap} {k : Nat} {a b : D → Hs → R D} (h1 : OkAct c P w K mg base k a) (h2 : OkAct c P w K mg base k b) : OkAct c P w K mg base k (orAct a b) :=
  fun Z W i x p1 p2 e1 e2 e3 e4 e5 tk r hN hv hd hc => je_orE (h1 Z W i x p1 p2 e1 e2 e3 e4 e5 tk r hN hv hd hc) (h2 Z W i x p1 p2 e1 e2 e3 e4 e5 tk r hN hv hd hc) fun fs hs => by
    unfold eAct
    cases fs[i]? with
    | none => exact .inl rfl
    | some o =>
      cases o with
      | none => exact .inl rfl
      | some d =>
        show orAct a b d hs = a d hs ∨ orAct a b d hs = b d hs
        unfold orAct
        cases a d hs with
        | bad => exact .inr rfl
        | ok _ _ => exact .inl rfl
        | exc _ _ _ => exact .inl rfl
section
variable {c : Ct} {X : Cx} {base : Heap} {q : Str} {f cc : Addr} {params : Arguments} {body : Expr} {scope : Scope} {σ : L2.St} {k : Nat} {fs : Fs} {m : M}
abbrev Cx.at (X : Cx) (b : Heap) : Cx := { X with base := b }
/-- the lambda's body begins -/
theorem lam_begin {A : Around} {outer : List Env} {E : XK} {H : Hp} {s1 : Shared} {h₁ : Heap} {tk : Nat} (F : FnAt X base q f cc params body scope σ) (e0 : Env0 X.prog X.w X.K X.mg base A outer s1 H) (hd : A.handled = none)
    (hns : h₁.Ns s1.heap.objs.size fun y => ([] : List (Str × Value)).reverse.lookup y) (kp : ∀ b o, s1.heap.get? b = some o → h₁.get? b = some o) :
    Inv (LamX.lamCx (Cx.at X base) A outer s1 H E scope f cc) [] σ H { s1 with heap := h₁, toks := tk } := by
  have cellK : ∀ {ce : Addr} {v : Option Value}, base.IsCell ce v → h₁.IsCell ce v := fun {ce v} ⟨o, ho, hd⟩ => ⟨o, kp _ _ (e0.bs _ _ ho).1, hd⟩
  have noA : ∀ b : Addr, b ∉ (LamX.lamCx (Cx.at X base) A outer s1 H E scope f cc).ex := fun b z => absurd (show b ∈ ([] : List Addr) from z) (by simp)
  have ok : (LamX.lamCx (Cx.at X base) A outer s1 H E scope f cc).Ok := {
    mod := e0.mod
    kind := F.L.kind
    glob := rfl
    blt := rfl
    above := Nat.le_refl _
    inj := F.inj
    has := fun y hy => by
      have hy : scope.names.lookup y = some .cell ∨ scope.names.lookup y = some .free := hy
      rcases hy with hy | hy
      · exact absurd rfl (F.L.own _ (PySem.mem_of_lookup hy)).2
      · exact F.has y hy
    cab := fun y ce z => by
      have z : false = true := z
      cases z
    hd := fun _ => hd
    frames := Around.frames_deeper e0.frames
    stk := .inr ⟨rfl, rfl⟩
    exf := fun b z => absurd z (noA b)
    bs := e0.bs
    bsz := e0.bsz
    noex := fun b _ _ => noA b
    exfs := fun b z => absurd z (noA b)
    funs := e0.funs
    frf := e0.frf }
  refine { ok := ok, os := rfl, bare := e0.bare, base := Un.kept kp, loc := ⟨_, hns, fun i y v e1 e2 e3 => ?_⟩, cell := fun y ce e => ?_, free := e0.hok.fresh (Nat.le_refl _), freeC := fun y ce e => ?_, pin := fun p hp => absurd (show p ∈ ([] : List (Addr × Obj)) ++ [] from hp) (by simp), hok := e0.hok.kept kp, len := F.len }
  · have e3 : Vis scope y := e3
    rcases e3 with z | z | z
    · exact absurd rfl (F.L.own _ (PySem.mem_of_lookup z)).1
    · exact absurd rfl (F.L.own _ (PySem.mem_of_lookup z)).2
    · obtain ⟨u, ce, r, h2, h3⟩ := F.loc i y v e1 e2 z
      exact ⟨u, r, .inr ⟨.inr z, ce, h2, cellK h3⟩⟩
  · obtain ⟨v, z⟩ := F.cell y ce e
    exact ⟨v, cellK z⟩
  · obtain ⟨v, o, ho, _⟩ := F.cell y ce e
    exact (e0.bs _ _ ho).2
theorem act_ok (F : FnAt X base q f cc params body scope σ) (hq : X.env.qual ++ "<lambda>" = q)
    (hbind : ∀ (cl : List (Str × Addr)) (pm cv ctv : Value), bindArgs (PySem.W.kla_fn "<lambda>" q params body scope cl pm cv ctv) ⟨[], []⟩ = pure [])
    (hbody : ∀ (A : Around) (outer : List Env) (s : Shared) (H : Hp) (E : XK), Room k (A.deeper (LamX.lamEnv (Cx.at X base) scope s.heap.objs.size f cc)) → JE c (LamX.lamCx (Cx.at X base) A outer s H E scope f cc) (fun cls d _ H => E cls d H) body m) :
    OkAct c X.prog X.w X.K X.mg base k (actF f cc q fs σ m) := by
  subst hq
  intro Z W i a p1 p2 e1 e2 e3 e4 e5 tk hr hN hv hd hcd
  refine ⟨fun σZ HZ Q => ∃ w fsZ hs, w.H = HZ ∧ SR c w hs ∧ RE c w fsZ σZ ∧ Post c w (eAct (actF f cc (X.env.qual ++ "<lambda>") fs σ m) i fsZ hs) Q (fun k d H => W k d σZ H), ⟨fun pinsZ sZ σZ HZ Q IZ h => ?_⟩, fun w fsZ hs σZ Q S E z => ⟨w, fsZ, hs, rfl, S, E, z⟩⟩
  obtain ⟨w, fsZ, hs, rfl, S, E, z⟩ := h
  unfold eAct at z
  cases qf : fsZ[i]? with
  | none => rw [qf] at z; exact z.elim
  | some o =>
    cases o with
    | none => rw [qf] at z; exact z.elim
    | some d =>
      rw [qf] at z
      cases d with
      | fn b =>
        unfold actF at z
        dsimp only at z
        split at z
        · rename_i hb
          obtain ⟨rfl, cs, h0, hc⟩ := hb
          obtain ⟨v, hσ, rv⟩ := E.get qf
          obtain rfl : v = .ref b := rv
          -- what the table's object tells
          have hl0 : 1 < w.ρ.length := by rw [S.len]; exact (List.getElem?_eq_some_iff.mp h0).1
          obtain ⟨ho, hH, e0, kc, _, l0, r0⟩ := S.ob 1 w.ρ[1] _ (List.getElem?_eq_getElem hl0) h0
          have hcc : w.H cc = some (LamX.CodeO cc (X.env.qual ++ "<lambda>")) := S.sub _ _ (kc cc hc)
          have RE0 : RE c w fs σ := ⟨l0, r0⟩
          obtain ⟨pm, ctv, ofn⟩ := F.fo
          refine wpAny_Call_Name_kw (thn ((pe_var (pos := p1) (i := i) hN hv hd hcd).run pinsZ sZ σZ w.H (fun v H1 => v = .ref b ∧ H1 = w.H) IZ ⟨.ref b, hσ, rfl, rfl⟩) fun u s1 ⟨v, H1, I1, r1, q1⟩ => ?_)
          obtain ⟨ev, eH⟩ := q1
          subst ev
          rw [eH] at I1
          obtain rfl : u = Value.ref b := r1
          have of1 := I1.bk _ _ (e5 ▸ ofn)
          refine PySem.W.callWith_F0 ⟨_, _, _, _, of1⟩ ?_
          obtain ⟨⟨oc, vs, t, hoc, hdc, hvc⟩, _, _⟩ := I1.hok cc _ hcc
          have env1 : Env0 X.prog X.w X.K X.mg base Z.A Z.stack s1 w.H := by
            have x := I1.env0
            rw [e1, e2, e3, e4, e5] at x
            exact x
          have rc : codeAny (model X.prog X.w) Z.A (.call (.ref b) ⟨[], []⟩) (CR (L2.CX X.prog X.w) Z.stack X.prog X.w w.H s1 Q (fun k d H => W k d σZ H)) s1 := by
            refine PySem.W.kla_callFunE hr.depth of1 rfl F.L.co F.L.gen rfl ⟨cc, oc, vs, t, rfl, hoc, hdc, hvc⟩ ?_
            rw [hbind]
            refine wpAny_pure (wpAny_newFunctionEnv (fun y hy => (F.L.own y hy).2) (fun y hy => absurd hy (by simp)) (fun h₁ hns hsb => ⟨I1.nolimit.fresh _ hsb, ?_⟩) F.L.kind)
            have kp : ∀ b o, s1.heap.get? b = some o → h₁.get? b = some o := fun b o e => hsb.extBut b o (Nat.ne_of_lt (Heap.lt_size e)) (Heap.get?_push_of_some _ e)
            have J := lam_begin (E := fun k d H => W k d σZ H) (tk := s1.toks + ([] : List (Str × Value)).length) F env1 hr.hd hns kp
            obtain ⟨te, pe, se⟩ := (hbody Z.A Z.stack s1 w.H (fun k d H => W k d σZ H) (hr.deeper _)).ex
            refine PySem.W.kla_codeExpr (wpAny_mono (pe.run [] _ _ w.H Q J (se w fs hs σ Q S RE0 z)) (fun v s' hq => ?_) fun e s' hq => hq)
            obtain ⟨w', H', J', rv, q⟩ := hq
            exact ⟨w', H', J'.os, J'.bare, J'.base, J'.hok, rv, q⟩
          rw [e1, e2]
          refine wpAny_call (codeAny_mono rc fun r s' hq => ?_)
          cases r with
          | error e => exact passAt tk σZ pinsZ w.H s1 e s' I1 (by rw [e1, e2]; exact hq)
          | ok fl =>
            cases fl with
            | ret u => exact I1.after (by rw [e1, e2]; exact hq)
            | next => exact False.elim hq
            | brk => exact False.elim hq
            | cont => exact False.elim hq
        · exact z.elim
      | _ => exact z.elim
end
end Mm
namespace Mm
open PySem PySem.Spec PyProof.Rows L2
section
variable {c : Ct} {X : Cx} {pins : List (Addr × Obj)} {σ : L2.St} {s : Shared} {w : Wd} {hs : Hs} {q : Str} {cs : List Nat} {fs0 : Fs} {vs0 : L2.St}
/-- the table grew by a code object -/
theorem tb_new {cc : Addr} {ps more : Array Value} (S : SR c w hs) (h0 : hs[1]? = some (.tb q cs fs0 vs0)) (hP : w.H c.P0 = some (.tbl ps)) (hc : w.H cc = none) (ht : TriplesOk (ps ++ more).toList)
    (ha : ∀ pos cv, codeAmong pos (ps ++ more).toList = some cv → codeAmong pos ps.toList = some cv ∨ cv = .ref cc) :
    w.le ⟨w.ρ, upd w.F cc (LamX.CodeO cc q), upd (upd w.H c.P0 (.tbl (ps ++ more))) cc (LamX.CodeO cc q)⟩ ∧
      SR c ⟨w.ρ, upd w.F cc (LamX.CodeO cc q), upd (upd w.H c.P0 (.tbl (ps ++ more))) cc (LamX.CodeO cc q)⟩ (hs.set 1 (.tb q (cc :: cs) fs0 vs0)) := by
  have hlen : 1 < hs.length := (List.getElem?_eq_some_iff.mp h0).1
  have hl0 : 1 < w.ρ.length := by rw [S.len]; exact hlen
  obtain ⟨ho, hH, e0, kc, ⟨ps1, rfl, t1, k1⟩, l0, r0⟩ := S.ob 1 w.ρ[1] _ (List.getElem?_eq_getElem hl0) h0
  have eP : w.ρ[1] = c.P0 := by
    rw [List.getElem?_eq_getElem hl0] at e0
    exact Option.some.inj e0
  have inP : c.P0 ∈ w.ρ := by rw [← eP]; exact List.getElem_mem hl0
  rw [eP, hP] at hH
  have eps : ps1 = ps := by cases hH; rfl
  subst eps
  have FP : w.F c.P0 = none := S.fr 1 c.P0 _ e0 h0 (fun z => nomatch z)
  have Fc : w.F cc = none := S.newF hc
  have nPc : c.P0 ≠ cc := fun z => by rw [z, hc] at hP; cases hP
  have ncρ : cc ∉ w.ρ := S.new hc
  have at_ : ∀ b, b ≠ c.P0 → b ≠ cc → upd (upd w.H c.P0 (.tbl (ps1 ++ more))) cc (LamX.CodeO cc q) b = w.H b := fun b h1 h2 => by rw [upd_ne h2, upd_ne h1]
  have subF : ∀ a o, w.F a = some o → upd w.F cc (LamX.CodeO cc q) a = some o := fun a o e => by
    rw [upd_ne (fun z => by rw [z, Fc] at e; cases e)]; exact e
  have someNe : ∀ {a o}, w.H a = some o → a ≠ cc := fun {a o} e z => by rw [z, hc] at e; cases e
  refine ⟨⟨⟨[], by simp, by simp⟩, subF, fun a o e n => ?_, fun a o e => ?_, fun a o e => ?_⟩, ⟨fun a o e => ?_, ?_, S.nd, fun i a o e1 e2 nd => ?_, fun i a o e1 e2 => ?_⟩⟩
  · exact (at_ a (fun z => n (by rw [z]; exact inP)) (someNe e)).trans e
  · by_cases hb : a = c.P0
    · subst hb; exact ⟨_, (upd_ne nPc).trans upd_same⟩
    · exact ⟨o, (at_ a hb (someNe e)).trans e⟩
  · by_cases hb : a = cc
    · subst hb; exact .inr (.inl hc)
    · exact .inl ((upd_ne hb).symm.trans e)
  · by_cases hb : a = cc
    · subst hb
      have e : upd w.F a (LamX.CodeO a q) a = some o := e
      rw [upd_same] at e; cases e; exact upd_same
    · have e : upd w.F cc (LamX.CodeO cc q) a = some o := e
      rw [upd_ne hb] at e
      have nP : a ≠ c.P0 := fun z => by rw [z, FP] at e; cases e
      exact (at_ a nP hb).trans (S.sub a o e)
  · rw [List.length_set]; exact S.len
  · have na : a ≠ cc := fun z => ncρ (by rw [← z]; exact List.mem_iff_getElem?.mpr ⟨i, e1⟩)
    show upd w.F cc (LamX.CodeO cc q) a = none
    rw [upd_ne na]
    by_cases hi : i = 1
    · subst hi
      have z : some a = some c.P0 := by rw [← e0]; exact e1.symm
      cases z
      exact FP
    · rw [List.getElem?_set_ne (Ne.symm hi)] at e2
      exact S.fr i a o e1 e2 nd
  · by_cases hi : i = 1
    · subst hi
      have z : some a = some c.P0 := by rw [← e0]; exact e1.symm
      cases z
      rw [List.getElem?_set_self hlen] at e2
      cases e2
      refine ⟨_, (upd_ne nPc).trans upd_same, e0, fun x hx => ?_, ⟨_, rfl, ht, fun pos cv hv => ?_⟩, l0, fun j d hj => ?_⟩
      · rcases List.mem_cons.mp hx with z | z
        · rw [z]; exact upd_same
        · exact subF _ _ (kc x z)
      · rcases ha pos cv hv with z | z
        · obtain ⟨x, z1, z2⟩ := k1 pos cv z
          exact ⟨x, z1, subF _ _ z2⟩
        · exact ⟨cc, z, upd_same⟩
      · obtain ⟨v, z1, z2⟩ := r0 j d hj
        exact ⟨v, z1, z2.mono ⟨[], by simp⟩ subF⟩
    · rw [List.getElem?_set_ne (Ne.symm hi)] at e2
      obtain ⟨ho2, z1, z2⟩ := S.ob i a o e1 e2
      refine ⟨ho2, (at_ a (fun z => ?_) (someNe z1)).trans z1, z2.mono ⟨[], by simp⟩ subF⟩
      subst z
      have hi2 : i < w.ρ.length := (List.getElem?_eq_some_iff.mp e1).1
      have e3 := (List.getElem?_eq_some_iff.mp e1).2
      exact hi ((List.getElem_inj S.nd).mp (e3.trans eP.symm))
/-- a code object that the table holds is noted -/
theorem tb_hit {cc : Addr} {pos : Pos} {ps : Array Value} (S : SR c w hs) (h0 : hs[1]? = some (.tb q cs fs0 vs0)) (hP : w.H c.P0 = some (.tbl ps)) (hc : codeAmong pos ps.toList = some (.ref cc)) : SR c w (hs.set 1 (.tb q (cc :: cs) fs0 vs0)) := by
  have hlen : 1 < hs.length := (List.getElem?_eq_some_iff.mp h0).1
  refine ⟨S.sub, by rw [List.length_set]; exact S.len, S.nd, fun i a o e1 e2 nd => ?_, fun i a o e1 e2 => ?_⟩
  · by_cases hi : i = 1
    · subst hi; exact S.fr 1 a _ e1 h0 (fun z => nomatch z)
    · rw [List.getElem?_set_ne (Ne.symm hi)] at e2; exact S.fr i a o e1 e2 nd
  · by_cases hi : i = 1
    · subst hi
      rw [List.getElem?_set_self hlen] at e2
      cases e2
      obtain ⟨ho, z1, e0, kc, ⟨ps1, z2, t1, k1⟩, r⟩ := S.ob 1 a _ e1 h0
      subst z2
      have z : some a = some c.P0 := by rw [← e0]; exact e1.symm
      cases z
      rw [hP] at z1
      cases z1
      refine ⟨_, hP, e0, fun x hx => ?_, ⟨_, rfl, t1, k1⟩, r⟩
      rcases List.mem_cons.mp hx with z | z
      · obtain ⟨y, y1, y2⟩ := k1 pos _ hc
        cases y1
        rw [z]; exact y2
      · exact kc x z
    · rw [List.getElem?_set_ne (Ne.symm hi)] at e2; exact S.ob i a o e1 e2
/-- what the maker knows of its names is noted -/
theorem tb_note {fs : Fs} {σ : L2.St} (S : SR c w hs) (E : RE c w fs σ) (h0 : hs[1]? = some (.tb q cs fs0 vs0)) : SR c w (hs.set 1 (.tb q cs fs σ)) := by
  have hlen : 1 < hs.length := (List.getElem?_eq_some_iff.mp h0).1
  refine ⟨S.sub, by rw [List.length_set]; exact S.len, S.nd, fun i a o e1 e2 nd => ?_, fun i a o e1 e2 => ?_⟩
  · by_cases hi : i = 1
    · subst hi; exact S.fr 1 a _ e1 h0 (fun z => nomatch z)
    · rw [List.getElem?_set_ne (Ne.symm hi)] at e2; exact S.fr i a o e1 e2 nd
  · by_cases hi : i = 1
    · subst hi
      rw [List.getElem?_set_self hlen] at e2
      cases e2
      obtain ⟨ho, z1, e0, kc, t, r⟩ := S.ob 1 a _ e1 h0
      exact ⟨ho, z1, e0, kc, t, E.1, E.2⟩
    · rw [List.getElem?_set_ne (Ne.symm hi)] at e2; exact S.ob i a o e1 e2
theorem tb_clear (S : SR c w hs) (h0 : hs[1]? = some (.tb q cs fs0 vs0)) : SR c w (hs.set 1 (.tb q [] [] [])) := by
  have hlen : 1 < hs.length := (List.getElem?_eq_some_iff.mp h0).1
  refine ⟨S.sub, by rw [List.length_set]; exact S.len, S.nd, fun i a o e1 e2 nd => ?_, fun i a o e1 e2 => ?_⟩
  · by_cases hi : i = 1
    · subst hi; exact S.fr 1 a _ e1 h0 (fun z => nomatch z)
    · rw [List.getElem?_set_ne (Ne.symm hi)] at e2; exact S.fr i a o e1 e2 nd
  · by_cases hi : i = 1
    · subst hi
      rw [List.getElem?_set_self hlen] at e2
      cases e2
      obtain ⟨ho, z1, e0, kc, t, r⟩ := S.ob 1 a _ e1 h0
      refine ⟨ho, z1, e0, ?_, t, rfl, ?_⟩
      · intro x hx; cases hx
      · intro i d hi; simp at hi
    · rw [List.getElem?_set_ne (Ne.symm hi)] at e2; exact S.ob i a o e1 e2
/-- what is known of a function object that a lambda gave -/
structure FnNew (X : Cx) (H : Hp) (s : Shared) (q : Str) (f cc : Addr) (params : Arguments) (body : Expr) (scope : Scope) : Prop where
  fo : ∃ pm ctv, s.heap.get? f = some (PySem.W.kla_obj "<lambda>" q params body scope (cloOf X scope) pm cc ctv)
  nH : H f = none
  nf : f ∉ frs X.stack
  nl : f ≠ X.env.locals
  nfs : f ∉ X.fs
theorem lam_mk {cL : Addr} {params : Arguments} {body : Expr} {scope : Scope} {pos : Pos} {E : Value → Shared → Prop} {Q : Value → Shared → Prop} (I : Inv X pins σ w.H s) (S : SR c w hs) (h0 : hs[1]? = some (.tb q cs fs0 vs0))
    (TB : LamX.TabB X.base X.mg cL c.P0) (hcode : X.env.code = .ref cL) (hq : X.env.qual ++ "<lambda>" = q) (hdef : defaultsOf params X.env = ([], [])) (L : LamX.LamS X.env.scope scope)
    (h : ∀ (f cc : Addr) (w1 : Wd) (s' : Shared), w.le w1 → Inv X pins σ w1.H s' → SR c w1 (hs.set 1 (.tb q (cc :: cs) fs0 vs0)) → FnNew X w1.H s' q f cc params body scope → Q (.ref f) s') :
    wpAny (model X.prog X.w) X.A (eval (.Lambda params body scope pos) X.env) Q E s := by
  subst hq
  have hl0 : 1 < w.ρ.length := by rw [S.len]; exact (List.getElem?_eq_some_iff.mp h0).1
  obtain ⟨ho, hH, e0, kc, ⟨ps, rfl, t1, k1⟩, l0, r0⟩ := S.ob 1 w.ρ[1] _ (List.getElem?_eq_getElem hl0) h0
  have hP : w.H c.P0 = some (.tbl ps) := by
    rw [List.getElem?_eq_getElem hl0] at e0
    rw [← Option.some.inj e0]; exact hH
  have free := L.has I.ok
  have atP : s.heap.get? c.P0 = some { cls := .none, data := .fields ps } := I.hok c.P0 _ hP
  have far : ∀ x, s.heap.objs.size ≤ x → x ∉ frs X.stack ∧ x ≠ X.env.locals ∧ x ∉ X.fs := fun x hx => by
    have h2 : x ≠ X.env.locals := fun z => Nat.lt_irrefl _ (Nat.lt_of_lt_of_le (by rw [z]; exact I.lt) hx)
    exact ⟨fun z => (List.mem_cons.mp (I.stkSub _ z)).elim h2 (I.nofs hx), h2, I.nofs hx⟩
  refine PySem.W.kla_eval hdef ?_
  cases hc : codeAmong pos ps.toList with
  | some cv =>
    obtain ⟨cc, rfl, _⟩ := k1 pos cv hc
    refine PySem.W.kla_makeFunctionHit (mg := X.mg) (P := c.P0) (closure_ok free) I.ok.glob (I.mod.glob.keeps I.bk) hcode (TB.code.keeps I.bk) atP t1 hc (TB.bm.keeps I.bk) fun ctv h' tk hx hsz => ?_
    have I1 := I.kept (h' := h'.push (PySem.W.kla_obj "<lambda>" (X.env.qual ++ "<lambda>") params body scope (cloOf X scope) ((X.mg "__name__").getD .none) cc ctv)) (t' := tk) fun b o e => Heap.get?_push_of_some _ (hx b o e)
    obtain ⟨n1, n2, n3⟩ := far _ hsz
    exact h h'.objs.size cc w _ (Wd.le.refl w) I1 (tb_hit S h0 hP hc) ⟨⟨_, ctv, Heap.get?_push_size _ rfl⟩, I.hok.fresh hsz, n1, n2, n3⟩
  | none =>
    refine PySem.W.kla_makeFunction (mg := X.mg) (P := c.P0) (closure_ok free) I.ok.glob (I.mod.glob.keeps I.bk) hcode (TB.code.keeps I.bk) atP t1 hc TB.gP (TB.bm.keeps I.bk) fun cc ctv h' tk hx hge hlt hrec htb => ?_
    obtain ⟨c2, oc, us, t, ec, hoc, hd, hv⟩ := hrec
    have ec : c2 = cc := (Value.ref.inj ec).symm
    subst ec
    have ge2 : s.heap.objs.size ≤ h'.objs.size := Nat.le_of_lt (Nat.lt_of_le_of_lt hge hlt)
    have nC : w.H c2 = none := I.hok.fresh hge
    have I1 := LamX.inv_table (t' := tk) (more := #[rawInt pos.line, rawInt pos.col, .ref c2]) (h' := h'.push (PySem.W.kla_obj "<lambda>" (X.env.qual ++ "<lambda>") params body scope (cloOf X scope) ((X.mg "__name__").getD .none) c2 ctv)) I hP
      (fun b o hb e => Heap.get?_push_of_some _ (hx b o hb e)) (Heap.get?_push_of_some _ htb) hge ⟨oc, us, t, Heap.get?_push_of_some _ hoc, hd, hv⟩
    have eL : (ps ++ #[rawInt pos.line, rawInt pos.col, Value.ref c2]).toList = ps.toList ++ [rawInt pos.line, rawInt pos.col, .ref c2] := by simp
    obtain ⟨l1, S1⟩ := tb_new (more := #[rawInt pos.line, rawInt pos.col, .ref c2]) S h0 hP nC (by rw [eL]; exact PySem.TriplesOk_snoc _ _ _ _ t1) (fun p cv z => LamX.among_app _ t1 (by rw [eL] at z; exact z))
    obtain ⟨n1, n2, n3⟩ := far _ ge2
    refine h h'.objs.size c2 _ _ l1 I1 S1 ⟨⟨_, ctv, Heap.get?_push_size _ rfl⟩, ?_, n1, n2, n3⟩
    have m1 : h'.objs.size ≠ c2 := Nat.ne_of_gt hlt
    have m2 : h'.objs.size ≠ c.P0 := Nat.ne_of_gt (Nat.lt_of_lt_of_le (Heap.lt_size atP) ge2)
    show upd (upd w.H c.P0 _) c2 _ h'.objs.size = none
    rw [upd_ne m1, upd_ne m2]
    exact I.hok.fresh ge2
end
end Mm
namespace Mm
open PySem PySem.Spec PyProof.Rows L2
open Classical in
/-- the same whatever the addresses -/
def uniR (n : Nat) (F : List (Nat × Nat) → L2.St → R D) : R D := if h : ∃ r, ∀ l vs, l.length = n → F l vs = r then choose h else .bad
theorem uniR_eq {n : Nat} {F : List (Nat × Nat) → L2.St → R D} {r : R D} (h : ∀ l vs, l.length = n → F l vs = r) : uniR n F = r := by
  have ex : ∃ r, ∀ l vs, l.length = n → F l vs = r := ⟨r, h⟩
  unfold uniR
  rw [dif_pos ex]
  have z := Classical.choose_spec ex (List.replicate n (0, 0)) [] (by simp)
  rw [← z]
  exact h _ _ (by simp)
theorem uniR_of {n : Nat} {F : List (Nat × Nat) → L2.St → R D} (h : uniR n F ≠ .bad) : ∀ l vs, l.length = n → F l vs = uniR n F := by
  unfold uniR at h ⊢
  split
  · rename_i ex
    exact Classical.choose_spec ex
  · rename_i ex
    rw [dif_neg ex] at h
    exact (h rfl).elim
/-- behind the call nothing is noted any more; what raises is not covered -/
def rest (q : Str) (r : R D) : R D := match r with
  | .ok d hs => match (hs[1]? : Option O) with
    | some (.tb q' _ _ _) => if q' = q then .ok d (hs.set 1 (.tb q [] [] [])) else .bad
    | _ => .bad
  | _ => .bad
theorem rest_ok {q : Str} {r : R D} {d : D} {hs : Hs} (h : rest q r = .ok d hs) : ∃ hs1 cs fs vs, r = .ok d hs1 ∧ hs1[1]? = some (.tb q cs fs vs) ∧ hs = hs1.set 1 (.tb q [] [] []) := by
  unfold rest at h
  split at h
  · split at h
    · split at h
      · rename_i hq
        subst hq
        cases h
        exact ⟨_, _, _, _, rfl, by assumption, rfl⟩
      · cases h
    · cases h
  · cases h
theorem rest_exc {q : Str} {r : R D} {x : Str} {p : D} {hs : Hs} : rest q r ≠ .exc x p hs := by
  unfold rest
  split
  · split
    · split <;> exact fun h => nomatch h
    · exact fun h => nomatch h
  · exact fun h => nomatch h
def actL (q : Str) (fs : Fs) (vs : L2.St) : List (Nat × Nat) → List M → D → Hs → R D
  | p :: r, m :: ms => orAct (actF p.1 p.2 q fs vs m) (actL q fs vs r ms)
  | _, _ => fun _ _ => .bad
def codesOf (l : List (Nat × Nat)) (cs : List Nat) : List Nat := (l.map (·.2)).reverse ++ cs
def fnsOf (l : List (Nat × Nat)) : List D := l.map fun p => .fn p.1
/-- the table's object ahead -/
def tbOf (q : Str) (hs : Hs) : Option (List Nat) := match (hs[1]? : Option O) with
  | some (.tb q' cs _ _) => if q' = q then some cs else none
  | _ => none
theorem tbOf_some {q : Str} {hs : Hs} {cs : List Nat} (h : tbOf q hs = some cs) : ∃ fs vs, hs[1]? = some (.tb q cs fs vs) := by
  unfold tbOf at h
  split at h
  · split at h
    · rename_i hq
      subst hq
      cases h
      exact ⟨_, _, by assumption⟩
    · cases h
  · cases h
/-- f([lambda: .., ..], w) -/
def eLams (q : Str) (ms : List M) (cf : (D → Hs → R D) → List D → Hs → R D) (x : Str) : M := fun fs hs => match tbOf q hs with
  | some cs => uniR ms.length fun l vs => rest q (cf (actL q fs vs l ms) [.l (fnsOf l), .str x] (hs.set 1 (.tb q (codesOf l cs) fs vs)))
  | none => .bad
structure Lm where
  params : Arguments
  body : Expr
  scope : Scope
  pos : Pos
  m : M
def Lm.e (l : Lm) : Expr := .Lambda l.params l.body l.scope l.pos
structure LmOk (c : Ct) (X : Cx) (q : Str) (kk : Nat) (l : Lm) : Prop where
  L : LamX.LamS X.env.scope l.scope
  hdef : defaultsOf l.params X.env = ([], [])
  hbind : ∀ (cl : List (Str × Addr)) (pm cv ctv : Value), bindArgs (PySem.W.kla_fn "<lambda>" q l.params l.body l.scope cl pm cv ctv) ⟨[], []⟩ = pure []
  hbody : ∀ (B : Heap) (A : Around) (outer : List Env) (s : Shared) (H : Hp) (E : XK) (f cc : Addr), Room kk (A.deeper (LamX.lamEnv (Cx.at X B) l.scope s.heap.objs.size f cc)) → JE c (LamX.lamCx (Cx.at X B) A outer s H E l.scope f cc) (fun cls d _ H => E cls d H) l.body l.m
def FnPin (X : Cx) (pins : List (Addr × Obj)) (q : Str) (p : Nat × Nat) (l : Lm) : Prop := ∃ pm ctv, (p.1, PySem.W.kla_obj "<lambda>" q l.params l.body l.scope (cloOf X l.scope) pm p.2 ctv) ∈ pins
inductive All2 {α β : Type} (P : α → β → Prop) : List α → List β → Prop
  | nil : All2 P [] []
  | cons {a b as bs} : P a b → All2 P as bs → All2 P (a :: as) (b :: bs)
theorem All2.imp {α β : Type} {P P' : α → β → Prop} (h : ∀ a b, P a b → P' a b) : ∀ {as : List α} {bs : List β}, All2 P as bs → All2 P' as bs
  | _, _, .nil => .nil
  | _, _, .cons x r => .cons (h _ _ x) (r.imp h)
theorem All2.len {α β : Type} {P : α → β → Prop} : ∀ {as : List α} {bs : List β}, All2 P as bs → as.length = bs.length
  | _, _, .nil => rfl
  | _, _, .cons x r => by simp [r.len]
section
variable {c : Ct} {X : Cx} {pins pins' : List (Addr × Obj)} {σ : L2.St} {H : Hp} {s : Shared} {w : Wd} {hs : Hs} {q : Str} {cs : List Nat} {fs fs0 : Fs} {vs0 : L2.St} {kk : Nat}
theorem pin_add {f cc : Addr} {l : Lm} (I : Inv X pins σ H s) (F : FnNew X H s q f cc l.params l.body l.scope) : ∃ p2, Inv X (pins ++ p2) σ H s ∧ FnPin X (pins ++ p2) q (f, cc) l := by
  obtain ⟨pm, ctv, e⟩ := F.fo
  refine ⟨[(f, PySem.W.kla_obj "<lambda>" q l.params l.body l.scope (cloOf X l.scope) pm cc ctv)], { I with pin := fun p hp => ?_ }, pm, ctv, List.mem_append_right _ (by simp)⟩
  rw [← List.append_assoc] at hp
  rcases List.mem_append.mp hp with h | h
  · exact I.pin p h
  · cases List.mem_singleton.mp h
    exact ⟨e, F.nH, F.nl, F.nfs, fun v z => nomatch z⟩
theorem pin_less (I : Inv X pins' σ H s) (h : ∀ p ∈ pins, p ∈ pins') : Inv X pins σ H s := { I with pin := fun p hp => I.pin p ((List.mem_append.mp hp).elim (fun z => List.mem_append_left _ z) (fun z => List.mem_append_right _ (h p z))) }
/-- the lambdas are made, one by one -/
theorem lams_mk {cL : Addr} (TB : LamX.TabB X.base X.mg cL c.P0) (hcode : X.env.code = .ref cL) (hq : X.env.qual ++ "<lambda>" = q) {E : Value → Shared → Prop} : ∀ {ls : List Lm} {pins : List (Addr × Obj)} {w : Wd} {hs : Hs} {cs : List Nat} {s : Shared} {pos : Pos},
    (∀ l ∈ ls, LmOk c X q kk l) → Inv X pins σ w.H s → SR c w hs → hs[1]? = some (.tb q cs fs0 vs0) →
    wpAny (model X.prog X.w) X.A (spliced (backTo pos (starEach (ls.map Lm.e) X.env))) (fun us s' => ∃ pins' l w1, us = l.map (fun p => Value.ref p.1) ∧ (∀ p ∈ pins, p ∈ pins') ∧ w.le w1 ∧ Inv X pins' σ w1.H s' ∧ SR c w1 (hs.set 1 (.tb q (codesOf l cs) fs0 vs0)) ∧ All2 (FnPin X pins' q) l ls) E s
  | [], pins, w, hs, cs, s, pos, _, I, S, h0 => by
    refine Calls.spliced_nil ⟨pins, [], w, rfl, fun p hp => hp, Wd.le.refl w, I, ?_, .nil⟩
    have e : hs.set 1 (.tb q cs fs0 vs0) = hs := by
      match hs, h0 with
      | a :: b :: r, h0 => simp at h0; subst h0; rfl
    show SR c w (hs.set 1 (.tb q cs fs0 vs0))
    rw [e]; exact S
  | l :: ls, pins, w, hs, cs, s, pos, hl, I, S, h0 => by
    have ol := hl l List.mem_cons_self
    show wpAny _ _ (spliced ((false, eval l.e X.env) :: backTo pos (starEach (ls.map Lm.e) X.env))) _ _ s
    refine Calls.spliced_cons (lam_mk I S h0 TB hcode hq ol.hdef ol.L fun f cc w1 s1 l1 I1 S1 F1 => ?_)
    obtain ⟨p2, I2, P2⟩ := pin_add I1 F1
    have hlen : 1 < hs.length := (List.getElem?_eq_some_iff.mp h0).1
    refine wpAny_mono (lams_mk TB hcode hq (fun x hx => hl x (List.mem_cons_of_mem _ hx)) I2 S1 (List.getElem?_set_self hlen)) (fun us s2 h => ?_) fun _ _ z => z
    obtain ⟨pins', r, w2, e, sub, l2, I3, S3, A⟩ := h
    refine ⟨pins', (f, cc) :: r, w2, by rw [e]; rfl, fun p hp => sub p (List.mem_append_left _ hp), l1.trans l2, I3, ?_, .cons ?_ A⟩
    · rw [List.set_set] at S3
      have e2 : codesOf ((f, cc) :: r) cs = codesOf r (cc :: cs) := by simp [codesOf]
      rw [e2]; exact S3
    · obtain ⟨pm, ctv, z⟩ := P2
      exact ⟨pm, ctv, sub _ z⟩
theorem fn_at {p : Nat × Nat} {l : Lm} (I : Inv X pins σ H s) (hfn : ∀ y, X.fn y = true) (L : LamX.LamS X.env.scope l.scope) (h : FnPin X pins q p l) : FnAt X (ground s.heap H X.stack) q p.1 p.2 l.params l.body l.scope σ := by
  obtain ⟨pm, ctv, z⟩ := h
  obtain ⟨h1, h2, h3, h4, _⟩ := I.pin _ (List.mem_append_right _ z)
  have nf : p.1 ∉ frs X.stack := fun z => (List.mem_cons.mp (I.stkSub _ z)).elim h3 h4
  have free := L.has I.ok
  have cm : ∀ {y ce}, (cloOf X l.scope).lookup y = some ce → X.env.cells.lookup y = some ce := fun {y ce} e => by
    rcases cloFrom_mem (PySem.mem_of_lookup e) with hm | ⟨h1, h2⟩
    · cases hm
    · obtain ⟨c1, hc⟩ := free _ h1 rfl
      have e2 : ce = c1 := by rw [h2]; exact (congrArg (fun o => o.getD 0) hc)
      rw [e2]; exact hc
  have look : ∀ {y}, l.scope.names.lookup y = some .free → ∃ ce, (cloOf X l.scope).lookup y = some ce := fun {y} hl => mem_lookup (cloFrom_has (cells := X.env.cells) (acc := []) (PySem.mem_of_lookup hl))
  have inG : ∀ {y ce v}, X.env.cells.lookup y = some ce → s.heap.IsCell ce v → (ground s.heap H X.stack).IsCell ce v := fun {y ce v} e ⟨o, ho, hd⟩ => by
    refine ⟨o, ground_get ho (I.freeC y ce e) fun z => ?_, hd⟩
    rcases List.mem_cons.mp (I.stkSub _ z) with e2 | e2
    · exact I.cne y ce e e2
    · obtain ⟨_, o2, ho2, _⟩ := I.ok.funs.mem e2
      exact Nat.lt_irrefl _ (Nat.lt_of_lt_of_le (Heap.lt_size ho2) (I.ok.cab y ce (hfn y) e))
  refine ⟨⟨pm, ctv, ground_get h1 h2 nf⟩, fun y ce e => ?_, fun i y v e1 e2 e3 => ?_, fun x y ce e1 e2 => I.ok.inj x y ce (cm e1) (cm e2), fun y e => look e, I.len, L⟩
  · obtain ⟨v, z⟩ := I.cell y ce (cm e)
    exact ⟨v, inG (cm e) z⟩
  · obtain ⟨m, hn, hl⟩ := I.loc
    have fr := L.free _ (PySem.mem_of_lookup e3) rfl
    have hvis : Vis X.env.scope y := fr.elim (fun z => .inr (.inl z)) (fun z => .inr (.inr z))
    obtain ⟨u, r, q⟩ := hl i y v e1 e2 hvis
    obtain ⟨ce, h5⟩ := look e3
    refine ⟨u, ce, r, h5, ?_⟩
    have c1 := cm h5
    rcases q with ⟨k', _⟩ | ⟨_, c3, e', z⟩
    · have k' : X.env.scope.names.lookup y = some .local := k'
      rcases fr with k2 | k2 <;> rw [show X.env.scope.names.lookup y = _ from k2] at k' <;> cases k'
    · rw [c1] at e'
      cases e'
      exact inG c1 z
theorem acts_ok {B : Heap} (hq : X.env.qual ++ "<lambda>" = q) : ∀ {l : List (Nat × Nat)} {ls : List Lm}, All2 (fun p l => FnAt X B q p.1 p.2 l.params l.body l.scope σ) l ls → (∀ x ∈ ls, LmOk c X q kk x) → OkAct c X.prog X.w X.K X.mg B kk (actL q fs σ l (ls.map (·.m)))
  | _, _, .nil, _ => fun Z W i a p1 p2 _ _ _ _ _ _ _ _ _ _ _ => ⟨fun _ _ _ => False, ⟨fun _ _ _ _ _ _ z => z.elim⟩, fun w fs hs σ Q S E z => by
    unfold eAct at z
    split at z
    · exact z
    · exact z⟩
  | _, _, .cons h r, hl => (act_ok h hq (hl _ List.mem_cons_self).hbind fun A outer s H E hr => (hl _ List.mem_cons_self).hbody B A outer s H E _ _ hr).or (acts_ok hq r fun x hx => hl x (List.mem_cons_of_mem _ hx))
/-- the call: what the lambdas are is noted, the def runs over the ground -/
theorem lams_call {g : Addr} {fd : FuncData} {ps : List Str} {k : Nat} {cf : (D → Hs → R D) → List D → Hs → R D} {ls : List Lm} {l : List (Nat × Nat)} {ds : List D} {vs : List V} {us : List Value} {Q : VK} {d : D} {hs2 : Hs} {W : WX}
    (hF : ∀ (B : Heap) (act : D → Hs → R D), OkAct c X.prog X.w X.K X.mg B kk act → FnOk X.prog X.w X.K X.mg B (L2.CX X.prog X.w) k g fd ps (SpC c (cf act))) (hr : Room k X.A) (hb : Binds X.K fd ps []) (hps : us.length = ps.length) (hx : Pz X W) (hfn : ∀ y, X.fn y = true) (hq : X.env.qual ++ "<lambda>" = q)
    (hl : ∀ x ∈ ls, LmOk c X q kk x) (I : Inv X pins' σ w.H s) (hsub : ∀ p ∈ pins, p ∈ pins') (S : SR c w hs) (E : RE c w fs σ) (h0 : hs[1]? = some (.tb q cs fs0 vs0)) (A : All2 (FnPin X pins' q) l ls) (r : Vals vs us) (rd : Rps c w.ρ w.F ds vs)
    (e : rest q (cf (actL q fs σ l (ls.map (·.m))) ds (hs.set 1 (.tb q cs fs σ))) = .ok d hs2) (hQ : ∀ w3 v, w.le w3 → SR c w3 hs2 → Rp c w3.ρ w3.F d v → Q v w3.H) : wpAny (model X.prog X.w) X.A (call (.ref g) us) (EP X pins σ Q) X.xe s := by
  obtain ⟨hs3, cs3, fs3, vs3, e1, e2, rfl⟩ := rest_ok e
  have b := hb s us I.kIn (by rw [List.append_nil]; exact hps)
  rw [List.append_nil] at b
  have A2 : All2 (fun p (x : Lm) => FnAt X (ground s.heap w.H X.stack) q p.1 p.2 x.params x.body x.scope σ) l ls := by
    clear e e1 rd r hps b
    induction A with
    | nil => exact .nil
    | cons z r ih => exact .cons (fn_at I hfn (hl _ List.mem_cons_self).L z) (ih fun x hx => hl x (List.mem_cons_of_mem _ hx))
  have F := hF (ground s.heap w.H X.stack) _ (acts_ok (fs := fs) hq A2 hl)
  have sp : SpC c (cf (actL q fs σ l (ls.map (·.m)))) vs w.H Q (WE W σ) := by
    refine ⟨w.ρ, w.F, _, ds, tb_note S E h0, rd, ?_⟩
    rw [e1]
    exact fun w3 l3 S3 v rv => hQ w3 v l3 (tb_clear S3 e2) rv
  refine wpAny_call (codeAny_mono (F.run X.A X.stack s w.H ⟨us, []⟩ us vs Q (WE W σ) hr (ground_env I) b r sp) fun r s' hq => ?_)
  cases r with
  | error e => exact hx σ pins' w.H s e s' I hq
  | ok fl =>
    cases fl with
    | ret u =>
      obtain ⟨v, H', I', z⟩ := I.after hq
      exact ⟨v, H', pin_less I' hsub, z⟩
    | next => exact False.elim hq
    | brk => exact False.elim hq
    | cont => exact False.elim hq
theorem je_lams {g cL : Addr} {fd : FuncData} {ps : List Str} {k : Nat} {cf : (D → Hs → R D) → List D → Hs → R D} {ls : List Lm} {x y : Str} {j : Nat} {p pos lp sp : Pos} {es : List Expr} {W : WX}
    (hF : ∀ (B : Heap) (act : D → Hs → R D), OkAct c X.prog X.w X.K X.mg B kk act → FnOk X.prog X.w X.K X.mg B (L2.CX X.prog X.w) k g fd ps (SpC c (cf act))) (hr : Room k X.A) (hm : X.mg x = some (.ref g)) (hk : PySem.W.keepIn X.K (.ref g) = true) (hb : Binds X.K fd ps []) (hps : ps.length = 2) (hx : Pz X W) (hg : Gl X x)
    (hfn : ∀ y, X.fn y = true) (TB : LamX.TabB X.base X.mg cL c.P0) (hcode : X.env.code = .ref cL) (hq : X.env.qual ++ "<lambda>" = q) (hl : ∀ l ∈ ls, LmOk c X q kk l) (hes : es = ls.map Lm.e := by rfl) (hn : ls.length ≤ 1000 := by decide) (hdb : (x == ("__debug__" : Str)) = false := by decide) :
    JE c X W (.Call (.Name x p) [.List es lp, .Constant (.str y) j sp] [] pos) (eLams q (ls.map (·.m)) cf y) := by
  subst hes
  refine ⟨fun σ H Q => ∃ w fs hs, w.H = H ∧ SR c w hs ∧ RE c w fs σ ∧ Post c w (eLams q (ls.map (·.m)) cf y fs hs) Q (fun k d H => W k d σ H), ⟨fun pins s σ H Q I h => ?_⟩, fun w fs hs σ Q S E z => ⟨w, fs, hs, rfl, S, E, z⟩⟩
  obtain ⟨w, fs, hs, rfl, S, E, z⟩ := h
  unfold eLams at z
  cases qt : tbOf q hs with
  | none => rw [qt] at z; exact z.elim
  | some cs =>
    rw [qt] at z
    dsimp only at z
    obtain ⟨fs0, vs0, h0⟩ := tbOf_some qt
    have hlen : 1 < hs.length := (List.getElem?_eq_some_iff.mp h0).1
    refine wpAny_Call_Name_kw (ld_glob I hg hm ?_ hdb)
    refine PySem.W.callWith_K (h₀ := X.base) I.ok.mod.kin hk ?_ (by rfl) (by rfl)
    show wpAny _ _ (spliced ((false, eval (.List (ls.map Lm.e) lp) X.env) :: backTo pos (starEach [.Constant (.str y) j sp] X.env))) _ _ s
    refine Calls.spliced_cons (wpAny_List_spliced (thn (lams_mk TB hcode hq hl I S h0) fun us s1 h1 => ?_))
    obtain ⟨pins', lq, w1, rfl, sub, l1, I1, S1, A⟩ := h1
    have ln := A.len
    refine ⟨by rw [List.length_map, ln]; exact Nat.le_trans hn (by decide), ?_⟩
    have rs : ∀ lq : List (Nat × Nat), Rps c w1.ρ w1.F (fnsOf lq) (lq.map fun p => V.ref p.1) := fun lq => by
      induction lq with
      | nil => exact Rps.nil
      | cons a r ih => exact Rps.cons rfl ih
    have vl : ∀ lq : List (Nat × Nat), Vals (lq.map fun p => V.ref p.1) (lq.map fun p => Value.ref p.1) := fun lq => by
      induction lq with
      | nil => exact .nil
      | cons a r ih => exact .cons rfl ih
    have hf : w1.H s1.heap.objs.size = none := I1.hok.fresh (Nat.le_refl _)
    have I2 := I1.laid (o := .lst (lq.map fun p => V.ref p.1)) (h' := s1.heap.push { cls := .type "list", data := .seq (lq.map fun p => Value.ref p.1).toArray }) (t' := s1.toks) (fun b u e => Heap.get?_push_of_some _ e) (Nat.le_refl _)
      ⟨by rw [List.length_map, ln]; exact Nat.le_trans hn (by decide), _, 0, vl lq, Heap.get?_push_size _ rfl⟩
    obtain ⟨l2, S2⟩ := S1.froz hf (.lst (lq.map fun p => V.ref p.1))
    show wpAny _ _ (spliced (backTo pos (starEach [.Constant (.str y) j sp] X.env))) _ _ _
    have pa : PA X [.Constant (.str y) j sp] (tCons _ tNil) := pa_cons (pe_str (X := X) (x := y)) pa_nil
    refine thn (pa.run pos pins' _ σ _ (fun xs H1 => xs = [V.str y] ∧ H1 = upd w1.H s1.heap.objs.size (.lst (lq.map fun p => V.ref p.1))) I2 ⟨rfl, rfl⟩) fun us2 s3 h3 => ?_
    obtain ⟨xs, H3, I3, r3, rfl, rfl⟩ := h3
    refine ⟨I3.kIn, ?_⟩
    simp only [List.nil_append]
    generalize hu : uniR (ls.map (·.m)).length (fun l' vs => rest q (cf (actL q fs vs l' (ls.map (·.m))) [.l (fnsOf l'), .str y] (hs.set 1 (.tb q (codesOf l' cs) fs vs)))) = r at z
    have nb : r ≠ .bad := fun e => by rw [e] at z; exact z
    have key := uniR_of (n := (ls.map (·.m)).length) (F := fun l' vs => rest q (cf (actL q fs vs l' (ls.map (·.m))) [.l (fnsOf l'), .str y] (hs.set 1 (.tb q (codesOf l' cs) fs vs)))) (by rw [hu]; exact nb) lq σ (by rw [List.length_map]; exact ln)
    rw [hu] at key
    cases r with
    | bad => exact (nb rfl).elim
    | exc y p h => exact (rest_exc key).elim
    | ok d hs2 =>
      refine lams_call (w := ⟨w1.ρ, upd w1.F s1.heap.objs.size (.lst (lq.map fun p => V.ref p.1)), upd w1.H s1.heap.objs.size (.lst (lq.map fun p => V.ref p.1))⟩) (ls := ls) (l := lq) (cs := codesOf lq cs) (fs := fs) (vs := [.ref s1.heap.objs.size, .str y]) hF hr hb ?_ hx hfn hq hl I3 sub S2 (E.le (l1.trans l2)) (List.getElem?_set_self hlen) A ?_ ?_ (by rw [List.set_set]; exact key) ?_
      · rw [hps, List.length_cons, ← r3.length]; rfl
      · exact .cons rfl r3
      · exact Rps.cons (rp_l ((rs lq).le l2) upd_same) (Rps.cons rfl Rps.nil)
      · exact fun w3 v l3 S3 rv => z w3 ((l1.trans l2).trans l3) S3 v rv
end
end Mm
namespace Mm
open PySem PySem.Spec PyProof.Rows L2
section
variable {c : Ct} {X : Cx}
def rCntF (K : PySem.W.Frag) : V → List V → Hp → VK → Prop := fun x xs H Q => ∃ (p : Addr) (ys : List V) (y : V), x = .ref p ∧ xs = [y] ∧ SqL K H p ys ∧ flatV y = true ∧ ys.all flatV = true ∧ Q (.int (ys.countP (fun z => eqV z y) : Nat)) H
theorem countP_flat {y : V} : ∀ {ys : List V} {us : List Value}, Vals ys us → ys.all flatV = true → us.countP (eqU y) = ys.countP (fun z => eqV z y)
  | _, _, .nil, _ => rfl
  | z :: ys, u :: us, .cons r t, f => by
    rw [List.all_cons, Bool.and_eq_true] at f
    rw [List.countP_cons, List.countP_cons, countP_flat t f.2, eqU_of r f.1]
theorem mt_lcountF : MtR X "list.count" (rCntF X.K) := by
  intro pins s σ H x xs v us Q I rx rxs h
  obtain ⟨p, ys, y, rfl, rfl, hs, fy, fys, q⟩ := h
  cases rx
  obtain ⟨u, rfl, ru⟩ := rxs.one
  obtain ⟨its, rv, ⟨⟨cls, dd, data, sl⟩, n, ho, hc, hdn, hd⟩, hlen⟩ := I.list hs
  simp only at hc hd
  subst hc hd
  refine call_meets PySem.F.slot_list_count ⟨_, ho, rfl⟩ PySem.F.entry_list_count (PySem.F.args_list_count_2 _ _)
    (SeqAt.list_countAt p its.toArray n dd sl u (eqU y)) ⟨ho, fun u' hu' => mem_eqAt ru fy rv fys u' (by simpa using hu'), ?_⟩
  have ec : its.toArray.toList.countP (eqU y) = ys.countP (fun z => eqV z y) := by
    rw [List.toList_toArray]; exact countP_flat rv fys
  refine ⟨.int (ys.countP (fun z => eqV z y) : Nat), H, I.tok _, ⟨s.toks, ?_⟩, q⟩
  show Value.int ((its.toArray.toList.countP (eqU y) : Nat) : Int) s.toks = Value.int ((ys.countP (fun z => eqV z y) : Nat) : Int) s.toks
  rw [ec]
theorem flat_bls (bs : List Bool) : (bs.map V.bl).all flatV = true := by
  induction bs with
  | nil => rfl
  | cons b r ih => rw [List.map_cons, List.all_cons, ih]; rfl
theorem countP_bls (b : Bool) (bs : List Bool) : (bs.map V.bl).countP (fun z => eqV z (.bl b)) = bs.count b := by
  induction bs with
  | nil => rfl
  | cons a r ih =>
    rw [List.map_cons, List.countP_cons, ih, List.count_cons]
    rfl
def mCountB (x : D) (ds : List D) (hs : Hs) : R D := match (listOf x hs).bind blsOf, ds with
  | some bs, [.bl b] => .ok (.int ((bs.count b : Nat) : Int)) hs
  | _, _ => .bad
/-- what a list that is told by listOf stands for -/
theorem listOf_sq {w : Wd} {hs : Hs} {x : D} {vx : V} {es : List D} (S : SR c w hs) (r : Rp c w.ρ w.F x vx) (e : listOf x hs = some es) : ∃ a vs, vx = .ref a ∧ SqL X.K w.H a vs ∧ Rps c w.ρ w.F es vs := by
  unfold listOf at e
  split at e
  · cases e
    unfold Rp at r
    obtain ⟨a, vs, rfl, q, rr⟩ := r
    exact ⟨a, vs, rfl, .inl (.inl (S.sub _ _ q)), rr⟩
  · split at e
    · cases e
      obtain ⟨a, vs, rfl, _, q, rr⟩ := lst_of S r (by assumption)
      exact ⟨a, vs, rfl, .inl (.inl q), rr⟩
    · cases e
  · cases e
theorem jm_countB : JM c X "list" "list.count" mCountB := by
  refine ⟨_, mt_lcountF, fun w hs x ds vx vs Q E S rx r h => ?_⟩
  unfold mCountB at h
  split at h
  · rename_i bs b e
    obtain ⟨es, e1, e2⟩ := Option.bind_eq_some_iff.mp e
    obtain ⟨v, rfl, rd⟩ := rps1 r
    obtain rfl : v = .bl b := rd
    obtain ⟨a, us, rfl, q, rr⟩ := listOf_sq (X := X) S rx e1
    obtain rfl := blsOf_rps e2 rr
    refine ⟨a, _, .bl b, rfl, rfl, q, rfl, flat_bls bs, ?_⟩
    rw [countP_bls]
    exact h.now S _ rfl
  · exact h.elim
def mIndexB (x : D) (ds : List D) (hs : Hs) : R D := match (listOf x hs).bind blsOf, ds with
  | some bs, [.bl b] => if bs.idxOf b < bs.length then .ok (.int ((bs.idxOf b : Nat) : Int)) hs else .bad
  | _, _ => .bad
theorem jm_indexB : JM c X "list" "list.index" mIndexB := by
  refine ⟨_, mt_index, fun w hs x ds vx vs Q E S rx r h => ?_⟩
  unfold mIndexB at h
  split at h
  · rename_i bs b e
    obtain ⟨es, e1, e2⟩ := Option.bind_eq_some_iff.mp e
    obtain ⟨v, rfl, rd⟩ := rps1 r
    obtain rfl : v = .bl b := rd
    obtain ⟨a, us, rfl, q, rr⟩ := listOf_sq (X := X) S rx e1
    obtain rfl := blsOf_rps e2 rr
    split at h
    · rename_i hl
      refine ⟨a, _, .bl b, bs.idxOf b, .bl b, rfl, rfl, q, rfl, flat_bls bs, ?_, by show (b == b) = true; simp, fun m z' hm hz => ?_, h.now S _ rfl⟩
      · rw [List.getElem?_map, List.getElem?_eq_getElem hl, List.getElem_idxOf]; rfl
      · have hmb : m < bs.length := Nat.lt_trans hm hl
        rw [List.getElem?_map, List.getElem?_eq_getElem hmb] at hz
        cases hz
        show (bs[m] == b) = false
        have z := List.not_of_lt_findIdx (p := (· == b)) (xs := bs) hm
        simpa using z
    · exact h.elim
  · exact h.elim
end
def vIsE (a : Nat) (tab : D → Option Bool) (ds : List D) (hs : Hs) : R D := match ds with
  | [.fn a', d] => if a' = a then match tab d with
    | some b => .ok (.bl b) hs
    | none => .bad
    else .bad
  | _ => .bad
def isTab (errs : List Str) (y : Str) (d : D) : Option Bool := match d with
  | .g z => if z ∈ errs then some (decide (z = y)) else none
  | .ty n => if n = "ValueError" then some true else none
  | _ => none
section
variable {c : Ct} {X : Cx} {W : WX}
theorem jc_isE {a : Addr} {oe : Obj} {pn : List (Addr × Obj)} {errs : List Str} {y : Str} (C : ExcC X.K (c.G y)) (hz : Zc (.ref (c.G y)) none oe) (hf : ∃ vs, oe.data = .fields vs)
    (hk : ∀ z ∈ errs, PySem.W.kitOne X.K (.ref (c.G y)) (.ref (c.G z)) = some (decide (z = y))) (hv : PySem.W.kitOne X.K (.ref (c.G y)) (.type "ValueError") = some true) : JC c (X.suite a ((a, oe) :: pn)) (.builtin "isinstance") (vIsE a (isTab errs y)) := by
  refine ⟨_, call_isE C hz hf, fun w hs ds vs Q E S r h => ?_⟩
  unfold vIsE at h
  split at h
  · rename_i a' d
    split at h
    · rename_i ha
      subst ha
      obtain ⟨v1, v2, rfl, r1, r2⟩ := rps2 r
      obtain rfl : v1 = .ref a' := r1
      split at h
      · rename_i b e
        unfold isTab at e
        split at e
        · rename_i z
          obtain rfl : v2 = .ref (c.G z) := r2
          split at e
          · rename_i hz
            cases e
            exact ⟨_, .ref (c.G z), _, rfl, fun u ru => ru, hk z hz, h.now S _ rfl⟩
          · cases e
        · rename_i n
          obtain rfl : v2 = .ty n := r2
          split at e
          · rename_i hn
            subst hn
            cases e
            exact ⟨_, .type "ValueError", _, rfl, fun u ru => ru, hv, h.now S _ rfl⟩
          · cases e
        · cases e
      · exact h.elim
    · exact h.elim
  · exact h.elim
open Classical in
def uniS (F : Nat → RS) : RS := if h : ∃ r, ∀ a, F a = r then choose h else .bad
theorem uniS_eq {F : Nat → RS} {r : RS} (h : ∀ a, F a = r) : uniS F = r := by
  have ex : ∃ r, ∀ a, F a = r := ⟨r, h⟩
  unfold uniS
  rw [dif_pos ex, ← Classical.choose_spec ex 0]
  exact h 0
theorem uniS_of {F : Nat → RS} (h : uniS F ≠ .bad) : ∀ a, F a = uniS F := by
  unfold uniS at h ⊢
  split
  · rename_i ex
    exact Classical.choose_spec ex
  · rename_i ex
    rw [dif_neg ex] at h
    exact (h rfl).elim
/-- the name is unbound behind the suite -/
def clr (i : Nat) (r : RS) : RS := match r with
  | .nx fs hs => .nx (fs.set i none) hs
  | .ret d hs => .ret d hs
  | _ => .bad
def sTryAs (i : Nat) (cs : List Str) (body : MS) (suite : Str → Nat → MS) : MS := fun fs hs => match body fs hs with
  | .exc x p fs' hs' => match p with
    | .non => if x ∈ cs then uniS (fun a => clr i (suite x a (fs'.set i (some (.fn a))) hs')) else .bad
    | _ => .bad
  | r => r
theorem RE.unset {w : Wd} {fs : Fs} {σ : L2.St} {i : Nat} (e : RE c w fs σ) : RE c w (fs.set i none) (σ.set i none) := by
  refine ⟨by simp [e.1], fun j x q => ?_⟩
  by_cases hj : j = i
  · subst hj
    have hl : j < fs.length := by simpa using (List.getElem?_eq_some_iff.mp q).1
    rw [List.getElem?_set_self hl] at q
    cases q
  · rw [List.getElem?_set_ne (Ne.symm hj)] at q
    obtain ⟨u, z1, z2⟩ := e.2 j x q
    exact ⟨u, by rw [List.getElem?_set_ne (Ne.symm hj)]; exact z1, z2⟩
theorem PostS.clr {w : Wd} {r : RS} {i : Nat} {De : Ends} {W' : WX} (h : PostS c w (Mm.clr i r) De W) :
    PostS c w r { nx := fun σ' H' => De.nx (σ'.set i none) H', rt := De.rt, bk := fun σ' H' => De.bk (σ'.set i none) H', ct := fun σ' H' => De.ct (σ'.set i none) H' } W' := by
  cases r with
  | nx fs hs => exact fun w' σ' l S e => h w' _ l S e.unset
  | ret d hs => exact h
  | _ => exact h.elim
theorem js_try_as {i : Nat} {n : Str} {cs : List Str} {x : Str} {A : Addr} {np pos pos' : Pos} {body suite : List Stmt} {b₀ : Stmt} {mb : MS} {ms : Str → Nat → MS} (hs : X.stack = X.env :: X.outer) (hf : X.env.frame = some X.env.locals) (hN : X.N.Nodup) (hi : X.N[i]? = some n) (hln : X.env.kindOf n = some .local)
    (hn : Names X x (.ref A)) (tk : Takes X W) (hm : ∀ y ∈ cs, PySem.W.exmOne X.K (.ref (c.G y)) (.ref A) = some true)
    (hb : ∀ (W' : WX) (pn : List (Addr × Obj)) (xe : Value → Shared → Prop), Takes (X.tr pn xe) W' → PassesOwn (model X.prog X.w) X.A X.env xe → JSs c (X.tr pn xe) W' body mb)
    (hsu : ∀ y ∈ cs, ∀ (a : Addr) (oe : Obj) (pn : List (Addr × Obj)), Zc (.ref (c.G y)) none oe → (∃ vs, oe.data = .fields vs) → JSs c (X.suite a ((a, oe) :: pn)) W0 (b₀ :: suite) (ms y a)) :
    JS c X W (.Try body [.ExceptHandler (some (.Name x np)) (some n) (b₀ :: suite) pos'] [] [] pos) (sTryAs i cs mb ms) := by
  refine ⟨_, ps_try_as hs hf hN hi hln hn tk (tb := fun W' => tMS c W' mb) (ts := fun a cls d De σ H => ∃ y ∈ cs, cls = .ref (c.G y) ∧ d = none ∧ tMS c W0 (ms y a) De σ H) (fun W' pn xe t o => (hb W' pn xe t o).pss)
    (fun a oe cls d pn hz hv => ⟨fun pins s σ H De I h => ?_⟩), fun w fs h0 σ De S E h => ?_⟩
  · obtain ⟨y, hy, rfl, rfl, z⟩ := h
    exact (hsu y hy a oe pn hz hv).pss.run pins s σ H De I z
  · refine ⟨w, fs, h0, rfl, S, E, ?_⟩
    unfold sTryAs at h
    cases q : mb fs h0 with
    | nx fs' h' => rw [q] at h; exact h
    | ret d h' => rw [q] at h; exact h
    | brk fs' h' => rw [q] at h; exact h
    | cnt fs' h' => rw [q] at h; exact h
    | bad => rw [q] at h; exact h.elim
    | exc y p fs' h' =>
      rw [q] at h
      dsimp only at h
      split at h
      · by_cases hy : y ∈ cs
        · simp only [if_pos hy] at h
          refine fun w' od σ' l S' E' z => ⟨true, hm y hy, fun _ a ha => ?_, fun e => nomatch e⟩
          have hod : od = none := by
            rcases z with ⟨_, z⟩ | ⟨_, _, _, _, _, z, _⟩
            · exact z
            · cases z
          refine ⟨y, hy, rfl, hod, w', _, h', rfl, S', E'.set (d := .fn a) rfl, ?_⟩
          have nb : uniS (fun a => clr i (ms y a (fs'.set i (some (.fn a))) h')) ≠ .bad := fun e => by rw [e] at h; exact h
          have key := uniS_of nb a
          rw [← key] at h
          exact (h.mono l).clr
        · simp only [if_neg hy] at h
          exact h.elim
      · exact h.elim
end
end Mm
namespace Mm
open PySem PySem.Spec PyProof.Rows L2
theorem calm_ok {P : Program} {w : World} {K : PySem.W.Frag} {mg : Str → Option Value} {base : Heap} {k : Nat} {f : Addr} {fd : FuncData} {ps : List Str} {sp : Sp} (F : FnOk P w K mg base (L2.CX P w) k f fd ps sp) :
    FnOk P w K mg base L2.CX0 k f fd ps (fun vs H Q _ => sp vs H Q fun _ _ _ => False) := by
  refine ⟨fun vs H Q E h => F.len vs H Q _ h, fun A outer s H args us vs Q E hr e0 hb hv h => codeAny_mono (F.run A outer s H args us vs Q _ hr e0 hb hv h) fun r s' q => ?_⟩
  cases r with
  | ok z => cases z <;> exact q
  | error e =>
    obtain ⟨_, _, _, _, _, _, _, _, _, _, _, _, z⟩ := q
    exact z.elim
end Mm
namespace Mm
open PySem PySem.Spec PyProof.Rows L2
/-- what isn't covered -/
def eBad : M := fun _ _ => .bad
theorem je_bad {c : Ct} {X : Cx} {W : WX} {e : Expr} : JE c X W e eBad := ⟨fun _ _ _ => False, ⟨fun _ _ _ _ _ _ z => z.elim⟩, fun _ _ _ _ _ _ _ z => z⟩
theorem lms_nil {c : Ct} {X : Cx} {q : Str} {kk : Nat} : ∀ l ∈ ([] : List Lm), LmOk c X q kk l := fun l h => by cases h
theorem lms_cons {c : Ct} {X : Cx} {q : Str} {kk : Nat} {l : Lm} {ls : List Lm} (h : LmOk c X q kk l) (r : ∀ x ∈ ls, LmOk c X q kk x) : ∀ x ∈ l :: ls, LmOk c X q kk x := fun x hx => by
  rcases List.mem_cons.mp hx with rfl | hx
  · exact h
  · exact r x hx
/-- a law whose code object has a table: behind its first statement (the dice) the table is taken in, as the second object -/
def lawT (q : Str) (n : Nat) (m1 m2 : MS) (ds : List D) : R D := match m1 (Mm.start n ds) [] with
  | .nx fs hs => if hs.length = 1 then (m2 fs (hs ++ [.tb q [] [] []])).toR else .bad
  | _ => .bad
def spTrueT (c : Ct) (n : Nat) : Sp := fun vs H Q _ => ∃ (a : Addr) (ns : List Int), vs = [.ref a] ∧ SqL c.K H a (ns.map V.int) ∧ ns.length ≤ n ∧ H c.P0 = some (.tbl #[]) ∧ ∀ H', Q (.bl true) H'
section
variable {P : Program} {pw : World} {K : PySem.W.Frag} {mg : Str → Option Value} {base : Heap} {x qual : Str} {params : Arguments} {body : List Stmt} {scope : Scope} {dvs : List V} {kws : List (Str × V)} {f : Addr} {fd : FuncData} {c : Ct}
theorem tb_in {w : Wd} {hs : Hs} {q : Str} (S : SR c w hs) (h1 : hs.length = 1) (hP : w.H c.P0 = some (.tbl #[])) (nP : c.P0 ∉ w.ρ) (FP : w.F c.P0 = none) : SR c ⟨w.ρ ++ [c.P0], w.F, w.H⟩ (hs ++ [.tb q [] [] []]) := by
  have hl : w.ρ.length = 1 := by rw [S.len, h1]
  have hat : (w.ρ ++ [c.P0])[1]? = some c.P0 := by rw [List.getElem?_append_right (by omega), hl]; rfl
  refine ⟨S.sub, by simp [S.len], List.nodup_append.mpr ⟨S.nd, by simp, fun a ha b hb => by rw [List.mem_singleton] at hb; subst hb; exact fun z => nP (z ▸ ha)⟩, fun i a o e1 e2 nd => ?_, fun i a o e1 e2 => ?_⟩
  · by_cases hi : i < 1
    · rw [List.getElem?_append_left (by omega)] at e1
      rw [List.getElem?_append_left (by omega)] at e2
      exact S.fr i a o e1 e2 nd
    · have hi2 : i = 1 := by
        have := (List.getElem?_eq_some_iff.mp e1).1
        simp [hl] at this; omega
      subst hi2
      have z : some a = some c.P0 := e1.symm.trans hat
      cases z
      exact FP
  · by_cases hi : i < 1
    · rw [List.getElem?_append_left (by omega)] at e1
      rw [List.getElem?_append_left (by omega)] at e2
      obtain ⟨ho, z1, z2⟩ := S.ob i a o e1 e2
      exact ⟨ho, z1, z2.mono ⟨[c.P0], rfl⟩ fun _ _ z => z⟩
    · have hi2 : i = 1 := by
        have := (List.getElem?_eq_some_iff.mp e1).1
        simp [hl] at this; omega
      subst hi2
      have z : some a = some c.P0 := e1.symm.trans hat
      cases z
      rw [List.getElem?_append_right (by omega), h1] at e2
      cases e2
      refine ⟨_, hP, hat, ?_, ⟨#[], rfl, True.intro, ?_⟩, rfl, ?_⟩
      · intro x hx; cases hx
      · intro pos cv z
        have z : codeAmong pos [] = some cv := z
        simp [codeAmong] at z
      · intro i d z; simp at z
theorem def_law {p : He.Defn} {N ps : List Str} {k n len : Nat} {q : Str} {b1 : Stmt} {b2 : List Stmt} {m1 m2 : MS} (Fd : FunD K x qual params body scope dvs kws f fd) (hfp : He.fAd K p = f) (S : FnScope N ps scope) (hps : ps.length = 1) (hN : N.length = n) (hbody : body = b1 :: b2)
    (hb : ∀ (cdv : Value), cdv = .ref (He.cT K p).1 → ∀ (A : Around) (outer : List Env) (s : Shared) (H : Hp) (E : XK), Room k (A.deeper (envOfC qual scope s.heap.objs.size f cdv)) →
      JS c (cxOf (L2.CX P pw) P pw K mg base N qual scope f cdv A outer s H E) (fun cls d _ H => E cls d H) b1 m1 ∧ JSs c (cxOf (L2.CX P pw) P pw K mg base N qual scope f cdv A outer s H E) (fun cls d _ H => E cls d H) b2 m2)
    (hp : ∀ ns : List Int, ns.length ≤ len → ∃ hs', lawT q n m1 m2 [.rl (ns.map D.int)] = .ok (.bl true) hs') :
    FnOk P pw K mg base (L2.CX P pw) (k + 1) f fd ps (spTrueT c len) := by
  subst hbody
  obtain ⟨oc, od, dV, kV, doc, pm, an, cdv, ct, osl, rfl, lk, hcd, _, _⟩ := Fd.ex
  have hcv : cdv = .ref (He.cT K p).1 := by
    obtain ⟨cc, rfl⟩ := He.codeIn_ref hcd
    rw [show (He.cT K p).1 = He.codeOf K p from rfl, He.codeOf_eq (by rw [hfp]; exact lk) rfl]
  refine fn_of lk hcd S (fun vs H Q E h => ?_) (fun A outer s H vs Q E hr h => ?_)
  · obtain ⟨a, ns, rfl, _⟩ := h
    rw [hps]; rfl
  · obtain ⟨a, ns, rfl, hS, hl, hP, hQ⟩ := h
    obtain ⟨hs', e⟩ := hp ns hl
    obtain ⟨⟨t1, p1, s1⟩, ⟨t2, p2, s2⟩⟩ := (hb cdv hcv A outer s H E hr)
    refine ⟨_, pss_cons p1 p2, ?_⟩
    have FP : (fun b => if b = c.P0 then none else H b) c.P0 = (none : Option HO) := if_pos rfl
    have Fn : ∀ b, b ≠ c.P0 → (fun b => if b = c.P0 then none else H b) b = H b := fun b hb => if_neg hb
    have sub : ∀ b o, (fun b => if b = c.P0 then none else H b) b = some o → H b = some o := fun b o z => by
      by_cases hb : b = c.P0
      · subst hb; exact absurd (FP.symm.trans z) (by simp)
      · exact (Fn b hb).symm.trans z
    have S0 : SR c ⟨[], fun b => if b = c.P0 then none else H b, H⟩ [] := ⟨sub, rfl, List.nodup_nil, fun i a o q => by simp at q, fun i a o q => by simp at q⟩
    have r0 : Rps c [] (fun b => if b = c.P0 then none else H b) [.rl (ns.map D.int)] [.ref a] := by
      refine Rps.one ?_
      unfold Rp
      refine ⟨a, _, rfl, ?_, ints_rps ns⟩
      by_cases ha : a = c.P0
      · subst ha
        rcases hS with (z | ⟨o, z⟩) | z
        · rw [hP] at z; cases z
        · rw [hP] at z; cases z
        · exact .inr z
      · rcases hS with (z | ⟨o, z⟩) | z
        · exact .inl (.inl ((Fn a ha).trans z))
        · exact .inl (.inr ⟨o, (Fn a ha).trans z⟩)
        · exact .inr z
    have E0 := start_re (w := ⟨[], fun b => if b = c.P0 then none else H b, H⟩) hN r0
    unfold lawT at e
    cases q1 : m1 (Mm.start n [.rl (ns.map D.int)]) [] with
    | nx fs hs =>
      rw [q1] at e
      dsimp only at e
      split at e
      · rename_i h1
        refine s1 ⟨[], fun b => if b = c.P0 then none else H b, H⟩ _ [] _ _ S0 E0 ?_
        rw [q1]
        intro w1 σ1 l1 S1 E1
        have nP : c.P0 ∉ w1.ρ := fun z => by
          obtain ⟨u, e1, e2⟩ := l1.pre
          have e1 : w1.ρ = u := by simpa using e1
          have := e2 c.P0 (e1 ▸ z)
          rw [show (⟨[], _, H⟩ : Wd).H c.P0 = H c.P0 from rfl, hP] at this
          cases this
        have hP1 : w1.H c.P0 = some (.tbl #[]) := l1.keep c.P0 _ hP (by simp)
        have FP1 : w1.F c.P0 = none := by
          cases z : w1.F c.P0 with
          | none => rfl
          | some o =>
            rcases l1.newF c.P0 o z with y | y | y
            · exact absurd (FP.symm.trans y) (by simp)
            · rw [show (⟨[], _, H⟩ : Wd).H c.P0 = H c.P0 from rfl, hP] at y; cases y
            · simp at y
        have S2 := tb_in (q := q) S1 h1 hP1 nP FP1
        refine s2 ⟨w1.ρ ++ [c.P0], w1.F, w1.H⟩ fs _ σ1 _ S2 ⟨E1.1, fun i d z => let ⟨v, z1, z2⟩ := E1.2 i d z; ⟨v, z1, z2.mono ⟨[c.P0], rfl⟩ fun _ _ y => y⟩⟩ ?_
        cases q2 : m2 fs (hs ++ [.tb q [] [] []]) with
        | ret d h2 =>
          rw [q2] at e
          cases e
          intro w3 v l3 S3 rv
          obtain rfl : v = .bl true := rv
          exact hQ _
        | nx fs2 h2 => rw [q2] at e; cases e
        | brk _ _ => rw [q2] at e; cases e
        | cnt _ _ => rw [q2] at e; cases e
        | exc _ _ _ _ => rw [q2] at e; cases e
        | bad => rw [q2] at e; cases e
      · cases e
    | ret d h2 => rw [q1] at e; cases e
    | brk _ _ => rw [q1] at e; cases e
    | cnt _ _ => rw [q1] at e; cases e
    | exc _ _ _ _ => rw [q1] at e; cases e
    | bad => rw [q1] at e; cases e
end
end Mm
namespace Mm
def raiL : List Str := ["BadRoute"]
def errsL : List Str := ["BadWays", "BadSteps", "BadLog", "BadKind", "BadKinds", "BadBody", "BadRoute", "BadMost", "BadOffers", "NoProgram", "NoClip", "NotOffered", "Full", "BadText"]
def body_along_v2_0 : MS := (sSeq (sIf (tVal (eBin vNotIn (eArgs vTup (aCons (eBin vIx (eVar 1) (eBin vSub (eVar 4) (eC (.int 1)))) (aCons (eBin vIx (eVar 1) (eVar 4)) aNil))) (eVar 3))) (sRaise "BadRoute") sNx)
  (sAsg (eArgs c_turned (aCons (eVar 2) (aCons (eBin vIxD (eVar 3) (eArgs vTup (aCons (eBin vIx (eVar 1) (eBin vSub (eVar 4) (eC (.int 1)))) (aCons (eBin vIx (eVar 1) (eVar 4)) aNil)))) aNil))) (Mm.gName 2)))
def m_along_v2 : MS := (sSeq (sAsg (eDcT [5] (iSeq (eVar 0)) (Mm.gName 5) tYes (eSl vSl (eVar 5) oNone (oSome (eC (.int 2)))) (eBin vIx (eVar 5) (eC (.int 3)))) (Mm.gName 3))
  (sSeq (sFor (Mm.iRng2 (aCons (eC (.int 1)) (aCons (eArgs vLen (aCons (eVar 1) aNil)) aNil))) (Mm.gName 4) body_along_v2_0)
  (sRet (eVar 2))))
def c_along_v2 : List D → Hs → R D := callA 3 6 m_along_v2
def body_law_walk_0 : MS := (sSeq (sAsg (eLc [5, 6, 7, 8] (iSeq (eVar 1)) (Mm.gTup (Mm.gCons (Mm.gName 5) (Mm.gCons (Mm.gName 6) (Mm.gCons (Mm.gName 7) (Mm.gCons (Mm.gName 8) Mm.gNil))))) (tAnd (tVal (eBin vEq (eVar 5) (eBin vIx (eVar 2) (eUn vNeg (eC (.int 1)))))) (tVal (eBin vNotIn (eVar 6) (eVar 2)))) (eVar 6)) (Mm.gName 4))
  (sSeq (sIf (tVal (eBin vEq (eArgs c_law_off (aCons (eVar 0) (aCons (eC (.int 12)) aNil))) (eC (.int 0)))) (sAsg (eLc [9] (Mm.iRng1 (aCons (eC (.int 10)) aNil)) (Mm.gName 9) (tVal (eBin vNotIn (eVar 9) (eVar 2))) (eVar 9)) (Mm.gName 4)) sNx)
  (sIf (tVal (eBin vNe (eVar 4) (eArgs vLst aNil))) (sAsg (eBin vAdd (eVar 2) (eArgs vTup (aCons (eBin vIx (eVar 4) (eArgs c_law_off (aCons (eVar 0) (aCons (eArgs vLen (aCons (eVar 4) aNil)) aNil)))) aNil))) (Mm.gName 2)) sNx)))
def m_law_walk : MS := (sSeq (sAsg (eArgs vTup (aCons (eArgs c_law_off (aCons (eVar 0) (aCons (eC (.int 10)) aNil))) aNil)) (Mm.gName 2))
  (sSeq (sIf (tVal (eBin vNe (eVar 1) (eArgs vLst aNil))) (sAsg (eArgs vTup (aCons (eBin vIx (eBin vIx (eVar 1) (eArgs c_law_off (aCons (eVar 0) (aCons (eArgs vLen (aCons (eVar 1) aNil)) aNil)))) (eC (.int 0))) aNil)) (Mm.gName 2)) sNx)
  (sSeq (sFor (Mm.iRng1 (aCons (eArgs c_law_off (aCons (eVar 0) (aCons (eC (.int 10)) aNil))) aNil)) (Mm.gName 3) body_law_walk_0)
  (sRet (eVar 2)))))
def c_law_walk : List D → Hs → R D := callA 2 10 m_law_walk
def m_made : MS := (sSeq (sExpr (eArgs c_need_ways (aCons (eVar 0) aNil)))
  (sSeq (sExpr (eArgs c_need_kinds (aCons (eVar 1) aNil)))
  (sSeq (sExpr (eArgs c_need_body (aCons (eVar 2) aNil)))
  (sRet (eArgs c_along_v2 (aCons (eVar 0) (aCons (eVar 1) (aCons (eVar 2) aNil))))))))
def c_made : List D → Hs → R D := callA 3 3 m_made
def suite_law_word (y : Str) (a : Nat) : MS := (sSeq (sAsg (eArgs vLstO (aCons (eArgs (vIsE a (isTab errsL y)) (aCons (eVar 1) (aCons (eC (.g "BadWays")) aNil))) (aCons (eArgs (vIsE a (isTab errsL y)) (aCons (eVar 1) (aCons (eC (.g "BadSteps")) aNil))) (aCons (eArgs (vIsE a (isTab errsL y)) (aCons (eVar 1) (aCons (eC (.g "BadLog")) aNil))) (aCons (eArgs (vIsE a (isTab errsL y)) (aCons (eVar 1) (aCons (eC (.g "BadText")) aNil))) aNil))))) (Mm.gName 2))
  (sSeq (sAsg (eBin vAddO (eVar 2) (eArgs vLst (aCons (eArgs (vIsE a (isTab errsL y)) (aCons (eVar 1) (aCons (eC (.g "BadKind")) aNil))) (aCons (eArgs (vIsE a (isTab errsL y)) (aCons (eVar 1) (aCons (eC (.g "BadKinds")) aNil))) (aCons (eArgs (vIsE a (isTab errsL y)) (aCons (eVar 1) (aCons (eC (.g "BadBody")) aNil))) aNil))))) (Mm.gName 2))
  (sSeq (sAsg (eBin vAddO (eVar 2) (eArgs vLst (aCons (eArgs (vIsE a (isTab errsL y)) (aCons (eVar 1) (aCons (eC (.g "BadRoute")) aNil))) (aCons (eArgs (vIsE a (isTab errsL y)) (aCons (eVar 1) (aCons (eC (.g "BadMost")) aNil))) (aCons (eArgs (vIsE a (isTab errsL y)) (aCons (eVar 1) (aCons (eC (.g "BadOffers")) aNil))) aNil))))) (Mm.gName 2))
  (sSeq (sAsg (eBin vAddO (eVar 2) (eArgs vLst (aCons (eArgs (vIsE a (isTab errsL y)) (aCons (eVar 1) (aCons (eC (.g "NoProgram")) aNil))) (aCons (eArgs (vIsE a (isTab errsL y)) (aCons (eVar 1) (aCons (eC (.g "NoClip")) aNil))) (aCons (eArgs (vIsE a (isTab errsL y)) (aCons (eVar 1) (aCons (eC (.g "NotOffered")) aNil))) aNil))))) (Mm.gName 2))
  (sSeq (sExpr (eMeth isLst mAppend (eVar 2) (aCons (eArgs (vIsE a (isTab errsL y)) (aCons (eVar 1) (aCons (eC (.g "Full")) aNil))) aNil)))
  (sSeq (sIf (tOr (tVal (eBin vNe (eMeth isLst mCountB (eVar 2) (aCons (eC (.bl true)) aNil)) (eC (.int 1)))) (tNot (tVal (eArgs (vIsE a (isTab errsL y)) (aCons (eVar 1) (aCons (eC (.ty "ValueError")) aNil)))))) (sRet (eArgs vTup (aCons (eC (.str "other")) (aCons (eC (.int 0)) aNil)))) sNx)
  (sSeq (sAsg (eArgs vLst (aCons (eC (.str "ways")) (aCons (eC (.str "steps")) (aCons (eC (.str "log")) (aCons (eC (.str "text")) (aCons (eC (.str "kind")) (aCons (eC (.str "kinds")) (aCons (eC (.str "body")) (aCons (eC (.str "route")) (aCons (eC (.str "most")) (aCons (eC (.str "offers")) (aCons (eC (.str "program")) aNil)))))))))))) (Mm.gName 3))
  (sSeq (sAsg (eBin vIx (eBin vAdd (eVar 3) (eArgs vLst (aCons (eC (.str "clip")) (aCons (eC (.str "offered")) (aCons (eC (.str "full")) aNil))))) (eMeth isLst mIndexB (eVar 2) (aCons (eC (.bl true)) aNil))) (Mm.gName 4))
  (sSeq (sIf (tVal (eBin vIn (eVar 4) (eArgs vTup (aCons (eC (.str "ways")) (aCons (eC (.str "steps")) (aCons (eC (.str "log")) aNil)))))) (sRet (eArgs vTup (aCons (eVar 4) (aCons eBad aNil)))) sNx)
  (sRet (eArgs vTup (aCons (eVar 4) (aCons (eIf (tVal (eBin vEq (eVar 4) (eC (.str "text")))) eBad (eC (.int 0))) aNil)))))))))))))
def m_law_word (act : D → Hs → R D) : MS := (sSeq (sTryAs 1 raiL (sExpr (eAct act 0)) suite_law_word)
  (sRet (eC .non)))
def c_law_word (act : D → Hs → R D) : List D → Hs → R D := callD 1 5 0 (m_law_word act)
def m_law_are (act : D → Hs → R D) : MS := (sRet (eBin vEq (eLc [2] (iSeq (eVar 0)) (Mm.gName 2) (tVal (eBin vNe (eArgs (c_law_word act) (aCons (eVar 2) aNil)) (eArgs vTup (aCons (eVar 1) (aCons (eC (.int 0)) aNil))))) (eVar 2)) (eArgs vLst aNil)))
def c_law_are (act : D → Hs → R D) : List D → Hs → R D := callD 2 3 0 (m_law_are act)
def body_law_0 : MS := (sSeq (sAsg (eArgs c_law_ways (aCons (eVar 1) aNil)) (Mm.gName 3))
  (sSeq (sAsg (eArgs c_law_walk (aCons (eVar 1) (aCons (eVar 3) aNil))) (Mm.gName 4))
  (sSeq (sAsg (eArgs c_law_body_v2 (aCons (eVar 1) aNil)) (Mm.gName 5))
  (sSeq (sAsg (eLc [9] (iSeq (eVar 3)) (Mm.gName 9) tYes (eSl vSl (eVar 9) oNone (oSome (eC (.int 2))))) (Mm.gName 6))
  (sSeq (sAsg (eLc [10] (Mm.iRng2 (aCons (eC (.int 1)) (aCons (eArgs vLen (aCons (eVar 4) aNil)) aNil))) (Mm.gName 10) (tVal (eBin vNotIn (eArgs vTup (aCons (eBin vIx (eVar 4) (eBin vSub (eVar 10) (eC (.int 1)))) (aCons (eBin vIx (eVar 4) (eVar 10)) aNil))) (eVar 6))) (eVar 10)) (Mm.gName 7))
  (sIf (tVal (eBin vNe (eVar 7) (eArgs vLst aNil))) (sIf (tNot (tVal (eLams "law.<locals>.<lambda>" [(eArgs c_made (aCons (eVar 3) (aCons (eVar 4) (aCons (eVar 5) aNil))))] c_law_are "route"))) (sRet (eC (.bl false))) sNx) (sSeq (sAsg (eArgs c_law_made (aCons (eVar 3) (aCons (eVar 4) (aCons (eVar 5) aNil)))) (Mm.gName 8))
  (sIf (tOr (tNot (tVal (eArgs (c_law_alike 7) (aCons (eArgs c_made (aCons (eVar 3) (aCons (eVar 4) (aCons (eVar 5) aNil)))) (aCons (eVar 8) aNil))))) (tNot (tVal (eArgs (c_law_alike 7) (aCons (eArgs c_made (aCons (eArgs vList (aCons (eVar 3) aNil)) (aCons (eVar 4) (aCons (eVar 5) aNil)))) (aCons (eVar 8) aNil)))))) (sRet (eC (.bl false))) sNx))))))))
def lawM1 : MS := (sAsg (eArgs c_law_dice (aCons (eVar 0) (aCons (eC (.int 0)) aNil))) (Mm.gName 1))
def lawM2 : MS := (sSeq (sFor (Mm.iRng1 (aCons (eC (.int 6)) aNil)) (Mm.gName 2) body_law_0)
  (sRet (eC (.bl true))))
end Mm
namespace Mm
open PySem PySem.Spec PyProof.Rows L2
abbrev ct (K : PySem.W.Frag) : Ct := ⟨K, fun x => He.ga K x, (He.cT K ("law", none)).2⟩
structure Fx (w : World) (mg : Str → Option Value) (K : PySem.W.Frag) where
  a_is_between : Addr
  f_is_between : FuncData
  F_is_between : FunD K "is_between" "is_between" (defArgs s_is_between) (defBody s_is_between) (defScope s_is_between) [] [] a_is_between f_is_between
  g_is_between : mg "is_between" = some (.ref a_is_between)
  b_is_between : Binds K f_is_between ["part", "low", "high"] []
  a_is_kind : Addr
  f_is_kind : FuncData
  F_is_kind : FunD K "is_kind" "is_kind" (defArgs s_is_kind) (defBody s_is_kind) (defScope s_is_kind) [] [] a_is_kind f_is_kind
  g_is_kind : mg "is_kind" = some (.ref a_is_kind)
  b_is_kind : Binds K f_is_kind ["part"] []
  a_is_body : Addr
  f_is_body : FuncData
  F_is_body : FunD K "is_body" "is_body" (defArgs s_is_body) (defBody s_is_body) (defScope s_is_body) [] [] a_is_body f_is_body
  g_is_body : mg "is_body" = some (.ref a_is_body)
  b_is_body : Binds K f_is_body ["body"] []
  a_is_way : Addr
  f_is_way : FuncData
  F_is_way : FunD K "is_way" "is_way" (defArgs s_is_way) (defBody s_is_way) (defScope s_is_way) [] [] a_is_way f_is_way
  g_is_way : mg "is_way" = some (.ref a_is_way)
  b_is_way : Binds K f_is_way ["way"] []
  a_need_ways : Addr
  f_need_ways : FuncData
  F_need_ways : FunD K "need_ways" "need_ways" (defArgs s_need_ways) (defBody s_need_ways) (defScope s_need_ways) [] [] a_need_ways f_need_ways
  g_need_ways : mg "need_ways" = some (.ref a_need_ways)
  b_need_ways : Binds K f_need_ways ["ways"] []
  a_are_kinds : Addr
  f_are_kinds : FuncData
  F_are_kinds : FunD K "are_kinds" "are_kinds" (defArgs s_are_kinds) (defBody s_are_kinds) (defScope s_are_kinds) [] [] a_are_kinds f_are_kinds
  g_are_kinds : mg "are_kinds" = some (.ref a_are_kinds)
  b_are_kinds : Binds K f_are_kinds ["kinds"] []
  a_need_kinds : Addr
  f_need_kinds : FuncData
  F_need_kinds : FunD K "need_kinds" "need_kinds" (defArgs s_need_kinds) (defBody s_need_kinds) (defScope s_need_kinds) [] [] a_need_kinds f_need_kinds
  g_need_kinds : mg "need_kinds" = some (.ref a_need_kinds)
  b_need_kinds : Binds K f_need_kinds ["kinds"] []
  a_need_body : Addr
  f_need_body : FuncData
  F_need_body : FunD K "need_body" "need_body" (defArgs s_need_body) (defBody s_need_body) (defScope s_need_body) [] [] a_need_body f_need_body
  g_need_body : mg "need_body" = some (.ref a_need_body)
  b_need_body : Binds K f_need_body ["body"] []
  a_turned : Addr
  f_turned : FuncData
  F_turned : FunD K "turned" "turned" (defArgs s_turned) (defBody s_turned) (defScope s_turned) [] [] a_turned f_turned
  g_turned : mg "turned" = some (.ref a_turned)
  b_turned : Binds K f_turned ["body", "rule"] []
  a_along : Addr
  f_along : FuncData
  F_along : FunD K "along" "along" (defArgs s_along) (defBody s_along) (defScope s_along) [] [] a_along f_along
  g_along : mg "along" = some (.ref a_along)
  b_along : Binds K f_along ["ways", "kinds", "body"] []
  a_made : Addr
  f_made : FuncData
  F_made : FunD K "made" "made" (defArgs s_made) (defBody s_made) (defScope s_made) [] [] a_made f_made
  g_made : mg "made" = some (.ref a_made)
  b_made : Binds K f_made ["ways", "kinds", "body"] []
  a_law_dice : Addr
  f_law_dice : FuncData
  F_law_dice : FunD K "_law_dice" "_law_dice" (defArgs s_law_dice) (defBody s_law_dice) (defScope s_law_dice) [] [] a_law_dice f_law_dice
  g_law_dice : mg "_law_dice" = some (.ref a_law_dice)
  b_law_dice : Binds K f_law_dice ["_law_script", "_law_k"] []
  a_law_off : Addr
  f_law_off : FuncData
  F_law_off : FunD K "_law_off" "_law_off" (defArgs s_law_off) (defBody s_law_off) (defScope s_law_off) [] [] a_law_off f_law_off
  g_law_off : mg "_law_off" = some (.ref a_law_off)
  b_law_off : Binds K f_law_off ["_law_d", "_law_upto"] []
  a_law_alike : Addr
  f_law_alike : FuncData
  F_law_alike : FunD K "_law_alike" "_law_alike" (defArgs s_law_alike) (defBody s_law_alike) (defScope s_law_alike) [] [] a_law_alike f_law_alike
  g_law_alike : mg "_law_alike" = some (.ref a_law_alike)
  b_law_alike : Binds K f_law_alike ["_law_found", "_law_due"] []
  a_law_word : Addr
  f_law_word : FuncData
  F_law_word : FunD K "_law_word" "_law_word" (defArgs s_law_word) (defBody s_law_word) (defScope s_law_word) [] [] a_law_word f_law_word
  g_law_word : mg "_law_word" = some (.ref a_law_word)
  b_law_word : Binds K f_law_word ["_law_work"] []
  a_law_are : Addr
  f_law_are : FuncData
  F_law_are : FunD K "_law_are" "_law_are" (defArgs s_law_are) (defBody s_law_are) (defScope s_law_are) [] [] a_law_are f_law_are
  g_law_are : mg "_law_are" = some (.ref a_law_are)
  b_law_are : Binds K f_law_are ["_law_works", "_law_word_here"] []
  a_law_ways : Addr
  f_law_ways : FuncData
  F_law_ways : FunD K "_law_ways" "_law_ways" (defArgs s_law_ways) (defBody s_law_ways) (defScope s_law_ways) [] [] a_law_ways f_law_ways
  g_law_ways : mg "_law_ways" = some (.ref a_law_ways)
  b_law_ways : Binds K f_law_ways ["_law_d"] []
  a_law_body : Addr
  f_law_body : FuncData
  F_law_body : FunD K "_law_body" "_law_body" (defArgs s_law_body) (defBody s_law_body) (defScope s_law_body) [] [] a_law_body f_law_body
  g_law_body : mg "_law_body" = some (.ref a_law_body)
  b_law_body : Binds K f_law_body ["_law_d"] []
  a_law_turned : Addr
  f_law_turned : FuncData
  F_law_turned : FunD K "_law_turned" "_law_turned" (defArgs s_law_turned) (defBody s_law_turned) (defScope s_law_turned) [] [] a_law_turned f_law_turned
  g_law_turned : mg "_law_turned" = some (.ref a_law_turned)
  b_law_turned : Binds K f_law_turned ["_law_body_here", "_law_rule"] []
  a_law_made : Addr
  f_law_made : FuncData
  F_law_made : FunD K "_law_made" "_law_made" (defArgs s_law_made) (defBody s_law_made) (defScope s_law_made) [] [] a_law_made f_law_made
  g_law_made : mg "_law_made" = some (.ref a_law_made)
  b_law_made : Binds K f_law_made ["_law_ways_here", "_law_kinds", "_law_body_here"] []
  a_law_walk : Addr
  f_law_walk : FuncData
  F_law_walk : FunD K "_law_walk" "_law_walk" (defArgs s_law_walk) (defBody s_law_walk) (defScope s_law_walk) [] [] a_law_walk f_law_walk
  g_law_walk : mg "_law_walk" = some (.ref a_law_walk)
  b_law_walk : Binds K f_law_walk ["_law_d", "_law_ways_here"] []
  a_law : Addr
  f_law : FuncData
  F_law : FunD K "law" "law" (defArgs s_law) (defBody s_law) (defScope s_law) [] [] a_law f_law
  g_law : mg "law" = some (.ref a_law)
  e_law : He.fAd K ("law", none) = a_law
  b_law : Binds K f_law ["_law_script"] []
  ex_BadRoute : PySem.W.excIn K (He.ga K "BadRoute") He.veBase "ValueError.__new__" = true ∧ PySem.W.keepIn K (.ref (He.ga K "BadRoute")) = true ∧ PySem.W.subIn K (.ref (He.ga K "BadRoute")) (.type "BaseException") = some true ∧ PySem.W.typeIn K (.ref (He.ga K "BadRoute")) = some (.type "type")
  g_BadRoute : mg "BadRoute" = some (.ref (He.ga K "BadRoute"))
  g_BadWays : mg "BadWays" = some (.ref (He.ga K "BadWays"))
  g_BadSteps : mg "BadSteps" = some (.ref (He.ga K "BadSteps"))
  g_BadLog : mg "BadLog" = some (.ref (He.ga K "BadLog"))
  g_BadKind : mg "BadKind" = some (.ref (He.ga K "BadKind"))
  g_BadKinds : mg "BadKinds" = some (.ref (He.ga K "BadKinds"))
  g_BadBody : mg "BadBody" = some (.ref (He.ga K "BadBody"))
  g_BadMost : mg "BadMost" = some (.ref (He.ga K "BadMost"))
  g_BadOffers : mg "BadOffers" = some (.ref (He.ga K "BadOffers"))
  g_NoProgram : mg "NoProgram" = some (.ref (He.ga K "NoProgram"))
  g_NoClip : mg "NoClip" = some (.ref (He.ga K "NoClip"))
  g_NotOffered : mg "NotOffered" = some (.ref (He.ga K "NotOffered"))
  g_Full : mg "Full" = some (.ref (He.ga K "Full"))
  g_BadText : mg "BadText" = some (.ref (He.ga K "BadText"))
  is_E : ∀ y ∈ raiL, ∀ z ∈ errsL, PySem.W.kitOne K (.ref (He.ga K y)) (.ref (He.ga K z)) = some (decide (z = y))
  iv_E : ∀ y ∈ raiL, PySem.W.kitOne K (.ref (He.ga K y)) (.type "ValueError") = some true
  ec_E : ∀ y ∈ raiL, ExcC K (He.ga K y)
  g_ClipError : mg "ClipError" = some (.ref (He.ga K "ClipError"))
  xm_ClipError : ∀ y ∈ raiL, PySem.W.exmOne K (.ref (He.ga K y)) (.ref (He.ga K "ClipError")) = some true
  n_ValueError : mg "ValueError" = none
  n_abs : mg "abs" = none
  n_all : mg "all" = none
  n_bool : mg "bool" = none
  n_enumerate : mg "enumerate" = none
  n_int : mg "int" = none
  n_isinstance : mg "isinstance" = none
  n_len : mg "len" = none
  n_list : mg "list" = none
  n_range : mg "range" = none
  n_set : mg "set" = none
  n_sorted : mg "sorted" = none
  n_str : mg "str" = none
  n_tuple : mg "tuple" = none
  i_KINDS : ∃ t, mg "KINDS" = some (.int 10 t)
  i_MOST_BODY : ∃ t, mg "MOST_BODY" = some (.int 12 t)
  i_MOST_LOSS : ∃ t, mg "MOST_LOSS" = some (.int 9 t)
  i_MOST_WAYS : ∃ t, mg "MOST_WAYS" = some (.int 30 t)
  a_RULES : Addr
  g_RULES : mg "RULES" = some (.ref a_RULES)
  r_RULES : ∀ ρ F, Rp (ct K) ρ F (.rt [.str "same", .str "turn", .str "sort", .str "half", .str "next"]) (.ref a_RULES)
theorem hu1 {k : Nat} {A : Around} (r : Room k A) : A.units + 1 < cLine := by have := r.un; omega
theorem hu64 {k : Nat} {A : Around} (r : Room k A) : A.units + 64 < cLine := by have := r.un; omega
theorem hu65 {k : Nat} {A : Around} (r : Room k A) : A.units + 65 < cLine := by have := r.un; omega
theorem hus64 {k : Nat} {X : Cx} {a : Addr} {pn : List (Addr × Obj)} (r : Room k X.A) : (X.suite a pn).A.units + 64 < cLine := by have := r.un; show X.A.units + 64 < cLine; omega
theorem hus65 {k : Nat} {X : Cx} {a : Addr} {pn : List (Addr × Obj)} (r : Room k X.A) : (X.suite a pn).A.units + 65 < cLine := by have := r.un; show X.A.units + 65 < cLine; omega
section
variable {P : Program} {w : World} {K : PySem.W.Frag} {mg : Str → Option Value} {base : Heap}
theorem sc_is_between : FnScope ["part", "low", "high"] ["part", "low", "high"] (defScope s_is_between) := ⟨rfl, rfl, rfl, by decide +kernel, rfl, by decide +kernel, by decide +kernel⟩
theorem ok_is_between (Y : Fx w mg K) : FnOk P w K mg base (L2.CX P w) 1 Y.a_is_between Y.f_is_between ["part", "low", "high"] (SpC (ct K) c_is_between) :=
  def_ok (c := ct K) 3 3 0 Y.F_is_between sc_is_between rfl rfl fun cdv A outer s H E hr =>
  (jss_one (js_ret (je_and (je_callB (jc_isi rfl) rfl Y.n_isinstance boot_isinstance (ja_cons (je_var 0) (ja_cons (je_ty rfl Y.n_int boot_int) ja_nil))) (je_and (je_not (je_callB (jc_isi rfl) rfl Y.n_isinstance boot_isinstance (ja_cons (je_var 0) (ja_cons (je_ty rfl Y.n_bool boot_bool) ja_nil)))) (je_one (je_chain jo_le jo_le (je_var 1) (je_var 0) (je_var 2)))))))
theorem sc_turned : FnScope ["body", "rule", "k", "part"] ["body", "rule"] (defScope s_turned) := ⟨rfl, rfl, rfl, by decide +kernel, rfl, by decide +kernel, by decide +kernel⟩
theorem ok_turned (Y : Fx w mg K) : FnOk P w K mg base (L2.CX P w) 1 Y.a_turned Y.f_turned ["body", "rule"] (SpC (ct K) c_turned) :=
  def_okA (c := ct K) 2 4 Y.F_turned sc_turned rfl rfl fun cdv A outer s H E hr =>
  (jss_cons (js_if (jt_cmp (jo_eq (hu64 hr)) (je_var 1) je_str) (jss_one (js_ret (je_rev (je_var 0)))) jss_nil)
  (jss_cons (js_if (jt_cmp (jo_eq (hu64 hr)) (je_var 1) je_str) (jss_one (js_ret (je_callTy jc_tuple rfl Y.n_tuple boot_tuple (ja_cons (je_callB jc_sortTup rfl Y.n_sorted boot_sorted (ja_cons (je_var 0) ja_nil)) ja_nil)))) jss_nil)
  (jss_cons (js_if (jt_cmp (jo_eq (hu64 hr)) (je_var 1) je_str) (jss_one (js_ret (je_callTy jc_tuple rfl Y.n_tuple boot_tuple (ja_cons (je_lc (own := [("k", 2)]) rfl sc_turned.nd (ji_rng3 rfl Y.n_range (ja_cons je_int (ja_cons (je_callB (jc_len rfl) rfl Y.n_len boot_len (ja_cons (je_var 0) ja_nil)) (ja_cons je_int ja_nil)))) (blkOk_by (own := [("k", 2)]) (by kernel_rfl)) (fun _ _ _ _ _ => (jgo_name 2 sc_turned.nd (by decide))) (fun _ _ _ _ _ => jts_nil) (fun _ _ _ _ _ => (je_ix (jx_seq rfl) (je_var 0) (je_var 2)))) ja_nil)))) jss_nil)
  (jss_one (js_ret (je_if (jt_cmp (jo_eq (hu64 hr)) (je_var 1) je_str) (je_callTy jc_tuple rfl Y.n_tuple boot_tuple (ja_cons (je_lc (own := [("part", 3)]) rfl sc_turned.nd (ji_any rfl (je_var 0)) (blkOk_by (own := [("part", 3)]) (by kernel_rfl)) (fun _ _ _ _ _ => (jgo_name 3 sc_turned.nd (by decide))) (fun _ _ _ _ _ => jts_nil) (fun _ _ _ _ _ => (je_bin jo_mod (je_bin jo_add (je_var 3) je_int) je_int))) ja_nil)) (je_var 0)))))))
theorem sc_law_dice : FnScope ["_law_script", "_law_k", "_law_found", "_law_cell"] ["_law_script", "_law_k"] (defScope s_law_dice) := ⟨rfl, rfl, rfl, by decide +kernel, rfl, by decide +kernel, by decide +kernel⟩
theorem ok_law_dice (Y : Fx w mg K) : FnOk P w K mg base (L2.CX P w) 1 Y.a_law_dice Y.f_law_dice ["_law_script", "_law_k"] (SpC (ct K) c_law_dice) :=
  def_ok (c := ct K) 2 4 1 Y.F_law_dice sc_law_dice rfl rfl fun cdv A outer s H E hr =>
  (jss_cons (js_set 2 sc_law_dice.nd (je_var 1))
  (jss_cons (js_for (passes_of rfl) rfl (ji_any rfl (je_var 0)) (jg_name 3 sc_law_dice.nd) (jss_one (js_set 2 sc_law_dice.nd (je_bin jo_mod (je_bin jo_add (je_bin jo_mul (je_var 2) je_int) (je_callB jc_abs rfl Y.n_abs boot_abs (ja_cons (je_var 3) ja_nil))) je_int))))
  (jss_one (js_ret (je_bin jo_addO (je_lst (ja_cons (je_var 2) (ja_cons je_int ja_nil))) (je_lc (own := [("_law_cell", 3)]) rfl sc_law_dice.nd (ji_any rfl (je_var 0)) (blkOk_by (own := [("_law_cell", 3)]) (by kernel_rfl)) (fun _ _ _ _ _ => (jgo_name 3 sc_law_dice.nd (by decide))) (fun _ _ _ _ _ => (jts_one (jt_cmp jo_ge (je_var 3) (je_bin jo_pow je_int je_int)))) (fun _ _ _ _ _ => (je_var 3))))))))
theorem sc_law_off : FnScope ["_law_d", "_law_upto", "_law_found"] ["_law_d", "_law_upto"] (defScope s_law_off) := ⟨rfl, rfl, rfl, by decide +kernel, rfl, by decide +kernel, by decide +kernel⟩
theorem ok_law_off (Y : Fx w mg K) : FnOk P w K mg base (L2.CX P w) 1 Y.a_law_off Y.f_law_off ["_law_d", "_law_upto"] (SpC (ct K) c_law_off) :=
  def_ok (c := ct K) 2 3 0 Y.F_law_off sc_law_off rfl rfl fun cdv A outer s H E hr =>
  (jss_cons (js_if (JW.pt (jw_and (jt_cmp (jo_eq (hu64 hr)) (je_ix (jx_seq rfl) (je_var 0) je_int) je_int) (jw_and1 (jt_cmp jo_gt (je_callB (jc_len rfl) rfl Y.n_len boot_len (ja_cons (je_var 0) ja_nil)) je_int)))) (jss_one (js_asg (je_meth PySem.F.plainAttrs_list PySem.F.slot_list_pop PySem.F.type_list_pop jm_popAt isLst_ty (je_var 0) (ja_cons je_int ja_nil)) (jg_sub (jset (hu1 hr)) (je_var 0) je_int))) jss_nil)
  (jss_cons (js_if (jt_cmp jo_gt (je_ix (jx_seq rfl) (je_var 0) je_int) je_int) (jss_cons (js_set 2 sc_law_off.nd (je_bin jo_mod (je_ix (jx_seq rfl) (je_var 0) je_int) (je_var 1)))
  (jss_cons (js_asg (je_bin jo_fdiv (je_ix (jx_seq rfl) (je_var 0) je_int) (je_var 1)) (jg_sub (jset (hu1 hr)) (je_var 0) je_int))
  (jss_one (js_ret (je_var 2))))) jss_nil)
  (jss_cons (js_asg (je_bin jo_mod (je_bin jo_add (je_bin jo_mul (je_ix (jx_seq rfl) (je_var 0) je_int) je_int) je_int) je_int) (jg_sub (jset (hu1 hr)) (je_var 0) je_int))
  (jss_one (js_ret (je_bin jo_mod (je_bin jo_fdiv (je_ix (jx_seq rfl) (je_var 0) je_int) je_int) (je_var 1)))))))
theorem sc_law_turned : FnScope ["_law_body_here", "_law_rule", "_law_found", "_law_number", "_law_k", "_law_part"] ["_law_body_here", "_law_rule"] (defScope s_law_turned) := ⟨rfl, rfl, rfl, by decide +kernel, rfl, by decide +kernel, by decide +kernel⟩
theorem ok_law_turned (Y : Fx w mg K) : FnOk P w K mg base (L2.CX P w) 1 Y.a_law_turned Y.f_law_turned ["_law_body_here", "_law_rule"] (SpC (ct K) c_law_turned) :=
  def_okA (c := ct K) 2 6 Y.F_law_turned sc_law_turned rfl rfl fun cdv A outer s H E hr =>
  (jss_cons (js_if (jt_cmp (jo_eq (hu64 hr)) (je_var 1) je_str) (jss_one (js_ret (je_callTy jc_tupleS rfl Y.n_tuple boot_tuple (ja_cons (je_lc (own := [("_law_k", 4)]) rfl sc_law_turned.nd (ji_rng1 rfl Y.n_range (ja_cons (je_callB (jc_len rfl) rfl Y.n_len boot_len (ja_cons (je_var 0) ja_nil)) ja_nil)) (blkOk_by (own := [("_law_k", 4)]) (by kernel_rfl)) (fun _ _ _ _ _ => (jgo_name 4 sc_law_turned.nd (by decide))) (fun _ _ _ _ _ => jts_nil) (fun _ _ _ _ _ => (je_ix (jx_seq rfl) (je_var 0) (je_bin jo_sub (je_bin jo_sub (je_callB (jc_len rfl) rfl Y.n_len boot_len (ja_cons (je_var 0) ja_nil)) je_int) (je_var 4))))) ja_nil)))) jss_nil)
  (jss_cons (js_if (jt_cmp (jo_eq (hu64 hr)) (je_var 1) je_str) (jss_one (js_ret (je_callTy jc_tupleS rfl Y.n_tuple boot_tuple (ja_cons (je_lc (own := [("_law_k", 4)]) rfl sc_law_turned.nd (ji_rng1 rfl Y.n_range (ja_cons (je_callB (jc_len rfl) rfl Y.n_len boot_len (ja_cons (je_var 0) ja_nil)) ja_nil)) (blkOk_by (own := [("_law_k", 4)]) (by kernel_rfl)) (fun _ _ _ _ _ => (jgo_name 4 sc_law_turned.nd (by decide))) (fun _ _ _ _ _ => (jts_one (jt_cmp (jo_eq (hu64 hr)) (je_bin jo_mod (je_var 4) je_int) je_int))) (fun _ _ _ _ _ => (je_ix (jx_seq rfl) (je_var 0) (je_var 4)))) ja_nil)))) jss_nil)
  (jss_cons (js_if (jt_cmp (jo_eq (hu64 hr)) (je_var 1) je_str) (jss_one (js_ret (je_callTy jc_tupleS rfl Y.n_tuple boot_tuple (ja_cons (je_lc (own := [("_law_part", 5)]) rfl sc_law_turned.nd (ji_any rfl (je_var 0)) (blkOk_by (own := [("_law_part", 5)]) (by kernel_rfl)) (fun _ _ _ _ _ => (jgo_name 5 sc_law_turned.nd (by decide))) (fun _ _ _ _ _ => jts_nil) (fun _ _ _ _ _ => (je_if (jt_cmp (jo_eq (hu64 hr)) (je_var 5) je_int) je_int (je_bin jo_add (je_var 5) je_int)))) ja_nil)))) jss_nil)
  (jss_cons (js_if (jt_cmp (jo_eq (hu64 hr)) (je_var 1) je_str) (jss_one (js_ret (je_var 0))) jss_nil)
  (jss_cons (js_set 2 sc_law_turned.nd (je_tupS ja_nil))
  (jss_cons (js_for (passes_of rfl) rfl (ji_rng1 rfl Y.n_range (ja_cons je_int ja_nil)) (jg_name 3 sc_law_turned.nd) (jss_one (js_set 2 sc_law_turned.nd (je_bin jo_addS (je_var 2) (je_bin jo_repS (je_tupS (ja_cons (je_var 3) ja_nil)) (je_methS PySem.F.plainAttrs_tuple PySem.F.slot_tuple_count PySem.F.type_tuple_count jm_count (je_var 0) (ja_cons (je_var 3) ja_nil)))))))
  (jss_one (js_ret (je_var 2)))))))))
theorem sc_is_kind : FnScope ["part"] ["part"] (defScope s_is_kind) := ⟨rfl, rfl, rfl, by decide +kernel, rfl, by decide +kernel, by decide +kernel⟩
theorem ok_is_kind (Y : Fx w mg K) : FnOk P w K mg base (L2.CX P w) 2 Y.a_is_kind Y.f_is_kind ["part"] (SpC (ct K) c_is_kind) :=
  def_ok (c := ct K) 1 1 0 Y.F_is_kind sc_is_kind rfl rfl fun cdv A outer s H E hr =>
  (jss_one (js_ret (je_call (ok_is_between Y) (hr.mono (by decide)) Y.g_is_between Y.F_is_between.kp Y.b_is_between (pz_of (takes_of rfl rfl rfl rfl)) rfl (ja_cons (je_var 0) (ja_cons je_int (ja_cons (je_bin jo_sub (je_gint rfl Y.i_KINDS) je_int) ja_nil))))))
theorem sc_is_body : FnScope ["body", "part"] ["body"] (defScope s_is_body) := ⟨rfl, rfl, rfl, by decide +kernel, rfl, by decide +kernel, by decide +kernel⟩
theorem ok_is_body (Y : Fx w mg K) : FnOk P w K mg base (L2.CX P w) 2 Y.a_is_body Y.f_is_body ["body"] (SpC (ct K) c_is_body) :=
  def_ok (c := ct K) 1 2 0 Y.F_is_body sc_is_body rfl rfl fun cdv A outer s H E hr =>
  (jss_cons (js_if (JW.pt (jw_or (jt_not (jt_val (je_callB (jc_isi rfl) rfl Y.n_isinstance boot_isinstance (ja_cons (je_var 0) (ja_cons (je_ty rfl Y.n_tuple boot_tuple) ja_nil))))) (jw_or1 (jt_cmp jo_gt (je_callB (jc_len rfl) rfl Y.n_len boot_len (ja_cons (je_var 0) ja_nil)) (je_gint rfl Y.i_MOST_BODY))))) (jss_one (js_ret je_bl)) jss_nil)
  (jss_one (js_ret (je_cmp (jo_eq (hu64 hr)) (je_lc (own := [("part", 1)]) rfl sc_is_body.nd (ji_any rfl (je_var 0)) (blkOk_by (own := [("part", 1)]) (by kernel_rfl)) (fun _ _ _ _ _ => (jgo_name 1 sc_is_body.nd (by decide))) (fun _ _ _ _ _ => (jts_one (jt_not (jt_val (je_call (ok_is_between Y) (hr.mono (by decide)) Y.g_is_between Y.F_is_between.kp Y.b_is_between pz_0 rfl (ja_cons (je_var 1) (ja_cons je_int (ja_cons je_int ja_nil)))))))) (fun _ _ _ _ _ => (je_var 1))) (je_lst ja_nil)))))
theorem sc_along : FnScope ["ways", "kinds", "body", "rules", "k", "way"] ["ways", "kinds", "body"] (defScope s_along) := ⟨rfl, rfl, rfl, by decide +kernel, rfl, by decide +kernel, by decide +kernel⟩
theorem ok_along (Y : Fx w mg K) : FnOk P w K mg base (L2.CX P w) 2 Y.a_along Y.f_along ["ways", "kinds", "body"] (SpC (ct K) c_along_v2) :=
  def_okA (c := ct K) 3 6 Y.F_along sc_along rfl rfl fun cdv A outer s H E hr =>
  (jss_cons (js_setDcT (own := [("way", 5)]) 3 rfl sc_along.nd (hu1 hr) (ji_any rfl (je_var 0)) (blkOk_by (own := [("way", 5)]) (by kernel_rfl)) (fun _ _ _ _ _ => (jgo_name 5 sc_along.nd (by decide))) (fun _ _ _ _ _ => jts_nil) (fun _ _ _ _ _ => (je_sl jsl (je_var 5) jp_none (jp_some je_int))) (fun _ _ _ _ _ => (je_ix (jx_seq rfl) (je_var 5) je_int)) (sw_trueD rfl rfl rfl (by decide +kernel)))
  (jss_cons (js_for (passes_of rfl) rfl (ji_rng2 rfl Y.n_range (ja_cons je_int (ja_cons (je_callB (jc_len rfl) rfl Y.n_len boot_len (ja_cons (je_var 1) ja_nil)) ja_nil))) (jg_name 4 sc_along.nd) (jss_cons (js_if (jt_cmp (jo_notIn rfl (hu65 hr)) (je_tup (ja_cons (je_ix (jx_seq rfl) (je_var 1) (je_bin jo_sub (je_var 4) je_int)) (ja_cons (je_ix (jx_seq rfl) (je_var 1) (je_var 4)) ja_nil))) (je_var 3)) (jss_one (js_raise rfl (takes_of rfl rfl rfl rfl) (x := "BadRoute") ⟨Y.ex_BadRoute.1, Y.ex_BadRoute.2.1, Y.ex_BadRoute.2.2.1, Y.ex_BadRoute.2.2.2⟩ Y.g_BadRoute rfl)) jss_nil)
  (jss_one (js_set 2 sc_along.nd (je_call (ok_turned Y) (hr.mono (by decide)) Y.g_turned Y.F_turned.kp Y.b_turned (pz_of (takes_of rfl rfl rfl rfl)) rfl (ja_cons (je_var 2) (ja_cons (je_ix (jx_dict (hu1 hr)) (je_var 3) (je_tup (ja_cons (je_ix (jx_seq rfl) (je_var 1) (je_bin jo_sub (je_var 4) je_int)) (ja_cons (je_ix (jx_seq rfl) (je_var 1) (je_var 4)) ja_nil)))) ja_nil)))))))
  (jss_one (js_ret (je_var 2)))))
theorem sc_law_ways : FnScope ["_law_d", "_law_k", "_law_most", "_law_few", "_law_found", "_law_met", "_law_pair", "_law_loss"] ["_law_d"] (defScope s_law_ways) := ⟨rfl, rfl, rfl, by decide +kernel, rfl, by decide +kernel, by decide +kernel⟩
theorem ok_law_ways (Y : Fx w mg K) : FnOk P w K mg base (L2.CX P w) 2 Y.a_law_ways Y.f_law_ways ["_law_d"] (SpC (ct K) c_law_ways) :=
  def_ok (c := ct K) 1 8 0 Y.F_law_ways sc_law_ways rfl rfl fun cdv A outer s H E hr =>
  (jss_cons (js_par 2 3 rfl sc_law_ways.nd (by decide) (je_ix (jx_seq rfl) (je_lst (ja_cons je_int (ja_cons je_int (ja_cons je_int ja_nil)))) (je_call (ok_law_off Y) (hr.mono (by decide)) Y.g_law_off Y.F_law_off.kp Y.b_law_off (pz_of (takes_of rfl rfl rfl rfl)) rfl (ja_cons (je_var 0) (ja_cons je_int ja_nil)))) (je_ix (jx_seq rfl) (je_lst (ja_cons je_int (ja_cons je_int (ja_cons je_int ja_nil)))) (je_call (ok_law_off Y) (hr.mono (by decide)) Y.g_law_off Y.F_law_off.kp Y.b_law_off (pz_of (takes_of rfl rfl rfl rfl)) rfl (ja_cons (je_var 0) (ja_cons je_int ja_nil)))) rfl)
  (jss_cons (js_par 4 5 rfl sc_law_ways.nd (by decide) (je_lstO ja_nil) (je_lstO ja_nil) rfl)
  (jss_cons (js_for (passes_of rfl) rfl (ji_rng1 rfl Y.n_range (ja_cons (je_call (ok_law_off Y) (hr.mono (by decide)) Y.g_law_off Y.F_law_off.kp Y.b_law_off (pz_of (takes_of rfl rfl rfl rfl)) rfl (ja_cons (je_var 0) (ja_cons (je_bin jo_add (je_var 2) je_int) ja_nil))) ja_nil)) (jg_name 1 sc_law_ways.nd) (jss_cons (js_set 6 sc_law_ways.nd (je_tup (ja_cons (je_call (ok_law_off Y) (hr.mono (by decide)) Y.g_law_off Y.F_law_off.kp Y.b_law_off (pz_of (takes_of rfl rfl rfl rfl)) rfl (ja_cons (je_var 0) (ja_cons (je_var 3) ja_nil))) (ja_cons (je_call (ok_law_off Y) (hr.mono (by decide)) Y.g_law_off Y.F_law_off.kp Y.b_law_off (pz_of (takes_of rfl rfl rfl rfl)) rfl (ja_cons (je_var 0) (ja_cons (je_var 3) ja_nil))) ja_nil))))
  (jss_one (js_if (JW.pt (jw_and (jt_cmp (jo_ne (hu64 hr)) (je_ix (jx_seq rfl) (je_var 6) je_int) (je_ix (jx_seq rfl) (je_var 6) je_int)) (jw_and1 (jt_cmp (jo_notIn rfl (hu65 hr)) (je_var 6) (je_var 5))))) (jss_cons (js_expr (je_meth PySem.F.plainAttrs_list PySem.F.slot_list_append PySem.F.type_list_append jm_append isLst_ty (je_var 5) (ja_cons (je_var 6) ja_nil)))
  (jss_cons (js_set 7 sc_law_ways.nd (je_call (ok_law_off Y) (hr.mono (by decide)) Y.g_law_off Y.F_law_off.kp Y.b_law_off (pz_of (takes_of rfl rfl rfl rfl)) rfl (ja_cons (je_var 0) (ja_cons (je_ix (jx_seq rfl) (je_lst (ja_cons je_int (ja_cons je_int ja_nil))) (je_call (ok_law_off Y) (hr.mono (by decide)) Y.g_law_off Y.F_law_off.kp Y.b_law_off (pz_of (takes_of rfl rfl rfl rfl)) rfl (ja_cons (je_var 0) (ja_cons je_int ja_nil)))) ja_nil))))
  (jss_one (js_expr (je_meth PySem.F.plainAttrs_list PySem.F.slot_list_append PySem.F.type_list_append jm_append isLst_ty (je_var 4) (ja_cons (je_bin jo_add (je_var 6) (je_tup (ja_cons (je_var 7) (ja_cons (je_ix (jx_seq rfl) (je_lst (ja_cons je_str (ja_cons je_str (ja_cons je_str (ja_cons je_str (ja_cons je_str ja_nil)))))) (je_call (ok_law_off Y) (hr.mono (by decide)) Y.g_law_off Y.F_law_off.kp Y.b_law_off (pz_of (takes_of rfl rfl rfl rfl)) rfl (ja_cons (je_var 0) (ja_cons je_int ja_nil)))) ja_nil)))) ja_nil)))))) jss_nil))))
  (jss_one (js_ret (je_frz (je_var 4)))))))
theorem sc_law_body : FnScope ["_law_d", "_law_k"] ["_law_d"] (defScope s_law_body) := ⟨rfl, rfl, rfl, by decide +kernel, rfl, by decide +kernel, by decide +kernel⟩
theorem ok_law_body (Y : Fx w mg K) : FnOk P w K mg base (L2.CX P w) 2 Y.a_law_body Y.f_law_body ["_law_d"] (SpC (ct K) c_law_body_v2) :=
  def_okA (c := ct K) 1 2 Y.F_law_body sc_law_body rfl rfl fun cdv A outer s H E hr =>
  (jss_one (js_ret (je_callTy jc_tupleS rfl Y.n_tuple boot_tuple (ja_cons (je_lc (own := [("_law_k", 1)]) rfl sc_law_body.nd (ji_rng1 rfl Y.n_range (ja_cons (je_call (ok_law_off Y) (hr.mono (by decide)) Y.g_law_off Y.F_law_off.kp Y.b_law_off (pz_of (takes_of rfl rfl rfl rfl)) rfl (ja_cons (je_var 0) (ja_cons (je_ix (jx_seq rfl) (je_lst (ja_cons je_int (ja_cons je_int ja_nil))) (je_call (ok_law_off Y) (hr.mono (by decide)) Y.g_law_off Y.F_law_off.kp Y.b_law_off (pz_of (takes_of rfl rfl rfl rfl)) rfl (ja_cons (je_var 0) (ja_cons je_int ja_nil)))) ja_nil))) ja_nil)) (blkOk_by (own := [("_law_k", 1)]) (by kernel_rfl)) (fun _ _ _ _ _ => (jgo_name 1 sc_law_body.nd (by decide))) (fun _ _ _ _ _ => jts_nil) (fun _ _ _ _ _ => (je_call (ok_law_off Y) (hr.mono (by decide)) Y.g_law_off Y.F_law_off.kp Y.b_law_off pz_0 rfl (ja_cons (je_var 0) (ja_cons je_int ja_nil))))) ja_nil))))
theorem sc_law_made : FnScope ["_law_ways_here", "_law_kinds", "_law_body_here", "_law_k", "_law_rule", "_law_way"] ["_law_ways_here", "_law_kinds", "_law_body_here"] (defScope s_law_made) := ⟨rfl, rfl, rfl, by decide +kernel, rfl, by decide +kernel, by decide +kernel⟩
theorem ok_law_made (Y : Fx w mg K) : FnOk P w K mg base (L2.CX P w) 2 Y.a_law_made Y.f_law_made ["_law_ways_here", "_law_kinds", "_law_body_here"] (SpC (ct K) c_law_made) :=
  def_okA (c := ct K) 3 6 Y.F_law_made sc_law_made rfl rfl fun cdv A outer s H E hr =>
  (jss_cons (js_for (passes_of rfl) rfl (ji_rng2 rfl Y.n_range (ja_cons je_int (ja_cons (je_callB (jc_len rfl) rfl Y.n_len boot_len (ja_cons (je_var 1) ja_nil)) ja_nil))) (jg_name 3 sc_law_made.nd) (jss_cons (js_set 4 sc_law_made.nd (je_ix (jx_seq rfl) (je_lc (own := [("_law_way", 5)]) rfl sc_law_made.nd (ji_any rfl (je_var 0)) (blkOk_by (own := [("_law_way", 5)]) (by kernel_rfl)) (fun _ _ _ _ _ => (jgo_name 5 sc_law_made.nd (by decide))) (fun _ _ _ _ _ => (jts_one (jt_cmp (jo_eq (hu64 hr)) (je_sl jsl (je_var 5) jp_none (jp_some je_int)) (je_tup (ja_cons (je_ix (jx_seq rfl) (je_var 1) (je_bin jo_sub (je_var 3) je_int)) (ja_cons (je_ix (jx_seq rfl) (je_var 1) (je_var 3)) ja_nil)))))) (fun _ _ _ _ _ => (je_ix (jx_seq rfl) (je_var 5) je_int))) je_int))
  (jss_one (js_set 2 sc_law_made.nd (je_call (ok_law_turned Y) (hr.mono (by decide)) Y.g_law_turned Y.F_law_turned.kp Y.b_law_turned (pz_of (takes_of rfl rfl rfl rfl)) rfl (ja_cons (je_var 2) (ja_cons (je_var 4) ja_nil)))))))
  (jss_one (js_ret (je_var 2))))
theorem sc_law_walk : FnScope ["_law_d", "_law_ways_here", "_law_row", "_law_turn", "_law_some", "_law_start", "_law_goal", "_law_loss", "_law_rule", "_law_kind"] ["_law_d", "_law_ways_here"] (defScope s_law_walk) := ⟨rfl, rfl, rfl, by decide +kernel, rfl, by decide +kernel, by decide +kernel⟩
theorem ok_law_walk (Y : Fx w mg K) : FnOk P w K mg base (L2.CX P w) 2 Y.a_law_walk Y.f_law_walk ["_law_d", "_law_ways_here"] (SpC (ct K) c_law_walk) :=
  def_okA (c := ct K) 2 10 Y.F_law_walk sc_law_walk rfl rfl fun cdv A outer s H E hr =>
  (jss_cons (js_set 2 sc_law_walk.nd (je_tup (ja_cons (je_call (ok_law_off Y) (hr.mono (by decide)) Y.g_law_off Y.F_law_off.kp Y.b_law_off (pz_of (takes_of rfl rfl rfl rfl)) rfl (ja_cons (je_var 0) (ja_cons je_int ja_nil))) ja_nil)))
  (jss_cons (js_if (jt_cmp (jo_ne (hu64 hr)) (je_var 1) (je_lst ja_nil)) (jss_one (js_set 2 sc_law_walk.nd (je_tup (ja_cons (je_ix (jx_seq rfl) (je_ix (jx_seq rfl) (je_var 1) (je_call (ok_law_off Y) (hr.mono (by decide)) Y.g_law_off Y.F_law_off.kp Y.b_law_off (pz_of (takes_of rfl rfl rfl rfl)) rfl (ja_cons (je_var 0) (ja_cons (je_callB (jc_len rfl) rfl Y.n_len boot_len (ja_cons (je_var 1) ja_nil)) ja_nil)))) je_int) ja_nil)))) jss_nil)
  (jss_cons (js_for (passes_of rfl) rfl (ji_rng1 rfl Y.n_range (ja_cons (je_call (ok_law_off Y) (hr.mono (by decide)) Y.g_law_off Y.F_law_off.kp Y.b_law_off (pz_of (takes_of rfl rfl rfl rfl)) rfl (ja_cons (je_var 0) (ja_cons je_int ja_nil))) ja_nil)) (jg_name 3 sc_law_walk.nd) (jss_cons (js_setLc (own := [("_law_start", 5), ("_law_goal", 6), ("_law_loss", 7), ("_law_rule", 8)]) 4 rfl sc_law_walk.nd (ji_any rfl (je_var 1)) (blkOk_by (own := [("_law_start", 5), ("_law_goal", 6), ("_law_loss", 7), ("_law_rule", 8)]) (by kernel_rfl)) (fun _ _ _ _ _ => (jgo_tup rfl (jgos_name 5 sc_law_walk.nd (by decide) (jgos_name 6 sc_law_walk.nd (by decide) (jgos_name 7 sc_law_walk.nd (by decide) (jgos_name 8 sc_law_walk.nd (by decide) jgos_nil)))))) (fun _ _ _ _ _ => (jts_one (JW.pt (jw_and (jt_cmp (jo_eq (hu64 hr)) (je_var 5) (je_ix (jx_seq rfl) (je_var 2) (je_un ju_neg je_int))) (jw_and1 (jt_cmp (jo_notIn rfl (hu65 hr)) (je_var 6) (je_var 2))))))) (fun _ _ _ _ _ => (je_var 6)) (sw_true rfl rfl rfl (by decide +kernel)))
  (jss_cons (js_if (jt_cmp (jo_eq (hu64 hr)) (je_call (ok_law_off Y) (hr.mono (by decide)) Y.g_law_off Y.F_law_off.kp Y.b_law_off (pz_of (takes_of rfl rfl rfl rfl)) rfl (ja_cons (je_var 0) (ja_cons je_int ja_nil))) je_int) (jss_one (js_setLc (own := [("_law_kind", 9)]) 4 rfl sc_law_walk.nd (ji_rng1 rfl Y.n_range (ja_cons je_int ja_nil)) (blkOk_by (own := [("_law_kind", 9)]) (by kernel_rfl)) (fun _ _ _ _ _ => (jgo_name 9 sc_law_walk.nd (by decide))) (fun _ _ _ _ _ => (jts_one (jt_cmp (jo_notIn rfl (hu65 hr)) (je_var 9) (je_var 2)))) (fun _ _ _ _ _ => (je_var 9)) (sw_true rfl rfl rfl (by decide +kernel)))) jss_nil)
  (jss_one (js_if (jt_cmp (jo_ne (hu64 hr)) (je_var 4) (je_lst ja_nil)) (jss_one (js_set 2 sc_law_walk.nd (je_bin jo_add (je_var 2) (je_tup (ja_cons (je_ix (jx_seq rfl) (je_var 4) (je_call (ok_law_off Y) (hr.mono (by decide)) Y.g_law_off Y.F_law_off.kp Y.b_law_off (pz_of (takes_of rfl rfl rfl rfl)) rfl (ja_cons (je_var 0) (ja_cons (je_callB (jc_len rfl) rfl Y.n_len boot_len (ja_cons (je_var 4) ja_nil)) ja_nil)))) ja_nil))))) jss_nil)))))
  (jss_one (js_ret (je_var 2))))))
theorem sc_is_way : FnScope ["way"] ["way"] (defScope s_is_way) := ⟨rfl, rfl, rfl, by decide +kernel, rfl, by decide +kernel, by decide +kernel⟩
theorem ok_is_way (Y : Fx w mg K) : FnOk P w K mg base (L2.CX P w) 3 Y.a_is_way Y.f_is_way ["way"] (SpC (ct K) c_is_way) :=
  def_ok (c := ct K) 1 1 0 Y.F_is_way sc_is_way rfl rfl fun cdv A outer s H E hr =>
  (jss_cons (js_if (JW.pt (jw_or (jt_not (jt_val (je_callB (jc_isi rfl) rfl Y.n_isinstance boot_isinstance (ja_cons (je_var 0) (ja_cons (je_ty rfl Y.n_tuple boot_tuple) ja_nil))))) (jw_or (jt_cmp (jo_ne (hu64 hr)) (je_callB (jc_len rfl) rfl Y.n_len boot_len (ja_cons (je_var 0) ja_nil)) je_int) (jw_or (jt_not (jt_val (je_call (ok_is_kind Y) (hr.mono (by decide)) Y.g_is_kind Y.F_is_kind.kp Y.b_is_kind (pz_of (takes_of rfl rfl rfl rfl)) rfl (ja_cons (je_ix (jx_seq rfl) (je_var 0) je_int) ja_nil)))) (jw_or (jt_not (jt_val (je_call (ok_is_kind Y) (hr.mono (by decide)) Y.g_is_kind Y.F_is_kind.kp Y.b_is_kind (pz_of (takes_of rfl rfl rfl rfl)) rfl (ja_cons (je_ix (jx_seq rfl) (je_var 0) je_int) ja_nil)))) (jw_or1 (jt_cmp (jo_eq (hu64 hr)) (je_ix (jx_seq rfl) (je_var 0) je_int) (je_ix (jx_seq rfl) (je_var 0) je_int)))))))) (jss_one (js_ret je_bl)) jss_nil)
  (jss_one (js_ret (je_and (je_call (ok_is_between Y) (hr.mono (by decide)) Y.g_is_between Y.F_is_between.kp Y.b_is_between (pz_of (takes_of rfl rfl rfl rfl)) rfl (ja_cons (je_ix (jx_seq rfl) (je_var 0) je_int) (ja_cons je_int (ja_cons (je_gint rfl Y.i_MOST_LOSS) ja_nil)))) (je_and (je_callB (jc_isi rfl) rfl Y.n_isinstance boot_isinstance (ja_cons (je_ix (jx_seq rfl) (je_var 0) je_int) (ja_cons (je_ty rfl Y.n_str boot_str) ja_nil))) (je_one (je_cmp (jo_in rfl (hu65 hr)) (je_ix (jx_seq rfl) (je_var 0) je_int) (je_glob rfl Y.g_RULES Y.r_RULES))))))))
theorem sc_are_kinds : FnScope ["kinds", "kind"] ["kinds"] (defScope s_are_kinds) := ⟨rfl, rfl, rfl, by decide +kernel, rfl, by decide +kernel, by decide +kernel⟩
theorem ok_are_kinds (Y : Fx w mg K) : FnOk P w K mg base (L2.CX P w) 3 Y.a_are_kinds Y.f_are_kinds ["kinds"] (SpC (ct K) c_are_kinds) :=
  def_ok (c := ct K) 1 2 0 Y.F_are_kinds sc_are_kinds rfl rfl fun cdv A outer s H E hr =>
  (jss_cons (js_if (JW.pt (jw_or (jt_not (jt_val (je_callB (jc_isi rfl) rfl Y.n_isinstance boot_isinstance (ja_cons (je_var 0) (ja_cons (je_ty rfl Y.n_tuple boot_tuple) ja_nil))))) (jw_or1 (jt_cmp (jo_eq (hu64 hr)) (je_var 0) (je_tup ja_nil))))) (jss_one (js_ret je_bl)) jss_nil)
  (jss_one (js_ret (je_and (je_cmp (jo_eq (hu64 hr)) (je_lc (own := [("kind", 1)]) rfl sc_are_kinds.nd (ji_any rfl (je_var 0)) (blkOk_by (own := [("kind", 1)]) (by kernel_rfl)) (fun _ _ _ _ _ => (jgo_name 1 sc_are_kinds.nd (by decide))) (fun _ _ _ _ _ => (jts_one (jt_not (jt_val (je_call (ok_is_kind Y) (hr.mono (by decide)) Y.g_is_kind Y.F_is_kind.kp Y.b_is_kind pz_0 rfl (ja_cons (je_var 1) ja_nil)))))) (fun _ _ _ _ _ => (je_var 1))) (je_lst ja_nil)) (je_one (je_cmp (jo_eq (hu64 hr)) (je_lenSetT rfl rfl Y.n_len rfl Y.n_set (je_var 0)) (je_callB (jc_len rfl) rfl Y.n_len boot_len (ja_cons (je_var 0) ja_nil))))))))
theorem sc_need_body : FnScope ["body"] ["body"] (defScope s_need_body) := ⟨rfl, rfl, rfl, by decide +kernel, rfl, by decide +kernel, by decide +kernel⟩
theorem ok_need_body (Y : Fx w mg K) : FnOk P w K mg base (L2.CX P w) 3 Y.a_need_body Y.f_need_body ["body"] (SpC (ct K) c_need_body) :=
  def_ok (c := ct K) 1 1 0 Y.F_need_body sc_need_body rfl rfl fun cdv A outer s H E hr =>
  (jss_one (js_if (jt_not (jt_val (je_call (ok_is_body Y) (hr.mono (by decide)) Y.g_is_body Y.F_is_body.kp Y.b_is_body (pz_of (takes_of rfl rfl rfl rfl)) rfl (ja_cons (je_var 0) ja_nil)))) (jss_one js_never) jss_nil))
theorem sc_need_ways : FnScope ["ways", "met", "at", "way"] ["ways"] (defScope s_need_ways) := ⟨rfl, rfl, rfl, by decide +kernel, rfl, by decide +kernel, by decide +kernel⟩
theorem ok_need_ways (Y : Fx w mg K) : FnOk P w K mg base (L2.CX P w) 4 Y.a_need_ways Y.f_need_ways ["ways"] (SpC (ct K) c_need_ways) :=
  def_ok (c := ct K) 1 4 0 Y.F_need_ways sc_need_ways rfl rfl fun cdv A outer s H E hr =>
  (jss_cons (js_set 1 sc_need_ways.nd je_dt0)
  (jss_one (js_for (passes_of rfl) rfl (ji_enum2 rfl Y.n_enumerate (ja_cons (je_var 0) ja_nil)) (jg_tup rfl (jgs_name 2 sc_need_ways.nd (jgs_name 3 sc_need_ways.nd jgs_nil))) (jss_cons (js_if (JW.pt (jw_or (jt_cmp jo_ge (je_var 2) (je_gint rfl Y.i_MOST_WAYS)) (jw_or (jt_not (jt_val (je_call (ok_is_way Y) (hr.mono (by decide)) Y.g_is_way Y.F_is_way.kp Y.b_is_way (pz_of (takes_of rfl rfl rfl rfl)) rfl (ja_cons (je_var 3) ja_nil)))) (jw_or1 (jt_cmp (jo_in rfl (hu65 hr)) (je_sl jsl (je_var 3) jp_none (jp_some je_int)) (je_var 1)))))) (jss_one js_never) jss_nil)
  (jss_one (js_asg je_bl (jg_sub (jset (hu1 hr)) (je_var 1) (je_sl jsl (je_var 3) jp_none (jp_some je_int)))))))))
theorem sc_need_kinds : FnScope ["kinds"] ["kinds"] (defScope s_need_kinds) := ⟨rfl, rfl, rfl, by decide +kernel, rfl, by decide +kernel, by decide +kernel⟩
theorem ok_need_kinds (Y : Fx w mg K) : FnOk P w K mg base (L2.CX P w) 4 Y.a_need_kinds Y.f_need_kinds ["kinds"] (SpC (ct K) c_need_kinds) :=
  def_ok (c := ct K) 1 1 0 Y.F_need_kinds sc_need_kinds rfl rfl fun cdv A outer s H E hr =>
  (jss_one (js_if (jt_not (jt_val (je_call (ok_are_kinds Y) (hr.mono (by decide)) Y.g_are_kinds Y.F_are_kinds.kp Y.b_are_kinds (pz_of (takes_of rfl rfl rfl rfl)) rfl (ja_cons (je_var 0) ja_nil)))) (jss_one js_never) jss_nil))
theorem sc_made : FnScope ["ways", "kinds", "body"] ["ways", "kinds", "body"] (defScope s_made) := ⟨rfl, rfl, rfl, by decide +kernel, rfl, by decide +kernel, by decide +kernel⟩
theorem ok_made (Y : Fx w mg K) : FnOk P w K mg base (L2.CX P w) 5 Y.a_made Y.f_made ["ways", "kinds", "body"] (SpC (ct K) c_made) :=
  def_okA (c := ct K) 3 3 Y.F_made sc_made rfl rfl fun cdv A outer s H E hr =>
  (jss_cons (js_expr (je_call (ok_need_ways Y) (hr.mono (by decide)) Y.g_need_ways Y.F_need_ways.kp Y.b_need_ways (pz_of (takes_of rfl rfl rfl rfl)) rfl (ja_cons (je_var 0) ja_nil)))
  (jss_cons (js_expr (je_call (ok_need_kinds Y) (hr.mono (by decide)) Y.g_need_kinds Y.F_need_kinds.kp Y.b_need_kinds (pz_of (takes_of rfl rfl rfl rfl)) rfl (ja_cons (je_var 1) ja_nil)))
  (jss_cons (js_expr (je_call (ok_need_body Y) (hr.mono (by decide)) Y.g_need_body Y.F_need_body.kp Y.b_need_body (pz_of (takes_of rfl rfl rfl rfl)) rfl (ja_cons (je_var 2) ja_nil)))
  (jss_one (js_ret (je_call (ok_along Y) (hr.mono (by decide)) Y.g_along Y.F_along.kp Y.b_along (pz_of (takes_of rfl rfl rfl rfl)) rfl (ja_cons (je_var 0) (ja_cons (je_var 1) (ja_cons (je_var 2) ja_nil)))))))))
theorem sc_law_word : FnScope ["_law_work", "e", "_law_kinds", "_law_words", "_law_word_here"] ["_law_work"] (defScope s_law_word) := ⟨rfl, rfl, rfl, by decide +kernel, rfl, by decide +kernel, by decide +kernel⟩
theorem ok_law_word (Y : Fx w mg K) {act : D → Hs → R D} (hact : OkAct (ct K) P w K mg base 5 act) : FnOk P w K mg base (L2.CX P w) 7 Y.a_law_word Y.f_law_word ["_law_work"] (SpC (ct K) (c_law_word act)) :=
  def_ok (c := ct K) 1 5 0 Y.F_law_word sc_law_word rfl rfl fun cdv A outer s H E hr =>
  (jss_cons (js_try_as rfl rfl sc_law_word.nd rfl rfl ⟨rfl, by decide, .inl Y.g_ClipError⟩ (takes_of rfl rfl rfl rfl) Y.xm_ClipError (fun _ _ _ tk po => (jss_one (js_expr (hact _ _ 0 "_law_work" _ _ rfl rfl rfl rfl rfl tk (hr.mono (by decide)) rfl (.inl rfl) (by decide) (by decide))))) (fun y hy a oe pn hz hf => (jss_cons (js_set 2 sc_law_word.nd (je_lstO (ja_cons (je_callB (jc_isE (Y.ec_E y hy) hz hf (Y.is_E y hy) (Y.iv_E y hy)) rfl Y.n_isinstance boot_isinstance (ja_cons (je_var 1) (ja_cons (je_glob (d := .g "BadWays") rfl Y.g_BadWays (fun _ _ => rfl)) ja_nil))) (ja_cons (je_callB (jc_isE (Y.ec_E y hy) hz hf (Y.is_E y hy) (Y.iv_E y hy)) rfl Y.n_isinstance boot_isinstance (ja_cons (je_var 1) (ja_cons (je_glob (d := .g "BadSteps") rfl Y.g_BadSteps (fun _ _ => rfl)) ja_nil))) (ja_cons (je_callB (jc_isE (Y.ec_E y hy) hz hf (Y.is_E y hy) (Y.iv_E y hy)) rfl Y.n_isinstance boot_isinstance (ja_cons (je_var 1) (ja_cons (je_glob (d := .g "BadLog") rfl Y.g_BadLog (fun _ _ => rfl)) ja_nil))) (ja_cons (je_callB (jc_isE (Y.ec_E y hy) hz hf (Y.is_E y hy) (Y.iv_E y hy)) rfl Y.n_isinstance boot_isinstance (ja_cons (je_var 1) (ja_cons (je_glob (d := .g "BadText") rfl Y.g_BadText (fun _ _ => rfl)) ja_nil))) ja_nil))))))
  (jss_cons (js_set 2 sc_law_word.nd (je_bin jo_addO (je_var 2) (je_lst (ja_cons (je_callB (jc_isE (Y.ec_E y hy) hz hf (Y.is_E y hy) (Y.iv_E y hy)) rfl Y.n_isinstance boot_isinstance (ja_cons (je_var 1) (ja_cons (je_glob (d := .g "BadKind") rfl Y.g_BadKind (fun _ _ => rfl)) ja_nil))) (ja_cons (je_callB (jc_isE (Y.ec_E y hy) hz hf (Y.is_E y hy) (Y.iv_E y hy)) rfl Y.n_isinstance boot_isinstance (ja_cons (je_var 1) (ja_cons (je_glob (d := .g "BadKinds") rfl Y.g_BadKinds (fun _ _ => rfl)) ja_nil))) (ja_cons (je_callB (jc_isE (Y.ec_E y hy) hz hf (Y.is_E y hy) (Y.iv_E y hy)) rfl Y.n_isinstance boot_isinstance (ja_cons (je_var 1) (ja_cons (je_glob (d := .g "BadBody") rfl Y.g_BadBody (fun _ _ => rfl)) ja_nil))) ja_nil))))))
  (jss_cons (js_set 2 sc_law_word.nd (je_bin jo_addO (je_var 2) (je_lst (ja_cons (je_callB (jc_isE (Y.ec_E y hy) hz hf (Y.is_E y hy) (Y.iv_E y hy)) rfl Y.n_isinstance boot_isinstance (ja_cons (je_var 1) (ja_cons (je_glob (d := .g "BadRoute") rfl Y.g_BadRoute (fun _ _ => rfl)) ja_nil))) (ja_cons (je_callB (jc_isE (Y.ec_E y hy) hz hf (Y.is_E y hy) (Y.iv_E y hy)) rfl Y.n_isinstance boot_isinstance (ja_cons (je_var 1) (ja_cons (je_glob (d := .g "BadMost") rfl Y.g_BadMost (fun _ _ => rfl)) ja_nil))) (ja_cons (je_callB (jc_isE (Y.ec_E y hy) hz hf (Y.is_E y hy) (Y.iv_E y hy)) rfl Y.n_isinstance boot_isinstance (ja_cons (je_var 1) (ja_cons (je_glob (d := .g "BadOffers") rfl Y.g_BadOffers (fun _ _ => rfl)) ja_nil))) ja_nil))))))
  (jss_cons (js_set 2 sc_law_word.nd (je_bin jo_addO (je_var 2) (je_lst (ja_cons (je_callB (jc_isE (Y.ec_E y hy) hz hf (Y.is_E y hy) (Y.iv_E y hy)) rfl Y.n_isinstance boot_isinstance (ja_cons (je_var 1) (ja_cons (je_glob (d := .g "NoProgram") rfl Y.g_NoProgram (fun _ _ => rfl)) ja_nil))) (ja_cons (je_callB (jc_isE (Y.ec_E y hy) hz hf (Y.is_E y hy) (Y.iv_E y hy)) rfl Y.n_isinstance boot_isinstance (ja_cons (je_var 1) (ja_cons (je_glob (d := .g "NoClip") rfl Y.g_NoClip (fun _ _ => rfl)) ja_nil))) (ja_cons (je_callB (jc_isE (Y.ec_E y hy) hz hf (Y.is_E y hy) (Y.iv_E y hy)) rfl Y.n_isinstance boot_isinstance (ja_cons (je_var 1) (ja_cons (je_glob (d := .g "NotOffered") rfl Y.g_NotOffered (fun _ _ => rfl)) ja_nil))) ja_nil))))))
  (jss_cons (js_expr (je_meth PySem.F.plainAttrs_list PySem.F.slot_list_append PySem.F.type_list_append jm_append isLst_ty (je_var 2) (ja_cons (je_callB (jc_isE (Y.ec_E y hy) hz hf (Y.is_E y hy) (Y.iv_E y hy)) rfl Y.n_isinstance boot_isinstance (ja_cons (je_var 1) (ja_cons (je_glob (d := .g "Full") rfl Y.g_Full (fun _ _ => rfl)) ja_nil))) ja_nil)))
  (jss_cons (js_if (JW.pt (jw_or (jt_cmp (jo_ne (hus64 hr)) (je_meth PySem.F.plainAttrs_list PySem.F.slot_list_count PySem.F.type_list_count jm_countB isLst_ty (je_var 2) (ja_cons je_bl ja_nil)) je_int) (jw_or1 (jt_not (jt_val (je_callB (jc_isE (Y.ec_E y hy) hz hf (Y.is_E y hy) (Y.iv_E y hy)) rfl Y.n_isinstance boot_isinstance (ja_cons (je_var 1) (ja_cons (je_ty rfl Y.n_ValueError rfl) ja_nil)))))))) (jss_one (js_ret (je_tup (ja_cons je_str (ja_cons je_int ja_nil))))) jss_nil)
  (jss_cons (js_set 3 sc_law_word.nd (je_lst (ja_cons je_str (ja_cons je_str (ja_cons je_str (ja_cons je_str (ja_cons je_str (ja_cons je_str (ja_cons je_str (ja_cons je_str (ja_cons je_str (ja_cons je_str (ja_cons je_str ja_nil)))))))))))))
  (jss_cons (js_set 4 sc_law_word.nd (je_ix (jx_seq rfl) (je_bin jo_add (je_var 3) (je_lst (ja_cons je_str (ja_cons je_str (ja_cons je_str ja_nil))))) (je_meth PySem.F.plainAttrs_list PySem.F.slot_list_index PySem.F.type_list_index jm_indexB isLst_ty (je_var 2) (ja_cons je_bl ja_nil))))
  (jss_cons (js_if (jt_cmp (jo_in rfl (hus65 hr)) (je_var 4) (je_tup (ja_cons je_str (ja_cons je_str (ja_cons je_str ja_nil))))) (jss_one (js_ret (je_tup (ja_cons (je_var 4) (ja_cons je_bad ja_nil))))) jss_nil)
  (jss_one (js_ret (je_tup (ja_cons (je_var 4) (ja_cons (je_if (jt_cmp (jo_eq (hus64 hr)) (je_var 4) je_str) je_bad je_int) ja_nil))))))))))))))))
  (jss_one (js_ret je_non)))
theorem sc_law_alike : FnScope ["_law_found", "_law_due", "_law_k"] ["_law_found", "_law_due"] (defScope s_law_alike) := ⟨rfl, rfl, rfl, by decide +kernel, rfl, by decide +kernel, by decide +kernel⟩
theorem ok_law_alike (Y : Fx w mg K) : ∀ n : Nat, FnOk P w K mg base (L2.CX P w) (0 + n + 1) Y.a_law_alike Y.f_law_alike ["_law_found", "_law_due"] (SpC (ct K) (c_law_alike n))
  | 0 => def_ok (c := ct K) 2 3 0 Y.F_law_alike sc_law_alike rfl rfl fun cdv A outer s H E hr => jss_never
  | n + 1 => by
    have ih := ok_law_alike Y n
    exact def_ok (c := ct K) 2 3 0 Y.F_law_alike sc_law_alike rfl rfl fun cdv A outer s H E hr =>
  (jss_cons (js_if (jt_cmp jo_isN (je_var 1) je_non) (jss_one (js_ret (je_cmp jo_isN (je_var 0) je_non))) jss_nil)
  (jss_cons (js_if (jt_val (je_callB (jc_isi rfl) rfl Y.n_isinstance boot_isinstance (ja_cons (je_var 1) (ja_cons (je_ty rfl Y.n_bool boot_bool) ja_nil)))) (jss_one (js_ret (je_and (je_callB (jc_isi rfl) rfl Y.n_isinstance boot_isinstance (ja_cons (je_var 0) (ja_cons (je_ty rfl Y.n_bool boot_bool) ja_nil))) (je_one (je_cmp (jo_eq (hu64 hr)) (je_var 0) (je_var 1)))))) jss_nil)
  (jss_cons (js_if (jt_val (je_callB (jc_isi rfl) rfl Y.n_isinstance boot_isinstance (ja_cons (je_var 1) (ja_cons (je_ty rfl Y.n_int boot_int) ja_nil)))) (jss_one (js_ret (je_and (je_callB (jc_isi rfl) rfl Y.n_isinstance boot_isinstance (ja_cons (je_var 0) (ja_cons (je_ty rfl Y.n_int boot_int) ja_nil))) (je_and (je_not (je_callB (jc_isi rfl) rfl Y.n_isinstance boot_isinstance (ja_cons (je_var 0) (ja_cons (je_ty rfl Y.n_bool boot_bool) ja_nil)))) (je_one (je_cmp (jo_eq (hu64 hr)) (je_var 0) (je_var 1))))))) jss_nil)
  (jss_cons (js_if (jt_val (je_callB (jc_isi rfl) rfl Y.n_isinstance boot_isinstance (ja_cons (je_var 1) (ja_cons (je_ty rfl Y.n_str boot_str) ja_nil)))) (jss_one (js_ret (je_and (je_callB (jc_isi rfl) rfl Y.n_isinstance boot_isinstance (ja_cons (je_var 0) (ja_cons (je_ty rfl Y.n_str boot_str) ja_nil))) (je_one (je_cmp (jo_eq (hu64 hr)) (je_var 0) (je_var 1)))))) jss_nil)
  (jss_cons (js_if (JW.pt (jw_or (jt_cmp (jo_ne (hu64 hr)) (je_callB (jc_isi rfl) rfl Y.n_isinstance boot_isinstance (ja_cons (je_var 1) (ja_cons (je_ty rfl Y.n_tuple boot_tuple) ja_nil))) (je_callB (jc_isi rfl) rfl Y.n_isinstance boot_isinstance (ja_cons (je_var 0) (ja_cons (je_ty rfl Y.n_tuple boot_tuple) ja_nil)))) (jw_or1 (jt_cmp (jo_ne (hu64 hr)) (je_callB (jc_isi rfl) rfl Y.n_isinstance boot_isinstance (ja_cons (je_var 1) (ja_cons (je_ty rfl Y.n_list boot_list) ja_nil))) (je_callB (jc_isi rfl) rfl Y.n_isinstance boot_isinstance (ja_cons (je_var 0) (ja_cons (je_ty rfl Y.n_list boot_list) ja_nil))))))) (jss_one (js_ret je_bl)) jss_nil)
  (jss_cons (js_if (jt_cmp (jo_ne (hu64 hr)) (je_callB (jc_len rfl) rfl Y.n_len boot_len (ja_cons (je_var 0) ja_nil)) (je_callB (jc_len rfl) rfl Y.n_len boot_len (ja_cons (je_var 1) ja_nil))) (jss_one (js_ret je_bl)) jss_nil)
  (jss_one (js_ret (je_callB (jc_all rfl) rfl Y.n_all boot_all (ja_cons (je_lc (own := [("_law_k", 2)]) rfl sc_law_alike.nd (ji_rng1 rfl Y.n_range (ja_cons (je_callB (jc_len rfl) rfl Y.n_len boot_len (ja_cons (je_var 1) ja_nil)) ja_nil)) (blkOk_by (own := [("_law_k", 2)]) (by kernel_rfl)) (fun _ _ _ _ _ => (jgo_name 2 sc_law_alike.nd (by decide))) (fun _ _ _ _ _ => jts_nil) (fun _ _ _ _ _ => (je_call ih hr Y.g_law_alike Y.F_law_alike.kp Y.b_law_alike pz_0 rfl (ja_cons (je_ix (jx_seq rfl) (je_var 0) (je_var 2)) (ja_cons (je_ix (jx_seq rfl) (je_var 1) (je_var 2)) ja_nil))))) ja_nil))))))))))
theorem sc_law_are : FnScope ["_law_works", "_law_word_here", "_law_work"] ["_law_works", "_law_word_here"] (defScope s_law_are) := ⟨rfl, rfl, rfl, by decide +kernel, rfl, by decide +kernel, by decide +kernel⟩
theorem ok_law_are (Y : Fx w mg K) {act : D → Hs → R D} (hact : OkAct (ct K) P w K mg base 5 act) : FnOk P w K mg base (L2.CX P w) 8 Y.a_law_are Y.f_law_are ["_law_works", "_law_word_here"] (SpC (ct K) (c_law_are act)) :=
  def_ok (c := ct K) 2 3 0 Y.F_law_are sc_law_are rfl rfl fun cdv A outer s H E hr =>
  (jss_one (js_ret (je_cmp (jo_eq (hu64 hr)) (je_lc (own := [("_law_work", 2)]) rfl sc_law_are.nd (ji_any rfl (je_var 0)) (blkOk_by (own := [("_law_work", 2)]) (by kernel_rfl)) (fun _ _ _ _ _ => (jgo_name 2 sc_law_are.nd (by decide))) (fun _ _ _ _ _ => (jts_one (jt_cmp (jo_ne (hu64 hr)) (je_call (ok_law_word Y hact) (hr.mono (by decide)) Y.g_law_word Y.F_law_word.kp Y.b_law_word pz_0 rfl (ja_cons (je_var 2) ja_nil)) (je_tup (ja_cons (je_var 1) (ja_cons je_int ja_nil)))))) (fun _ _ _ _ _ => (je_var 2))) (je_lst ja_nil))))
theorem sc_law : FnScope ["_law_script", "_law_d", "_law_turn", "_law_ways_here", "_law_row", "_law_body_here", "_law_pairs", "_law_lacks", "_law_due", "_law_way", "_law_k"] ["_law_script"] (defScope s_law) := ⟨rfl, rfl, rfl, by decide +kernel, rfl, by decide +kernel, by decide +kernel⟩
theorem ok_law (Y : Fx w mg K) (TB : LamX.TabB base mg (He.cT K ("law", none)).1 (ct K).P0) (hp : ∀ ns : List Int, ns.length ≤ 63 → ∃ hs', lawT "law.<locals>.<lambda>" 11 lawM1 lawM2 [.rl (ns.map D.int)] = .ok (.bl true) hs') : FnOk P w K mg base (L2.CX P w) 9 Y.a_law Y.f_law ["_law_script"] (spTrueT (ct K) 63) :=
  def_law (c := ct K) (p := ("law", none)) Y.F_law Y.e_law sc_law rfl rfl rfl (fun cdv hcv A outer s H E hr => ⟨(js_set 1 sc_law.nd (je_call (ok_law_dice Y) (hr.mono (by decide)) Y.g_law_dice Y.F_law_dice.kp Y.b_law_dice (pz_of (takes_of rfl rfl rfl rfl)) rfl (ja_cons (je_var 0) (ja_cons je_int ja_nil)))),
  (jss_cons (js_for (passes_of rfl) rfl (ji_rng1 rfl Y.n_range (ja_cons je_int ja_nil)) (jg_name 2 sc_law.nd) (jss_cons (js_set 3 sc_law.nd (je_call (ok_law_ways Y) (hr.mono (by decide)) Y.g_law_ways Y.F_law_ways.kp Y.b_law_ways (pz_of (takes_of rfl rfl rfl rfl)) rfl (ja_cons (je_var 1) ja_nil)))
  (jss_cons (js_set 4 sc_law.nd (je_call (ok_law_walk Y) (hr.mono (by decide)) Y.g_law_walk Y.F_law_walk.kp Y.b_law_walk (pz_of (takes_of rfl rfl rfl rfl)) rfl (ja_cons (je_var 1) (ja_cons (je_var 3) ja_nil))))
  (jss_cons (js_set 5 sc_law.nd (je_call (ok_law_body Y) (hr.mono (by decide)) Y.g_law_body Y.F_law_body.kp Y.b_law_body (pz_of (takes_of rfl rfl rfl rfl)) rfl (ja_cons (je_var 1) ja_nil)))
  (jss_cons (js_set 6 sc_law.nd (je_lc (own := [("_law_way", 9)]) rfl sc_law.nd (ji_any rfl (je_var 3)) (blkOk_by (own := [("_law_way", 9)]) (by kernel_rfl)) (fun _ _ _ _ _ => (jgo_name 9 sc_law.nd (by decide))) (fun _ _ _ _ _ => jts_nil) (fun _ _ _ _ _ => (je_sl jsl (je_var 9) jp_none (jp_some je_int)))))
  (jss_cons (js_setLc (own := [("_law_k", 10)]) 7 rfl sc_law.nd (ji_rng2 rfl Y.n_range (ja_cons je_int (ja_cons (je_callB (jc_len rfl) rfl Y.n_len boot_len (ja_cons (je_var 4) ja_nil)) ja_nil))) (blkOk_by (own := [("_law_k", 10)]) (by kernel_rfl)) (fun _ _ _ _ _ => (jgo_name 10 sc_law.nd (by decide))) (fun _ _ _ _ _ => (jts_one (jt_cmp (jo_notIn rfl (hu65 hr)) (je_tup (ja_cons (je_ix (jx_seq rfl) (je_var 4) (je_bin jo_sub (je_var 10) je_int)) (ja_cons (je_ix (jx_seq rfl) (je_var 4) (je_var 10)) ja_nil))) (je_var 6)))) (fun _ _ _ _ _ => (je_var 10)) (sw_true rfl rfl rfl (by decide +kernel)))
  (jss_one (js_if (jt_cmp (jo_ne (hu64 hr)) (je_var 7) (je_lst ja_nil)) (jss_one (js_if (jt_not (jt_val (by
    refine je_lams (kk := 5) (q := "law.<locals>.<lambda>") (ls := [⟨_, _, _, _, (eArgs c_made (aCons (eVar 3) (aCons (eVar 4) (aCons (eVar 5) aNil))))⟩]) (fun B act h => ok_law_are Y h) (hr.mono (by decide)) Y.g_law_are Y.F_law_are.kp Y.b_law_are rfl (pz_of (takes_of rfl rfl rfl rfl)) rfl (fun _ => rfl) TB hcv rfl ?_ rfl
    refine (lms_cons ?_ lms_nil)
    · exact ⟨LamX.lamS_by (by kernel_rfl), rfl, fun _ _ _ _ => rfl, fun B A outer s H E f cc hr => (je_call (ok_made Y) (hr.mono (j := 5) (by decide)) Y.g_made Y.F_made.kp Y.b_made (pz_of (takes_of rfl rfl rfl rfl)) rfl (ja_cons (je_var 3) (ja_cons (je_var 4) (ja_cons (je_var 5) ja_nil))))⟩))) (jss_one (js_ret je_bl)) jss_nil)) (jss_cons (js_set 8 sc_law.nd (je_call (ok_law_made Y) (hr.mono (by decide)) Y.g_law_made Y.F_law_made.kp Y.b_law_made (pz_of (takes_of rfl rfl rfl rfl)) rfl (ja_cons (je_var 3) (ja_cons (je_var 4) (ja_cons (je_var 5) ja_nil)))))
  (jss_one (js_if (JW.pt (jw_or (jt_not (jt_val (je_call (ok_law_alike Y 7) (hr.mono (by decide)) Y.g_law_alike Y.F_law_alike.kp Y.b_law_alike (pz_of (takes_of rfl rfl rfl rfl)) rfl (ja_cons (je_call (ok_made Y) (hr.mono (by decide)) Y.g_made Y.F_made.kp Y.b_made (pz_of (takes_of rfl rfl rfl rfl)) rfl (ja_cons (je_var 3) (ja_cons (je_var 4) (ja_cons (je_var 5) ja_nil)))) (ja_cons (je_var 8) ja_nil))))) (jw_or1 (jt_not (jt_val (je_call (ok_law_alike Y 7) (hr.mono (by decide)) Y.g_law_alike Y.F_law_alike.kp Y.b_law_alike (pz_of (takes_of rfl rfl rfl rfl)) rfl (ja_cons (je_call (ok_made Y) (hr.mono (by decide)) Y.g_made Y.F_made.kp Y.b_made (pz_of (takes_of rfl rfl rfl rfl)) rfl (ja_cons (je_callTy (jc_list rfl) rfl Y.n_list boot_list (ja_cons (je_var 3) ja_nil)) (ja_cons (je_var 4) (ja_cons (je_var 5) ja_nil)))) (ja_cons (je_var 8) ja_nil)))))))) (jss_one (js_ret je_bl)) jss_nil)))))))))))
  (jss_one (js_ret je_bl)))⟩) hp
end
end Mm
namespace Mm
open PySem PySem.Spec PyProof.Rows L2
theorem exE_y {K : PySem.W.Frag} (h : ex K = true) (y : Str) (hy : y ∈ raiL) : ((errsH.all fun z => decide (PySem.W.kitOne K (.ref (He.ga K y)) (.ref (He.ga K z)) = some (decide (z = y)))) && (decide (PySem.W.kitOne K (.ref (He.ga K y)) (.type "ValueError") = some true) &&
  (decide (PySem.W.findIn K (.ref (He.ga K y)) "__getattribute__" = some (some (.builtin "BaseException.__getattribute__"))) && (decide (PySem.W.findIn K (.ref (He.ga K y)) "__getattr__" = some none) && (decide (PySem.W.subIn K (.ref (He.ga K y)) (.type "BaseException") = some true) && (PySem.W.hasDictIn K (He.ga K y) && (decide (PySem.W.findIn K (.ref (He.ga K y)) "__class__" = some (some (.builtin "object.__class__"))) &&
  (decide (PySem.W.specialIn K (.builtin "object.__class__") "__get__" = some (some (.builtin "getset_descriptor.__get__"))) && (decide (PySem.W.takesIn K (.builtin "object.__class__") = some true) && decide (PySem.W.mroIn K (He.ga K y) (.type "object") = some true)))))))))) = true :=
  List.all_eq_true.mp (show exE K = true from (Bool.and_eq_true_iff.mp (show (exE K && _) = true from h)).1) y hy
theorem ga_inj {mg : PySem.Str → Option Value} {x : PySem.Str} {a b : Addr} (h : mg x = some (.ref a)) (e : mg x = some (.ref b)) : a = b := by
  rw [h] at e; cases e; rfl
def facts {w : World} {K : PySem.W.Frag} {h : Heap} {mg : PySem.Str → Option Value} (X : K.In h) (G : h.Ns mainGlobals mg) (c : He.SaysX fa fn ts [("law", none)] ex w h K) : Fx w mg K :=
  have cd := c.t.d
  let p_is_between := cd.def_ 0 (d := d_is_between) rfl
  let p_is_kind := cd.def_ 1 (d := d_is_kind) rfl
  let p_is_body := cd.def_ 2 (d := d_is_body) rfl
  let p_is_way := cd.def_ 3 (d := d_is_way) rfl
  let p_need_ways := cd.def_ 4 (d := d_need_ways) rfl
  let p_are_kinds := cd.def_ 5 (d := d_are_kinds) rfl
  let p_need_kinds := cd.def_ 6 (d := d_need_kinds) rfl
  let p_need_body := cd.def_ 7 (d := d_need_body) rfl
  let p_turned := cd.def_ 8 (d := d_turned) rfl
  let p_along := cd.def_ 9 (d := d_along) rfl
  let p_made := cd.def_ 10 (d := d_made) rfl
  let p_law_dice := cd.def_ 11 (d := d_law_dice) rfl
  let p_law_off := cd.def_ 12 (d := d_law_off) rfl
  let p_law_alike := cd.def_ 13 (d := d_law_alike) rfl
  let p_law_word := cd.def_ 14 (d := d_law_word) rfl
  let p_law_are := cd.def_ 15 (d := d_law_are) rfl
  let p_law_ways := cd.def_ 16 (d := d_law_ways) rfl
  let p_law_body := cd.def_ 17 (d := d_law_body) rfl
  let p_law_turned := cd.def_ 18 (d := d_law_turned) rfl
  let p_law_made := cd.def_ 19 (d := d_law_made) rfl
  let p_law_walk := cd.def_ 20 (d := d_law_walk) rfl
  let p_law := cd.def_ 21 (d := d_law) rfl
  {
    a_is_between := He.fAd K d_is_between.at_
    f_is_between := Classical.choose p_is_between
    F_is_between := Classical.choose_spec p_is_between
    g_is_between := He.glo_ok X G (cd.fact 0 (f := .glo "is_between") rfl)
    b_is_between := (Classical.choose_spec p_is_between).bindsN fun _ _ _ _ _ _ us hl => match us, hl with | [_, _, _], _ => rfl
    a_is_kind := He.fAd K d_is_kind.at_
    f_is_kind := Classical.choose p_is_kind
    F_is_kind := Classical.choose_spec p_is_kind
    g_is_kind := He.glo_ok X G (cd.fact 1 (f := .glo "is_kind") rfl)
    b_is_kind := (Classical.choose_spec p_is_kind).bindsN fun _ _ _ _ _ _ us hl => match us, hl with | [_], _ => rfl
    a_is_body := He.fAd K d_is_body.at_
    f_is_body := Classical.choose p_is_body
    F_is_body := Classical.choose_spec p_is_body
    g_is_body := He.glo_ok X G (cd.fact 2 (f := .glo "is_body") rfl)
    b_is_body := (Classical.choose_spec p_is_body).bindsN fun _ _ _ _ _ _ us hl => match us, hl with | [_], _ => rfl
    a_is_way := He.fAd K d_is_way.at_
    f_is_way := Classical.choose p_is_way
    F_is_way := Classical.choose_spec p_is_way
    g_is_way := He.glo_ok X G (cd.fact 3 (f := .glo "is_way") rfl)
    b_is_way := (Classical.choose_spec p_is_way).bindsN fun _ _ _ _ _ _ us hl => match us, hl with | [_], _ => rfl
    a_need_ways := He.fAd K d_need_ways.at_
    f_need_ways := Classical.choose p_need_ways
    F_need_ways := Classical.choose_spec p_need_ways
    g_need_ways := He.glo_ok X G (cd.fact 4 (f := .glo "need_ways") rfl)
    b_need_ways := (Classical.choose_spec p_need_ways).bindsN fun _ _ _ _ _ _ us hl => match us, hl with | [_], _ => rfl
    a_are_kinds := He.fAd K d_are_kinds.at_
    f_are_kinds := Classical.choose p_are_kinds
    F_are_kinds := Classical.choose_spec p_are_kinds
    g_are_kinds := He.glo_ok X G (cd.fact 5 (f := .glo "are_kinds") rfl)
    b_are_kinds := (Classical.choose_spec p_are_kinds).bindsN fun _ _ _ _ _ _ us hl => match us, hl with | [_], _ => rfl
    a_need_kinds := He.fAd K d_need_kinds.at_
    f_need_kinds := Classical.choose p_need_kinds
    F_need_kinds := Classical.choose_spec p_need_kinds
    g_need_kinds := He.glo_ok X G (cd.fact 6 (f := .glo "need_kinds") rfl)
    b_need_kinds := (Classical.choose_spec p_need_kinds).bindsN fun _ _ _ _ _ _ us hl => match us, hl with | [_], _ => rfl
    a_need_body := He.fAd K d_need_body.at_
    f_need_body := Classical.choose p_need_body
    F_need_body := Classical.choose_spec p_need_body
    g_need_body := He.glo_ok X G (cd.fact 7 (f := .glo "need_body") rfl)
    b_need_body := (Classical.choose_spec p_need_body).bindsN fun _ _ _ _ _ _ us hl => match us, hl with | [_], _ => rfl
    a_turned := He.fAd K d_turned.at_
    f_turned := Classical.choose p_turned
    F_turned := Classical.choose_spec p_turned
    g_turned := He.glo_ok X G (cd.fact 8 (f := .glo "turned") rfl)
    b_turned := (Classical.choose_spec p_turned).bindsN fun _ _ _ _ _ _ us hl => match us, hl with | [_, _], _ => rfl
    a_along := He.fAd K d_along.at_
    f_along := Classical.choose p_along
    F_along := Classical.choose_spec p_along
    g_along := He.glo_ok X G (cd.fact 9 (f := .glo "along") rfl)
    b_along := (Classical.choose_spec p_along).bindsN fun _ _ _ _ _ _ us hl => match us, hl with | [_, _, _], _ => rfl
    a_made := He.fAd K d_made.at_
    f_made := Classical.choose p_made
    F_made := Classical.choose_spec p_made
    g_made := He.glo_ok X G (cd.fact 10 (f := .glo "made") rfl)
    b_made := (Classical.choose_spec p_made).bindsN fun _ _ _ _ _ _ us hl => match us, hl with | [_, _, _], _ => rfl
    a_law_dice := He.fAd K d_law_dice.at_
    f_law_dice := Classical.choose p_law_dice
    F_law_dice := Classical.choose_spec p_law_dice
    g_law_dice := He.glo_ok X G (cd.fact 11 (f := .glo "_law_dice") rfl)
    b_law_dice := (Classical.choose_spec p_law_dice).bindsN fun _ _ _ _ _ _ us hl => match us, hl with | [_, _], _ => rfl
    a_law_off := He.fAd K d_law_off.at_
    f_law_off := Classical.choose p_law_off
    F_law_off := Classical.choose_spec p_law_off
    g_law_off := He.glo_ok X G (cd.fact 12 (f := .glo "_law_off") rfl)
    b_law_off := (Classical.choose_spec p_law_off).bindsN fun _ _ _ _ _ _ us hl => match us, hl with | [_, _], _ => rfl
    a_law_alike := He.fAd K d_law_alike.at_
    f_law_alike := Classical.choose p_law_alike
    F_law_alike := Classical.choose_spec p_law_alike
    g_law_alike := He.glo_ok X G (cd.fact 13 (f := .glo "_law_alike") rfl)
    b_law_alike := (Classical.choose_spec p_law_alike).bindsN fun _ _ _ _ _ _ us hl => match us, hl with | [_, _], _ => rfl
    a_law_word := He.fAd K d_law_word.at_
    f_law_word := Classical.choose p_law_word
    F_law_word := Classical.choose_spec p_law_word
    g_law_word := He.glo_ok X G (cd.fact 14 (f := .glo "_law_word") rfl)
    b_law_word := (Classical.choose_spec p_law_word).bindsN fun _ _ _ _ _ _ us hl => match us, hl with | [_], _ => rfl
    a_law_are := He.fAd K d_law_are.at_
    f_law_are := Classical.choose p_law_are
    F_law_are := Classical.choose_spec p_law_are
    g_law_are := He.glo_ok X G (cd.fact 15 (f := .glo "_law_are") rfl)
    b_law_are := (Classical.choose_spec p_law_are).bindsN fun _ _ _ _ _ _ us hl => match us, hl with | [_, _], _ => rfl
    a_law_ways := He.fAd K d_law_ways.at_
    f_law_ways := Classical.choose p_law_ways
    F_law_ways := Classical.choose_spec p_law_ways
    g_law_ways := He.glo_ok X G (cd.fact 16 (f := .glo "_law_ways") rfl)
    b_law_ways := (Classical.choose_spec p_law_ways).bindsN fun _ _ _ _ _ _ us hl => match us, hl with | [_], _ => rfl
    a_law_body := He.fAd K d_law_body.at_
    f_law_body := Classical.choose p_law_body
    F_law_body := Classical.choose_spec p_law_body
    g_law_body := He.glo_ok X G (cd.fact 17 (f := .glo "_law_body") rfl)
    b_law_body := (Classical.choose_spec p_law_body).bindsN fun _ _ _ _ _ _ us hl => match us, hl with | [_], _ => rfl
    a_law_turned := He.fAd K d_law_turned.at_
    f_law_turned := Classical.choose p_law_turned
    F_law_turned := Classical.choose_spec p_law_turned
    g_law_turned := He.glo_ok X G (cd.fact 18 (f := .glo "_law_turned") rfl)
    b_law_turned := (Classical.choose_spec p_law_turned).bindsN fun _ _ _ _ _ _ us hl => match us, hl with | [_, _], _ => rfl
    a_law_made := He.fAd K d_law_made.at_
    f_law_made := Classical.choose p_law_made
    F_law_made := Classical.choose_spec p_law_made
    g_law_made := He.glo_ok X G (cd.fact 19 (f := .glo "_law_made") rfl)
    b_law_made := (Classical.choose_spec p_law_made).bindsN fun _ _ _ _ _ _ us hl => match us, hl with | [_, _, _], _ => rfl
    a_law_walk := He.fAd K d_law_walk.at_
    f_law_walk := Classical.choose p_law_walk
    F_law_walk := Classical.choose_spec p_law_walk
    g_law_walk := He.glo_ok X G (cd.fact 20 (f := .glo "_law_walk") rfl)
    b_law_walk := (Classical.choose_spec p_law_walk).bindsN fun _ _ _ _ _ _ us hl => match us, hl with | [_, _], _ => rfl
    a_law := He.fAd K d_law.at_
    f_law := Classical.choose p_law
    F_law := Classical.choose_spec p_law
    g_law := He.glo_ok X G (cd.fact 21 (f := .glo "law") rfl)
    e_law := rfl
    b_law := (Classical.choose_spec p_law).bindsN fun _ _ _ _ _ _ us hl => match us, hl with | [_], _ => rfl
    ex_BadRoute := He.exc_ok (cd.fact 41 (f := .exc "BadRoute") rfl)
    g_BadRoute := He.glo_ok X G (cd.fact 42 (f := .glo "BadRoute") rfl)
    g_BadWays := He.glo_ok X G (cd.fact 43 (f := .glo "BadWays") rfl)
    g_BadSteps := He.glo_ok X G (cd.fact 44 (f := .glo "BadSteps") rfl)
    g_BadLog := He.glo_ok X G (cd.fact 45 (f := .glo "BadLog") rfl)
    g_BadKind := He.glo_ok X G (cd.fact 46 (f := .glo "BadKind") rfl)
    g_BadKinds := He.glo_ok X G (cd.fact 47 (f := .glo "BadKinds") rfl)
    g_BadBody := He.glo_ok X G (cd.fact 48 (f := .glo "BadBody") rfl)
    g_BadMost := He.glo_ok X G (cd.fact 49 (f := .glo "BadMost") rfl)
    g_BadOffers := He.glo_ok X G (cd.fact 50 (f := .glo "BadOffers") rfl)
    g_NoProgram := He.glo_ok X G (cd.fact 51 (f := .glo "NoProgram") rfl)
    g_NoClip := He.glo_ok X G (cd.fact 52 (f := .glo "NoClip") rfl)
    g_NotOffered := He.glo_ok X G (cd.fact 53 (f := .glo "NotOffered") rfl)
    g_Full := He.glo_ok X G (cd.fact 54 (f := .glo "Full") rfl)
    g_BadText := He.glo_ok X G (cd.fact 55 (f := .glo "BadText") rfl)
    is_E := fun y hy z hz => of_decide_eq_true (List.all_eq_true.mp (Bool.and_eq_true_iff.mp (exE_y c.more y hy)).1 z hz)
    iv_E := fun y hy => of_decide_eq_true (Bool.and_eq_true_iff.mp (Bool.and_eq_true_iff.mp (exE_y c.more y hy)).2).1
    ec_E := fun y hy => by
      have z := (Bool.and_eq_true_iff.mp (Bool.and_eq_true_iff.mp (exE_y c.more y hy)).2).2
      simp only [Bool.and_eq_true, decide_eq_true_eq] at z
      exact ⟨z.1, z.2.1, z.2.2.1, z.2.2.2.1, z.2.2.2.2.1, z.2.2.2.2.2.1, z.2.2.2.2.2.2.1, z.2.2.2.2.2.2.2⟩
    g_ClipError := He.glo_ok X G (cd.fact 56 (f := .glo "ClipError") rfl)
    xm_ClipError := fun x hx => by
      rcases List.mem_cons.mp hx with rfl | hx
      · exact He.exm_ok (cd.fact 57 (f := .exm "BadRoute" "ClipError" true) rfl)
      exact absurd hx (by simp)
    n_ValueError := He.free_ok X G (cd.fact 22 (f := .free "ValueError") rfl)
    n_abs := He.free_ok X G (cd.fact 23 (f := .free "abs") rfl)
    n_all := He.free_ok X G (cd.fact 24 (f := .free "all") rfl)
    n_bool := He.free_ok X G (cd.fact 25 (f := .free "bool") rfl)
    n_enumerate := He.free_ok X G (cd.fact 26 (f := .free "enumerate") rfl)
    n_int := He.free_ok X G (cd.fact 27 (f := .free "int") rfl)
    n_isinstance := He.free_ok X G (cd.fact 28 (f := .free "isinstance") rfl)
    n_len := He.free_ok X G (cd.fact 29 (f := .free "len") rfl)
    n_list := He.free_ok X G (cd.fact 30 (f := .free "list") rfl)
    n_range := He.free_ok X G (cd.fact 31 (f := .free "range") rfl)
    n_set := He.free_ok X G (cd.fact 32 (f := .free "set") rfl)
    n_sorted := He.free_ok X G (cd.fact 33 (f := .free "sorted") rfl)
    n_str := He.free_ok X G (cd.fact 34 (f := .free "str") rfl)
    n_tuple := He.free_ok X G (cd.fact 35 (f := .free "tuple") rfl)
    i_KINDS := He.int_ok X G (cd.fact 36 (f := .int "KINDS" 10) rfl)
    i_MOST_BODY := He.int_ok X G (cd.fact 37 (f := .int "MOST_BODY" 12) rfl)
    i_MOST_LOSS := He.int_ok X G (cd.fact 38 (f := .int "MOST_LOSS" 9) rfl)
    i_MOST_WAYS := He.int_ok X G (cd.fact 39 (f := .int "MOST_WAYS" 30) rfl)
    a_RULES := He.ga K "RULES"
    g_RULES := He.glo_ok X G (cd.fact 40 (f := .glo "RULES") rfl)
    r_RULES := fun ρ F => by
      have hm : (He.tupB K "RULES" [.str "same", .str "turn", .str "sort", .str "half", .str "next"]) = true := by
        have z := c.more
        unfold ex at z
        simp only [Bool.and_eq_true] at z
        exact z.2.1
      unfold Rp
      refine ⟨_, _, rfl, He.tupB_ok hm F, ?_⟩
      exact Rps.cons rfl (Rps.cons rfl (Rps.cons rfl (Rps.cons rfl (Rps.cons rfl (Rps.nil))))) }
end Mm
namespace Mm
def R.T {α : Type} (r : R α) (Q : α → Hs → Prop) : Prop := match r with
  | .ok a hs => Q a hs
  | _ => False
@[simp] theorem T_ok {α : Type} (a : α) (hs : Hs) (Q : α → Hs → Prop) : R.T (.ok a hs) Q = Q a hs := rfl
@[simp] theorem T_bad {α : Type} (Q : α → Hs → Prop) : R.T (.bad : R α) Q = False := rfl
@[simp] theorem T_bind {α β : Type} (r : R α) (k : α → Hs → R β) (Q : β → Hs → Prop) : R.T (r.bind k) Q = R.T r (fun a hs => R.T (k a hs) Q) := by cases r <;> rfl
theorem R.T.imp {α : Type} {r : R α} {Q Q' : α → Hs → Prop} (h : R.T r Q) (q : ∀ a hs, Q a hs → Q' a hs) : R.T r Q' := by
  cases r with
  | ok a hs => exact q _ _ h
  | exc _ _ _ => exact h
  | bad => exact h
theorem R.T.eq {α : Type} {r : R α} {Q : α → Hs → Prop} (h : R.T r Q) : ∃ a hs, r = .ok a hs ∧ Q a hs := by
  cases r with
  | ok a hs => exact ⟨a, hs, rfl, h⟩
  | exc _ _ _ => exact h.elim
  | bad => exact h.elim
def RS.T (r : RS) (N : Fs → Hs → Prop) (V : D → Hs → Prop) : Prop := match r with
  | .nx fs hs => N fs hs
  | .ret d hs => V d hs
  | _ => False
@[simp] theorem ST_nx (fs : Fs) (hs : Hs) (N : Fs → Hs → Prop) (V : D → Hs → Prop) : RS.T (.nx fs hs) N V = N fs hs := rfl
@[simp] theorem ST_ret (d : D) (hs : Hs) (N : Fs → Hs → Prop) (V : D → Hs → Prop) : RS.T (.ret d hs) N V = V d hs := rfl
@[simp] theorem ST_bad (N : Fs → Hs → Prop) (V : D → Hs → Prop) : RS.T .bad N V = False := rfl
@[simp] theorem ST_bindS {α : Type} (fs : Fs) (r : R α) (k : α → Hs → RS) (N : Fs → Hs → Prop) (V : D → Hs → Prop) : RS.T (R.bindS fs r k) N V = R.T r (fun a hs => RS.T (k a hs) N V) := by cases r <;> rfl
@[simp] theorem ST_seq (r : RS) (k : MS) (N : Fs → Hs → Prop) (V : D → Hs → Prop) : RS.T (r.seq k) N V = RS.T r (fun fs hs => RS.T (k fs hs) N V) V := by cases r <;> rfl
theorem RS.T.imp {r : RS} {N N' : Fs → Hs → Prop} {V V' : D → Hs → Prop} (h : RS.T r N V) (q : ∀ fs hs, N fs hs → N' fs hs) (q' : ∀ d hs, V d hs → V' d hs) : RS.T r N' V' := by
  cases r <;> first | exact q _ _ h | exact q' _ _ h | exact h
@[simp] theorem T_ite {α : Type} {c : Prop} [Decidable c] (a b : R α) (Q : α → Hs → Prop) : R.T (if c then a else b) Q = if c then R.T a Q else R.T b Q := by split <;> rfl
@[simp] theorem ST_ite {c : Prop} [Decidable c] (a b : RS) (N : Fs → Hs → Prop) (V : D → Hs → Prop) : RS.T (if c then a else b) N V = if c then RS.T a N V else RS.T b N V := by split <;> rfl
theorem T_call {np n kk : Nat} {m : MS} {ds : List D} {hs : Hs} {Q : D → Hs → Prop} (hl : ds.length = np)
    (h : RS.T (m (start n ds) hs) (fun _ h' => ∃ h1 more, h' = h1 ++ more ∧ h1.length = hs.length + kk ∧ (∀ i, i < hs.length + kk → h1[i]? = hs[i]? ∨ ∃ o, h1[i]? = some o ∧ closedO (hs.length + kk) o = true) ∧ Q .non h1)
      (fun d h' => ∃ h1 more, h' = h1 ++ more ∧ h1.length = hs.length + kk ∧ (∀ i, i < hs.length + kk → h1[i]? = hs[i]? ∨ ∃ o, h1[i]? = some o ∧ closedO (hs.length + kk) o = true) ∧ closed (hs.length + kk) d = true ∧ Q d h1)) : R.T (callD np n kk m ds hs) Q := by
  unfold callD
  rw [if_pos hl]
  unfold runD
  have key : ∀ (d : D) (h1 more : Hs), h1.length = hs.length + kk → (∀ i, i < hs.length + kk → h1[i]? = hs[i]? ∨ ∃ o, h1[i]? = some o ∧ closedO (hs.length + kk) o = true) → closed (hs.length + kk) d = true → Q d h1 → R.T (trim kk hs (.ok d (h1 ++ more))) Q := fun d h1 more e1 e2 e3 q => by
    unfold trim
    have tk : (h1 ++ more).take (hs.length + kk) = h1 := by rw [← e1]; simp
    simp only
    rw [if_pos ⟨e3, by omega, by simp; omega, fun i hi => by
      rw [List.getElem?_append_left (by omega)]
      exact e2 i hi⟩, tk]
    exact q
  cases e : m (start n ds) hs with
  | nx fs h' =>
    rw [e] at h
    obtain ⟨h1, more, rfl, e1, e2, q⟩ := h
    exact key _ _ _ e1 e2 rfl q
  | ret d h' =>
    rw [e] at h
    obtain ⟨h1, more, rfl, e1, e2, e3, q⟩ := h
    exact key _ _ _ e1 e2 e3 q
  | _ => rw [e] at h; exact h.elim
/-- a def that changes nothing -/
theorem T_call0 {np n : Nat} {m : MS} {ds : List D} {hs : Hs} {Q : D → Hs → Prop} (hl : ds.length = np)
    (h : RS.T (m (start n ds) hs) (fun _ h' => ∃ more, h' = hs ++ more ∧ Q .non hs) (fun d h' => ∃ more, h' = hs ++ more ∧ closed hs.length d = true ∧ Q d hs)) : R.T (callD np n 0 m ds hs) Q :=
  T_call hl (h.imp (fun _ h' ⟨more, e, q⟩ => ⟨hs, more, e, rfl, fun i _ => .inl rfl, q⟩) fun d h' ⟨more, e, c, q⟩ => ⟨hs, more, e, rfl, fun i _ => .inl rfl, c, q⟩)
/-- a loop over items, by an invariant of the items that are done -/
theorem T_for {k : Option (Nat × List D)} {g : MG} {body : MS} {V : D → Hs → Prop} (I : List D → Fs → Hs → Prop) {ds : List D} (N : Fs → Hs → Prop)
    (hk : ∀ done fs hs, I done fs hs → stands k hs)
    (step : ∀ done x rest fs hs, ds = done ++ x :: rest → I done fs hs → R.T (g x fs hs) fun fs' h1 => RS.T (body fs' h1) (fun fs2 h2 => I (done ++ [x]) fs2 h2) V)
    (fin : ∀ fs hs, I ds fs hs → N fs hs) {fs : Fs} {hs : Hs} (h0 : I [] fs hs) : RS.T (forL k g body ds fs hs) N V := by
  suffices H : ∀ (rest done : List D) (fs : Fs) (hs : Hs), ds = done ++ rest → I done fs hs → RS.T (forL k g body rest fs hs) N V from H ds [] fs hs rfl h0
  intro rest
  induction rest with
  | nil =>
    intro done fs hs e h
    unfold forL
    rw [if_pos (hk _ _ _ h)]
    refine fin fs hs ?_
    rw [e, List.append_nil]; exact h
  | cons x rest ih =>
    intro done fs hs e h
    unfold forL
    rw [if_pos (hk _ _ _ h)]
    rw [ST_bindS]
    refine (step done x rest fs hs e h).imp fun fs' h1 q => ?_
    cases qb : body fs' h1 with
    | nx fs2 h2 =>
      rw [qb] at q
      exact ih (done ++ [x]) fs2 h2 (by rw [e, List.append_assoc]; rfl) q
    | ret d h2 => rw [qb] at q; exact q
    | _ => rw [qb] at q; exact q.elim
theorem T_while {t : MT} {body : MS} {V : D → Hs → Prop} (I : Nat → Fs → Hs → Prop) (N : Fs → Hs → Prop)
    (step : ∀ n fs hs, I n fs hs → R.T (t fs hs) fun c h1 => if c = true then ∃ n', n = n' + 1 ∧ RS.T (body fs h1) (fun fs2 h2 => I n' fs2 h2) V else N fs h1) :
    ∀ (n m : Nat) {fs : Fs} {hs : Hs}, n < m → I n fs hs → RS.T (whileN t body m fs hs) N V := by
  intro n m
  induction m generalizing n with
  | zero => intro fs hs h; omega
  | succ m ih =>
    intro fs hs hn h
    unfold whileN
    rw [ST_bindS]
    refine (step n fs hs h).imp fun c h1 q => ?_
    split
    · rename_i hc
      rw [if_pos hc] at q
      obtain ⟨n', rfl, q⟩ := q
      cases qb : body fs h1 with
      | nx fs2 h2 =>
        rw [qb] at q
        exact ih n' (by omega) q
      | ret d h2 => rw [qb] at q; exact q
      | _ => rw [qb] at q; exact q.elim
    · rename_i hc
      rw [if_neg hc] at q
      exact q
/-- a comprehension without effects: each item by a function -/
theorem lc_eq {k : Option (Nat × List D)} {g : MG} {t : MT} {e : M} {fs : Fs} {hs : Hs} (p : D → Bool) (f : D → D) (hk : stands k hs) : ∀ (ds acc : List D), (∀ x ∈ ds, ∃ fs', g x fs hs = .ok fs' hs ∧ t fs' hs = .ok (p x) hs ∧ (p x = true → e fs' hs = .ok (f x) hs)) → acc.length + ds.length < 100000 →
    lcL k g t e fs ds acc hs = .ok (acc ++ (ds.filter p).map f) hs
  | [], acc, _, _ => by unfold lcL; rw [if_pos hk]; simp
  | x :: r, acc, h, hl => by
    obtain ⟨fs', e1, e2, e3⟩ := h x List.mem_cons_self
    unfold lcL
    simp only [List.length_cons] at hl
    rw [if_pos hk, e1]
    simp only [R.bindN_ok]
    rw [e2]
    simp only [R.bindN_ok]
    cases hp : p x with
    | true =>
      rw [if_pos rfl, e3 hp]
      simp only [R.bindN_ok]
      rw [if_pos (by omega), lc_eq p f hk r _ (fun y hy => h y (List.mem_cons_of_mem _ hy)) (by simp; omega)]
      simp [List.filter_cons, hp]
    | false =>
      rw [if_neg (by simp), lc_eq p f hk r _ (fun y hy => h y (List.mem_cons_of_mem _ hy)) (by omega)]
      simp [List.filter_cons, hp]
end Mm
namespace Mm
/-- what an object is: the program's (bd .. pa), the law's (w .. wpa), the dice -/
inductive Ro where
  | bd | ears | ear (p : Int) | eyes | cls | cl (n : Int) | ks (n : Int) | bo (n : Int) | ak (n : Int) | qu | pa (n : Int)
  | w | wears | wear (p : Int) | wcl (n : Int) | wak (n : Int) | wpa (n : Int)
  | dice
deriving DecidableEq
/-- of the i-th board -/
abbrev Role := Nat × Ro
def Ro.prog : Ro → Bool
  | .w => false
  | .wears => false
  | .wear _ => false
  | .wcl _ => false
  | .wak _ => false
  | .wpa _ => false
  | .dice => false
  | _ => true
def Ro.law : Ro → Bool
  | .w => true
  | .wears => true
  | .wear _ => true
  | .wcl _ => true
  | .wak _ => true
  | .wpa _ => true
  | _ => false
abbrev Pl := Role → Nat
abbrev Rh := Role → Option O
def upR {β : Type} (f : Role → β) (r : Role) (x : β) : Role → β := fun q => if q = r then x else f q
@[simp] theorem upR_same {β : Type} (f : Role → β) (r : Role) (x : β) : upR f r x r = x := by simp [upR]
theorem upR_ne {β : Type} {f : Role → β} {r q : Role} {x : β} (h : q ≠ r) : upR f r x q = f q := by simp [upR, h]
structure Rep (L : Pl) (h : Rh) (hs : Hs) : Prop where
  inj : ∀ r r', (h r).isSome = true → (h r').isSome = true → L r = L r' → r = r'
  get : ∀ r o, h r = some o → hs[L r]? = some o
section
variable {L : Pl} {h : Rh} {hs : Hs}
theorem Rep.lt (Z : Rep L h hs) {r : Role} {o : O} (e : h r = some o) : L r < hs.length := (List.getElem?_eq_some_iff.mp (Z.get r o e)).1
theorem Rep.put (Z : Rep L h hs) {r : Role} {o : O} (e : h r = some o) (o' : O) : Rep L (upR h r (some o')) (hs.set (L r) o') := by
  refine ⟨fun q q' h1 h2 e1 => ?_, fun q o2 e2 => ?_⟩
  · have s1 : (h q).isSome = true := by
      by_cases z : q = r
      · rw [z, e]; rfl
      · rw [upR_ne z] at h1; exact h1
    have s2 : (h q').isSome = true := by
      by_cases z : q' = r
      · rw [z, e]; rfl
      · rw [upR_ne z] at h2; exact h2
    exact Z.inj q q' s1 s2 e1
  · by_cases z : q = r
    · subst z
      rw [upR_same] at e2
      cases e2
      exact List.getElem?_set_self (Z.lt e)
    · rw [upR_ne z] at e2
      have ne : L r ≠ L q := fun k => z (Z.inj q r (by rw [e2]; rfl) (by rw [e]; rfl) k.symm)
      rw [List.getElem?_set_ne ne]
      exact Z.get q o2 e2
/-- a new object; the role's old one, if any, is left -/
theorem Rep.new (Z : Rep L h hs) (r : Role) (o : O) : Rep (upR L r hs.length) (upR h r (some o)) (hs ++ [o]) := by
  refine ⟨fun q q' h1 h2 e1 => ?_, fun q o2 e2 => ?_⟩
  · by_cases z : q = r <;> by_cases z' : q' = r
    · rw [z, z']
    · exfalso
      subst z
      rw [upR_same, upR_ne z'] at e1
      rw [upR_ne z'] at h2
      obtain ⟨o2, e2⟩ := Option.isSome_iff_exists.mp h2
      have := Z.lt e2
      omega
    · exfalso
      subst z'
      rw [upR_same, upR_ne z] at e1
      rw [upR_ne z] at h1
      obtain ⟨o2, e2⟩ := Option.isSome_iff_exists.mp h1
      have := Z.lt e2
      omega
    · rw [upR_ne z] at h1 e1
      rw [upR_ne z'] at h2 e1
      exact Z.inj q q' h1 h2 e1
  · by_cases z : q = r
    · subst z
      rw [upR_same] at e2 ⊢
      cases e2
      simp
    · rw [upR_ne z] at e2 ⊢
      rw [List.getElem?_append_left (Z.lt e2)]
      exact Z.get q o2 e2
theorem Rep.more (Z : Rep L h hs) (m : Hs) : Rep L h (hs ++ m) := ⟨Z.inj, fun q o e => by rw [List.getElem?_append_left (Z.lt e)]; exact Z.get q o e⟩
end
section
variable {L : Pl} {h : Rh} {hs : Hs} {r : Role} {C f : Str} {fs : List (Str × D)} {cs : List Str} {d : D}
theorem Rep.fld (Z : Rep L h hs) (e : h r = some (.ins C fs)) (hf : dget fs f = some d) (hc : C ∈ cs) : vFld cs f (.loc (L r)) hs = .ok d hs := by
  unfold vFld insOf
  simp [Z.get r _ e, hc, hf]
theorem Rep.ins (Z : Rep L h hs) {m : Str} (e : h r = some (.ins C fs)) (hm : dget fs m = none) : isIns C m (.loc (L r)) hs = true := by
  unfold isIns insOf
  simp [Z.get r _ e, hm]
theorem Rep.lst (Z : Rep L h hs) {ds : List D} (e : h r = some (.lst ds)) : isLst (.loc (L r)) hs = true := by
  unfold isLst
  simp [Z.get r _ e]
theorem Rep.ixI (Z : Rep L h hs) {kvs : List (Key × D)} {k : Int} (e : h r = some (.dk kvs)) (hk : dget kvs (.inl k) = some d) : vIxD (.loc (L r)) (.int k) hs = .ok d hs := by
  unfold vIxD dlook keyOf
  simp [Z.get r _ e, hk]
theorem Rep.inK (Z : Rep L h hs) {kvs : List (Key × D)} {k : Int} (e : h r = some (.dk kvs)) : vIn (.int k) (.loc (L r)) hs = .ok (.bl (dget kvs (.inl k)).isSome) hs := by
  unfold vIn inB listOf dlook keyOf
  simp [Z.get r _ e]
theorem Rep.notInK (Z : Rep L h hs) {kvs : List (Key × D)} {k : Int} (e : h r = some (.dk kvs)) : vNotIn (.int k) (.loc (L r)) hs = .ok (.bl (!(dget kvs (.inl k)).isSome)) hs := by
  unfold vNotIn inB listOf dlook keyOf
  simp [Z.get r _ e]
theorem Rep.app (Z : Rep L h hs) {ds : List D} (e : h r = some (.lst ds)) (hl : ds.length < 100000) : mAppend (.loc (L r)) [d] hs = .ok .non (hs.set (L r) (.lst (ds ++ [d]))) := by
  unfold mAppend one1
  simp [Z.get r _ e, hl]
theorem Rep.seq (Z : Rep L h hs) {ds : List D} (e : h r = some (.lst ds)) : seqOf (.loc (L r)) hs = some ds := by
  unfold seqOf
  simp [Z.get r _ e]
theorem Rep.list (Z : Rep L h hs) {ds : List D} (e : h r = some (.lst ds)) : listOf (.loc (L r)) hs = some ds := by
  unfold listOf
  simp [Z.get r _ e]
theorem Rep.walk (Z : Rep L h hs) {ds : List D} (e : h r = some (.lst ds)) (a : M) (fs : Fs) (ha : a fs hs = .ok (.loc (L r)) hs) : iSeq a fs hs = .ok (ds, some (L r, ds)) hs := by
  unfold iSeq
  simp [ha, Z.get r _ e]
end
end Mm
namespace Mm
@[simp] theorem ixN_0 (n : Nat) : ixN (n + 1) 0 = some 0 := by unfold ixN; simp <;> omega
@[simp] theorem ixN_1 (n : Nat) : ixN (n + 1 + 1) 1 = some 1 := by unfold ixN; simp; omega
@[simp] theorem ixN_2 (n : Nat) : ixN (n + 1 + 1 + 1) 2 = some 2 := by unfold ixN; simp; omega
@[simp] theorem ixN_3 (n : Nat) : ixN (n + 1 + 1 + 1 + 1) 3 = some 3 := by unfold ixN; simp; omega
abbrev zi (ns : List Int) : List D := ns.map D.int
abbrev dz (ds : List Int) (tl : Hs) : Hs := .lst (zi ds) :: tl
theorem closed_zi (n : Nat) : ∀ ns : List Int, closedL n (zi ns) = true
  | [] => rfl
  | i :: r => by
    show closedL n (.int i :: zi r) = true
    unfold closedL
    rw [closed_zi n r]; rfl
theorem same_tl {ds ds' : List Int} {tl : Hs} {n : Nat} (i : Nat) : (dz ds' tl)[i]? = (dz ds tl)[i]? ∨ ∃ o, (dz ds' tl)[i]? = some o ∧ closedO n o = true := by
  cases i with
  | zero => exact .inr ⟨_, rfl, closed_zi n ds'⟩
  | succ i => exact .inl rfl
theorem off_rest {tl : Hs} {u : Int} (hu : 0 < u) (hu2 : u < 1073741824) {a : Int} {N : Fs → Hs → Prop} {V : D → Hs → Prop} (hV : ∀ (x y : Int) (s : List Int) (q : Int), V (.int (q % u)) (.lst (.int x :: .int y :: s.map .int) :: tl)) (b : Int) (s : List Int) :
    RS.T (sSeq (sIf (tVal (eBin vGt (eBin vIx (eVar 0) (eC (.int 1))) (eC (.int 0)))) (sSeq (sAsg (eBin vMod (eBin vIx (eVar 0) (eC (.int 1))) (eVar 1)) (Mm.gName 2))
      (sSeq (sAsg (eBin vFdiv (eBin vIx (eVar 0) (eC (.int 1))) (eVar 1)) (Mm.gSub setIx (eVar 0) (eC (.int 1)))) (sRet (eVar 2)))) sNx)
      (sSeq (sAsg (eBin vMod (eBin vAdd (eBin vMul (eBin vIx (eVar 0) (eC (.int 0))) (eC (.int 48271))) (eC (.int 11))) (eC (.int 2147483647))) (Mm.gSub setIx (eVar 0) (eC (.int 0))))
      (sRet (eBin vMod (eBin vFdiv (eBin vIx (eVar 0) (eC (.int 0))) (eC (.int 64))) (eVar 1)))) [some (.loc 0), some (.int u), none] (.lst (.int a :: .int b :: s.map .int) :: tl)) N V := by
  by_cases hb : 0 < b
  · simp [sSeq, sIf, sAsg, sRet, tVal, eBin, eVar, eC, vIx, seqOf, vGt, vI, vMod, vFdiv, Mm.gName, Mm.gSub, setIx, hb, hu, hu2]
    exact hV _ _ _ _
  · simp [sSeq, sIf, sAsg, sRet, sNx, tVal, eBin, eVar, eC, vIx, seqOf, vGt, vI, vMod, vFdiv, vMul, vAdd, big, Mm.gName, Mm.gSub, setIx, hb, hu, hu2]
    exact hV _ _ _ _
theorem off_body {tl : Hs} {u : Int} (hu : 0 < u) (hu2 : u < 1073741824) {a b : Int} {r : List Int} {N : Fs → Hs → Prop} {V : D → Hs → Prop} (hV : ∀ (x y : Int) (s : List Int) (q : Int), V (.int (q % u)) (.lst (.int x :: .int y :: s.map .int) :: tl)) :
    RS.T (m_law_off [some (.loc 0), some (.int u), none] (.lst (.int a :: .int b :: r.map .int) :: tl)) N V := by
  unfold m_law_off
  show RS.T (RS.seq _ _) _ _
  rw [ST_seq]
  by_cases hb : b = 0
  · subst hb
    cases r with
    | nil =>
      simp [sIf, tAnd, tVal, eBin, eVar, eC, vIx, seqOf, vEq, eqB, okd, res, deq, vGt, vI, eArgs, aCons, aNil, vLen, one1, sNx]
      exact off_rest hu hu2 hV 0 []
    | cons c s =>
      simp [sIf, tAnd, tVal, eBin, eVar, eC, vIx, seqOf, vEq, eqB, okd, res, deq, vGt, vI, eArgs, aCons, aNil, vLen, one1, sNx, sAsg, eMeth, isLst, mPopAt, int1, Mm.gSub, setIx]
      split
      · exact off_rest hu hu2 hV c s
      · omega
  · simp [sIf, tAnd, tVal, eBin, eVar, eC, vIx, seqOf, vEq, eqB, okd, res, deq, vGt, vI, eArgs, aCons, aNil, vLen, one1, sNx, hb]
    exact off_rest hu hu2 hV b r
theorem off_T {ds : List Int} {tl : Hs} {u : Int} (h : 2 ≤ ds.length) (hu : 0 < u) (hu2 : u < 1073741824) {Q : D → Hs → Prop} (hQ : ∀ (r : Int) (ds' : List Int), 0 ≤ r → r < u → 2 ≤ ds'.length → Q (.int r) (.lst (zi ds') :: tl)) : (c_law_off [.loc 0, .int u] (.lst (zi ds) :: tl)).T Q := by
  obtain ⟨a, b, r, rfl⟩ : ∃ a b r, ds = a :: b :: r := by
    match ds, h with
    | a :: b :: r, _ => exact ⟨a, b, r, rfl⟩
  unfold c_law_off
  refine T_call rfl ?_
  refine off_body hu hu2 fun x y s q => ?_
  exact ⟨dz (x :: y :: s) tl, [], by simp, rfl, fun i _ => same_tl (ds := a :: b :: r) i, rfl, hQ _ (x :: y :: s) (Int.emod_nonneg _ (by omega)) (Int.emod_lt_of_pos _ hu) (by simp)⟩
end Mm
namespace Mm
@[simp] theorem get_app {tl : Hs} {o : O} {r : Hs} : (tl ++ o :: r)[tl.length]? = some o := by simp
@[simp] theorem get_app1 {tl : Hs} {o p : O} {r : Hs} : (tl ++ o :: p :: r)[tl.length + 1]? = some p := by
  rw [List.getElem?_append_right (by omega)]; simp
@[simp] theorem set_app {tl : Hs} {o x : O} {r : Hs} : (tl ++ o :: r).set tl.length x = tl ++ x :: r := by
  rw [List.set_append_right _ _ (Nat.le_refl _)]; simp
@[simp] theorem set_app1 {tl : Hs} {o p x : O} {r : Hs} : (tl ++ o :: p :: r).set (tl.length + 1) x = tl ++ o :: x :: r := by
  rw [List.set_append_right _ _ (by omega)]; simp
theorem filter_zi (p : D → Bool) (ns : List Int) : (zi ns).filter p = zi (ns.filter fun i => p (.int i)) := by
  unfold zi; rw [List.filter_map]; rfl
theorem mem_zi {x : D} {ns : List Int} (h : x ∈ zi ns) : ∃ i ∈ ns, x = .int i := by
  obtain ⟨i, h1, h2⟩ := List.mem_map.mp h
  exact ⟨i, h1, h2.symm⟩
def isBig (d : D) : Bool := match d with
  | .int i => decide (1000000000000000000 ≤ i)
  | _ => false
theorem dice_T {ns : List Int} {k : Int} (hn : ns.length ≤ 63) {Q : D → Hs → Prop} (hQ : ∀ ds : List Int, 2 ≤ ds.length → Q (.loc 0) [.lst (zi ds)]) : (c_law_dice [.rl (zi ns), .int k] []).T Q := by
  unfold c_law_dice
  refine T_call rfl ?_
  unfold m_law_dice
  show RS.T (RS.seq _ _) _ _
  rw [ST_seq]
  simp only [sAsg, eVar, start, List.map_cons, List.map_nil, List.length_cons, List.length_nil, List.replicate, Mm.gName, List.getElem?_cons_zero, List.getElem?_cons_succ, List.cons_append, List.nil_append, R.bindS_ok, ST_nx, List.set_cons_succ, List.set_cons_zero]
  show RS.T (RS.seq _ _) _ _
  rw [ST_seq]
  simp only [sFor, iSeq, onlyL, eVar, List.getElem?_cons_zero, R.bind_ok, R.bindS_ok]
  refine T_for (fun done fs hs => ∃ v c, fs = [some (.rl (zi ns)), some (.int k), some (.int v), c] ∧ hs = []) _ ?_ ?_ ?_ ⟨_, _, rfl, rfl⟩
  · exact fun _ _ _ _ => trivial
  · rintro done x rest fs hs e ⟨v, c, rfl, rfl⟩
    obtain ⟨i, _, rfl⟩ := mem_zi (show x ∈ zi ns by rw [e]; simp)
    simp [Mm.gName, body_law_dice_0, sAsg, eBin, eVar, eC, eArgs, aCons, aNil, vMul, vAdd, vMod, vAbs, int1, big]
  · rintro fs hs ⟨v, c, rfl, rfl⟩
    have e : lcL none (Mm.gName 3) (tVal (eBin vGe (eVar 3) (eBin vPow (eC (.int 10)) (eC (.int 18))))) (eVar 3) (wipe [some (.rl (zi ns)), some (.int k), some (.int v), c] [3]) (zi ns) [] [] = .ok ([] ++ ((zi ns).filter isBig).map id) [] := by
      refine lc_eq (k := none) (hs := []) isBig id trivial (zi ns) [] (fun x hx => ?_) (by simp; omega)
      obtain ⟨i, _, rfl⟩ := mem_zi hx
      refine ⟨[some (.rl (zi ns)), some (.int k), some (.int v), some (.int i)], rfl, ?_, fun _ => rfl⟩
      simp [tVal, eBin, eVar, eC, vGe, vI, vPow, isBig]
    have e0 : ([D.int v, D.int 0]).length ≤ 100000 := by simp
    simp only [sRet, eBin, eArgs, aCons, aNil, eVar, eC, vLst, List.getElem?_cons_zero, List.getElem?_cons_succ, R.bind_ok, R.bindS_ok, eLc, iSeq, onlyL, if_pos e0]
    rw [e]
    simp only [R.bind_ok]
    rw [filter_zi]
    have hl : (ns.filter fun i => isBig (.int i)).length ≤ ns.length := List.length_filter_le _ _
    simp only [List.length_cons, List.length_nil, if_pos (show (0 + 1 + 1 : Nat) ≤ 100000 by decide), R.bind_ok, vAddO, listOf, List.nil_append, List.map_id]
    rw [if_pos (by simp; omega)]
    simp only [R.bindS_ok, ST_ret, List.nil_append]
    refine ⟨[.lst (zi (v :: 0 :: ns.filter fun i => isBig (.int i)))], [], rfl, rfl, fun i hi => ?_, rfl, hQ _ (by simp)⟩
    have : i = 0 := by omega
    subst this
    exact .inr ⟨_, rfl, closed_zi _ _⟩
theorem okd_l {n : Nat} {ds : List D} : okd n (.l ds) = okL n ds := by unfold okd; rfl
theorem okL_zi (n : Nat) : ∀ ns : List Int, okL (n + 1) (zi ns) = true
  | [] => by simp [zi, okL]
  | i :: r => by
    show okL (n + 1) (.int i :: zi r) = true
    unfold okL
    simp only
    rw [okL_zi n r]
    unfold okd; rfl
theorem deq_nil : ∀ ds : List D, deq (.l ds) (.l []) = ds.isEmpty
  | [] => by unfold deq deqL; rfl
  | _ :: _ => by unfold deq deqL; rfl
end Mm
namespace Mm
structure Wy where
  a : Int
  b : Int
  l : Int
  r : Str
def wyD (w : Wy) : D := .t [.int w.a, .int w.b, .int w.l, .str w.r]
def prD (p : Int × Int) : D := .t [.int p.1, .int p.2]
def rules : List Str := ["same", "turn", "sort", "half", "next"]
def Wy.p (w : Wy) : Int × Int := (w.a, w.b)
structure WyOk (w : Wy) : Prop where
  a0 : 0 ≤ w.a
  a1 : w.a < 10
  b0 : 0 ≤ w.b
  b1 : w.b < 10
  ne : w.a ≠ w.b
  l0 : 0 ≤ w.l
  l1 : w.l < 10
  rr : w.r ∈ rules
structure WaysOk (ws : List Wy) : Prop where
  ok : ∀ w ∈ ws, WyOk w
  nd : (ws.map Wy.p).Nodup
  len : ws.length ≤ 30
theorem deq_pr (p q : Int × Int) : deq (prD p) (prD q) = decide (p = q) := by
  obtain ⟨a, b⟩ := p
  obtain ⟨x, y⟩ := q
  simp [prD, deq, deqL]
  by_cases h1 : a = x <;> by_cases h2 : b = y <;> simp [h1, h2]
theorem okd_pr (p : Int × Int) (n : Nat) : okd (n + 2) (prD p) = true := by simp [prD, okd, okL]
theorem okL_prs (n : Nat) : ∀ ps : List (Int × Int), okL (n + 3) (ps.map prD) = true
  | [] => by simp [okL]
  | p :: r => by
    show okL (n + 3) (prD p :: r.map prD) = true
    unfold okL
    simp only
    rw [okL_prs n r, okd_pr]; rfl
theorem any_pr (p : Int × Int) : ∀ ps : List (Int × Int), ((ps.map prD).any fun z => deq z (prD p)) = decide (p ∈ ps)
  | [] => by simp
  | q :: r => by
    rw [List.map_cons, List.any_cons, any_pr p r, deq_pr]
    rw [show decide (q = p) = decide (p = q) from by simp [eq_comm]]
    simp
theorem notIn_pr {p : Int × Int} {ps : List (Int × Int)} {n : Nat} {hs : Hs} (h : hs[n]? = some (.lst (ps.map prD))) : vNotIn (prD p) (.loc n) hs = .ok (.bl (!decide (p ∈ ps))) hs := by
  unfold vNotIn inB
  simp only [listOf, h, okd_pr p 58, okd_l, okL_prs 57 ps, any_pr]
  rfl
theorem ix_lit {ds : List D} {r : Int} {hs : Hs} {Q : D → Hs → Prop} (h0 : 0 ≤ r) (h1 : r < ds.length) (hQ : ∀ d ∈ ds, Q d hs) : (vIx (.l ds) (.int r) hs).T Q := by
  have e : ixN ds.length r = some r.toNat := by unfold ixN; rw [if_pos h0, if_pos h1]
  have hi : r.toNat < ds.length := by omega
  unfold vIx
  simp only [seqOf, e, Option.bind_some, List.getElem?_eq_getElem hi]
  exact hQ _ (List.getElem_mem hi)
/-- a def that throws the dice -/
theorem T_callD {np n : Nat} {m : MS} {args : List D} {ds : List Int} {tl : Hs} {Q : D → Hs → Prop} (hl : args.length = np)
    (h : ∀ (N : Fs → Hs → Prop) (V : D → Hs → Prop), (∀ (d : D) (ds' : List Int) (more : Hs), 2 ≤ ds'.length → closed (tl.length + 1) d = true → Q d (.lst (zi ds') :: tl) → V d (.lst (zi ds') :: (tl ++ more))) → RS.T (m (start n args) (.lst (zi ds) :: tl)) N V) : (callD np n 0 m args (.lst (zi ds) :: tl)).T Q :=
  T_call hl (h _ _ fun d ds' more h2 hc q => ⟨.lst (zi ds') :: tl, more, rfl, rfl, fun i _ => same_tl i, hc, q⟩)
theorem closed_wy (n : Nat) : ∀ ws : List Wy, closedL n (ws.map wyD) = true
  | [] => rfl
  | w :: r => by
    show closedL n (wyD w :: r.map wyD) = true
    unfold closedL
    rw [closed_wy n r]
    simp [wyD, closed, closedL]
theorem ne_int {a b : Int} {hs : Hs} : vNe (.int a) (.int b) hs = .ok (.bl (!decide (a = b))) hs := by
  simp [vNe, eqB, okd, res, deq]
  by_cases h : a = b <;> simp [h]
theorem append_T {n : Nat} {es : List D} {d : D} {hs : Hs} (h : hs[n]? = some (.lst es)) (hl : es.length < 100000) : mAppend (.loc n) [d] hs = .ok .non (hs.set n (.lst (es ++ [d]))) := by
  unfold mAppend
  simp only [one1, h, if_pos hl]
theorem isLst_loc {n : Nat} {es : List D} {hs : Hs} (h : hs[n]? = some (.lst es)) : isLst (.loc n) hs = true := by
  unfold isLst
  simp only [h]
theorem ways_body {c6 c7 c1 : Option D} {m f : Int} {tl : Hs} {ws : List Wy} {ds : List Int} (f0 : 0 < f) (f1 : f ≤ 10) (hd : 2 ≤ ds.length) (hws : ws.length < 40) {N : Fs → Hs → Prop} {V : D → Hs → Prop}
    (h0 : ∀ (c6 : Option D) (ds' : List Int), 2 ≤ ds'.length → N [some (.loc 0), c1, some (.int m), some (.int f), some (.loc (tl.length + 1)), some (.loc (tl.length + 2)), c6, c7] (.lst (zi ds') :: (tl ++ [.lst (ws.map wyD), .lst ((ws.map Wy.p).map prD)])))
    (h1 : ∀ (w : Wy) (c6 c7 : Option D) (ds' : List Int), WyOk w → w.p ∉ ws.map Wy.p → 2 ≤ ds'.length → N [some (.loc 0), c1, some (.int m), some (.int f), some (.loc (tl.length + 1)), some (.loc (tl.length + 2)), c6, c7] (.lst (zi ds') :: (tl ++ [.lst ((ws ++ [w]).map wyD), .lst (((ws ++ [w]).map Wy.p).map prD)]))) :
    RS.T (body_law_ways_0 [some (.loc 0), c1, some (.int m), some (.int f), some (.loc (tl.length + 1)), some (.loc (tl.length + 2)), c6, c7] (.lst (zi ds) :: (tl ++ [.lst (ws.map wyD), .lst ((ws.map Wy.p).map prD)]))) N V := by
  simp only [body_law_ways_0, sSeq,ST_seq,sAsg,sPar,sExpr,sIf,sRet,sRetN,sNx,ST_bindS,eMeth,eArgs,aCons,aNil,eBin,eUn,eC,eVar,eAnd,eOr,eNot,eIf,tVal,tAnd,tOr,tNot,tYes,gName,gTup,gCons,gNil,gSub,aa',ab',T_bind,T_ok,ba',bb',bc',T_ite,ST_nx,ST_ret,ac',ad',ae',af',ag',if_true,if_false,ah']
  refine off_T hd f0 (by omega) fun a d1 a0 a1 hd1 => ?_
  refine off_T hd1 f0 (by omega) fun b d2 b0 b1 hd2 => ?_
  have epr : D.t [.int a, .int b] = prD (a, b) := rfl
  have e2 : ([D.int a, D.int b]).length ≤ 100000 := by simp
  have i0 : ∀ hs, vIx (.t [.int a, .int b]) (.int 0) hs = .ok (.int a) hs := fun _ => rfl
  have i1 : ∀ hs, vIx (.t [.int a, .int b]) (.int 1) hs = .ok (.int b) hs := fun _ => rfl
  simp only [vTup, if_pos e2, i0, i1, ne_int, sSeq,ST_seq,sAsg,sPar,sExpr,sIf,sRet,sRetN,sNx,ST_bindS,eMeth,eArgs,aCons,aNil,eBin,eUn,eC,eVar,eAnd,eOr,eNot,eIf,tVal,tAnd,tOr,tNot,tYes,gName,gTup,gCons,gNil,gSub,aa',ab',T_bind,T_ok,ba',bb',bc',T_ite,ST_nx,ST_ret,ac',ad',ae',af',ag',if_true,if_false,ah']
  by_cases hab : a = b
  · simp only [hab, decide_true, sSeq,ST_seq,sAsg,sPar,sExpr,sIf,sRet,sRetN,sNx,ST_bindS,eMeth,eArgs,aCons,aNil,eBin,eUn,eC,eVar,eAnd,eOr,eNot,eIf,tVal,tAnd,tOr,tNot,tYes,gName,gTup,gCons,gNil,gSub,aa',ab',T_bind,T_ok,ba',bb',bc',T_ite,ST_nx,ST_ret,ac',ad',ae',af',ag',if_true,if_false,ah']
    exact h0 _ d2 hd2
  · simp only [hab, decide_false, sSeq,ST_seq,sAsg,sPar,sExpr,sIf,sRet,sRetN,sNx,ST_bindS,eMeth,eArgs,aCons,aNil,eBin,eUn,eC,eVar,eAnd,eOr,eNot,eIf,tVal,tAnd,tOr,tNot,tYes,gName,gTup,gCons,gNil,gSub,aa',ab',T_bind,T_ok,ba',bb',bc',T_ite,ST_nx,ST_ret,ac',ad',ae',af',ag',if_true,if_false,ah']
    rw [epr]
    rw [notIn_pr (ps := ws.map Wy.p) (by simp)]
    by_cases hm : (a, b) ∈ ws.map Wy.p
    · simp only [hm, decide_true, sSeq,ST_seq,sAsg,sPar,sExpr,sIf,sRet,sRetN,sNx,ST_bindS,eMeth,eArgs,aCons,aNil,eBin,eUn,eC,eVar,eAnd,eOr,eNot,eIf,tVal,tAnd,tOr,tNot,tYes,gName,gTup,gCons,gNil,gSub,aa',ab',T_bind,T_ok,ba',bb',bc',T_ite,ST_nx,ST_ret,ac',ad',ae',af',ag',if_true,if_false,ah']
      exact h0 _ d2 hd2
    · have hl2 : (List.map prD (List.map Wy.p ws)).length < 100000 := by simp; omega
      have hl3 : (List.map wyD ws).length < 100000 := by simp; omega
      simp only [hm, decide_false, sSeq,ST_seq,sAsg,sPar,sExpr,sIf,sRet,sRetN,sNx,ST_bindS,eMeth,eArgs,aCons,aNil,eBin,eUn,eC,eVar,eAnd,eOr,eNot,eIf,tVal,tAnd,tOr,tNot,tYes,gName,gTup,gCons,gNil,gSub,aa',ab',T_bind,T_ok,ba',bb',bc',T_ite,ST_nx,ST_ret,ac',ad',ae',af',ag',if_true,if_false,ah']
      rw [isLst_loc (es := (ws.map Wy.p).map prD) (by simp)]
      rw [append_T (n := tl.length + 2) (es := (ws.map Wy.p).map prD) (by simp) hl2]
      have eset : ∀ o : O, (O.lst (zi d2) :: (tl ++ [.lst (ws.map wyD), .lst ((ws.map Wy.p).map prD)])).set (tl.length + 2) o = O.lst (zi d2) :: (tl ++ [.lst (ws.map wyD), o]) := fun o => by simp
      have e3 : ([D.int 3, D.int 10]).length ≤ 100000 := by simp
      simp only [eset, vLst, if_pos e3, sSeq,ST_seq,sAsg,sPar,sExpr,sIf,sRet,sRetN,sNx,ST_bindS,eMeth,eArgs,aCons,aNil,eBin,eUn,eC,eVar,eAnd,eOr,eNot,eIf,tVal,tAnd,tOr,tNot,tYes,gName,gTup,gCons,gNil,gSub,aa',ab',T_bind,T_ok,ba',bb',bc',T_ite,ST_nx,ST_ret,ac',ad',ae',af',ag',if_true,if_false,ah']
      refine off_T hd2 (by decide) (by decide) fun r1 d3 q0 q1 hd3 => ?_
      refine ix_lit q0 (by simpa using q1) fun lim hlim => ?_
      obtain ⟨u, rfl, u0, u1⟩ : ∃ u : Int, lim = .int u ∧ 0 < u ∧ u ≤ 10 := by
        simp at hlim
        rcases hlim with rfl | rfl <;> exact ⟨_, rfl, by decide, by decide⟩
      refine off_T hd3 u0 (by omega) fun l d4 l0 l1 hd4 => ?_
      have e5 : ([D.str "same", D.str "turn", D.str "sort", D.str "half", D.str "next"]).length ≤ 100000 := by simp
      rw [isLst_loc (es := ws.map wyD) (by simp)]
      simp only [if_pos e5, sSeq,ST_seq,sAsg,sPar,sExpr,sIf,sRet,sRetN,sNx,ST_bindS,eMeth,eArgs,aCons,aNil,eBin,eUn,eC,eVar,eAnd,eOr,eNot,eIf,tVal,tAnd,tOr,tNot,tYes,gName,gTup,gCons,gNil,gSub,aa',ab',T_bind,T_ok,ba',bb',bc',T_ite,ST_nx,ST_ret,ac',ad',ae',af',ag',if_true,if_false,ah']
      refine off_T hd4 (by decide) (by decide) fun r2 d5 q0 q1 hd5 => ?_
      refine ix_lit q0 (by simpa using q1) fun rule hrule => ?_
      obtain ⟨rr, rfl, hrr⟩ : ∃ u : Str, rule = .str u ∧ u ∈ rules := by
        simp at hrule
        rcases hrule with rfl | rfl | rfl | rfl | rfl <;> exact ⟨_, rfl, by simp [rules]⟩
      have e6 : ([D.int l, D.str rr]).length ≤ 100000 := by simp
      have ea : ∀ hs, vAdd (prD (a, b)) (.t [.int l, .str rr]) hs = .ok (wyD ⟨a, b, l, rr⟩) hs := fun hs => by
        simp [prD, vAdd, wyD]
      simp only [vTup, if_pos e6, ea, sSeq,ST_seq,sAsg,sPar,sExpr,sIf,sRet,sRetN,sNx,ST_bindS,eMeth,eArgs,aCons,aNil,eBin,eUn,eC,eVar,eAnd,eOr,eNot,eIf,tVal,tAnd,tOr,tNot,tYes,gName,gTup,gCons,gNil,gSub,aa',ab',T_bind,T_ok,ba',bb',bc',T_ite,ST_nx,ST_ret,ac',ad',ae',af',ag',if_true,if_false,ah']
      rw [append_T (n := tl.length + 1) (es := ws.map wyD) (by simp) hl3]
      have eset2 : ∀ o p : O, (O.lst (zi d5) :: (tl ++ [.lst (ws.map wyD), p])).set (tl.length + 1) o = O.lst (zi d5) :: (tl ++ [o, p]) := fun o p => by simp
      simp only [eset2, sSeq,ST_seq,sAsg,sPar,sExpr,sIf,sRet,sRetN,sNx,ST_bindS,eMeth,eArgs,aCons,aNil,eBin,eUn,eC,eVar,eAnd,eOr,eNot,eIf,tVal,tAnd,tOr,tNot,tYes,gName,gTup,gCons,gNil,gSub,aa',ab',T_bind,T_ok,ba',bb',bc',T_ite,ST_nx,ST_ret,ac',ad',ae',af',ag',if_true,if_false,ah']
      have := h1 ⟨a, b, l, rr⟩ (some (prD (a, b))) (some (.int l)) d5 ⟨a0, by show a < 10; omega, b0, by show b < 10; omega, hab, l0, by show l < 10; omega, hrr⟩ hm hd5
      simpa [Wy.p] using this
theorem ways_T {ds : List Int} {tl : Hs} (h : 2 ≤ ds.length) {Q : D → Hs → Prop} (hQ : ∀ (ws : List Wy) (ds' : List Int), WaysOk ws → 2 ≤ ds'.length → Q (.l (ws.map wyD)) (.lst (zi ds') :: tl)) : (c_law_ways [.loc 0] (.lst (zi ds) :: tl)).T Q := by
  unfold c_law_ways
  refine T_callD rfl fun N V hV => ?_
  unfold m_law_ways
  simp [sSeq, sAsg, sPar, sIf, sExpr, sRet, sRetN, sNx, eVar, eC, eBin, eUn, eArgs, aCons, aNil, eMeth, eAnd, eOr, eNot, eIf, tVal, tAnd, tOr, tNot, tYes, Mm.gName, Mm.gTup, Mm.gCons, Mm.gNil, Mm.gSub, one1, int1, two2, start, vLst, vLstO]
  refine off_T h (by decide) (by decide) fun r1 d1 h0 h1 hd1 => ?_
  refine ix_lit h0 (by simpa using h1) fun most hm => ?_
  refine off_T hd1 (by decide) (by decide) fun r2 d2 h0 h1 hd2 => ?_
  refine ix_lit h0 (by simpa using h1) fun few hf => ?_
  obtain ⟨m, rfl, m0, m1⟩ : ∃ m : Int, most = .int m ∧ 0 ≤ m ∧ m ≤ 30 := by
    simp at hm
    rcases hm with rfl | rfl | rfl <;> exact ⟨_, rfl, by decide, by decide⟩
  obtain ⟨f, rfl, f0, f1⟩ : ∃ m : Int, few = .int m ∧ 0 < m ∧ m ≤ 10 := by
    simp at hf
    rcases hf with rfl | rfl | rfl <;> exact ⟨_, rfl, by decide, by decide⟩
  simp [sSeq, sAsg, sPar, sIf, sExpr, sRet, sRetN, sNx, eVar, eC, eBin, eUn, eArgs, aCons, aNil, eMeth, eAnd, eOr, eNot, eIf, tVal, tAnd, tOr, tNot, tYes, Mm.gName, Mm.gTup, Mm.gCons, Mm.gNil, Mm.gSub, one1, int1, two2, sFor, Mm.iRng1, vAdd]
  refine off_T hd2 (by omega) (by omega) fun k d3 k0 k1 hd3 => ?_
  have hk : -lim ≤ k ∧ k ≤ lim := by unfold lim; omega
  simp [hk]
  refine T_for (fun done fs hs => ∃ (c1 c6 c7 : Option D) (ws : List Wy) (ds : List Int), fs = [some (.loc 0), c1, some (.int m), some (.int f), some (.loc (tl.length + 1)), some (.loc (tl.length + 2)), c6, c7] ∧ hs = .lst (zi ds) :: (tl ++ [.lst (ws.map wyD), .lst ((ws.map Wy.p).map prD)]) ∧
    2 ≤ ds.length ∧ (∀ w ∈ ws, WyOk w) ∧ (ws.map Wy.p).Nodup ∧ ws.length ≤ done.length) _ ?_ ?_ ?_ ⟨_, _, _, [], d3, rfl, rfl, hd3, by simp, by simp, by simp⟩
  · exact fun _ _ _ _ => trivial
  · rintro done x rest fs hs e ⟨c1, c6, c7, ws, ds, rfl, rfl, hd, hw, hnd, hl⟩
    have hlen : done.length < 31 := by
      have e2 := congrArg List.length e
      rw [rng_len] at e2
      simp at e2
      omega
    simp only [Mm.gName, T_ok, List.set_cons_zero, List.set_cons_succ]
    refine ways_body f0 f1 hd (by omega) (fun c6 ds' h2 => ?_) fun w c6 c7 ds' hw' hn h2 => ?_
    · exact ⟨_, _, _, ws, ds', rfl, rfl, h2, hw, hnd, by simp; omega⟩
    · refine ⟨_, _, _, ws ++ [w], ds', rfl, rfl, h2, ?_, ?_, by simp; omega⟩
      · intro y hy
        rcases List.mem_append.mp hy with z | z
        · exact hw y z
        · have : y = w := by simpa using z
          rw [this]; exact hw'
      · rw [List.map_append]
        exact List.nodup_append.mpr ⟨hnd, by simp, fun x hx y hy z => hn (by
          have : y = w.p := by simpa using hy
          rw [← this, ← z]; exact hx)⟩
  · rintro fs hs ⟨c1, c6, c7, ws, ds, rfl, rfl, hd, hw, hnd, hl⟩
    rw [rng_len] at hl
    simp [sSeq, sAsg, sPar, sIf, sExpr, sRet, sRetN, sNx, eVar, eC, eBin, eUn, eArgs, aCons, aNil, eMeth, eAnd, eOr, eNot, eIf, tVal, tAnd, tOr, tNot, tYes, Mm.gName, Mm.gTup, Mm.gCons, Mm.gNil, Mm.gSub, one1, int1, two2, eFrz, frz]
    exact hV _ ds _ hd (by unfold closed; exact closed_wy _ _) (hQ ws ds ⟨hw, hnd, by omega⟩ hd)
structure KsOk (ks : List Int) : Prop where
  lo : ∀ k ∈ ks, 0 ≤ k
  hi : ∀ k ∈ ks, k < 10
  nd : ks.Nodup
  ne : ks ≠ []
theorem nd_le {α : Type} [DecidableEq α] : ∀ {l m : List α}, l.Nodup → (∀ x ∈ l, x ∈ m) → l.length ≤ m.length
  | [], m, _, _ => Nat.zero_le _
  | x :: l, m, h, hs => by
    obtain ⟨h1, h2⟩ := List.nodup_cons.mp h
    have hx := hs x List.mem_cons_self
    have := nd_le (m := m.erase x) h2 fun y hy => (List.mem_erase_of_ne (fun (z : y = x) => h1 (z ▸ hy))).mpr (hs y (List.mem_cons_of_mem _ hy))
    rw [List.length_erase_of_mem hx] at this
    have hp : 0 < m.length := List.length_pos_of_mem hx
    simp only [List.length_cons]
    omega
theorem ten_le {ks : List Int} (h : ks.Nodup) (h0 : ∀ k ∈ ks, 0 ≤ k) (h1 : ∀ k ∈ ks, k < 10) : ks.length ≤ 10 := by
  have := nd_le (m := (List.range 10).map fun (i : Nat) => (i : Int)) h fun k hk => by
    have a := h0 k hk
    have b := h1 k hk
    exact List.mem_map.mpr ⟨k.toNat, by simp; omega, by omega⟩
  simpa using this
theorem KsOk.len {ks : List Int} (h : KsOk ks) : ks.length ≤ 10 := ten_le h.nd h.lo h.hi
def rgI (n : Nat) : List Int := (List.range n).map fun (i : Nat) => (i : Int)
theorem rgI_mem {n : Nat} {i : Int} (h : i ∈ rgI n) : 0 ≤ i ∧ i < n := by
  obtain ⟨k, h1, rfl⟩ := List.mem_map.mp h
  simp at h1
  omega
end Mm
namespace Mm
theorem eq_of_T {α : Type} {r : R α} {x : α} {hs : Hs} (h : r.T fun a h => a = x ∧ h = hs) : r = .ok x hs := by
  obtain ⟨a, h', e, rfl, rfl⟩ := h.eq
  exact e
/-- a def that changes nothing -/
theorem T_callP {np n : Nat} {m : MS} {ds : List D} {hs : Hs} {x : D} (hl : ds.length = np) (hc : closed hs.length x = true)
    (h : ∀ (N : Fs → Hs → Prop) (V : D → Hs → Prop), (V x hs) → (∀ more, V x (hs ++ more)) → (x = .non → ∀ fs, N fs hs) → (x = .non → ∀ fs more, N fs (hs ++ more)) → RS.T (m (start n ds) hs) N V) : callD np n 0 m ds hs = .ok x hs :=
  eq_of_T (T_call0 hl (h _ _ ⟨[], by simp, hc, rfl, rfl⟩ (fun more => ⟨more, rfl, hc, rfl, rfl⟩) (fun e fs => ⟨[], by simp, e.symm, rfl⟩) fun e fs more => ⟨more, rfl, e.symm, rfl⟩))
theorem between_eq {i lo hi : Int} {hs : Hs} : c_is_between [.int i, .int lo, .int hi] hs = .ok (.bl (decide (lo ≤ i) && decide (i ≤ hi))) hs := by
  refine T_callP rfl rfl fun N V h1 _ _ _ => ?_
  have e1 : vIsi [.int i, .ty "int"] hs = .ok (.bl true) hs := by rfl
  have e2 : vIsi [.int i, .ty "bool"] hs = .ok (.bl false) hs := by rfl
  simp only [m_is_between, start,al',am',an',ao',List.replicate,aq',ar', e1, e2, eChain, vLe, vI, sSeq,ST_seq,sAsg,sPar,sExpr,sIf,sRet,sRetN,sNx,ST_bindS,eMeth,eArgs,aCons,aNil,eBin,eUn,eC,eVar,eAnd,eOr,eNot,eIf,tVal,tAnd,tOr,tNot,tYes,gName,gTup,gCons,gNil,gSub,aa',ab',T_bind,T_ok,ba',bb',bc',T_ite,ST_nx,ST_ret,ac',ad',ae',af',ag',if_true,if_false,ah']
  by_cases h : lo ≤ i
  · simp only [h, decide_true, sSeq,ST_seq,sAsg,sPar,sExpr,sIf,sRet,sRetN,sNx,ST_bindS,eMeth,eArgs,aCons,aNil,eBin,eUn,eC,eVar,eAnd,eOr,eNot,eIf,tVal,tAnd,tOr,tNot,tYes,gName,gTup,gCons,gNil,gSub,aa',ab',T_bind,T_ok,ba',bb',bc',T_ite,ST_nx,ST_ret,ac',ad',ae',af',ag',if_true,if_false,ah']
    simpa [h] using h1
  · simp only [h, decide_false, sSeq,ST_seq,sAsg,sPar,sExpr,sIf,sRet,sRetN,sNx,ST_bindS,eMeth,eArgs,aCons,aNil,eBin,eUn,eC,eVar,eAnd,eOr,eNot,eIf,tVal,tAnd,tOr,tNot,tYes,gName,gTup,gCons,gNil,gSub,aa',ab',T_bind,T_ok,ba',bb',bc',T_ite,ST_nx,ST_ret,ac',ad',ae',af',ag',if_true,if_false,ah']
    simpa [h] using h1
theorem kind_eq {i : Int} {hs : Hs} : c_is_kind [.int i] hs = .ok (.bl (decide (0 ≤ i) && decide (i ≤ 9))) hs := by
  refine T_callP rfl rfl fun N V h1 _ _ _ => ?_
  simp only [m_is_kind, start,al',am',an',ao',List.replicate,aq',ar', vSub, between_eq, sSeq,ST_seq,sAsg,sPar,sExpr,sIf,sRet,sRetN,sNx,ST_bindS,eMeth,eArgs,aCons,aNil,eBin,eUn,eC,eVar,eAnd,eOr,eNot,eIf,tVal,tAnd,tOr,tNot,tYes,gName,gTup,gCons,gNil,gSub,aa',ab',T_bind,T_ok,ba',bb',bc',T_ite,ST_nx,ST_ret,ac',ad',ae',af',ag',if_true,if_false,ah']
  exact h1
theorem kind_ok {i : Int} {hs : Hs} (h0 : 0 ≤ i) (h1 : i < 10) : c_is_kind [.int i] hs = .ok (.bl true) hs := by
  rw [kind_eq]
  simp [h0, show i ≤ 9 by omega]
theorem in_str {x : Str} {xs : List Str} {hs : Hs} (h : x ∈ xs) : vIn (.str x) (.rt (xs.map .str)) hs = .ok (.bl true) hs := by
  have e1 : (xs.map D.str).all flatD = true := by
    rw [List.all_eq_true]
    intro d hd
    obtain ⟨y, _, rfl⟩ := List.mem_map.mp hd
    rfl
  have e2 : ((xs.map D.str).any fun z => deq z (.str x)) = true := by
    rw [List.any_eq_true]
    exact ⟨.str x, List.mem_map.mpr ⟨x, h, rfl⟩, by unfold deq; simp⟩
  unfold vIn inB
  simp only [e1, e2, flatD, Bool.and_self, if_true]
theorem way_ok {w : Wy} {hs : Hs} (h : WyOk w) : c_is_way [wyD w] hs = .ok (.bl true) hs := by
  refine T_callP rfl rfl fun N V h1 _ _ _ => ?_
  have e1 : vIsi [wyD w, .ty "tuple"] hs = .ok (.bl true) hs := by rfl
  have e2 : vLen [wyD w] hs = .ok (.int 4) hs := by rfl
  have e3 : vIsi [.str w.r, .ty "str"] hs = .ok (.bl true) hs := by rfl
  have i0 : vIx (wyD w) (.int 0) hs = .ok (.int w.a) hs := rfl
  have i1 : vIx (wyD w) (.int 1) hs = .ok (.int w.b) hs := rfl
  have i2 : vIx (wyD w) (.int 2) hs = .ok (.int w.l) hs := rfl
  have i3 : vIx (wyD w) (.int 3) hs = .ok (.str w.r) hs := rfl
  have e4 : vEq (.int w.a) (.int w.b) hs = .ok (.bl false) hs := by
    simp [vEq, eqB, okd, res, deq, h.ne]
  have e5 : vNe (.int 4) (.int 4) hs = .ok (.bl false) hs := by rw [ne_int]; rfl
  have e6 : vIn (.str w.r) (.rt [.str "same", .str "turn", .str "sort", .str "half", .str "next"]) hs = .ok (.bl true) hs := in_str (xs := rules) h.rr
  simp only [m_is_way, start,al',am',an',ao',List.replicate,aq',ar', e1, e2, e3, i0, i1, i2, i3, e4, e5, e6, kind_ok h.a0 h.a1, kind_ok h.b0 h.b1, between_eq, sSeq,ST_seq,sAsg,sPar,sExpr,sIf,sRet,sRetN,sNx,ST_bindS,eMeth,eArgs,aCons,aNil,eBin,eUn,eC,eVar,eAnd,eOr,eNot,eIf,tVal,tAnd,tOr,tNot,tYes,gName,gTup,gCons,gNil,gSub,aa',ab',T_bind,T_ok,ba',bb',bc',T_ite,ST_nx,ST_ret,ac',ad',ae',af',ag',if_true,if_false,ah']
  have hl : decide (w.l ≤ 9) = true := by have := h.l1; simp; omega
  simp only [h.l0, hl, decide_true, Bool.and_self, e3, i3, e6, sSeq,ST_seq,sAsg,sPar,sExpr,sIf,sRet,sRetN,sNx,ST_bindS,eMeth,eArgs,aCons,aNil,eBin,eUn,eC,eVar,eAnd,eOr,eNot,eIf,tVal,tAnd,tOr,tNot,tYes,gName,gTup,gCons,gNil,gSub,aa',ab',T_bind,T_ok,ba',bb',bc',T_ite,ST_nx,ST_ret,ac',ad',ae',af',ag',if_true,if_false,ah']
  exact h1
theorem dget_none {κ : Type} [DecidableEq κ] {kvs : List (κ × D)} {k : κ} (h : k ∉ kvs.map (·.1)) : dget kvs k = none := by
  induction kvs with
  | nil => rfl
  | cons p r ih =>
    simp only [List.map_cons, List.mem_cons, not_or] at h
    unfold dget
    rw [if_neg (fun z => h.1 z.symm), ih h.2]
theorem dput_new {κ : Type} [DecidableEq κ] {kvs : List (κ × D)} {k : κ} {v : D} (h : k ∉ kvs.map (·.1)) : dput kvs k v = kvs ++ [(k, v)] := by
  unfold dput
  rw [if_neg]
  intro z
  obtain ⟨p, h1, h2⟩ := List.any_eq_true.mp z
  exact h (List.mem_map.mpr ⟨p, h1, of_decide_eq_true h2⟩)
def pk (w : Wy) : List Key := [.inl w.a, .inl w.b]
theorem pk_inj {w y : Wy} (h : pk w = pk y) : w.p = y.p := by
  unfold pk at h
  simp at h
  unfold Wy.p
  rw [h.1, h.2]
theorem needWays_eq {ws : List Wy} {hs : Hs} (h : WaysOk ws) : c_need_ways [.l (ws.map wyD)] hs = .ok .non hs := by
  refine T_callP rfl rfl fun N V h1 h2 h3 h4 => ?_
  simp only [m_need_ways, eDk, eDt, start,al',am',an',ao',List.replicate,aq',ar', sFor, Mm.iEnum2, one1, sSeq,ST_seq,sAsg,sPar,sExpr,sIf,sRet,sRetN,sNx,ST_bindS,eMeth,eArgs,aCons,aNil,eBin,eUn,eC,eVar,eAnd,eOr,eNot,eIf,tVal,tAnd,tOr,tNot,tYes,gName,gTup,gCons,gNil,gSub,aa',ab',T_bind,T_ok,ba',bb',bc',T_ite,ST_nx,ST_ret,ac',ad',ae',af',ag',if_true,if_false,ah']
  refine T_for (fun done fs h' => ∃ (c2 c3 : Option D) (kvs : List (List Key × D)), fs = [some (.l (ws.map wyD)), some (.loc hs.length), c2, c3] ∧ h' = hs ++ [.dt kvs] ∧ kvs.map (·.1) = (ws.take done.length).map pk) _ ?_ ?_ ?_ ⟨_, _, [], rfl, rfl, by simp⟩
  · exact fun _ _ _ _ => trivial
  · rintro done x rest fs h' e ⟨c2, c3, kvs, rfl, rfl, hk⟩
    have ex : (enumD (ws.map wyD))[done.length]? = some x := by rw [e]; simp
    obtain ⟨y, ey, rfl⟩ := enum_get ex
    rw [List.getElem?_map] at ey
    obtain ⟨w, ew, rfl⟩ := Option.map_eq_some_iff.mp ey
    obtain ⟨hlt, ew2⟩ := List.getElem?_eq_some_iff.mp ew
    have hw : w ∈ ws := by rw [← ew2]; exact List.getElem_mem hlt
    have hlt30 : ¬ (30 : Int) ≤ (done.length : Int) := by have := h.len; omega
    have hnew : pk w ∉ kvs.map (·.1) := by
      rw [hk]
      intro hm
      obtain ⟨y, hy, ey⟩ := List.mem_map.mp hm
      obtain ⟨i, hi, ei⟩ := List.mem_iff_getElem.mp hy
      simp only [List.length_take] at hi
      rw [List.getElem_take] at ei
      have ep := pk_inj ey
      have hnd := h.nd
      have e1 : (ws.map Wy.p)[i]'(by simp; omega) = (ws.map Wy.p)[done.length]'(by simpa using hlt) := by
        simp only [List.getElem_map]
        rw [ei, ew2, ep]
      have := (List.getElem_inj hnd).mp e1
      omega
    have esl : ∀ h0, vSl (wyD w) none (some 2) h0 = .ok (prD w.p) h0 := fun h0 => rfl
    have eloc : (hs ++ [O.dt kvs])[hs.length]? = some (O.dt kvs) := by simp
    have ein : vIn (prD w.p) (.loc hs.length) (hs ++ [.dt kvs]) = .ok (.bl false) (hs ++ [.dt kvs]) := by
      have ekey : keysOf (prD w.p) = some (pk w) := rfl
      unfold vIn inB
      simp only [listOf, dlook, eloc, ekey, Option.map_some, dget_none hnew]
      rfl
    have eset : setIx (.loc hs.length) (prD w.p) (.bl true) (hs ++ [.dt kvs]) = .ok () (hs ++ [.dt (kvs ++ [(pk w, .bl true)])]) := by
      have ekey : keysOf (prD w.p) = some (pk w) := rfl
      have hl : kvs.length < 100000 := by
        have := congrArg List.length hk
        simp at this
        have := h.len
        omega
      unfold setIx
      simp only [eloc, ekey, if_pos hl, dput_new hnew]
      simp
    simp only [body_need_ways_0, vGe, vI, hlt30, decide_false, way_ok (h.ok w hw), eSl, oNone, oSome, esl, ein, eset, sSeq,ST_seq,sAsg,sPar,sExpr,sIf,sRet,sRetN,sNx,ST_bindS,eMeth,eArgs,aCons,aNil,eBin,eUn,eC,eVar,eAnd,eOr,eNot,eIf,tVal,tAnd,tOr,tNot,tYes,gName,gTup,gCons,gNil,gSub,aa',ab',T_bind,T_ok,ba',bb',bc',T_ite,ST_nx,ST_ret,ac',ad',ae',af',ag',if_true,if_false,ah']
    refine ⟨_, _, kvs ++ [(pk w, .bl true)], rfl, rfl, ?_⟩
    rw [List.map_append, hk]
    simp only [List.length_append, List.length_cons, List.length_nil]
    rw [List.take_add_one, ew]
    simp
  · rintro fs h' ⟨c2, c3, kvs, rfl, rfl, hk⟩
    exact h4 rfl _ _
theorem deq_nilT : ∀ ds : List D, deq (.t ds) (.t []) = ds.isEmpty
  | [] => by unfold deq deqL; rfl
  | _ :: _ => by unfold deq deqL; rfl
theorem okd_t {n : Nat} {ds : List D} : okd n (.t ds) = okL n ds := by unfold okd; rfl
theorem intsOf_zi : ∀ ns : List Int, intsOf (zi ns) = some ns
  | [] => rfl
  | i :: r => by
    show intsOf (.int i :: zi r) = _
    unfold intsOf
    rw [intsOf_zi r]; rfl
theorem areKinds_eq {ks : List Int} {hs : Hs} (h : KsOk ks) : c_are_kinds [.t (zi ks)] hs = .ok (.bl true) hs := by
  refine T_callP rfl rfl fun N V h1 h2 h3 h4 => ?_
  have e1 : vIsi [.t (zi ks), .ty "tuple"] hs = .ok (.bl true) hs := by rfl
  have n0 : okL 60 [] = true := by unfold okL; rfl
  have hl := h.len
  have e2 : vEq (.t (zi ks)) (.t []) hs = .ok (.bl false) hs := by
    unfold vEq eqB
    simp only [res, okd_t, okL_zi 59 ks, n0, deq_nilT, Bool.and_self, if_true]
    cases ks with
    | nil => exact absurd rfl h.ne
    | cons a r => rfl
  have e3 : lcL none (Mm.gName 1) (tNot (tVal (eArgs c_is_kind (aCons (eVar 1) aNil)))) (eVar 1) (wipe [some (.t (zi ks)), none] [1]) (zi ks) [] hs = .ok ([] ++ ((zi ks).filter fun _ => false).map id) hs := by
    refine lc_eq (k := none) (hs := hs) (fun _ => false) id trivial (zi ks) [] (fun x hx => ?_) (by simp; omega)
    obtain ⟨i, hi, rfl⟩ := mem_zi hx
    refine ⟨[some (.t (zi ks)), some (.int i)], rfl, ?_, fun z => by cases z⟩
    simp only [kind_ok (h.lo i hi) (h.hi i hi), sSeq,ST_seq,sAsg,sPar,sExpr,sIf,sRet,sRetN,sNx,ST_bindS,eMeth,eArgs,aCons,aNil,eBin,eUn,eC,eVar,eAnd,eOr,eNot,eIf,tVal,tAnd,tOr,tNot,tYes,gName,gTup,gCons,gNil,gSub,aa',ab',T_bind,T_ok,ba',bb',bc',T_ite,ST_nx,ST_ret,ac',ad',ae',af',ag',if_true,if_false,ah']
  have e4 : vEq (.l []) (.l []) hs = .ok (.bl true) hs := by
    unfold vEq eqB
    simp only [res, okd_l, n0, deq_nil, Bool.and_self, if_true]
    rfl
  have e5 : vLenSetT (.t (zi ks)) hs = .ok (.int ks.length) hs := by
    unfold vLenSetT
    simp only [intsOf_zi]
    rw [if_pos ⟨by omega, h.nd⟩]
  have e6 : vLen [.t (zi ks)] hs = .ok (.int ks.length) hs := by
    unfold vLen
    simp [one1, seqOf]
  have e7 : vEq (.int ks.length) (.int ks.length) hs = .ok (.bl true) hs := by
    simp [vEq, eqB, okd, res, deq]
  have z0 : (0 : Nat) ≤ 100000 := Nat.zero_le _
  simp only [m_are_kinds, start,al',am',an',ao',List.replicate,aq',ar', vTup, z0, e1, e2, eLc, iSeq, onlyT, sSeq,ST_seq,sAsg,sPar,sExpr,sIf,sRet,sRetN,sNx,ST_bindS,eMeth,eArgs,aCons,aNil,eBin,eUn,eC,eVar,eAnd,eOr,eNot,eIf,tVal,tAnd,tOr,tNot,tYes,gName,gTup,gCons,gNil,gSub,aa',ab',T_bind,T_ok,ba',bb',bc',T_ite,ST_nx,ST_ret,ac',ad',ae',af',ag',if_true,if_false,ah']
  rw [e3]
  have ef : (zi ks).filter (fun _ => false) = [] := by simp
  simp only [ef, List.map_nil, List.append_nil, vLst, List.length_nil, z0, e4, e5, e6, e7, sSeq,ST_seq,sAsg,sPar,sExpr,sIf,sRet,sRetN,sNx,ST_bindS,eMeth,eArgs,aCons,aNil,eBin,eUn,eC,eVar,eAnd,eOr,eNot,eIf,tVal,tAnd,tOr,tNot,tYes,gName,gTup,gCons,gNil,gSub,aa',ab',T_bind,T_ok,ba',bb',bc',T_ite,ST_nx,ST_ret,ac',ad',ae',af',ag',if_true,if_false,ah']
  exact h1
theorem needKinds_eq {ks : List Int} {hs : Hs} (h : KsOk ks) : c_need_kinds [.t (zi ks)] hs = .ok .non hs := by
  refine T_callP rfl rfl fun N V h1 h2 h3 h4 => ?_
  simp only [m_need_kinds, start,al',am',an',ao',List.replicate,aq',ar', areKinds_eq h, sSeq,ST_seq,sAsg,sPar,sExpr,sIf,sRet,sRetN,sNx,ST_bindS,eMeth,eArgs,aCons,aNil,eBin,eUn,eC,eVar,eAnd,eOr,eNot,eIf,tVal,tAnd,tOr,tNot,tYes,gName,gTup,gCons,gNil,gSub,aa',ab',T_bind,T_ok,ba',bb',bc',T_ite,ST_nx,ST_ret,ac',ad',ae',af',ag',if_true,if_false,ah']
  exact h3 rfl _
end Mm
namespace Mm
structure Rt where
  l : Int
  n : Int
  r : List Int
def rtD (x : Rt) : D := .t [.int x.l, .int x.n, .t (zi x.r)]
abbrev Kv := List (Int × Rt)
def fk (kv : Kv) : List (Key × D) := kv.map fun p => (.inl p.1, rtD p.2)
def lk : Kv → Int → Option Rt
  | [], _ => none
  | p :: r, k => if p.1 = k then some p.2 else lk r k
def ptI (kv : Kv) (g : Int) (x : Rt) : Kv := if (kv.any fun p => decide (p.1 = g)) = true then kv.map (fun p => if p.1 = g then (p.1, x) else p) else kv ++ [(g, x)]
theorem fk_get : ∀ (kv : Kv) (g : Int), dget (fk kv) (.inl g) = (lk kv g).map rtD
  | [], g => rfl
  | p :: r, g => by
    show dget ((Sum.inl p.1, rtD p.2) :: fk r) (.inl g) = _
    unfold dget lk
    by_cases h : p.1 = g
    · simp [h]
    · simp [h, fk_get r g]
theorem fk_put (kv : Kv) (g : Int) (x : Rt) : dput (fk kv) (.inl g) (rtD x) = fk (ptI kv g x) := by
  have e : ((fk kv).any fun p => decide (p.1 = (Sum.inl g : Key))) = kv.any fun p => decide (p.1 = g) := by
    unfold fk
    rw [List.any_map]
    congr 1
    funext p
    simp
  unfold dput ptI
  rw [e]
  split
  · unfold fk
    rw [List.map_map, List.map_map]
    apply List.map_congr_left
    intro p _
    by_cases h : p.1 = g <;> simp [h]
  · unfold fk
    rw [List.map_append]; rfl
theorem fk_drop (kv : Kv) (g : Int) : ddrop (fk kv) (.inl g) = fk (kv.filter fun p => decide (p.1 ≠ g)) := by
  unfold ddrop fk
  rw [List.filter_map]
  congr 1
  apply List.filter_congr
  intro p _
  simp
theorem lk_none {kv : Kv} {g : Int} : lk kv g = none ↔ g ∉ kv.map (·.1) := by
  induction kv with
  | nil => simp [lk]
  | cons p r ih =>
    unfold lk
    by_cases h : p.1 = g
    · simp [h]
    · rw [if_neg h, ih]
      simp [Ne.symm h]
theorem lk_mem {kv : Kv} {g : Int} {x : Rt} (h : lk kv g = some x) : (g, x) ∈ kv := by
  induction kv with
  | nil => cases h
  | cons p r ih =>
    unfold lk at h
    by_cases e : p.1 = g
    · rw [if_pos e] at h
      cases h
      rw [← e]
      exact List.mem_cons_self
    · rw [if_neg e] at h
      exact List.mem_cons_of_mem _ (ih h)
theorem lk_nd {kv : Kv} {g : Int} {x : Rt} (nd : (kv.map (·.1)).Nodup) (h : (g, x) ∈ kv) : lk kv g = some x := by
  induction kv with
  | nil => cases h
  | cons p r ih =>
    simp only [List.map_cons, List.nodup_cons] at nd
    unfold lk
    rcases List.mem_cons.mp h with e | e
    · rw [← e]; simp
    · have : p.1 ≠ g := fun z => nd.1 (by rw [z]; exact List.mem_map.mpr ⟨_, e, rfl⟩)
      rw [if_neg this, ih nd.2 e]
theorem any_key {kv : Kv} {g : Int} : (kv.any fun p => decide (p.1 = g)) = true ↔ g ∈ kv.map (·.1) := by
  rw [List.any_eq_true, List.mem_map]
  exact ⟨fun ⟨p, h, e⟩ => ⟨p, h, of_decide_eq_true e⟩, fun ⟨p, h, e⟩ => ⟨p, h, decide_eq_true e⟩⟩
theorem pt_keys {kv : Kv} {g : Int} {x : Rt} : (ptI kv g x).map (·.1) = if g ∈ kv.map (·.1) then kv.map (·.1) else kv.map (·.1) ++ [g] := by
  unfold ptI
  by_cases h : g ∈ kv.map (·.1)
  · rw [if_pos h, if_pos (any_key.mpr h), List.map_map]
    apply List.map_congr_left
    intro p _
    by_cases e : p.1 = g <;> simp [e]
  · rw [if_neg h, if_neg (fun z => h (any_key.mp z)), List.map_append]; rfl
theorem pt_mem {kv : Kv} {g : Int} {x : Rt} {p : Int × Rt} (h : p ∈ ptI kv g x) : p = (g, x) ∨ (p ∈ kv ∧ p.1 ≠ g) := by
  unfold ptI at h
  split at h
  · obtain ⟨q, h1, h2⟩ := List.mem_map.mp h
    by_cases e : q.1 = g
    · rw [if_pos e] at h2
      exact .inl (by rw [← h2, e])
    · rw [if_neg e] at h2
      exact .inr (by rw [← h2]; exact ⟨h1, e⟩)
  · rename_i hn
    rcases List.mem_append.mp h with z | z
    · exact .inr ⟨z, fun e => hn (any_key.mpr (List.mem_map.mpr ⟨p, z, e⟩))⟩
    · exact .inl (by simpa using z)
theorem pt_nd {kv : Kv} {g : Int} {x : Rt} (h : (kv.map (·.1)).Nodup) : ((ptI kv g x).map (·.1)).Nodup := by
  rw [pt_keys]
  split
  · exact h
  · rename_i hn
    exact List.nodup_append.mpr ⟨h, by simp, fun a ha b hb z => hn (by
      have : b = g := by simpa using hb
      rw [← this, ← z]; exact ha)⟩
theorem pt_sub {kv : Kv} {g : Int} {x : Rt} {v : Int} : v ∈ (ptI kv g x).map (·.1) ↔ v = g ∨ v ∈ kv.map (·.1) := by
  rw [pt_keys]
  split
  · rename_i h
    constructor
    · exact .inr
    · rintro (rfl | z)
      · exact h
      · exact z
  · simp [or_comm]
theorem okd_rt (x : Rt) (n : Nat) : okd (n + 4) (rtD x) = true := by
  unfold rtD
  rw [okd_t]
  unfold okL okL okL okL
  simp [okd_t, okL_zi, okd]
theorem like_zi : ∀ xs ys : List Int, likeL (zi xs) (zi ys) = true
  | [], _ => by unfold likeL; rfl
  | _ :: _, [] => by simp [zi, likeL]
  | x :: xs, y :: ys => by
    show likeL (.int x :: zi xs) (.int y :: zi ys) = true
    unfold likeL
    rw [like_zi xs ys]
    simp [likeD]
theorem like_rt (x y : Rt) : likeD (rtD x) (rtD y) = true := by
  simp [rtD, likeD, likeL, like_zi]
theorem cmp_rt (x y : Rt) : cmpOk (rtD x) (rtD y) = true := by
  unfold cmpOk
  rw [okd_rt x 56, okd_rt y 56, like_rt]
  rfl
theorem min2_rt {x y : Rt} {hs : Hs} : vMin2 [rtD x, rtD y] hs = .ok (rtD (if dlt (rtD y) (rtD x) = true then y else x)) hs := by
  unfold vMin2 two2
  simp only [cmp_rt, Bool.and_self, if_true]
  split <;> rfl
theorem minOk_rt (kv : List Rt) : minOk (kv.map rtD) = true := by
  unfold minOk
  rw [List.all_eq_true]
  intro d hd
  obtain ⟨x, _, rfl⟩ := List.mem_map.mp hd
  rw [okd_rt x 56]
  simp only [Bool.true_and, Bool.and_eq_true, List.all_eq_true]
  refine ⟨rfl, fun e he => ?_⟩
  obtain ⟨y, _, rfl⟩ := List.mem_map.mp he
  exact like_rt x y
/-- the first of the least -/
def lsR (x : Rt) (xs : List Rt) : Rt := xs.foldl (fun a y => if dlt (rtD y) (rtD a) = true then y else a) x
theorem least_rt (x : Rt) (xs : List Rt) : leastD (rtD x) (xs.map rtD) = rtD (lsR x xs) := by
  unfold leastD lsR
  induction xs generalizing x with
  | nil => rfl
  | cons y r ih =>
    simp only [List.map_cons, List.foldl_cons]
    split
    · exact ih y
    · exact ih x
theorem lsR_mem (x : Rt) (xs : List Rt) : lsR x xs ∈ x :: xs := by
  unfold lsR
  induction xs generalizing x with
  | nil => exact List.mem_cons_self
  | cons y r ih =>
    simp only [List.foldl_cons]
    split
    · exact List.mem_cons_of_mem _ (ih y)
    · rcases List.mem_cons.mp (ih x) with z | z
      · rw [z]; exact List.mem_cons_self
      · exact List.mem_cons_of_mem _ (List.mem_cons_of_mem _ z)
theorem minV_rt {n : Nat} {p : Int × Rt} {r : Kv} {hs : Hs} (h : hs[n]? = some (.dk (fk (p :: r)))) : vMinV (.loc n) hs = .ok (rtD (lsR p.2 (r.map (·.2)))) hs := by
  have e1 : (fk (p :: r)).map (·.2) = (p.2 :: r.map (·.2)).map rtD := by
    unfold fk
    simp [List.map_map, Function.comp_def]
  have e2 : (fk r).map (·.2) = (r.map (·.2)).map rtD := by
    unfold fk
    simp [List.map_map, Function.comp_def]
  unfold vMinV
  simp only [dictOf, h]
  show (if minOk ((fk (p :: r)).map (·.2)) = true then R.ok (leastD (rtD p.2) ((fk r).map (·.2))) hs else .bad) = _
  rw [e1, minOk_rt, if_pos rfl, e2, least_rt]
def rowOf (best : Rt) (w : Wy) : Rt := ⟨best.l + w.l, best.n + 1, best.r ++ [w.b]⟩
def putRow (lev : Kv) (best : Rt) (w : Wy) : Kv := ptI lev w.b (if dlt (rtD (rowOf best w)) (rtD ((lk lev w.b).getD (rowOf best w))) = true then rowOf best w else (lk lev w.b).getD (rowOf best w))
def relax (found lev : Kv) (here : Int) (best : Rt) (w : Wy) : Kv := if w.a = here ∧ w.b ∉ found.map (·.1) then putRow lev best w else lev
theorem relax_T {c0 c1 c10 : Option D} {hs : Hs} {found lev : Kv} {here : Int} {best : Rt} {w : Wy} (hl : best.r.length < 1000) (hlev : lev.length < 1000) {N : Fs → Hs → Prop} {V : D → Hs → Prop}
    (hN : ∀ c10, N [c0, c1, some (.loc hs.length), some (.loc (hs.length + 1)), some (rtD best), some (.int here), some (.int w.a), some (.int w.b), some (.int w.l), some (.str w.r), c10] (hs ++ [.dk (fk found), .dk (fk (relax found lev here best w))])) :
    RS.T (body_routes_from_0 [c0, c1, some (.loc hs.length), some (.loc (hs.length + 1)), some (rtD best), some (.int here), some (.int w.a), some (.int w.b), some (.int w.l), some (.str w.r), c10] (hs ++ [.dk (fk found), .dk (fk lev)])) N V := by
  have e1 : ∀ h0, vEq (.int w.a) (.int here) h0 = .ok (.bl (decide (w.a = here))) h0 := fun h0 => by
    simp [vEq, eqB, okd, res, deq]
    by_cases h : w.a = here <;> simp [h]
  have g0 : (hs ++ [O.dk (fk found), O.dk (fk lev)])[hs.length]? = some (.dk (fk found)) := by simp
  have g1 : (hs ++ [O.dk (fk found), O.dk (fk lev)])[hs.length + 1]? = some (.dk (fk lev)) := by simp
  have e2 : vNotIn (.int w.b) (.loc hs.length) (hs ++ [.dk (fk found), .dk (fk lev)]) = .ok (.bl (decide (w.b ∉ found.map (·.1)))) (hs ++ [.dk (fk found), .dk (fk lev)]) := by
    unfold vNotIn inB
    simp only [listOf, dlook, g0, keyOf, Option.map_some, fk_get]
    cases e : lk found w.b with
    | none => simp [lk_none.mp e]
    | some x =>
      have : w.b ∈ found.map (·.1) := List.mem_map.mpr ⟨_, lk_mem e, rfl⟩
      simp only [Option.map_some, Option.isSome_some, Bool.not_true, this, not_true, decide_false]
  simp only [body_routes_from_0, e1, sSeq,ST_seq,sAsg,sPar,sExpr,sIf,sRet,sRetN,sNx,ST_bindS,eMeth,eArgs,aCons,aNil,eBin,eUn,eC,eVar,eAnd,eOr,eNot,eIf,tVal,tAnd,tOr,tNot,tYes,gName,gTup,gCons,gNil,gSub,aa',ab',T_bind,T_ok,ba',bb',bc',T_ite,ST_nx,ST_ret,ac',ad',ae',af',ag',if_true,if_false,ah']
  unfold relax at hN
  by_cases h1 : w.a = here
  · simp only [h1, decide_true, e2, sSeq,ST_seq,sAsg,sPar,sExpr,sIf,sRet,sRetN,sNx,ST_bindS,eMeth,eArgs,aCons,aNil,eBin,eUn,eC,eVar,eAnd,eOr,eNot,eIf,tVal,tAnd,tOr,tNot,tYes,gName,gTup,gCons,gNil,gSub,aa',ab',T_bind,T_ok,ba',bb',bc',T_ite,ST_nx,ST_ret,ac',ad',ae',af',ag',if_true,if_false,ah']
    by_cases h2 : w.b ∈ found.map (·.1)
    · simp only [h2, not_true, decide_false, sSeq,ST_seq,sAsg,sPar,sExpr,sIf,sRet,sRetN,sNx,ST_bindS,eMeth,eArgs,aCons,aNil,eBin,eUn,eC,eVar,eAnd,eOr,eNot,eIf,tVal,tAnd,tOr,tNot,tYes,gName,gTup,gCons,gNil,gSub,aa',ab',T_bind,T_ok,ba',bb',bc',T_ite,ST_nx,ST_ret,ac',ad',ae',af',ag',if_true,if_false,ah']
      simp only [h1, h2, not_true, and_false, if_false] at hN
      exact hN _
    · simp only [h1, h2, not_false_eq_true, and_self, if_true] at hN
      have i0 : ∀ h0, vIx (rtD best) (.int 0) h0 = .ok (.int best.l) h0 := fun _ => rfl
      have i1 : ∀ h0, vIx (rtD best) (.int 1) h0 = .ok (.int best.n) h0 := fun _ => rfl
      have i2 : ∀ h0, vIx (rtD best) (.int 2) h0 = .ok (.t (zi best.r)) h0 := fun _ => rfl
      have z1 : ∀ d : D, ([d] : List D).length ≤ 100000 := fun _ => by simp
      have z3 : ∀ d e f : D, ([d, e, f] : List D).length ≤ 100000 := fun _ _ _ => by simp
      have a1 : ∀ h0 (i j : Int), vAdd (.int i) (.int j) h0 = .ok (.int (i + j)) h0 := fun _ _ _ => rfl
      have a2 : ∀ h0, vAdd (.t (zi best.r)) (.t [.int w.b]) h0 = .ok (.t (zi (best.r ++ [w.b]))) h0 := fun h0 => by
        have : (zi best.r).length + ([D.int w.b]).length ≤ 100000 := by simp; omega
        show (if (zi best.r).length + ([D.int w.b]).length ≤ 100000 then R.ok (D.t (zi best.r ++ [D.int w.b])) h0 else .bad) = _
        rw [if_pos this]
        simp [zi]
      have er : D.t [.int (best.l + w.l), .int (best.n + 1), .t (zi (best.r ++ [w.b]))] = rtD (rowOf best w) := rfl
      have eD : isDct (.loc (hs.length + 1)) (hs ++ [.dk (fk found), .dk (fk lev)]) = true := by
        unfold isDct
        simp only [g1]
      have eG : mGet2 (.loc (hs.length + 1)) [.int w.b, rtD (rowOf best w)] (hs ++ [.dk (fk found), .dk (fk lev)]) = .ok (rtD ((lk lev w.b).getD (rowOf best w))) (hs ++ [.dk (fk found), .dk (fk lev)]) := by
        unfold mGet2
        simp only [two2, dlook, g1, keyOf, Option.map_some, fk_get]
        cases lk lev w.b <;> rfl
      have eS : ∀ x : Rt, setIx (.loc (hs.length + 1)) (.int w.b) (rtD x) (hs ++ [.dk (fk found), .dk (fk lev)]) = .ok () (hs ++ [.dk (fk found), .dk (fk (ptI lev w.b x))]) := fun x => by
        have : (fk lev).length < 100000 := by unfold fk; simp; omega
        unfold setIx
        simp only [g1, keyOf, if_pos this, fk_put]
        simp
      simp only [h2, not_false_eq_true, decide_true, i0, i1, i2, a1, a2, vTup, z1, z3, er, eD, eG, min2_rt, eS, sSeq,ST_seq,sAsg,sPar,sExpr,sIf,sRet,sRetN,sNx,ST_bindS,eMeth,eArgs,aCons,aNil,eBin,eUn,eC,eVar,eAnd,eOr,eNot,eIf,tVal,tAnd,tOr,tNot,tYes,gName,gTup,gCons,gNil,gSub,aa',ab',T_bind,T_ok,ba',bb',bc',T_ite,ST_nx,ST_ret,ac',ad',ae',af',ag',if_true,if_false,ah']
      exact hN _
  · simp only [h1, decide_false, sSeq,ST_seq,sAsg,sPar,sExpr,sIf,sRet,sRetN,sNx,ST_bindS,eMeth,eArgs,aCons,aNil,eBin,eUn,eC,eVar,eAnd,eOr,eNot,eIf,tVal,tAnd,tOr,tNot,tYes,gName,gTup,gCons,gNil,gSub,aa',ab',T_bind,T_ok,ba',bb',bc',T_ite,ST_nx,ST_ret,ac',ad',ae',af',ag',if_true,if_false,ah']
    simp only [h1, false_and, if_false] at hN
    exact hN _
end Mm
namespace Mm
/-- what can be reached -/
inductive Rch (ws : List Wy) (b : Int) : Int → Prop
  | here : Rch ws b b
  | step {w : Wy} : Rch ws b w.a → w ∈ ws → Rch ws b w.b
structure Ent (p : Int × Rt) (m : Nat) : Prop where
  last : p.2.r.getLast? = some p.1
  len : p.2.r.length ≤ m
structure Lev (ws : List Wy) (b : Int) (found lev : Kv) : Prop where
  fnd : (found.map (·.1)).Nodup
  lnd : (lev.map (·.1)).Nodup
  dis : ∀ v, v ∈ lev.map (·.1) → v ∉ found.map (·.1)
  lo : ∀ v, v ∈ found.map (·.1) ∨ v ∈ lev.map (·.1) → 0 ≤ v ∧ v < 10
  rc : ∀ v, v ∈ found.map (·.1) ∨ v ∈ lev.map (·.1) → Rch ws b v
  ent : ∀ p ∈ lev, Ent p (found.length + 1)
theorem Lev.llen {ws : List Wy} {b : Int} {found lev : Kv} (h : Lev ws b found lev) : lev.length ≤ 10 := by
  have := ten_le h.lnd (fun k hk => (h.lo k (.inr hk)).1) (fun k hk => (h.lo k (.inr hk)).2)
  simpa using this
theorem Lev.both {ws : List Wy} {b : Int} {found lev : Kv} (h : Lev ws b found lev) (hn : lev ≠ []) : found.length < 10 := by
  cases lev with
  | nil => exact absurd rfl hn
  | cons p r =>
    have hp : p.1 ∈ (p :: r).map (·.1) := by simp
    have := ten_le (ks := p.1 :: found.map (·.1)) (List.nodup_cons.mpr ⟨h.dis _ hp, h.fnd⟩) (fun k hk => by
      rcases List.mem_cons.mp hk with rfl | z
      · exact (h.lo _ (.inr hp)).1
      · exact (h.lo _ (.inl z)).1) (fun k hk => by
      rcases List.mem_cons.mp hk with rfl | z
      · exact (h.lo _ (.inr hp)).2
      · exact (h.lo _ (.inl z)).2)
    simp at this
    omega
theorem put_keys {lev : Kv} {best : Rt} {w : Wy} {v : Int} : v ∈ (putRow lev best w).map (·.1) ↔ v = w.b ∨ v ∈ lev.map (·.1) := pt_sub
theorem relax_keys {found lev : Kv} {here : Int} {best : Rt} {w : Wy} {v : Int} : v ∈ (relax found lev here best w).map (·.1) ↔ v ∈ lev.map (·.1) ∨ (w.a = here ∧ w.b ∉ found.map (·.1) ∧ v = w.b) := by
  unfold relax
  split
  · rename_i h
    rw [put_keys]
    exact ⟨fun z => z.elim (fun e => .inr ⟨h.1, h.2, e⟩) .inl, fun z => z.elim .inr fun e => .inl e.2.2⟩
  · rename_i h
    exact ⟨.inl, fun z => z.elim id fun e => absurd ⟨e.1, e.2.1⟩ h⟩
theorem Lev.relax {ws : List Wy} {b : Int} {found lev : Kv} {here : Int} {best : Rt} {w : Wy} (h : Lev ws b found lev) (hw : w ∈ ws) (ok : WyOk w) (hh : here ∈ found.map (·.1)) (hb : best.r.length + 1 ≤ found.length + 1) : Lev ws b found (relax found lev here best w) := by
  by_cases c : w.a = here ∧ w.b ∉ found.map (·.1)
  · refine ⟨h.fnd, ?_, fun v hv => ?_, fun v hv => ?_, fun v hv => ?_, fun p hp => ?_⟩
    · unfold Mm.relax
      rw [if_pos c]
      exact pt_nd h.lnd
    · rcases relax_keys.mp hv with z | z
      · exact h.dis v z
      · rw [z.2.2]; exact z.2.1
    · rcases hv with z | z
      · exact h.lo v (.inl z)
      · rcases relax_keys.mp z with z | z
        · exact h.lo v (.inr z)
        · rw [z.2.2]; exact ⟨ok.b0, ok.b1⟩
    · rcases hv with z | z
      · exact h.rc v (.inl z)
      · rcases relax_keys.mp z with z | z
        · exact h.rc v (.inr z)
        · rw [z.2.2]
          refine .step ?_ hw
          rw [z.1]
          exact h.rc _ (.inl hh)
    · unfold Mm.relax at hp
      rw [if_pos c] at hp
      rcases pt_mem hp with z | z
      · have er : Ent (w.b, rowOf best w) (found.length + 1) := ⟨by simp [rowOf], by simp [rowOf]; omega⟩
        rw [z]
        cases e : lk lev w.b with
        | none => simp only [Option.getD_none, ite_self]; exact er
        | some x =>
          simp only [Option.getD_some]
          split
          · exact er
          · exact h.ent _ (lk_mem e)
      · exact h.ent p z.1
  · unfold Mm.relax
    rw [if_neg c]
    exact h
theorem closed_rt {n : Nat} (x : Rt) : closed n (rtD x) = true := by
  simp [rtD, closed, closedL, closed_zi]
end Mm
namespace Mm
def lltB : List Int → List Int → Bool
  | [], [] => false
  | [], _ :: _ => true
  | _ :: _, [] => false
  | x :: xs, y :: ys => if x = y then lltB xs ys else decide (x < y)
def ltB (x y : Rt) : Bool := if x.l = y.l then (if x.n = y.n then lltB x.r y.r else decide (x.n < y.n)) else decide (x.l < y.l)
theorem dlt_zi : ∀ xs ys : List Int, dltL (zi xs) (zi ys) = lltB xs ys
  | [], [] => by simp [zi, dltL, lltB]
  | [], _ :: _ => by simp [zi, dltL, lltB]
  | _ :: _, [] => by simp [zi, dltL, lltB]
  | x :: xs, y :: ys => by
    show dltL (.int x :: zi xs) (.int y :: zi ys) = _
    unfold dltL lltB
    rw [dlt_zi xs ys]
    by_cases h : x = y
    · simp [h, deq]
    · simp [h, deq, dlt]
theorem deq_zi : ∀ xs ys : List Int, deqL (zi xs) (zi ys) = decide (xs = ys)
  | [], [] => by simp [zi, deqL]
  | [], _ :: _ => by simp [zi, deqL]
  | _ :: _, [] => by simp [zi, deqL]
  | x :: xs, y :: ys => by
    show deqL (.int x :: zi xs) (.int y :: zi ys) = _
    unfold deqL
    rw [deq_zi xs ys]
    by_cases h : x = y <;> simp [h, deq]
theorem llt_irr : ∀ xs : List Int, lltB xs xs = false
  | [] => rfl
  | x :: xs => by unfold lltB; rw [if_pos rfl]; exact llt_irr xs
theorem dlt_rt (x y : Rt) : dlt (rtD x) (rtD y) = ltB x y := by
  unfold ltB
  by_cases h1 : x.l = y.l
  · by_cases h2 : x.n = y.n
    · by_cases h3 : x.r = y.r
      · simp [rtD, dlt, dltL, deq, h1, h2, h3, deq_zi, llt_irr]
      · simp [rtD, dlt, dltL, deq, h1, h2, h3, deq_zi, dlt_zi]
    · simp [rtD, dlt, dltL, deq, h1, h2]
  · simp [rtD, dlt, dltL, deq, h1]
theorem llt_tri : ∀ {xs ys : List Int}, lltB xs ys = false → lltB ys xs = false → xs = ys
  | [], [], _, _ => rfl
  | [], _ :: _, h, _ => by simp [lltB] at h
  | _ :: _, [], _, h => by simp [lltB] at h
  | x :: xs, y :: ys, h1, h2 => by
    unfold lltB at h1 h2
    by_cases h : x = y
    · subst h
      simp only [if_true] at h1 h2
      rw [llt_tri h1 h2]
    · rw [if_neg h] at h1
      rw [if_neg (Ne.symm h)] at h2
      simp at h1 h2
      omega
theorem llt_asym : ∀ {xs ys : List Int}, lltB xs ys = true → lltB ys xs = false
  | [], [], h => by simp [lltB] at h
  | [], _ :: _, _ => rfl
  | _ :: _, [], h => by simp [lltB] at h
  | x :: xs, y :: ys, h1 => by
    unfold lltB at h1 ⊢
    by_cases h : x = y
    · subst h
      simp only [if_true] at h1 ⊢
      exact llt_asym h1
    · rw [if_neg h] at h1
      rw [if_neg (Ne.symm h)]
      simp at h1 ⊢
      omega
theorem llt_trans : ∀ {xs ys zs : List Int}, lltB ys xs = false → lltB zs ys = false → lltB zs xs = false
  | _, _, [], h1, h2 => by
    rename_i xs ys
    cases ys with
    | nil => exact h1
    | cons y ys => simp [lltB] at h2
  | xs, [], z :: zs, h1, h2 => by
    cases xs with
    | nil => rfl
    | cons x xs => simp [lltB] at h1
  | [], y :: ys, z :: zs, h1, h2 => rfl
  | x :: xs, y :: ys, z :: zs, h1, h2 => by
    unfold lltB at h1 h2 ⊢
    by_cases a : y = x
    · by_cases b : z = y
      · subst a b
        simp only [if_true] at h1 h2 ⊢
        exact llt_trans h1 h2
      · subst a
        rw [if_neg b] at h2 ⊢
        exact h2
    · rw [if_neg a] at h1
      by_cases b : z = y
      · subst b
        rw [if_neg a]; exact h1
      · rw [if_neg b] at h2
        simp at h1 h2
        by_cases c : z = x
        · omega
        · rw [if_neg c]; simp; omega
/-- no worse -/
def leR (x y : Rt) : Prop := ltB y x = false
theorem le_refl (x : Rt) : leR x x := by unfold leR ltB; simp [llt_irr]
theorem le_of_lt {x y : Rt} (h : ltB x y = true) : leR x y := by
  unfold leR
  unfold ltB at h ⊢
  by_cases h1 : x.l = y.l
  · rw [if_pos h1] at h
    rw [if_pos h1.symm]
    by_cases h2 : x.n = y.n
    · rw [if_pos h2] at h
      rw [if_pos h2.symm]
      exact llt_asym h
    · rw [if_neg h2] at h
      rw [if_neg (Ne.symm h2)]
      simp at h ⊢
      omega
  · rw [if_neg h1] at h
    rw [if_neg (Ne.symm h1)]
    simp at h ⊢
    omega
theorem le_anti {x y : Rt} (h1 : leR x y) (h2 : leR y x) : x = y := by
  obtain ⟨l, n, r⟩ := x
  obtain ⟨l2, n2, r2⟩ := y
  unfold leR ltB at h1 h2
  simp only at h1 h2
  by_cases a : l = l2
  · subst a
    by_cases b : n = n2
    · subst b
      simp only [if_true] at h1 h2
      rw [llt_tri h1 h2]
    · rw [if_pos rfl, if_neg (Ne.symm b)] at h1
      rw [if_pos rfl, if_neg b] at h2
      simp at h1 h2
      omega
  · rw [if_neg (Ne.symm a)] at h1
    rw [if_neg a] at h2
    simp at h1 h2
    omega
theorem le_trans {x y z : Rt} (h1 : leR x y) (h2 : leR y z) : leR x z := by
  obtain ⟨l, n, r⟩ := x
  obtain ⟨l2, n2, r2⟩ := y
  obtain ⟨l3, n3, r3⟩ := z
  unfold leR ltB at h1 h2 ⊢
  simp only at h1 h2 ⊢
  by_cases a : l2 = l
  · by_cases b : l3 = l2
    · subst a b
      simp only [if_true] at h1 h2 ⊢
      by_cases c : n2 = n
      · by_cases d : n3 = n2
        · subst c d
          simp only [if_true] at h1 h2 ⊢
          exact llt_trans h1 h2
        · subst c
          rw [if_neg d] at h2 ⊢
          exact h2
      · rw [if_neg c] at h1
        by_cases d : n3 = n2
        · subst d
          rw [if_neg c]; exact h1
        · rw [if_neg d] at h2
          simp at h1 h2
          rw [if_neg (by omega)]
          simp; omega
    · subst a
      rw [if_neg b] at h2 ⊢
      exact h2
  · rw [if_neg a] at h1
    by_cases b : l3 = l2
    · subst b
      rw [if_neg a]; exact h1
    · rw [if_neg b] at h2
      simp at h1 h2
      rw [if_neg (by omega)]
      simp; omega
theorem llt_snoc : ∀ {xs ys : List Int} {v : Int}, xs.length = ys.length → lltB xs ys = false → lltB (xs ++ [v]) (ys ++ [v]) = false
  | [], [], v, _, _ => by simp [lltB]
  | [], _ :: _, _, h, _ => by simp at h
  | _ :: _, [], _, h, _ => by simp at h
  | x :: xs, y :: ys, v, hl, h => by
    show lltB (x :: (xs ++ [v])) (y :: (ys ++ [v])) = false
    unfold lltB at h ⊢
    by_cases a : x = y
    · rw [if_pos a] at h ⊢
      exact llt_snoc (by simpa using hl) h
    · rw [if_neg a] at h ⊢
      exact h
/-- routes along the ways -/
inductive Pth (ws : List Wy) (b : Int) : Int → Rt → Prop
  | here : Pth ws b b ⟨0, 1, [b]⟩
  | step {w : Wy} {x : Rt} : Pth ws b w.a x → w ∈ ws → Pth ws b w.b (rowOf x w)
theorem Pth.num {ws : List Wy} {b v : Int} {x : Rt} (h : Pth ws b v x) : x.n = x.r.length := by
  induction h with
  | here => rfl
  | step _ _ ih => simp [rowOf, ih]
theorem Pth.rch {ws : List Wy} {b v : Int} {x : Rt} (h : Pth ws b v x) : Rch ws b v := by
  induction h with
  | here => exact .here
  | step _ hm ih => exact .step ih hm
theorem Pth.more {ws ws2 : List Wy} (hs : ∀ w ∈ ws, w ∈ ws2) {b v : Int} {x : Rt} (h : Pth ws b v x) : Pth ws2 b v x := by
  induction h with
  | here => exact .here
  | step _ hm ih => exact .step ih (hs _ hm)
theorem row_mono {x y : Rt} {w : Wy} (hx : x.n = x.r.length) (hy : y.n = y.r.length) (h : leR x y) : leR (rowOf x w) (rowOf y w) := by
  unfold leR ltB at h ⊢
  unfold rowOf
  simp only
  by_cases a : y.l = x.l
  · rw [if_pos a] at h
    rw [if_pos (by omega)]
    by_cases b : y.n = x.n
    · rw [if_pos b] at h
      rw [if_pos (by omega)]
      exact llt_snoc (by omega) h
    · rw [if_neg b] at h
      rw [if_neg (by omega)]
      simp at h ⊢
      omega
  · rw [if_neg a] at h
    rw [if_neg (by omega)]
    simp at h ⊢
    omega
theorem row_grow {x : Rt} {w : Wy} (h : 0 ≤ w.l) : leR x (rowOf x w) := by
  refine le_of_lt ?_
  unfold ltB rowOf
  simp only
  by_cases a : x.l = x.l + w.l
  · rw [if_pos a, if_neg (by omega)]
    simp; omega
  · rw [if_neg a]
    simp; omega
structure Opt (ws : List Wy) (b v : Int) (x : Rt) : Prop where
  pth : Pth ws b v x
  least : ∀ y, Pth ws b v y → leR x y
theorem Opt.uniq {ws : List Wy} {b v : Int} {x y : Rt} (h1 : Opt ws b v x) (h2 : Opt ws b v y) : x = y := le_anti (h1.least y h2.pth) (h2.least x h1.pth)
theorem lsR_le (x : Rt) (xs : List Rt) : ∀ y ∈ x :: xs, leR (lsR x xs) y := by
  unfold lsR
  induction xs generalizing x with
  | nil =>
    intro y hy
    have : y = x := by simpa using hy
    rw [this]
    exact le_refl _
  | cons z r ih =>
    intro y hy
    simp only [List.foldl_cons, dlt_rt]
    simp only [dlt_rt] at ih
    by_cases h : ltB z x = true
    · rw [if_pos h]
      rcases List.mem_cons.mp hy with e | hy
      · rw [e]
        exact le_trans (ih z z List.mem_cons_self) (le_of_lt h)
      · exact ih z y hy
    · rw [if_neg h]
      rcases List.mem_cons.mp hy with e | hy
      · rw [e]; exact ih x x List.mem_cons_self
      · rcases List.mem_cons.mp hy with e | hy
        · rw [e]
          refine le_trans (ih x x List.mem_cons_self) ?_
          unfold leR
          simpa using h
        · exact ih x y (List.mem_cons_of_mem _ hy)
end Mm
namespace Mm
theorem pt_self {kv : Kv} {g : Int} {x : Rt} : (g, x) ∈ ptI kv g x := by
  unfold ptI
  split
  · rename_i h
    obtain ⟨p, hp, e⟩ := List.mem_map.mp (any_key.mp h)
    exact List.mem_map.mpr ⟨p, hp, by rw [if_pos e, e]⟩
  · simp
theorem pt_other {kv : Kv} {g : Int} {x : Rt} {p : Int × Rt} (h : p ∈ kv) (hn : p.1 ≠ g) : p ∈ ptI kv g x := by
  unfold ptI
  split
  · exact List.mem_map.mpr ⟨p, h, by rw [if_neg hn]⟩
  · exact List.mem_append_left _ h
theorem put_le {lev : Kv} {best : Rt} {w : Wy} (nd : (lev.map (·.1)).Nodup) : ∃ m, (w.b, m) ∈ putRow lev best w ∧ leR m (rowOf best w) ∧ ∀ y, (w.b, y) ∈ lev → leR m y := by
  refine ⟨_, pt_self, ?_, fun y hy => ?_⟩
  · cases lk lev w.b with
    | none => simp only [Option.getD_none, ite_self]; exact le_refl _
    | some x =>
      simp only [Option.getD_some]
      rw [dlt_rt]
      split
      · exact le_refl _
      · rename_i h
        unfold leR
        simpa using h
  · rw [lk_nd nd hy]
    simp only [Option.getD_some]
    rw [dlt_rt]
    split
    · rename_i h
      exact le_of_lt h
    · exact le_refl _
theorem relax_le {found lev : Kv} {here : Int} {best : Rt} {w : Wy} (nd : (lev.map (·.1)).Nodup) {p : Int × Rt} (h : p ∈ lev) : ∃ m, (p.1, m) ∈ relax found lev here best w ∧ leR m p.2 := by
  unfold relax
  split
  · by_cases e : p.1 = w.b
    · obtain ⟨m, h1, h2, h3⟩ := put_le (best := best) (w := w) nd
      exact ⟨m, by rw [e]; exact h1, h3 p.2 (by rw [← e]; exact h)⟩
    · exact ⟨p.2, pt_other h e, le_refl _⟩
  · exact ⟨p.2, h, le_refl _⟩
theorem relax_put {found lev : Kv} {here : Int} {best : Rt} {w : Wy} (nd : (lev.map (·.1)).Nodup) (c : w.a = here ∧ w.b ∉ found.map (·.1)) : ∃ m, (w.b, m) ∈ relax found lev here best w ∧ leR m (rowOf best w) := by
  unfold relax
  rw [if_pos c]
  obtain ⟨m, h1, h2, h3⟩ := put_le (best := best) (w := w) nd
  exact ⟨m, h1, h2⟩
theorem relax_pth {ws : List Wy} {b : Int} {found lev : Kv} {here : Int} {best : Rt} {w : Wy} (hp : ∀ p ∈ lev, Pth ws b p.1 p.2) (hb : Pth ws b here best) (hw : w ∈ ws) : ∀ p ∈ relax found lev here best w, Pth ws b p.1 p.2 := by
  intro p h
  unfold relax at h
  split at h
  · rename_i c
    have er : Pth ws b w.b (rowOf best w) := .step (by rw [c.1]; exact hb) hw
    rcases pt_mem h with e | e
    · rw [e]
      cases e2 : lk lev w.b with
      | none => simp only [Option.getD_none, ite_self]; exact er
      | some x =>
        simp only [Option.getD_some]
        split
        · exact er
        · exact hp _ (lk_mem e2)
    · exact hp p e.1
  · exact hp p h
/-- the best is told of all that are found; what waits is good enough -/
structure Bst (ws : List Wy) (b : Int) (found lev : Kv) : Prop where
  opt : ∀ p ∈ found, Opt ws b p.1 p.2
  pth : ∀ p ∈ lev, Pth ws b p.1 p.2
  nxt : ∀ p ∈ found, ∀ w ∈ ws, w.a = p.1 → w.b ∉ found.map (·.1) → ∃ m, (w.b, m) ∈ lev ∧ leR m (rowOf p.2 w)
  beg : b ∉ found.map (·.1) → ∃ m, (b, m) ∈ lev ∧ leR m ⟨0, 1, [b]⟩
  len : ∀ p ∈ found, p.2.r.length ≤ 11
theorem Bst.cut {ws : List Wy} {b : Int} {found lev : Kv} (hw : WaysOk ws) (B : Bst ws b found lev) {v : Int} {y : Rt} (h : Pth ws b v y) : v ∉ found.map (·.1) → ∃ p ∈ lev, leR p.2 y := by
  induction h with
  | here =>
    intro hn
    obtain ⟨m, h1, h2⟩ := B.beg hn
    exact ⟨_, h1, h2⟩
  | @step w x hx hm ih =>
    intro hn
    by_cases hu : w.a ∈ found.map (·.1)
    · obtain ⟨⟨u, x0⟩, hp, e⟩ := List.mem_map.mp hu
      simp only at e
      subst e
      have O := B.opt _ hp
      obtain ⟨m, h1, h2⟩ := B.nxt _ hp w hm rfl hn
      exact ⟨_, h1, le_trans h2 (row_mono O.pth.num hx.num (O.least _ hx))⟩
    · obtain ⟨p, h1, h2⟩ := ih hu
      exact ⟨p, h1, le_trans h2 (row_grow (hw.ok w hm).l0)⟩
theorem Bst.first {ws : List Wy} {b : Int} {found lev : Kv} (hw : WaysOk ws) (B : Bst ws b found lev) {here : Int} {best : Rt} (hq : (here, best) ∈ lev) (hmin : ∀ p ∈ lev, leR best p.2) (hn : here ∉ found.map (·.1)) : Opt ws b here best :=
  ⟨B.pth _ hq, fun y hy => by
    obtain ⟨p, h1, h2⟩ := B.cut hw hy hn
    exact le_trans (hmin p h1) h2⟩
/-- the best routes -/
theorem routesOpt_T {ws : List Wy} {b : Int} {hs : Hs} (hw : WaysOk ws) (b0 : 0 ≤ b) (b1 : b < 10) : ∃ kv : Kv, c_routes_from [.l (ws.map wyD), .int b] hs = .ok (.dk ((fk kv).map (·.1)) ((fk kv).map (·.2))) hs ∧ (kv.map (·.1)).Nodup ∧ (∀ v, v ∈ kv.map (·.1) ↔ Rch ws b v) ∧ ∀ p ∈ kv, Opt ws b p.1 p.2 ∧ p.2.r.length ≤ 11 := by
  suffices H : (c_routes_from [.l (ws.map wyD), .int b] hs).T fun d h' => h' = hs ∧ ∃ kv : Kv, d = .dk ((fk kv).map (·.1)) ((fk kv).map (·.2)) ∧ (kv.map (·.1)).Nodup ∧ (∀ v, v ∈ kv.map (·.1) ↔ Rch ws b v) ∧ ∀ p ∈ kv, Opt ws b p.1 p.2 ∧ p.2.r.length ≤ 11 by
    obtain ⟨d, h', e, rfl, kv, rfl, h1, h2⟩ := H.eq
    exact ⟨kv, e, h1, h2⟩
  refine T_call0 rfl ?_
  have z1 : ∀ d : D, ([d] : List D).length ≤ 100000 := fun _ => by simp
  have z3 : ∀ d e f : D, ([d, e, f] : List D).length ≤ 100000 := fun _ _ _ => by simp
  have es : D.t [.int 0, .int 1, .t [.int b]] = rtD ⟨0, 1, [b]⟩ := rfl
  simp only [m_routes_from, start,al',am',an',ao',List.replicate,aq',ar', eDk, vTup, z1, z3, es, vDisp1, two2, keyOf, sSeq,ST_seq,sAsg,sPar,sExpr,sIf,sRet,sRetN,sNx,ST_bindS,eMeth,eArgs,aCons,aNil,eBin,eUn,eC,eVar,eAnd,eOr,eNot,eIf,tVal,tAnd,tOr,tNot,tYes,gName,gTup,gCons,gNil,gSub,aa',ab',T_bind,T_ok,ba',bb',bc',T_ite,ST_nx,ST_ret,ac',ad',ae',af',ag',if_true,if_false,ah']
  unfold sWhile
  refine T_while (fun n fs h' => ∃ (c4 c5 c6 c7 c8 c9 c10 : Option D) (found lev : Kv), n + found.length = 10 ∧ fs = [some (.l (ws.map wyD)), some (.int b), some (.loc hs.length), some (.loc (hs.length + 1)), c4, c5, c6, c7, c8, c9, c10] ∧ h' = hs ++ [.dk (fk found), .dk (fk lev)] ∧
    Lev ws b found lev ∧ Bst ws b found lev ∧ (b ∈ found.map (·.1) ∨ b ∈ lev.map (·.1)) ∧ ∀ w ∈ ws, w.a ∈ found.map (·.1) → w.b ∈ found.map (·.1) ∨ w.b ∈ lev.map (·.1)) _ ?_ 10 100 (by decide)
    ⟨_, _, _, _, _, _, _, [], [(b, ⟨0, 1, [b]⟩)], rfl, by simp; exact ⟨rfl, rfl, rfl, rfl, rfl, rfl, rfl⟩, by simp [fk], ⟨by simp, by simp, by simp, by simp; omega, by simp; exact .here, by simp; exact ⟨rfl, by simp⟩⟩, ⟨by simp, by simp; exact .here, by simp, fun _ => ⟨_, List.mem_singleton.mpr rfl, le_refl _⟩, by simp⟩, by simp, by simp⟩
  rintro n fs h' ⟨c4, c5, c6, c7, c8, c9, c10, found, lev, hn, rfl, rfl, L, B, hb, hcl⟩
  have g0 : (hs ++ [O.dk (fk found), O.dk (fk lev)])[hs.length]? = some (.dk (fk found)) := by simp
  have g1 : (hs ++ [O.dk (fk found), O.dk (fk lev)])[hs.length + 1]? = some (.dk (fk lev)) := by simp
  have ene : vNe (.loc (hs.length + 1)) (.dk [] []) (hs ++ [O.dk (fk found), O.dk (fk lev)]) = .ok (.bl (!(fk lev).isEmpty)) (hs ++ [O.dk (fk found), O.dk (fk lev)]) := by
    unfold vNe eqB emD
    simp only [res, g1, dictOf, List.zip_nil_left]
    rw [show okd 60 (.loc (hs.length + 1)) = false from by unfold okd; rfl]
    rfl
  simp only [eDf, ene, sSeq,ST_seq,sAsg,sPar,sExpr,sIf,sRet,sRetN,sNx,ST_bindS,eMeth,eArgs,aCons,aNil,eBin,eUn,eC,eVar,eAnd,eOr,eNot,eIf,tVal,tAnd,tOr,tNot,tYes,gName,gTup,gCons,gNil,gSub,aa',ab',T_bind,T_ok,ba',bb',bc',T_ite,ST_nx,ST_ret,ac',ad',ae',af',ag',if_true,if_false,ah']
  cases lev with
  | nil =>
    simp only [fk, List.map_nil, List.isEmpty_nil, sSeq,ST_seq,sAsg,sPar,sExpr,sIf,sRet,sRetN,sNx,ST_bindS,eMeth,eArgs,aCons,aNil,eBin,eUn,eC,eVar,eAnd,eOr,eNot,eIf,tVal,tAnd,tOr,tNot,tYes,gName,gTup,gCons,gNil,gSub,aa',ab',T_bind,T_ok,ba',bb',bc',T_ite,ST_nx,ST_ret,ac',ad',ae',af',ag',if_true,if_false,ah']
    have ef : frz (.loc hs.length) (hs ++ [O.dk (fk found), O.dk []]) = .ok (.dk ((fk found).map (·.1)) ((fk found).map (·.2))) (hs ++ [O.dead, O.dk []]) := by
      unfold frz
      simp
    simp only [eFrz, sSeq,ST_seq,sAsg,sPar,sExpr,sIf,sRet,sRetN,sNx,ST_bindS,eMeth,eArgs,aCons,aNil,eBin,eUn,eC,eVar,eAnd,eOr,eNot,eIf,tVal,tAnd,tOr,tNot,tYes,gName,gTup,gCons,gNil,gSub,aa',ab',T_bind,T_ok,ba',bb',bc',T_ite,ST_nx,ST_ret,ac',ad',ae',af',ag',if_true,if_false,ah']
    rw [show (List.map (fun p => ((Sum.inl p.1 : Key), rtD p.2)) found) = fk found from rfl, ef]
    refine ⟨_, rfl, ?_, trivial, found, rfl, L.fnd, fun v => ⟨fun hv => L.rc v (.inl hv), fun hv => ?_⟩, fun p hp => ⟨B.opt p hp, B.len p hp⟩⟩
    · unfold closed
      have : ∀ kv : Kv, closedL hs.length ((fk kv).map (·.2)) = true := fun kv => by
        induction kv with
        | nil => rfl
        | cons p r ih =>
          show closedL hs.length (rtD p.2 :: (fk r).map (·.2)) = true
          unfold closedL
          rw [ih]
          rw [closed_rt]; rfl
      exact this found
    · induction hv with
      | here => simpa using hb
      | step hr hm ih => simpa using hcl _ hm ih
  | cons p r =>
    have hp := lsR_mem p.2 (r.map (·.2))
    obtain ⟨⟨here, best⟩, hq, eb⟩ : ∃ q ∈ p :: r, q.2 = lsR p.2 (r.map (·.2)) := by
      have : lsR p.2 (r.map (·.2)) ∈ (p :: r).map (·.2) := by simpa using hp
      obtain ⟨q, h1, h2⟩ := List.mem_map.mp this
      exact ⟨q, h1, h2⟩
    simp only at eb
    have hl10 := L.both (by simp)
    obtain ⟨n', rfl⟩ : ∃ n', n = n' + 1 := ⟨n - 1, by omega⟩
    have E := L.ent _ hq
    have hne : (fk (p :: r)).isEmpty = false := rfl
    simp only [hne, sSeq,ST_seq,sAsg,sPar,sExpr,sIf,sRet,sRetN,sNx,ST_bindS,eMeth,eArgs,aCons,aNil,eBin,eUn,eC,eVar,eAnd,eOr,eNot,eIf,tVal,tAnd,tOr,tNot,tYes,gName,gTup,gCons,gNil,gSub,aa',ab',T_bind,T_ok,ba',bb',bc',T_ite,ST_nx,ST_ret,ac',ad',ae',af',ag',if_true,if_false,ah']
    refine ⟨n', rfl, ?_⟩
    have em := minV_rt (n := hs.length + 1) (p := p) (r := r) g1
    rw [← eb] at em
    have i2 : ∀ h0, vIx (rtD best) (.int 2) h0 = .ok (.t (zi best.r)) h0 := fun _ => rfl
    have elast : ∀ h0, vIx (.t (zi best.r)) (.int (-1)) h0 = .ok (.int here) h0 := fun h0 => by
      have h1 := E.last
      have hne : best.r ≠ [] := fun z => by simp only [z] at h1; cases h1
      have hpos : 0 < best.r.length := List.length_pos_iff.mpr hne
      have e1 : ixN (zi best.r).length (-1) = some (best.r.length - 1) := by
        unfold ixN
        rw [if_neg (by decide), if_pos (by simp; omega)]
        simp
        omega
      unfold vIx
      simp only [seqOf, e1, Option.bind_some]
      have e2 : (zi best.r)[best.r.length - 1]? = some (.int here) := by
        rw [List.getElem?_map, ← List.getLast?_eq_getElem?]
        simp only at h1
        rw [h1]; rfl
      rw [e2]
    have eD : isDct (.loc (hs.length + 1)) (hs ++ [.dk (fk found), .dk (fk (p :: r))]) = true := by
      unfold isDct
      simp only [g1]
    have ep : mPopK (.loc (hs.length + 1)) [.int here] (hs ++ [.dk (fk found), .dk (fk (p :: r))]) = .ok (rtD best) (hs ++ [.dk (fk found), .dk (fk ((p :: r).filter fun p => decide (p.1 ≠ here)))]) := by
      unfold mPopK
      simp only [one1, Option.bind_some, keyOf, g1, fk_get, lk_nd L.lnd hq, Option.map_some, fk_drop]
      simp
    have hnf : here ∉ found.map (·.1) := L.dis _ (List.mem_map.mpr ⟨_, hq, rfl⟩)
    have ept : ptI found here best = found ++ [(here, best)] := by
      unfold ptI
      rw [if_neg (fun z => hnf (any_key.mp z))]
    have es : setIx (.loc hs.length) (.int here) (rtD best) (hs ++ [.dk (fk found), .dk (fk ((p :: r).filter fun p => decide (p.1 ≠ here)))]) = .ok () (hs ++ [.dk (fk (found ++ [(here, best)])), .dk (fk ((p :: r).filter fun p => decide (p.1 ≠ here)))]) := by
      have : (fk found).length < 100000 := by unfold fk; simp; omega
      unfold setIx
      simp only [get_app, keyOf, if_pos this, fk_put, ept]
      simp
    have eneg : vNeg (.int 1) (hs ++ [O.dk (fk found), O.dk (fk (p :: r))]) = .ok (.int (-1)) (hs ++ [O.dk (fk found), O.dk (fk (p :: r))]) := rfl
    simp only [body_routes_from_1, em, i2, eneg, elast, eD, ep, es, sFor, iSeq, onlyL, sSeq,ST_seq,sAsg,sPar,sExpr,sIf,sRet,sRetN,sNx,ST_bindS,eMeth,eArgs,aCons,aNil,eBin,eUn,eC,eVar,eAnd,eOr,eNot,eIf,tVal,tAnd,tOr,tNot,tYes,gName,gTup,gCons,gNil,gSub,aa',ab',T_bind,T_ok,ba',bb',bc',T_ite,ST_nx,ST_ret,ac',ad',ae',af',ag',if_true,if_false,ah']
    have keysF : ∀ v, v ∈ (found ++ [(here, best)]).map (·.1) ↔ v ∈ found.map (·.1) ∨ v = here := fun v => by simp
    have keysL : ∀ v, v ∈ ((p :: r).filter fun p => decide (p.1 ≠ here)).map (·.1) ↔ v ∈ (p :: r).map (·.1) ∧ v ≠ here := fun v => by
      constructor
      · intro hv
        obtain ⟨q, h1, rfl⟩ := List.mem_map.mp hv
        obtain ⟨h2, h3⟩ := List.mem_filter.mp h1
        exact ⟨List.mem_map.mpr ⟨q, h2, rfl⟩, of_decide_eq_true h3⟩
      · rintro ⟨hv, hn⟩
        obtain ⟨q, h1, rfl⟩ := List.mem_map.mp hv
        exact List.mem_map.mpr ⟨q, List.mem_filter.mpr ⟨h1, decide_eq_true hn⟩, rfl⟩
    have hhere : here ∈ (p :: r).map (·.1) := List.mem_map.mpr ⟨_, hq, rfl⟩
    have L2 : Lev ws b (found ++ [(here, best)]) ((p :: r).filter fun p => decide (p.1 ≠ here)) := by
      refine ⟨?_, ?_, fun v hv => ?_, fun v hv => ?_, fun v hv => ?_, fun q hq => ?_⟩
      · rw [List.map_append]
        exact List.nodup_append.mpr ⟨L.fnd, by simp, fun x hx y hy z => hnf (by
          have : y = here := by simpa using hy
          rw [← this, ← z]; exact hx)⟩
      · exact L.lnd.sublist (List.Sublist.map _ List.filter_sublist)
      · intro hv2
        obtain ⟨h1, h2⟩ := (keysL v).mp hv
        rcases (keysF v).mp hv2 with z | z
        · exact L.dis v h1 z
        · exact h2 z
      · rcases hv with z | z
        · rcases (keysF v).mp z with z | z
          · exact L.lo v (.inl z)
          · rw [z]; exact L.lo _ (.inr hhere)
        · exact L.lo v (.inr ((keysL v).mp z).1)
      · rcases hv with z | z
        · rcases (keysF v).mp z with z | z
          · exact L.rc v (.inl z)
          · rw [z]; exact L.rc _ (.inr hhere)
        · exact L.rc v (.inr ((keysL v).mp z).1)
      · have := L.ent q (List.mem_filter.mp hq).1
        exact ⟨this.last, by have := this.len; simp; omega⟩
    have hmin : ∀ q ∈ p :: r, leR best q.2 := fun q hq2 => by
      rw [eb]
      refine lsR_le _ _ _ ?_
      have : q.2 ∈ (p :: r).map (·.2) := List.mem_map.mpr ⟨q, hq2, rfl⟩
      simpa using this
    have Ob := B.first hw hq hmin hnf
    have hpth2 : ∀ q ∈ (p :: r).filter (fun p => decide (p.1 ≠ here)), Pth ws b q.1 q.2 := fun q hq2 => B.pth q (List.mem_filter.mp hq2).1
    refine T_for (fun done fs h' => ∃ (c6 c7 c8 c9 c10 : Option D) (lev : Kv) (dw : List Wy), done = dw.map wyD ∧ fs = [some (.l (ws.map wyD)), some (.int b), some (.loc hs.length), some (.loc (hs.length + 1)), some (rtD best), some (.int here), c6, c7, c8, c9, c10] ∧ h' = hs ++ [.dk (fk (found ++ [(here, best)])), .dk (fk lev)] ∧
      Lev ws b (found ++ [(here, best)]) lev ∧ (∀ v, v ∈ ((p :: r).filter fun p => decide (p.1 ≠ here)).map (·.1) → v ∈ lev.map (·.1)) ∧ (∀ w ∈ dw, w.a = here → w.b ∈ (found ++ [(here, best)]).map (·.1) ∨ w.b ∈ lev.map (·.1)) ∧
      (∀ q ∈ lev, Pth ws b q.1 q.2) ∧ (∀ q ∈ (p :: r).filter (fun p => decide (p.1 ≠ here)), ∃ m, (q.1, m) ∈ lev ∧ leR m q.2) ∧ ∀ w ∈ dw, w.a = here → w.b ∉ (found ++ [(here, best)]).map (·.1) → ∃ m, (w.b, m) ∈ lev ∧ leR m (rowOf best w)) _ ?_ ?_ ?_
      ⟨_, _, _, _, _, _, [], rfl, rfl, rfl, L2, fun _ h => h, by simp, hpth2, fun q hq => ⟨q.2, hq, le_refl _⟩, by simp⟩
    · exact fun _ _ _ _ => trivial
    · rintro done x rest fs h' e ⟨c6, c7, c8, c9, c10, lev, dw, rfl, rfl, rfl, L3, hsub, hdone, hpt, hold, hnew⟩
      have hx : x ∈ ws.map wyD := by rw [e]; simp
      obtain ⟨w, hwm, rfl⟩ := List.mem_map.mp hx
      simp only [wyD, sSeq,ST_seq,sAsg,sPar,sExpr,sIf,sRet,sRetN,sNx,ST_bindS,eMeth,eArgs,aCons,aNil,eBin,eUn,eC,eVar,eAnd,eOr,eNot,eIf,tVal,tAnd,tOr,tNot,tYes,gName,gTup,gCons,gNil,gSub,aa',ab',T_bind,T_ok,ba',bb',bc',T_ite,ST_nx,ST_ret,ac',ad',ae',af',ag',if_true,if_false,ah']
      have hlen : best.r.length + 1 ≤ (found ++ [(here, best)]).length + 1 := by have := E.len; simp at this ⊢; omega
      refine relax_T (by have := E.len; simp at this; omega) (by have := L3.llen; omega) fun c10 => ?_
      refine ⟨_, _, _, _, _, _, dw ++ [w], by simp [wyD], rfl, rfl, L3.relax hwm (hw.ok w hwm) (by simp) hlen, fun v hv => relax_keys.mpr (.inl (hsub v hv)), fun y hy ha => ?_, relax_pth hpt Ob.pth hwm, fun q hq => ?_, fun y hy ha hn => ?_⟩
      rotate_left 1
      · obtain ⟨m, h1, h2⟩ := hold q hq
        obtain ⟨m2, h3, h4⟩ := relax_le (found := found ++ [(here, best)]) (here := here) (best := best) (w := w) L3.lnd h1
        exact ⟨m2, h3, le_trans h4 h2⟩
      · rcases List.mem_append.mp hy with z | z
        · obtain ⟨m, h1, h2⟩ := hnew y z ha hn
          obtain ⟨m2, h3, h4⟩ := relax_le (found := found ++ [(here, best)]) (here := here) (best := best) (w := w) L3.lnd h1
          exact ⟨m2, h3, le_trans h4 h2⟩
        · obtain rfl : y = w := by simpa using z
          exact relax_put L3.lnd ⟨ha, hn⟩
      rcases List.mem_append.mp hy with z | z
      · rcases hdone y z ha with q | q
        · exact .inl q
        · exact .inr (relax_keys.mpr (.inl q))
      · obtain rfl : y = w := by simpa using z
        by_cases hin : y.b ∈ (found ++ [(here, best)]).map (·.1)
        · exact .inl hin
        · exact .inr (relax_keys.mpr (.inr ⟨ha, hin, rfl⟩))
    · rintro fs h' ⟨c6, c7, c8, c9, c10, lev, dw, e, rfl, rfl, L3, hsub, hdone, hpt, hold, hnew⟩
      have hdw : ∀ w ∈ ws, w ∈ dw := fun w hwm => by
        have h1 : wyD w ∈ dw.map wyD := by rw [← e]; exact List.mem_map.mpr ⟨w, hwm, rfl⟩
        obtain ⟨y, hy, ey⟩ := List.mem_map.mp h1
        have : y = w := by
          obtain ⟨a, b, l, r⟩ := y
          obtain ⟨a2, b2, l2, r2⟩ := w
          simp [wyD] at ey
          obtain ⟨rfl, rfl, rfl, rfl⟩ := ey
          rfl
        rw [← this]; exact hy
      refine ⟨_, _, _, _, _, _, _, found ++ [(here, best)], lev, by simp; omega, rfl, rfl, L3, ⟨fun q hq2 => ?_, hpt, fun q hq2 w hwm ha hn => ?_, fun hn => ?_, fun q hq2 => ?_⟩, ?_, fun w hwm ha => ?_⟩
      · rcases List.mem_append.mp hq2 with z | z
        · exact B.opt q z
        · obtain rfl : q = (here, best) := by simpa using z
          exact Ob
      · rcases List.mem_append.mp hq2 with z | z
        · obtain ⟨m, h1, h2⟩ := B.nxt q z w hwm ha fun h => hn ((keysF _).mpr (.inl h))
          have hne2 : w.b ≠ here := fun h => hn ((keysF _).mpr (.inr h))
          obtain ⟨m2, h3, h4⟩ := hold (w.b, m) (List.mem_filter.mpr ⟨h1, decide_eq_true hne2⟩)
          exact ⟨m2, h3, le_trans h4 h2⟩
        · obtain rfl : q = (here, best) := by simpa using z
          exact hnew w (hdw w hwm) ha hn
      · obtain ⟨m, h1, h2⟩ := B.beg fun h => hn ((keysF _).mpr (.inl h))
        have hne2 : b ≠ here := fun h => hn ((keysF _).mpr (.inr h))
        obtain ⟨m2, h3, h4⟩ := hold (b, m) (List.mem_filter.mpr ⟨h1, decide_eq_true hne2⟩)
        exact ⟨m2, h3, le_trans h4 h2⟩
      · rcases List.mem_append.mp hq2 with z | z
        · exact B.len q z
        · obtain rfl : q = (here, best) := by simpa using z
          have := E.len
          simp at this ⊢
          omega
      · rcases hb with z | z
        · exact .inl ((keysF b).mpr (.inl z))
        · by_cases hbh : b = here
          · exact .inl ((keysF b).mpr (.inr hbh))
          · exact .inr (hsub b ((keysL b).mpr ⟨z, hbh⟩))
      · rcases (keysF w.a).mp ha with z | z
        · rcases hcl w hwm z with q | q
          · exact .inl ((keysF _).mpr (.inl q))
          · by_cases hbh : w.b = here
            · exact .inl ((keysF _).mpr (.inr hbh))
            · exact .inr (hsub _ ((keysL _).mpr ⟨q, hbh⟩))
        · have : w ∈ dw := by
            have h1 : wyD w ∈ dw.map wyD := by rw [← e]; exact List.mem_map.mpr ⟨w, hwm, rfl⟩
            obtain ⟨y, hy, ey⟩ := List.mem_map.mp h1
            have : y = w := by
              obtain ⟨a, b, l, r⟩ := y
              obtain ⟨a2, b2, l2, r2⟩ := w
              simp [wyD] at ey
              obtain ⟨rfl, rfl, rfl, rfl⟩ := ey
              rfl
            rw [← this]; exact hy
          exact hdone w this z
end Mm
namespace Mm
theorem rch_lo {ws : List Wy} {b v : Int} (hw : WaysOk ws) (b0 : 0 ≤ b) (b1 : b < 10) (h : Rch ws b v) : 0 ≤ v ∧ v < 10 := by
  cases h with
  | here => exact ⟨b0, b1⟩
  | step h1 h2 => exact ⟨(hw.ok _ h2).b0, (hw.ok _ h2).b1⟩
end Mm
namespace Mm
open Classical in
def bestR (ws : List Wy) (b g : Int) : Option Rt := if h : ∃ x, Opt ws b g x then some (Classical.choose h) else none
theorem bestR_some {ws : List Wy} {b g : Int} {x : Rt} : bestR ws b g = some x ↔ Opt ws b g x := by
  unfold bestR
  constructor
  · intro h
    split at h
    · rename_i h1
      cases h
      exact Classical.choose_spec h1
    · cases h
  · intro h
    have h1 : ∃ x, Opt ws b g x := ⟨x, h⟩
    rw [dif_pos h1, (Classical.choose_spec h1).uniq h]
theorem opt_ex {ws : List Wy} {b v : Int} (hw : WaysOk ws) (b0 : 0 ≤ b) (b1 : b < 10) (h : Rch ws b v) : ∃ x, Opt ws b v x ∧ x.r.length ≤ 11 := by
  obtain ⟨kv, _, _, hv, ho⟩ := routesOpt_T (hs := []) hw b0 b1
  obtain ⟨p, hp, e⟩ := List.mem_map.mp ((hv v).mpr h)
  have := ho p hp
  rw [e] at this
  exact ⟨_, this⟩
theorem bestR_len {ws : List Wy} {b v : Int} {x : Rt} (hw : WaysOk ws) (b0 : 0 ≤ b) (b1 : b < 10) (h : bestR ws b v = some x) : x.r.length ≤ 11 := by
  have ho := bestR_some.mp h
  obtain ⟨y, hy, hl⟩ := opt_ex hw b0 b1 ho.pth.rch
  rw [ho.uniq hy]; exact hl
theorem Pth.first {ws : List Wy} {b v : Int} {x : Rt} (h : Pth ws b v x) : x.r.head? = some b := by
  induction h with
  | here => rfl
  | @step w x hx hm ih =>
    show (x.r ++ [w.b]).head? = some b
    rw [List.head?_append, ih]; rfl
theorem Pth.last {ws : List Wy} {b v : Int} {x : Rt} (h : Pth ws b v x) : x.r.getLast? = some v := by
  cases h with
  | here => rfl
  | step _ _ => simp [rowOf]
theorem Pth.ne {ws : List Wy} {b v : Int} {x : Rt} (h : Pth ws b v x) : x.r ≠ [] := fun e => by
  have := h.first
  rw [e] at this
  cases this
end Mm
namespace Mm
theorem okL_all {n : Nat} : ∀ {ds : List D}, (∀ d ∈ ds, okd n d = true) → okL (n + 1) ds = true
  | [], _ => by unfold okL; rfl
  | d :: r, h => by
    unfold okL
    simp only
    rw [h d List.mem_cons_self, okL_all fun x hx => h x (List.mem_cons_of_mem _ hx)]
    rfl
end Mm
namespace Mm
structure Ch where
  l : Int
  w : Int
  p : Int
  r : List Int
def ltC (x y : Ch) : Bool := if x.l = y.l then (if x.w = y.w then (if x.p = y.p then lltB x.r y.r else decide (x.p < y.p)) else decide (x.w < y.w)) else decide (x.l < y.l)
def stC (a y : Ch) : Ch := if ltC y a = true then y else a
def leastC : List Ch → Option Ch
  | [] => none
  | x :: r => some (r.foldl stC x)
def chIn (ws : List Wy) (b : Int) (place : Nat) (want : List Int) : List Ch := want.zipIdx.filterMap fun p => (bestR ws b p.1).map fun x => ⟨x.l, (p.2 : Nat), (place : Nat), x.r⟩
def chAll (ws : List Wy) (off want : List Int) : List Ch := off.zipIdx.flatMap fun p => chIn ws p.1 p.2 want
def chosen (ws : List Wy) (off want : List Int) : Option Ch := leastC (chAll ws off want)
/-- what may be walked: a tuple, a list -/
def Wk (x : D) (ds : List D) (hs : Hs) : Prop := x = .t ds ∨ x = .l ds ∨ ∃ n, x = .loc n ∧ hs[n]? = some (.lst ds)
theorem Wk.more {x : D} {ds : List D} {hs : Hs} (h : Wk x ds hs) (m : Hs) : Wk x ds (hs ++ m) := by
  rcases h with h | h | ⟨n, h, e⟩
  · exact .inl h
  · exact .inr (.inl h)
  · exact .inr (.inr ⟨n, h, by rw [List.getElem?_append_left (List.getElem?_eq_some_iff.mp e).1]; exact e⟩)
/-- kinds, none of them odd -/
structure Ks9 (ks : List Int) : Prop where
  lo : ∀ k ∈ ks, 0 ≤ k
  hi : ∀ k ∈ ks, k < 10
  len : ks.length ≤ 10
theorem KsOk.k9 {ks : List Int} (h : KsOk ks) : Ks9 ks := ⟨h.lo, h.hi, h.len⟩
end Mm
namespace Mm
theorem any_zi (i : Int) : ∀ l : List Int, ((zi l).any fun z => deq z (.int i)) = decide (i ∈ l)
  | [] => by simp
  | j :: r => by
    show (deq (.int j) (.int i) || (zi r).any _) = _
    rw [any_zi i r, show deq (.int j) (.int i) = decide (i = j) from by
      unfold deq
      by_cases h : i = j
      · simp [h]
      · simp [h, Ne.symm h]]
    simp
theorem eq_int {a b : Int} {hs : Hs} : vEq (.int a) (.int b) hs = .ok (.bl (decide (a = b))) hs := by
  simp [vEq, eqB, okd, res, deq]
  by_cases h : a = b <;> simp [h]
theorem eq_bl {a b : Bool} {hs : Hs} : vEq (.bl a) (.bl b) hs = .ok (.bl (decide (a = b))) hs := by
  simp [vEq, eqB, okd, res, deq]
  cases a <;> cases b <;> rfl
theorem ne_bl {a b : Bool} {hs : Hs} : vNe (.bl a) (.bl b) hs = .ok (.bl (!decide (a = b))) hs := by
  simp [vNe, eqB, okd, res, deq]
  cases a <;> cases b <;> rfl
/-- == of plain data -/
theorem eq_ok {x y : D} {hs : Hs} (hx : okd 60 x = true) (hy : okd 60 y = true) : vEq x y hs = .ok (.bl (deq x y)) hs := by
  have e : ∀ z : D, okd 60 z = true → res z hs = z := fun z h => by
    cases z <;> first | rfl | (unfold okd at h; cases h)
  unfold vEq eqB
  simp only [e x hx, e y hy, hx, hy, Bool.and_self, if_true]
theorem eq_lnil {ds : List D} {hs : Hs} (hok : okL 60 ds = true) : vEq (.l ds) (.l []) hs = .ok (.bl ds.isEmpty) hs := by
  have n0 : okL 60 [] = true := by unfold okL; rfl
  unfold vEq eqB
  simp only [res, okd_l, n0, hok, deq_nil, Bool.and_self, if_true]
theorem len_of {x : D} {ds : List D} {hs : Hs} (h : seqOf x hs = some ds) : vLen [x] hs = .ok (.int (ds.length : Nat)) hs := by
  unfold vLen
  simp [one1, h]
theorem ix_nat {x d : D} {ds : List D} {hs : Hs} {k : Nat} (h : seqOf x hs = some ds) (e : ds[k]? = some d) : vIx x (.int (k : Nat)) hs = .ok d hs := by
  have hk : k < ds.length := (List.getElem?_eq_some_iff.mp e).1
  have ei : ixN ds.length (k : Nat) = some k := by
    unfold ixN
    rw [if_pos (by omega), if_pos (by omega)]; simp
  unfold vIx
  simp only [h, ei, Option.bind_some, e]
def stK {α : Type} (k : α → List Int) (a y : α) : α := if lltB (k y) (k a) = true then y else a
theorem foldK_mem {α : Type} (k : α → List Int) (xs : List α) (x : α) : xs.foldl (stK k) x ∈ x :: xs := by
  induction xs generalizing x with
  | nil => exact List.mem_cons_self
  | cons y r ih =>
    simp only [List.foldl_cons]
    by_cases h : lltB (k y) (k x) = true
    · rw [show stK k x y = y from by unfold stK; rw [if_pos h]]
      exact List.mem_cons_of_mem _ (ih y)
    · rw [show stK k x y = x from by unfold stK; rw [if_neg h]]
      rcases List.mem_cons.mp (ih x) with z | z
      · rw [z]; exact List.mem_cons_self
      · exact List.mem_cons_of_mem _ (List.mem_cons_of_mem _ z)
def kC (x : Ch) : List Int := x.l :: x.w :: x.p :: x.r
theorem ltC_k (x y : Ch) : ltC x y = lltB (kC x) (kC y) := by
  unfold ltC kC
  simp only [lltB]
theorem stC_k : stC = stK kC := by
  funext x y
  unfold stC stK
  rw [ltC_k]
theorem leastC_mem {l : List Ch} {c : Ch} (h : leastC l = some c) : c ∈ l := by
  cases l with
  | nil => cases h
  | cons x r =>
    cases h
    rw [stC_k]
    exact foldK_mem kC r x
abbrev tz (ns : List Int) : D := .t (zi ns)
theorem chIn_mem {ws : List Wy} {b : Int} {place : Nat} {want : List Int} {c : Ch} (h : c ∈ chIn ws b place want) : ∃ (k : Nat) (g : Int) (x : Rt), want[k]? = some g ∧ bestR ws b g = some x ∧ c = ⟨x.l, (k : Nat), (place : Nat), x.r⟩ := by
  unfold chIn at h
  obtain ⟨p, h1, h2⟩ := List.mem_filterMap.mp h
  obtain ⟨g, k⟩ := p
  obtain ⟨x, h3, h4⟩ := Option.map_eq_some_iff.mp h2
  exact ⟨k, g, x, List.mem_zipIdx_iff_getElem?.mp h1, h3, h4.symm⟩
theorem chAll_mem {ws : List Wy} {off want : List Int} {c : Ch} : c ∈ chAll ws off want ↔ ∃ (j k : Nat) (b g : Int) (x : Rt), off[j]? = some b ∧ want[k]? = some g ∧ bestR ws b g = some x ∧ c = ⟨x.l, (k : Nat), (j : Nat), x.r⟩ := by
  constructor
  · intro h
    unfold chAll at h
    obtain ⟨p, h1, h2⟩ := List.mem_flatMap.mp h
    obtain ⟨b, j⟩ := p
    obtain ⟨k, g, x, e1, e2, e3⟩ := chIn_mem h2
    exact ⟨j, k, b, g, x, List.mem_zipIdx_iff_getElem?.mp h1, e1, e2, e3⟩
  · rintro ⟨j, k, b, g, x, e0, e1, e2, rfl⟩
    unfold chAll chIn
    refine List.mem_flatMap.mpr ⟨(b, j), ?_, List.mem_filterMap.mpr ⟨(g, k), ?_, ?_⟩⟩
    · obtain ⟨h1, h2⟩ := List.getElem?_eq_some_iff.mp e0
      exact List.mem_zipIdx_iff_getElem?.mpr e0
    · exact List.mem_zipIdx_iff_getElem?.mpr e1
    · rw [e2]; rfl
end Mm
namespace Mm
theorem in_tz {i : Int} {l : List Int} {hs : Hs} : vIn (.int i) (.t (zi l)) hs = .ok (.bl (decide (i ∈ l))) hs := by
  have e1 : (zi l).all flatD = true := by
    rw [List.all_eq_true]
    intro d hd
    obtain ⟨y, _, rfl⟩ := mem_zi hd
    rfl
  have e2 : flatD (.int i) = true := rfl
  unfold vIn inB
  simp only [e1, e2, Bool.and_self, if_true, any_zi]
/-- one way is looked at -/
def btr (kv : Kv) (w : Wy) : Kv := match lk kv w.a with
  | none => kv
  | some one => if w.b ∈ one.r then kv else (match lk kv w.b with
    | none => ptI kv w.b (rowOf one w)
    | some old => if ltB (rowOf one w) old = true then ptI kv w.b (rowOf one w) else kv)
structure Btr (ws : List Wy) (b : Int) (kv : Kv) : Prop where
  nd : (kv.map (·.1)).Nodup
  pth : ∀ p ∈ kv, Pth ws b p.1 p.2
  smp : ∀ p ∈ kv, p.2.r.Nodup
theorem Btr.step {ws : List Wy} {b : Int} {kv : Kv} {w : Wy} (B : Btr ws b kv) (hm : w ∈ ws) : Btr ws b (btr kv w) := by
  unfold btr
  cases e : lk kv w.a with
  | none => exact B
  | some one =>
    simp only
    by_cases hb : w.b ∈ one.r
    · rw [if_pos hb]; exact B
    · rw [if_neg hb]
      have h1 := lk_mem e
      have put : Btr ws b (ptI kv w.b (rowOf one w)) := by
        refine ⟨pt_nd B.nd, fun p hp => ?_, fun p hp => ?_⟩
        · rcases pt_mem hp with z | z
          · rw [z]; exact .step (B.pth _ h1) hm
          · exact B.pth p z.1
        · rcases pt_mem hp with z | z
          · rw [z]
            show (one.r ++ [w.b]).Nodup
            exact List.nodup_append.mpr ⟨B.smp _ h1, by simp, fun x hx y hy z => hb (by
              have : y = w.b := by simpa using hy
              rw [← this, ← z]; exact hx)⟩
          · exact B.smp p z.1
      cases lk kv w.b with
      | none => exact put
      | some old =>
        simp only
        split
        · exact put
        · exact B
theorem Btr.len {ws : List Wy} {b : Int} {kv : Kv} (hw : WaysOk ws) (b0 : 0 ≤ b) (b1 : b < 10) (B : Btr ws b kv) : kv.length ≤ 10 := by
  have := ten_le B.nd (fun k hk => by
    obtain ⟨p, h1, rfl⟩ := List.mem_map.mp hk
    exact (rch_lo hw b0 b1 (B.pth p h1).rch).1) (fun k hk => by
    obtain ⟨p, h1, rfl⟩ := List.mem_map.mp hk
    exact (rch_lo hw b0 b1 (B.pth p h1).rch).2)
  simpa using this
end Mm
namespace Mm
/-- a list, frozen or open -/
def Ls (x : D) (xs : List D) (hs : Hs) : Prop := x = .l xs ∨ ∃ n, x = .loc n ∧ hs[n]? = some (.lst xs)
theorem Ls.seq {x : D} {xs : List D} {hs : Hs} (h : Ls x xs hs) : seqOf x hs = some xs := by
  rcases h with h | ⟨n, h, e⟩
  · rw [h]; rfl
  · rw [h]; unfold seqOf; simp only [e]
theorem Ls.isi {x : D} {xs : List D} {hs : Hs} (h : Ls x xs hs) (T : String) : isiB x T hs = some (T == "list") := by
  rcases h with h | ⟨n, h, e⟩
  · rw [h]; rfl
  · rw [h]; unfold isiB; simp only [e]
theorem Ls.non {x : D} {xs : List D} {hs : Hs} (h : Ls x xs hs) : isNon x = false := by
  rcases h with h | ⟨n, h, e⟩ <;> (rw [h]; rfl)
/-- a tuple of either kind -/
def Tq (x : D) (xs : List D) : Prop := x = .t xs ∨ x = .st xs
inductive Al (hs : Hs) : Nat → D → D → Prop
  | non {n : Nat} : Al hs (n + 1) .non .non
  | bl {n : Nat} (b : Bool) : Al hs (n + 1) (.bl b) (.bl b)
  | int {n : Nat} (i : Int) : Al hs (n + 1) (.int i) (.int i)
  | str {n : Nat} (s : Str) (h : sOk s = true) : Al hs (n + 1) (.str s) (.str s)
  | tup {n : Nat} {xs ys : List D} (h1 : xs.length = ys.length) (h2 : ys.length < 95000) (h : ∀ (i : Nat) (x y : D), xs[i]? = some x → ys[i]? = some y → Al hs n x y) : Al hs (n + 1) (.t xs) (.t ys)
  | tupS {n : Nat} {x y : D} {xs ys : List D} (e1 : Tq x xs) (e2 : Tq y ys) (h1 : xs.length = ys.length) (h2 : ys.length < 95000) (h : ∀ (i : Nat) (x y : D), xs[i]? = some x → ys[i]? = some y → Al hs n x y) : Al hs (n + 1) x y
  | lst {n : Nat} {x y : D} {xs ys : List D} (e1 : Ls x xs hs) (e2 : Ls y ys hs) (h1 : xs.length = ys.length) (h2 : ys.length < 95000) (h : ∀ (i : Nat) (x y : D), xs[i]? = some x → ys[i]? = some y → Al hs n x y) : Al hs (n + 1) x y
theorem blsOf_true : ∀ n : Nat, blsOf (List.replicate n (.bl true)) = some (List.replicate n true)
  | 0 => rfl
  | n + 1 => by
    show blsOf (.bl true :: List.replicate n (.bl true)) = _
    unfold blsOf
    rw [blsOf_true n]; rfl
theorem isi_of {x : D} {T : String} {b : Bool} {hs : Hs} (h : isiB x T hs = some b) (hT : (["bool", "int", "str", "tuple", "list"] : List String).contains T = true) : vIsi [x, .ty T] hs = .ok (.bl b) hs := by
  unfold vIsi two2
  simp only [h, if_pos hT]
theorem alike_seq {n : Nat} {x y : D} {xs ys : List D} {hs : Hs} (ih : ∀ (x y : D), Al hs n x y → c_law_alike n [x, y] hs = .ok (.bl true) hs) (nn : isNon y = false) (q1 : isiB y "bool" hs = some false) (q2 : isiB y "int" hs = some false) (q3 : isiB y "str" hs = some false)
    (q4 : isiB y "tuple" hs = isiB x "tuple" hs) (q5 : isiB y "list" hs = isiB x "list" hs) {b4 b5 : Bool} (r4 : isiB x "tuple" hs = some b4) (r5 : isiB x "list" hs = some b5) (s1 : seqOf x hs = some xs) (s2 : seqOf y hs = some ys)
    (h1 : xs.length = ys.length) (h2 : ys.length < 95000) (h : ∀ (i : Nat) (x y : D), xs[i]? = some x → ys[i]? = some y → Al hs n x y) : c_law_alike (n + 1) [x, y] hs = .ok (.bl true) hs := by
  show callD 2 3 0 (m_law_alike (c_law_alike n)) _ _ = _
  refine T_callP rfl rfl fun N V g1 _ _ _ => ?_
  have e0 : onN vIsN y .non hs = .ok (.bl false) hs := by
    unfold onN vIsN
    rw [nn]; rfl
  have e1 := isi_of q1 (by decide)
  have e2 := isi_of q2 (by decide)
  have e3 := isi_of q3 (by decide)
  have e4 := isi_of (q4.trans r4) (by decide)
  have e5 := isi_of (q5.trans r5) (by decide)
  have f4 := isi_of r4 (by decide)
  have f5 := isi_of r5 (by decide)
  have l1 : vLen [x] hs = .ok (.int (ys.length : Nat)) hs := by rw [len_of s1, h1]
  have l2 : vLen [y] hs = .ok (.int (ys.length : Nat)) hs := len_of s2
  have hlim : -lim ≤ ((ys.length : Nat) : Int) ∧ ((ys.length : Nat) : Int) ≤ lim := by unfold lim; omega
  have ec : lcL none (Mm.gName 2) tYes (eArgs (c_law_alike n) (aCons (eBin vIx (eVar 0) (eVar 2)) (aCons (eBin vIx (eVar 1) (eVar 2)) aNil))) (wipe [some x, some y, none] [2]) (rng 0 ys.length) [] hs = .ok ([] ++ ((rng 0 ys.length).filter fun _ => true).map fun _ => .bl true) hs := by
    refine lc_eq (k := none) (hs := hs) (fun _ => true) (fun _ => .bl true) trivial (rng 0 ys.length) [] (fun z hz => ?_) (by rw [rng_len]; simp; omega)
    obtain ⟨i, hi⟩ := List.mem_iff_getElem?.mp hz
    obtain ⟨hlt, rfl⟩ := rng_get hi
    rw [show ((0 : Int) + (i : Nat)) = (i : Nat) from by omega]
    refine ⟨[some x, some y, some (.int (i : Nat))], rfl, rfl, fun _ => ?_⟩
    have g1 : xs[i]? = some xs[i] := List.getElem?_eq_getElem (by omega)
    have g2 : ys[i]? = some ys[i] := List.getElem?_eq_getElem hlt
    simp only [ix_nat s1 g1, ix_nat s2 g2, ih _ _ (h i _ _ g1 g2), sSeq,ST_seq,sAsg,sPar,sExpr,sIf,sRet,sRetN,sNx,ST_bindS,eMeth,eArgs,aCons,aNil,eBin,eUn,eC,eVar,eAnd,eOr,eNot,eIf,tVal,tAnd,tOr,tNot,tYes,gName,gTup,gCons,gNil,gSub,aa',ab',T_bind,T_ok,ba',bb',bc',T_ite,ST_nx,ST_ret,ac',ad',ae',af',ag',if_true,if_false,ah']
  have ev : vAll [.l (((rng 0 ys.length).filter fun _ => true).map fun _ => .bl true)] hs = .ok (.bl true) hs := by
    have : (((rng 0 ys.length).filter fun _ => true).map fun _ => D.bl true) = List.replicate ys.length (.bl true) := by
      rw [List.filter_eq_self.mpr (fun _ _ => rfl), List.map_const', rng_len]
    rw [this]
    unfold vAll
    simp only [one1, Option.bind_some, listOf, blsOf_true]
    simp
  simp only [m_law_alike, start,al',am',an',ao',List.replicate,aq',ar', e0, e1, e2, e3, e4, e5, f4, f5, ne_bl, ne_int, l1, l2, decide_true, eLc, Mm.iRng1, int1, if_pos hlim, Int.toNat_natCast, sSeq,ST_seq,sAsg,sPar,sExpr,sIf,sRet,sRetN,sNx,ST_bindS,eMeth,eArgs,aCons,aNil,eBin,eUn,eC,eVar,eAnd,eOr,eNot,eIf,tVal,tAnd,tOr,tNot,tYes,gName,gTup,gCons,gNil,gSub,aa',ab',T_bind,T_ok,ba',bb',bc',T_ite,ST_nx,ST_ret,ac',ad',ae',af',ag',if_true,if_false,ah']
  rw [ec]
  simp only [List.nil_append, ev, sSeq,ST_seq,sAsg,sPar,sExpr,sIf,sRet,sRetN,sNx,ST_bindS,eMeth,eArgs,aCons,aNil,eBin,eUn,eC,eVar,eAnd,eOr,eNot,eIf,tVal,tAnd,tOr,tNot,tYes,gName,gTup,gCons,gNil,gSub,aa',ab',T_bind,T_ok,ba',bb',bc',T_ite,ST_nx,ST_ret,ac',ad',ae',af',ag',if_true,if_false,ah']
  exact g1
theorem alike_eq {hs : Hs} : ∀ {n : Nat} {x y : D}, Al hs n x y → c_law_alike n [x, y] hs = .ok (.bl true) hs := by
  intro n
  induction n with
  | zero => intro x y h; cases h
  | succ n ih =>
    intro x y h
    cases h with
    | non =>
      show callD 2 3 0 (m_law_alike (c_law_alike n)) _ _ = _
      refine T_callP rfl rfl fun N V g1 _ _ _ => ?_
      have e0 : onN vIsN .non .non hs = .ok (.bl true) hs := rfl
      simp only [m_law_alike, start,al',am',an',ao',List.replicate,aq',ar', e0, sSeq,ST_seq,sAsg,sPar,sExpr,sIf,sRet,sRetN,sNx,ST_bindS,eMeth,eArgs,aCons,aNil,eBin,eUn,eC,eVar,eAnd,eOr,eNot,eIf,tVal,tAnd,tOr,tNot,tYes,gName,gTup,gCons,gNil,gSub,aa',ab',T_bind,T_ok,ba',bb',bc',T_ite,ST_nx,ST_ret,ac',ad',ae',af',ag',if_true,if_false,ah']
      exact g1
    | bl b =>
      show callD 2 3 0 (m_law_alike (c_law_alike n)) _ _ = _
      refine T_callP rfl rfl fun N V g1 _ _ _ => ?_
      have e0 : onN vIsN (.bl b) .non hs = .ok (.bl false) hs := rfl
      have e1 : vIsi [.bl b, .ty "bool"] hs = .ok (.bl true) hs := rfl
      simp only [m_law_alike, start,al',am',an',ao',List.replicate,aq',ar', e0, e1, eq_bl, decide_true, sSeq,ST_seq,sAsg,sPar,sExpr,sIf,sRet,sRetN,sNx,ST_bindS,eMeth,eArgs,aCons,aNil,eBin,eUn,eC,eVar,eAnd,eOr,eNot,eIf,tVal,tAnd,tOr,tNot,tYes,gName,gTup,gCons,gNil,gSub,aa',ab',T_bind,T_ok,ba',bb',bc',T_ite,ST_nx,ST_ret,ac',ad',ae',af',ag',if_true,if_false,ah']
      exact g1
    | int i =>
      show callD 2 3 0 (m_law_alike (c_law_alike n)) _ _ = _
      refine T_callP rfl rfl fun N V g1 _ _ _ => ?_
      have e0 : onN vIsN (.int i) .non hs = .ok (.bl false) hs := rfl
      have e1 : vIsi [.int i, .ty "bool"] hs = .ok (.bl false) hs := rfl
      have e2 : vIsi [.int i, .ty "int"] hs = .ok (.bl true) hs := rfl
      simp only [m_law_alike, start,al',am',an',ao',List.replicate,aq',ar', e0, e1, e2, eq_int, decide_true, sSeq,ST_seq,sAsg,sPar,sExpr,sIf,sRet,sRetN,sNx,ST_bindS,eMeth,eArgs,aCons,aNil,eBin,eUn,eC,eVar,eAnd,eOr,eNot,eIf,tVal,tAnd,tOr,tNot,tYes,gName,gTup,gCons,gNil,gSub,aa',ab',T_bind,T_ok,ba',bb',bc',T_ite,ST_nx,ST_ret,ac',ad',ae',af',ag',if_true,if_false,ah']
      exact g1
    | str s hk =>
      show callD 2 3 0 (m_law_alike (c_law_alike n)) _ _ = _
      refine T_callP rfl rfl fun N V g1 _ _ _ => ?_
      have e0 : onN vIsN (.str s) .non hs = .ok (.bl false) hs := rfl
      have e1 : vIsi [.str s, .ty "bool"] hs = .ok (.bl false) hs := rfl
      have e2 : vIsi [.str s, .ty "int"] hs = .ok (.bl false) hs := rfl
      have e3 : vIsi [.str s, .ty "str"] hs = .ok (.bl true) hs := rfl
      have eq : vEq (.str s) (.str s) hs = .ok (.bl true) hs := by
        rw [eq_ok (by unfold okd; exact hk) (by unfold okd; exact hk)]
        unfold deq; simp
      simp only [m_law_alike, start,al',am',an',ao',List.replicate,aq',ar', e0, e1, e2, e3, eq, sSeq,ST_seq,sAsg,sPar,sExpr,sIf,sRet,sRetN,sNx,ST_bindS,eMeth,eArgs,aCons,aNil,eBin,eUn,eC,eVar,eAnd,eOr,eNot,eIf,tVal,tAnd,tOr,tNot,tYes,gName,gTup,gCons,gNil,gSub,aa',ab',T_bind,T_ok,ba',bb',bc',T_ite,ST_nx,ST_ret,ac',ad',ae',af',ag',if_true,if_false,ah']
      exact g1
    | tup h1 h2 h =>
      exact alike_seq (fun _ _ => ih) rfl rfl rfl rfl rfl rfl rfl rfl rfl rfl h1 h2 h
    | tupS e1 e2 h1 h2 h =>
      rcases e1 with rfl | rfl <;> rcases e2 with rfl | rfl <;> exact alike_seq (fun _ _ => ih) rfl rfl rfl rfl rfl rfl rfl rfl rfl rfl h1 h2 h
    | lst e1 e2 h1 h2 h =>
      exact alike_seq (fun _ _ => ih) e2.non (e2.isi _) (e2.isi _) (e2.isi _) ((e2.isi _).trans (e1.isi _).symm) ((e2.isi _).trans (e1.isi _).symm) (e1.isi _) (e1.isi _) e1.seq e2.seq h1 h2 h
end Mm
namespace Mm
theorem sOk_rule {s : Str} (h : s ∈ rules) : sOk s = true := by
  have : ∀ s ∈ rules, sOk s = true := by decide +kernel
  exact this s h
theorem okd_wy {w : Wy} (h : w.r ∈ rules) (n : Nat) : okd (n + 5) (wyD w) = true := by
  unfold wyD
  rw [okd_t]
  unfold okL okL okL okL okL
  simp [okd, sOk_rule h]
theorem T_callA {np n : Nat} {m : MS} {ds : List D} {hs : Hs} {Q : D → Hs → Prop} (hl : ds.length = np) (h : RS.T (m (start n ds) hs) (fun _ h' => Q .non h') Q) : R.T (callA np n m ds hs) Q := by
  unfold callA
  rw [if_pos hl]
  unfold runD
  cases e : m (start n ds) hs with
  | nx fs h' => rw [e] at h; exact h
  | ret d h' => rw [e] at h; exact h
  | _ => rw [e] at h; exact h.elim
end Mm
namespace Mm
open Classical in
def reachS (ws : List Wy) (ks : List Int) : List Int := (rgI 10).filter fun v => decide (∃ k ∈ ks, Rch ws k v)
structure Going (ws : List Wy) (ks F : List Int) : Prop where
  nd : F.Nodup
  sub : ∀ k ∈ ks, k ∈ F
  rc : ∀ v ∈ F, ∃ k ∈ ks, Rch ws k v
theorem Going.len {ws : List Wy} {ks F : List Int} (hw : WaysOk ws) (lo : ∀ k ∈ ks, 0 ≤ k) (hi : ∀ k ∈ ks, k < 10) (h : Going ws ks F) : F.length ≤ 10 := by
  have hb : ∀ v ∈ F, 0 ≤ v ∧ v < 10 := fun v hv => by
    obtain ⟨k, h1, h2⟩ := h.rc v hv
    exact rch_lo hw (lo k h1) (hi k h1) h2
  exact ten_le h.nd (fun v hv => (hb v hv).1) (fun v hv => (hb v hv).2)
end Mm
namespace Mm
def idx : Nat → List (List Int)
  | 0 => [[]]
  | n + 1 => idx n ++ (idx n).map (· ++ [(n : Int)])
structure Up (n : Nat) (r : List Int) : Prop where
  lo : ∀ k ∈ r, 0 ≤ k
  hi : ∀ k ∈ r, k < n
  up : r.Pairwise (· < ·)
theorem Up.nd {n : Nat} {r : List Int} (h : Up n r) : r.Nodup := h.up.imp fun z => Int.ne_of_lt z
theorem Up.len {n : Nat} {r : List Int} (h : Up n r) : r.length ≤ n := by
  have := nd_le (m := rgI n) h.nd fun k hk => List.mem_map.mpr ⟨k.toNat, by have := h.lo k hk; have := h.hi k hk; simp; omega, by have := h.lo k hk; omega⟩
  simpa [rgI] using this
def kR (r : List Int) : List Int := (r.length : Int) :: r
def valsR (left r : List Int) : List Int := r.map fun i => left.getD i.toNat 0
/-- a comprehension of some items -/
theorem lc_filt {α : Type} {f : α → D} {k : Option (Nat × List D)} {g : MG} {t : MT} {e : M} {fs : Fs} {hs : Hs} (p : α → Bool) (h : α → D) (l : List α) (hl : l.length < 100000) (he : ∀ x ∈ l, ∃ fs', g (f x) fs hs = .ok fs' hs ∧ t fs' hs = .ok (p x) hs ∧ (p x = true → e fs' hs = .ok (h x) hs)) (hk : stands k hs := by trivial) : lcL k g t e fs (l.map f) [] hs = .ok ((l.filter p).map h) hs := by
  suffices H : ∀ (l : List α) (acc : List D), acc.length + l.length < 100000 → (∀ x ∈ l, ∃ fs', g (f x) fs hs = .ok fs' hs ∧ t fs' hs = .ok (p x) hs ∧ (p x = true → e fs' hs = .ok (h x) hs)) → lcL k g t e fs (l.map f) acc hs = .ok (acc ++ (l.filter p).map h) hs by
    have := H l [] (by simpa using hl) he
    simpa using this
  intro l
  induction l with
  | nil =>
    intro acc _ _
    rw [List.map_nil]
    unfold lcL
    rw [if_pos hk]; simp
  | cons x r ih =>
    intro acc ha hx
    obtain ⟨fs', e1, e2, e3⟩ := hx x List.mem_cons_self
    simp only [List.length_cons] at ha
    simp only [List.map_cons]
    unfold lcL
    rw [if_pos hk, e1]
    simp only [R.bindN_ok, e2]
    cases hp : p x with
    | true =>
      simp only [if_true, e3 hp, R.bindN_ok]
      rw [if_pos (by omega), ih _ (by simp; omega) fun y hy => hx y (List.mem_cons_of_mem _ hy)]
      simp [List.filter_cons, hp]
    | false =>
      simp only [Bool.false_eq_true, if_false]
      rw [ih _ (by omega) fun y hy => hx y (List.mem_cons_of_mem _ hy)]
      simp [List.filter_cons, hp]
end Mm
namespace Mm
structure Of where
  k : Int
  b : Option (List Int)
structure BodOk (b : List Int) : Prop where
  len : b.length ≤ 12
  lo : ∀ d ∈ b, 0 ≤ d
  hi : ∀ d ∈ b, d ≤ 9
structure OfsOk (os : List Of) : Prop where
  ks : KsOk (os.map Of.k)
  len : os.length ≤ 6
  bod : ∀ o ∈ os, ∀ b, o.b = some b → BodOk b
def keptK (os : List Of) : List Int := (os.filter fun o => o.b.isSome).map Of.k
def leftK (os : List Of) : List Int := (os.filter fun o => o.b.isNone).map Of.k
def leastO : List (List Int) → Option (List Int)
  | [] => none
  | x :: r => some (r.foldl (stK kR) x)
open Classical in
def goodR (ws : List Wy) (sure left due r : List Int) : Bool := decide (reachS ws (sure ++ valsR left r) = due)
def fewI (ws : List Wy) (sure left due : List Int) : List Int := (leastO ((idx left.length).filter (goodR ws sure left due))).getD []
def fewV (ws : List Wy) (sure left due : List Int) : List Int := valsR left (fewI ws sure left due)
/-- a comprehension over ints that keeps some -/
theorem lc_zi {k : Option (Nat × List D)} {g : MG} {t : MT} {e : M} {fs : Fs} {hs : Hs} (p : Int → Bool) (l : List Int) (hl : l.length < 100000) (he : ∀ x ∈ l, ∃ fs', g (.int x) fs hs = .ok fs' hs ∧ t fs' hs = .ok (p x) hs ∧ (p x = true → e fs' hs = .ok (.int x) hs)) (hk : stands k hs := by trivial) : lcL k g t e fs (zi l) [] hs = .ok (zi (l.filter p)) hs :=
  lc_filt (f := D.int) p (fun i => D.int i) l hl he hk
end Mm
namespace Mm
theorem filt_f {α : Type} {l : List α} : (l.filter fun _ => false) = [] := by simp
/-- a comprehension that throws the dice -/
theorem lc_dice {g : MG} {e : M} {fs : Fs} {tl : Hs} {Q : List D → Hs → Prop} (P : List D → List D → Prop) (l : List D) (hl : l.length < 1000) (h0 : P [] [])
    (he : ∀ done x rest, l = done ++ x :: rest → ∃ fs', (∀ h, g x fs h = .ok fs' h) ∧ ∀ (ds : List Int), 2 ≤ ds.length → ∀ acc, P done acc → (e fs' (.lst (zi ds) :: tl)).T fun d h' => ∃ ds', h' = .lst (zi ds') :: tl ∧ 2 ≤ ds'.length ∧ P (done ++ [x]) (acc ++ [d]))
    {ds : List Int} (hd : 2 ≤ ds.length) (hQ : ∀ out (ds' : List Int), P l out → 2 ≤ ds'.length → Q out (.lst (zi ds') :: tl)) : (lcL none g tYes e fs l [] (.lst (zi ds) :: tl)).T Q := by
  suffices H : ∀ (r done acc : List D) (ds : List Int), l = done ++ r → acc.length = done.length → 2 ≤ ds.length → P done acc → (lcL none g tYes e fs r acc (.lst (zi ds) :: tl)).T Q from
    H l [] [] ds rfl rfl hd h0
  intro r
  induction r with
  | nil =>
    intro done acc ds el _ hd hp
    unfold lcL
    rw [if_pos (show stands none _ from trivial)]
    rw [List.append_nil] at el
    rw [← el] at hp
    exact hQ acc ds hp hd
  | cons x r ih =>
    intro done acc ds el ha hd hp
    obtain ⟨fs', e1, e2⟩ := he done x r el
    have hlen := congrArg List.length el
    simp at hlen
    unfold lcL
    rw [if_pos (show stands none _ from trivial), e1]
    simp only [R.bindN_ok, tYes, if_true]
    obtain ⟨d, h', eo, ds', rfl, hd', hp'⟩ := (e2 ds hd acc hp).eq
    rw [eo]
    simp only [R.bindN_ok]
    rw [if_pos (by omega)]
    exact ih (done ++ [x]) (acc ++ [d]) ds' (by rw [el, List.append_assoc]; rfl) (by simp [ha]) hd' hp'
def fewO (ws : List Wy) (os : List Of) : List Int := fewV ws (keptK os) (leftK os) (reachS ws (os.map Of.k))
end Mm
namespace Mm
inductive Ev where
  | new (c : Int) | make (c k : Int) | non (n : Int) | bod (n k : Int) (b : List Int)
structure Cl where
  n : Int
  ow : Option Int
  os : List Of
  ak : List Int
  pn : Bool
structure Pa where
  n : Int
  pg : Int
  cl : Int
  wa : List Int
  rt : Option (List Int)
structure Bd where
  ws : List Wy
  rm : Int
  ears : List (Int × List Ev)
  jo : Int
  cu : Int
  as : Int
  eyes : List Int
  cls : List Cl
  qu : List Pa
def owD : Option Int → D
  | none => .non
  | some i => .int i
def bodS : Option (List Int) → D
  | none => .non
  | some b => .st (zi b)
def ofS (o : Of) : D := .t [.int o.k, bodS o.b]
/-- a body as a tuple of either kind -/
def BtD (d : D) (b : List Int) : Prop := d = .t (zi b) ∨ d = .st (zi b)
def EvR : Ev → D → Prop
  | .new c, d => d = .t [.str "new", .int c]
  | .make c k, d => d = .t [.str "make", .int c, .int k]
  | .non n, d => d = .t [.str "pasted", .int n]
  | .bod n k b, d => ∃ x, BtD x b ∧ d = .t [.str "pasted", .int n, .int k, x]
def EvsR : List Ev → List D → Prop
  | [], ds => ds = []
  | e :: es, ds => ∃ d r, ds = d :: r ∧ EvR e d ∧ EvsR es r
theorem EvsR.len : ∀ {es : List Ev} {ds : List D}, EvsR es ds → ds.length = es.length
  | [], ds, h => by unfold EvsR at h; subst h; rfl
  | x :: es, ds, h => by
    obtain ⟨y, r, rfl, h1, h2⟩ := h
    simp [EvsR.len h2]
def rtP : Option (List Int) → D
  | none => .non
  | some r => tz r
def rtL : Option (List Int) → D
  | none => .t []
  | some r => tz r
/-- the body of a kind, if it is made -/
def bodyOf (os : List Of) (k : Int) : Option (List Int) := (os.find? fun o => decide (o.k = k)).bind Of.b
def lkB (bs : List (Int × List Int)) (k : Int) : Option (List Int) := (bs.find? fun p => decide (p.1 = k)).map (·.2)
def boD (bs : List (Int × List Int)) : List (Key × D) := bs.map fun p => (.inl p.1, .st (zi p.2))
def akD (ks : List Int) : List (Key × D) := ks.map fun k => (.inl k, .bl true)
section
variable (i : Nat) (L : Pl) (h : Rh)
def bdF (B : Bd) : List (Str × D) := [("ways", .l (B.ws.map wyD)), ("room", .int B.rm), ("ears", .loc (L (i, .ears))), ("joined", .int B.jo), ("cuts", .int B.cu), ("asks", .int B.as), ("eyes", .loc (L (i, .eyes))), ("clips", .loc (L (i, .cls))), ("queue", .loc (L (i, .qu)))]
def clF (c : Cl) : List (Str × D) := [("number", .int c.n), ("owner", owD c.ow), ("kinds", .loc (L (i, .ks c.n))), ("bodies", .loc (L (i, .bo c.n))), ("asked", .loc (L (i, .ak c.n))), ("pinned", .bl c.pn)]
def paF (p : Pa) : List (Str × D) := [("number", .int p.n), ("program", .int p.pg), ("clip", .int p.cl), ("wanted", tz p.wa), ("route", rtP p.rt)]
structure ClR (c : Cl) : Prop where
  cl : h (i, .cl c.n) = some (.ins "Clip" (clF i L c))
  ks : h (i, .ks c.n) = some (.lst (zi (c.os.map Of.k)))
  bo : ∃ bs, h (i, .bo c.n) = some (.dk (boD bs)) ∧ (∀ k, lkB bs k = bodyOf c.os k) ∧ (bs.map (·.1)).Nodup
  ak : h (i, .ak c.n) = some (.dk (akD c.ak))
structure PB (B : Bd) : Prop where
  bd : h (i, .bd) = some (.ins "Board" (bdF i L B))
  ears : h (i, .ears) = some (.dk (B.ears.map fun e => (.inl e.1, .loc (L (i, .ear e.1)))))
  ear : ∀ e ∈ B.ears, ∃ ds, h (i, .ear e.1) = some (.lst ds) ∧ EvsR e.2 ds
  eyes : ∃ ks, h (i, .eyes) = some (.dk (akD ks)) ∧ ks.Perm B.eyes
  cls : h (i, .cls) = some (.lst (B.cls.map fun c => .loc (L (i, .cl c.n))))
  cl : ∀ c ∈ B.cls, ClR i L h c
  qu : h (i, .qu) = some (.lst (B.qu.map fun p => .loc (L (i, .pa p.n))))
  pa : ∀ p ∈ B.qu, h (i, .pa p.n) = some (.ins "Paste" (paF p))
def wF (eyes : List Int) (B : Bd) : List (Key × D) := [(.inr "ways", .l (B.ws.map wyD)), (.inr "most", .int B.rm), (.inr "ears", .loc (L (i, .wears))), (.inr "joined", .int B.jo), (.inr "cuts", .int B.cu), (.inr "asks", .int B.as), (.inr "eyes", .l (zi eyes)), (.inr "clips", .l (B.cls.map fun c => .loc (L (i, .wcl c.n)))), (.inr "open", .l (B.qu.map fun p => .loc (L (i, .wpa p.n))))]
def wclF (c : Cl) : List (Key × D) := [(.inr "number", .int c.n), (.inr "owner", owD c.ow), (.inr "offers", .l (c.os.map ofS)), (.inr "asked", .loc (L (i, .wak c.n))), (.inr "pinned", .bl c.pn)]
def wpaF (p : Pa) : List (Key × D) := [(.inr "number", .int p.n), (.inr "program", .int p.pg), (.inr "clip", .int p.cl), (.inr "wanted", tz p.wa), (.inr "route", rtL p.rt)]
structure LB (B : Bd) : Prop where
  w : ∃ eyes, h (i, .w) = some (.dk (wF i L eyes B)) ∧ eyes.Perm B.eyes
  ears : h (i, .wears) = some (.dk (B.ears.map fun e => (.inl e.1, .loc (L (i, .wear e.1)))))
  ear : ∀ e ∈ B.ears, ∃ ds, h (i, .wear e.1) = some (.lst ds) ∧ EvsR e.2 ds
  cl : ∀ c ∈ B.cls, h (i, .wcl c.n) = some (.dk (wclF i L c))
  ak : ∀ c ∈ B.cls, h (i, .wak c.n) = some (.lst (zi c.ak))
  pa : ∀ p ∈ B.qu, h (i, .wpa p.n) = some (.dk (wpaF p))
end
/-- only roles of the i-th board's program side change; addresses stay but those of the queue and of rows of kinds -/
structure FrP (i : Nat) (L : Pl) (h : Rh) (L' : Pl) (h' : Rh) : Prop where
  out : ∀ r : Role, (r.1 ≠ i ∨ r.2.prog = false) → h' r = h r ∧ L' r = L r
  adr : ∀ r : Role, (h r).isSome = true → r.2 ≠ .qu → (∀ n, r.2 ≠ .ks n) → L' r = L r ∧ (h' r).isSome = true
  num : ∀ (k : Int) (fs : List (Str × D)) (d : D), h (i, .pa k) = some (.ins "Paste" fs) → dget fs "number" = some d → ∃ fs', h' (i, .pa k) = some (.ins "Paste" fs') ∧ dget fs' "number" = some d
structure FrL (i : Nat) (L : Pl) (h : Rh) (L' : Pl) (h' : Rh) : Prop where
  out : ∀ r : Role, (r.1 ≠ i ∨ r.2.law = false) → h' r = h r ∧ L' r = L r
  adr : ∀ r : Role, (h r).isSome = true → L' r = L r ∧ (h' r).isSome = true
  num : ∀ (k : Int) (fs : List (Key × D)) (d : D), h (i, .wpa k) = some (.dk fs) → dget fs (.inr "number") = some d → ∃ fs', h' (i, .wpa k) = some (.dk fs') ∧ dget fs' (.inr "number") = some d
theorem FrP.refl (i : Nat) (L : Pl) (h : Rh) : FrP i L h L h := ⟨fun _ _ => ⟨rfl, rfl⟩, fun _ e _ _ => ⟨rfl, e⟩, fun _ fs _ e q => ⟨fs, e, q⟩⟩
theorem FrL.refl (i : Nat) (L : Pl) (h : Rh) : FrL i L h L h := ⟨fun _ _ => ⟨rfl, rfl⟩, fun _ e => ⟨rfl, e⟩, fun _ fs _ e q => ⟨fs, e, q⟩⟩
theorem FrP.trans {i : Nat} {L L' L2 : Pl} {h h' h2 : Rh} (a : FrP i L h L' h') (b : FrP i L' h' L2 h2) : FrP i L h L2 h2 :=
  ⟨fun r q => ⟨(b.out r q).1.trans (a.out r q).1, (b.out r q).2.trans (a.out r q).2⟩, fun r e q1 q2 => ⟨(b.adr r (a.adr r e q1 q2).2 q1 q2).1.trans (a.adr r e q1 q2).1, (b.adr r (a.adr r e q1 q2).2 q1 q2).2⟩, fun k fs d e q => by
    obtain ⟨fs', e', q'⟩ := a.num k fs d e q
    exact b.num k fs' d e' q'⟩
theorem FrL.trans {i : Nat} {L L' L2 : Pl} {h h' h2 : Rh} (a : FrL i L h L' h') (b : FrL i L' h' L2 h2) : FrL i L h L2 h2 :=
  ⟨fun r q => ⟨(b.out r q).1.trans (a.out r q).1, (b.out r q).2.trans (a.out r q).2⟩, fun r e => ⟨(b.adr r (a.adr r e).2).1.trans (a.adr r e).1, (b.adr r (a.adr r e).2).2⟩, fun k fs d e q => by
    obtain ⟨fs', e', q'⟩ := a.num k fs d e q
    exact b.num k fs' d e' q'⟩
def AfP (i : Nat) (L : Pl) (h : Rh) (hs' : Hs) (B' : Bd) : Prop := ∃ L' h', Rep L' h' hs' ∧ PB i L' h' B' ∧ FrP i L h L' h'
def AfL (i : Nat) (L : Pl) (h : Rh) (hs' : Hs) (B' : Bd) : Prop := ∃ L' h', Rep L' h' hs' ∧ LB i L' h' B' ∧ FrL i L h L' h'
theorem PB.keep {i : Nat} {L L' : Pl} {h h' : Rh} {B : Bd} (P : PB i L h B) (e : ∀ q : Ro, q.prog = true → h' (i, q) = h (i, q) ∧ L' (i, q) = L (i, q)) : PB i L' h' B := by
  have f : bdF i L' B = bdF i L B := by
    unfold bdF
    rw [(e .ears rfl).2, (e .eyes rfl).2, (e .cls rfl).2, (e .qu rfl).2]
  refine ⟨by rw [(e .bd rfl).1, f]; exact P.bd, ?_, fun x hx => ?_, ?_, ?_, fun c hc => ?_, ?_, fun p hp => ?_⟩
  · rw [(e .ears rfl).1, P.ears]
    congr 2
    exact List.map_congr_left fun x _ => by rw [(e (.ear x.1) rfl).2]
  · obtain ⟨ds, q, r⟩ := P.ear x hx
    exact ⟨ds, by rw [(e (.ear x.1) rfl).1]; exact q, r⟩
  · obtain ⟨ks, q, r⟩ := P.eyes
    exact ⟨ks, by rw [(e .eyes rfl).1]; exact q, r⟩
  · rw [(e .cls rfl).1, P.cls]
    congr 2
    exact List.map_congr_left fun x _ => by rw [(e (.cl x.n) rfl).2]
  · obtain ⟨q1, q2, ⟨bs, q3, q4⟩, q5⟩ := P.cl c hc
    have f2 : clF i L' c = clF i L c := by
      unfold clF
      rw [(e (.ks c.n) rfl).2, (e (.bo c.n) rfl).2, (e (.ak c.n) rfl).2]
    exact ⟨by rw [(e (.cl c.n) rfl).1, f2]; exact q1, by rw [(e (.ks c.n) rfl).1]; exact q2, ⟨bs, by rw [(e (.bo c.n) rfl).1]; exact q3, q4⟩, by rw [(e (.ak c.n) rfl).1]; exact q5⟩
  · rw [(e .qu rfl).1, P.qu]
    congr 2
    exact List.map_congr_left fun x _ => by rw [(e (.pa x.n) rfl).2]
  · rw [(e (.pa p.n) rfl).1]; exact P.pa p hp
theorem LB.keep {i : Nat} {L L' : Pl} {h h' : Rh} {B : Bd} (P : LB i L h B) (e : ∀ q : Ro, q.law = true → h' (i, q) = h (i, q) ∧ L' (i, q) = L (i, q)) : LB i L' h' B := by
  refine ⟨?_, ?_, fun x hx => ?_, fun c hc => ?_, fun c hc => ?_, fun p hp => ?_⟩
  · obtain ⟨ey, q, r⟩ := P.w
    refine ⟨ey, ?_, r⟩
    have f : wF i L' ey B = wF i L ey B := by
      unfold wF
      have e1 : (B.cls.map fun c => D.loc (L' (i, .wcl c.n))) = B.cls.map fun c => D.loc (L (i, .wcl c.n)) := List.map_congr_left fun x _ => by rw [(e (.wcl x.n) rfl).2]
      have e2 : (B.qu.map fun p => D.loc (L' (i, .wpa p.n))) = B.qu.map fun p => D.loc (L (i, .wpa p.n)) := List.map_congr_left fun x _ => by rw [(e (.wpa x.n) rfl).2]
      rw [(e .wears rfl).2, e1, e2]
    rw [(e .w rfl).1, f]; exact q
  · rw [(e .wears rfl).1, P.ears]
    congr 2
    exact List.map_congr_left fun x _ => by rw [(e (.wear x.1) rfl).2]
  · obtain ⟨ds, q, r⟩ := P.ear x hx
    exact ⟨ds, by rw [(e (.wear x.1) rfl).1]; exact q, r⟩
  · have f2 : wclF i L' c = wclF i L c := by
      unfold wclF
      rw [(e (.wak c.n) rfl).2]
    rw [(e (.wcl c.n) rfl).1, f2]; exact P.cl c hc
  · rw [(e (.wak c.n) rfl).1]; exact P.ak c hc
  · rw [(e (.wpa p.n) rfl).1]; exact P.pa p hp
theorem law_prog (q : Ro) (h : q.law = true) : q.prog = false := by cases q <;> first | rfl | cases h
end Mm
namespace Mm
def hear (ears : List (Int × List Ev)) (p : Int) (e : Ev) : List (Int × List Ev) := ears.map fun x => if x.1 = p then (x.1, x.2 ++ [e]) else x
def answerB (B : Bd) (p : Pa) (e : Ev) : Bd := { B with qu := B.qu.filter fun q => decide (q.n ≠ p.n), ears := hear B.ears p.pg e }
theorem dget_ears {α : Type} {f : Int × α → D} : ∀ {es : List (Int × α)} {x : Int × α}, (es.map (·.1)).Nodup → x ∈ es → dget (es.map fun e => ((.inl e.1 : Key), f e)) (.inl x.1) = some (f x)
  | [], x, _, h => by simp at h
  | e :: es, x, nd, h => by
    simp only [List.map_cons, dget]
    rw [List.map_cons, List.nodup_cons] at nd
    by_cases he : e = x
    · subst he; simp
    · have hx : x ∈ es := by
        rcases List.mem_cons.mp h with z | z
        · exact absurd z.symm he
        · exact z
      have ne : e.1 ≠ x.1 := fun z => nd.1 (z ▸ List.mem_map_of_mem hx)
      rw [if_neg (by simpa using ne)]
      exact dget_ears nd.2 hx
theorem eLc_eq {α : Type} {own : List Nat} {src : MI} {g : MG} {t : MT} {e : M} {fs : Fs} {hs : Hs} {k : Option (Nat × List D)} {f : α → D} {l : List α} (p : α → Bool) (hh : α → D) (e1 : src fs hs = .ok (l.map f, k) hs) (hk : stands k hs) (hl : l.length < 100000)
    (he : ∀ x ∈ l, ∃ fs', g (f x) (wipe fs own) hs = .ok fs' hs ∧ t fs' hs = .ok (p x) hs ∧ (p x = true → e fs' hs = .ok (hh x) hs)) : eLc own src g t e fs hs = .ok (.l ((l.filter p).map hh)) hs := by
  unfold eLc
  rw [e1]
  simp only [R.bind_ok]
  rw [lc_filt p hh l hl he hk]
  rfl
section
variable {i : Nat} {L : Pl} {h : Rh} {hs : Hs} {B : Bd}
theorem PB.fbd (P : PB i L h B) (Z : Rep L h hs) {f : Str} {d : D} (hf : dget (bdF i L B) f = some d := by rfl) : vFld ["Board"] f (.loc (L (i, .bd))) hs = .ok d hs := Z.fld P.bd hf (by simp)
theorem ClR.keep {L' : Pl} {h' : Rh} {c : Cl} (C : ClR i L h c) (e1 : h' (i, .cl c.n) = h (i, .cl c.n)) (e2 : h' (i, .ks c.n) = h (i, .ks c.n) ∧ L' (i, .ks c.n) = L (i, .ks c.n)) (e3 : h' (i, .bo c.n) = h (i, .bo c.n) ∧ L' (i, .bo c.n) = L (i, .bo c.n)) (e4 : h' (i, .ak c.n) = h (i, .ak c.n) ∧ L' (i, .ak c.n) = L (i, .ak c.n)) : ClR i L' h' c := by
  obtain ⟨q1, q2, ⟨bs, q3, q4⟩, q5⟩ := C
  have f2 : clF i L' c = clF i L c := by
    unfold clF
    rw [e2.2, e3.2, e4.2]
  exact ⟨by rw [e1, f2]; exact q1, by rw [e2.1]; exact q2, ⟨bs, by rw [e3.1]; exact q3, q4⟩, by rw [e4.1]; exact q5⟩
theorem hear_fst {es : List (Int × List Ev)} {p : Int} {e : Ev} : (hear es p e).map (·.1) = es.map (·.1) := by
  unfold hear
  rw [List.map_map]
  exact List.map_congr_left fun x _ => by simp only [Function.comp]; split <;> rfl
theorem stL {L : Pl} {r : Role} {ds : List D} (Z : Rep L h hs) (e : h r = some (.lst ds)) : stands (some (L r, ds)) hs := Z.get r _ e
theorem fst_eq {α β : Type} : ∀ {l : List (α × β)} {x y : α × β}, (l.map (·.1)).Nodup → x ∈ l → y ∈ l → x.1 = y.1 → x = y
  | [], x, _, _, h, _, _ => by simp at h
  | z :: l, x, y, nd, hx, hy, e => by
    rw [List.map_cons, List.nodup_cons] at nd
    rcases List.mem_cons.mp hx with h1 | h1
    · rcases List.mem_cons.mp hy with h2 | h2
      · rw [h1, h2]
      · exact absurd (List.mem_map_of_mem (f := (·.1)) h2) (by rw [← e, h1]; exact nd.1)
    · rcases List.mem_cons.mp hy with h2 | h2
      · exact absurd (List.mem_map_of_mem (f := (·.1)) h1) (by rw [e, h2]; exact nd.1)
      · exact fst_eq nd.2 h1 h2 e
/-- only these roles change -/
theorem FrP.ofN {L' : Pl} {h' : Rh} (S : List Role) (hS : ∀ r ∈ S, r.1 = i ∧ r.2.prog = true) (k : ∀ r, r ∉ S → h' r = h r ∧ L' r = L r) (a : ∀ r ∈ S, (h r).isSome = true → r.2 ≠ .qu → (∀ n, r.2 ≠ .ks n) → L' r = L r ∧ (h' r).isSome = true)
    (num : ∀ (k : Int) (fs : List (Str × D)) (d : D), h (i, .pa k) = some (.ins "Paste" fs) → dget fs "number" = some d → ∃ fs', h' (i, .pa k) = some (.ins "Paste" fs') ∧ dget fs' "number" = some d) : FrP i L h L' h' := by
  refine ⟨fun r q => k r fun hr => ?_, fun r e q1 q2 => ?_, num⟩
  · obtain ⟨a1, a2⟩ := hS r hr
    rcases q with q | q
    · exact q a1
    · rw [a2] at q; cases q
  · by_cases hr : r ∈ S
    · exact a r hr e q1 q2
    · obtain ⟨k1, k2⟩ := k r hr
      exact ⟨k2, by rw [k1]; exact e⟩
theorem FrP.of {L' : Pl} {h' : Rh} (S : List Role) (hS : ∀ r ∈ S, r.1 = i ∧ r.2.prog = true) (k : ∀ r, r ∉ S → h' r = h r ∧ L' r = L r) (a : ∀ r ∈ S, (h r).isSome = true → r.2 ≠ .qu → (∀ n, r.2 ≠ .ks n) → L' r = L r ∧ (h' r).isSome = true) (np : ∀ j : Int, (i, Ro.pa j) ∉ S := by simp) : FrP i L h L' h' :=
  FrP.ofN S hS k a fun j fs d e q => ⟨fs, by rw [(k _ (np j)).1]; exact e, q⟩
end
end Mm
namespace Mm
def R.TX {α : Type} (r : R α) (Q : α → Hs → Prop) (X : Str → Hs → Prop) : Prop := match r with
  | .ok a hs => Q a hs
  | .exc c _ hs => X c hs
  | .bad => False
@[simp] theorem TX_ok {α : Type} (a : α) (hs : Hs) (Q : α → Hs → Prop) (X : Str → Hs → Prop) : R.TX (.ok a hs) Q X = Q a hs := rfl
@[simp] theorem TX_exc {α : Type} (c : Str) (p : D) (hs : Hs) (Q : α → Hs → Prop) (X : Str → Hs → Prop) : R.TX (.exc c p hs : R α) Q X = X c hs := rfl
@[simp] theorem TX_bind {α β : Type} (r : R α) (k : α → Hs → R β) (Q : β → Hs → Prop) (X : Str → Hs → Prop) : R.TX (r.bind k) Q X = R.TX r (fun a hs => R.TX (k a hs) Q X) X := by cases r <;> rfl
@[simp] theorem TX_ite {α : Type} {c : Prop} [Decidable c] (a b : R α) (Q : α → Hs → Prop) (X : Str → Hs → Prop) : R.TX (if c then a else b) Q X = if c then R.TX a Q X else R.TX b Q X := by split <;> rfl
theorem R.TX.imp {α : Type} {r : R α} {Q Q' : α → Hs → Prop} {X X' : Str → Hs → Prop} (h : R.TX r Q X) (q : ∀ a hs, Q a hs → Q' a hs) (x : ∀ c hs, X c hs → X' c hs) : R.TX r Q' X' := by
  cases r with
  | ok a hs => exact q _ _ h
  | exc _ _ _ => exact x _ _ h
  | bad => exact h
def RS.TX (r : RS) (N : Fs → Hs → Prop) (V : D → Hs → Prop) (X : Str → Hs → Prop) : Prop := match r with
  | .nx fs hs => N fs hs
  | .ret d hs => V d hs
  | .exc c _ _ hs => X c hs
  | _ => False
@[simp] theorem SX_nx (fs : Fs) (hs : Hs) (N : Fs → Hs → Prop) (V : D → Hs → Prop) (X : Str → Hs → Prop) : RS.TX (.nx fs hs) N V X = N fs hs := rfl
@[simp] theorem SX_ret (d : D) (hs : Hs) (N : Fs → Hs → Prop) (V : D → Hs → Prop) (X : Str → Hs → Prop) : RS.TX (.ret d hs) N V X = V d hs := rfl
@[simp] theorem SX_exc (c : Str) (p : D) (fs : Fs) (hs : Hs) (N : Fs → Hs → Prop) (V : D → Hs → Prop) (X : Str → Hs → Prop) : RS.TX (.exc c p fs hs) N V X = X c hs := rfl
@[simp] theorem SX_bindS {α : Type} (fs : Fs) (r : R α) (k : α → Hs → RS) (N : Fs → Hs → Prop) (V : D → Hs → Prop) (X : Str → Hs → Prop) : RS.TX (R.bindS fs r k) N V X = R.TX r (fun a hs => RS.TX (k a hs) N V X) X := by cases r <;> rfl
@[simp] theorem SX_seq (r : RS) (k : MS) (N : Fs → Hs → Prop) (V : D → Hs → Prop) (X : Str → Hs → Prop) : RS.TX (r.seq k) N V X = RS.TX r (fun fs hs => RS.TX (k fs hs) N V X) V X := by cases r <;> rfl
@[simp] theorem SX_ite {c : Prop} [Decidable c] (a b : RS) (N : Fs → Hs → Prop) (V : D → Hs → Prop) (X : Str → Hs → Prop) : RS.TX (if c then a else b) N V X = if c then RS.TX a N V X else RS.TX b N V X := by split <;> rfl
theorem TX_callA {np n : Nat} {m : MS} {ds : List D} {hs : Hs} {Q : D → Hs → Prop} {X : Str → Hs → Prop} (hl : ds.length = np) (h : RS.TX (m (start n ds) hs) (fun _ h' => Q .non h') Q X) : R.TX (callA np n m ds hs) Q X := by
  unfold callA
  rw [if_pos hl]
  unfold runD
  cases e : m (start n ds) hs <;> rw [e] at h <;> first | exact h | exact h.elim
def keysE (B : Bd) : List Int := B.ears.map (·.1)
theorem dget_isSome {α : Type} {f : Int × α → D} {k : Int} {es : List (Int × α)} : (dget (es.map fun e => ((.inl e.1 : Key), f e)) (.inl k)).isSome = decide (k ∈ es.map (·.1)) := by
  induction es with
  | nil => rfl
  | cons e es ih =>
    simp only [List.map_cons, dget, List.mem_cons]
    by_cases h : e.1 = k
    · rw [if_pos (by rw [h]), h]; simp
    · rw [if_neg (by simpa using h), ih]
      have h' : k ≠ e.1 := fun z => h z.symm
      simp [h']
theorem eqI {a b : Int} {hs : Hs} : vEq (.int a) (.int b) hs = .ok (.bl (decide (a = b))) hs := by
  simp only [vEq, eqB, res, okd, deq, Bool.and_self, if_true]
  by_cases h : a = b <;> simp [h]
section
variable {i : Nat} {L : Pl} {h : Rh} {hs : Hs} {B : Bd}
structure Rng (B : Bd) : Prop where
  e : ∀ p ∈ keysE B, 0 ≤ p ∧ p < B.jo
  c : ∀ c ∈ B.cls, 0 ≤ c.n ∧ c.n < B.cu
theorem need_T {p : Int} (Z : Rep L h hs) (P : PB i L h B) (G : Rng B) {Q : D → Hs → Prop} {X : Str → Hs → Prop} (h1 : p ∈ keysE B → Q .non hs) (h2 : p ∉ keysE B → X "NoProgram" hs) : R.TX (c_Board_need_program [.loc (L (i, .bd)), .int p] hs) Q X := by
  refine TX_callA rfl ?_
  have f1 := P.fbd Z (f := "joined") (d := .int B.jo)
  have f2 := P.fbd Z (f := "ears") (d := .loc (L (i, .ears)))
  have f3 := Z.notInK (k := p) P.ears
  rw [dget_isSome] at f3
  have f4 : vSub (.int B.jo) (.int 1) hs = .ok (.int (B.jo - 1)) hs := rfl
  unfold m_Board_need_program
  simp only [sIf, tOr, tNot, tVal, eArgs, aCons, aNil, eVar, eC, eBin, eUn, start,al',am',an',ao',List.replicate,aq',ar', sRaise, sNx, f1, f2, f3, f4, between_eq, R.bind_ok, R.bindS_ok, List.getElem?_cons_zero, List.getElem?_cons_succ, SX_bindS, TX_bind, TX_ok, TX_ite, SX_ite, SX_exc, SX_nx]
  by_cases hk : p ∈ keysE B
  · have ⟨a1, a2⟩ := G.e p hk
    have k2 : p ∈ B.ears.map (·.1) := hk
    simp [a1, (by omega : p ≤ B.jo - 1), k2, h1 hk]
  · have k2 : p ∉ B.ears.map (·.1) := hk
    split
    · exact h2 hk
    · simp [k2, h2 hk]
def clipAt (B : Bd) (n : Int) : Option Cl := B.cls.find? fun c => decide (c.n = n)
theorem clipAt_mem {B : Bd} {n : Int} {c : Cl} (h : clipAt B n = some c) : c ∈ B.cls ∧ c.n = n := ⟨List.mem_of_find?_eq_some h, of_decide_eq_true (List.find?_some (p := fun c : Cl => decide (c.n = n)) h)⟩
end
end Mm
namespace Mm
def evensB (b : List Int) : List Int := (List.range ((b.length + 1) / 2)).filterMap fun k => b[2 * k]?
def turnB (r : Str) (b : List Int) : List Int :=
  if r = "turn" then b.reverse else if r = "sort" then sortI b else if r = "half" then evensB b else if r = "next" then b.map (fun d => (d + 1) % 10) else b
theorem BtD.seq {d : D} {b : List Int} (h : BtD d b) (hs : Hs) : seqOf d hs = some (zi b) := by rcases h with rfl | rfl <;> rfl
theorem BtD.walk {d : D} {b : List Int} (h : BtD d b) {a : M} {fs : Fs} {hs : Hs} (ha : a fs hs = .ok d hs) : iSeq a fs hs = .ok (zi b, none) hs := by
  rcases h with rfl | rfl <;> simp [iSeq, ha]
theorem vlen_of {d : D} {ds : List D} {hs : Hs} (h : seqOf d hs = some ds) : vLen [d] hs = .ok (.int ds.length) hs := by
  simp [vLen, one1, h]
theorem BtD.ix {d : D} {b : List Int} (h : BtD d b) {hs : Hs} {k : Nat} {x : Int} (hk : b[k]? = some x) : vIx d (.int (k : Int)) hs = .ok (.int x) hs := by
  have hl : k < b.length := (List.getElem?_eq_some_iff.mp hk).1
  unfold vIx
  simp only [h.seq hs]
  have e1 : ixN (zi b).length (k : Int) = some k := by
    unfold ixN
    rw [if_pos (by omega), if_pos (by simp; exact hl)]
    simp
  rw [e1]
  simp [hk]
theorem str5 {r : Str} (h : r ∈ rules) : r = "same" ∨ r = "turn" ∨ r = "sort" ∨ r = "half" ∨ r = "next" := by simpa [rules] using h
theorem turned_T {d : D} {b : List Int} {r : Str} {hs : Hs} (hb : BtD d b) (hl : b.length ≤ 100) (hr : r ∈ rules) {Q : D → Hs → Prop} (hQ : ∀ d', BtD d' (turnB r b) → Q d' hs) : R.T (c_turned [d, .str r] hs) Q := by
  refine T_callA rfl ?_
  unfold m_turned
  have ev : ∀ x y : Str, sOk x = true → sOk y = true → vEq (.str x) (.str y) hs = .ok (.bl (x == y)) hs := fun x y h1 h2 => by simp [vEq, eqB, res, okd, deq, h1, h2]
  have s1 : sOk "turn" = true := by decide +kernel
  have s2 : sOk "sort" = true := by decide +kernel
  have s3 : sOk "half" = true := by decide +kernel
  have s4 : sOk "next" = true := by decide +kernel
  have s5 : sOk r = true := sOk_rule hr
  have e1 := ev r "turn" s5 s1
  have e2 := ev r "sort" s5 s2
  have e3 := ev r "half" s5 s3
  have e4 := ev r "next" s5 s4
  simp only [sSeq,ST_seq,sAsg,sPar,sExpr,sIf,sRet,sRetN,sNx,ST_bindS,eMeth,eArgs,aCons,aNil,eBin,eUn,eC,eVar,eAnd,eOr,eNot,eIf,tVal,tAnd,tOr,tNot,tYes,gName,gTup,gCons,gNil,gSub,aa',ab',T_bind,T_ok,ba',bb',bc',T_ite,ST_nx,ST_ret,ac',ad',ae',af',ag',if_true,if_false,ah', start,al',am',an',ao',List.replicate,aq',ar', e1, e2, e3, e4]
  rcases str5 hr with rfl | rfl | rfl | rfl | rfl
  · have q1 : (("same" : Str) == "turn") = false := by decide +kernel
    have q2 : (("same" : Str) == "sort") = false := by decide +kernel
    have q3 : (("same" : Str) == "half") = false := by decide +kernel
    have q4 : (("same" : Str) == "next") = false := by decide +kernel
    simp only [e1, e2, e3, e4, q1, q2, q3, q4, Bool.false_eq_true, if_false, sSeq,ST_seq,sAsg,sPar,sExpr,sIf,sRet,sRetN,sNx,ST_bindS,eMeth,eArgs,aCons,aNil,eBin,eUn,eC,eVar,eAnd,eOr,eNot,eIf,tVal,tAnd,tOr,tNot,tYes,gName,gTup,gCons,gNil,gSub,aa',ab',T_bind,T_ok,ba',bb',bc',T_ite,ST_nx,ST_ret,ac',ad',ae',af',ag',if_true,if_false,ah', start,al',am',an',ao',List.replicate,aq',ar']
    exact hQ d hb
  · have q1 : (("turn" : Str) == "turn") = true := by decide +kernel
    simp only [e1, q1, if_true, sSeq,ST_seq,sAsg,sPar,sExpr,sIf,sRet,sRetN,sNx,ST_bindS,eMeth,eArgs,aCons,aNil,eBin,eUn,eC,eVar,eAnd,eOr,eNot,eIf,tVal,tAnd,tOr,tNot,tYes,gName,gTup,gCons,gNil,gSub,aa',ab',T_bind,T_ok,ba',bb',bc',T_ite,ST_nx,ST_ret,ac',ad',ae',af',ag',if_true,if_false,ah', start,al',am',an',ao',List.replicate,aq',ar']
    have z : vRev d hs = .ok (.t (zi b.reverse)) hs := by
      rcases hb with rfl | rfl <;> simp [vRev, zi]
    simp only [z, sSeq,ST_seq,sAsg,sPar,sExpr,sIf,sRet,sRetN,sNx,ST_bindS,eMeth,eArgs,aCons,aNil,eBin,eUn,eC,eVar,eAnd,eOr,eNot,eIf,tVal,tAnd,tOr,tNot,tYes,gName,gTup,gCons,gNil,gSub,aa',ab',T_bind,T_ok,ba',bb',bc',T_ite,ST_nx,ST_ret,ac',ad',ae',af',ag',if_true,if_false,ah']
    exact hQ _ (.inl rfl)
  · have q1 : (("sort" : Str) == "turn") = false := by decide +kernel
    have q2 : (("sort" : Str) == "sort") = true := by decide +kernel
    simp only [e1, e2, q1, q2, if_true, Bool.false_eq_true, if_false, sSeq,ST_seq,sAsg,sPar,sExpr,sIf,sRet,sRetN,sNx,ST_bindS,eMeth,eArgs,aCons,aNil,eBin,eUn,eC,eVar,eAnd,eOr,eNot,eIf,tVal,tAnd,tOr,tNot,tYes,gName,gTup,gCons,gNil,gSub,aa',ab',T_bind,T_ok,ba',bb',bc',T_ite,ST_nx,ST_ret,ac',ad',ae',af',ag',if_true,if_false,ah', start,al',am',an',ao',List.replicate,aq',ar']
    have z : vSortTup [d] hs = .ok (.l (zi (sortI b))) hs := by
      rcases hb with rfl | rfl <;> simp [vSortTup, tupInts, one1, intsOf_zi, zi]
    have z2 : vTuple [.l (zi (sortI b))] hs = .ok (.t (zi (sortI b))) hs := rfl
    simp only [z, z2, sSeq,ST_seq,sAsg,sPar,sExpr,sIf,sRet,sRetN,sNx,ST_bindS,eMeth,eArgs,aCons,aNil,eBin,eUn,eC,eVar,eAnd,eOr,eNot,eIf,tVal,tAnd,tOr,tNot,tYes,gName,gTup,gCons,gNil,gSub,aa',ab',T_bind,T_ok,ba',bb',bc',T_ite,ST_nx,ST_ret,ac',ad',ae',af',ag',if_true,if_false,ah']
    refine hQ _ (.inl ?_)
    unfold turnB
    rw [if_neg (by decide +kernel), if_pos rfl]
  · have q1 : (("half" : Str) == "turn") = false := by decide +kernel
    have q2 : (("half" : Str) == "sort") = false := by decide +kernel
    have q3 : (("half" : Str) == "half") = true := by decide +kernel
    simp only [e1, e2, e3, q1, q2, q3, if_true, Bool.false_eq_true, if_false, sSeq,ST_seq,sAsg,sPar,sExpr,sIf,sRet,sRetN,sNx,ST_bindS,eMeth,eArgs,aCons,aNil,eBin,eUn,eC,eVar,eAnd,eOr,eNot,eIf,tVal,tAnd,tOr,tNot,tYes,gName,gTup,gCons,gNil,gSub,aa',ab',T_bind,T_ok,ba',bb',bc',T_ite,ST_nx,ST_ret,ac',ad',ae',af',ag',if_true,if_false,ah', start,al',am',an',ao',List.replicate,aq',ar']
    have w1 : Mm.iRng3 (aCons (eC (.int 0)) (aCons (eArgs vLen (aCons (eVar 0) aNil)) (aCons (eC (.int 2)) aNil))) [some d, some (.str "half"), none, none] hs = .ok ((List.range ((b.length + 1) / 2)).map (fun (k : Nat) => D.int (0 + (k : Int) * 2)), none) hs := by
      unfold Mm.iRng3
      simp only [aCons, eC, eArgs, eVar, aNil, R.bind_ok, List.getElem?_cons_zero, vlen_of (hb.seq hs), int3, List.length_map]
      rw [if_pos (by simp; omega)]
      have : (((b.length : Int) - 0 + 1) / 2).toNat = (b.length + 1) / 2 := by omega
      rw [this]
      rfl
    have lc := eLc_eq (own := [2]) (g := Mm.gName 2) (t := tYes) (e := eBin vIx (eVar 0) (eVar 2)) (fun _ => true) (fun (k : Nat) => D.int (b[2 * k]?.getD 0)) w1 trivial (by simp; omega) fun k hk => ⟨_, rfl, rfl, fun _ => by
      have hk2 : k < (b.length + 1) / 2 := by simpa using hk
      have hk3 : 2 * k < b.length := by omega
      have hx := List.getElem?_eq_getElem hk3
      have e5 := hb.ix (hs := hs) hx
      have e6 : (0 + (k : Int) * 2) = ((2 * k : Nat) : Int) := by omega
      simp only [eBin, eVar, wipe, R.bind_ok, List.set_cons_succ, List.set_cons_zero, List.getElem?_cons_zero, List.getElem?_cons_succ, e6, e5, hx]
      rfl⟩
    simp only [lc, sSeq,ST_seq,sAsg,sPar,sExpr,sIf,sRet,sRetN,sNx,ST_bindS,eMeth,eArgs,aCons,aNil,eBin,eUn,eC,eVar,eAnd,eOr,eNot,eIf,tVal,tAnd,tOr,tNot,tYes,gName,gTup,gCons,gNil,gSub,aa',ab',T_bind,T_ok,ba',bb',bc',T_ite,ST_nx,ST_ret,ac',ad',ae',af',ag',if_true,if_false,ah']
    have fin : ((List.range ((b.length + 1) / 2)).filter fun _ => true).map (fun (k : Nat) => D.int (b[2 * k]?.getD 0)) = zi (evensB b) := by
      rw [List.filter_eq_self.mpr (by simp)]
      unfold evensB zi
      have gen : ∀ l : List Nat, (∀ k ∈ l, 2 * k < b.length) → l.map (fun (k : Nat) => D.int (b[2 * k]?.getD 0)) = (l.filterMap fun k => b[2 * k]?).map D.int := by
        intro l
        induction l with
        | nil => intro _; rfl
        | cons k l ih =>
          intro h
          have hk := h k (by simp)
          rw [List.map_cons, List.filterMap_cons, List.getElem?_eq_getElem hk, ih fun x hx => h x (List.mem_cons_of_mem _ hx)]
          simp
      exact gen _ fun k hk => by
        have := List.mem_range.mp hk
        omega
    rw [fin]
    have z2 : vTuple [.l (zi (evensB b))] hs = .ok (.t (zi (evensB b))) hs := rfl
    simp only [z2, sSeq,ST_seq,sAsg,sPar,sExpr,sIf,sRet,sRetN,sNx,ST_bindS,eMeth,eArgs,aCons,aNil,eBin,eUn,eC,eVar,eAnd,eOr,eNot,eIf,tVal,tAnd,tOr,tNot,tYes,gName,gTup,gCons,gNil,gSub,aa',ab',T_bind,T_ok,ba',bb',bc',T_ite,ST_nx,ST_ret,ac',ad',ae',af',ag',if_true,if_false,ah']
    refine hQ _ (.inl ?_)
    unfold turnB
    rw [if_neg (by decide +kernel), if_neg (by decide +kernel), if_pos rfl]
  · have q1 : (("next" : Str) == "turn") = false := by decide +kernel
    have q2 : (("next" : Str) == "sort") = false := by decide +kernel
    have q3 : (("next" : Str) == "half") = false := by decide +kernel
    have q4 : (("next" : Str) == "next") = true := by decide +kernel
    simp only [e1, e2, e3, e4, q1, q2, q3, q4, if_true, Bool.false_eq_true, if_false, sSeq,ST_seq,sAsg,sPar,sExpr,sIf,sRet,sRetN,sNx,ST_bindS,eMeth,eArgs,aCons,aNil,eBin,eUn,eC,eVar,eAnd,eOr,eNot,eIf,tVal,tAnd,tOr,tNot,tYes,gName,gTup,gCons,gNil,gSub,aa',ab',T_bind,T_ok,ba',bb',bc',T_ite,ST_nx,ST_ret,ac',ad',ae',af',ag',if_true,if_false,ah', start,al',am',an',ao',List.replicate,aq',ar']
    have w1 : iSeq (eVar 0) [some d, some (.str "next"), none, none] hs = .ok (b.map D.int, none) hs := hb.walk rfl
    have lc := eLc_eq (own := [3]) (g := Mm.gName 3) (t := tYes) (e := eBin vMod (eBin vAdd (eVar 3) (eC (.int 1))) (eC (.int 10))) (fun _ => true) (fun x => D.int ((x + 1) % 10)) w1 trivial (by omega) fun x hx => ⟨_, rfl, rfl, fun _ => by
      simp [eBin, eVar, eC, wipe, vAdd, vMod]⟩
    simp only [lc, sSeq,ST_seq,sAsg,sPar,sExpr,sIf,sRet,sRetN,sNx,ST_bindS,eMeth,eArgs,aCons,aNil,eBin,eUn,eC,eVar,eAnd,eOr,eNot,eIf,tVal,tAnd,tOr,tNot,tYes,gName,gTup,gCons,gNil,gSub,aa',ab',T_bind,T_ok,ba',bb',bc',T_ite,ST_nx,ST_ret,ac',ad',ae',af',ag',if_true,if_false,ah']
    have fin : ((b.filter fun _ => true).map fun x => D.int ((x + 1) % 10)) = zi (b.map fun d => (d + 1) % 10) := by
      rw [List.filter_eq_self.mpr (by simp)]
      simp [zi]
    rw [fin]
    have z2 : vTuple [.l (zi (b.map fun d => (d + 1) % 10))] hs = .ok (.t (zi (b.map fun d => (d + 1) % 10))) hs := rfl
    simp only [z2, sSeq,ST_seq,sAsg,sPar,sExpr,sIf,sRet,sRetN,sNx,ST_bindS,eMeth,eArgs,aCons,aNil,eBin,eUn,eC,eVar,eAnd,eOr,eNot,eIf,tVal,tAnd,tOr,tNot,tYes,gName,gTup,gCons,gNil,gSub,aa',ab',T_bind,T_ok,ba',bb',bc',T_ite,ST_nx,ST_ret,ac',ad',ae',af',ag',if_true,if_false,ah']
    refine hQ _ (.inl ?_)
    unfold turnB
    rw [if_neg (by decide +kernel), if_neg (by decide +kernel), if_neg (by decide +kernel), if_pos rfl]
end Mm
namespace Mm
def ruleOf (ws : List Wy) (a b : Int) : Str := ((ws.find? fun w => decide (w.p = (a, b))).map Wy.r).getD "same"
def stepsB (ws : List Wy) (r b : List Int) : Nat → List Int
  | 0 => b
  | j + 1 => turnB (ruleOf ws (r.getD j 0) (r.getD (j + 1) 0)) (stepsB ws r b j)
def alongB (ws : List Wy) (r b : List Int) : List Int := stepsB ws r b (r.length - 1)
def PathOk (ws : List Wy) (r : List Int) : Prop := ∀ j, j + 1 < r.length → ∃ w ∈ ws, w.p = (r.getD j 0, r.getD (j + 1) 0)
theorem insI_len (i : Int) : ∀ l : List Int, (insI i l).length = l.length + 1
  | [] => rfl
  | j :: r => by
    unfold insI
    split
    · rfl
    · simp [insI_len i r]
theorem sortI_len : ∀ l : List Int, (sortI l).length = l.length
  | [] => rfl
  | i :: r => by
    show (insI i (sortI r)).length = _
    rw [insI_len, sortI_len r]; rfl
theorem turnB_len (r : Str) (b : List Int) : (turnB r b).length ≤ b.length := by
  unfold turnB
  split
  · simp
  · split
    · rw [sortI_len]; exact Nat.le_refl _
    · split
      · unfold evensB
        refine Nat.le_trans (List.length_filterMap_le _ _) ?_
        simp; omega
      · split
        · simp
        · exact Nat.le_refl _
theorem stepsB_len (ws : List Wy) (r b : List Int) : ∀ j, (stepsB ws r b j).length ≤ b.length
  | 0 => Nat.le_refl _
  | j + 1 => Nat.le_trans (turnB_len _ _) (stepsB_len ws r b j)
theorem ruleOf_mem {ws : List Wy} (hw : WaysOk ws) {w : Wy} (h : w ∈ ws) : ruleOf ws w.a w.b = w.r := by
  unfold ruleOf
  have nd := hw.nd
  clear hw
  induction ws with
  | nil => simp at h
  | cons v vs ih =>
    rw [List.map_cons, List.nodup_cons] at nd
    rw [List.find?_cons]
    by_cases hv : v.p = (w.a, w.b)
    · simp only [hv, decide_true]
      rcases List.mem_cons.mp h with rfl | h
      · rfl
      · exact absurd (List.mem_map_of_mem (f := Wy.p) h) (by rw [show w.p = (w.a, w.b) from rfl, ← hv]; exact nd.1)
    · simp only [hv, decide_false]
      rcases List.mem_cons.mp h with rfl | h
      · exact absurd rfl hv
      · exact ih h nd.2
def wkeys (w : Wy) : List Key := [.inl w.a, .inl w.b]
theorem dcL_eq {α κ : Type} [DecidableEq κ] {ko : D → Option κ} {f : α → D} {k : Option (Nat × List D)} {g : MG} {ek ev : M} {fs : Fs} {hs : Hs} (kk : α → κ) (vv : α → D) (hk : stands k hs) : ∀ (l : List α) (acc : List (κ × D)), acc.length + l.length < 100000 → (acc.map (·.1) ++ l.map kk).Nodup →
    (∀ x ∈ l, ∃ fs' y, g (f x) fs hs = .ok fs' hs ∧ ek fs' hs = .ok y hs ∧ ko y = some (kk x) ∧ ev fs' hs = .ok (vv x) hs) → dcL ko k g tYes ek ev fs (l.map f) acc hs = .ok (acc ++ l.map fun x => (kk x, vv x)) hs
  | [], acc, _, _, _ => by unfold dcL; simp [hk]
  | x :: l, acc, hl, nd, he => by
    obtain ⟨fs', y, e1, e2, e3, e4⟩ := he x List.mem_cons_self
    rw [List.map_cons]
    unfold dcL
    simp only [List.length_cons] at hl
    have ha : acc.length < 100000 := by omega
    have hnot : (acc.any fun p => decide (p.1 = kk x)) = false := by
      rw [List.any_eq_false]
      intro p hp h
      have h2 : p.1 = kk x := of_decide_eq_true h
      rw [List.nodup_append] at nd
      exact nd.2.2 p.1 (List.mem_map_of_mem hp) (kk x) (by simp) h2
    have hd : dput acc (kk x) (vv x) = acc ++ [(kk x, vv x)] := by
      unfold dput
      simp [hnot]
    simp only [hk, if_true, e1, R.bindN_ok, tYes, e2, e4, e3, ha, hd]
    rw [dcL_eq kk vv hk l _ (by simp; omega) (by simpa using nd) fun z hz => he z (List.mem_cons_of_mem _ hz)]
    simp
theorem T_rngL {lo : Int} {n : Nat} {g : MG} {body : MS} {V : D → Hs → Prop} (I : Nat → Fs → Hs → Prop) {N : Fs → Hs → Prop} {fs : Fs} {hs : Hs} (h0 : I 0 fs hs)
    (step : ∀ k, k < n → ∀ fs hs, I k fs hs → R.T (g (.int (lo + (k : Nat))) fs hs) fun fs' h1 => RS.T (body fs' h1) (fun fs2 h2 => I (k + 1) fs2 h2) V)
    (fin : ∀ fs hs, I n fs hs → N fs hs) : RS.T (forL none g body (rng lo n) fs hs) N V := by
  refine T_for (k := none) (fun done fs hs => I done.length fs hs) N (fun _ _ _ _ => trivial) ?_ (fun fs hs h => fin fs hs (by rw [rng_len] at h; exact h)) h0
  intro done x rest fs hs e h
  have ex : (rng lo n)[done.length]? = some x := by rw [e]; simp
  obtain ⟨h1, rfl⟩ := rng_get ex
  have := step done.length h1 fs hs h
  simpa using this
theorem ix_zi {r : List Int} {j : Nat} {hs : Hs} (h : j < r.length) : vIx (tz r) (.int (j : Int)) hs = .ok (.int (r.getD j 0)) hs := by
  have := BtD.ix (d := tz r) (b := r) (.inl rfl) (hs := hs) (List.getElem?_eq_getElem h)
  rw [this, List.getD_eq_getElem?_getD, List.getElem?_eq_getElem h]
  rfl
end Mm
namespace Mm
/-- kinds, none too many: perhaps none at all -/
structure KsW (ks : List Int) : Prop where
  lo : ∀ k ∈ ks, 0 ≤ k
  hi : ∀ k ∈ ks, k < 10
  nd : ks.Nodup
theorem KsW.k9 {ks : List Int} (h : KsW ks) : Ks9 ks := ⟨h.lo, h.hi, ten_le h.nd h.lo h.hi⟩
structure OfsW (os : List Of) : Prop where
  ks : KsW (os.map Of.k)
  len : os.length ≤ 6
  bod : ∀ o ∈ os, ∀ b, o.b = some b → BodOk b
theorem OfsOk.w {os : List Of} (h : OfsOk os) : OfsW os := ⟨⟨h.ks.lo, h.ks.hi, h.ks.nd⟩, h.len, h.bod⟩
theorem OfsW.filter {os : List Of} (h : OfsW os) (q : Of → Bool) : OfsW (os.filter q) := by
  have s : ((os.filter q).map Of.k).Sublist (os.map Of.k) := List.filter_sublist.map _
  exact ⟨⟨fun k hk => h.ks.lo k (s.subset hk), fun k hk => h.ks.hi k (s.subset hk), h.ks.nd.sublist s⟩, by have := List.length_filter_le q os; have := h.len; omega, fun o ho => h.bod o (List.mem_filter.mp ho).1⟩
theorem Pth.path {ws : List Wy} {b v : Int} {x : Rt} (h : Pth ws b v x) : PathOk ws x.r ∧ x.r.getD (x.r.length - 1) 0 = v ∧ x.r.getD 0 0 = b ∧ x.r ≠ [] := by
  induction h with
  | here => exact ⟨fun j hj => absurd hj (by simp), rfl, rfl, by simp⟩
  | @step w x hp hm ih =>
    obtain ⟨h1, h2, h3, h4⟩ := ih
    have hl : 0 < x.r.length := List.length_pos_iff.mpr h4
    refine ⟨fun j hj => ?_, ?_, ?_, by simp [rowOf]⟩
    · simp only [rowOf, List.length_append, List.length_cons, List.length_nil] at hj ⊢
      have gl : ∀ i, i < x.r.length → (x.r ++ [w.b]).getD i 0 = x.r.getD i 0 := fun i hi => by
        rw [List.getD_eq_getElem?_getD, List.getD_eq_getElem?_getD, List.getElem?_append_left hi]
      by_cases hj2 : j + 1 < x.r.length
      · obtain ⟨u, hu, e⟩ := h1 j hj2
        exact ⟨u, hu, by rw [gl j (by omega), gl (j + 1) hj2]; exact e⟩
      · have hj3 : j + 1 = x.r.length := by omega
        refine ⟨w, hm, ?_⟩
        have e1 : x.r.getD j 0 = w.a := by rw [← h2]; congr 1; omega
        rw [gl j (by omega), e1, List.getD_eq_getElem?_getD, hj3]
        simp [Wy.p]
    · simp [rowOf, List.getD_eq_getElem?_getD]
    · show (x.r ++ [w.b]).getD 0 0 = b
      rw [List.getD_eq_getElem?_getD, List.getElem?_append_left hl, ← List.getD_eq_getElem?_getD]
      exact h3
structure ChOk (ws : List Wy) (off want : List Int) (c : Ch) : Prop where
  ne : c.r ≠ []
  hd : c.r.getD 0 0 ∈ off
  ls : c.r.getD (c.r.length - 1) 0 ∈ want
  path : PathOk ws c.r
  len : c.r.length ≤ 11
theorem chosen_ok {ws : List Wy} {off want : List Int} {c : Ch} (hw : WaysOk ws) (ko : Ks9 off) (h : chosen ws off want = some c) : ChOk ws off want c := by
  obtain ⟨j, k, b, g, x, e1, e2, e3, rfl⟩ := chAll_mem.mp (leastC_mem h)
  have hb := List.mem_of_getElem? e1
  obtain ⟨p1, p2, p3, p4⟩ := (bestR_some.mp e3).pth.path
  exact ⟨p4, by rw [show (⟨x.l, (k : Nat), (j : Nat), x.r⟩ : Ch).r = x.r from rfl, p3]; exact hb, by rw [show (⟨x.l, (k : Nat), (j : Nat), x.r⟩ : Ch).r = x.r from rfl, p2]; exact List.mem_of_getElem? e2, p1, bestR_len hw (ko.lo b hb) (ko.hi b hb) e3⟩
/-- the paste gets its route -/
def setRt (B : Bd) (n : Int) (r : List Int) : Bd := { B with qu := B.qu.map fun q => if q.n = n then { q with rt := some r } else q }
/-- the owner is asked for a kind -/
def askB (B : Bd) (c : Cl) (k : Int) : Bd := match c.ow with
  | none => B
  | some o => { B with cls := B.cls.map (fun x => if x.n = c.n then { x with ak := x.ak ++ [k] } else x), ears := hear B.ears o (.make c.n k) }
def serveB (B : Bd) (p : Pa) : Bd := match clipAt B p.cl with
  | none => B
  | some c => match chosen B.ws (c.os.map Of.k) p.wa with
    | none => answerB B p (.non p.n)
    | some h => match bodyOf c.os (h.r.getD 0 0) with
      | some b => answerB B p (.bod p.n (h.r.getD (h.r.length - 1) 0) (alongB B.ws h.r b))
      | none => if h.r.getD 0 0 ∈ c.ak then setRt B p.n h.r else askB (setRt B p.n h.r) c (h.r.getD 0 0)
end Mm
namespace Mm
theorem R.TX.t {α : Type} {r : R α} {Q : α → Hs → Prop} (h : R.TX r Q fun _ _ => False) : R.T r Q := by
  cases r with
  | ok a hs => exact h
  | exc _ _ _ => exact h.elim
  | bad => exact h.elim
section
variable {i : Nat} {L : Pl} {h : Rh} {hs : Hs} {B : Bd}
theorem AfP.of {L1 : Pl} {h1 : Rh} {hs' : Hs} {B' : Bd} (f : FrP i L h L1 h1) (a : AfP i L1 h1 hs' B') : AfP i L h hs' B' := by
  obtain ⟨L2, h2, a1, a2, a3⟩ := a
  exact ⟨L2, h2, a1, a2, f.trans a3⟩
theorem num_eq {p q : Pa} (nd : (B.qu.map (·.n)).Nodup) (hp : p ∈ B.qu) (hq : q ∈ B.qu) (e : p.n = q.n) : p = q := by
  have := fst_eq (l := B.qu.map fun x => (x.n, x)) (x := (p.n, p)) (y := (q.n, q)) (by rw [List.map_map]; exact nd) (List.mem_map_of_mem (f := fun x : Pa => (x.n, x)) hp) (List.mem_map_of_mem (f := fun x : Pa => (x.n, x)) hq) e
  exact congrArg Prod.snd this
theorem cnum_eq {p q : Cl} (nd : (B.cls.map (·.n)).Nodup) (hp : p ∈ B.cls) (hq : q ∈ B.cls) (e : p.n = q.n) : p = q := by
  have := fst_eq (l := B.cls.map fun x => (x.n, x)) (x := (p.n, p)) (y := (q.n, q)) (by rw [List.map_map]; exact nd) (List.mem_map_of_mem (f := fun x : Cl => (x.n, x)) hp) (List.mem_map_of_mem (f := fun x : Cl => (x.n, x)) hq) e
  exact congrArg Prod.snd this
theorem dget_bo {bs : List (Int × List Int)} {k : Int} : dget (boD bs) (.inl k) = (lkB bs k).map fun b => .st (zi b) := by
  unfold boD lkB
  induction bs with
  | nil => rfl
  | cons x bs ih =>
    simp only [List.map_cons, dget, List.find?_cons]
    by_cases e : x.1 = k
    · rw [if_pos (by rw [e]), decide_eq_true e]; rfl
    · rw [if_neg (by simpa using e), decide_eq_false e]; exact ih
end
end Mm
namespace Mm
section
variable {i : Nat} {L : Pl} {h : Rh} {hs : Hs} {B : Bd}
theorem mem_keysE {p : Int} (h : p ∈ keysE B) : ∃ x ∈ B.ears, x.1 = p := by
  obtain ⟨x, hx, e⟩ := List.mem_map.mp h
  exact ⟨x, hx, e⟩
theorem keyE_of {x : Int × List Ev} (h : x ∈ B.ears) : x.1 ∈ keysE B := List.mem_map_of_mem (f := (·.1)) h
/-- a clip: who owns it is there, if it isn't all made -/
structure ClOk (B : Bd) (c : Cl) : Prop where
  os : OfsW c.os
  ow : ∀ o, c.ow = some o → o ∈ keysE B
  op : ∀ f ∈ c.os, f.b = none → ∃ o, c.ow = some o
  akn : c.ak.Nodup
  akl : ∀ k ∈ c.ak, 0 ≤ k
  akh : ∀ k ∈ c.ak, k < 10
theorem open_of {os : List Of} {k : Int} (hk : k ∈ os.map Of.k) (hb : bodyOf os k = none) : ∃ f ∈ os, f.b = none := by
  unfold bodyOf at hb
  cases hf : os.find? (fun o => decide (o.k = k)) with
  | none =>
    obtain ⟨o, ho, e⟩ := List.mem_map.mp hk
    have := List.find?_eq_none.mp hf o ho
    simp [e] at this
  | some o =>
    rw [hf] at hb
    exact ⟨o, List.mem_of_find?_eq_some hf, hb⟩
theorem ix_lastZ {r : List Int} {hs : Hs} (h : r ≠ []) : vIx (tz r) (.int (-1)) hs = .ok (.int (r.getD (r.length - 1) 0)) hs := by
  have hl : 0 < r.length := List.length_pos_iff.mpr h
  have e := ix_zi (r := r) (j := r.length - 1) (hs := hs) (by omega)
  unfold vIx at e ⊢
  have e1 : ixN (zi r).length (-1) = some (r.length - 1) := by
    unfold ixN
    rw [if_neg (by omega), if_pos (by simp; omega)]
    congr 1
    simp
    omega
  have e2 : ixN (zi r).length ((r.length - 1 : Nat) : Int) = some (r.length - 1) := by
    unfold ixN
    rw [if_pos (by omega), if_pos (by simp; omega)]
    simp
  simp only [seqOf, e1, e2] at e ⊢
  exact e
end
end Mm
namespace Mm
section
variable {i : Nat} {L : Pl} {h : Rh} {hs : Hs} {B : Bd}
theorem FrL.ofN {L' : Pl} {h' : Rh} (S : List Role) (hS : ∀ r ∈ S, r.1 = i ∧ r.2.law = true) (k : ∀ r, r ∉ S → h' r = h r ∧ L' r = L r) (a : ∀ r ∈ S, (h r).isSome = true → L' r = L r ∧ (h' r).isSome = true)
    (num : ∀ (k : Int) (fs : List (Key × D)) (d : D), h (i, .wpa k) = some (.dk fs) → dget fs (.inr "number") = some d → ∃ fs', h' (i, .wpa k) = some (.dk fs') ∧ dget fs' (.inr "number") = some d) : FrL i L h L' h' := by
  refine ⟨fun r q => k r fun hr => ?_, fun r e => ?_, num⟩
  · obtain ⟨a1, a2⟩ := hS r hr
    rcases q with q | q
    · exact q a1
    · rw [a2] at q; cases q
  · by_cases hr : r ∈ S
    · exact a r hr e
    · obtain ⟨k1, k2⟩ := k r hr
      exact ⟨k2, by rw [k1]; exact e⟩
theorem FrL.of {L' : Pl} {h' : Rh} (S : List Role) (hS : ∀ r ∈ S, r.1 = i ∧ r.2.law = true) (k : ∀ r, r ∉ S → h' r = h r ∧ L' r = L r) (a : ∀ r ∈ S, (h r).isSome = true → L' r = L r ∧ (h' r).isSome = true) (np : ∀ j : Int, (i, Ro.wpa j) ∉ S := by simp) : FrL i L h L' h' :=
  FrL.ofN S hS k a fun j fs d e q => ⟨fs, by rw [(k _ (np j)).1]; exact e, q⟩
theorem AfL.of {L1 : Pl} {h1 : Rh} {hs' : Hs} {B' : Bd} (f : FrL i L h L1 h1) (a : AfL i L1 h1 hs' B') : AfL i L h hs' B' := by
  obtain ⟨L2, h2, a1, a2, a3⟩ := a
  exact ⟨L2, h2, a1, a2, f.trans a3⟩
end
end Mm
namespace Mm
theorem turnB_ok {r : Str} {b : List Int} (h : BodOk b) : BodOk (turnB r b) := by
  refine ⟨Nat.le_trans (turnB_len r b) h.len, ?_, ?_⟩
  all_goals
    intro d hd
    unfold turnB at hd
    split at hd
    · first | exact h.lo d (by simpa using hd) | exact h.hi d (by simpa using hd)
    · split at hd
      · have := (sort_perm b).mem_iff.mp hd
        first | exact h.lo d this | exact h.hi d this
      · split at hd
        · unfold evensB at hd
          obtain ⟨k, _, e⟩ := List.mem_filterMap.mp hd
          have := List.mem_of_getElem? e
          first | exact h.lo d this | exact h.hi d this
        · split at hd
          · obtain ⟨x, _, rfl⟩ := List.mem_map.mp hd
            omega
          · first | exact h.lo d hd | exact h.hi d hd
theorem stepsB_ok {ws : List Wy} {r b : List Int} (h : BodOk b) : ∀ j, BodOk (stepsB ws r b j)
  | 0 => h
  | j + 1 => turnB_ok (stepsB_ok h j)
/-- by counting, a row of numbers in order -/
def cntB (b : List Int) (n : Nat) : List Int := (rgI n).flatMap fun x => List.replicate (b.count x) x
theorem rgI_succ (n : Nat) : rgI (n + 1) = rgI n ++ [(n : Int)] := by simp [rgI, List.range_succ]
theorem cntB_succ (b : List Int) (n : Nat) : cntB b (n + 1) = cntB b n ++ List.replicate (b.count (n : Int)) (n : Int) := by
  unfold cntB
  rw [rgI_succ, List.flatMap_append]
  simp
theorem cntB_mem {b : List Int} {n : Nat} {x : Int} (h : x ∈ cntB b n) : 0 ≤ x ∧ x < n := by
  unfold cntB at h
  obtain ⟨y, hy, hx⟩ := List.mem_flatMap.mp h
  rw [List.eq_of_mem_replicate hx]
  exact rgI_mem hy
theorem cntB_count {b : List Int} {x : Int} (h0 : 0 ≤ x) : ∀ n : Nat, (cntB b n).count x = if x < n then b.count x else 0
  | 0 => by simp [cntB, rgI]; omega
  | n + 1 => by
    rw [cntB_succ, List.count_append, cntB_count h0 n, List.count_replicate]
    by_cases e : x = n
    · subst e
      rw [if_neg (by omega)]
      simp
      intro z; omega
    · have e' : (n : Int) ≠ x := fun z => e z.symm
      simp only [beq_iff_eq, e', if_false, Nat.add_zero]
      by_cases q : x < n
      · rw [if_pos q, if_pos (by omega)]
      · rw [if_neg q, if_neg (by omega)]
theorem cntB_sorted (b : List Int) : ∀ n : Nat, (cntB b n).Pairwise (· ≤ ·)
  | 0 => by simp [cntB, rgI]
  | n + 1 => by
    rw [cntB_succ, List.pairwise_append]
    refine ⟨cntB_sorted b n, ?_, fun x hx y hy => ?_⟩
    · rw [List.pairwise_replicate]; exact .inr (Int.le_refl _)
    · rw [List.eq_of_mem_replicate hy]
      have := cntB_mem hx
      omega
theorem cntB_sort {b : List Int} (h : BodOk b) : cntB b 10 = sortI b := by
  have p : (cntB b 10).Perm (sortI b) := by
    refine List.Perm.trans ?_ (sort_perm b).symm
    rw [List.perm_iff_count]
    intro x
    by_cases h0 : 0 ≤ x
    · rw [cntB_count h0]
      by_cases q : x < (10 : Nat)
      · rw [if_pos q]
      · rw [if_neg q]
        symm
        rw [List.count_eq_zero]
        intro hx
        have := h.hi x hx
        omega
    · rw [List.count_eq_zero.mpr (fun hx => h0 (cntB_mem hx).1), List.count_eq_zero.mpr (fun hx => h0 (h.lo x hx))]
  exact List.Perm.eq_of_pairwise (fun a b _ _ h1 h2 => Int.le_antisymm h1 h2) (cntB_sorted b 10) (sort_sorted b) p
theorem cntB_len {b : List Int} (n : Nat) : (cntB b n).length ≤ n * b.length := by
  induction n with
  | zero => simp [cntB, rgI]
  | succ n ih =>
    rw [cntB_succ, List.length_append, List.length_replicate]
    have := List.count_le_length (a := (n : Int)) (l := b)
    rw [Nat.add_mul]
    omega
theorem repD_one (k : Nat) (x : D) : repD k [x] = List.replicate k x := by
  unfold repD
  induction k with
  | zero => rfl
  | succ k ih => rw [List.replicate_succ, List.flatten_cons, ih]; rfl
theorem lawTurned_eq {b : List Int} {r : Str} {hs : Hs} (hb : BodOk b) (hr : r ∈ rules) : c_law_turned [.st (zi b), .str r] hs = .ok (.st (zi (turnB r b))) hs := by
  refine eq_of_T (T_callA rfl ?_)
  have hlen := hb.len
  unfold m_law_turned
  have ev : ∀ x y : Str, sOk x = true → sOk y = true → vEq (.str x) (.str y) hs = .ok (.bl (x == y)) hs := fun x y h1 h2 => by simp [vEq, eqB, res, okd, deq, h1, h2]
  have s5 : sOk r = true := sOk_rule hr
  have e1 := ev r "turn" s5 (by decide +kernel)
  have e2 := ev r "half" s5 (by decide +kernel)
  have e3 := ev r "next" s5 (by decide +kernel)
  have e4 := ev r "same" s5 (by decide +kernel)
  have sl : ∀ h, vLen [.st (zi b)] h = .ok (.int b.length) h := fun h => by rw [vlen_of (hs := h) rfl]; simp
  have hlim : -lim ≤ ((b.length : Nat) : Int) ∧ ((b.length : Nat) : Int) ≤ lim := by unfold lim; omega
  have tsS : ∀ (l : List D) h, vTupleS [.l l] h = .ok (.st l) h := fun _ _ => rfl
  simp only [sSeq,ST_seq,sAsg,sPar,sExpr,sIf,sRet,sRetN,sNx,ST_bindS,eMeth,eArgs,aCons,aNil,eBin,eUn,eC,eVar,eAnd,eOr,eNot,eIf,tVal,tAnd,tOr,tNot,tYes,gName,gTup,gCons,gNil,gSub,aa',ab',T_bind,T_ok,ba',bb',bc',T_ite,ST_nx,ST_ret,ac',ad',ae',af',ag',if_true,if_false,ah', start,al',am',an',ao',List.replicate,aq',ar', e1, e2, e3, e4]
  have ixb : ∀ {k : Nat} {x : Int} h, b[k]? = some x → vIx (.st (zi b)) (.int (k : Int)) h = .ok (.int x) h := fun {k x} h hk => BtD.ix (.inr rfl) hk
  have w1 : ∀ (fs : Fs), fs[0]? = some (some (.st (zi b))) → Mm.iRng1 (aCons (eArgs vLen (aCons (eVar 0) aNil)) aNil) fs hs = .ok ((List.range b.length).map (fun (k : Nat) => D.int (k : Int)), none) hs := fun fs hf => by
    have ef : eVar 0 fs hs = .ok (.st (zi b)) hs := by unfold eVar; simp [hf]
    unfold Mm.iRng1
    simp only [aCons, eArgs, aNil, ef, R.bind_ok, sl, int1, if_pos hlim, Int.toNat_natCast]
    have : rng 0 b.length = (List.range b.length).map (fun (k : Nat) => D.int (k : Int)) := by unfold rng; simp
    rw [this]
  rcases str5 hr with rfl | rfl | rfl | rfl | rfl
  · have q1 : (("same" : Str) == "turn") = false := by decide +kernel
    have q2 : (("same" : Str) == "half") = false := by decide +kernel
    have q3 : (("same" : Str) == "next") = false := by decide +kernel
    have q4 : (("same" : Str) == "same") = true := by decide +kernel
    simp only [e1, e2, e3, e4, q1, q2, q3, q4, sSeq,ST_seq,sAsg,sPar,sExpr,sIf,sRet,sRetN,sNx,ST_bindS,eMeth,eArgs,aCons,aNil,eBin,eUn,eC,eVar,eAnd,eOr,eNot,eIf,tVal,tAnd,tOr,tNot,tYes,gName,gTup,gCons,gNil,gSub,aa',ab',T_bind,T_ok,ba',bb',bc',T_ite,ST_nx,ST_ret,ac',ad',ae',af',ag',if_true,if_false,ah', start,al',am',an',ao',List.replicate,aq',ar']
    have : turnB "same" b = b := by
      unfold turnB
      rw [if_neg (by decide +kernel), if_neg (by decide +kernel), if_neg (by decide +kernel), if_neg (by decide +kernel)]
    rw [this]
    first | trivial | exact ⟨rfl, rfl⟩ | exact ⟨trivial, trivial⟩
  · have q1 : (("turn" : Str) == "turn") = true := by decide +kernel
    simp only [e1, e2, e3, e4, q1, sSeq,ST_seq,sAsg,sPar,sExpr,sIf,sRet,sRetN,sNx,ST_bindS,eMeth,eArgs,aCons,aNil,eBin,eUn,eC,eVar,eAnd,eOr,eNot,eIf,tVal,tAnd,tOr,tNot,tYes,gName,gTup,gCons,gNil,gSub,aa',ab',T_bind,T_ok,ba',bb',bc',T_ite,ST_nx,ST_ret,ac',ad',ae',af',ag',if_true,if_false,ah', start,al',am',an',ao',List.replicate,aq',ar']
    have lc := eLc_eq (own := [4]) (g := Mm.gName 4) (t := tYes) (e := eBin vIx (eVar 0) (eBin vSub (eBin vSub (eArgs vLen (aCons (eVar 0) aNil)) (eC (.int 1))) (eVar 4))) (fun _ => true) (fun (k : Nat) => D.int (b.getD (b.length - 1 - k) 0)) (w1 [some (.st (zi b)), some (.str "turn"), none, none, none, none] rfl) trivial (by simp; omega) fun k hk => ⟨_, rfl, rfl, fun _ => by
      have hk2 : k < b.length := by simpa using hk
      have e6 : ((b.length : Int) - 1 - (k : Int)) = ((b.length - 1 - k : Nat) : Int) := by omega
      have hx : b[b.length - 1 - k]? = some (b.getD (b.length - 1 - k) 0) := by
        rw [List.getD_eq_getElem?_getD, List.getElem?_eq_getElem (by omega)]; rfl
      have v1 : ∀ x y : Int, vSub (.int x) (.int y) hs = .ok (.int (x - y)) hs := fun _ _ => rfl
      simp only [eBin, eVar, eArgs, eC, aCons, aNil, wipe, R.bind_ok, List.set_cons_succ, List.set_cons_zero, List.getElem?_cons_zero, List.getElem?_cons_succ, sl, v1, e6, ixb hs hx]⟩
    simp only [lc, tsS, sSeq,ST_seq,sAsg,sPar,sExpr,sIf,sRet,sRetN,sNx,ST_bindS,eMeth,eArgs,aCons,aNil,eBin,eUn,eC,eVar,eAnd,eOr,eNot,eIf,tVal,tAnd,tOr,tNot,tYes,gName,gTup,gCons,gNil,gSub,aa',ab',T_bind,T_ok,ba',bb',bc',T_ite,ST_nx,ST_ret,ac',ad',ae',af',ag',if_true,if_false,ah']
    have fin : ((List.range b.length).filter fun _ => true).map (fun (k : Nat) => D.int (b.getD (b.length - 1 - k) 0)) = zi (turnB "turn" b) := by
      rw [List.filter_eq_self.mpr (by simp)]
      unfold turnB
      rw [if_pos rfl]
      refine List.ext_getElem (by simp) fun j h1 h2 => ?_
      simp only [List.getElem_map, List.getElem_range, List.getElem_reverse]
      have : b.length - 1 - j < b.length := by simp at h1; omega
      rw [List.getD_eq_getElem?_getD, List.getElem?_eq_getElem this]; rfl
    rw [fin]
    first | trivial | exact ⟨rfl, rfl⟩ | exact ⟨trivial, trivial⟩
  · have q1 : (("sort" : Str) == "turn") = false := by decide +kernel
    have q2 : (("sort" : Str) == "half") = false := by decide +kernel
    have q3 : (("sort" : Str) == "next") = false := by decide +kernel
    have q4 : (("sort" : Str) == "same") = false := by decide +kernel
    have t0 : vTupS [] hs = .ok (.st []) hs := rfl
    have r10 : Mm.iRng1 (aCons (eC (.int 10)) aNil) [some (.st (zi b)), some (.str "sort"), some (.st []), none, none, none] hs = .ok (rng 0 10, none) hs := by
      unfold Mm.iRng1
      simp only [aCons, aNil, eC, R.bind_ok, int1]
      rw [if_pos (by unfold lim; omega)]; rfl
    simp only [e1, e2, e3, e4, q1, q2, q3, q4, t0, r10, sFor, sSeq,ST_seq,sAsg,sPar,sExpr,sIf,sRet,sRetN,sNx,ST_bindS,eMeth,eArgs,aCons,aNil,eBin,eUn,eC,eVar,eAnd,eOr,eNot,eIf,tVal,tAnd,tOr,tNot,tYes,gName,gTup,gCons,gNil,gSub,aa',ab',T_bind,T_ok,ba',bb',bc',T_ite,ST_nx,ST_ret,ac',ad',ae',af',ag',if_true,if_false,ah', start,al',am',an',ao',List.replicate,aq',ar']
    refine T_rngL (lo := 0) (n := 10) (fun j fs h' => h' = hs ∧ ∃ c3, fs = [some (.st (zi b)), some (.str "sort"), some (.st (zi (cntB b j))), c3, none, none]) ⟨rfl, none, rfl⟩ ?_ ?_
    · rintro j hj fs h' ⟨rfl, c3, rfl⟩
      unfold body_law_turned_0
      have v1 : vTupS [.int (0 + (j : Nat))] h' = .ok (.st [.int (0 + (j : Nat))]) h' := rfl
      have v2 : isSt (.st (zi b)) h' = true := rfl
      have v3 : mCount (.st (zi b)) [.int (0 + (j : Nat))] h' = .ok (.int ((b.count (0 + (j : Nat) : Int) : Nat) : Int)) h' := by simp [mCount, int1, intsOf_zi]
      have hc := List.count_le_length (a := (0 + (j : Nat) : Int)) (l := b)
      have v4 : vRepS (.st [.int (0 + (j : Nat))]) (.int ((b.count (0 + (j : Nat) : Int) : Nat) : Int)) h' = .ok (.st (List.replicate (b.count (0 + (j : Nat) : Int)) (.int (0 + (j : Nat))))) h' := by
        unfold vRepS
        simp only
        rw [if_pos ⟨by simp, by simp, by omega, by omega⟩, repD_one, Int.toNat_natCast]
      have hl := cntB_len (b := b) j
      have hl2 : (cntB b j).length ≤ 10 * 12 := Nat.le_trans hl (Nat.mul_le_mul (by omega) hlen)
      have v5 : vAddS (.st (zi (cntB b j))) (.st (List.replicate (b.count (0 + (j : Nat) : Int)) (.int (0 + (j : Nat))))) h' = .ok (.st (zi (cntB b (j + 1)))) h' := by
        unfold vAddS
        simp only
        have hc2 : b.count ((j : Nat) : Int) ≤ b.length := List.count_le_length
        rw [if_pos (by simp; omega), cntB_succ]
        simp [zi]
      simp only [v1, v2, v3, v4, v5, sSeq,ST_seq,sAsg,sPar,sExpr,sIf,sRet,sRetN,sNx,ST_bindS,eMeth,eArgs,aCons,aNil,eBin,eUn,eC,eVar,eAnd,eOr,eNot,eIf,tVal,tAnd,tOr,tNot,tYes,gName,gTup,gCons,gNil,gSub,aa',ab',T_bind,T_ok,ba',bb',bc',T_ite,ST_nx,ST_ret,ac',ad',ae',af',ag',if_true,if_false,ah', start,al',am',an',ao',List.replicate,aq',ar']
      exact ⟨trivial, _, rfl⟩
    · rintro fs h' ⟨rfl, c3, rfl⟩
      have : turnB "sort" b = cntB b 10 := by
        unfold turnB
        rw [if_neg (by decide +kernel), if_pos rfl, cntB_sort hb]
      rw [this]
      simp only [sSeq,ST_seq,sAsg,sPar,sExpr,sIf,sRet,sRetN,sNx,ST_bindS,eMeth,eArgs,aCons,aNil,eBin,eUn,eC,eVar,eAnd,eOr,eNot,eIf,tVal,tAnd,tOr,tNot,tYes,gName,gTup,gCons,gNil,gSub,aa',ab',T_bind,T_ok,ba',bb',bc',T_ite,ST_nx,ST_ret,ac',ad',ae',af',ag',if_true,if_false,ah', start,al',am',an',ao',List.replicate,aq',ar']
      first | trivial | exact ⟨rfl, rfl⟩ | exact ⟨trivial, trivial⟩
  · have q1 : (("half" : Str) == "turn") = false := by decide +kernel
    have q2 : (("half" : Str) == "half") = true := by decide +kernel
    simp only [e1, e2, e3, e4, q1, q2, sSeq,ST_seq,sAsg,sPar,sExpr,sIf,sRet,sRetN,sNx,ST_bindS,eMeth,eArgs,aCons,aNil,eBin,eUn,eC,eVar,eAnd,eOr,eNot,eIf,tVal,tAnd,tOr,tNot,tYes,gName,gTup,gCons,gNil,gSub,aa',ab',T_bind,T_ok,ba',bb',bc',T_ite,ST_nx,ST_ret,ac',ad',ae',af',ag',if_true,if_false,ah', start,al',am',an',ao',List.replicate,aq',ar']
    have lc := eLc_eq (own := [4]) (g := Mm.gName 4) (t := tVal (eBin vEq (eBin vMod (eVar 4) (eC (.int 2))) (eC (.int 0)))) (e := eBin vIx (eVar 0) (eVar 4)) (fun (k : Nat) => decide (k % 2 = 0)) (fun (k : Nat) => D.int (b.getD k 0)) (w1 [some (.st (zi b)), some (.str "half"), none, none, none, none] rfl) trivial (by simp; omega) fun k hk => ⟨_, rfl, by
      have v1 : vMod (.int (k : Int)) (.int 2) hs = .ok (.int ((k : Int) % 2)) hs := by simp [vMod]
      simp only [tVal, eBin, eVar, eC, wipe, R.bind_ok, List.set_cons_succ, List.set_cons_zero, List.getElem?_cons_zero, List.getElem?_cons_succ, v1, eqI]
      congr 1
      exact decide_eq_decide.mpr (by omega), fun _ => by
      have hk2 : k < b.length := by simpa using hk
      have hx : b[k]? = some (b.getD k 0) := by
        rw [List.getD_eq_getElem?_getD, List.getElem?_eq_getElem (by omega)]; rfl
      simp only [eBin, eVar, wipe, R.bind_ok, List.set_cons_succ, List.set_cons_zero, List.getElem?_cons_zero, List.getElem?_cons_succ, ixb hs hx]⟩
    simp only [lc, tsS, sSeq,ST_seq,sAsg,sPar,sExpr,sIf,sRet,sRetN,sNx,ST_bindS,eMeth,eArgs,aCons,aNil,eBin,eUn,eC,eVar,eAnd,eOr,eNot,eIf,tVal,tAnd,tOr,tNot,tYes,gName,gTup,gCons,gNil,gSub,aa',ab',T_bind,T_ok,ba',bb',bc',T_ite,ST_nx,ST_ret,ac',ad',ae',af',ag',if_true,if_false,ah']
    have fin : ((List.range b.length).filter fun (k : Nat) => decide (k % 2 = 0)).map (fun (k : Nat) => D.int (b.getD k 0)) = zi (turnB "half" b) := by
      unfold turnB
      rw [if_neg (by decide +kernel), if_neg (by decide +kernel), if_pos rfl]
      have key : ∀ n : Nat, (List.range n).filter (fun (k : Nat) => decide (k % 2 = 0)) = (List.range ((n + 1) / 2)).map fun k => 2 * k := by
        intro n
        induction n with
        | zero => rfl
        | succ n ih =>
          rw [List.range_succ, List.filter_append, ih]
          by_cases q : n % 2 = 0
          · have e : (n + 1 + 1) / 2 = (n + 1) / 2 + 1 := by omega
            rw [e, List.range_succ, List.map_append]
            simp [List.filter_cons, q]
            omega
          · have e : (n + 1 + 1) / 2 = (n + 1) / 2 := by omega
            rw [e]
            simp [List.filter_cons, q]
      rw [key]
      unfold evensB zi
      have gen : ∀ l : List Nat, (∀ k ∈ l, 2 * k < b.length) → (l.map fun k => 2 * k).map (fun (k : Nat) => D.int (b.getD k 0)) = (l.filterMap fun k => b[2 * k]?).map D.int := by
        intro l
        induction l with
        | nil => intro _; rfl
        | cons k l ih =>
          intro h
          have hk := h k (by simp)
          rw [List.map_cons, List.map_cons, List.filterMap_cons, List.getElem?_eq_getElem hk, ih fun x hx => h x (List.mem_cons_of_mem _ hx)]
          simp [List.getD_eq_getElem?_getD, hk]
      exact gen _ fun k hk => by
        have := List.mem_range.mp hk
        omega
    rw [fin]
    first | trivial | exact ⟨rfl, rfl⟩ | exact ⟨trivial, trivial⟩
  · have q1 : (("next" : Str) == "turn") = false := by decide +kernel
    have q2 : (("next" : Str) == "half") = false := by decide +kernel
    have q3 : (("next" : Str) == "next") = true := by decide +kernel
    simp only [e1, e2, e3, e4, q1, q2, q3, sSeq,ST_seq,sAsg,sPar,sExpr,sIf,sRet,sRetN,sNx,ST_bindS,eMeth,eArgs,aCons,aNil,eBin,eUn,eC,eVar,eAnd,eOr,eNot,eIf,tVal,tAnd,tOr,tNot,tYes,gName,gTup,gCons,gNil,gSub,aa',ab',T_bind,T_ok,ba',bb',bc',T_ite,ST_nx,ST_ret,ac',ad',ae',af',ag',if_true,if_false,ah', start,al',am',an',ao',List.replicate,aq',ar']
    have w2 : iSeq (eVar 0) [some (.st (zi b)), some (.str "next"), none, none, none, none] hs = .ok (b.map D.int, none) hs := BtD.walk (.inr rfl) rfl
    have lc := eLc_eq (own := [5]) (g := Mm.gName 5) (t := tYes) (e := eIf (tVal (eBin vEq (eVar 5) (eC (.int 9)))) (eC (.int 0)) (eBin vAdd (eVar 5) (eC (.int 1)))) (fun _ => true) (fun x => D.int ((x + 1) % 10)) w2 trivial (by omega) fun x hx => ⟨_, rfl, rfl, fun _ => by
      have a1 := hb.lo x hx
      have a2 := hb.hi x hx
      simp only [eIf, tVal, eBin, eVar, eC, wipe, R.bind_ok, List.set_cons_succ, List.set_cons_zero, List.getElem?_cons_zero, List.getElem?_cons_succ, eqI]
      by_cases e : x = 9
      · subst e; simp
      · have v1 : vAdd (.int x) (.int 1) hs = .ok (.int (x + 1)) hs := rfl
        have : (x + 1) % 10 = x + 1 := by omega
        simp [e, v1, this]⟩
    simp only [lc, tsS, sSeq,ST_seq,sAsg,sPar,sExpr,sIf,sRet,sRetN,sNx,ST_bindS,eMeth,eArgs,aCons,aNil,eBin,eUn,eC,eVar,eAnd,eOr,eNot,eIf,tVal,tAnd,tOr,tNot,tYes,gName,gTup,gCons,gNil,gSub,aa',ab',T_bind,T_ok,ba',bb',bc',T_ite,ST_nx,ST_ret,ac',ad',ae',af',ag',if_true,if_false,ah']
    have fin : ((b.filter fun _ => true).map fun x => D.int ((x + 1) % 10)) = zi (turnB "next" b) := by
      rw [List.filter_eq_self.mpr (by simp)]
      unfold turnB
      rw [if_neg (by decide +kernel), if_neg (by decide +kernel), if_neg (by decide +kernel), if_pos rfl]
      simp [zi]
    rw [fin]
    first | trivial | exact ⟨rfl, rfl⟩ | exact ⟨trivial, trivial⟩
end Mm
namespace Mm
theorem filter_way {ws : List Wy} {w : Wy} (nd : (ws.map Wy.p).Nodup) (h : w ∈ ws) : (ws.filter fun v => decide (v.p = w.p)) = [w] := by
  induction ws with
  | nil => simp at h
  | cons v vs ih =>
    rw [List.map_cons, List.nodup_cons] at nd
    rw [List.filter_cons]
    rcases List.mem_cons.mp h with e | h
    · subst e
      simp only [decide_true, if_true]
      rw [List.filter_eq_nil_iff.mpr]
      intro x hx h2
      have h3 : x.p = w.p := of_decide_eq_true h2
      exact nd.1 (by rw [← h3]; exact List.mem_map_of_mem hx)
    · have : v.p ≠ w.p := fun e => nd.1 (by rw [e]; exact List.mem_map_of_mem h)
      simp only [this, decide_false, Bool.false_eq_true, if_false]
      exact ih nd.2 h
theorem lawMade_eq {ws : List Wy} {r b : List Int} {hs : Hs} (hw : WaysOk ws) (hb : BodOk b) (hr : r.length ≤ 1000) (ok : PathOk ws r) : c_law_made [.l (ws.map wyD), tz r, .st (zi b)] hs = .ok (.st (zi (alongB ws r b))) hs := by
  refine eq_of_T (T_callA rfl ?_)
  unfold m_law_made
  have hrng : Mm.iRng2 (aCons (eC (.int 1)) (aCons (eArgs vLen (aCons (eVar 1) aNil)) aNil)) [some (.l (ws.map wyD)), some (tz r), some (.st (zi b)), none, none, none] hs = .ok (rng 1 (r.length - 1), none) hs := by
    unfold Mm.iRng2
    have e1 : vLen [tz r] hs = .ok (.int r.length) hs := by simp [vLen, one1, seqOf]
    simp only [aCons, aNil, eC, eArgs, eVar, R.bind_ok, List.getElem?_cons_zero, List.getElem?_cons_succ, e1, int2]
    have e2 : ((r.length : Int) - 1).toNat = r.length - 1 := by omega
    rw [if_pos (by unfold lim; omega), e2]
  simp only [sSeq,ST_seq,sAsg,sPar,sExpr,sIf,sRet,sRetN,sNx,ST_bindS,eMeth,eArgs,aCons,aNil,eBin,eUn,eC,eVar,eAnd,eOr,eNot,eIf,tVal,tAnd,tOr,tNot,tYes,gName,gTup,gCons,gNil,gSub,aa',ab',T_bind,T_ok,ba',bb',bc',T_ite,ST_nx,ST_ret,ac',ad',ae',af',ag',if_true,if_false,ah', start,al',am',an',ao',List.replicate,aq',ar', sFor, hrng]
  refine T_rngL (fun j fs h' => h' = hs ∧ ∃ c3 c4, fs = [some (.l (ws.map wyD)), some (tz r), some (.st (zi (stepsB ws r b j))), c3, c4, none]) ⟨rfl, none, none, rfl⟩ ?_ ?_
  · rintro j hj fs h' ⟨rfl, c3, c4, rfl⟩
    obtain ⟨w, hm, hwp⟩ := ok j (by omega)
    have hwa : w.a = r.getD j 0 := congrArg Prod.fst hwp
    have hwb : w.b = r.getD (j + 1) 0 := congrArg Prod.snd hwp
    have i2 : (1 : Int) + (j : Nat) = ((j + 1 : Nat) : Int) := by omega
    unfold body_law_made_0
    have v1 : vSub (.int ((j + 1 : Nat) : Int)) (.int 1) h' = .ok (.int ((j : Nat) : Int)) h' := by
      show R.ok (D.int (((j + 1 : Nat) : Int) - 1)) _ = _
      congr 2
      omega
    have v2 := ix_zi (r := r) (j := j) (hs := h') (by omega)
    have v3 := ix_zi (r := r) (j := j + 1) (hs := h') (by omega)
    rw [← hwa] at v2
    rw [← hwb] at v3
    have v4 : vTup [.int w.a, .int w.b] h' = .ok (.t [.int w.a, .int w.b]) h' := by simp [vTup]
    rw [i2]
    have w1 : iSeq (eVar 0) [some (.l (ws.map wyD)), some (tz r), some (.st (zi (stepsB ws r b j))), some (.int ((j + 1 : Nat) : Int)), c4, none] h' = .ok (ws.map wyD, none) h' := rfl
    have lc := eLc_eq (own := [5]) (g := Mm.gName 5) (t := tVal (eBin vEq (eSl vSl (eVar 5) oNone (oSome (eC (.int 2)))) (eArgs vTup (aCons (eBin vIx (eVar 1) (eBin vSub (eVar 3) (eC (.int 1)))) (aCons (eBin vIx (eVar 1) (eVar 3)) aNil))))) (e := eBin vIx (eVar 5) (eC (.int 3))) (fun v : Wy => decide (v.p = w.p)) (fun v => D.str v.r) w1 trivial (by have := hw.len; omega) fun v hv => ⟨_, rfl, by
      have z1 : vSl (wyD v) none (some 2) h' = .ok (prD v.p) h' := by simp [vSl, wyD, cut, sIx, prD, Wy.p]
      have z2 : vEq (prD v.p) (.t [.int w.a, .int w.b]) h' = .ok (.bl (decide (v.p = w.p))) h' := by
        have : D.t [.int w.a, .int w.b] = prD w.p := rfl
        rw [this, eq_ok (okd_pr v.p 58) (okd_pr w.p 58), deq_pr]
      simp only [tVal, eBin, eSl, eArgs, aCons, aNil, oNone, oSome, eVar, eC, wipe, R.bind_ok, List.set_cons_succ, List.set_cons_zero, List.getElem?_cons_zero, List.getElem?_cons_succ, v1, v2, v3, v4, z1, z2], fun _ => by
      simp [eBin, eVar, eC, wipe, wyD, vIx, seqOf, ixN]⟩
    rw [filter_way hw.nd hm] at lc
    have v5 : vIx (.l [D.str w.r]) (.int 0) h' = .ok (.str w.r) h' := rfl
    have v6 := lawTurned_eq (hs := h') (stepsB_ok (ws := ws) (r := r) hb j) (hw.ok w hm).rr
    have e9 : turnB w.r (stepsB ws r b j) = stepsB ws r b (j + 1) := by
      show _ = turnB (ruleOf ws (r.getD j 0) (r.getD (j + 1) 0)) (stepsB ws r b j)
      rw [← hwa, ← hwb, ruleOf_mem hw hm]
    rw [e9] at v6
    simp only [sSeq,ST_seq,sAsg,sPar,sExpr,sIf,sRet,sRetN,sNx,ST_bindS,eMeth,eArgs,aCons,aNil,eBin,eUn,eC,eVar,eAnd,eOr,eNot,eIf,tVal,tAnd,tOr,tNot,tYes,gName,gTup,gCons,gNil,gSub,aa',ab',T_bind,T_ok,ba',bb',bc',T_ite,ST_nx,ST_ret,ac',ad',ae',af',ag',if_true,if_false,ah', start,al',am',an',ao',List.replicate,aq',ar', lc, v5, v6]
    exact ⟨trivial, _, _, rfl⟩
  · rintro fs h' ⟨rfl, c3, c4, rfl⟩
    simp only [sSeq,ST_seq,sAsg,sPar,sExpr,sIf,sRet,sRetN,sNx,ST_bindS,eMeth,eArgs,aCons,aNil,eBin,eUn,eC,eVar,eAnd,eOr,eNot,eIf,tVal,tAnd,tOr,tNot,tYes,gName,gTup,gCons,gNil,gSub,aa',ab',T_bind,T_ok,ba',bb',bc',T_ite,ST_nx,ST_ret,ac',ad',ae',af',ag',if_true,if_false,ah', start,al',am',an',ao',List.replicate,aq',ar']
    first | trivial | exact ⟨rfl, rfl⟩ | exact ⟨trivial, trivial⟩
end Mm
namespace Mm
/-- a paste waits for a kind that its clip offers and that isn't made -/
def RtOk (B : Bd) (p : Pa) : Prop := ∃ (ch : Ch) (c : Cl), p.rt = some ch.r ∧ clipAt B p.cl = some c ∧ ChOk B.ws (c.os.map Of.k) p.wa ch ∧ bodyOf c.os (ch.r.getD 0 0) = none ∧ ch.r.getD 0 0 ∈ c.ak
structure InvC (n m : Nat) (B : Bd) : Prop where
  ws : WaysOk B.ws
  rm : 1 ≤ B.rm ∧ B.rm ≤ 8
  jo : 0 ≤ B.jo ∧ B.jo ≤ 12
  nde : (keysE B).Nodup
  ek : ∀ p ∈ keysE B, 0 ≤ p ∧ p < B.jo
  ear : ∀ e ∈ B.ears, e.2.length + B.qu.length ≤ m
  eyn : B.eyes.Nodup
  eyk : ∀ p ∈ B.eyes, p ∈ keysE B
  cs : B.cls.Pairwise fun a b => a.n < b.n
  cr : ∀ c ∈ B.cls, 0 ≤ c.n ∧ c.n < B.cu
  cl : ∀ c ∈ B.cls, ClOk B c
  qs : B.qu.Pairwise fun a b => a.n < b.n
  qr : ∀ p ∈ B.qu, 0 ≤ p.n ∧ p.n < B.as
  pa : ∀ p ∈ B.qu, p.pg ∈ keysE B ∧ KsOk p.wa
  cu : 0 ≤ B.cu ∧ B.cu ≤ n
  as : 0 ≤ B.as ∧ B.as ≤ n
  ql : B.qu.length ≤ n
  cll : B.cls.length ≤ n
theorem nd_lt {α : Type} {f : α → Int} {l : List α} (h : l.Pairwise fun a b => f a < f b) : (l.map f).Nodup := by
  rw [List.Nodup, List.pairwise_map]
  exact h.imp fun {a b} q => by omega
section
variable {n m : Nat} {B : Bd}
theorem InvC.rng (I : InvC n m B) : Rng B := ⟨I.ek, I.cr⟩
theorem InvC.up {n' m' : Nat} (I : InvC n m B) (hn : n ≤ n') (hm : m ≤ m') : InvC n' m' B :=
  ⟨I.ws, I.rm, I.jo, I.nde, I.ek, fun e he => by have := I.ear e he; omega, I.eyn, I.eyk, I.cs, I.cr, I.cl, I.qs, I.qr, I.pa, by have := I.cu; omega, by have := I.as; omega, by have := I.ql; omega, by have := I.cll; omega⟩
theorem ClOk.keys {B' : Bd} {c : Cl} (h : ClOk B c) (e : keysE B' = keysE B) : ClOk B' c := ⟨h.os, fun o q => by rw [e]; exact h.ow o q, h.op, h.akn, h.akl, h.akh⟩
theorem keys_hear {p : Int} {e : Ev} {ears : List (Int × List Ev)} : (hear ears p e).map (·.1) = ears.map (·.1) := hear_fst
theorem hear_mem {p : Int} {e : Ev} {ears : List (Int × List Ev)} {y : Int × List Ev} (h : y ∈ hear ears p e) : ∃ x ∈ ears, x.1 = y.1 ∧ y.2.length ≤ x.2.length + 1 := by
  obtain ⟨x, hx, rfl⟩ := List.mem_map.mp (show y ∈ ears.map fun x => if x.1 = p then (x.1, x.2 ++ [e]) else x from h)
  refine ⟨x, hx, ?_⟩
  split
  · exact ⟨rfl, by simp⟩
  · exact ⟨rfl, by omega⟩
theorem keys_answer {p : Pa} {e : Ev} : keysE (answerB B p e) = keysE B := keys_hear
theorem qu_less {p : Pa} (hp : p ∈ B.qu) : (B.qu.filter fun q => decide (q.n ≠ p.n)).length < B.qu.length := by
  rw [List.length_filter_lt_length_iff_exists]
  exact ⟨p, hp, by simp⟩
theorem answer_inv {p : Pa} {e : Ev} (I : InvC n m B) (hp : p ∈ B.qu) : InvC n m (answerB B p e) := by
  refine ⟨I.ws, I.rm, I.jo, by rw [keys_answer]; exact I.nde, by rw [keys_answer]; exact I.ek, fun y hy => ?_, I.eyn, by rw [keys_answer]; exact I.eyk, I.cs, I.cr, fun c hc => (I.cl c hc).keys keys_answer, I.qs.filter _, fun q hq => I.qr q (List.mem_filter.mp hq).1, fun q hq => by rw [keys_answer]; exact I.pa q (List.mem_filter.mp hq).1, I.cu, I.as, ?_, I.cll⟩
  · obtain ⟨x, hx, _, hl⟩ := hear_mem hy
    have := I.ear x hx
    have := qu_less hp
    show y.2.length + (B.qu.filter fun q => decide (q.n ≠ p.n)).length ≤ m
    omega
  · have := qu_less hp
    have := I.ql
    show (B.qu.filter fun q => decide (q.n ≠ p.n)).length ≤ n
    omega
theorem setRt_inv {k : Int} {r : List Int} (I : InvC n m B) : InvC n m (setRt B k r) := by
  have e1 : ∀ q ∈ (setRt B k r).qu, ∃ z ∈ B.qu, z.n = q.n ∧ z.pg = q.pg ∧ z.wa = q.wa := fun q hq => by
    obtain ⟨z, hz, rfl⟩ := List.mem_map.mp (show q ∈ B.qu.map fun q => if q.n = k then { q with rt := some r } else q from hq)
    exact ⟨z, hz, by split <;> exact ⟨rfl, rfl, rfl⟩⟩
  have e2 : (setRt B k r).qu.length = B.qu.length := by simp [setRt]
  refine ⟨I.ws, I.rm, I.jo, I.nde, I.ek, fun e he => by rw [e2]; exact I.ear e he, I.eyn, I.eyk, I.cs, I.cr, fun c hc => (I.cl c hc).keys rfl, ?_, fun q hq => ?_, fun q hq => ?_, I.cu, I.as, by rw [e2]; exact I.ql, I.cll⟩
  · show (B.qu.map fun q => if q.n = k then { q with rt := some r } else q).Pairwise _
    rw [List.pairwise_map]
    refine I.qs.imp fun {a b} z => ?_
    have f : ∀ x : Pa, (if x.n = k then { x with rt := some r } else x).n = x.n := fun x => by split <;> rfl
    rw [f, f]; exact z
  · obtain ⟨z, hz, h1, h2, h3⟩ := e1 q hq
    rw [← h1]; exact I.qr z hz
  · obtain ⟨z, hz, h1, h2, h3⟩ := e1 q hq
    rw [← h2, ← h3]; exact I.pa z hz
theorem ask_inv {c : Cl} {k : Int} (I : InvC n m B) (hc : c ∈ B.cls) (hk : k ∉ c.ak) (k0 : 0 ≤ k) (k1 : k < 10) : InvC n (m + 1) (askB B c k) := by
  unfold askB
  cases ho : c.ow with
  | none => exact I.up (Nat.le_refl _) (by omega)
  | some o =>
    simp only
    have fn : ∀ x : Cl, (if x.n = c.n then { x with ak := x.ak ++ [k] } else x).n = x.n := fun x => by split <;> rfl
    refine ⟨I.ws, I.rm, I.jo, ?_, ?_, fun y hy => ?_, I.eyn, ?_, ?_, fun x hx => ?_, fun x hx => ?_, I.qs, I.qr, ?_, I.cu, I.as, I.ql, ?_⟩
    · unfold keysE; rw [keys_hear]; exact I.nde
    · unfold keysE; rw [keys_hear]; exact I.ek
    · obtain ⟨x, hx, _, hl⟩ := hear_mem hy
      have := I.ear x hx
      show y.2.length + B.qu.length ≤ m + 1
      omega
    · unfold keysE; rw [keys_hear]; exact I.eyk
    · rw [List.pairwise_map]
      exact I.cs.imp fun {a b} z => by rw [fn, fn]; exact z
    · obtain ⟨z, hz, rfl⟩ := List.mem_map.mp hx
      rw [fn]; exact I.cr z hz
    · obtain ⟨z, hz, rfl⟩ := List.mem_map.mp hx
      have C := I.cl z hz
      have kk : keysE { B with cls := B.cls.map (fun x => if x.n = c.n then { x with ak := x.ak ++ [k] } else x), ears := hear B.ears o (.make c.n k) } = keysE B := keys_hear
      by_cases e : z.n = c.n
      · have ezc := cnum_eq (nd_lt I.cs) hz hc e
        subst ezc
        rw [if_pos rfl]
        refine ⟨C.os, fun o q => by rw [kk]; exact C.ow o q, C.op, ?_, fun x hx => ?_, fun x hx => ?_⟩
        · show (z.ak ++ [k]).Nodup
          rw [List.nodup_append]
          exact ⟨C.akn, by simp, fun a ha b hb => by
            rw [List.mem_singleton] at hb
            subst hb
            intro q; subst q; exact hk ha⟩
        · rcases List.mem_append.mp hx with h | h
          · exact C.akl x h
          · rw [List.mem_singleton] at h; omega
        · rcases List.mem_append.mp hx with h | h
          · exact C.akh x h
          · rw [List.mem_singleton] at h; omega
      · rw [if_neg e]
        exact C.keys kk
    · unfold keysE; rw [keys_hear]; exact I.pa
    · rw [List.length_map]; exact I.cll
theorem clipAt_map {f : Cl → Cl} (hf : ∀ x, (f x).n = x.n) {k : Int} {B' : Bd} (e : B'.cls = B.cls.map f) : clipAt B' k = (clipAt B k).map f := by
  unfold clipAt
  rw [e, List.find?_map]
  congr 1
  congr 1
  funext x
  simp [hf]
theorem clipAt_of {c : Cl} (I : InvC n m B) (hc : c ∈ B.cls) : clipAt B c.n = some c := by
  cases h : clipAt B c.n with
  | none =>
    have := List.find?_eq_none.mp h c hc
    simp at this
  | some d =>
    obtain ⟨h1, h2⟩ := clipAt_mem h
    rw [cnum_eq (nd_lt I.cs) h1 hc h2]
/-- what serving a paste leaves -/
structure SvF (B : Bd) (p : Pa) (B' : Bd) : Prop where
  ws : B'.ws = B.ws
  cl : ∀ k c, clipAt B k = some c → ∃ c', clipAt B' k = some c' ∧ c'.os = c.os ∧ (∀ x ∈ c.ak, x ∈ c'.ak) ∧ c'.ow = c.ow ∧ c'.pn = c.pn ∧ c'.n = c.n
  to : ∀ q ∈ B.qu, q.n ≠ p.n → q ∈ B'.qu
  of : ∀ q ∈ B'.qu, (q ∈ B.qu ∧ q.n ≠ p.n) ∨ RtOk B' q
theorem SvF.rt {B' : Bd} {p q : Pa} (F : SvF B p B') (h : RtOk B q) : RtOk B' q := by
  obtain ⟨ch, c, h1, h2, h3, h4, h5⟩ := h
  obtain ⟨c', g1, g2, g3, _⟩ := F.cl _ _ h2
  exact ⟨ch, c', h1, g1, by rw [g2, F.ws]; exact h3, by rw [g2]; exact h4, g3 _ h5⟩
theorem answer_F {p : Pa} {e : Ev} : SvF B p (answerB B p e) := by
  refine ⟨rfl, fun k c h => ⟨c, h, rfl, fun x hx => hx, rfl, rfl, rfl⟩, fun q hq hn => List.mem_filter.mpr ⟨hq, by simpa using hn⟩, fun q hq => .inl ?_⟩
  obtain ⟨h1, h2⟩ := List.mem_filter.mp hq
  exact ⟨h1, by simpa using h2⟩
theorem serve_inv {p : Pa} {c : Cl} (I : InvC n m B) (hp : p ∈ B.qu) (hc : clipAt B p.cl = some c) : InvC n (m + 1) (serveB B p) ∧ SvF B p (serveB B p) := by
  obtain ⟨hcm, hcn⟩ := clipAt_mem hc
  have k6 : Ks9 (c.os.map Of.k) := (I.cl c hcm).os.ks.k9
  unfold serveB
  rw [hc]
  simp only
  cases hch : chosen B.ws (c.os.map Of.k) p.wa with
  | none => exact ⟨(answer_inv I hp).up (Nat.le_refl _) (by omega), answer_F⟩
  | some ch =>
    have CO := chosen_ok I.ws k6 hch
    simp only
    cases hbo : bodyOf c.os (ch.r.getD 0 0) with
    | some b => exact ⟨(answer_inv I hp).up (Nat.le_refl _) (by omega), answer_F⟩
    | none =>
      simp only
      have qof : ∀ q ∈ (setRt B p.n ch.r).qu, (q ∈ B.qu ∧ q.n ≠ p.n) ∨ (q = { p with rt := some ch.r }) := fun q hq => by
        obtain ⟨z, hz, rfl⟩ := List.mem_map.mp (show q ∈ B.qu.map fun q => if q.n = p.n then { q with rt := some ch.r } else q from hq)
        by_cases e : z.n = p.n
        · have := num_eq (nd_lt I.qs) hz hp e
          subst this
          rw [if_pos rfl]; exact .inr rfl
        · rw [if_neg e]; exact .inl ⟨hz, e⟩
      have qto : ∀ q ∈ B.qu, q.n ≠ p.n → q ∈ (setRt B p.n ch.r).qu := fun q hq hn => List.mem_map.mpr ⟨q, hq, by rw [if_neg hn]⟩
      by_cases hk : ch.r.getD 0 0 ∈ c.ak
      · rw [if_pos hk]
        refine ⟨(setRt_inv I).up (Nat.le_refl _) (by omega), rfl, fun k c h => ⟨c, h, rfl, fun x hx => hx, rfl, rfl, rfl⟩, qto, fun q hq => ?_⟩
        rcases qof q hq with h | rfl
        · exact .inl h
        · exact .inr ⟨ch, c, rfl, hc, CO, hbo, hk⟩
      · rw [if_neg hk]
        have a0 := k6.lo _ CO.hd
        have a1 := k6.hi _ CO.hd
        refine ⟨ask_inv (setRt_inv I) hcm hk a0 a1, ?_⟩
        obtain ⟨f, hf, hfb⟩ := open_of CO.hd hbo
        obtain ⟨o, ho⟩ := (I.cl c hcm).op f hf hfb
        have e1 : askB (setRt B p.n ch.r) c (ch.r.getD 0 0) = { setRt B p.n ch.r with cls := B.cls.map (fun x => if x.n = c.n then { x with ak := x.ak ++ [ch.r.getD 0 0] } else x), ears := hear B.ears o (.make c.n (ch.r.getD 0 0)) } := by
          unfold askB
          rw [ho]
          rfl
        have e2 : ∀ k, clipAt (askB (setRt B p.n ch.r) c (ch.r.getD 0 0)) k = (clipAt B k).map fun x => if x.n = c.n then { x with ak := x.ak ++ [ch.r.getD 0 0] } else x := fun k => clipAt_map (fun x => by split <;> rfl) (by rw [e1])
        refine ⟨by rw [e1]; rfl, fun k d h => ?_, fun q hq hn => by rw [e1]; exact qto q hq hn, fun q hq => ?_⟩
        · refine ⟨_, by rw [e2, h]; rfl, ?_, fun x hx => ?_, ?_, ?_, ?_⟩
          · dsimp only
            split <;> rfl
          · dsimp only
            split
            · exact List.mem_append_left _ hx
            · exact hx
          · dsimp only
            split <;> rfl
          · dsimp only
            split <;> rfl
          · dsimp only
            split <;> rfl
        · rw [e1] at hq
          rcases qof q hq with h | rfl
          · exact .inl h
          · refine .inr ⟨ch, { c with ak := c.ak ++ [ch.r.getD 0 0] }, rfl, ?_, by rw [e1]; exact CO, hbo, by simp⟩
            show clipAt _ p.cl = _
            rw [e2, hc]
            simp
structure Half (n m : Nat) (B : Bd) (todo : List Pa) : Prop where
  c : InvC n m B
  sub : ∀ p ∈ todo, p ∈ B.qu
  nd : (todo.map Pa.n).Nodup
  rt : ∀ p ∈ B.qu, p ∈ todo ∨ RtOk B p
abbrev Inv (n m : Nat) (B : Bd) : Prop := Half n m B []
theorem Half.next {m' : Nat} {B' : Bd} {p : Pa} {todo : List Pa} (H : Half n m B (p :: todo)) (I : InvC n m' B') (F : SvF B p B') : Half n m' B' todo := by
  have nd := H.nd
  rw [List.map_cons, List.nodup_cons] at nd
  have hne : ∀ q ∈ todo, q.n ≠ p.n := fun q hq e => nd.1 (by rw [← e]; exact List.mem_map_of_mem hq)
  refine ⟨I, fun q hq => F.to q (H.sub q (List.mem_cons_of_mem _ hq)) (hne q hq), nd.2, fun q hq => ?_⟩
  rcases F.of q hq with ⟨h1, h2⟩ | h
  · rcases H.rt q h1 with h | h
    · rcases List.mem_cons.mp h with rfl | h
      · exact absurd rfl h2
      · exact .inl h
    · exact .inr (F.rt h)
  · exact .inr h
theorem Half.answer {p : Pa} {e : Ev} {todo : List Pa} (H : Half n m B (p :: todo)) : Half n m (answerB B p e) todo := H.next (answer_inv H.c (H.sub p List.mem_cons_self)) answer_F
theorem Half.serve {p : Pa} {c : Cl} {todo : List Pa} (H : Half n m B (p :: todo)) (hc : clipAt B p.cl = some c) : Half n (m + 1) (serveB B p) todo ∧ SvF B p (serveB B p) := by
  obtain ⟨I, F⟩ := serve_inv H.c (H.sub p List.mem_cons_self) hc
  exact ⟨H.next I F, F⟩
theorem Half.up {n' m' : Nat} {todo : List Pa} (H : Half n m B todo) (hn : n ≤ n') (hm : m ≤ m') : Half n' m' B todo := ⟨H.c.up hn hm, H.sub, H.nd, H.rt⟩
end
end Mm
namespace Mm
section
variable {i : Nat} {L : Pl} {h : Rh} {hs : Hs} {B : Bd}
/-- as FrP, but for one role, of which the place stays -/
structure FrPT (i : Nat) (T : Role) (L : Pl) (h : Rh) (L' : Pl) (h' : Rh) : Prop where
  pl : L' T = L T
  out : ∀ r : Role, r ≠ T → (r.1 ≠ i ∨ r.2.prog = false) → h' r = h r ∧ L' r = L r
  adr : ∀ r : Role, r ≠ T → (h r).isSome = true → r.2 ≠ .qu → (∀ n, r.2 ≠ .ks n) → L' r = L r ∧ (h' r).isSome = true
  num : ∀ (k : Int) (fs : List (Str × D)) (d : D), h (i, .pa k) = some (.ins "Paste" fs) → dget fs "number" = some d → ∃ fs', h' (i, .pa k) = some (.ins "Paste" fs') ∧ dget fs' "number" = some d
structure FrLT (i : Nat) (T : Role) (L : Pl) (h : Rh) (L' : Pl) (h' : Rh) : Prop where
  pl : L' T = L T
  out : ∀ r : Role, r ≠ T → (r.1 ≠ i ∨ r.2.law = false) → h' r = h r ∧ L' r = L r
  adr : ∀ r : Role, r ≠ T → (h r).isSome = true → L' r = L r ∧ (h' r).isSome = true
  num : ∀ (k : Int) (fs : List (Key × D)) (d : D), h (i, .wpa k) = some (.dk fs) → dget fs (.inr "number") = some d → ∃ fs', h' (i, .wpa k) = some (.dk fs') ∧ dget fs' (.inr "number") = some d
theorem FrP.t {T : Role} {L' : Pl} {h' : Rh} (f : FrP i L h L' h') (hT : T.1 ≠ i ∨ T.2.prog = false) : FrPT i T L h L' h' := ⟨(f.out T hT).2, fun r _ => f.out r, fun r _ => f.adr r, f.num⟩
theorem FrL.t {T : Role} {L' : Pl} {h' : Rh} (f : FrL i L h L' h') (hT : T.1 ≠ i ∨ T.2.law = false) : FrLT i T L h L' h' := ⟨(f.out T hT).2, fun r _ => f.out r, fun r _ => f.adr r, f.num⟩
theorem FrPT.trans {T : Role} {L' L2 : Pl} {h' h2 : Rh} (a : FrPT i T L h L' h') (b : FrPT i T L' h' L2 h2) : FrPT i T L h L2 h2 :=
  ⟨b.pl.trans a.pl, fun r t q => ⟨(b.out r t q).1.trans (a.out r t q).1, (b.out r t q).2.trans (a.out r t q).2⟩, fun r t e q1 q2 => ⟨(b.adr r t (a.adr r t e q1 q2).2 q1 q2).1.trans (a.adr r t e q1 q2).1, (b.adr r t (a.adr r t e q1 q2).2 q1 q2).2⟩, fun k fs d e q => by
    obtain ⟨fs', e', q'⟩ := a.num k fs d e q
    exact b.num k fs' d e' q'⟩
theorem FrLT.trans {T : Role} {L' L2 : Pl} {h' h2 : Rh} (a : FrLT i T L h L' h') (b : FrLT i T L' h' L2 h2) : FrLT i T L h L2 h2 :=
  ⟨b.pl.trans a.pl, fun r t q => ⟨(b.out r t q).1.trans (a.out r t q).1, (b.out r t q).2.trans (a.out r t q).2⟩, fun r t e => ⟨(b.adr r t (a.adr r t e).2).1.trans (a.adr r t e).1, (b.adr r t (a.adr r t e).2).2⟩, fun k fs d e q => by
    obtain ⟨fs', e', q'⟩ := a.num k fs d e q
    exact b.num k fs' d e' q'⟩
theorem FrPT.refl (T : Role) : FrPT i T L h L h := ⟨rfl, fun _ _ _ => ⟨rfl, rfl⟩, fun _ _ e _ _ => ⟨rfl, e⟩, fun _ fs _ e q => ⟨fs, e, q⟩⟩
theorem FrLT.refl (T : Role) : FrLT i T L h L h := ⟨rfl, fun _ _ _ => ⟨rfl, rfl⟩, fun _ _ e => ⟨rfl, e⟩, fun _ fs _ e q => ⟨fs, e, q⟩⟩
/-- the role's object is changed -/
theorem FrPT.put (T : Role) (o : O) (hT : T.1 ≠ i) : FrPT i T L h L (upR h T (some o)) := ⟨rfl, fun r t _ => ⟨upR_ne t, rfl⟩, fun r t e _ _ => ⟨rfl, by rw [upR_ne t]; exact e⟩, fun k fs d e q => ⟨fs, by rw [upR_ne (fun z => hT (by rw [← z]))]; exact e, q⟩⟩
theorem FrLT.put (T : Role) (o : O) (hT : T.1 ≠ i) : FrLT i T L h L (upR h T (some o)) := ⟨rfl, fun r t _ => ⟨upR_ne t, rfl⟩, fun r t e => ⟨rfl, by rw [upR_ne t]; exact e⟩, fun k fs d e q => ⟨fs, by rw [upR_ne (fun z => hT (by rw [← z]))]; exact e, q⟩⟩
end
def dropCl (B : Bd) (n : Int) : Bd := { B with cls := B.cls.filter fun c => decide (c.n ≠ n) }
def noneAll (B : Bd) (l : List Pa) : Bd := l.foldl (fun B p => answerB B p (.non p.n)) B
def ofCl (B : Bd) (n : Int) : List Pa := B.qu.filter fun p => decide (p.cl = n)
def goneB (B : Bd) (n : Int) : Bd := noneAll (dropCl B n) (ofCl B n)
def shrinkL (B : Bd) : List Cl → Bd
  | [] => B
  | c :: r => if B.rm < (B.cls.length : Int) then shrinkL (goneB B c.n) r else B
def looseB (B : Bd) : List Cl := B.cls.dropLast.filter fun c => !c.pn
def shrinkB (B : Bd) : Bd := shrinkL B (looseB B)
section
variable {n m : Nat} {B : Bd}
theorem none_inv : ∀ {l : List Pa} {B : Bd}, Half n m B l → Half n m (noneAll B l) []
  | [], B, H => H
  | p :: l, B, H => none_inv (l := l) (H.answer (e := .non p.n))
theorem none_cls : ∀ {l : List Pa} {B : Bd}, (noneAll B l).cls = B.cls
  | [], B => rfl
  | p :: l, B => none_cls (l := l) (B := answerB B p (.non p.n))
theorem none_rm : ∀ {l : List Pa} {B : Bd}, (noneAll B l).rm = B.rm
  | [], B => rfl
  | p :: l, B => none_rm (l := l) (B := answerB B p (.non p.n))
theorem clipAt_drop {k j : Int} (h : j ≠ k) : clipAt (dropCl B k) j = clipAt B j := by
  unfold clipAt dropCl
  simp only
  induction B.cls with
  | nil => rfl
  | cons c cs ih =>
    rw [List.filter_cons]
    by_cases e : c.n = k
    · simp only [e, ne_eq, not_true, decide_false, Bool.false_eq_true, if_false]
      rw [ih, List.find?_cons, decide_eq_false (by rw [e]; exact fun z => h z.symm)]
    · simp only [e, ne_eq, not_false_eq_true, decide_true, if_true]
      rw [List.find?_cons, List.find?_cons, ih]
theorem drop_inv {k : Int} (H : Half n m B []) : Half n m (dropCl B k) (ofCl B k) := by
  have I := H.c
  have s : (B.cls.filter fun c => decide (c.n ≠ k)).Sublist B.cls := List.filter_sublist
  refine ⟨⟨I.ws, I.rm, I.jo, I.nde, I.ek, I.ear, I.eyn, I.eyk, I.cs.sublist s, fun c hc => I.cr c (s.subset hc), fun c hc => (I.cl c (s.subset hc)).keys rfl, I.qs, I.qr, I.pa, I.cu, I.as, I.ql, by have := s.length_le; have := I.cll; show (B.cls.filter fun c => decide (c.n ≠ k)).length ≤ n; omega⟩, fun p hp => (List.mem_filter.mp hp).1, ?_, fun p hp => ?_⟩
  · exact (nd_lt I.qs).sublist (List.filter_sublist.map _)
  · by_cases e : p.cl = k
    · exact .inl (List.mem_filter.mpr ⟨hp, by simpa using e⟩)
    · rcases H.rt p hp with h | ⟨ch, c, h1, h2, h3⟩
      · cases h
      · exact .inr ⟨ch, c, h1, by rw [clipAt_drop e]; exact h2, h3⟩
theorem gone_inv {k : Int} (H : Half n m B []) : Half n m (goneB B k) [] := none_inv (drop_inv H)
theorem gone_cls {k : Int} : (goneB B k).cls = B.cls.filter fun c => decide (c.n ≠ k) := none_cls
theorem shrinkL_inv : ∀ {l : List Cl} {B : Bd}, Half n m B [] → Half n m (shrinkL B l) []
  | [], B, H => H
  | c :: l, B, H => by
    unfold shrinkL
    split
    · exact shrinkL_inv (gone_inv H)
    · exact H
end
end Mm
namespace Mm
section
variable {i n m : Nat} {L : Pl} {h : Rh} {hs : Hs} {B : Bd}
theorem FrP.bd {L' : Pl} {h' : Rh} (F : FrP i L h L' h') (P : PB i L h B) : L' (i, .bd) = L (i, .bd) := (F.adr _ (by rw [P.bd]; rfl) (by simp) (by simp)).1
theorem nodup_tail {l : List Cl} {c : Cl} (h : ((c :: l).map Cl.n).Nodup) : ∀ x ∈ l, x.n ≠ c.n := fun x hx e => by
  rw [List.map_cons, List.nodup_cons] at h
  exact h.1 (by rw [← e]; exact List.mem_map_of_mem hx)
end
end Mm
namespace Mm
section
variable {i n m : Nat} {L : Pl} {h : Rh} {hs : Hs} {B : Bd}
theorem FrL.w {L' : Pl} {h' : Rh} (F : FrL i L h L' h') (P : LB i L h B) : L' (i, .w) = L (i, .w) := by
  obtain ⟨ey, q, _⟩ := P.w
  exact (F.adr _ (by rw [q]; rfl)).1
theorem FrL.wpa {L' : Pl} {h' : Rh} (F : FrL i L h L' h') (P : LB i L h B) {p : Pa} (hp : p ∈ B.qu) : L' (i, .wpa p.n) = L (i, .wpa p.n) := (F.adr _ (by rw [P.pa p hp]; rfl)).1
theorem FrL.wcl {L' : Pl} {h' : Rh} (F : FrL i L h L' h') (P : LB i L h B) {c : Cl} (hc : c ∈ B.cls) : L' (i, .wcl c.n) = L (i, .wcl c.n) := (F.adr _ (by rw [P.cl c hc]; rfl)).1
end
end Mm
namespace Mm
def hdR (p : Pa) : Int := (p.rt.getD []).getD 0 0
def endR (p : Pa) : Int := (p.rt.getD []).getD ((p.rt.getD []).length - 1) 0
def waitB (B : Bd) (n k : Int) : List Pa := B.qu.filter fun p => decide (p.cl = n) && decide (hdR p = k)
def setOs (B : Bd) (n : Int) (f : List Of → List Of) : Bd := { B with cls := B.cls.map fun c => if c.n = n then { c with os := f c.os } else c }
def putBody (k : Int) (b : List Int) (os : List Of) : List Of := os.map fun o => if o.k = k then ⟨o.k, some b⟩ else o
def dropK (k : Int) (os : List Of) : List Of := os.filter fun o => decide (o.k ≠ k)
def makeAct (b : List Int) (B : Bd) (p : Pa) : Bd := answerB B p (.bod p.n (endR p) (alongB B.ws (p.rt.getD []) b))
def makeB (B : Bd) (n k : Int) (b : List Int) : Bd := (waitB B n k).foldl (makeAct b) (setOs B n (putBody k b))
def refuseB (B : Bd) (n k : Int) : Bd := (waitB B n k).foldl serveB (setOs B n (dropK k))
def endCl (p : Int) (c : Cl) : Cl := if c.ow = some p then { c with ow := none, os := c.os.filter fun o => o.b.isSome } else c
def endB1 (B : Bd) (p : Int) : Bd := { B with qu := B.qu.filter fun q => decide (q.pg ≠ p), eyes := B.eyes.filter fun q => decide (q ≠ p), ears := B.ears.filter fun e => decide (e.1 ≠ p), cls := B.cls.map (endCl p) }
def stale (B : Bd) (q : Pa) : Bool := match clipAt B q.cl with
  | none => false
  | some c => !decide (hdR q ∈ c.os.map Of.k)
def endB (B : Bd) (p : Int) : Bd := ((endB1 B p).qu.filter (stale (endB1 B p))).foldl serveB (endB1 B p)
def joinB (B : Bd) : Bd := { B with ears := B.ears ++ [(B.jo, [])], jo := B.jo + 1 }
def watchB (B : Bd) (p : Int) (on : Bool) : Bd := { B with eyes := if on = true then (if p ∈ B.eyes then B.eyes else B.eyes ++ [p]) else B.eyes.filter fun q => decide (q ≠ p) }
def newPa (B : Bd) (p k : Int) (wa : List Int) : Pa := ⟨B.as, p, k, wa, none⟩
def paste1 (B : Bd) (p k : Int) (wa : List Int) : Bd := { B with as := B.as + 1, qu := B.qu ++ [newPa B p k wa] }
def pasteB (B : Bd) (p k : Int) (wa : List Int) : Bd := serveB (paste1 B p k wa) (newPa B p k wa)
def newsE (ears : List (Int × List Ev)) (eyes : List Int) (p c : Int) : List (Int × List Ev) := ears.map fun x => if x.1 ∈ eyes ∧ x.1 ≠ p then (x.1, x.2 ++ [.new c]) else x
def newCl (B : Bd) (p : Int) (os : List Of) : Cl := ⟨B.cu, some p, os, [], false⟩
def cut1 (B : Bd) (p : Int) (os : List Of) : Bd := { B with cu := B.cu + 1, cls := B.cls ++ [newCl B p os], ears := newsE B.ears B.eyes p B.cu }
def cutB (B : Bd) (p : Int) (os : List Of) : Bd := shrinkB (cut1 B p os)
def setPn (B : Bd) (n : Int) (on : Bool) : Bd := { B with cls := B.cls.map fun c => if c.n = n then { c with pn := on } else c }
def pinB (B : Bd) (n : Int) (on : Bool) : Bd := shrinkB (setPn B n on)
structure InvB (n m : Nat) (B : Bd) : Prop where
  h : Half n m B []
  un : (B.cls.filter fun c => !c.pn).length ≤ 8
section
variable {n m : Nat} {B : Bd}
theorem bodyOf_mem : ∀ {os : List Of} {o : Of}, (os.map Of.k).Nodup → o ∈ os → bodyOf os o.k = o.b
  | [], o, _, h => by simp at h
  | x :: os, o, nd, h => by
    rw [List.map_cons, List.nodup_cons] at nd
    unfold bodyOf
    rw [List.find?_cons]
    rcases List.mem_cons.mp h with e | h
    · subst e; simp
    · have : x.k ≠ o.k := fun e => nd.1 (by rw [e]; exact List.mem_map_of_mem h)
      simp only [this, decide_false]
      exact bodyOf_mem nd.2 h
theorem bodyOf_put {os : List Of} {k j : Int} {b : List Int} (h : j ≠ k) : bodyOf (putBody k b os) j = bodyOf os j := by
  unfold bodyOf putBody
  induction os with
  | nil => rfl
  | cons o os ih =>
    rw [List.map_cons, List.find?_cons, List.find?_cons]
    by_cases e : o.k = j
    · have : o.k ≠ k := by omega
      simp [e, h]
    · by_cases e2 : o.k = k
      · simp only [e2, if_true]
        rw [decide_eq_false (by omega)]
        exact ih
      · simp only [e2, if_false, e, decide_false]
        exact ih
theorem bodyOf_drop {os : List Of} {k j : Int} (h : j ≠ k) : bodyOf (dropK k os) j = bodyOf os j := by
  unfold bodyOf dropK
  induction os with
  | nil => rfl
  | cons o os ih =>
    rw [List.filter_cons, List.find?_cons]
    by_cases e : o.k = k
    · have : o.k ≠ j := by omega
      simp only [e, ne_eq, not_true, decide_false, Bool.false_eq_true, if_false]
      rw [decide_eq_false (by omega)]
      exact ih
    · simp only [e, ne_eq, not_false_eq_true, decide_true, if_true]
      rw [List.find?_cons]
      by_cases e2 : o.k = j
      · simp [e2]
      · simp only [e2, decide_false]
        exact ih
theorem put_keys' {os : List Of} {k : Int} {b : List Int} : (putBody k b os).map Of.k = os.map Of.k := by
  unfold putBody
  rw [List.map_map]
  exact List.map_congr_left fun o _ => by simp only [Function.comp]; split <;> rfl
theorem OfsW.put {os : List Of} {k : Int} {b : List Int} (h : OfsW os) (hb : BodOk b) : OfsW (putBody k b os) := by
  refine ⟨by rw [put_keys']; exact h.ks, by unfold putBody; rw [List.length_map]; exact h.len, fun o ho c hc => ?_⟩
  obtain ⟨x, hx, rfl⟩ := List.mem_map.mp ho
  by_cases e : x.k = k
  · rw [if_pos e] at hc; cases hc; exact hb
  · rw [if_neg e] at hc; exact h.bod x hx c hc
theorem RtOk.move {B' : Bd} {p : Pa} (h : RtOk B p) (ew : B'.ws = B.ws) (q : ∀ c, clipAt B p.cl = some c → bodyOf c.os (hdR p) = none → hdR p ∈ c.os.map Of.k → ∃ c', clipAt B' p.cl = some c' ∧ hdR p ∈ c'.os.map Of.k ∧ bodyOf c'.os (hdR p) = none ∧ ∀ x ∈ c.ak, x ∈ c'.ak) : RtOk B' p := by
  obtain ⟨ch, c, h1, h2, h3, h4, h5⟩ := h
  have e : hdR p = ch.r.getD 0 0 := by unfold hdR; rw [h1]; rfl
  obtain ⟨c', q1, q2, q3, q4⟩ := q c h2 (by rw [e]; exact h4) (by rw [e]; exact h3.hd)
  rw [e] at q2 q3
  exact ⟨ch, c', h1, q1, ⟨h3.ne, q2, h3.ls, by rw [ew]; exact h3.path, h3.len⟩, q3, q4 _ h5⟩
theorem RtOk.hd {p : Pa} (h : RtOk B p) : ∃ c, clipAt B p.cl = some c ∧ hdR p ∈ c.os.map Of.k ∧ bodyOf c.os (hdR p) = none ∧ hdR p ∈ c.ak := by
  obtain ⟨ch, c, h1, h2, h3, h4, h5⟩ := h
  have e : hdR p = ch.r.getD 0 0 := by unfold hdR; rw [h1]; rfl
  exact ⟨c, h2, by rw [e]; exact h3.hd, by rw [e]; exact h4, by rw [e]; exact h5⟩
/-- a paste's route -/
structure PaRt (ws : List Wy) (p : Pa) : Prop where
  ex : ∃ r, p.rt = some r ∧ r ≠ [] ∧ PathOk ws r ∧ r.length ≤ 11
theorem RtOk.rt {p : Pa} (h : RtOk B p) : PaRt B.ws p := by
  obtain ⟨ch, c, h1, h2, h3, h4, h5⟩ := h
  exact ⟨ch.r, h1, h3.ne, h3.path, h3.len⟩
theorem Half.all {p : Pa} (H : Half n m B []) (hp : p ∈ B.qu) : RtOk B p := by
  rcases H.rt p hp with h | h
  · cases h
  · exact h
theorem mapCl_inv {f : Cl → Cl} (I : InvC n m B) (fn : ∀ c, (f c).n = c.n) (fo : ∀ c ∈ B.cls, ClOk B (f c)) : InvC n m { B with cls := B.cls.map f } := by
  refine ⟨I.ws, I.rm, I.jo, I.nde, I.ek, I.ear, I.eyn, I.eyk, ?_, fun c hc => ?_, fun c hc => ?_, I.qs, I.qr, I.pa, I.cu, I.as, I.ql, by rw [List.length_map]; exact I.cll⟩
  · rw [List.pairwise_map]
    exact I.cs.imp fun {a b} z => by rw [fn, fn]; exact z
  · obtain ⟨z, hz, rfl⟩ := List.mem_map.mp hc
    rw [fn]; exact I.cr z hz
  · obtain ⟨z, hz, rfl⟩ := List.mem_map.mp hc
    exact (fo z hz).keys rfl
theorem clipAt_mapB {f : Cl → Cl} (fn : ∀ c, (f c).n = c.n) (k : Int) : clipAt { B with cls := B.cls.map f } k = (clipAt B k).map f := clipAt_map fn rfl
theorem wait_nd {n k : Int} {a b : Nat} (I : InvC a b B) : ((waitB B n k).map Pa.n).Nodup := (nd_lt I.qs).sublist (List.filter_sublist.map _)
theorem make_half {c : Cl} {k : Int} {b : List Int} (H : Half n m B []) (hc : c ∈ B.cls) (hb : BodOk b) : Half n m (setOs B c.n (putBody k b)) (waitB B c.n k) := by
  have I := H.c
  have fn : ∀ x : Cl, (if x.n = c.n then { x with os := putBody k b x.os } else x).n = x.n := fun x => by split <;> rfl
  refine ⟨mapCl_inv I fn fun x hx => ?_, fun p hp => (List.mem_filter.mp hp).1, wait_nd I, fun p hp => ?_⟩
  · have C := I.cl x hx
    split
    · refine ⟨C.os.put hb, C.ow, fun f hf hfb => ?_, C.akn, C.akl, C.akh⟩
      obtain ⟨o, ho, rfl⟩ := List.mem_map.mp hf
      by_cases e : o.k = k
      · rw [if_pos e] at hfb; cases hfb
      · rw [if_neg e] at hfb; exact C.op o ho hfb
    · exact C
  · by_cases hw : p ∈ waitB B c.n k
    · exact .inl hw
    · refine .inr ((H.all hp).move rfl fun d h1 h2 h3 => ?_)
      refine ⟨_, by unfold setOs; rw [clipAt_mapB fn, h1]; rfl, ?_⟩
      dsimp only
      by_cases e : d.n = c.n
      · rw [if_pos e]
        have hk : hdR p ≠ k := fun z => hw (List.mem_filter.mpr ⟨hp, by
          have := (clipAt_mem h1).2
          rw [Bool.and_eq_true, decide_eq_true_eq, decide_eq_true_eq]
          exact ⟨by rw [← this]; exact e, z⟩⟩)
        exact ⟨by show _ ∈ (putBody k b d.os).map Of.k; rw [put_keys']; exact h3, by show bodyOf (putBody k b d.os) _ = _; rw [bodyOf_put hk]; exact h2, fun x hx => hx⟩
      · rw [if_neg e]
        exact ⟨h3, h2, fun x hx => hx⟩
theorem refuse_half {c : Cl} {k : Int} (H : Half n m B []) (hc : c ∈ B.cls) : Half n m (setOs B c.n (dropK k)) (waitB B c.n k) := by
  have I := H.c
  have fn : ∀ x : Cl, (if x.n = c.n then { x with os := dropK k x.os } else x).n = x.n := fun x => by split <;> rfl
  refine ⟨mapCl_inv I fn fun x hx => ?_, fun p hp => (List.mem_filter.mp hp).1, wait_nd I, fun p hp => ?_⟩
  · have C := I.cl x hx
    split
    · exact ⟨C.os.filter _, C.ow, fun f hf hfb => C.op f (List.mem_filter.mp hf).1 hfb, C.akn, C.akl, C.akh⟩
    · exact C
  · by_cases hw : p ∈ waitB B c.n k
    · exact .inl hw
    · refine .inr ((H.all hp).move rfl fun d h1 h2 h3 => ?_)
      refine ⟨_, by unfold setOs; rw [clipAt_mapB fn, h1]; rfl, ?_⟩
      dsimp only
      by_cases e : d.n = c.n
      · rw [if_pos e]
        have hk : hdR p ≠ k := fun z => hw (List.mem_filter.mpr ⟨hp, by
          have := (clipAt_mem h1).2
          rw [Bool.and_eq_true, decide_eq_true_eq, decide_eq_true_eq]
          exact ⟨by rw [← this]; exact e, z⟩⟩)
        refine ⟨?_, by show bodyOf (dropK k d.os) _ = _; rw [bodyOf_drop hk]; exact h2, fun x hx => hx⟩
        obtain ⟨o, ho, e2⟩ := List.mem_map.mp h3
        exact List.mem_map.mpr ⟨o, List.mem_filter.mpr ⟨ho, by rw [decide_eq_true_eq, e2]; exact hk⟩, e2⟩
      · rw [if_neg e]
        exact ⟨h3, h2, fun x hx => hx⟩
theorem keys_end {p : Int} : keysE (endB1 B p) = (keysE B).filter fun q => decide (q ≠ p) := by
  unfold keysE endB1
  simp only
  rw [List.filter_map]
  rfl
theorem endCl_n (p : Int) (c : Cl) : (endCl p c).n = c.n := by unfold endCl; split <;> rfl
theorem clipAt_end {p k : Int} : clipAt (endB1 B p) k = (clipAt B k).map (endCl p) := clipAt_map (endCl_n p) rfl
theorem end_half {p : Int} (H : Half n m B []) : Half n m (endB1 B p) ((endB1 B p).qu.filter (stale (endB1 B p))) := by
  have I := H.c
  have qs : (endB1 B p).qu.Sublist B.qu := List.filter_sublist
  have es : (endB1 B p).ears.Sublist B.ears := List.filter_sublist
  refine ⟨⟨I.ws, I.rm, I.jo, ?_, ?_, fun e he => ?_, I.eyn.sublist List.filter_sublist, fun q hq => ?_, ?_, fun c hc => ?_, fun c hc => ?_, I.qs.sublist qs, fun q hq => I.qr q (qs.subset hq), fun q hq => ?_, I.cu, I.as, ?_, ?_⟩, fun q hq => (List.mem_filter.mp hq).1, ?_, fun q hq => ?_⟩
  · rw [keys_end]; exact I.nde.sublist List.filter_sublist
  · rw [keys_end]; exact fun q hq => I.ek q (List.mem_filter.mp hq).1
  · have := I.ear e (es.subset he)
    have := qs.length_le
    omega
  · obtain ⟨h1, h2⟩ := List.mem_filter.mp hq
    rw [keys_end]
    exact List.mem_filter.mpr ⟨I.eyk q h1, h2⟩
  · show (B.cls.map (endCl p)).Pairwise _
    rw [List.pairwise_map]
    exact I.cs.imp fun {a b} z => by rw [endCl_n, endCl_n]; exact z
  · obtain ⟨z, hz, rfl⟩ := List.mem_map.mp (show c ∈ B.cls.map (endCl p) from hc)
    rw [endCl_n]; exact I.cr z hz
  · obtain ⟨z, hz, rfl⟩ := List.mem_map.mp (show c ∈ B.cls.map (endCl p) from hc)
    have C := I.cl z hz
    unfold endCl
    by_cases e : z.ow = some p
    · rw [if_pos e]
      refine ⟨C.os.filter _, nofun, fun f hf hfb => ?_, C.akn, C.akl, C.akh⟩
      have := (List.mem_filter.mp hf).2
      rw [hfb] at this; cases this
    · rw [if_neg e]
      refine ⟨C.os, fun o ho => ?_, C.op, C.akn, C.akl, C.akh⟩
      rw [keys_end]
      exact List.mem_filter.mpr ⟨C.ow o ho, by rw [decide_eq_true_eq]; intro z; subst z; exact e ho⟩
  · obtain ⟨h1, h2⟩ := List.mem_filter.mp (show q ∈ B.qu.filter _ from hq)
    rw [keys_end]
    exact ⟨List.mem_filter.mpr ⟨(I.pa q h1).1, h2⟩, (I.pa q h1).2⟩
  · have := qs.length_le; have := I.ql; omega
  · show (B.cls.map (endCl p)).length ≤ n
    rw [List.length_map]; exact I.cll
  · exact ((nd_lt I.qs).sublist (qs.map _)).sublist (List.filter_sublist.map _)
  · by_cases hst : stale (endB1 B p) q = true
    · exact .inl (List.mem_filter.mpr ⟨hq, hst⟩)
    · refine .inr ((H.all (qs.subset hq)).move rfl fun d h1 h2 h3 => ?_)
      refine ⟨endCl p d, by rw [clipAt_end, h1]; rfl, ?_⟩
      have C := I.cl d (clipAt_mem h1).1
      unfold stale at hst
      rw [clipAt_end, h1] at hst
      simp only [Option.map_some, Bool.not_eq_true', decide_eq_false_iff_not, Classical.not_not] at hst
      unfold endCl at hst ⊢
      by_cases e : d.ow = some p
      · rw [if_pos e] at hst
        exfalso
        obtain ⟨o, ho, e2⟩ := List.mem_map.mp hst
        obtain ⟨o1, o2⟩ := List.mem_filter.mp ho
        rw [← e2, bodyOf_mem C.os.ks.nd o1] at h2
        rw [h2] at o2; cases o2
      · rw [if_neg e]
        exact ⟨h3, h2, fun x hx => hx⟩
theorem make_fold {b : List Int} : ∀ {l : List Pa} {B : Bd}, Half n m B l → Half n m (l.foldl (makeAct b) B) []
  | [], B, H => H
  | p :: l, B, H => make_fold (l := l) (B := makeAct b B p) H.answer
theorem serve_fold : ∀ {l : List Pa} {B : Bd} {m : Nat}, Half n m B l → (∀ p ∈ l, ∃ c, clipAt B p.cl = some c) → Half n (m + l.length) (l.foldl serveB B) []
  | [], B, m, H, _ => H
  | p :: l, B, m, H, hk => by
    obtain ⟨c, hc⟩ := hk p List.mem_cons_self
    obtain ⟨H1, F⟩ := H.serve hc
    have := serve_fold (l := l) H1 fun q hq => by
      obtain ⟨d, hd⟩ := hk q (List.mem_cons_of_mem _ hq)
      obtain ⟨d', h1, _⟩ := F.cl _ _ hd
      exact ⟨d', h1⟩
    rw [List.length_cons, Nat.add_comm l.length 1, ← Nat.add_assoc]
    exact this
theorem news_mem {ears : List (Int × List Ev)} {eyes : List Int} {p c : Int} {y : Int × List Ev} (h : y ∈ newsE ears eyes p c) : ∃ x ∈ ears, x.1 = y.1 ∧ y.2.length ≤ x.2.length + 1 := by
  obtain ⟨x, hx, rfl⟩ := List.mem_map.mp h
  refine ⟨x, hx, ?_⟩
  split
  · exact ⟨rfl, by simp⟩
  · exact ⟨rfl, by omega⟩
theorem news_fst {ears : List (Int × List Ev)} {eyes : List Int} {p c : Int} : (newsE ears eyes p c).map (·.1) = ears.map (·.1) := by
  unfold newsE
  rw [List.map_map]
  exact List.map_congr_left fun x _ => by simp only [Function.comp]; split <;> rfl
theorem clipAt_app {B' : Bd} {c : Cl} {k : Int} {d : Cl} (e : B'.cls = B.cls ++ [c]) (h : clipAt B k = some d) : clipAt B' k = some d := by
  unfold clipAt at h ⊢
  rw [e, List.find?_append, h]
  rfl
theorem cut_half {p : Int} {os : List Of} (H : Half n m B []) (hp : p ∈ keysE B) (ho : OfsOk os) : Half (n + 1) (m + 1) (cut1 B p os) [] := by
  have I := H.c
  have kk : keysE (cut1 B p os) = keysE B := news_fst
  refine ⟨⟨I.ws, I.rm, I.jo, by rw [kk]; exact I.nde, by rw [kk]; exact I.ek, fun e he => ?_, I.eyn, by rw [kk]; exact I.eyk, ?_, fun c hc => ?_, fun c hc => ?_, I.qs, I.qr, by rw [kk]; exact I.pa, ?_, ?_, ?_, ?_⟩, nofun, List.nodup_nil, fun q hq => .inr ?_⟩
  · obtain ⟨x, hx, _, hl⟩ := news_mem he
    have := I.ear x hx
    show e.2.length + B.qu.length ≤ m + 1
    omega
  · show (B.cls ++ [newCl B p os]).Pairwise _
    rw [List.pairwise_append]
    refine ⟨I.cs, List.pairwise_singleton _ _, fun a ha b hb => ?_⟩
    rw [List.mem_singleton] at hb
    subst hb
    exact (I.cr a ha).2
  · show 0 ≤ c.n ∧ c.n < B.cu + 1
    rcases List.mem_append.mp hc with h | h
    · have := I.cr c h; omega
    · rw [List.mem_singleton] at h
      subst h
      have := I.cu
      show 0 ≤ B.cu ∧ B.cu < B.cu + 1
      omega
  · rcases List.mem_append.mp hc with h | h
    · exact (I.cl c h).keys kk
    · rw [List.mem_singleton] at h
      subst h
      refine ⟨ho.w, fun o h => ?_, fun _ _ _ => ⟨p, rfl⟩, List.nodup_nil, nofun, nofun⟩
      rw [kk]
      cases h; exact hp
  · have := I.cu
    show 0 ≤ B.cu + 1 ∧ B.cu + 1 ≤ ((n + 1 : Nat) : Int)
    omega
  · have := I.as
    show 0 ≤ B.as ∧ B.as ≤ ((n + 1 : Nat) : Int)
    omega
  · have := I.ql
    show B.qu.length ≤ n + 1
    omega
  · have := I.cll
    show (B.cls ++ [newCl B p os]).length ≤ n + 1
    simp; omega
  · exact (H.all hq).move rfl fun d h1 h2 h3 => ⟨d, clipAt_app rfl h1, h3, h2, fun x hx => hx⟩
theorem paste_half {p k : Int} {wa : List Int} (H : Half n m B []) (hp : p ∈ keysE B) (hw : KsOk wa) : Half (n + 1) (m + 1) (paste1 B p k wa) [newPa B p k wa] := by
  have I := H.c
  refine ⟨⟨I.ws, I.rm, I.jo, I.nde, I.ek, fun e he => ?_, I.eyn, I.eyk, I.cs, I.cr, fun c hc => (I.cl c hc).keys rfl, ?_, fun c hc => ?_, fun c hc => ?_, ?_, ?_, ?_, ?_⟩, fun q hq => ?_, by simp, fun q hq => ?_⟩
  · have := I.ear e he
    show e.2.length + (B.qu ++ [newPa B p k wa]).length ≤ m + 1
    simp; omega
  · show (B.qu ++ [newPa B p k wa]).Pairwise _
    rw [List.pairwise_append]
    refine ⟨I.qs, List.pairwise_singleton _ _, fun a ha b hb => ?_⟩
    rw [List.mem_singleton] at hb
    subst hb
    exact (I.qr a ha).2
  · show 0 ≤ c.n ∧ c.n < B.as + 1
    rcases List.mem_append.mp hc with h | h
    · have := I.qr c h; omega
    · rw [List.mem_singleton] at h
      subst h
      have := I.as
      show 0 ≤ B.as ∧ B.as < B.as + 1
      omega
  · rcases List.mem_append.mp hc with h | h
    · exact I.pa c h
    · rw [List.mem_singleton] at h
      subst h
      exact ⟨hp, hw⟩
  · have := I.cu
    show 0 ≤ B.cu ∧ B.cu ≤ ((n + 1 : Nat) : Int)
    omega
  · have := I.as
    show 0 ≤ B.as + 1 ∧ B.as + 1 ≤ ((n + 1 : Nat) : Int)
    omega
  · have := I.ql
    show (B.qu ++ [newPa B p k wa]).length ≤ n + 1
    simp; omega
  · have := I.cll
    show B.cls.length ≤ n + 1
    omega
  · exact List.mem_append_right _ hq
  · rcases List.mem_append.mp hq with h | h
    · exact .inr ((H.all h).move rfl fun d h1 h2 h3 => ⟨d, h1, h3, h2, fun x hx => hx⟩)
    · exact .inl h
theorem join_half (H : Half n m B []) (hj : B.jo ≠ 12) (hq : B.qu.length ≤ m) : Half n m (joinB B) [] := by
  have I := H.c
  have kk : keysE (joinB B) = keysE B ++ [B.jo] := by unfold keysE joinB; simp
  refine ⟨⟨I.ws, I.rm, ?_, ?_, ?_, fun e he => ?_, I.eyn, fun q hq => ?_, I.cs, I.cr, fun c hc => ?_, I.qs, I.qr, fun q hq => ?_, I.cu, I.as, I.ql, I.cll⟩, nofun, List.nodup_nil, fun q hq => .inr ?_⟩
  · have := I.jo
    show 0 ≤ B.jo + 1 ∧ B.jo + 1 ≤ 12
    omega
  · rw [kk, List.nodup_append]
    refine ⟨I.nde, by simp, fun a ha b hb => ?_⟩
    rw [List.mem_singleton] at hb
    subst hb
    have := I.ek a ha
    omega
  · rw [kk]
    intro q hq
    show 0 ≤ q ∧ q < B.jo + 1
    rcases List.mem_append.mp hq with h | h
    · have := I.ek q h; omega
    · rw [List.mem_singleton] at h
      have := I.jo
      omega
  · rcases List.mem_append.mp he with h | h
    · exact I.ear e h
    · rw [List.mem_singleton] at h
      subst h
      show 0 + B.qu.length ≤ m
      omega
  · rw [kk]; exact List.mem_append_left _ (I.eyk q hq)
  · have C := I.cl c hc
    exact ⟨C.os, fun o ho => by rw [kk]; exact List.mem_append_left _ (C.ow o ho), C.op, C.akn, C.akl, C.akh⟩
  · rw [kk]; exact ⟨List.mem_append_left _ (I.pa q hq).1, (I.pa q hq).2⟩
  · exact (H.all hq).move rfl fun d h1 h2 h3 => ⟨d, h1, h3, h2, fun x hx => hx⟩
theorem watch_half {p : Int} {on : Bool} (H : Half n m B []) (hp : p ∈ keysE B) : Half n m (watchB B p on) [] := by
  have I := H.c
  refine ⟨⟨I.ws, I.rm, I.jo, I.nde, I.ek, I.ear, ?_, fun q hq => ?_, I.cs, I.cr, fun c hc => (I.cl c hc).keys rfl, I.qs, I.qr, I.pa, I.cu, I.as, I.ql, I.cll⟩, nofun, List.nodup_nil, fun q hq => .inr ?_⟩
  · unfold watchB
    simp only
    split
    · split
      · exact I.eyn
      · rename_i h
        rw [List.nodup_append]
        refine ⟨I.eyn, by simp, fun a ha b hb => ?_⟩
        rw [List.mem_singleton] at hb
        subst hb
        intro e; subst e; exact h ha
    · exact I.eyn.sublist List.filter_sublist
  · unfold watchB at hq
    simp only at hq
    split at hq
    · split at hq
      · exact I.eyk q hq
      · rcases List.mem_append.mp hq with h | h
        · exact I.eyk q h
        · rw [List.mem_singleton] at h; subst h; exact hp
    · exact I.eyk q (List.mem_filter.mp hq).1
  · exact (H.all hq).move rfl fun d h1 h2 h3 => ⟨d, h1, h3, h2, fun x hx => hx⟩
theorem pn_half {k : Int} {on : Bool} (H : Half n m B []) : Half n m (setPn B k on) [] := by
  have I := H.c
  have fn : ∀ x : Cl, (if x.n = k then { x with pn := on } else x).n = x.n := fun x => by split <;> rfl
  refine ⟨mapCl_inv I fn fun x hx => ?_, nofun, List.nodup_nil, fun q hq => .inr ?_⟩
  · have C := I.cl x hx
    split
    · exact ⟨C.os, C.ow, C.op, C.akn, C.akl, C.akh⟩
    · exact C
  · refine (H.all hq).move rfl fun d h1 h2 h3 => ⟨_, by unfold setPn; rw [clipAt_mapB fn, h1]; rfl, ?_⟩
    dsimp only
    split <;> exact ⟨h3, h2, fun x hx => hx⟩
end
end Mm
namespace Mm
theorem len_st {b : List Int} {hs : Hs} : vLen [.st (zi b)] hs = .ok (.int (b.length : Nat)) hs := by
  rw [vlen_of (d := .st (zi b)) (ds := zi b) rfl]; simp
theorem isBodyS_eq {b : List Int} {hs : Hs} (h : BodOk b) : c_is_body [.st (zi b)] hs = .ok (.bl true) hs := by
  refine T_callP rfl rfl fun N V h1 _ _ _ => ?_
  have e1 : vIsi [.st (zi b), .ty "tuple"] hs = .ok (.bl true) hs := rfl
  have e2 : vGt (.int (b.length : Nat)) (.int 12) hs = .ok (.bl false) hs := by
    show R.ok (D.bl (decide ((12 : Int) < (b.length : Nat)))) hs = _
    have := h.len
    rw [decide_eq_false (by omega)]
  have ec : lcL none (Mm.gName 1) (tNot (tVal (eArgs c_is_between (aCons (eVar 1) (aCons (eC (.int 0)) (aCons (eC (.int 9)) aNil)))))) (eVar 1) (wipe [some (.st (zi b)), none] [1]) (zi b) [] hs = .ok (zi (b.filter fun _ => false)) hs := by
    have := h.len
    refine lc_zi (fun _ => false) b (by omega) fun x hx => ⟨[some (.st (zi b)), some (.int x)], rfl, ?_, fun z => by cases z⟩
    have h0 := h.lo x hx
    have h9 := h.hi x hx
    simp only [between_eq, h0, h9, decide_true, Bool.and_self, sSeq,ST_seq,sAsg,sPar,sExpr,sIf,sRet,sRetN,sNx,ST_bindS,eMeth,eArgs,aCons,aNil,eBin,eUn,eC,eVar,eAnd,eOr,eNot,eIf,tVal,tAnd,tOr,tNot,tYes,gName,gTup,gCons,gNil,gSub,aa',ab',T_bind,T_ok,ba',bb',bc',T_ite,ST_nx,ST_ret,ac',ad',ae',af',ag',if_true,if_false,ah']
  have z0 : ([] : List D).length ≤ 100000 := by simp
  have e3 : vEq (.l (zi ([] : List Int))) (.l []) hs = .ok (.bl true) hs := eq_lnil (ds := []) (by unfold okL; rfl)
  simp only [m_is_body, start,al',am',an',ao',List.replicate,aq',ar', e1, len_st, e2, eLc, iSeq, sSeq,ST_seq,sAsg,sPar,sExpr,sIf,sRet,sRetN,sNx,ST_bindS,eMeth,eArgs,aCons,aNil,eBin,eUn,eC,eVar,eAnd,eOr,eNot,eIf,tVal,tAnd,tOr,tNot,tYes,gName,gTup,gCons,gNil,gSub,aa',ab',T_bind,T_ok,ba',bb',bc',T_ite,ST_nx,ST_ret,ac',ad',ae',af',ag',if_true,if_false,ah']
  rw [ec]
  simp only [filt_f, vLst, if_pos z0, e3, sSeq,ST_seq,sAsg,sPar,sExpr,sIf,sRet,sRetN,sNx,ST_bindS,eMeth,eArgs,aCons,aNil,eBin,eUn,eC,eVar,eAnd,eOr,eNot,eIf,tVal,tAnd,tOr,tNot,tYes,gName,gTup,gCons,gNil,gSub,aa',ab',T_bind,T_ok,ba',bb',bc',T_ite,ST_nx,ST_ret,ac',ad',ae',af',ag',if_true,if_false,ah']
  exact h1
theorem needBodyS_eq {b : List Int} {hs : Hs} (h : BodOk b) : c_need_body [.st (zi b)] hs = .ok .non hs := by
  refine T_callP rfl rfl fun N V h1 h2 h3 h4 => ?_
  have e := isBodyS_eq (hs := hs) h
  simp only [m_need_body, start,al',am',an',ao',List.replicate,aq',ar', e, sSeq,ST_seq,sAsg,sPar,sExpr,sIf,sRet,sRetN,sNx,ST_bindS,eMeth,eArgs,aCons,aNil,eBin,eUn,eC,eVar,eAnd,eOr,eNot,eIf,tVal,tAnd,tOr,tNot,tYes,gName,gTup,gCons,gNil,gSub,aa',ab',T_bind,T_ok,ba',bb',bc',T_ite,ST_nx,ST_ret,ac',ad',ae',af',ag',if_true,if_false,ah']
  exact h3 rfl _
end Mm
namespace Mm
inductive Sp where
  | join | fin (p : Int) | watch (p : Int) (on : Bool) | cut (p : Int) (os : List Of) | pin (n : Int) (on : Bool) | paste (p : Int) (w : Option Int) (wa : List Int)
  | make (p n k : Int) (b : List Int) | refuse (p n k : Int) | heard (p : Int) | least (p : Int)
inductive Rs where
  | no | non | num (i : Int) | evs (es : List Ev) | rows (l : List (Int × List Int))
def RsR : Rs → D → Prop
  | .no, d => d = .str "no"
  | .non, d => d = .non
  | .num i, d => d = .int i
  | .evs es, d => ∃ ds, d = .l ds ∧ EvsR es ds
  | .rows l, d => d = .l (l.map fun r => .t [.int r.1, tz r.2])
def targetB (B : Bd) (w : Option Int) : Option Cl := match w with
  | some n => clipAt B n
  | none => B.cls.getLast?.bind fun c => clipAt B c.n
def openAt (B : Bd) (p n k : Int) : Option Cl := if p ∈ keysE B then (clipAt B n).filter fun c => decide (c.ow = some p) && decide (k ∈ c.os.map Of.k) && (bodyOf c.os k).isNone else none
def leastB (B : Bd) (p : Int) : List (Int × List Int) := (B.cls.filter fun c => decide (c.ow = some p)).map fun c => (c.n, fewO B.ws c.os)
def stepB (B : Bd) : Sp → Bd × Rs
  | .join => if B.jo = 12 then (B, .no) else (joinB B, .num B.jo)
  | .fin p => if p ∈ keysE B then (endB B p, .non) else (B, .no)
  | .watch p on => if p ∈ keysE B then (watchB B p on, .non) else (B, .no)
  | .cut p os => if p ∈ keysE B then (cutB B p os, .num B.cu) else (B, .no)
  | .pin n on => match clipAt B n with
    | none => (B, .no)
    | some c => (pinB B c.n on, .non)
  | .paste p w wa => if p ∈ keysE B then (match targetB B w with
    | none => (B, .no)
    | some c => (pasteB B p c.n wa, .num B.as)) else (B, .no)
  | .make p n k b => match openAt B p n k with
    | none => (B, .no)
    | some c => (makeB B c.n k b, .non)
  | .refuse p n k => match openAt B p n k with
    | none => (B, .no)
    | some c => (refuseB B c.n k, .non)
  | .heard p => match B.ears.find? fun e => decide (e.1 = p) with
    | none => (B, .no)
    | some e => (B, .evs e.2)
  | .least p => if p ∈ keysE B then (B, .rows (leastB B p)) else (B, .no)
abbrev exN : List Str := ["Full", "NoProgram", "NoClip", "NotOffered"]
/-- as FrP, of less: for a step as a whole -/
structure FrO (i : Nat) (L : Pl) (h : Rh) (L' : Pl) (h' : Rh) : Prop where
  out : ∀ r : Role, (r.1 ≠ i ∨ r.2.prog = false) → h' r = h r ∧ L' r = L r
  bd : L' (i, .bd) = L (i, .bd)
structure FrLO (i : Nat) (L : Pl) (h : Rh) (L' : Pl) (h' : Rh) : Prop where
  out : ∀ r : Role, (r.1 ≠ i ∨ r.2.law = false) → h' r = h r ∧ L' r = L r
  w : L' (i, .w) = L (i, .w)
theorem FrO.trans {i : Nat} {L L' L2 : Pl} {h h' h2 : Rh} (a : FrO i L h L' h') (b : FrO i L' h' L2 h2) : FrO i L h L2 h2 := ⟨fun r q => ⟨(b.out r q).1.trans (a.out r q).1, (b.out r q).2.trans (a.out r q).2⟩, b.bd.trans a.bd⟩
theorem FrLO.trans {i : Nat} {L L' L2 : Pl} {h h' h2 : Rh} (a : FrLO i L h L' h') (b : FrLO i L' h' L2 h2) : FrLO i L h L2 h2 := ⟨fun r q => ⟨(b.out r q).1.trans (a.out r q).1, (b.out r q).2.trans (a.out r q).2⟩, b.w.trans a.w⟩
def AfO (i : Nat) (L : Pl) (h : Rh) (hs' : Hs) (B' : Bd) : Prop := ∃ L' h', Rep L' h' hs' ∧ PB i L' h' B' ∧ FrO i L h L' h'
def AfLO (i : Nat) (L : Pl) (h : Rh) (hs' : Hs) (B' : Bd) : Prop := ∃ L' h', Rep L' h' hs' ∧ LB i L' h' B' ∧ FrLO i L h L' h'
theorem AfO.of {i : Nat} {L L1 : Pl} {h h1 : Rh} {hs' : Hs} {B' : Bd} (f : FrO i L h L1 h1) (a : AfO i L1 h1 hs' B') : AfO i L h hs' B' := by
  obtain ⟨L2, h2, a1, a2, a3⟩ := a
  exact ⟨L2, h2, a1, a2, f.trans a3⟩
theorem AfLO.of {i : Nat} {L L1 : Pl} {h h1 : Rh} {hs' : Hs} {B' : Bd} (f : FrLO i L h L1 h1) (a : AfLO i L1 h1 hs' B') : AfLO i L h hs' B' := by
  obtain ⟨L2, h2, a1, a2, a3⟩ := a
  exact ⟨L2, h2, a1, a2, f.trans a3⟩
theorem FrO.new {i : Nat} {L : Pl} {h : Rh} {q : Ro} (hq : q.prog = true) (hb : q ≠ .bd) (n : Nat) (o : O) : FrO i L h (upR L (i, q) n) (upR h (i, q) (some o)) := by
  refine ⟨fun r z => ?_, upR_ne (by simpa using fun e : Ro.bd = q => hb e.symm)⟩
  have hr : r ≠ (i, q) := by
    rintro rfl
    rcases z with z | z
    · exact z rfl
    · rw [hq] at z; cases z
  exact ⟨upR_ne hr, upR_ne hr⟩
theorem FrLO.new {i : Nat} {L : Pl} {h : Rh} {q : Ro} (hq : q.law = true) (hb : q ≠ .w) (n : Nat) (o : O) : FrLO i L h (upR L (i, q) n) (upR h (i, q) (some o)) := by
  refine ⟨fun r z => ?_, upR_ne (by simpa using fun e : Ro.w = q => hb e.symm)⟩
  have hr : r ≠ (i, q) := by
    rintro rfl
    rcases z with z | z
    · exact z rfl
    · rw [hq] at z; cases z
  exact ⟨upR_ne hr, upR_ne hr⟩
def OkP (i : Nat) (L : Pl) (h : Rh) (B : Bd) (s : Sp) : D → Hs → Prop := fun d hs' => RsR (stepB B s).2 d ∧ AfO i L h hs' (stepB B s).1
def NoP (hs : Hs) (B : Bd) (s : Sp) : Str → Hs → Prop := fun c hs' => c ∈ exN ∧ stepB B s = (B, .no) ∧ hs' = hs
section
variable {i n m : Nat} {L L' : Pl} {h h' : Rh} {hs : Hs} {B : Bd}
theorem OkP.of {s : Sp} {B' : Bd} {r : Rs} {d : D} {hs' : Hs} (e : stepB B s = (B', r)) (q1 : RsR r d) (q2 : AfO i L h hs' B') : OkP i L h B s d hs' := by
  unfold OkP; rw [e]; exact ⟨q1, q2⟩
theorem AfO.same (Z : Rep L h hs) (P : PB i L h B) : AfO i L h hs B := ⟨L, h, Z, P, fun _ _ => ⟨rfl, rfl⟩, rfl⟩
end
end Mm
namespace Mm
section
variable {i n m : Nat} {L L' : Pl} {h h' : Rh} {hs : Hs} {B : Bd}
theorem told_eq {c : Cl} (Z : Rep L h hs) (P : PB i L h B) (I : InvC n m B) (hc : c ∈ B.cls) : c_Clip_told [.loc (L (i, .cl c.n))] hs = .ok (.t [.int c.n, owD c.ow, .t (c.os.map fun o => .t [.int o.k, .bl o.b.isSome]), .bl c.pn]) hs := by
  refine eq_of_T (T_callA rfl ?_)
  have C := P.cl c hc
  have CO := (I.cl c hc).os
  have a1 := Z.fld (f := "number") (cs := ["Clip", "Paste"]) (d := .int c.n) C.cl rfl (by simp)
  have a2 := Z.fld (f := "owner") (cs := ["Clip"]) (d := owD c.ow) C.cl rfl (by simp)
  have a3 := Z.fld (f := "pinned") (cs := ["Clip"]) (d := .bl c.pn) C.cl rfl (by simp)
  have g1 := Z.fld (f := "kinds") (cs := ["Clip"]) (d := .loc (L (i, .ks c.n))) C.cl rfl (by simp)
  have g2 := Z.fld (f := "bodies") (cs := ["Clip"]) (d := .loc (L (i, .bo c.n))) C.cl rfl (by simp)
  obtain ⟨bs, b1, b2, b3⟩ := C.bo
  have ek : zi (c.os.map Of.k) = c.os.map fun o => D.int o.k := by simp [zi]
  have w1 : iSeq (eUn (vFld ["Clip"] "kinds") (eVar 0)) [some (.loc (L (i, .cl c.n))), none, none] hs = .ok (c.os.map fun o => D.int o.k, some (L (i, .ks c.n), zi (c.os.map Of.k))) hs := by
    rw [Z.walk C.ks (eUn (vFld ["Clip"] "kinds") (eVar 0)) _ (by simp only [eUn, eVar, List.getElem?_cons_zero, R.bind_ok, g1]), ek]
  have lc := eLc_eq (own := [2]) (g := Mm.gName 2) (t := tYes) (e := eArgs vTup (aCons (eVar 2) (aCons (eBin vIn (eVar 2) (eUn (vFld ["Clip"] "bodies") (eVar 0))) aNil))) (fun _ => true) (fun o : Of => D.t [.int o.k, .bl o.b.isSome]) w1 (stL Z C.ks) (by have := CO.len; omega) fun o ho => ⟨_, rfl, rfl, fun _ => by
    have g3 := Z.inK (k := o.k) b1
    rw [dget_bo, b2, bodyOf_mem CO.ks.nd ho] at g3
    have e : (o.b.map fun b => D.st (zi b)).isSome = o.b.isSome := by cases o.b <;> rfl
    rw [e] at g3
    simp [eArgs, aCons, aNil, eUn, eBin, eVar, wipe, g2, g3, vTup]⟩
  rw [List.filter_eq_self.mpr (by simp)] at lc
  have t1 : vTuple [.l (c.os.map fun o => D.t [.int o.k, .bl o.b.isSome])] hs = .ok (.t (c.os.map fun o => .t [.int o.k, .bl o.b.isSome])) hs := rfl
  have t2 : ∀ a b c d : D, vTup [a, b, c, d] hs = .ok (.t [a, b, c, d]) hs := fun _ _ _ _ => by simp [vTup]
  unfold m_Clip_told
  simp only [sSeq,ST_seq,sAsg,sPar,sExpr,sIf,sRet,sRetN,sNx,ST_bindS,eMeth,eArgs,aCons,aNil,eBin,eUn,eC,eVar,eAnd,eOr,eNot,eIf,tVal,tAnd,tOr,tNot,tYes,gName,gTup,gCons,gNil,gSub,aa',ab',T_bind,T_ok,ba',bb',bc',T_ite,ST_nx,ST_ret,ac',ad',ae',af',ag',if_true,if_false,ah', start,al',am',an',ao',List.replicate,aq',ar', lc, t1, a1, a2, a3, t2]
  exact ⟨trivial, trivial⟩
def toldD (c : Cl) : D := .t [.int c.n, owD c.ow, .t (c.os.map fun o => .t [.int o.k, .bl o.b.isSome]), .bl c.pn]
theorem kept_eq (Z : Rep L h hs) (P : PB i L h B) (I : InvC n m B) (hn : n < 90000) : c_Board_kept [.loc (L (i, .bd))] hs = .ok (.l (B.cls.reverse.map toldD)) hs := by
  refine eq_of_T (T_callA rfl ?_)
  have g1 := P.fbd Z (f := "clips") (d := .loc (L (i, .cls)))
  have g2 : vRev (.loc (L (i, .cls))) hs = .ok (.l (B.cls.reverse.map fun c => .loc (L (i, .cl c.n)))) hs := by
    have e := Z.get _ _ P.cls
    unfold vRev listOf
    simp only [e, List.map_reverse]
  have w1 : iSeq (eUn vRev (eUn (vFld ["Board"] "clips") (eVar 0))) [some (.loc (L (i, .bd))), none] hs = .ok (B.cls.reverse.map fun c => .loc (L (i, .cl c.n)), none) hs := by
    simp only [iSeq, eUn, eVar, List.getElem?_cons_zero, R.bind_ok, g1, g2]
  have lc := eLc_eq (own := [1]) (g := Mm.gName 1) (t := tYes) (e := eMethO "Clip" "told" c_Clip_told (eVar 1) aNil) (fun _ => true) toldD w1 trivial (by rw [List.length_reverse]; have := I.cll; omega) fun c hc => ⟨_, rfl, rfl, fun _ => by
    have hc' := List.mem_reverse.mp hc
    have g3 := Z.ins (m := "told") (P.cl c hc').cl rfl
    have g4 := told_eq Z P I hc'
    simp [eMethO, eVar, aNil, wipe, g3, g4, toldD]⟩
  rw [List.filter_eq_self.mpr (by simp)] at lc
  unfold m_Board_kept
  simp only [sSeq,ST_seq,sAsg,sPar,sExpr,sIf,sRet,sRetN,sNx,ST_bindS,eMeth,eArgs,aCons,aNil,eBin,eUn,eC,eVar,eAnd,eOr,eNot,eIf,tVal,tAnd,tOr,tNot,tYes,gName,gTup,gCons,gNil,gSub,aa',ab',T_bind,T_ok,ba',bb',bc',T_ite,ST_nx,ST_ret,ac',ad',ae',af',ag',if_true,if_false,ah', start,al',am',an',ao',List.replicate,aq',ar', lc]
  exact ⟨trivial, trivial⟩
end
end Mm
namespace Mm
section
variable {i n m : Nat} {L L' : Pl} {h h' : Rh} {hs : Hs} {B : Bd}
theorem openAt_some {p c k : Int} {d : Cl} (e : openAt B p c k = some d) : p ∈ keysE B ∧ clipAt B c = some d ∧ d.ow = some p ∧ k ∈ d.os.map Of.k ∧ bodyOf d.os k = none := by
  unfold openAt at e
  split at e
  · rename_i hp
    cases hc : clipAt B c with
    | none => rw [hc] at e; cases e
    | some x =>
      rw [hc] at e
      simp only [Option.filter] at e
      split at e
      · rename_i q
        cases e
        simp only [Bool.and_eq_true, decide_eq_true_eq, Option.isNone_iff_eq_none] at q
        exact ⟨hp, rfl, q.1.1, q.1.2, q.2⟩
      · cases e
  · cases e
end
end Mm
namespace Mm
theorem RS.TX.imp {r : RS} {N N' : Fs → Hs → Prop} {V V' : D → Hs → Prop} {X X' : Str → Hs → Prop} (h : RS.TX r N V X) (q : ∀ fs hs, N fs hs → N' fs hs) (q' : ∀ d hs, V d hs → V' d hs) (x : ∀ c hs, X c hs → X' c hs) : RS.TX r N' V' X' := by
  cases r <;> first | exact q _ _ h | exact q' _ _ h | exact x _ _ h | exact h
section
variable {i n m : Nat} {L L' : Pl} {h h' : Rh} {hs : Hs} {B : Bd}
/-- what clips offer and who owns them stays -/
def Keeps (B B' : Bd) : Prop := ∀ k c, clipAt B k = some c → ∃ c', clipAt B' k = some c' ∧ c'.os = c.os ∧ c'.ow = c.ow ∧ c'.n = c.n
theorem Keeps.refl (B : Bd) : Keeps B B := fun k c h => ⟨c, h, rfl, rfl, rfl⟩
theorem SvF.keeps {B0 B B' : Bd} {p : Pa} (K : Keeps B0 B) (F : SvF B p B') : Keeps B0 B' := fun k c h => by
  obtain ⟨c1, a1, a2, a3, a4⟩ := K k c h
  obtain ⟨c2, b1, b2, b3, b4, b5, b6⟩ := F.cl _ _ a1
  exact ⟨c2, b1, b2.trans a2, b4.trans a3, b6.trans a4⟩
end
end Mm
namespace Mm
def OkL (i : Nat) (L : Pl) (h : Rh) (B : Bd) (s : Sp) : D → Hs → Prop := fun d hs' => RsR (stepB B s).2 d ∧ AfLO i L h hs' (stepB B s).1
section
variable {i n m : Nat} {L L' : Pl} {h h' : Rh} {hs : Hs} {B : Bd}
theorem OkL.of {s : Sp} {B' : Bd} {r : Rs} {d : D} {hs' : Hs} (e : stepB B s = (B', r)) (q1 : RsR r d) (q2 : AfLO i L h hs' B') : OkL i L h B s d hs' := by
  unfold OkL; rw [e]; exact ⟨q1, q2⟩
theorem AfLO.same (Z : Rep L h hs) (P : LB i L h B) : AfLO i L h hs B := ⟨L, h, Z, P, fun _ _ => ⟨rfl, rfl⟩, rfl⟩
end
end Mm
namespace Mm
structure SpOk (s : Sp) : Prop where
  cut : ∀ p os, s = .cut p os → OfsOk os
  paste : ∀ p w wa, s = .paste p w wa → KsOk wa
  make : ∀ p n k b, s = .make p n k b → 0 ≤ k ∧ k < 10 ∧ BodOk b
  refuse : ∀ p n k, s = .refuse p n k → 0 ≤ k ∧ k < 10
end Mm
namespace Mm
section
variable {i n m : Nat} {L L' : Pl} {h h' : Rh} {hs : Hs} {B : Bd}
theorem NoP.ok {s : Sp} {c : Str} {hs' : Hs} (Z : Rep L h hs) (P : PB i L h B) (q : NoP hs B s c hs') : OkP i L h B s (.str "no") hs' := by
  obtain ⟨q1, q2, rfl⟩ := q
  exact OkP.of q2 rfl (.same Z P)
def pns (B : Bd) : List Bool := B.cls.map Cl.pn
theorem un_pns : (B.cls.filter fun c => !c.pn).length = ((pns B).filter fun b => !b).length := by
  unfold pns
  rw [List.filter_map, List.length_map]
  rfl
theorem pns_ask {c : Cl} {k : Int} : pns (askB B c k) = pns B := by
  unfold askB
  split
  · rfl
  · unfold pns
    simp only [List.map_map]
    exact List.map_congr_left fun x _ => by simp only [Function.comp]; split <;> rfl
theorem pns_serve {p : Pa} : pns (serveB B p) = pns B := by
  unfold serveB
  split
  · rfl
  · split
    · rfl
    · split
      · rfl
      · split
        · rfl
        · rw [pns_ask]; rfl
theorem pns_serves : ∀ {l : List Pa} {B : Bd}, pns (l.foldl serveB B) = pns B
  | [], B => rfl
  | p :: l, B => by rw [List.foldl_cons, pns_serves, pns_serve]
theorem pns_makes {b : List Int} : ∀ {l : List Pa} {B : Bd}, pns (l.foldl (makeAct b) B) = pns B
  | [], B => rfl
  | p :: l, B => by rw [List.foldl_cons, pns_makes]; rfl
theorem pns_setOs {k : Int} {f : List Of → List Of} : pns (setOs B k f) = pns B := by
  unfold pns setOs
  simp only [List.map_map]
  exact List.map_congr_left fun x _ => by simp only [Function.comp]; split <;> rfl
theorem pns_end1 {p : Int} : pns (endB1 B p) = pns B := by
  unfold pns endB1
  simp only [List.map_map]
  exact List.map_congr_left fun x _ => by simp only [Function.comp]; unfold endCl; split <;> rfl
theorem none_rm' {k : Int} : (goneB B k).rm = B.rm := none_rm
theorem shrinkL_end : ∀ {l : List Cl} {B : Bd}, ((shrinkL B l).cls.length : Int) ≤ B.rm ∨ (shrinkL B l).cls = B.cls.filter fun c => decide (c.n ∉ l.map Cl.n)
  | [], B => .inr (by unfold shrinkL; rw [List.filter_eq_self.mpr (by simp)])
  | c :: l, B => by
    unfold shrinkL
    by_cases e : B.rm < (B.cls.length : Int)
    · rw [if_pos e]
      rcases shrinkL_end (l := l) (B := goneB B c.n) with h | h
      · left; rw [none_rm'] at h; exact h
      · right
        rw [h, gone_cls, List.filter_filter]
        refine List.filter_congr fun x _ => ?_
        by_cases e1 : x.n = c.n
        · simp [e1]
        · simp [e1]
    · rw [if_neg e]; left; omega
theorem shrink_un (I : InvC n m B) : ((shrinkB B).cls.filter fun c => !c.pn).length ≤ 8 := by
  rcases shrinkL_end (l := looseB B) (B := B) with h | h
  · have := List.length_filter_le (fun c : Cl => !c.pn) (shrinkB B).cls
    have := I.rm
    have h' : ((shrinkB B).cls.length : Int) ≤ B.rm := h
    omega
  · have h' : (shrinkB B).cls = B.cls.filter fun c => decide (c.n ∉ (looseB B).map Cl.n) := h
    rw [h']
    cases hb : B.cls.getLast? with
    | none =>
      rw [List.getLast?_eq_none_iff.mp hb]
      simp
    | some z =>
      have e : B.cls = B.cls.dropLast ++ [z] := by
        obtain ⟨ys, hys⟩ := List.getLast?_eq_some_iff.mp hb
        rw [hys]; simp
      rw [List.filter_filter]
      rw [e, List.filter_append, List.length_append]
      have e1 : B.cls.dropLast.filter (fun c => (!c.pn) && decide (c.n ∉ (looseB B).map Cl.n)) = [] := by
        rw [List.filter_eq_nil_iff]
        intro c hc q
        rw [Bool.and_eq_true, decide_eq_true_eq] at q
        exact q.2 (List.mem_map_of_mem (List.mem_filter.mpr ⟨hc, q.1⟩))
      rw [e1]
      have := List.length_filter_le (fun c : Cl => (!c.pn) && decide (c.n ∉ (looseB B).map Cl.n)) [z]
      simp at this ⊢
      omega
theorem InvB.up {n' m' : Nat} (V : InvB n m B) (hn : n ≤ n') (hm : m ≤ m') : InvB n' m' B := ⟨V.h.up hn hm, V.un⟩
theorem step_inv {s : Sp} (V : InvB n m B) (ok : SpOk s) : InvB (n + 1) (m + n + 2) (stepB B s).1 := by
  have H := V.h
  have I := H.c
  have same : InvB (n + 1) (m + n + 2) B := V.up (by omega) (by omega)
  have un : ∀ {B' : Bd}, pns B' = pns B → (B'.cls.filter fun c => !c.pn).length ≤ 8 := fun e => by rw [un_pns, e, ← un_pns]; exact V.un
  cases s with
  | join =>
    show InvB _ _ (if B.jo = 12 then (B, Rs.no) else (joinB B, .num B.jo)).1
    split
    · exact same
    · rename_i hj
      exact ⟨join_half (H.up (by omega) (by omega)) hj (by have := I.ql; omega), un rfl⟩
  | fin p =>
    show InvB _ _ (if p ∈ keysE B then (endB B p, Rs.non) else (B, .no)).1
    split
    · rename_i hp
      have H2 := end_half (p := p) H
      have hl : ((endB1 B p).qu.filter (stale (endB1 B p))).length ≤ n := Nat.le_trans (List.length_filter_le _ _) (Nat.le_trans (List.length_filter_le _ _) I.ql)
      refine ⟨(serve_fold H2 fun q hq => ?_).up (by omega) (by omega), un (by unfold endB; rw [pns_serves, pns_end1])⟩
      obtain ⟨c, c1, _⟩ := (H.all (List.mem_filter.mp (List.mem_filter.mp hq).1).1).hd
      exact ⟨_, by rw [clipAt_end, c1]; rfl⟩
    · exact same
  | watch p on =>
    show InvB _ _ (if p ∈ keysE B then (watchB B p on, Rs.non) else (B, .no)).1
    split
    · rename_i hp
      exact ⟨(watch_half H hp).up (by omega) (by omega), un rfl⟩
    · exact same
  | cut p os =>
    show InvB _ _ (if p ∈ keysE B then (cutB B p os, Rs.num B.cu) else (B, .no)).1
    split
    · rename_i hp
      have H2 := cut_half H hp (ok.cut p os rfl)
      exact ⟨(shrinkL_inv H2).up (by omega) (by omega), shrink_un H2.c⟩
    · exact same
  | pin k on =>
    show InvB _ _ (match clipAt B k with | none => (B, Rs.no) | some c => (pinB B c.n on, .non)).1
    split
    · exact same
    · rename_i c hc
      have H2 := pn_half (k := c.n) (on := on) H
      exact ⟨(shrinkL_inv H2).up (by omega) (by omega), shrink_un H2.c⟩
  | paste p w wa =>
    show InvB _ _ (if p ∈ keysE B then (match targetB B w with | none => (B, Rs.no) | some c => (pasteB B p c.n wa, .num B.as)) else (B, .no)).1
    split
    · rename_i hp
      split
      · exact same
      · rename_i c hc
        have hcc : clipAt B c.n = some c := by
          unfold targetB at hc
          cases w with
          | some k =>
            have hc' : clipAt B k = some c := hc
            rw [(clipAt_mem hc').2]; exact hc'
          | none =>
            have hc' : (B.cls.getLast?.bind fun c => clipAt B c.n) = some c := hc
            cases hl : B.cls.getLast? with
            | none => rw [hl] at hc'; cases hc'
            | some d =>
              rw [hl] at hc'
              have hc2 : clipAt B d.n = some c := hc'
              rw [(clipAt_mem hc2).2]; exact hc2
        have H2 := paste_half (k := c.n) H hp (ok.paste p w wa rfl)
        have H3 := (H2.serve (p := newPa B p c.n wa) (c := c) (show clipAt (paste1 B p c.n wa) c.n = some c from hcc)).1
        exact ⟨H3.up (by omega) (by omega), un (by unfold pasteB; rw [pns_serve]; rfl)⟩
    · exact same
  | make p c k b =>
    show InvB _ _ (match openAt B p c k with | none => (B, Rs.no) | some d => (makeB B d.n k b, .non)).1
    split
    · exact same
    · rename_i d hd
      obtain ⟨_, hcd, hdo, hdk, hdb⟩ := openAt_some hd
      have H2 := make_half (k := k) H (clipAt_mem hcd).1 (ok.make p c k b rfl).2.2
      exact ⟨(make_fold (b := b) H2).up (by omega) (by omega), un (by unfold makeB; rw [pns_makes, pns_setOs])⟩
  | refuse p c k =>
    show InvB _ _ (match openAt B p c k with | none => (B, Rs.no) | some d => (refuseB B d.n k, .non)).1
    split
    · exact same
    · rename_i d hd
      obtain ⟨_, hcd, hdo, hdk, hdb⟩ := openAt_some hd
      have H2 := refuse_half (k := k) H (clipAt_mem hcd).1
      have wl : (waitB B d.n k).length ≤ n := Nat.le_trans (List.length_filter_le _ _) I.ql
      refine ⟨(serve_fold H2 fun q hq => ?_).up (by omega) (by omega), un (by unfold refuseB; rw [pns_serves, pns_setOs])⟩
      have hq2 := (List.mem_filter.mp hq).2
      rw [Bool.and_eq_true, decide_eq_true_eq] at hq2
      rw [hq2.1]
      unfold setOs
      rw [clipAt_mapB (fun x => by split <;> rfl), clipAt_of I (clipAt_mem hcd).1]
      exact ⟨_, rfl⟩
  | heard p =>
    show InvB _ _ (match B.ears.find? fun e : Int × List Ev => decide (e.1 = p) with | none => (B, Rs.no) | some e => (B, .evs e.2)).1
    split <;> exact same
  | least p =>
    show InvB _ _ (if p ∈ keysE B then (B, Rs.rows (leastB B p)) else (B, .no)).1
    split <;> exact same
end
end Mm
namespace Mm
/-- only the dice change; more may be there -/
def DiN (hs hs' : Hs) : Prop := ∃ (ds ds' : List Int) (tl more : Hs), hs = .lst (zi ds) :: tl ∧ hs' = .lst (zi ds') :: (tl ++ more) ∧ 2 ≤ ds'.length
theorem DiN.trans {a b c : Hs} (h : DiN a b) (k : DiN b c) : DiN a c := by
  obtain ⟨d1, d2, t1, m1, rfl, rfl, l1⟩ := h
  obtain ⟨d3, d4, t3, m3, e, rfl, l3⟩ := k
  have e2 := (List.cons.inj e).2
  subst e2
  exact ⟨d1, d4, t1, m1 ++ m3, rfl, by simp, l3⟩
def DiY (hs : Hs) : Prop := ∃ (ds : List Int) (tl : Hs), hs = .lst (zi ds) :: tl ∧ 2 ≤ ds.length
theorem DiN.dy {a b : Hs} (h : DiN a b) : DiY b := by
  obtain ⟨d1, d2, t1, m1, rfl, rfl, l1⟩ := h
  exact ⟨_, _, rfl, l1⟩
theorem DiN.refl {a : Hs} (h : DiY a) : DiN a a := by
  obtain ⟨ds, tl, rfl, l⟩ := h
  exact ⟨ds, ds, tl, [], rfl, by simp, l⟩
theorem off_D {hs : Hs} {u : Int} {Q : D → Hs → Prop} (h : DiY hs) (hu : 0 < u) (hu2 : u < 1073741824) (hQ : ∀ (r : Int) (hs' : Hs), 0 ≤ r → r < u → DiN hs hs' → Q (.int r) hs') : (c_law_off [.loc 0, .int u] hs).T Q := by
  obtain ⟨ds, tl, rfl, l⟩ := h
  exact off_T l hu hu2 fun r ds' h0 h1 h2 => hQ r _ h0 h1 ⟨ds, ds', tl, [], rfl, by simp, h2⟩
theorem ways_D {hs : Hs} {Q : D → Hs → Prop} (h : DiY hs) (hQ : ∀ (ws : List Wy) (hs' : Hs), WaysOk ws → DiN hs hs' → Q (.l (ws.map wyD)) hs') : (c_law_ways [.loc 0] hs).T Q := by
  obtain ⟨ds, tl, rfl, l⟩ := h
  exact ways_T l fun ws ds' h1 h3 => hQ ws _ h1 ⟨ds, ds', tl, [], rfl, by simp, h3⟩
theorem bodyS_T {ds : List Int} {tl : Hs} (hd : 2 ≤ ds.length) {Q : D → Hs → Prop} (hQ : ∀ (b ds' : List Int), BodOk b → 2 ≤ ds'.length → Q (.st (zi b)) (.lst (zi ds') :: tl)) : (c_law_body_v2 [.loc 0] (.lst (zi ds) :: tl)).T Q := by
  refine T_callA rfl ?_
  have z2 : ∀ a b : D, ([a, b] : List D).length ≤ 100000 := fun _ _ => by simp
  simp only [m_law_body_v2, start,al',am',an',ao',List.replicate,aq',ar', vLst, z2, eLc, Mm.iRng1, sSeq,ST_seq,sAsg,sPar,sExpr,sIf,sRet,sRetN,sNx,ST_bindS,eMeth,eArgs,aCons,aNil,eBin,eUn,eC,eVar,eAnd,eOr,eNot,eIf,tVal,tAnd,tOr,tNot,tYes,gName,gTup,gCons,gNil,gSub,aa',ab',T_bind,T_ok,ba',bb',bc',T_ite,ST_nx,ST_ret,ac',ad',ae',af',ag',if_true,if_false,ah']
  refine off_T hd (by decide) (by decide) fun r1 d1 q0 q1 hd1 => ?_
  refine ix_lit q0 (by simpa using q1) fun u hu => ?_
  obtain ⟨u, rfl, u0, u1⟩ : ∃ m : Int, u = .int m ∧ 0 < m ∧ m ≤ 13 := by
    simp at hu
    rcases hu with rfl | rfl <;> exact ⟨_, rfl, by decide, by decide⟩
  refine off_T hd1 u0 (by omega) fun n d2 n0 n1 hd2 => ?_
  have hlim : -lim ≤ n ∧ n ≤ lim := by unfold lim; omega
  simp only [int1, if_pos hlim, sSeq,ST_seq,sAsg,sPar,sExpr,sIf,sRet,sRetN,sNx,ST_bindS,eMeth,eArgs,aCons,aNil,eBin,eUn,eC,eVar,eAnd,eOr,eNot,eIf,tVal,tAnd,tOr,tNot,tYes,gName,gTup,gCons,gNil,gSub,aa',ab',T_bind,T_ok,ba',bb',bc',T_ite,ST_nx,ST_ret,ac',ad',ae',af',ag',if_true,if_false,ah']
  refine lc_dice (fun done acc => ∃ b : List Int, acc = zi b ∧ b.length = done.length ∧ (∀ d ∈ b, 0 ≤ d) ∧ ∀ d ∈ b, d ≤ 9) (rng 0 n.toNat) (by rw [rng_len]; omega) ⟨[], rfl, rfl, by simp, by simp⟩ (fun done x rest hx => ?_) hd2 fun out ds' hp hd' => ?_
  · refine ⟨[some (.loc 0), some x], fun _ => rfl, fun ds hds acc hp => ?_⟩
    obtain ⟨b, rfl, hl, h0, h9⟩ := hp
    simp only [sSeq,ST_seq,sAsg,sPar,sExpr,sIf,sRet,sRetN,sNx,ST_bindS,eMeth,eArgs,aCons,aNil,eBin,eUn,eC,eVar,eAnd,eOr,eNot,eIf,tVal,tAnd,tOr,tNot,tYes,gName,gTup,gCons,gNil,gSub,aa',ab',T_bind,T_ok,ba',bb',bc',T_ite,ST_nx,ST_ret,ac',ad',ae',af',ag',if_true,if_false,ah']
    refine off_T hds (by decide) (by decide) fun r d3 r0 r1 hd3 => ?_
    refine ⟨d3, rfl, hd3, b ++ [r], by simp [zi], by simp [hl], fun d hd => ?_, fun d hd => ?_⟩
    · rcases List.mem_append.mp hd with z | z
      · exact h0 d z
      · have : d = r := by simpa using z
        omega
    · rcases List.mem_append.mp hd with z | z
      · exact h9 d z
      · have : d = r := by simpa using z
        omega
  · obtain ⟨b, rfl, hl, h0, h9⟩ := hp
    rw [rng_len] at hl
    have et : ∀ h, vTupleS [.l (zi b)] h = .ok (.st (zi b)) h := fun _ => rfl
    simp only [et, sSeq,ST_seq,sAsg,sPar,sExpr,sIf,sRet,sRetN,sNx,ST_bindS,eMeth,eArgs,aCons,aNil,eBin,eUn,eC,eVar,eAnd,eOr,eNot,eIf,tVal,tAnd,tOr,tNot,tYes,gName,gTup,gCons,gNil,gSub,aa',ab',T_bind,T_ok,ba',bb',bc',T_ite,ST_nx,ST_ret,ac',ad',ae',af',ag',if_true,if_false,ah']
    exact hQ b ds' ⟨by omega, h0, h9⟩ hd'
theorem bodyS_D {hs : Hs} {Q : D → Hs → Prop} (h : DiY hs) (hQ : ∀ (b : List Int) (hs' : Hs), BodOk b → DiN hs hs' → Q (.st (zi b)) hs') : (c_law_body_v2 [.loc 0] hs).T Q := by
  obtain ⟨ds, tl, rfl, l⟩ := h
  exact bodyS_T l fun b ds' h1 h3 => hQ b _ h1 ⟨ds, ds', tl, [], rfl, by simp, h3⟩
end Mm
namespace Mm
abbrev rD : Role := (0, .dice)
structure Dc (L : Pl) (h : Rh) (hs : Hs) : Prop where
  Z : Rep L h hs
  d0 : L rD = 0
  dc : ∃ ds : List Int, 2 ≤ ds.length ∧ h rD = some (.lst (zi ds))
theorem DiN.get {hs hs' : Hs} (d : DiN hs hs') {j : Nat} {o : O} (h : hs[j]? = some o) (hj : j ≠ 0) : hs'[j]? = some o := by
  obtain ⟨d1, d2, t, m, rfl, rfl, l⟩ := d
  cases j with
  | zero => exact absurd rfl hj
  | succ j =>
    simp only [List.getElem?_cons_succ] at h ⊢
    rw [List.getElem?_append_left (List.getElem?_eq_some_iff.mp h).1]
    exact h
section
variable {i n m : Nat} {L L' : Pl} {h h' : Rh} {hs hs' : Hs} {B : Bd}
theorem Dc.dice (S : Dc L h hs) (d : DiN hs hs') : ∃ h', Dc L h' hs' ∧ ∀ q, q ≠ rD → h' q = h q := by
  obtain ⟨ds, l, e⟩ := S.dc
  obtain ⟨d1, d2, t, m, rfl, rfl, l2⟩ := d
  have Z1 := S.Z.put e (.lst (zi d2))
  rw [S.d0] at Z1
  have Z2 := Z1.more m
  exact ⟨_, ⟨Z2, S.d0, d2, l2, upR_same _ _ _⟩, fun q hq => upR_ne hq⟩
theorem PB.dice (P : PB i L h B) (k : ∀ q, q ≠ rD → h' q = h q) : PB i L h' B := P.keep fun q hq => ⟨k _ (by intro e; have := congrArg Prod.snd e; simp only at this; subst this; cases hq), rfl⟩
theorem LB.dice (P : LB i L h B) (k : ∀ q, q ≠ rD → h' q = h q) : LB i L h' B := P.keep fun q hq => ⟨k _ (by intro e; have := congrArg Prod.snd e; simp only at this; subst this; cases hq), rfl⟩
/-- a board beside the dice: what a drawn step reads -/
structure Wb (i n m : Nat) (L : Pl) (h : Rh) (hs : Hs) (B : Bd) : Prop where
  d : Dc L h hs
  l : LB i L h B
  v : InvB n m B
theorem Wb.dice (S : Wb i n m L h hs B) (d : DiN hs hs') : ∃ h', Wb i n m L h' hs' B ∧ ∀ q, q ≠ rD → h' q = h q := by
  obtain ⟨h', D', k⟩ := S.d.dice d
  exact ⟨h', ⟨D', S.l.dice k, S.v⟩, k⟩
end
end Mm
namespace Mm
/-- alike, item by item -/
inductive AlL (hs : Hs) (n : Nat) : List D → List D → Prop
  | nil : AlL hs n [] []
  | cons {x y : D} {xs ys : List D} (h : Al hs n x y) (r : AlL hs n xs ys) : AlL hs n (x :: xs) (y :: ys)
theorem AlL.len {hs : Hs} {n : Nat} {xs ys : List D} (h : AlL hs n xs ys) : xs.length = ys.length := by
  induction h with
  | nil => rfl
  | cons _ _ ih => simp [ih]
theorem AlL.at {hs : Hs} {n : Nat} {xs ys : List D} (h : AlL hs n xs ys) : ∀ (i : Nat) (x y : D), xs[i]? = some x → ys[i]? = some y → Al hs n x y := by
  induction h with
  | nil => intro i x y e; simp at e
  | cons h r ih =>
    intro i x y e1 e2
    cases i with
    | zero =>
      simp only [List.getElem?_cons_zero, Option.some.injEq] at e1 e2
      subst e1; subst e2; exact h
    | succ i => exact ih i x y (by simpa using e1) (by simpa using e2)
theorem AlL.t {hs : Hs} {n : Nat} {xs ys : List D} (h : AlL hs n xs ys) (hl : ys.length < 95000) : Al hs (n + 1) (.t xs) (.t ys) := .tup h.len hl h.at
theorem AlL.l {hs : Hs} {n : Nat} {xs ys : List D} (h : AlL hs n xs ys) (hl : ys.length < 95000) : Al hs (n + 1) (.l xs) (.l ys) := .lst (.inl rfl) (.inl rfl) h.len hl h.at
theorem AlL.zi {hs : Hs} {n : Nat} : ∀ ns : List Int, AlL hs (n + 1) (Mm.zi ns) (Mm.zi ns)
  | [] => .nil
  | i :: ns => .cons (.int i) (AlL.zi ns)
theorem AlL.map {α : Type} {hs : Hs} {n : Nat} {f g : α → D} : ∀ {l : List α}, (∀ x ∈ l, Al hs n (f x) (g x)) → AlL hs n (l.map f) (l.map g)
  | [], _ => .nil
  | x :: l, h => .cons (h x List.mem_cons_self) (AlL.map fun y hy => h y (List.mem_cons_of_mem _ hy))
theorem al_body {hs : Hs} {n : Nat} {b : List Int} {x y : D} (hx : BtD x b) (hy : BtD y b) (hl : b.length < 95000) : Al hs (n + 2) x y := by
  have a : AlL hs (n + 1) (zi b) (zi b) := AlL.zi b
  exact .tupS hx hy rfl (by simpa using hl) a.at
def EvS : Ev → Prop
  | .bod _ _ b => b.length < 95000
  | _ => True
section
variable {i n m : Nat} {L L' : Pl} {h h' : Rh} {hs hs' : Hs} {B : Bd}
/-- both boards beside the dice -/
structure Wd2 (i n m : Nat) (L : Pl) (h : Rh) (hs : Hs) (B : Bd) : Prop where
  d : Dc L h hs
  p : PB i L h B
  l : LB i L h B
  v : InvB n m B
theorem Wd2.dice (S : Wd2 i n m L h hs B) (d : DiN hs hs') : ∃ h', Wd2 i n m L h' hs' B ∧ ∀ q, q ≠ rD → h' q = h q := by
  obtain ⟨h', D', k⟩ := S.d.dice d
  exact ⟨h', ⟨D', S.p.dice k, S.l.dice k, S.v⟩, k⟩
theorem Wd2.more (S : Wd2 i n m L h hs B) (x : Hs) : Wd2 i n m L h (hs ++ x) B := ⟨⟨S.d.Z.more x, S.d.d0, S.d.dc⟩, S.p, S.l, S.v⟩
theorem LB.frO {j : Nat} (P : LB j L h B) (f : FrO i L h L' h') : LB j L' h' B := P.keep fun q hq => f.out (j, q) (.inr (law_prog q hq))
theorem Dc.frO (S : Dc L h hs) (f : FrO i L h L' h') (Z : Rep L' h' hs') : Dc L' h' hs' := by
  obtain ⟨ds, l, e⟩ := S.dc
  have := f.out rD (.inr rfl)
  exact ⟨Z, this.2.trans S.d0, ds, l, this.1.trans e⟩
/-- all bodies that were heard are short -/
def EvB (B : Bd) : Prop := ∀ e ∈ B.ears, ∀ v ∈ e.2, EvS v
theorem ev_hear {ears : List (Int × List Ev)} {p : Int} {e : Ev} (h : ∀ x ∈ ears, ∀ v ∈ x.2, EvS v) (he : EvS e) : ∀ x ∈ hear ears p e, ∀ v ∈ x.2, EvS v := fun x hx v hv => by
  obtain ⟨z, hz, rfl⟩ := List.mem_map.mp (show x ∈ ears.map fun x => if x.1 = p then (x.1, x.2 ++ [e]) else x from hx)
  split at hv
  · rcases List.mem_append.mp hv with q | q
    · exact h z hz v q
    · rw [List.mem_singleton] at q; subst q; exact he
  · exact h z hz v hv
theorem ev_answer {p : Pa} {e : Ev} (h : EvB B) (he : EvS e) : EvB (answerB B p e) := ev_hear h he
theorem ev_ask {c : Cl} {k : Int} (h : EvB B) : EvB (askB B c k) := by
  unfold askB
  split
  · exact h
  · exact ev_hear h trivial
theorem along_short {ws : List Wy} {r b : List Int} (hb : b.length < 95000) : (alongB ws r b).length < 95000 := by
  have := stepsB_len ws r b (r.length - 1)
  unfold alongB
  omega
/-- clips' bodies are short -/
def BoB (B : Bd) : Prop := ∀ c ∈ B.cls, ∀ o ∈ c.os, ∀ b, o.b = some b → b.length < 95000
theorem InvC.bob (I : InvC n m B) : BoB B := fun c hc o ho b hb => by
  have := ((I.cl c hc).os.bod o ho b hb).len
  omega
theorem ev_serve {p : Pa} (h : EvB B) (hb : BoB B) : EvB (serveB B p) := by
  unfold serveB
  split
  · exact h
  · rename_i c hc
    split
    · exact ev_answer h trivial
    · split
      · rename_i b hbo
        refine ev_answer h (along_short ?_)
        unfold bodyOf at hbo
        cases hf : c.os.find? (fun o => decide (o.k = _)) with
        | none => rw [hf] at hbo; cases hbo
        | some o =>
          rw [hf] at hbo
          exact hb c (clipAt_mem hc).1 o (List.mem_of_find?_eq_some hf) b hbo
      · split
        · exact h
        · exact ev_ask h
theorem bo_ask {c : Cl} {k : Int} (hb : BoB B) : BoB (askB B c k) := by
  unfold askB
  split
  · exact hb
  · intro x hx
    obtain ⟨z, hz, rfl⟩ := List.mem_map.mp hx
    have : (if z.n = c.n then { z with ak := z.ak ++ [k] } else z : Cl).os = z.os := by split <;> rfl
    rw [this]
    exact hb z hz
theorem bo_serve {p : Pa} (hb : BoB B) : BoB (serveB B p) := by
  unfold serveB
  split
  · exact hb
  · split
    · exact hb
    · split
      · exact hb
      · split
        · exact hb
        · exact bo_ask hb
theorem ev_serves : ∀ {l : List Pa} {B : Bd}, EvB B → BoB B → EvB (l.foldl serveB B)
  | [], B, h, _ => h
  | p :: l, B, h, hb => ev_serves (l := l) (ev_serve h hb) (bo_serve hb)
theorem ev_makes {b : List Int} (hb : b.length < 95000) : ∀ {l : List Pa} {B : Bd}, EvB B → EvB (l.foldl (makeAct b) B)
  | [], B, h => h
  | p :: l, B, h => ev_makes hb (l := l) (ev_answer h (along_short hb))
theorem ev_nones : ∀ {l : List Pa} {B : Bd}, EvB B → EvB (noneAll B l)
  | [], B, h => h
  | p :: l, B, h => ev_nones (l := l) (ev_answer h trivial)
theorem ev_shrinkL : ∀ {l : List Cl} {B : Bd}, EvB B → EvB (shrinkL B l)
  | [], B, h => h
  | c :: l, B, h => by
    unfold shrinkL
    split
    · refine ev_shrinkL (l := l) ?_
      unfold goneB
      exact ev_nones h
    · exact h
theorem ev_news {p c : Int} {eyes : List Int} {ears : List (Int × List Ev)} (h : ∀ x ∈ ears, ∀ v ∈ x.2, EvS v) : ∀ x ∈ newsE ears eyes p c, ∀ v ∈ x.2, EvS v := fun x hx v hv => by
  obtain ⟨z, hz, rfl⟩ := List.mem_map.mp hx
  split at hv
  · rcases List.mem_append.mp hv with q | q
    · exact h z hz v q
    · rw [List.mem_singleton] at q; subst q; trivial
  · exact h z hz v hv
theorem ev_step {s : Sp} (h : EvB B) (V : InvB n m B) (ok : SpOk s) : EvB (stepB B s).1 := by
  have I := V.h.c
  cases s with
  | join =>
    show EvB (if B.jo = 12 then (B, Rs.no) else (joinB B, .num B.jo)).1
    split
    · exact h
    · intro e he
      rcases List.mem_append.mp he with q | q
      · exact h e q
      · rw [List.mem_singleton] at q; subst q; intro v hv; cases hv
  | fin p =>
    show EvB (if p ∈ keysE B then (endB B p, Rs.non) else (B, .no)).1
    split
    · have H2 := end_half (p := p) V.h
      exact ev_serves (fun e he => h e (List.mem_filter.mp he).1) H2.c.bob
    · exact h
  | watch p on =>
    show EvB (if p ∈ keysE B then (watchB B p on, Rs.non) else (B, .no)).1
    split <;> exact h
  | cut p os =>
    show EvB (if p ∈ keysE B then (cutB B p os, Rs.num B.cu) else (B, .no)).1
    split
    · exact ev_shrinkL (ev_news h)
    · exact h
  | pin k on =>
    show EvB (match clipAt B k with | none => (B, Rs.no) | some c => (pinB B c.n on, .non)).1
    split
    · exact h
    · exact ev_shrinkL h
  | paste p w wa =>
    show EvB (if p ∈ keysE B then (match targetB B w with | none => (B, Rs.no) | some c => (pasteB B p c.n wa, .num B.as)) else (B, .no)).1
    split
    · split
      · exact h
      · exact ev_serve h I.bob
    · exact h
  | make p c k b =>
    show EvB (match openAt B p c k with | none => (B, Rs.no) | some d => (makeB B d.n k b, .non)).1
    split
    · exact h
    · exact ev_makes (by have := (ok.make p c k b rfl).2.2.len; omega) h
  | refuse p c k =>
    show EvB (match openAt B p c k with | none => (B, Rs.no) | some d => (refuseB B d.n k, .non)).1
    split
    · exact h
    · rename_i d hd
      have H2 := refuse_half (k := k) V.h (clipAt_mem (openAt_some hd).2.1).1
      exact ev_serves h H2.c.bob
  | heard p =>
    show EvB (match B.ears.find? fun e : Int × List Ev => decide (e.1 = p) with | none => (B, Rs.no) | some e => (B, .evs e.2)).1
    split <;> exact h
  | least p =>
    show EvB (if p ∈ keysE B then (B, Rs.rows (leastB B p)) else (B, .no)).1
    split <;> exact h
end
end Mm
namespace Mm
/-- what stays beside the i-th board, program's and law's -/
structure FrB (i : Nat) (L : Pl) (h : Rh) (L' : Pl) (h' : Rh) : Prop where
  bd : L' (i, .bd) = L (i, .bd)
  w : L' (i, .w) = L (i, .w)
  out : ∀ r : Role, r.1 ≠ i → r ≠ rD → h' r = h r ∧ L' r = L r
theorem FrB.refl (i : Nat) (L : Pl) (h : Rh) : FrB i L h L h := ⟨rfl, rfl, fun _ _ _ => ⟨rfl, rfl⟩⟩
theorem FrB.trans {i : Nat} {L L' L2 : Pl} {h h' h2 : Rh} (a : FrB i L h L' h') (b : FrB i L' h' L2 h2) : FrB i L h L2 h2 := ⟨b.bd.trans a.bd, b.w.trans a.w, fun r q z => ⟨(b.out r q z).1.trans (a.out r q z).1, (b.out r q z).2.trans (a.out r q z).2⟩⟩
theorem FrB.dice {i : Nat} {L : Pl} {h h' : Rh} (k : ∀ q, q ≠ rD → h' q = h q) : FrB i L h L h' := ⟨rfl, rfl, fun r _ z => ⟨k r z, rfl⟩⟩
theorem FrO.b {i : Nat} {L L' : Pl} {h h' : Rh} (f : FrO i L h L' h') : FrB i L h L' h' := ⟨f.bd, (f.out (i, .w) (.inr rfl)).2, fun r q _ => f.out r (.inl q)⟩
theorem FrLO.b {i : Nat} {L L' : Pl} {h h' : Rh} (f : FrLO i L h L' h') : FrB i L h L' h' := ⟨(f.out (i, .bd) (.inr rfl)).2, f.w, fun r q _ => f.out r (.inl q)⟩
end Mm
namespace Mm
section
variable {i n m : Nat} {L L' : Pl} {h h' : Rh} {hs hs' : Hs} {B : Bd}
/-- heard changes nothing -/
theorem heard_eq {p : Int} {x : Int × List Ev} {ds : List D} (Z : Rep L h hs) (P : PB i L h B) (I : InvC n m B) (hx : x ∈ B.ears) (hxp : x.1 = p) (hd : h (i, .ear x.1) = some (.lst ds)) : c_Board_heard [.loc (L (i, .bd)), .int p] hs = .ok (.l ds) hs := by
  have hp : p ∈ keysE B := by rw [← hxp]; exact keyE_of hx
  have T : R.TX (c_Board_heard [.loc (L (i, .bd)), .int p] hs) (fun d h' => d = .l ds ∧ h' = hs) fun _ _ => False := by
    refine TX_callA rfl ?_
    have g0 := Z.ins (m := "need_program") P.bd rfl
    unfold m_Board_heard
    simp only [sSeq,SX_seq,sAsg,sPar,sExpr,sIf,sRet,sRetN,sNx,SX_bindS,eMeth,eArgs,aCons,aNil,eBin,eUn,eC,eVar,eAnd,eOr,eNot,eIf,tVal,tAnd,tOr,tNot,tYes,gName,gTup,gCons,gNil,gSub,aa',ab',TX_bind,TX_ok,ba',bb',bc',TX_ite,SX_nx,SX_ret,ac',ad',ae',af',ag',if_true,if_false,ah',SX_ite,SX_exc, start,al',am',an',ao',List.replicate,aq',ar', eMethO, g0, if_true]
    refine need_T Z P I.rng (fun _ => ?_) fun hq => hq hp
    have g1 := P.fbd Z (f := "ears") (d := .loc (L (i, .ears)))
    have g2 := Z.ixI (k := p) (d := .loc (L (i, .ear x.1))) P.ears (by
      have q := dget_ears (es := B.ears) (x := x) (f := fun e => D.loc (L (i, .ear e.1))) I.nde hx
      rw [hxp] at q ⊢
      exact q)
    have g3 : vList [.loc (L (i, .ear x.1))] hs = .ok (.l ds) hs := by
      have := Z.get _ _ hd
      unfold vList seqA seqOf
      simp [one1, this]
    simp only [sSeq,SX_seq,sAsg,sPar,sExpr,sIf,sRet,sRetN,sNx,SX_bindS,eMeth,eArgs,aCons,aNil,eBin,eUn,eC,eVar,eAnd,eOr,eNot,eIf,tVal,tAnd,tOr,tNot,tYes,gName,gTup,gCons,gNil,gSub,aa',ab',TX_bind,TX_ok,ba',bb',bc',TX_ite,SX_nx,SX_ret,ac',ad',ae',af',ag',if_true,if_false,ah',SX_ite,SX_exc, g1, g2, g3]
    first | exact ⟨rfl, rfl⟩ | exact ⟨trivial, rfl⟩ | exact ⟨trivial, trivial⟩ | exact ⟨rfl, trivial⟩
  obtain ⟨d, h', e, rfl, rfl⟩ := T.t.eq
  exact e
end
end Mm
namespace Mm
theorem okd_lst {ds : List D} {k : Nat} (h : ∀ d ∈ ds, okd k d = true) : okd (k + 1) (.l ds) = true := by rw [okd_l]; exact okL_all h
theorem okd_int {k : Nat} (j : Int) : okd k (.int j) = true := by unfold okd; rfl
def core (c : Cl) : Int × Option Int × List Of × Bool := (c.n, c.ow, c.os, c.pn)
def cores (B : Bd) : List (Int × Option Int × List Of × Bool) := B.cls.map core
theorem cores_ask {B : Bd} {c : Cl} {k : Int} : cores (askB B c k) = cores B := by
  unfold askB
  split
  · rfl
  · unfold cores
    simp only [List.map_map]
    exact List.map_congr_left fun x _ => by simp only [Function.comp]; split <;> rfl
theorem cores_serve {B : Bd} {p : Pa} : cores (serveB B p) = cores B := by
  unfold serveB
  split
  · rfl
  · split
    · rfl
    · split
      · rfl
      · split
        · rfl
        · rw [cores_ask]; rfl
theorem cores_serves : ∀ {l : List Pa} {B : Bd}, cores (l.foldl serveB B) = cores B
  | [], B => rfl
  | p :: l, B => by rw [List.foldl_cons, cores_serves, cores_serve]
end Mm
namespace Mm
/-- one paste is looked at, or one clip goes -/
inductive Act (B : Bd) : Bd → Prop
  | non {p : Pa} (hp : p ∈ B.qu) (h : clipAt B p.cl = none ∨ ∃ c, clipAt B p.cl = some c ∧ chosen B.ws (c.os.map Of.k) p.wa = none) : Act B (answerB B p (.non p.n))
  | bod {p : Pa} {c : Cl} {ch : Ch} {b : List Int} (hp : p ∈ B.qu) (hc : clipAt B p.cl = some c) (hh : chosen B.ws (c.os.map Of.k) p.wa = some ch) (hb : bodyOf c.os (ch.r.getD 0 0) = some b) : Act B (answerB B p (.bod p.n (ch.r.getD (ch.r.length - 1) 0) (alongB B.ws ch.r b)))
  | made {p : Pa} {c : Cl} {r b : List Int} (hp : p ∈ B.qu) (hc : clipAt B p.cl = some c) (hr : p.rt = some r) (hb : bodyOf c.os (hdR p) = some b) : Act B (makeAct b B p)
  | rt {p : Pa} {c : Cl} {ch : Ch} (hp : p ∈ B.qu) (hc : clipAt B p.cl = some c) (hh : chosen B.ws (c.os.map Of.k) p.wa = some ch) (hb : bodyOf c.os (ch.r.getD 0 0) = none) (hk : ch.r.getD 0 0 ∈ c.ak) : Act B (setRt B p.n ch.r)
  | ask {p : Pa} {c : Cl} {ch : Ch} {o : Int} (hp : p ∈ B.qu) (hc : clipAt B p.cl = some c) (hh : chosen B.ws (c.os.map Of.k) p.wa = some ch) (hb : bodyOf c.os (ch.r.getD 0 0) = none) (hk : ch.r.getD 0 0 ∉ c.ak) (ho : c.ow = some o) : Act B (askB (setRt B p.n ch.r) c (ch.r.getD 0 0))
  | drop {c : Cl} (hc : c ∈ B.cls) (hp : c.pn = false) : Act B (dropCl B c.n)
inductive Acts : Bd → Bd → Prop
  | nil (B : Bd) : Acts B B
  | cons {B B1 B2 : Bd} {n m : Nat} (I : InvC n m B) (a : Act B B1) (r : Acts B1 B2) : Acts B B2
theorem Acts.trans {A B C : Bd} (h : Acts A B) (k : Acts B C) : Acts A C := by
  induction h with
  | nil _ => exact k
  | cons I a _ ih => exact .cons I a (ih k)
theorem Acts.one {A B : Bd} {n m : Nat} (I : InvC n m A) (a : Act A B) : Acts A B := .cons I a (.nil _)
theorem Acts.keep {Φ : Bd → Prop} (h : ∀ {n m : Nat} {B B' : Bd}, InvC n m B → Act B B' → Φ B → Φ B') {A B : Bd} (k : Acts A B) : Φ A → Φ B := by
  induction k with
  | nil _ => exact id
  | cons I a _ ih => exact fun f => ih (h I a f)
section
variable {n m : Nat} {B : Bd}
theorem serve_act {p : Pa} {c : Cl} (I : InvC n m B) (hp : p ∈ B.qu) (hc : clipAt B p.cl = some c) : Act B (serveB B p) := by
  obtain ⟨hcm, hcn⟩ := clipAt_mem hc
  unfold serveB
  rw [hc]
  simp only
  cases hch : chosen B.ws (c.os.map Of.k) p.wa with
  | none => exact .non hp (.inr ⟨c, hc, hch⟩)
  | some ch =>
    simp only
    cases hbo : bodyOf c.os (ch.r.getD 0 0) with
    | some b => exact .bod hp hc hch hbo
    | none =>
      simp only
      split
      · rename_i hk
        exact .rt hp hc hch hbo hk
      · rename_i hk
        have CO := chosen_ok I.ws (I.cl c hcm).os.ks.k9 hch
        obtain ⟨f, hf, e⟩ := List.mem_map.mp CO.hd
        have hfb : f.b = none := by rw [← bodyOf_mem (I.cl c hcm).os.ks.nd hf, e]; exact hbo
        obtain ⟨o, ho⟩ := (I.cl c hcm).op f hf hfb
        exact .ask hp hc hch hbo hk ho
theorem serves_acts : ∀ {l : List Pa} {B : Bd} {m : Nat}, Half n m B l → (∀ p ∈ l, ∃ c, clipAt B p.cl = some c) → Acts B (l.foldl serveB B)
  | [], B, m, H, _ => .nil _
  | p :: l, B, m, H, hk => by
    obtain ⟨c, hc⟩ := hk p List.mem_cons_self
    obtain ⟨H1, F⟩ := H.serve hc
    exact .cons H.c (serve_act H.c (H.sub p List.mem_cons_self) hc) (serves_acts H1 fun q hq => by
      obtain ⟨d, hd⟩ := hk q (List.mem_cons_of_mem _ hq)
      obtain ⟨d', h1, _⟩ := F.cl _ _ hd
      exact ⟨d', h1⟩)
theorem nones_acts : ∀ {l : List Pa} {B : Bd}, Half n m B l → (∀ p ∈ l, clipAt B p.cl = none) → Acts B (noneAll B l)
  | [], B, H, _ => .nil _
  | p :: l, B, H, hk => .cons H.c (.non (H.sub p List.mem_cons_self) (.inl (hk p List.mem_cons_self))) (nones_acts (l := l) H.answer fun q hq => hk q (List.mem_cons_of_mem _ hq))
theorem clipAt_dropped {k : Int} : clipAt (dropCl B k) k = none := by
  unfold clipAt dropCl
  rw [List.find?_eq_none]
  intro c hc
  have := (List.mem_filter.mp hc).2
  simpa using this
theorem shrinkL_acts : ∀ {l : List Cl} {B : Bd}, Half n m B [] → (∀ c ∈ l, c ∈ B.cls ∧ c.pn = false) → (l.map Cl.n).Nodup → Acts B (shrinkL B l)
  | [], B, H, _, _ => .nil _
  | c :: l, B, H, hl, nd => by
    unfold shrinkL
    split
    · have H1 := drop_inv (k := c.n) H
      refine .cons H.c (.drop (hl c List.mem_cons_self).1 (hl c List.mem_cons_self).2) ((nones_acts H1 fun p hp => ?_).trans (shrinkL_acts (l := l) (gone_inv H) (fun d hd => ⟨?_, (hl d (List.mem_cons_of_mem _ hd)).2⟩) ?_))
      · have e : p.cl = c.n := by simpa using (List.mem_filter.mp hp).2
        rw [e]; exact clipAt_dropped
      · show d ∈ (goneB B c.n).cls
        rw [gone_cls]
        refine List.mem_filter.mpr ⟨(hl d (List.mem_cons_of_mem _ hd)).1, ?_⟩
        rw [decide_eq_true_eq]
        exact nodup_tail nd d hd
      · rw [List.map_cons, List.nodup_cons] at nd
        exact nd.2
    · exact .nil _
theorem loose_mem {c : Cl} (h : c ∈ looseB B) : c ∈ B.cls ∧ c.pn = false := by
  obtain ⟨h1, h2⟩ := List.mem_filter.mp h
  exact ⟨List.dropLast_subset _ h1, by simpa using h2⟩
theorem loose_nd (I : InvC n m B) : ((looseB B).map Cl.n).Nodup := by
  have : (looseB B).Sublist B.cls := List.filter_sublist.trans (List.dropLast_sublist _)
  exact (nd_lt I.cs).sublist (this.map _)
theorem shrink_acts (H : Half n m B []) : Acts B (shrinkB B) := shrinkL_acts H (fun c hc => loose_mem hc) (loose_nd H.c)
theorem bodyOf_put_self {os : List Of} {k : Int} {b : List Int} (h : k ∈ os.map Of.k) : bodyOf (putBody k b os) k = some b := by
  unfold bodyOf putBody
  induction os with
  | nil => cases h
  | cons o os ih =>
    rw [List.map_cons, List.find?_cons]
    by_cases e : o.k = k
    · simp [e]
    · have h' : k ∈ os.map Of.k := by
        rcases List.mem_cons.mp h with z | z
        · exact absurd z.symm e
        · exact z
      simp only [e, if_false, decide_false]
      exact ih h'
theorem makes_acts {b : List Int} : ∀ {l : List Pa} {B : Bd}, Half n m B l → (∀ p ∈ l, ∃ c r, clipAt B p.cl = some c ∧ p.rt = some r ∧ bodyOf c.os (hdR p) = some b) → Acts B (l.foldl (makeAct b) B)
  | [], B, H, _ => .nil _
  | p :: l, B, H, hk => by
    obtain ⟨c, r, h1, h2, h3⟩ := hk p List.mem_cons_self
    exact .cons H.c (.made (H.sub p List.mem_cons_self) h1 h2 h3) (makes_acts (l := l) (B := makeAct b B p) H.answer fun q hq => hk q (List.mem_cons_of_mem _ hq))
end
/-- a step's first act -/
inductive Big (B : Bd) : Sp → Bd → Prop
  | join (h : B.jo ≠ 12) : Big B .join (joinB B)
  | fin {p : Int} (h : p ∈ keysE B) : Big B (.fin p) (endB1 B p)
  | watch {p : Int} {on : Bool} (h : p ∈ keysE B) : Big B (.watch p on) (watchB B p on)
  | cut {p : Int} {os : List Of} (h : p ∈ keysE B) (ho : OfsOk os) : Big B (.cut p os) (cut1 B p os)
  | pin {k : Int} {on : Bool} {c : Cl} (h : clipAt B k = some c) : Big B (.pin k on) (setPn B c.n on)
  | paste {p : Int} {w : Option Int} {wa : List Int} {c : Cl} (h : p ∈ keysE B) (hc : targetB B w = some c) (hk : clipAt B c.n = some c) (hw : KsOk wa) : Big B (.paste p w wa) (paste1 B p c.n wa)
  | make {p k j : Int} {b : List Int} {c : Cl} (h : openAt B p k j = some c) (hb : BodOk b) : Big B (.make p k j b) (setOs B c.n (putBody j b))
  | refuse {p k j : Int} {c : Cl} (h : openAt B p k j = some c) : Big B (.refuse p k j) (setOs B c.n (dropK j))
  | heard {p : Int} (h : p ∈ keysE B) : Big B (.heard p) B
  | least {p : Int} (h : p ∈ keysE B) : Big B (.least p) B
section
variable {n m : Nat} {B : Bd}
theorem target_at {w : Option Int} {c : Cl} (hc : targetB B w = some c) : clipAt B c.n = some c := by
  unfold targetB at hc
  cases w with
  | some k =>
    have hc' : clipAt B k = some c := hc
    rw [(clipAt_mem hc').2]; exact hc'
  | none =>
    have hc' : (B.cls.getLast?.bind fun c => clipAt B c.n) = some c := hc
    cases hl : B.cls.getLast? with
    | none => rw [hl] at hc'; cases hc'
    | some d =>
      rw [hl] at hc'
      have hc2 : clipAt B d.n = some c := hc'
      rw [(clipAt_mem hc2).2]; exact hc2
theorem step_big {s : Sp} (V : InvB n m B) (ok : SpOk s) : ((stepB B s).2 = .no ∧ (stepB B s).1 = B) ∨ ((stepB B s).2 ≠ .no ∧ ∃ B1, Big B s B1 ∧ Acts B1 (stepB B s).1) := by
  have H := V.h
  have I := H.c
  cases s with
  | join =>
    have e : stepB B .join = if B.jo = 12 then (B, Rs.no) else (joinB B, .num B.jo) := rfl
    rw [e]
    split
    · exact .inl ⟨rfl, rfl⟩
    · rename_i hj
      exact .inr ⟨nofun, _, .join hj, .nil _⟩
  | fin p =>
    have e : stepB B (.fin p) = if p ∈ keysE B then (endB B p, Rs.non) else (B, .no) := rfl
    rw [e]
    split
    · rename_i hp
      refine .inr ⟨nofun, _, .fin hp, serves_acts (end_half (p := p) H) fun q hq => ?_⟩
      obtain ⟨c, c1, _⟩ := (H.all (List.mem_filter.mp (List.mem_filter.mp hq).1).1).hd
      exact ⟨_, by rw [clipAt_end, c1]; rfl⟩
    · exact .inl ⟨rfl, rfl⟩
  | watch p on =>
    have e : stepB B (.watch p on) = if p ∈ keysE B then (watchB B p on, Rs.non) else (B, .no) := rfl
    rw [e]
    split
    · rename_i hp
      exact .inr ⟨nofun, _, .watch hp, .nil _⟩
    · exact .inl ⟨rfl, rfl⟩
  | cut p os =>
    have e : stepB B (.cut p os) = if p ∈ keysE B then (cutB B p os, Rs.num B.cu) else (B, .no) := rfl
    rw [e]
    split
    · rename_i hp
      have ho := ok.cut p os rfl
      exact .inr ⟨nofun, _, .cut hp ho, shrink_acts (cut_half H hp ho)⟩
    · exact .inl ⟨rfl, rfl⟩
  | pin k on =>
    have e : stepB B (.pin k on) = match clipAt B k with | none => (B, Rs.no) | some c => (pinB B c.n on, .non) := rfl
    rw [e]
    cases hc : clipAt B k with
    | none => exact .inl ⟨rfl, rfl⟩
    | some c => exact .inr ⟨nofun, _, .pin hc, shrink_acts (pn_half H)⟩
  | paste p w wa =>
    have e : stepB B (.paste p w wa) = if p ∈ keysE B then (match targetB B w with | none => (B, Rs.no) | some c => (pasteB B p c.n wa, .num B.as)) else (B, .no) := rfl
    rw [e]
    split
    · rename_i hp
      cases hc : targetB B w with
      | none => exact .inl ⟨rfl, rfl⟩
      | some c =>
        have hw := ok.paste p w wa rfl
        have hk := target_at hc
        have H2 := paste_half (k := c.n) H hp hw
        exact .inr ⟨nofun, _, .paste hp hc hk hw, .one H2.c (serve_act H2.c (H2.sub _ List.mem_cons_self) (c := c) hk)⟩
    · exact .inl ⟨rfl, rfl⟩
  | make p k j b =>
    have e : stepB B (.make p k j b) = match openAt B p k j with | none => (B, Rs.no) | some d => (makeB B d.n j b, .non) := rfl
    rw [e]
    cases hd : openAt B p k j with
    | none => exact .inl ⟨rfl, rfl⟩
    | some d =>
      obtain ⟨_, hcd, hdo, hdk, hdb⟩ := openAt_some hd
      have hb := (ok.make p k j b rfl).2.2
      have H2 := make_half (k := j) H (clipAt_mem hcd).1 hb
      refine .inr ⟨nofun, _, .make hd hb, makes_acts H2 fun q hq => ?_⟩
      obtain ⟨hq1, hq2⟩ := List.mem_filter.mp hq
      rw [Bool.and_eq_true, decide_eq_true_eq, decide_eq_true_eq] at hq2
      obtain ⟨ch, c, r1, _⟩ := H.all hq1
      refine ⟨{ d with os := putBody j b d.os }, ch.r, ?_, r1, ?_⟩
      · rw [hq2.1]
        unfold setOs
        rw [clipAt_mapB (fun x => by split <;> rfl), clipAt_of I (clipAt_mem hcd).1]
        simp
      · show bodyOf (putBody j b d.os) (hdR q) = _
        rw [hq2.2]
        exact bodyOf_put_self hdk
  | refuse p k j =>
    have e : stepB B (.refuse p k j) = match openAt B p k j with | none => (B, Rs.no) | some d => (refuseB B d.n j, .non) := rfl
    rw [e]
    cases hd : openAt B p k j with
    | none => exact .inl ⟨rfl, rfl⟩
    | some d =>
      obtain ⟨_, hcd, hdo, hdk, hdb⟩ := openAt_some hd
      have H2 := refuse_half (k := j) H (clipAt_mem hcd).1
      refine .inr ⟨nofun, _, .refuse hd, serves_acts H2 fun q hq => ?_⟩
      have hq2 := (List.mem_filter.mp hq).2
      rw [Bool.and_eq_true, decide_eq_true_eq] at hq2
      rw [hq2.1]
      unfold setOs
      rw [clipAt_mapB (fun x => by split <;> rfl), clipAt_of I (clipAt_mem hcd).1]
      exact ⟨_, rfl⟩
  | heard p =>
    have e : stepB B (.heard p) = match B.ears.find? fun e : Int × List Ev => decide (e.1 = p) with | none => (B, Rs.no) | some e => (B, .evs e.2) := rfl
    rw [e]
    cases hd : B.ears.find? fun e : Int × List Ev => decide (e.1 = p) with
    | none => exact .inl ⟨rfl, rfl⟩
    | some x =>
      refine .inr ⟨nofun, _, .heard ?_, .nil _⟩
      have := List.find?_some hd
      rw [decide_eq_true_eq] at this
      rw [← this]
      exact List.mem_map_of_mem (List.mem_of_find?_eq_some hd)
  | least p =>
    have e : stepB B (.least p) = if p ∈ keysE B then (B, Rs.rows (leastB B p)) else (B, .no) := rfl
    rw [e]
    split
    · rename_i hp
      exact .inr ⟨nofun, _, .least hp, .nil _⟩
    · exact .inl ⟨rfl, rfl⟩
end
end Mm
namespace Mm
theorem inj_nd {α β : Type} {f : α → β} : ∀ {l : List α}, (l.map f).Nodup → ∀ {a b : α}, a ∈ l → b ∈ l → f a = f b → a = b
  | [], _, a, b, ha, _, _ => nomatch ha
  | x :: l, nd, a, b, ha, hb, e => by
    rw [List.map_cons, List.nodup_cons] at nd
    rcases List.mem_cons.mp ha with h1 | h1 <;> rcases List.mem_cons.mp hb with h2 | h2
    · rw [h1, h2]
    · exact absurd (by rw [← h1, e]; exact List.mem_map_of_mem h2) nd.1
    · exact absurd (by rw [← h2, ← e]; exact List.mem_map_of_mem h1) nd.1
    · exact inj_nd nd.2 h1 h2 e
section
variable {n m : Nat} {A B B' : Bd} {own : List (Int × Int)}
theorem hear_of {ears : List (Int × List Ev)} {p : Int} {e : Ev} {y : Int × List Ev} (h : y ∈ hear ears p e) : ∃ x ∈ ears, x.1 = y.1 ∧ y.2 = (if x.1 = p then x.2 ++ [e] else x.2) := by
  obtain ⟨x, hx, rfl⟩ := List.mem_map.mp (show y ∈ ears.map fun x => if x.1 = p then (x.1, x.2 ++ [e]) else x from h)
  refine ⟨x, hx, ?_⟩
  split <;> exact ⟨rfl, rfl⟩
structure Gr (A B : Bd) : Prop where
  pre : ∀ y ∈ B.ears, ∀ x ∈ A.ears, x.1 = y.1 → x.2 <+: y.2
  jo : A.jo ≤ B.jo
  ek : ∀ p ∈ keysE A, p < A.jo
theorem Gr.refl (I : InvC n m A) : Gr A A := ⟨fun y hy x hx e => by
  have nd := I.nde
  have : x = y := by
    unfold keysE at nd
    exact inj_nd nd hx hy e
  rw [this]
  exact List.prefix_refl _, Int.le_refl _, fun p hp => (I.ek p hp).2⟩
theorem Gr.hear {p : Int} {e : Ev} (G : Gr A B) {C : Bd} (he : C.ears = Mm.hear B.ears p e) (hj : C.jo = B.jo) : Gr A C := ⟨fun y hy x hx q => by
  rw [he] at hy
  obtain ⟨z, hz, z1, z2⟩ := hear_of hy
  have := G.pre z hz x hx (q.trans z1.symm)
  rw [z2]
  split
  · exact this.trans (List.prefix_append _ _)
  · exact this, by rw [hj]; exact G.jo, G.ek⟩
theorem Gr.sub (G : Gr A B) {C : Bd} (he : ∀ y ∈ C.ears, y ∈ B.ears) (hj : C.jo = B.jo) : Gr A C := ⟨fun y hy x hx q => G.pre y (he y hy) x hx q, by rw [hj]; exact G.jo, G.ek⟩
theorem ask_ears {c : Cl} {k o : Int} (ho : c.ow = some o) : askB B c k = { B with cls := B.cls.map (fun x => if x.n = c.n then { x with ak := x.ak ++ [k] } else x), ears := hear B.ears o (.make c.n k) } := by
  unfold askB
  rw [ho]
theorem Gr.act (a : Act B B') (G : Gr A B) : Gr A B' := by
  cases a with
  | non hp h => exact G.hear rfl rfl
  | bod hp hc hh hb => exact G.hear rfl rfl
  | made hp hc hr hb => exact G.hear rfl rfl
  | rt hp hc hh hb hk => exact G.sub (fun _ h => h) rfl
  | ask hp hc hh hb hk ho =>
    rw [ask_ears ho]
    exact G.hear rfl rfl
  | drop hc hp => exact G.sub (fun _ h => h) rfl
theorem Gr.big {s : Sp} (a : Big B s B') (G : Gr A B) : Gr A B' := by
  cases a with
  | join h => exact ⟨fun y hy x hx q => by
      rcases List.mem_append.mp hy with hy | hy
      · exact G.pre y hy x hx q
      · rw [List.mem_singleton] at hy
        subst hy
        have := G.ek x.1 (List.mem_map_of_mem hx)
        have := G.jo
        have q' : x.1 = B.jo := q
        omega, by have := G.jo; show A.jo ≤ B.jo + 1; omega, G.ek⟩
  | fin h => exact G.sub (fun y hy => (List.mem_filter.mp hy).1) rfl
  | watch h => exact G.sub (fun _ h => h) rfl
  | cut h ho => exact ⟨fun y hy x hx q => by
      obtain ⟨z, hz, e⟩ := List.mem_map.mp (show y ∈ newsE _ _ _ _ from hy)
      split at e
      · subst e
        exact (G.pre z hz x hx q).trans (List.prefix_append _ _)
      · subst e
        exact G.pre z hz x hx q, G.jo, G.ek⟩
  | pin h => exact G.sub (fun _ h => h) rfl
  | paste h hc hk hw => exact G.sub (fun _ h => h) rfl
  | make h hb => exact G.sub (fun _ h => h) rfl
  | refuse h => exact G.sub (fun _ h => h) rfl
  | heard h => exact G
  | least h => exact G
theorem Gr.step {s : Sp} (G : Gr A B) (V : InvB n m B) (ok : SpOk s) : Gr A (stepB B s).1 := by
  rcases step_big V ok with ⟨_, e⟩ | ⟨_, B1, b, a⟩
  · rw [e]; exact G
  · exact a.keep (fun _ q g => g.act q) (G.big b)
def ansN : Ev → Option Int
  | .non n => some n
  | .bod n _ _ => some n
  | _ => none
def waitsOf (B : Bd) (p : Int) : List Int := (B.qu.filter fun q => decide (q.pg = p)).map Pa.n
structure Once (own : List (Int × Int)) (B : Bd) : Prop where
  as : (own.length : Int) = B.as
  nu : own.map (·.1) = rgI own.length
  lt : ∀ x ∈ own, x.2 < B.jo
  once : ∀ e ∈ B.ears, (e.2.filterMap ansN ++ waitsOf B e.1).Perm ((own.filter fun x => decide (x.2 = e.1)).map (·.1))
  qo : ∀ q ∈ B.qu, (q.n, q.pg) ∈ own
theorem split_qu {qu : List Pa} {p : Pa} (nd : (qu.map Pa.n).Nodup) (hp : p ∈ qu) : qu.Perm (p :: qu.filter fun q => decide (q.n ≠ p.n)) := by
  induction qu with
  | nil => cases hp
  | cons x l ih =>
    rw [List.map_cons, List.nodup_cons] at nd
    rcases List.mem_cons.mp hp with rfl | hp
    · rw [List.filter_cons]
      simp only [ne_eq, not_true, decide_false, Bool.false_eq_true, if_false]
      rw [List.filter_eq_self.mpr fun y hy => by
        rw [decide_eq_true_eq]
        intro e
        exact nd.1 (by rw [← e]; exact List.mem_map_of_mem hy)]
    · have hx : x.n ≠ p.n := fun e => nd.1 (by rw [e]; exact List.mem_map_of_mem hp)
      rw [List.filter_cons, if_pos (by rw [decide_eq_true_eq]; exact hx)]
      exact ((ih nd.2 hp).cons x).trans (List.Perm.swap _ _ _)
theorem waits_answer {p : Pa} {e : Ev} (I : InvC n m B) (hp : p ∈ B.qu) (j : Int) : (waitsOf B j).Perm ((if p.pg = j then [p.n] else []) ++ waitsOf (answerB B p e) j) := by
  have h := split_qu (nd_lt I.qs) hp
  have h2 := (h.filter fun q => decide (q.pg = j)).map Pa.n
  unfold waitsOf
  refine h2.trans ?_
  rw [List.filter_cons]
  split
  · rename_i c
    rw [decide_eq_true_eq] at c
    rw [if_pos c]
    exact List.Perm.refl _
  · rename_i c
    rw [decide_eq_true_eq] at c
    rw [if_neg c]
    exact List.Perm.refl _
theorem Once.answer {p : Pa} {e : Ev} (O : Once own B) (I : InvC n m B) (hp : p ∈ B.qu) (he : ansN e = some p.n) : Once own (answerB B p e) := by
  refine ⟨O.as, O.nu, O.lt, fun y hy => ?_, fun q hq => O.qo q (List.mem_filter.mp hq).1⟩
  obtain ⟨x, hx, x1, x2⟩ := hear_of (show y ∈ hear B.ears p.pg e from hy)
  have o := O.once x hx
  rw [x1] at o
  refine List.Perm.trans ?_ o
  have w := waits_answer (e := e) I hp y.1
  refine List.Perm.trans ?_ (w.symm.append_left _)
  rw [x2]
  by_cases c : x.1 = p.pg
  · rw [if_pos c, if_pos (by rw [← x1]; exact c.symm), List.filterMap_append, List.append_assoc]
    simp [he]
  · rw [if_neg c, if_neg (by rw [← x1]; exact fun z => c z.symm)]
    exact List.Perm.refl _
theorem Once.same {C : Bd} (O : Once own B) (ha : C.as = B.as) (hj : C.jo = B.jo) (he : ∀ y ∈ C.ears, ∃ x ∈ B.ears, x.1 = y.1 ∧ y.2.filterMap ansN = x.2.filterMap ansN) (hq : C.qu.map (fun q => (q.n, q.pg)) = B.qu.map fun q => (q.n, q.pg)) : Once own C := by
  have hw : ∀ j, waitsOf C j = waitsOf B j := fun j => by
    have f : ∀ l : List Pa, (l.filter fun q => decide (q.pg = j)).map Pa.n = ((l.map fun q => (q.n, q.pg)).filter fun x : Int × Int => decide (x.2 = j)).map (·.1) := fun l => by
      rw [List.filter_map, List.map_map]
      rfl
    unfold waitsOf
    rw [f, f, hq]
  refine ⟨by rw [ha]; exact O.as, O.nu, by rw [hj]; exact O.lt, fun y hy => ?_, fun q hq' => ?_⟩
  · obtain ⟨x, hx, x1, x2⟩ := he y hy
    rw [hw, x2, ← x1]
    exact O.once x hx
  · have : (q.n, q.pg) ∈ B.qu.map fun q => (q.n, q.pg) := by rw [← hq]; exact List.mem_map_of_mem (f := fun q : Pa => (q.n, q.pg)) hq'
    obtain ⟨z, hz, e⟩ := List.mem_map.mp this
    rw [← e]; exact O.qo z hz
theorem setRt_np {k : Int} {r : List Int} : (setRt B k r).qu.map (fun q => (q.n, q.pg)) = B.qu.map fun q => (q.n, q.pg) := by
  unfold setRt
  simp only [List.map_map]
  exact List.map_congr_left fun q _ => by simp only [Function.comp]; split <;> rfl
theorem Once.act (I : InvC n m B) (a : Act B B') (O : Once own B) : Once own B' := by
  cases a with
  | non hp h => exact O.answer I hp rfl
  | bod hp hc hh hb => exact O.answer I hp rfl
  | made hp hc hr hb => exact O.answer I hp rfl
  | rt hp hc hh hb hk => exact O.same rfl rfl (fun y hy => ⟨y, hy, rfl, rfl⟩) setRt_np
  | ask hp hc hh hb hk ho =>
    rw [ask_ears ho]
    refine O.same rfl rfl (fun y hy => ?_) setRt_np
    obtain ⟨x, hx, x1, x2⟩ := hear_of (show y ∈ Mm.hear B.ears _ _ from hy)
    refine ⟨x, hx, x1, ?_⟩
    rw [x2]
    split
    · rw [List.filterMap_append]; simp [ansN]
    · rfl
  | drop hc hp => exact O.same rfl rfl (fun y hy => ⟨y, hy, rfl, rfl⟩) rfl
/-- who asked, behind a step -/
def ownS (B : Bd) (own : List (Int × Int)) (s : Sp) : List (Int × Int) := match s with
  | .paste p w wa => own ++ [(B.as, p)]
  | _ => own
theorem Once.big {s : Sp} (I : InvC n m B) (a : Big B s B') (O : Once own B) : Once (ownS B own s) B' := by
  cases a with
  | join h =>
    refine ⟨O.as, O.nu, fun x hx => ?_, fun y hy => ?_, O.qo⟩
    · have := O.lt x hx
      show x.2 < B.jo + 1
      omega
    · rcases List.mem_append.mp hy with hy | hy
      · exact O.once y hy
      · rw [List.mem_singleton] at hy
        subst hy
        have e1 : own.filter (fun x => decide (x.2 = B.jo)) = [] := by
          rw [List.filter_eq_nil_iff]
          intro x hx
          have := O.lt x hx
          rw [decide_eq_true_eq]
          omega
        have e2 : waitsOf (joinB B) B.jo = [] := by
          unfold waitsOf
          rw [List.filter_eq_nil_iff.mpr]
          · rfl
          · intro q hq
            have := I.ek q.pg (I.pa q hq).1
            rw [decide_eq_true_eq]
            omega
        show (([] : List Int) ++ waitsOf (joinB B) B.jo).Perm ((own.filter fun x : Int × Int => decide (x.2 = B.jo)).map (·.1))
        rw [e1, e2]
        exact List.Perm.refl _
  | @fin p h =>
    refine ⟨O.as, O.nu, O.lt, fun y hy => ?_, fun q hq => O.qo q (List.mem_filter.mp hq).1⟩
    obtain ⟨h1, h2⟩ := List.mem_filter.mp hy
    rw [decide_eq_true_eq] at h2
    have o := O.once y h1
    have e : waitsOf (endB1 B p) y.1 = waitsOf B y.1 := by
      unfold waitsOf endB1
      simp only
      rw [List.filter_filter]
      congr 1
      refine List.filter_congr fun q _ => ?_
      by_cases z : q.pg = y.1
      · have : q.pg ≠ p := by rw [z]; exact h2
        simp [z, this]
        exact h2
      · simp [z]
    rw [e]
    exact o
  | watch h => exact O.same rfl rfl (fun y hy => ⟨y, hy, rfl, rfl⟩) rfl
  | cut h ho =>
    refine O.same rfl rfl (fun y hy => ?_) rfl
    obtain ⟨z, hz, e⟩ := List.mem_map.mp (show y ∈ newsE _ _ _ _ from hy)
    refine ⟨z, hz, ?_⟩
    subst e
    split
    · exact ⟨rfl, by rw [List.filterMap_append]; simp [ansN]⟩
    · exact ⟨rfl, rfl⟩
  | pin h => exact O.same rfl rfl (fun y hy => ⟨y, hy, rfl, rfl⟩) rfl
  | @paste p w wa c h hc hk hw =>
    refine ⟨?_, ?_, fun x hx => ?_, fun y hy => ?_, fun q hq => ?_⟩
    · show ((own ++ [(B.as, p)]).length : Int) = B.as + 1
      have := O.as
      simp; omega
    · show (own ++ [(B.as, p)]).map (·.1) = rgI (own ++ [(B.as, p)]).length
      rw [List.map_append, O.nu, List.length_append]
      show _ = rgI (own.length + 1)
      rw [rgI_succ, O.as]
      rfl
    · show x.2 < B.jo
      rcases List.mem_append.mp hx with hx | hx
      · exact O.lt x hx
      · rw [List.mem_singleton] at hx
        subst hx
        exact (I.ek p h).2
    · have o := O.once y hy
      have e : waitsOf (paste1 B p c.n wa) y.1 = waitsOf B y.1 ++ (if p = y.1 then [B.as] else []) := by
        unfold waitsOf paste1 newPa
        simp only
        rw [List.filter_append, List.map_append]
        congr 1
        by_cases z : p = y.1
        · simp [z]
        · simp [z]
      have e2 : ((own ++ [(B.as, p)]).filter fun x : Int × Int => decide (x.2 = y.1)).map (·.1) = (own.filter fun x : Int × Int => decide (x.2 = y.1)).map (·.1) ++ (if p = y.1 then [B.as] else []) := by
        rw [List.filter_append, List.map_append]
        congr 1
        by_cases z : p = y.1
        · simp [z]
        · simp [z]
      show (_ ++ waitsOf (paste1 B p c.n wa) y.1).Perm (((own ++ [(B.as, p)]).filter fun x => decide (x.2 = y.1)).map (·.1))
      rw [e, e2, ← List.append_assoc]
      exact o.append_right _
    · rcases List.mem_append.mp (show q ∈ B.qu ++ [newPa B p c.n wa] from hq) with hq | hq
      · exact List.mem_append_left _ (O.qo q hq)
      · rw [List.mem_singleton] at hq
        subst hq
        exact List.mem_append_right _ (List.mem_singleton.mpr rfl)
  | make h hb => exact O.same rfl rfl (fun y hy => ⟨y, hy, rfl, rfl⟩) rfl
  | refuse h => exact O.same rfl rfl (fun y hy => ⟨y, hy, rfl, rfl⟩) rfl
  | heard h => exact O
  | least h => exact O
/-- the pastes of all steps -/
def ownN (B : Bd) (own : List (Int × Int)) (s : Sp) : List (Int × Int) := open Classical in if (stepB B s).2 = .no then own else ownS B own s
theorem Once.step {s : Sp} (O : Once own B) (V : InvB n m B) (ok : SpOk s) : Once (ownN B own s) (stepB B s).1 := by
  unfold ownN
  rcases step_big V ok with ⟨e1, e⟩ | ⟨e1, B1, b, a⟩
  · rw [e, if_pos e1]; exact O
  · rw [if_neg e1]
    exact a.keep (fun i q g => g.act i q) (O.big V.h.c b)
def Told (B : Bd) : Prop := ∀ c ∈ B.cls, ∀ o, c.ow = some o → ∀ k ∈ c.ak, ∀ e ∈ B.ears, e.1 = o → Ev.make c.n k ∈ e.2
theorem Told.hear {p : Int} {e : Ev} (T : Told B) {C : Bd} (hc : C.cls = B.cls) (he : C.ears = Mm.hear B.ears p e) : Told C := fun c h o ho k hk y hy q => by
  rw [hc] at h
  rw [he] at hy
  obtain ⟨x, hx, x1, x2⟩ := hear_of hy
  have := T c h o ho k hk x hx (x1.trans q)
  rw [x2]
  split
  · exact List.mem_append_left _ this
  · exact this
theorem Told.sub (T : Told B) {C : Bd} (hc : ∀ c ∈ C.cls, ∃ d ∈ B.cls, c.n = d.n ∧ c.ak = d.ak ∧ ∀ o, c.ow = some o → d.ow = some o) (he : ∀ y ∈ C.ears, y ∈ B.ears) : Told C := fun c h o ho k hk y hy q => by
  obtain ⟨d, hd, h1, h2, h3⟩ := hc c h
  rw [h1]
  exact T d hd o (h3 o ho) k (by rw [← h2]; exact hk) y (he y hy) q
theorem told_self (c : Cl) (h : c ∈ B.cls) : ∃ d ∈ B.cls, c.n = d.n ∧ c.ak = d.ak ∧ ∀ o, c.ow = some o → d.ow = some o := ⟨c, h, rfl, rfl, fun _ e => e⟩
theorem Told.act (I : InvC n m B) (a : Act B B') (T : Told B) : Told B' := by
  cases a with
  | non hp h => exact T.hear rfl rfl
  | bod hp hc hh hb => exact T.hear rfl rfl
  | made hp hc hr hb => exact T.hear rfl rfl
  | rt hp hc hh hb hk => exact T.sub told_self fun _ h => h
  | @ask p c ch o hp hc hh hb hk ho =>
    rw [ask_ears ho]
    obtain ⟨hcm, hcn⟩ := clipAt_mem hc
    intro d hd o' ho' k' hk' y hy q
    obtain ⟨z, hz, e⟩ := List.mem_map.mp hd
    obtain ⟨x, hx, x1, x2⟩ := hear_of (show y ∈ Mm.hear B.ears _ _ from hy)
    have zo : z.ow = some o' ∧ z.n = d.n ∧ (k' ∈ z.ak ∨ (z.n = c.n ∧ k' = ch.r.getD 0 0)) := by
      split at e
      · rename_i en
        subst e
        refine ⟨ho', rfl, ?_⟩
        rcases List.mem_append.mp hk' with h | h
        · exact .inl h
        · exact .inr ⟨en, List.mem_singleton.mp h⟩
      · subst e
        exact ⟨ho', rfl, .inl hk'⟩
    rw [x2]
    rcases zo.2.2 with h | ⟨h1, h2⟩
    · have := T z hz o' zo.1 k' h x hx (x1.trans q)
      rw [zo.2.1] at this
      split
      · exact List.mem_append_left _ this
      · exact this
    · have hzc : z = c := inj_nd (nd_lt I.cs) hz hcm h1
      have ho2 : o' = o := by
        have := zo.1
        rw [hzc, ho] at this
        exact (Option.some.inj this).symm
      rw [if_pos (by rw [x1, q, ho2]), ← zo.2.1, h1, h2]
      exact List.mem_append_right _ (List.mem_singleton.mpr rfl)
  | drop hc hp => exact T.sub (fun c h => told_self c (List.mem_filter.mp h).1) fun _ h => h
theorem Told.big {s : Sp} (a : Big B s B') (I : InvC n m B) (T : Told B) : Told B' := by
  cases a with
  | join h =>
    intro c hc o ho k hk y hy q
    rcases List.mem_append.mp hy with hy | hy
    · exact T c hc o ho k hk y hy q
    · rw [List.mem_singleton] at hy
      subst hy
      have := (I.ek o ((I.cl c hc).ow o ho)).2
      have q' : B.jo = o := q
      omega
  | @fin p h =>
    refine T.sub (fun c hc => ?_) fun y hy => (List.mem_filter.mp hy).1
    obtain ⟨d, hd, rfl⟩ := List.mem_map.mp (show c ∈ B.cls.map (endCl p) from hc)
    refine ⟨d, hd, endCl_n _ _, ?_, fun o ho => ?_⟩
    · unfold endCl; split <;> rfl
    · unfold endCl at ho
      split at ho
      · cases ho
      · exact ho
  | watch h => exact T.sub told_self fun _ h => h
  | cut h ho =>
    intro c hc o hco k hk y hy q
    rcases List.mem_append.mp (show c ∈ B.cls ++ [newCl B _ _] from hc) with hc | hc
    · obtain ⟨z, hz, e⟩ := List.mem_map.mp (show y ∈ newsE _ _ _ _ from hy)
      split at e
      · subst e
        exact List.mem_append_left _ (T c hc o hco k hk z hz q)
      · subst e
        exact T c hc o hco k hk z hz q
    · rw [List.mem_singleton] at hc
      subst hc
      cases hk
  | pin h =>
    refine T.sub (fun c hc => ?_) fun _ h => h
    obtain ⟨d, hd, rfl⟩ := List.mem_map.mp (show c ∈ B.cls.map _ from hc)
    refine ⟨d, hd, ?_⟩
    split <;> exact ⟨rfl, rfl, fun _ e => e⟩
  | paste h hc hk hw => exact T.sub told_self fun _ h => h
  | make h hb =>
    refine T.sub (fun c hc => ?_) fun _ h => h
    obtain ⟨d, hd, rfl⟩ := List.mem_map.mp (show c ∈ B.cls.map _ from hc)
    refine ⟨d, hd, ?_⟩
    split <;> exact ⟨rfl, rfl, fun _ e => e⟩
  | refuse h =>
    refine T.sub (fun c hc => ?_) fun _ h => h
    obtain ⟨d, hd, rfl⟩ := List.mem_map.mp (show c ∈ B.cls.map _ from hc)
    refine ⟨d, hd, ?_⟩
    split <;> exact ⟨rfl, rfl, fun _ e => e⟩
  | heard h => exact T
  | least h => exact T
theorem Told.step {s : Sp} (T : Told B) (V : InvB n m B) (ok : SpOk s) : Told (stepB B s).1 := by
  rcases step_big V ok with ⟨_, e⟩ | ⟨_, B1, b, a⟩
  · rw [e]; exact T
  · exact a.keep (fun i q g => g.act i q) (T.big b V.h.c)
end
end Mm
namespace Mm
theorem EvsR.zip : ∀ {es : List Ev} {xs : List D}, EvsR es xs → ∃ l : List (Ev × D), l.map (·.1) = es ∧ l.map (·.2) = xs ∧ ∀ x ∈ l, EvR x.1 x.2
  | [], xs, h => by unfold EvsR at h; subst h; exact ⟨[], rfl, rfl, nofun⟩
  | e :: es, xs, h => by
    obtain ⟨d, r, rfl, h1, h2⟩ := h
    obtain ⟨l, l1, l2, l3⟩ := h2.zip
    refine ⟨(e, d) :: l, by simp [l1], by simp [l2], fun x hx => ?_⟩
    rcases List.mem_cons.mp hx with rfl | hx
    · exact h1
    · exact l3 x hx
section
variable {e : Ev} {d : D} {hs : Hs}
theorem vEq_D {x y : D} (hx : okd 60 x = true) (hy : okd 60 y = true) (rx : res x hs = x) (ry : res y hs = y) : vEq x y hs = .ok (.bl (deq x y)) hs := by
  unfold vEq eqB
  rw [rx, ry, hx, hy]
  rfl
theorem vNe_D {x y : D} (hx : okd 60 x = true) (hy : okd 60 y = true) (rx : res x hs = x) (ry : res y hs = y) : vNe x y hs = .ok (.bl (!deq x y)) hs := by
  unfold vNe eqB
  rw [rx, ry, hx, hy]
  rfl
noncomputable instance : DecidableEq Ev := fun a b => Classical.propDecidable _
end
theorem ne_nilD {l : List D} {hs : Hs} (h : ∀ d ∈ l, okd 59 d = true) : vNe (.l l) (.l []) hs = .ok (.bl (!l.isEmpty)) hs := by
  rw [vNe_D (okd_lst (k := 59) h) (okd_lst (k := 59) (ds := []) fun d hd => nomatch hd) rfl rfl]
  cases l <;> simp [deq, deqL]
structure Wp (n m : Nat) (L : Pl) (h : Rh) (hs : Hs) (B : Bd) : Prop where
  d : Dc L h hs
  p : PB 0 L h B
  v : InvB n m B
  e : EvB B
section
variable {n m : Nat} {L L' : Pl} {h h' : Rh} {hs hs' : Hs} {B : Bd}
theorem Wp.dice (S : Wp n m L h hs B) (d : DiN hs hs') : ∃ h', Wp n m L h' hs' B ∧ ∀ q, q ≠ rD → h' q = h q := by
  obtain ⟨h', D', k⟩ := S.d.dice d
  exact ⟨h', ⟨D', S.p.dice k, S.v, S.e⟩, k⟩
theorem Wp.up {n' m' : Nat} (S : Wp n m L h hs B) (hn : n ≤ n') (hm : m ≤ m') : Wp n' m' L h hs B := ⟨S.d, S.p, S.v.up hn hm, S.e⟩
theorem Wp.aft' {s : Sp} {d : D} {n' m' : Nat} (S : Wp n m L h hs B) (ok : SpOk s) (V : InvB n' m' (stepB B s).1) (q : OkP 0 L h B s d hs') : RsR (stepB B s).2 d ∧ ∃ L' h', Wp n' m' L' h' hs' (stepB B s).1 ∧ L' (0, .bd) = L (0, .bd) ∧ FrO 0 L h L' h' := by
  obtain ⟨r, L', h', Z', P', F⟩ := q
  exact ⟨r, L', h', ⟨S.d.frO F Z', P', V, ev_step S.e S.v ok⟩, F.bd, F⟩
theorem Wp.aft {s : Sp} {d : D} (S : Wp n m L h hs B) (ok : SpOk s) (q : OkP 0 L h B s d hs') : RsR (stepB B s).2 d ∧ ∃ L' h', Wp (n + 1) (m + n + 2) L' h' hs' (stepB B s).1 ∧ L' (0, .bd) = L (0, .bd) ∧ FrO 0 L h L' h' := S.aft' ok (step_inv S.v ok) q
theorem Wp.call' {s : Sp} {r : R D} {n' m' : Nat} (S : Wp n m L h hs B) (ok : SpOk s) (V : InvB n' m' (stepB B s).1) (T : R.TX r (OkP 0 L h B s) (NoP hs B s)) (hn : (stepB B s).2 ≠ .no) : R.T r fun d hs' => RsR (stepB B s).2 d ∧ ∃ L' h', Wp n' m' L' h' hs' (stepB B s).1 ∧ L' (0, .bd) = L (0, .bd) ∧ FrO 0 L h L' h' := by
  refine R.TX.t (T.imp (fun d hs' q => S.aft' ok V q) ?_)
  rintro c hs' ⟨_, q, _⟩
  rw [q] at hn
  exact hn rfl
/-- a call that isn't refused -/
theorem Wp.call {s : Sp} {r : R D} (S : Wp n m L h hs B) (ok : SpOk s) (T : R.TX r (OkP 0 L h B s) (NoP hs B s)) (hn : (stepB B s).2 ≠ .no) : R.T r fun d hs' => RsR (stepB B s).2 d ∧ ∃ L' h', Wp (n + 1) (m + n + 2) L' h' hs' (stepB B s).1 ∧ L' (0, .bd) = L (0, .bd) ∧ FrO 0 L h L' h' := by
  refine R.TX.t (T.imp (fun d hs' q => S.aft ok q) ?_)
  rintro c hs' ⟨_, q, _⟩
  rw [q] at hn
  exact hn rfl
theorem Wp.kept (S : Wp n m L h hs B) (hn : n < 90000) : c_Board_kept [.loc (L (0, .bd))] hs = .ok (.l (B.cls.reverse.map toldD)) hs := kept_eq S.d.Z S.p S.v.h.c hn
theorem Wp.heard (S : Wp n m L h hs B) {p : Int} (hp : p ∈ keysE B) : ∃ x ∈ B.ears, x.1 = p ∧ ∃ xs, EvsR x.2 xs ∧ c_Board_heard [.loc (L (0, .bd)), .int p] hs = .ok (.l xs) hs := by
  obtain ⟨x, hx, hxp⟩ := mem_keysE hp
  obtain ⟨xs, x1, x2⟩ := S.p.ear x hx
  exact ⟨x, hx, hxp, xs, x2, heard_eq S.d.Z S.p S.v.h.c hx hxp x1⟩
end
end Mm
namespace Mm
def earOf (B : Bd) (p : Int) : List Ev := ((B.ears.find? fun e => decide (e.1 = p)).map (·.2)).getD []
section
variable {n m : Nat} {A B C : Bd}
theorem earOf_mem (nd : (keysE B).Nodup) {x : Int × List Ev} (hx : x ∈ B.ears) : earOf B x.1 = x.2 := by
  unfold earOf
  cases h : B.ears.find? fun e => decide (e.1 = x.1) with
  | none =>
    rw [List.find?_eq_none] at h
    have := h x hx
    simp at this
  | some y =>
    have h1 := List.find?_some h
    rw [decide_eq_true_eq] at h1
    have : y = x := inj_nd nd (List.mem_of_find?_eq_some h) hx h1
    rw [this]
    rfl
theorem earOf_map {f : Int × List Ev → Int × List Ev} (hf : ∀ x, (f x).1 = x.1) (he : C.ears = B.ears.map f) {x : Int × List Ev} (nd : (keysE B).Nodup) (hx : x ∈ B.ears) : earOf C x.1 = (f x).2 := by
  have nd2 : (keysE C).Nodup := by
    unfold keysE
    rw [he, List.map_map]
    have : (fun x : Int × List Ev => (f x).1) = fun x => x.1 := funext hf
    show (B.ears.map fun x => (f x).1).Nodup
    rw [this]
    exact nd
  have := earOf_mem (B := C) nd2 (x := f x) (by rw [he]; exact List.mem_map_of_mem hx)
  rw [hf] at this
  exact this
/-- what is heard beside, of these pastes at the most -/
def Del (l : List Pa) (A B : Bd) : Prop := keysE B = keysE A ∧ ∀ p ∈ keysE A, ∃ δ, earOf B p = earOf A p ++ δ ∧ (δ.filterMap ansN).Sublist ((l.filter fun q => decide (q.pg = p)).map Pa.n)
/-- of all of these -/
def DelX (l : List Pa) (A B : Bd) : Prop := keysE B = keysE A ∧ ∀ p ∈ keysE A, ∃ δ, earOf B p = earOf A p ++ δ ∧ δ.filterMap ansN = (l.filter fun q => decide (q.pg = p)).map Pa.n
theorem Del.trans {l l' : List Pa} (h : Del l A B) (k : Del l' B C) : Del (l ++ l') A C := ⟨k.1.trans h.1, fun p hp => by
  obtain ⟨δ, h1, h2⟩ := h.2 p hp
  obtain ⟨ε, k1, k2⟩ := k.2 p (by rw [h.1]; exact hp)
  refine ⟨δ ++ ε, by rw [k1, h1, List.append_assoc], ?_⟩
  rw [List.filterMap_append, List.filter_append, List.map_append]
  exact h2.append k2⟩
theorem DelX.trans {l l' : List Pa} (h : DelX l A B) (k : DelX l' B C) : DelX (l ++ l') A C := ⟨k.1.trans h.1, fun p hp => by
  obtain ⟨δ, h1, h2⟩ := h.2 p hp
  obtain ⟨ε, k1, k2⟩ := k.2 p (by rw [h.1]; exact hp)
  refine ⟨δ ++ ε, by rw [k1, h1, List.append_assoc], ?_⟩
  rw [List.filterMap_append, List.filter_append, List.map_append, h2, k2]⟩
theorem DelX.same (he : B.ears = A.ears) : DelX [] A B := ⟨by unfold keysE; rw [he], fun p hp => ⟨[], by unfold earOf; rw [he, List.append_nil], rfl⟩⟩
theorem ear_find {p : Int} (hp : p ∈ keysE B) : ∃ x ∈ B.ears, x.1 = p := by
  obtain ⟨x, hx, e⟩ := List.mem_map.mp hp
  exact ⟨x, hx, e⟩
theorem DelX.map {f : Int × List Ev → Int × List Ev} {g : Int → List Ev} {l : List Pa} (nd : (keysE A).Nodup) (he : B.ears = A.ears.map f) (hf : ∀ x, f x = (x.1, x.2 ++ g x.1)) (hg : ∀ p, (g p).filterMap ansN = (l.filter fun q => decide (q.pg = p)).map Pa.n) : DelX l A B := by
  have hf1 : ∀ x, (f x).1 = x.1 := fun x => by rw [hf]
  refine ⟨?_, fun p hp => ?_⟩
  · unfold keysE
    rw [he, List.map_map]
    exact List.map_congr_left fun x _ => hf1 x
  · obtain ⟨x, hx, rfl⟩ := ear_find hp
    refine ⟨g x.1, ?_, hg x.1⟩
    rw [earOf_map hf1 he nd hx, earOf_mem nd hx, hf]
theorem Del.weak {l : List Pa} (h : Del [] A B) : Del l A B := ⟨h.1, fun p hp => by
  obtain ⟨δ, h1, h2⟩ := h.2 p hp
  refine ⟨δ, h1, ?_⟩
  have : δ.filterMap ansN = [] := by simpa using h2
  rw [this]
  exact List.nil_sublist _⟩
end
end Mm
namespace Mm
section
variable {n m : Nat} {B B' : Bd}
/-- numbers and pins -/
def skel (B : Bd) : List (Int × Bool) := B.cls.map fun c => (c.n, c.pn)
theorem skel_cores (B : Bd) : skel B = (cores B).map fun x => (x.1, x.2.2.2) := by
  unfold skel cores
  rw [List.map_map]
  rfl
theorem skel_of {B B' : Bd} (h : cores B' = cores B) : skel B' = skel B := by rw [skel_cores, skel_cores, h]
theorem cores_makes' {b : List Int} : ∀ {l : List Pa} {B : Bd}, cores (l.foldl (makeAct b) B) = cores B
  | [], B => rfl
  | p :: l, B => by rw [List.foldl_cons, cores_makes']; rfl
theorem skel_setOs {k : Int} {f : List Of → List Of} : skel (setOs B k f) = skel B := by
  unfold skel setOs
  simp only [List.map_map]
  exact List.map_congr_left fun x _ => by simp only [Function.comp]; split <;> rfl
theorem skel_end1 {p : Int} : skel (endB1 B p) = skel B := by
  unfold skel endB1
  simp only [List.map_map]
  exact List.map_congr_left fun x _ => by simp only [Function.comp]; unfold endCl; split <;> rfl
theorem rm_act {A C : Bd} (a : Act A C) : C.rm = A.rm := by
  cases a with
  | non => rfl
  | bod => rfl
  | made => rfl
  | rt => rfl
  | ask hp hc hh hb hk ho => rw [ask_ears ho]; rfl
  | drop => rfl
theorem rm_acts {A C : Bd} (a : Acts A C) : C.rm = A.rm := by
  induction a with
  | nil _ => rfl
  | cons I a _ ih => exact ih.trans (rm_act a)
theorem rm_step {s : Sp} (V : InvB n m B) (ok : SpOk s) : (stepB B s).1.rm = B.rm := by
  rcases step_big V ok with ⟨_, e⟩ | ⟨_, B1, b, a⟩
  · rw [e]
  · rw [rm_acts a]
    cases b <;> rfl
theorem skel_step {s : Sp} (h1 : ∀ p os, s ≠ .cut p os) (h2 : ∀ k on, s ≠ .pin k on) : skel (stepB B s).1 = skel B := by
  cases s with
  | join =>
    show skel (if B.jo = 12 then (B, Rs.no) else (joinB B, .num B.jo)).1 = _
    split <;> rfl
  | fin p =>
    show skel (if p ∈ keysE B then (endB B p, Rs.non) else (B, .no)).1 = _
    split
    · show skel (endB B p) = _
      unfold endB
      rw [skel_of cores_serves, skel_end1]
    · rfl
  | watch p on =>
    show skel (if p ∈ keysE B then (watchB B p on, Rs.non) else (B, .no)).1 = _
    split <;> rfl
  | cut p os => exact absurd rfl (h1 p os)
  | pin k on => exact absurd rfl (h2 k on)
  | paste p w wa =>
    show skel (if p ∈ keysE B then (match targetB B w with | none => (B, Rs.no) | some c => (pasteB B p c.n wa, .num B.as)) else (B, .no)).1 = _
    split
    · split
      · rfl
      · show skel (pasteB B p _ wa) = _
        unfold pasteB
        rw [skel_of cores_serve]
        rfl
    · rfl
  | make p k j b =>
    show skel (match openAt B p k j with | none => (B, Rs.no) | some d => (makeB B d.n j b, .non)).1 = _
    split
    · rfl
    · show skel (makeB B _ j b) = _
      unfold makeB
      rw [skel_of cores_makes', skel_setOs]
  | refuse p k j =>
    show skel (match openAt B p k j with | none => (B, Rs.no) | some d => (refuseB B d.n j, .non)).1 = _
    split
    · rfl
    · show skel (refuseB B _ j) = _
      unfold refuseB
      rw [skel_of cores_serves, skel_setOs]
  | heard p =>
    show skel (match B.ears.find? fun e : Int × List Ev => decide (e.1 = p) with | none => (B, Rs.no) | some e => (B, .evs e.2)).1 = _
    split <;> rfl
  | least p =>
    show skel (if p ∈ keysE B then (B, Rs.rows (leastB B p)) else (B, .no)).1 = _
    split <;> rfl
/-- how far shrink goes -/
theorem shrinkL_cls : ∀ {l : List Cl} {B : Bd}, ∃ k, k ≤ l.length ∧ (shrinkL B l).cls = B.cls.filter (fun c => decide (c.n ∉ (l.take k).map Cl.n)) ∧ (k < l.length → ((shrinkL B l).cls.length : Int) ≤ B.rm)
  | [], B => ⟨0, Nat.le_refl _, by unfold shrinkL; rw [List.filter_eq_self.mpr (by simp)], fun h => by simp at h⟩
  | c :: l, B => by
    unfold shrinkL
    by_cases h : B.rm < (B.cls.length : Int)
    · rw [if_pos h]
      obtain ⟨k, h1, h2, h3⟩ := shrinkL_cls (l := l) (B := goneB B c.n)
      refine ⟨k + 1, by simp; omega, ?_, fun q => ?_⟩
      · rw [h2, gone_cls, List.filter_filter]
        refine List.filter_congr fun x _ => ?_
        by_cases e1 : x.n = c.n
        · simp [e1]
        · simp [e1]
      · have := h3 (by simp at q; omega)
        rw [none_rm'] at this
        exact this
    · rw [if_neg h]
      exact ⟨0, Nat.zero_le _, by rw [List.filter_eq_self.mpr (by simp)], fun _ => by omega⟩
/-- no more are kept than may be, but where all others are pinned -/
def Tight (B : Bd) : Prop := (B.cls.length : Int) ≤ B.rm ∨ looseB B = []
theorem loose_skel (B : Bd) : (looseB B).map Cl.n = ((skel B).dropLast.filter fun x => !x.2).map (·.1) := by
  unfold looseB skel
  rw [← List.map_dropLast, List.filter_map, List.map_map]
  rfl
theorem Tight.skel (T : Tight B) (h : skel B' = skel B) (hr : B'.rm = B.rm) : Tight B' := by
  have hl : B'.cls.length = B.cls.length := by
    have := congrArg List.length h
    unfold Mm.skel at this
    simpa using this
  rcases T with t | t
  · left; rw [hl, hr]; exact t
  · right
    have e : (looseB B').map Cl.n = [] := by rw [loose_skel, h, ← loose_skel, t]; rfl
    exact List.map_eq_nil_iff.mp e
theorem last_split {α : Type} {l : List α} (h : l ≠ []) : ∃ z, l = l.dropLast ++ [z] := ⟨l.getLast h, (List.dropLast_concat_getLast h).symm⟩
/-- what shrink leaves -/
theorem shrink_cls (nd : (B.cls.map Cl.n).Nodup) : ∃ k, k ≤ (looseB B).length ∧ (shrinkB B).cls = B.cls.filter (fun c => decide (c.n ∉ ((looseB B).take k).map Cl.n)) ∧ looseB (shrinkB B) = (looseB B).drop k ∧ (k < (looseB B).length → ((shrinkB B).cls.length : Int) ≤ B.rm) ∧ (shrinkB B).cls.getLast? = B.cls.getLast? := by
  obtain ⟨k, h1, h2, h3⟩ := shrinkL_cls (l := looseB B) (B := B)
  have h2' : (shrinkB B).cls = B.cls.filter (fun c => decide (c.n ∉ ((looseB B).take k).map Cl.n)) := h2
  by_cases he : B.cls = []
  · have e1 : looseB B = [] := by unfold looseB; rw [he]; rfl
    have e2 : (shrinkB B).cls = [] := by rw [h2', he]; rfl
    refine ⟨k, h1, h2', ?_, h3, by rw [e2, he]⟩
    rw [e1]
    unfold looseB
    rw [e2]
    simp
  · obtain ⟨z, hz⟩ := last_split he
    have hzl : decide (z.n ∉ ((looseB B).take k).map Cl.n) = true := by
      rw [decide_eq_true_eq]
      intro q
      obtain ⟨c, hc, hcn⟩ := List.mem_map.mp q
      have hc2 : c ∈ B.cls.dropLast := (List.mem_filter.mp ((List.take_sublist _ _).subset hc)).1
      rw [hz, List.map_append, List.nodup_append] at nd
      exact nd.2.2 c.n (List.mem_map_of_mem hc2) z.n (by simp) hcn
    have e3 : (shrinkB B).cls = (B.cls.dropLast.filter fun c => decide (c.n ∉ ((looseB B).take k).map Cl.n)) ++ [z] := by
      rw [h2']
      conv => lhs; rw [hz]
      rw [List.filter_append, List.filter_cons, if_pos hzl]
      rfl
    refine ⟨k, h1, h2', ?_, h3, ?_⟩
    · have e4 : looseB (shrinkB B) = (looseB B).filter fun c => decide (c.n ∉ ((looseB B).take k).map Cl.n) := by
        unfold looseB
        rw [e3, List.dropLast_concat, List.filter_filter, List.filter_filter]
        refine List.filter_congr fun c _ => ?_
        rw [Bool.and_comm]
        rfl
      rw [e4]
      have nd2 : ((looseB B).map Cl.n).Nodup := nd.sublist ((List.filter_sublist.trans (List.dropLast_sublist _)).map _)
      generalize looseB B = l at nd2
      clear e4 e3 hzl h1 h2 h2' h3
      conv => lhs; rw [← List.take_append_drop k l]
      rw [← List.take_append_drop k l, List.map_append, List.nodup_append] at nd2
      rw [List.filter_append, List.filter_eq_nil_iff.mpr, List.filter_eq_self.mpr, List.nil_append]
      · intro c hc
        rw [decide_eq_true_eq]
        intro q
        rw [List.take_append_drop] at q
        exact nd2.2.2 _ q _ (List.mem_map_of_mem hc) rfl
      · intro c hc
        rw [decide_eq_true_eq, Classical.not_not, List.take_append_drop]
        exact List.mem_map_of_mem hc
    · rw [e3, List.getLast?_concat]
      conv => rhs; rw [hz]
      rw [List.getLast?_concat]
theorem shrink_tight (nd : (B.cls.map Cl.n).Nodup) (hr : (shrinkB B).rm = B.rm) : Tight (shrinkB B) := by
  obtain ⟨k, h1, h2, h3, h4, _⟩ := shrink_cls nd
  by_cases h : k < (looseB B).length
  · left; rw [hr]; exact h4 h
  · right
    rw [h3]
    exact List.drop_eq_nil_of_le (by omega)
theorem nd_cut {p : Int} {os : List Of} (I : InvC n m B) : ((cut1 B p os).cls.map Cl.n).Nodup := by
  show ((B.cls ++ [newCl B p os]).map Cl.n).Nodup
  rw [List.map_append, List.nodup_append]
  refine ⟨nd_lt I.cs, by simp, fun a ha b hb => ?_⟩
  obtain ⟨c, hc, rfl⟩ := List.mem_map.mp ha
  have := (I.cr c hc).2
  have hb' : b = B.cu := by simpa [newCl] using hb
  omega
theorem nd_pn {k : Int} {on : Bool} (I : InvC n m B) : ((setPn B k on).cls.map Cl.n).Nodup := by
  have : (setPn B k on).cls.map Cl.n = B.cls.map Cl.n := by
    unfold setPn
    simp only [List.map_map]
    exact List.map_congr_left fun x _ => by simp only [Function.comp]; split <;> rfl
  rw [this]
  exact nd_lt I.cs
theorem rm_shrinkL' : ∀ {l : List Cl} {B : Bd}, (shrinkL B l).rm = B.rm
  | [], B => rfl
  | c :: l, B => by
    unfold shrinkL
    split
    · rw [rm_shrinkL', none_rm']
    · rfl
theorem rm_shrink : (shrinkB B).rm = B.rm := rm_shrinkL'
theorem Tight.step {s : Sp} (T : Tight B) (V : InvB n m B) (ok : SpOk s) : Tight (stepB B s).1 := by
  have I := V.h.c
  cases s with
  | cut p os =>
    show Tight (if p ∈ keysE B then (cutB B p os, Rs.num B.cu) else (B, .no)).1
    split
    · exact shrink_tight (nd_cut I) rm_shrink
    · exact T
  | pin k on =>
    show Tight (match clipAt B k with | none => (B, Rs.no) | some c => (pinB B c.n on, .non)).1
    split
    · exact T
    · exact shrink_tight (nd_pn I) rm_shrink
  | join => exact T.skel (skel_step nofun nofun) (rm_step V ok)
  | fin p => exact T.skel (skel_step nofun nofun) (rm_step V ok)
  | watch p on => exact T.skel (skel_step nofun nofun) (rm_step V ok)
  | paste p w wa => exact T.skel (skel_step nofun nofun) (rm_step V ok)
  | make p k j b => exact T.skel (skel_step nofun nofun) (rm_step V ok)
  | refuse p k j => exact T.skel (skel_step nofun nofun) (rm_step V ok)
  | heard p => exact T.skel (skel_step nofun nofun) (rm_step V ok)
  | least p => exact T.skel (skel_step nofun nofun) (rm_step V ok)
end
theorem okd_zi {ns : List Int} {k : Nat} : ∀ d ∈ zi ns, okd k d = true := fun d hd => by
  obtain ⟨c, _, rfl⟩ := List.mem_map.mp hd
  exact okd_int _
end Mm
namespace Mm
theorem along2_T {ws : List Wy} {r b : List Int} {d : D} {hs : Hs} (hw : WaysOk ws) (hb : BtD d b) (hl : b.length ≤ 100) (hr : r.length ≤ 1000) (ok : PathOk ws r) {Q : D → Hs → Prop} (hQ : ∀ d' o, BtD d' (alongB ws r b) → Q d' (hs ++ [o])) : R.T (c_along_v2 [.l (ws.map wyD), tz r, d] hs) Q := by
  refine T_callA rfl ?_
  unfold m_along_v2
  have w1 : iSeq (eVar 0) [some (.l (ws.map wyD)), some (tz r), some d, none, none, none] hs = .ok (ws.map wyD, none) hs := rfl
  have nk : (ws.map wkeys).Nodup := by
    have := hw.nd
    rw [List.nodup_iff_pairwise_ne, List.pairwise_map] at this ⊢
    refine this.imp fun {a b} h e => h ?_
    unfold wkeys at e
    unfold Wy.p
    simp only [List.cons.injEq, Sum.inl.injEq, and_true] at e
    rw [e.1, e.2]
  have dc := dcL_eq (ko := keysOf) (k := none) (g := Mm.gName 5) (ek := eSl vSl (eVar 5) oNone (oSome (eC (.int 2)))) (ev := eBin vIx (eVar 5) (eC (.int 3))) (fs := [some (.l (ws.map wyD)), some (tz r), some d, none, none, none]) (hs := hs) (f := wyD) wkeys (fun w => D.str w.r) trivial ws [] (by have := hw.len; simp; omega) (by simpa using nk) fun w hw => ⟨_, .t [.int w.a, .int w.b], rfl, by simp [eSl, eVar, oNone, oSome, eC, vSl, wyD, cut, sIx], by simp [keysOf, keyOf, wkeys], by simp [eBin, eVar, eC, wyD, vIx, seqOf, ixN]⟩
  simp only [List.nil_append] at dc
  have ed : eDcT [5] (iSeq (eVar 0)) (Mm.gName 5) tYes (eSl vSl (eVar 5) oNone (oSome (eC (.int 2)))) (eBin vIx (eVar 5) (eC (.int 3))) [some (.l (ws.map wyD)), some (tz r), some d, none, none, none] hs = .ok (.loc hs.length) (hs ++ [.dt (ws.map fun w => (wkeys w, D.str w.r))]) := by
    unfold eDcT
    rw [w1]
    simp only [R.bind_ok, wipe, List.set_cons_succ, List.set_cons_zero]
    rw [dc]
    rfl
  simp only [sSeq,ST_seq,sAsg,sPar,sExpr,sIf,sRet,sRetN,sNx,ST_bindS,eMeth,eArgs,aCons,aNil,eBin,eUn,eC,eVar,eAnd,eOr,eNot,eIf,tVal,tAnd,tOr,tNot,tYes,gName,gTup,gCons,gNil,gSub,aa',ab',T_bind,T_ok,ba',bb',bc',T_ite,ST_nx,ST_ret,ac',ad',ae',af',ag',if_true,if_false,ah', start,al',am',an',ao',List.replicate,aq',ar', ed, sFor]
  generalize hD : ws.map (fun w => (wkeys w, D.str w.r)) = kvs
  have hget : ∀ w ∈ ws, dget kvs (wkeys w) = some (.str w.r) := by
    rw [← hD]
    clear dc ed w1 hD hb hw ok hQ
    intro w hw
    induction ws with
    | nil => simp at hw
    | cons v vs ih =>
      rw [List.map_cons, List.nodup_cons] at nk
      simp only [List.map_cons, dget]
      by_cases e : wkeys v = wkeys w
      · rw [if_pos e]
        rcases List.mem_cons.mp hw with rfl | hw
        · rfl
        · exact absurd (List.mem_map_of_mem (f := wkeys) hw) (by rw [← e]; exact nk.1)
      · rw [if_neg e]
        rcases List.mem_cons.mp hw with rfl | hw
        · exact absurd rfl e
        · exact ih nk.2 hw
  have hrng : Mm.iRng2 (aCons (eC (.int 1)) (aCons (eArgs vLen (aCons (eVar 1) aNil)) aNil)) [some (.l (ws.map wyD)), some (tz r), some d, some (.loc hs.length), none, none] (hs ++ [.dt kvs]) = .ok (rng 1 (r.length - 1), none) (hs ++ [.dt kvs]) := by
    unfold Mm.iRng2
    have e1 : vLen [tz r] (hs ++ [O.dt kvs]) = .ok (.int r.length) (hs ++ [O.dt kvs]) := by simp [vLen, one1, seqOf]
    simp only [aCons, aNil, eC, eArgs, eVar, R.bind_ok, List.getElem?_cons_zero, List.getElem?_cons_succ, e1, int2]
    have e2 : ((r.length : Int) - 1).toNat = r.length - 1 := by omega
    rw [if_pos (by unfold lim; omega), e2]
  simp only [hrng, sSeq,ST_seq,sAsg,sPar,sExpr,sIf,sRet,sRetN,sNx,ST_bindS,eMeth,eArgs,aCons,aNil,eBin,eUn,eC,eVar,eAnd,eOr,eNot,eIf,tVal,tAnd,tOr,tNot,tYes,gName,gTup,gCons,gNil,gSub,aa',ab',T_bind,T_ok,ba',bb',bc',T_ite,ST_nx,ST_ret,ac',ad',ae',af',ag',if_true,if_false,ah']
  have hat : (hs ++ [O.dt kvs])[hs.length]? = some (.dt kvs) := by simp
  refine T_rngL (fun j fs h' => h' = hs ++ [.dt kvs] ∧ ∃ d' x, fs = [some (.l (ws.map wyD)), some (tz r), some d', some (.loc hs.length), x, none] ∧ BtD d' (stepsB ws r b j)) ⟨rfl, d, none, rfl, hb⟩ ?_ ?_
  · rintro j hj fs h' ⟨rfl, d', x, rfl, hb'⟩
    obtain ⟨w, hm, hwp⟩ := ok j (by omega)
    have hwa : w.a = r.getD j 0 := congrArg Prod.fst hwp
    have hwb : w.b = r.getD (j + 1) 0 := congrArg Prod.snd hwp
    have i1 : (1 : Int) + (j : Nat) - 1 = ((j : Nat) : Int) := by omega
    have i2 : (1 : Int) + (j : Nat) = ((j + 1 : Nat) : Int) := by omega
    unfold body_along_v2_0
    have v1 : vSub (.int ((j + 1 : Nat) : Int)) (.int 1) (hs ++ [O.dt kvs]) = .ok (.int ((j : Nat) : Int)) (hs ++ [O.dt kvs]) := by
      show R.ok (D.int (((j + 1 : Nat) : Int) - 1)) _ = _
      congr 2
      omega
    have v2 := ix_zi (r := r) (j := j) (hs := hs ++ [O.dt kvs]) (by omega)
    have v3 := ix_zi (r := r) (j := j + 1) (hs := hs ++ [O.dt kvs]) (by omega)
    rw [← hwa] at v2
    rw [← hwb] at v3
    have v4 : vTup [.int w.a, .int w.b] (hs ++ [O.dt kvs]) = .ok (.t [.int w.a, .int w.b]) (hs ++ [O.dt kvs]) := by simp [vTup]
    have gw := hget w hm
    have v5 : vNotIn (.t [.int w.a, .int w.b]) (.loc hs.length) (hs ++ [O.dt kvs]) = .ok (.bl false) (hs ++ [O.dt kvs]) := by
      have gw2 : dget kvs [.inl w.a, .inl w.b] = some (.str w.r) := gw
      simp [vNotIn, inB, listOf, dlook, keysOf, keyOf, gw2]
    have v6 : vIxD (.loc hs.length) (.t [.int w.a, .int w.b]) (hs ++ [O.dt kvs]) = .ok (.str w.r) (hs ++ [O.dt kvs]) := by
      have gw2 : dget kvs [.inl w.a, .inl w.b] = some (.str w.r) := gw
      simp [vIxD, dlook, keysOf, keyOf, gw2]
    rw [i2]
    simp only [sSeq,ST_seq,sAsg,sPar,sExpr,sIf,sRet,sRetN,sNx,ST_bindS,eMeth,eArgs,aCons,aNil,eBin,eUn,eC,eVar,eAnd,eOr,eNot,eIf,tVal,tAnd,tOr,tNot,tYes,gName,gTup,gCons,gNil,gSub,aa',ab',T_bind,T_ok,ba',bb',bc',T_ite,ST_nx,ST_ret,ac',ad',ae',af',ag',if_true,if_false,ah', start,al',am',an',ao',List.replicate,aq',ar', v1, v2, v3, v4, v5, v6]
    refine turned_T hb' (Nat.le_trans (stepsB_len ws r b j) hl) (hw.ok w hm).rr fun d2 h2 => ?_
    simp only [sSeq,ST_seq,sAsg,sPar,sExpr,sIf,sRet,sRetN,sNx,ST_bindS,eMeth,eArgs,aCons,aNil,eBin,eUn,eC,eVar,eAnd,eOr,eNot,eIf,tVal,tAnd,tOr,tNot,tYes,gName,gTup,gCons,gNil,gSub,aa',ab',T_bind,T_ok,ba',bb',bc',T_ite,ST_nx,ST_ret,ac',ad',ae',af',ag',if_true,if_false,ah', start,al',am',an',ao',List.replicate,aq',ar']
    refine ⟨trivial, d2, _, rfl, ?_⟩
    unfold stepsB
    rw [← hwa, ← hwb, ruleOf_mem hw hm]
    exact h2
  · rintro fs h' ⟨rfl, d', x, rfl, hb'⟩
    simp only [sSeq,ST_seq,sAsg,sPar,sExpr,sIf,sRet,sRetN,sNx,ST_bindS,eMeth,eArgs,aCons,aNil,eBin,eUn,eC,eVar,eAnd,eOr,eNot,eIf,tVal,tAnd,tOr,tNot,tYes,gName,gTup,gCons,gNil,gSub,aa',ab',T_bind,T_ok,ba',bb',bc',T_ite,ST_nx,ST_ret,ac',ad',ae',af',ag',if_true,if_false,ah', start,al',am',an',ao',List.replicate,aq',ar']
    exact hQ d' _ hb'
/-- a loop that a turn leaves by an exception -/
theorem for_exc {g : MG} {body : MS} {lo : Int} {hs : Hs} {x : Str} {n : Nat} (I : Nat → Fs → Prop) (lack : Nat → Prop) (step : ∀ k, k < n → ∀ fs, I k fs → ¬ lack k → ∃ fs1 fs2, g (.int (lo + (k : Nat))) fs hs = .ok fs1 hs ∧ body fs1 hs = .nx fs2 hs ∧ I (k + 1) fs2)
    (stop : ∀ k, k < n → ∀ fs, I k fs → lack k → ∃ fs1 fs2, g (.int (lo + (k : Nat))) fs hs = .ok fs1 hs ∧ body fs1 hs = .exc x .non fs2 hs) {fs : Fs} (h0 : I 0 fs) (hl : ∃ k, k < n ∧ lack k) : ∃ fs', forL none g body (rng lo n) fs hs = .exc x .non fs' hs := by
  suffices H : ∀ m k fs, k + m = n → I k fs → (∃ j, k ≤ j ∧ j < n ∧ lack j) → ∃ fs', forL none g body ((rng lo n).drop k) fs hs = .exc x .non fs' hs by
    obtain ⟨j, h1, h2⟩ := hl
    exact H n 0 fs (by omega) h0 ⟨j, Nat.zero_le _, h1, h2⟩
  intro m
  induction m with
  | zero => intro k fs e _ ⟨j, h1, h2, _⟩; omega
  | succ m ih =>
    intro k fs e hI ⟨j, h1, h2, h3⟩
    have hk : k < (rng lo n).length := by rw [rng_len]; omega
    have hg : (rng lo n)[k] = .int (lo + (k : Nat)) := by
      obtain ⟨_, z⟩ := rng_get (List.getElem?_eq_getElem hk); exact z
    rw [List.drop_eq_getElem_cons hk, hg]
    unfold forL
    simp only [stands, if_true]
    by_cases hlk : lack k
    · obtain ⟨fs1, fs2, e1, e2⟩ := stop k (by omega) fs hI hlk
      exact ⟨fs2, by rw [e1]; simp only [R.bindS_ok, e2, if_true]⟩
    · obtain ⟨fs1, fs2, e1, e2, hI2⟩ := step k (by omega) fs hI hlk
      rw [e1]
      simp only [R.bindS_ok, e2]
      refine ih (k + 1) fs2 (by omega) hI2 ⟨j, ?_, h2, h3⟩
      rcases Nat.lt_or_eq_of_le h1 with z | z
      · exact z
      · exact absurd (z ▸ h3) hlk
theorem along2_exc {ws : List Wy} {r b : List Int} {d : D} {hs : Hs} (hw : WaysOk ws) (hb : BtD d b) (hl : b.length ≤ 100) (hr : r.length ≤ 1000) (lk : ∃ j, j + 1 < r.length ∧ (r.getD j 0, r.getD (j + 1) 0) ∉ ws.map Wy.p) : ∃ o, c_along_v2 [.l (ws.map wyD), tz r, d] hs = .exc "BadRoute" .non (hs ++ [o]) := by
  have w1 : iSeq (eVar 0) [some (.l (ws.map wyD)), some (tz r), some d, none, none, none] hs = .ok (ws.map wyD, none) hs := rfl
  have nk : (ws.map wkeys).Nodup := by
    have := hw.nd
    rw [List.nodup_iff_pairwise_ne, List.pairwise_map] at this ⊢
    refine this.imp fun {a b} h e => h ?_
    unfold wkeys at e
    unfold Wy.p
    simp only [List.cons.injEq, Sum.inl.injEq, and_true] at e
    rw [e.1, e.2]
  have dc := dcL_eq (ko := keysOf) (k := none) (g := Mm.gName 5) (ek := eSl vSl (eVar 5) oNone (oSome (eC (.int 2)))) (ev := eBin vIx (eVar 5) (eC (.int 3))) (fs := [some (.l (ws.map wyD)), some (tz r), some d, none, none, none]) (hs := hs) (f := wyD) wkeys (fun w => D.str w.r) trivial ws [] (by have := hw.len; simp; omega) (by simpa using nk) fun w hw => ⟨_, .t [.int w.a, .int w.b], rfl, by simp [eSl, eVar, oNone, oSome, eC, vSl, wyD, cut, sIx], by simp [keysOf, keyOf, wkeys], by simp [eBin, eVar, eC, wyD, vIx, seqOf, ixN]⟩
  simp only [List.nil_append] at dc
  have ed : eDcT [5] (iSeq (eVar 0)) (Mm.gName 5) tYes (eSl vSl (eVar 5) oNone (oSome (eC (.int 2)))) (eBin vIx (eVar 5) (eC (.int 3))) [some (.l (ws.map wyD)), some (tz r), some d, none, none, none] hs = .ok (.loc hs.length) (hs ++ [.dt (ws.map fun w => (wkeys w, D.str w.r))]) := by
    unfold eDcT
    rw [w1]
    simp only [R.bind_ok, wipe, List.set_cons_succ, List.set_cons_zero]
    rw [dc]
    rfl
  generalize hD : ws.map (fun w => (wkeys w, D.str w.r)) = kvs
  have hget : ∀ w ∈ ws, dget kvs (wkeys w) = some (.str w.r) := by
    rw [← hD]
    clear dc ed w1 hD hb hw lk
    intro w hw
    induction ws with
    | nil => simp at hw
    | cons v vs ih =>
      rw [List.map_cons, List.nodup_cons] at nk
      simp only [List.map_cons, dget]
      by_cases e : wkeys v = wkeys w
      · rw [if_pos e]
        rcases List.mem_cons.mp hw with rfl | hw
        · rfl
        · exact absurd (List.mem_map_of_mem (f := wkeys) hw) (by rw [← e]; exact nk.1)
      · rw [if_neg e]
        rcases List.mem_cons.mp hw with rfl | hw
        · exact absurd rfl e
        · exact ih nk.2 hw
  have hnone : ∀ a b : Int, (a, b) ∉ ws.map Wy.p → dget kvs [.inl a, .inl b] = none := by
    rw [← hD]
    clear dc ed w1 hD hget hb hw lk nk
    intro a b h
    induction ws with
    | nil => rfl
    | cons v vs ih =>
      simp only [List.map_cons, List.mem_cons, not_or] at h
      simp only [List.map_cons, dget]
      rw [if_neg, ih h.2]
      intro e
      unfold wkeys at e
      simp only [List.cons.injEq, Sum.inl.injEq, and_true] at e
      exact h.1 (by rw [Wy.p, e.1, e.2])
  have hrng : Mm.iRng2 (aCons (eC (.int 1)) (aCons (eArgs vLen (aCons (eVar 1) aNil)) aNil)) [some (.l (ws.map wyD)), some (tz r), some d, some (.loc hs.length), none, none] (hs ++ [.dt kvs]) = .ok (rng 1 (r.length - 1), none) (hs ++ [.dt kvs]) := by
    unfold Mm.iRng2
    have e1 : vLen [tz r] (hs ++ [O.dt kvs]) = .ok (.int r.length) (hs ++ [O.dt kvs]) := by simp [vLen, one1, seqOf]
    simp only [aCons, aNil, eC, eArgs, eVar, R.bind_ok, List.getElem?_cons_zero, List.getElem?_cons_succ, e1, int2]
    have e2 : ((r.length : Int) - 1).toNat = r.length - 1 := by omega
    rw [if_pos (by unfold lim; omega), e2]
  have hat : (hs ++ [O.dt kvs])[hs.length]? = some (.dt kvs) := by simp
  obtain ⟨j0, lj, ln⟩ := lk
  have key := for_exc (g := Mm.gName 4) (body := body_along_v2_0) (lo := 1) (hs := hs ++ [.dt kvs]) (x := "BadRoute") (n := r.length - 1) (fun j fs => ∃ d' x, fs = [some (.l (ws.map wyD)), some (tz r), some d', some (.loc hs.length), x, none] ∧ BtD d' (stepsB ws r b j)) (fun j => (r.getD j 0, r.getD (j + 1) 0) ∉ ws.map Wy.p) ?_ ?_ (fs := [some (.l (ws.map wyD)), some (tz r), some d, some (.loc hs.length), none, none]) ⟨d, none, rfl, hb⟩ ⟨j0, by omega, ln⟩
  · obtain ⟨fs', e⟩ := key
    refine ⟨.dt kvs, ?_⟩
    have ek : ∀ h, RS.toR (.exc "BadRoute" .non fs' h) = .exc "BadRoute" .non h := fun _ => rfl
    show runD 6 m_along_v2 _ hs = _
    unfold runD m_along_v2
    show RS.toR (RS.seq (R.bindS _ _ _) _) = _
    simp only [start, List.map_cons, List.map_nil, List.length_cons, List.length_nil, List.replicate, List.cons_append, List.nil_append, Nat.reduceAdd, Nat.reduceSub, ed, R.bindS_ok, Mm.gName, List.set_cons_succ, List.set_cons_zero, sSeq, sFor, hD]
    simp only [RS.seq, sSeq, sFor, hrng, R.bindS_ok, e, ek]
  · rintro j hj fs ⟨d', x, rfl, hb'⟩ hn
    obtain ⟨w, hm, hwp⟩ : ∃ w ∈ ws, w.p = (r.getD j 0, r.getD (j + 1) 0) := by simpa using hn
    have hwa : w.a = r.getD j 0 := congrArg Prod.fst hwp
    have hwb : w.b = r.getD (j + 1) 0 := congrArg Prod.snd hwp
    have i1 : (1 : Int) + (j : Nat) - 1 = ((j : Nat) : Int) := by omega
    have i2 : (1 : Int) + (j : Nat) = ((j + 1 : Nat) : Int) := by omega
    unfold body_along_v2_0
    have v1 : vSub (.int ((j + 1 : Nat) : Int)) (.int 1) (hs ++ [O.dt kvs]) = .ok (.int ((j : Nat) : Int)) (hs ++ [O.dt kvs]) := by
      show R.ok (D.int (((j + 1 : Nat) : Int) - 1)) _ = _
      congr 2
      omega
    have v2 := ix_zi (r := r) (j := j) (hs := hs ++ [O.dt kvs]) (by omega)
    have v3 := ix_zi (r := r) (j := j + 1) (hs := hs ++ [O.dt kvs]) (by omega)
    rw [← hwa] at v2
    rw [← hwb] at v3
    have v4 : vTup [.int w.a, .int w.b] (hs ++ [O.dt kvs]) = .ok (.t [.int w.a, .int w.b]) (hs ++ [O.dt kvs]) := by simp [vTup]
    have gw := hget w hm
    have v5 : vNotIn (.t [.int w.a, .int w.b]) (.loc hs.length) (hs ++ [O.dt kvs]) = .ok (.bl false) (hs ++ [O.dt kvs]) := by
      have gw2 : dget kvs [.inl w.a, .inl w.b] = some (.str w.r) := gw
      simp [vNotIn, inB, listOf, dlook, keysOf, keyOf, gw2]
    have v6 : vIxD (.loc hs.length) (.t [.int w.a, .int w.b]) (hs ++ [O.dt kvs]) = .ok (.str w.r) (hs ++ [O.dt kvs]) := by
      have gw2 : dget kvs [.inl w.a, .inl w.b] = some (.str w.r) := gw
      simp [vIxD, dlook, keysOf, keyOf, gw2]
    rw [i2]
    obtain ⟨d2, h2, e2, hb2, rfl⟩ := R.T.eq (turned_T (hs := hs ++ [O.dt kvs]) (Q := fun d' h' => BtD d' (turnB w.r (stepsB ws r b j)) ∧ h' = hs ++ [O.dt kvs]) hb' (Nat.le_trans (stepsB_len ws r b j) hl) (hw.ok w hm).rr fun d2 h2 => ⟨h2, rfl⟩)
    refine ⟨_, [some (.l (ws.map wyD)), some (tz r), some d2, some (.loc hs.length), some (.int ((j + 1 : Nat) : Int)), none], rfl, ?_, d2, _, rfl, ?_⟩
    · simp only [sSeq, sIf, sAsg, tVal, eBin, eArgs, aCons, aNil, eVar, eC, sNx, List.getElem?_cons_zero, List.getElem?_cons_succ, List.set_cons_zero, List.set_cons_succ, R.bind_ok, R.bindS_ok, RS.seq, v1, v2, v3, v4, v5, v6, e2, Mm.gName, Bool.false_eq_true, if_false]
    · unfold stepsB
      rw [← hwa, ← hwb, ruleOf_mem hw hm]
      exact hb2
  · rintro j hj fs ⟨d', x, rfl, hb'⟩ hn
    have i2 : (1 : Int) + (j : Nat) = ((j + 1 : Nat) : Int) := by omega
    unfold body_along_v2_0
    have v1 : vSub (.int ((j + 1 : Nat) : Int)) (.int 1) (hs ++ [O.dt kvs]) = .ok (.int ((j : Nat) : Int)) (hs ++ [O.dt kvs]) := by
      show R.ok (D.int (((j + 1 : Nat) : Int) - 1)) _ = _
      congr 2
      omega
    have v2 := ix_zi (r := r) (j := j) (hs := hs ++ [O.dt kvs]) (by omega)
    have v3 := ix_zi (r := r) (j := j + 1) (hs := hs ++ [O.dt kvs]) (by omega)
    have v4 : ∀ a b : Int, vTup [.int a, .int b] (hs ++ [O.dt kvs]) = .ok (.t [.int a, .int b]) (hs ++ [O.dt kvs]) := fun a b => by simp [vTup]
    have v5 : vNotIn (.t [.int (r.getD j 0), .int (r.getD (j + 1) 0)]) (.loc hs.length) (hs ++ [O.dt kvs]) = .ok (.bl true) (hs ++ [O.dt kvs]) := by
      have nin : ∀ a b : Int, dget kvs [.inl a, .inl b] = none → vNotIn (.t [.int a, .int b]) (.loc hs.length) (hs ++ [O.dt kvs]) = .ok (.bl true) (hs ++ [O.dt kvs]) := fun a b gw2 => by
        simp [vNotIn, inB, listOf, dlook, keysOf, keyOf, gw2]
      exact nin _ _ (hnone _ _ hn)
    rw [i2]
    refine ⟨_, [some (.l (ws.map wyD)), some (tz r), some d', some (.loc hs.length), some (.int ((j + 1 : Nat) : Int)), none], rfl, ?_⟩
    simp only [sSeq, sIf, sAsg, tVal, eBin, eArgs, aCons, aNil, eVar, eC, sNx, List.getElem?_cons_zero, List.getElem?_cons_succ, List.set_cons_zero, List.set_cons_succ, R.bind_ok, R.bindS_ok, RS.seq, v1, v2, v3, v4, v5, Mm.gName, if_true, sRaise]
/-- made: along the ways, or no way -/
theorem made2_ok {ws : List Wy} {row b : List Int} {hs : Hs} (hw : WaysOk ws) (hb : BodOk b) (hk : KsOk row) (ok : PathOk ws row) : ∃ d o, BtD d (alongB ws row b) ∧ c_made [.l (ws.map wyD), .t (zi row), .st (zi b)] hs = .ok d (hs ++ [o]) := by
  suffices H : (c_made [.l (ws.map wyD), .t (zi row), .st (zi b)] hs).T fun d h' => ∃ o, BtD d (alongB ws row b) ∧ h' = hs ++ [o] by
    obtain ⟨d, h', e, o, h1, rfl⟩ := H.eq
    exact ⟨d, o, h1, e⟩
  refine T_callA rfl ?_
  simp only [m_made, start,al',am',an',ao',List.replicate,aq',ar', needWays_eq hw, needKinds_eq hk, needBodyS_eq hb, sSeq,ST_seq,sAsg,sPar,sExpr,sIf,sRet,sRetN,sNx,ST_bindS,eMeth,eArgs,aCons,aNil,eBin,eUn,eC,eVar,eAnd,eOr,eNot,eIf,tVal,tAnd,tOr,tNot,tYes,gName,gTup,gCons,gNil,gSub,aa',ab',T_bind,T_ok,ba',bb',bc',T_ite,ST_nx,ST_ret,ac',ad',ae',af',ag',if_true,if_false,ah']
  have hl := hb.len
  have hr := hk.k9.len
  exact along2_T hw (d := .st (zi b)) (.inr rfl) (by omega) (by omega) ok fun d o hd => ⟨o, hd, rfl⟩
theorem made2_exc {ws : List Wy} {row b : List Int} {hs : Hs} (hw : WaysOk ws) (hb : BodOk b) (hk : KsOk row) (lk : ∃ j, j + 1 < row.length ∧ (row.getD j 0, row.getD (j + 1) 0) ∉ ws.map Wy.p) : ∃ o, c_made [.l (ws.map wyD), .t (zi row), .st (zi b)] hs = .exc "BadRoute" .non (hs ++ [o]) := by
  have hl := hb.len
  have hr := hk.k9.len
  obtain ⟨o, e⟩ := along2_exc (hs := hs) hw (d := .st (zi b)) (.inr rfl) (by omega) (by omega) lk
  refine ⟨o, ?_⟩
  show runD 3 m_made _ hs = _
  unfold runD m_made
  simp only [start, List.map_cons, List.map_nil, List.length_cons, List.length_nil, List.replicate, List.cons_append, List.nil_append, Nat.reduceAdd, Nat.reduceSub, sSeq, sExpr, sRet, eArgs, aCons, aNil, eVar, List.getElem?_cons_zero, List.getElem?_cons_succ, R.bind_ok, R.bindS_ok, RS.seq, needWays_eq hw, needKinds_eq hk, needBodyS_eq hb]
  have e2 : c_along_v2 [.l (ws.map wyD), .t (zi row), .st (zi b)] hs = .exc "BadRoute" .non (hs ++ [o]) := e
  rw [e2]
  rfl
end Mm
namespace Mm
theorem isE_eq {a : Nat} {y z : Str} {hs : Hs} (h : z ∈ errsL) : vIsE a (isTab errsL y) [.fn a, .g z] hs = .ok (.bl (decide (z = y))) hs := by
  unfold vIsE isTab
  simp only [if_true, if_pos h]
theorem isV_eq {a : Nat} {y : Str} {hs : Hs} : vIsE a (isTab errsL y) [.fn a, .ty "ValueError"] hs = .ok (.bl true) hs := by
  unfold vIsE isTab
  simp only [if_true]
theorem at_end {h : Hs} {o : O} : (h ++ [o])[h.length]? = some o := by simp
theorem add_open {h : Hs} {ds es : List D} (h1 : ds.length + es.length ≤ 100000) : vAddO (.loc h.length) (.l es) (h ++ [O.lst ds]) = .ok (.loc (h ++ [O.lst ds]).length) (h ++ [O.lst ds] ++ [O.lst (ds ++ es)]) := by
  unfold vAddO listOf
  simp only [at_end]
  rw [if_pos h1]
theorem app_open {h : Hs} {ds : List D} {d : D} (h1 : ds.length < 100000) : mAppend (.loc h.length) [d] (h ++ [O.lst ds]) = .ok .non (h ++ [O.lst (ds ++ [d])]) := by
  unfold mAppend one1
  simp only [at_end]
  rw [if_pos h1]
  simp
theorem cnt_open {h : Hs} {ds : List D} {bs : List Bool} (e : blsOf ds = some bs) : mCountB (.loc h.length) [.bl true] (h ++ [O.lst ds]) = .ok (.int ((bs.count true : Nat) : Int)) (h ++ [O.lst ds]) := by
  unfold mCountB listOf
  simp only [at_end, Option.bind_some, e]
theorem idx_open {h : Hs} {ds : List D} {bs : List Bool} (e : blsOf ds = some bs) (hl : bs.idxOf true < bs.length) : mIndexB (.loc h.length) [.bl true] (h ++ [O.lst ds]) = .ok (.int ((bs.idxOf true : Nat) : Int)) (h ++ [O.lst ds]) := by
  unfold mIndexB listOf
  simp only [at_end, Option.bind_some, e]
  rw [if_pos hl]
def words14 : List Str := ["ways", "steps", "log", "text", "kind", "kinds", "body", "route", "most", "offers", "program", "clip", "offered", "full"]
def kinds14 : List Str := ["BadWays", "BadSteps", "BadLog", "BadText", "BadKind", "BadKinds", "BadBody", "BadRoute", "BadMost", "BadOffers", "NoProgram", "NoClip", "NotOffered", "Full"]
def bools14 (y : Str) : List Bool := kinds14.map fun z => decide (z = y)
theorem isLst_end {h : Hs} {ds : List D} : isLst (.loc h.length) (h ++ [O.lst ds]) = true := by
  unfold isLst
  simp only [at_end]
theorem T_step {r : RS} {k : MS} {fs' : Fs} {hs' : Hs} {N : Fs → Hs → Prop} {V : D → Hs → Prop} (e : r = .nx fs' hs') (h : RS.T (k fs' hs') N V) : RS.T (RS.seq r k) N V := by rw [e]; exact h
def A1y (y : Str) : List D := [D.bl (decide (("BadWays" : Str) = y)), D.bl (decide (("BadSteps" : Str) = y)), D.bl (decide (("BadLog" : Str) = y)), D.bl (decide (("BadText" : Str) = y))]
def A2y (y : Str) : List D := [D.bl (decide (("BadKind" : Str) = y)), D.bl (decide (("BadKinds" : Str) = y)), D.bl (decide (("BadBody" : Str) = y))]
def A3y (y : Str) : List D := [D.bl (decide (("BadRoute" : Str) = y)), D.bl (decide (("BadMost" : Str) = y)), D.bl (decide (("BadOffers" : Str) = y))]
def A4y (y : Str) : List D := [D.bl (decide (("NoProgram" : Str) = y)), D.bl (decide (("NoClip" : Str) = y)), D.bl (decide (("NotOffered" : Str) = y))]
def X14 (y : Str) : Hs := [O.lst (A1y y)] ++ [O.lst (A1y y ++ A2y y)] ++ [O.lst (A1y y ++ A2y y ++ A3y y)] ++ [O.lst (A1y y ++ A2y y ++ A3y y ++ A4y y ++ [D.bl (decide (("Full" : Str) = y))])]
theorem suite_eq {y w : Str} {a : Nat} {d : D} {H : Hs} (hc : (bools14 y).count true = 1) (hi : (bools14 y).idxOf true < 14) (hw : words14[(bools14 y).idxOf true]? = some w) (n1 : ∀ h, vIn (.str w) (.t [.str "ways", .str "steps", .str "log"]) h = .ok (.bl false) h) (n2 : ∀ h, vEq (.str w) (.str "text") h = .ok (.bl false) h) :
    suite_law_word y a [some d, some (.fn a), none, none, none] H = .ret (.t [.str w, .int 0]) (H ++ X14 y) := by
  have z1 : ∀ z ∈ errsL, ∀ h : Hs, vIsE a (isTab errsL y) [.fn a, .g z] h = .ok (.bl (decide (z = y))) h := fun z hz h => isE_eq hz
  have zv : ∀ h : Hs, vIsE a (isTab errsL y) [.fn a, .ty "ValueError"] h = .ok (.bl true) h := fun h => isV_eq
  have ht : RS.T (suite_law_word y a [some d, some (.fn a), none, none, none] H) (fun _ _ => False) (fun r h' => r = .t [.str w, .int 0] ∧ h' = H ++ X14 y) := by
    unfold suite_law_word
    have i1 := z1 "BadWays" (by decide)
    have i2 := z1 "BadSteps" (by decide)
    have i3 := z1 "BadLog" (by decide)
    have i4 := z1 "BadText" (by decide)
    have i5 := z1 "BadKind" (by decide)
    have i6 := z1 "BadKinds" (by decide)
    have i7 := z1 "BadBody" (by decide)
    have i8 := z1 "BadRoute" (by decide)
    have i9 := z1 "BadMost" (by decide)
    have iA := z1 "BadOffers" (by decide)
    have iB := z1 "NoProgram" (by decide)
    have iC := z1 "NoClip" (by decide)
    have iD := z1 "NotOffered" (by decide)
    have iE := z1 "Full" (by decide)
    have t1 : ∀ (a b c d : D) (h : Hs), vLstO [a, b, c, d] h = .ok (.loc h.length) (h ++ [O.lst [a, b, c, d]]) := fun a b c d h => rfl
    have t2 : ∀ (a b c : D) (h : Hs), vLst [a, b, c] h = .ok (.l [a, b, c]) h := fun a b c h => rfl
    have eB : ∀ (x y : D) (h : Hs), vLst [x, y] h = .ok (.l [x, y]) h := fun x y h => rfl
    have hX : X14 y = [O.lst (A1y y)] ++ [O.lst (A1y y ++ A2y y)] ++ [O.lst (A1y y ++ A2y y ++ A3y y)] ++ [O.lst (A1y y ++ A2y y ++ A3y y ++ A4y y ++ [D.bl (decide (("Full" : Str) = y))])] := rfl
    rw [hX]
    clear hX

    generalize hA : A1y y = A1
    generalize hB : A2y y = A2
    generalize hC : A3y y = A3
    generalize hD : A4y y = A4
    have l1 : A1.length = 4 := by rw [← hA]; rfl
    have l2 : A2.length = 3 := by rw [← hB]; rfl
    have l3 : A3.length = 3 := by rw [← hC]; rfl
    have l4 : A4.length = 3 := by rw [← hD]; rfl
    have cc : blsOf (A1 ++ A2 ++ A3 ++ A4 ++ [D.bl (decide (("Full" : Str) = y))]) = some (bools14 y) := by rw [← hA, ← hB, ← hC, ← hD]; rfl
    show RS.T (RS.seq _ _) _ _
    refine T_step (fs' := [some d, some (.fn a), some (.loc H.length), none, none]) (hs' := H ++ [O.lst A1]) ?_ ?_
    · rw [← hA]; unfold A1y; simp only [sAsg, eArgs, aCons, aNil, eVar, eC, Mm.gName, List.getElem?_cons_zero, List.getElem?_cons_succ, List.set_cons_zero, List.set_cons_succ, R.bind_ok, R.bindS_ok, i1, i2, i3, i4, t1]
    show RS.T (RS.seq _ _) _ _
    refine T_step (fs' := [some d, some (.fn a), some (.loc (H ++ [O.lst A1]).length), none, none]) (hs' := H ++ [O.lst A1] ++ [O.lst (A1 ++ A2)]) ?_ ?_
    · rw [← hB]; unfold A2y; simp only [sAsg, eArgs, eBin, aCons, aNil, eVar, eC, Mm.gName, List.getElem?_cons_zero, List.getElem?_cons_succ, List.set_cons_zero, List.set_cons_succ, R.bind_ok, R.bindS_ok, i5, i6, i7, t2]
      rw [add_open (by simp [l1])]
      rfl
    show RS.T (RS.seq _ _) _ _
    refine T_step (fs' := [some d, some (.fn a), some (.loc (H ++ [O.lst A1] ++ [O.lst (A1 ++ A2)]).length), none, none]) (hs' := H ++ [O.lst A1] ++ [O.lst (A1 ++ A2)] ++ [O.lst (A1 ++ A2 ++ A3)]) ?_ ?_
    · rw [← hC]; unfold A3y; simp only [sAsg, eArgs, eBin, aCons, aNil, eVar, eC, Mm.gName, List.getElem?_cons_zero, List.getElem?_cons_succ, List.set_cons_zero, List.set_cons_succ, R.bind_ok, R.bindS_ok, i8, i9, iA, t2]
      rw [add_open (by simp [l1, l2])]
      rfl
    show RS.T (RS.seq _ _) _ _
    generalize hH2 : H ++ [O.lst A1] ++ [O.lst (A1 ++ A2)] = H2
    refine T_step (fs' := [some d, some (.fn a), some (.loc (H2 ++ [O.lst (A1 ++ A2 ++ A3)]).length), none, none]) (hs' := H2 ++ [O.lst (A1 ++ A2 ++ A3)] ++ [O.lst (A1 ++ A2 ++ A3 ++ A4)]) ?_ ?_
    · rw [← hD]; unfold A4y; simp only [sAsg, eArgs, eBin, aCons, aNil, eVar, eC, Mm.gName, List.getElem?_cons_zero, List.getElem?_cons_succ, List.set_cons_zero, List.set_cons_succ, R.bind_ok, R.bindS_ok, iB, iC, iD, t2]
      rw [add_open (by simp [l1, l2, l3])]
      rfl
    generalize hH3 : H2 ++ [O.lst (A1 ++ A2 ++ A3)] = H3
    generalize hF : D.bl (decide (("Full" : Str) = y)) = F at cc iE
    have lA : (A1 ++ A2 ++ A3 ++ A4).length = 13 := by simp [l1, l2, l3, l4]
    generalize A1 ++ A2 ++ A3 ++ A4 = A at cc lA
    show RS.T (RS.seq _ _) _ _
    refine T_step (fs' := [some d, some (.fn a), some (.loc H3.length), none, none]) (hs' := H3 ++ [O.lst (A ++ [F])]) ?_ ?_
    · simp only [sExpr, eMeth, eArgs, aCons, aNil, eVar, eC, List.getElem?_cons_zero, List.getElem?_cons_succ, R.bind_ok, R.bindS_ok, isLst_end, if_true, iE]
      rw [app_open (by omega)]
      rfl
    show RS.T (RS.seq _ _) _ _
    refine T_step (fs' := [some d, some (.fn a), some (.loc H3.length), none, none]) (hs' := H3 ++ [O.lst (A ++ [F])]) ?_ ?_
    · have e1 : ∀ h, vNe (.int ((1 : Nat) : Int)) (.int 1) h = .ok (.bl false) h := fun h => rfl
      simp only [sIf, tOr, tNot, tVal, eBin, eMeth, eArgs, aCons, aNil, eVar, eC, List.getElem?_cons_zero, List.getElem?_cons_succ, R.bind_ok, R.bindS_ok, isLst_end, if_true, cnt_open cc, hc, e1, zv, Bool.false_eq_true, if_false, Bool.not_true, sNx]
    show RS.T (RS.seq _ _) _ _
    refine T_step (fs' := [some d, some (.fn a), some (.loc H3.length), some (.l ([("ways" : Str), "steps", "log", "text", "kind", "kinds", "body", "route", "most", "offers", "program"].map D.str)), none]) (hs' := H3 ++ [O.lst (A ++ [F])]) ?_ ?_
    · have e1 : ∀ (a1 a2 a3 a4 a5 a6 a7 a8 a9 aA aB : D) (h : Hs), vLst [a1, a2, a3, a4, a5, a6, a7, a8, a9, aA, aB] h = .ok (.l [a1, a2, a3, a4, a5, a6, a7, a8, a9, aA, aB]) h := fun _ _ _ _ _ _ _ _ _ _ _ _ => rfl
      simp only [sAsg, eArgs, aCons, aNil, eC, R.bind_ok, R.bindS_ok, e1, Mm.gName, List.set_cons_zero, List.set_cons_succ]
      rfl
    show RS.T (RS.seq _ _) _ _
    refine T_step (fs' := [some d, some (.fn a), some (.loc H3.length), some (.l ([("ways" : Str), "steps", "log", "text", "kind", "kinds", "body", "route", "most", "offers", "program"].map D.str)), some (.str w)]) (hs' := H3 ++ [O.lst (A ++ [F])]) ?_ ?_
    · have e1 : ∀ h, vAdd (.l ([("ways" : Str), "steps", "log", "text", "kind", "kinds", "body", "route", "most", "offers", "program"].map D.str)) (.l [.str "clip", .str "offered", .str "full"]) h = .ok (.l (words14.map D.str)) h := fun h => rfl
      have e2 : ∀ h, vIx (.l (words14.map D.str)) (.int (((bools14 y).idxOf true : Nat) : Int)) h = .ok (.str w) h := fun h => by
        have hl : (words14.map D.str).length = 14 := rfl
        have e3 : ixN (words14.map D.str).length (((bools14 y).idxOf true : Nat) : Int) = some ((bools14 y).idxOf true) := by
          rw [hl]; unfold ixN
          rw [if_pos (by omega), if_pos (by omega)]; simp
        unfold vIx
        simp only [seqOf, e3, Option.bind_some, List.getElem?_map, hw, Option.map_some]
      have hb : (bools14 y).length = 14 := rfl
      simp only [sAsg, eBin, eMeth, eArgs, aCons, aNil, eVar, eC, List.getElem?_cons_zero, List.getElem?_cons_succ, R.bind_ok, R.bindS_ok, isLst_end, if_true, t2, e1, idx_open cc (by rw [hb]; exact hi), e2, Mm.gName, List.set_cons_zero, List.set_cons_succ]
    show RS.T (RS.seq _ _) _ _
    refine T_step (fs' := [some d, some (.fn a), some (.loc H3.length), some (.l ([("ways" : Str), "steps", "log", "text", "kind", "kinds", "body", "route", "most", "offers", "program"].map D.str)), some (.str w)]) (hs' := H3 ++ [O.lst (A ++ [F])]) ?_ ?_
    · have e1 : ∀ (a b c : D) (h : Hs), vTup [a, b, c] h = .ok (.t [a, b, c]) h := fun _ _ _ _ => rfl
      simp only [sIf, tVal, eBin, eArgs, aCons, aNil, eVar, eC, List.getElem?_cons_zero, List.getElem?_cons_succ, R.bind_ok, R.bindS_ok, e1, n1, Bool.false_eq_true, if_false, sNx]
    have e1 : ∀ (a b : D) (h : Hs), vTup [a, b] h = .ok (.t [a, b]) h := fun _ _ _ => rfl
    simp only [sRet, eIf, tVal, eBin, eArgs, aCons, aNil, eVar, eC, List.getElem?_cons_zero, List.getElem?_cons_succ, R.bind_ok, R.bindS_ok, e1, n2, Bool.false_eq_true, if_false, ST_ret]
    exact ⟨trivial, by rw [← hH3, ← hH2]; simp⟩
  revert ht
  cases suite_law_word y a [some d, some (.fn a), none, none, none] H with
  | ret r h' => rintro ⟨rfl, rfl⟩; rfl
  | nx _ _ => exact False.elim
  | brk _ _ => exact False.elim
  | cnt _ _ => exact False.elim
  | exc _ _ _ _ => exact False.elim
  | bad => exact False.elim
/-- the law's word of such a refusal -/
theorem word_of {act : D → Hs → R D} {d : D} {hs more : Hs} {y w : Str} (e : act d hs = .exc y .non (hs ++ more)) (hy : y ∈ raiL) (hc : (bools14 y).count true = 1) (hi : (bools14 y).idxOf true < 14) (hw : words14[(bools14 y).idxOf true]? = some w)
    (n1 : ∀ h, vIn (.str w) (.t [.str "ways", .str "steps", .str "log"]) h = .ok (.bl false) h) (n2 : ∀ h, vEq (.str w) (.str "text") h = .ok (.bl false) h) : c_law_word act [d] hs = .ok (.t [.str w, .int 0]) hs := by
  suffices H : (c_law_word act [d] hs).T fun x h' => x = .t [.str w, .int 0] ∧ h' = hs by
    obtain ⟨x, h', e, rfl, rfl⟩ := H.eq
    exact e
  refine T_call0 rfl ?_
  unfold m_law_word
  have e1 : sExpr (eAct act 0) [some d, none, none, none, none] hs = .exc y .non [some d, none, none, none, none] (hs ++ more) := by
    unfold sExpr eAct
    simp only [List.getElem?_cons_zero, e, R.bindS_exc]
  show RS.T (RS.seq (sTryAs 1 raiL _ _ [some d, none, none, none, none] hs) _) _ _
  unfold sTryAs
  rw [e1]
  dsimp only
  rw [if_pos hy]
  have nh : ∀ a : Nat, clr 1 (suite_law_word y a ([some d, none, none, none, none].set 1 (some (.fn a))) (hs ++ more)) = .ret (.t [.str w, .int 0]) (hs ++ more ++ X14 y) := fun a => by
    show clr 1 (suite_law_word y a [some d, some (.fn a), none, none, none] (hs ++ more)) = _
    rw [suite_eq hc hi hw n1 n2]
    rfl
  rw [uniS_eq nh]
  simp only [RS.seq, ST_ret]
  exact ⟨more ++ X14 y, by simp, rfl, trivial, trivial⟩
theorem are_of {act : D → Hs → R D} {fns : List D} {hs : Hs} {y w : Str} (hf : fns.length < 100000) (e : ∀ f ∈ fns, ∃ more, act f hs = .exc y .non (hs ++ more)) (hy : y ∈ raiL) (hc : (bools14 y).count true = 1) (hi : (bools14 y).idxOf true < 14) (hw : words14[(bools14 y).idxOf true]? = some w)
    (n1 : ∀ h, vIn (.str w) (.t [.str "ways", .str "steps", .str "log"]) h = .ok (.bl false) h) (n2 : ∀ h, vEq (.str w) (.str "text") h = .ok (.bl false) h) (n3 : ∀ h, vNe (.t [.str w, .int 0]) (.t [.str w, .int 0]) h = .ok (.bl false) h) : c_law_are act [.l fns, .str w] hs = .ok (.bl true) hs := by
  suffices H : (c_law_are act [.l fns, .str w] hs).T fun x h' => x = .bl true ∧ h' = hs by
    obtain ⟨x, h', e, rfl, rfl⟩ := H.eq
    exact e
  refine T_call0 rfl ?_
  unfold m_law_are
  have lc := eLc_eq (own := [2]) (src := iSeq (eVar 0)) (g := Mm.gName 2) (t := tVal (eBin vNe (eArgs (c_law_word act) (aCons (eVar 2) aNil)) (eArgs vTup (aCons (eVar 1) (aCons (eC (.int 0)) aNil))))) (e := eVar 2) (fs := [some (.l fns), some (.str w), none]) (hs := hs) (k := none) (f := id) (l := fns) (fun _ => false) id (by rw [List.map_id]; rfl) trivial hf fun f hf => by
    obtain ⟨more, ef⟩ := e f hf
    have ew := word_of ef hy hc hi hw n1 n2
    refine ⟨[some (.l fns), some (.str w), some f], rfl, ?_, fun z => by cases z⟩
    have t1 : vTup [.str w, .int 0] hs = .ok (.t [.str w, .int 0]) hs := rfl
    simp only [tVal, eBin, eArgs, aCons, aNil, eVar, eC, List.getElem?_cons_zero, List.getElem?_cons_succ, R.bind_ok, ew, t1, n3]
  have e2 : vEq (.l []) (.l []) hs = .ok (.bl true) hs := rfl
  have e3 : vLst [] hs = .ok (.l []) hs := rfl
  have lc2 : eLc [2] (iSeq (eVar 0)) (Mm.gName 2) (tVal (eBin vNe (eArgs (c_law_word act) (aCons (eVar 2) aNil)) (eArgs vTup (aCons (eVar 1) (aCons (eC (.int 0)) aNil))))) (eVar 2) [some (.l fns), some (.str w), none] hs = .ok (.l []) hs := by
    rw [lc]; simp
  simp only [start,al',am',an',ao',List.replicate,aq',ar', sRet, eBin, eArgs, aNil, lc2, e3, e2, sSeq,ST_seq,sAsg,sPar,sExpr,sIf,sRet,sRetN,sNx,ST_bindS,eMeth,eArgs,aCons,aNil,eBin,eUn,eC,eVar,eAnd,eOr,eNot,eIf,tVal,tAnd,tOr,tNot,tYes,gName,gTup,gCons,gNil,gSub,aa',ab',T_bind,T_ok,ba',bb',bc',T_ite,ST_nx,ST_ret,ac',ad',ae',af',ag',if_true,if_false,ah']
  exact ⟨[], by simp, rfl, trivial, trivial⟩
theorem acts_exc {q : Str} {fs : Fs} {vs : L2.St} {hs : Hs} {cs : List Nat} {y : Str} (h1 : hs[1]? = some (.tb q cs fs vs)) : ∀ {l : List (Nat × Nat)} {ms : List M}, l.length = ms.length → (∀ p ∈ l, p.2 ∈ cs) → (∀ m ∈ ms, ∃ more, m fs hs = .exc y .non (hs ++ more)) → ∀ f ∈ fnsOf l, ∃ more, actL q fs vs l ms f hs = .exc y .non (hs ++ more)
  | [], _, _, _, _, f, hf => by cases hf
  | p :: r, [], hl, _, _, _, _ => by simp at hl
  | p :: r, m :: ms, hl, hc, hm, f, hf => by
    obtain ⟨more, em⟩ := hm m List.mem_cons_self
    obtain ⟨a, rfl⟩ : ∃ a, f = .fn a := by
      obtain ⟨p2, _, e⟩ := List.mem_map.mp hf
      exact ⟨_, e.symm⟩
    show ∃ more, orAct (actF p.1 p.2 q fs vs m) (actL q fs vs r ms) (.fn a) hs = _
    by_cases ha : a = p.1
    · refine ⟨more, ?_⟩
      unfold orAct actF
      dsimp only
      rw [if_pos ⟨ha, cs, h1, hc p List.mem_cons_self⟩, em]
    · have hr : D.fn a ∈ fnsOf r := by
        rcases List.mem_cons.mp hf with z | z
        · exact absurd (D.fn.inj z) ha
        · exact z
      obtain ⟨m2, e2⟩ := acts_exc h1 (by simpa using hl) (fun x hx => hc x (List.mem_cons_of_mem _ hx)) (fun x hx => hm x (List.mem_cons_of_mem _ hx)) (.fn a) hr
      refine ⟨m2, ?_⟩
      unfold orAct actF
      dsimp only
      rw [if_neg (fun z => ha z.1)]
      exact e2
/-- all of these works are refused so -/
theorem lams_of {q : Str} {ms : List M} {fs : Fs} {hs : Hs} {y w : Str} (h1 : hs[1]? = some (.tb q [] [] [])) (hn : ms.length < 100000) (hm : ∀ m ∈ ms, ∀ h', ∃ more, m fs h' = .exc y .non (h' ++ more)) (hy : y ∈ raiL) (hc : (bools14 y).count true = 1) (hi : (bools14 y).idxOf true < 14) (hw : words14[(bools14 y).idxOf true]? = some w)
    (n1 : ∀ h, vIn (.str w) (.t [.str "ways", .str "steps", .str "log"]) h = .ok (.bl false) h) (n2 : ∀ h, vEq (.str w) (.str "text") h = .ok (.bl false) h) (n3 : ∀ h, vNe (.t [.str w, .int 0]) (.t [.str w, .int 0]) h = .ok (.bl false) h) : eLams q ms c_law_are w fs hs = .ok (.bl true) hs := by
  have ht : tbOf q hs = some [] := by
    unfold tbOf
    rw [h1]
    simp
  have hlen : 1 < hs.length := (List.getElem?_eq_some_iff.mp h1).1
  unfold eLams
  rw [ht]
  refine uniR_eq fun l vs hl => ?_
  have h2 : (hs.set 1 (.tb q (codesOf l []) fs vs))[1]? = some (.tb q (codesOf l []) fs vs) := List.getElem?_set_self hlen
  rw [are_of (by simp [fnsOf]; omega) (acts_exc h2 hl (fun p hp => by simp [codesOf]; exact ⟨p.1, hp⟩) fun m hm2 => hm m hm2 _) hy hc hi hw n1 n2 n3]
  unfold rest
  dsimp only
  rw [h2]
  simp only [if_true, List.set_set]
  congr 1
  exact List.ext_getElem? fun i => by
    by_cases hi : i = 1
    · subst hi; rw [List.getElem?_set_self hlen, h1]
    · rw [List.getElem?_set_ne (Ne.symm hi)]
end Mm
namespace Mm
theorem nin_tz {i : Int} {l : List Int} {hs : Hs} : vNotIn (.int i) (.t (zi l)) hs = .ok (.bl (!decide (i ∈ l))) hs := by
  have e := in_tz (i := i) (l := l) (hs := hs)
  unfold vIn at e
  unfold vNotIn
  cases q : inB (.int i) (.t (zi l)) hs with
  | none => rw [q] at e; cases e
  | some b =>
    rw [q] at e
    cases e
    rfl
theorem okd_wyM {ws : List Wy} (hw : WaysOk ws) : ∀ d ∈ ws.map wyD, okd 59 d = true := fun d hd => by
  obtain ⟨w, hm, rfl⟩ := List.mem_map.mp hd
  exact okd_wy (hw.ok w hm).rr 54
theorem ks_snoc {row : List Int} {g : Int} (h : KsOk row) (h0 : 0 ≤ g) (h1 : g < 10) (hn : g ∉ row) : KsOk (row ++ [g]) :=
  ⟨fun k hk => by
    rcases List.mem_append.mp hk with z | z
    · exact h.lo k z
    · rw [List.mem_singleton] at z; omega, fun k hk => by
    rcases List.mem_append.mp hk with z | z
    · exact h.hi k z
    · rw [List.mem_singleton] at z; omega, List.nodup_append.mpr ⟨h.nd, by simp, fun a ha b hb => by rw [List.mem_singleton] at hb; subst hb; exact fun z => hn (z ▸ ha)⟩, by simp⟩
/-- a row of unlike kinds -/
theorem walk_T {ws : List Wy} {hs : Hs} (hw : WaysOk ws) (h : DiY hs) {Q : D → Hs → Prop} (hQ : ∀ (row : List Int) (hs' : Hs), KsOk row → DiN hs hs' → Q (.t (zi row)) hs') : (c_law_walk [.loc 0, .l (ws.map wyD)] hs).T Q := by
  refine T_callA rfl ?_
  have t1 : ∀ (a : D) (h : Hs), vTup [a] h = .ok (.t [a]) h := fun _ _ => rfl
  have n0 : ∀ h : Hs, vNe (.l (ws.map wyD)) (.l []) h = .ok (.bl (!(ws.map wyD).isEmpty)) h := fun h => ne_nilD (okd_wyM hw)
  have l0 : ∀ h : Hs, vLst [] h = .ok (.l []) h := fun _ => rfl
  unfold m_law_walk
  simp only [sSeq,ST_seq,sAsg,sPar,sExpr,sIf,sRet,sRetN,sNx,ST_bindS,eMeth,eArgs,aCons,aNil,eBin,eUn,eC,eVar,eAnd,eOr,eNot,eIf,tVal,tAnd,tOr,tNot,tYes,gName,gTup,gCons,gNil,gSub,aa',ab',T_bind,T_ok,ba',bb',bc',T_ite,ST_nx,ST_ret,ac',ad',ae',af',ag',if_true,if_false,ah', start,al',am',an',ao',List.replicate,aq',ar', t1]
  refine off_D h (by decide) (by decide) fun r hs1 r0 r1 D1 => ?_
  simp only [sSeq,ST_seq,sAsg,sPar,sExpr,sIf,sRet,sRetN,sNx,ST_bindS,eMeth,eArgs,aCons,aNil,eBin,eUn,eC,eVar,eAnd,eOr,eNot,eIf,tVal,tAnd,tOr,tNot,tYes,gName,gTup,gCons,gNil,gSub,aa',ab',T_bind,T_ok,ba',bb',bc',T_ite,ST_nx,ST_ret,ac',ad',ae',af',ag',if_true,if_false,ah', l0, n0]
  -- the loop, from any row
  have loop : ∀ (row : List Int) (hs2 : Hs) (x : Option D), KsOk row → DiN hs hs2 → RS.T (sSeq (sFor (Mm.iRng1 (aCons (eArgs c_law_off (aCons (eVar 0) (aCons (eC (.int 10)) aNil))) aNil)) (Mm.gName 3) body_law_walk_0) (sRet (eVar 2)) [some (.loc 0), some (.l (ws.map wyD)), some (.t (zi row)), none, none, none, none, none, none, none] hs2) (fun _ h' => Q .non h') Q := by
    intro row hs2 x hk D2
    simp only [sFor, Mm.iRng1, sSeq,ST_seq,sAsg,sPar,sExpr,sIf,sRet,sRetN,sNx,ST_bindS,eMeth,eArgs,aCons,aNil,eBin,eUn,eC,eVar,eAnd,eOr,eNot,eIf,tVal,tAnd,tOr,tNot,tYes,gName,gTup,gCons,gNil,gSub,aa',ab',T_bind,T_ok,ba',bb',bc',T_ite,ST_nx,ST_ret,ac',ad',ae',af',ag',if_true,if_false,ah']
    refine off_D D2.dy (by decide) (by decide) fun n hs3 n0' n1 D3 => ?_
    have hlim : -lim ≤ n ∧ n ≤ lim := by unfold lim; omega
    simp only [int1, if_pos hlim, sSeq,ST_seq,sAsg,sPar,sExpr,sIf,sRet,sRetN,sNx,ST_bindS,eMeth,eArgs,aCons,aNil,eBin,eUn,eC,eVar,eAnd,eOr,eNot,eIf,tVal,tAnd,tOr,tNot,tYes,gName,gTup,gCons,gNil,gSub,aa',ab',T_bind,T_ok,ba',bb',bc',T_ite,ST_nx,ST_ret,ac',ad',ae',af',ag',if_true,if_false,ah']
    refine T_rngL (fun j fs h' => DiN hs h' ∧ ∃ row x y, KsOk row ∧ fs = [some (.loc 0), some (.l (ws.map wyD)), some (.t (zi row)), x, y, none, none, none, none, none]) ⟨D2.trans D3, row, none, none, hk, rfl⟩ ?_ ?_
    · rintro j hj fs h' ⟨Dh, row, x, y, hk, rfl⟩
      have hne : row ≠ [] := hk.ne
      have hl9 := hk.k9.len
      simp only [sSeq,ST_seq,sAsg,sPar,sExpr,sIf,sRet,sRetN,sNx,ST_bindS,eMeth,eArgs,aCons,aNil,eBin,eUn,eC,eVar,eAnd,eOr,eNot,eIf,tVal,tAnd,tOr,tNot,tYes,gName,gTup,gCons,gNil,gSub,aa',ab',T_bind,T_ok,ba',bb',bc',T_ite,ST_nx,ST_ret,ac',ad',ae',af',ag',if_true,if_false,ah']
      unfold body_law_walk_0
      have x1 : ∀ h : Hs, vIx (.t (zi row)) (.int (-1)) h = .ok (.int (row.getD (row.length - 1) 0)) h := fun h => ix_lastZ hne
      have lc := eLc_eq (own := [5, 6, 7, 8]) (src := iSeq (eVar 1)) (g := Mm.gTup (Mm.gCons (Mm.gName 5) (Mm.gCons (Mm.gName 6) (Mm.gCons (Mm.gName 7) (Mm.gCons (Mm.gName 8) Mm.gNil))))) (t := tAnd (tVal (eBin vEq (eVar 5) (eBin vIx (eVar 2) (eUn vNeg (eC (.int 1)))))) (tVal (eBin vNotIn (eVar 6) (eVar 2)))) (e := eVar 6) (fs := [some (.loc 0), some (.l (ws.map wyD)), some (.t (zi row)), some (.int (0 + (j : Nat))), y, none, none, none, none, none]) (hs := h') (k := none) (f := wyD) (l := ws)
        (fun w => decide (w.a = row.getD (row.length - 1) 0) && !decide (w.b ∈ row)) (fun w => .int w.b) rfl trivial (by have := hw.len; omega) fun w hw2 => ⟨[some (.loc 0), some (.l (ws.map wyD)), some (.t (zi row)), some (.int (0 + (j : Nat))), y, some (.int w.a), some (.int w.b), some (.int w.l), some (.str w.r), none], rfl, by
          have ng : ∀ h : Hs, vNeg (.int 1) h = .ok (.int (-1)) h := fun _ => rfl
          simp only [tAnd, tVal, eBin, eUn, eVar, eC, List.getElem?_cons_zero, List.getElem?_cons_succ, R.bind_ok, ng, x1, eqI]
          by_cases hz : w.a = row.getD (row.length - 1) 0
          · simp only [hz, decide_true, if_true, nin_tz, R.bind_ok, Bool.true_and]
          · simp only [hz, decide_false, Bool.false_eq_true, if_false, Bool.false_and], fun _ => rfl⟩
      generalize hg : (ws.filter fun w => decide (w.a = row.getD (row.length - 1) 0) && !decide (w.b ∈ row)).map Wy.b = gs at *
      have eg : ((ws.filter fun w => decide (w.a = row.getD (row.length - 1) 0) && !decide (w.b ∈ row)).map fun w => D.int w.b) = zi gs := by rw [← hg]; simp [zi]
      rw [eg] at lc
      have gok : ∀ g ∈ gs, 0 ≤ g ∧ g < 10 ∧ g ∉ row := fun g hg2 => by
        rw [← hg] at hg2
        obtain ⟨w, hw2, rfl⟩ := List.mem_map.mp hg2
        obtain ⟨h1, h2⟩ := List.mem_filter.mp hw2
        have W := hw.ok w h1
        simp only [Bool.and_eq_true, Bool.not_eq_true', decide_eq_false_iff_not] at h2
        exact ⟨W.b0, W.b1, h2.2⟩
      have lc2 := fun h6 : Hs => eLc_eq (hs := h6) (own := [9]) (src := Mm.iRng1 (aCons (eC (.int 10)) aNil)) (g := Mm.gName 9) (t := tVal (eBin vNotIn (eVar 9) (eVar 2))) (e := eVar 9) (fs := [some (.loc 0), some (.l (ws.map wyD)), some (.t (zi row)), some (.int (0 + (j : Nat))), some (.l (zi gs)), none, none, none, none, none]) (k := none) (f := fun i : Nat => D.int (0 + (i : Int))) (l := List.range 10)
        (fun i => !decide (((0 : Int) + (i : Nat)) ∈ row)) (fun i => .int (0 + (i : Int)))
      -- what is drawn from
      have last : ∀ (gs : List Int) (h2 : Hs), (∀ g ∈ gs, 0 ≤ g ∧ g < 10 ∧ g ∉ row) → gs.length < 1000 → DiN hs h2 → RS.T (sIf (tVal (eBin vNe (eVar 4) (eArgs vLst aNil))) (sAsg (eBin vAdd (eVar 2) (eArgs vTup (aCons (eBin vIx (eVar 4) (eArgs c_law_off (aCons (eVar 0) (aCons (eArgs vLen (aCons (eVar 4) aNil)) aNil)))) aNil))) (Mm.gName 2)) sNx [some (.loc 0), some (.l (ws.map wyD)), some (.t (zi row)), some (.int (0 + (j : Nat))), some (.l (zi gs)), none, none, none, none, none] h2)
          (fun fs2 h3 => DiN hs h3 ∧ ∃ row x y, KsOk row ∧ fs2 = [some (.loc 0), some (.l (ws.map wyD)), some (.t (zi row)), x, y, none, none, none, none, none]) Q := by
        intro gs h2 gok gl D4
        have n1 : ∀ h : Hs, vNe (.l (zi gs)) (.l []) h = .ok (.bl (!(zi gs).isEmpty)) h := fun h => ne_nilD okd_zi
        simp only [sSeq,ST_seq,sAsg,sPar,sExpr,sIf,sRet,sRetN,sNx,ST_bindS,eMeth,eArgs,aCons,aNil,eBin,eUn,eC,eVar,eAnd,eOr,eNot,eIf,tVal,tAnd,tOr,tNot,tYes,gName,gTup,gCons,gNil,gSub,aa',ab',T_bind,T_ok,ba',bb',bc',T_ite,ST_nx,ST_ret,ac',ad',ae',af',ag',if_true,if_false,ah', l0, n1]
        cases gs with
        | nil => exact ⟨D4, row, _, _, hk, rfl⟩
        | cons g0 gr =>
          have en : (!(zi (g0 :: gr)).isEmpty) = true := rfl
          have ln : vLen [.l (zi (g0 :: gr))] h2 = .ok (.int (((g0 :: gr).length : Nat) : Int)) h2 := by simp [vLen, one1, seqOf]
          simp only [en, if_true, sSeq,ST_seq,sAsg,sPar,sExpr,sIf,sRet,sRetN,sNx,ST_bindS,eMeth,eArgs,aCons,aNil,eBin,eUn,eC,eVar,eAnd,eOr,eNot,eIf,tVal,tAnd,tOr,tNot,tYes,gName,gTup,gCons,gNil,gSub,aa',ab',T_bind,T_ok,ba',bb',bc',T_ite,ST_nx,ST_ret,ac',ad',ae',af',ag',if_true,if_false,ah', ln]
          refine off_D D4.dy (by simp) (by simp at gl ⊢; omega) fun r h5 r0 r1 D5 => ?_
          refine ix_lit r0 (by simpa using r1) fun d hd => ?_
          obtain ⟨g, hg3, rfl⟩ := mem_zi hd
          obtain ⟨g1, g2, g3⟩ := gok g hg3
          have ad : vAdd (.t (zi row)) (.t [.int g]) h5 = .ok (.t (zi (row ++ [g]))) h5 := by
            unfold vAdd
            dsimp only
            rw [if_pos (by simp; omega)]
            simp [zi]
          simp only [t1, sSeq,ST_seq,sAsg,sPar,sExpr,sIf,sRet,sRetN,sNx,ST_bindS,eMeth,eArgs,aCons,aNil,eBin,eUn,eC,eVar,eAnd,eOr,eNot,eIf,tVal,tAnd,tOr,tNot,tYes,gName,gTup,gCons,gNil,gSub,aa',ab',T_bind,T_ok,ba',bb',bc',T_ite,ST_nx,ST_ret,ac',ad',ae',af',ag',if_true,if_false,ah', ad]
          exact ⟨D4.trans D5, row ++ [g], _, _, ks_snoc hk g1 g2 g3, rfl⟩
      have gl : gs.length < 1000 := by
        rw [← hg, List.length_map]
        have := List.length_filter_le (fun w : Wy => decide (w.a = row.getD (row.length - 1) 0) && !decide (w.b ∈ row)) ws
        have := hw.len
        omega
      simp only [sSeq,ST_seq,sAsg,sPar,sExpr,sIf,sRet,sRetN,sNx,ST_bindS,eMeth,eArgs,aCons,aNil,eBin,eUn,eC,eVar,eAnd,eOr,eNot,eIf,tVal,tAnd,tOr,tNot,tYes,gName,gTup,gCons,gNil,gSub,aa',ab',T_bind,T_ok,ba',bb',bc',T_ite,ST_nx,ST_ret,ac',ad',ae',af',ag',if_true,if_false,ah', lc]
      refine off_D Dh.dy (by decide) (by decide) fun r h6 r0 r1 D6 => ?_
      simp only [sSeq,ST_seq,sAsg,sPar,sExpr,sIf,sRet,sRetN,sNx,ST_bindS,eMeth,eArgs,aCons,aNil,eBin,eUn,eC,eVar,eAnd,eOr,eNot,eIf,tVal,tAnd,tOr,tNot,tYes,gName,gTup,gCons,gNil,gSub,aa',ab',T_bind,T_ok,ba',bb',bc',T_ite,ST_nx,ST_ret,ac',ad',ae',af',ag',if_true,if_false,ah', eqI]
      by_cases hr : r = 0
      · have lc3 := lc2 h6 (by simp [Mm.iRng1, aCons, aNil, eC, int1, lim, rng]) trivial (by simp) fun i hi => ⟨[some (.loc 0), some (.l (ws.map wyD)), some (.t (zi row)), some (.int (0 + (j : Nat))), some (.l (zi gs)), none, none, none, none, some (.int (0 + (i : Int)))], rfl, by simp only [tVal, eBin, eVar, List.getElem?_cons_zero, List.getElem?_cons_succ, R.bind_ok, nin_tz], fun _ => rfl⟩
        generalize hg2 : ((List.range 10).filter fun i => !decide (((0 : Int) + (i : Nat)) ∈ row)).map (fun i : Nat => (0 : Int) + (i : Int)) = g2
        have eg2 : (((List.range 10).filter fun i => !decide (((0 : Int) + (i : Nat)) ∈ row)).map fun i : Nat => D.int (0 + (i : Int))) = zi g2 := by rw [← hg2]; simp [zi]
        rw [eg2] at lc3
        simp only [hr, decide_true, if_true, sSeq,ST_seq,sAsg,sPar,sExpr,sIf,sRet,sRetN,sNx,ST_bindS,eMeth,eArgs,aCons,aNil,eBin,eUn,eC,eVar,eAnd,eOr,eNot,eIf,tVal,tAnd,tOr,tNot,tYes,gName,gTup,gCons,gNil,gSub,aa',ab',T_bind,T_ok,ba',bb',bc',T_ite,ST_nx,ST_ret,ac',ad',ae',af',ag',if_true,if_false,ah', lc3]
        have Lp := last g2 h6 (fun g hg3 => ?_) ?_ (Dh.trans D6)
        · simp only [sSeq,ST_seq,sAsg,sPar,sExpr,sIf,sRet,sRetN,sNx,ST_bindS,eMeth,eArgs,aCons,aNil,eBin,eUn,eC,eVar,eAnd,eOr,eNot,eIf,tVal,tAnd,tOr,tNot,tYes,gName,gTup,gCons,gNil,gSub,aa',ab',T_bind,T_ok,ba',bb',bc',T_ite,ST_nx,ST_ret,ac',ad',ae',af',ag',if_true,if_false,ah'] at Lp
          exact Lp
        · rw [← hg2] at hg3
          obtain ⟨i, hi, rfl⟩ := List.mem_map.mp hg3
          obtain ⟨h1, h2⟩ := List.mem_filter.mp hi
          have := List.mem_range.mp h1
          simp only [Bool.not_eq_true', decide_eq_false_iff_not] at h2
          exact ⟨by omega, by omega, h2⟩
        · rw [← hg2, List.length_map]
          have := List.length_filter_le (fun i : Nat => !decide (((0 : Int) + (i : Nat)) ∈ row)) (List.range 10)
          rw [List.length_range] at this
          omega
      · simp only [hr, decide_false, Bool.false_eq_true, if_false, sSeq,ST_seq,sAsg,sPar,sExpr,sIf,sRet,sRetN,sNx,ST_bindS,eMeth,eArgs,aCons,aNil,eBin,eUn,eC,eVar,eAnd,eOr,eNot,eIf,tVal,tAnd,tOr,tNot,tYes,gName,gTup,gCons,gNil,gSub,aa',ab',T_bind,T_ok,ba',bb',bc',T_ite,ST_nx,ST_ret,ac',ad',ae',af',ag',if_true,if_false,ah']
        have Lp := last gs h6 gok gl (Dh.trans D6)
        simp only [sSeq,ST_seq,sAsg,sPar,sExpr,sIf,sRet,sRetN,sNx,ST_bindS,eMeth,eArgs,aCons,aNil,eBin,eUn,eC,eVar,eAnd,eOr,eNot,eIf,tVal,tAnd,tOr,tNot,tYes,gName,gTup,gCons,gNil,gSub,aa',ab',T_bind,T_ok,ba',bb',bc',T_ite,ST_nx,ST_ret,ac',ad',ae',af',ag',if_true,if_false,ah'] at Lp
        exact Lp
    · rintro fs h' ⟨Dh, row, x, y, hk, rfl⟩
      simp only [sSeq,ST_seq,sAsg,sPar,sExpr,sIf,sRet,sRetN,sNx,ST_bindS,eMeth,eArgs,aCons,aNil,eBin,eUn,eC,eVar,eAnd,eOr,eNot,eIf,tVal,tAnd,tOr,tNot,tYes,gName,gTup,gCons,gNil,gSub,aa',ab',T_bind,T_ok,ba',bb',bc',T_ite,ST_nx,ST_ret,ac',ad',ae',af',ag',if_true,if_false,ah']
      exact hQ row h' hk Dh
  cases ws with
  | nil =>
    simp only [List.map_nil, List.isEmpty_nil, sSeq,ST_seq,sAsg,sPar,sExpr,sIf,sRet,sRetN,sNx,ST_bindS,eMeth,eArgs,aCons,aNil,eBin,eUn,eC,eVar,eAnd,eOr,eNot,eIf,tVal,tAnd,tOr,tNot,tYes,gName,gTup,gCons,gNil,gSub,aa',ab',T_bind,T_ok,ba',bb',bc',T_ite,ST_nx,ST_ret,ac',ad',ae',af',ag',if_true,if_false,ah']
    have Lp := loop [r] hs1 none ⟨by simpa using r0, by simpa using r1, by simp, by simp⟩ D1
    simp only [sSeq,ST_seq,sAsg,sPar,sExpr,sIf,sRet,sRetN,sNx,ST_bindS,eMeth,eArgs,aCons,aNil,eBin,eUn,eC,eVar,eAnd,eOr,eNot,eIf,tVal,tAnd,tOr,tNot,tYes,gName,gTup,gCons,gNil,gSub,aa',ab',T_bind,T_ok,ba',bb',bc',T_ite,ST_nx,ST_ret,ac',ad',ae',af',ag',if_true,if_false,ah'] at Lp
    exact Lp
  | cons w0 wr =>
    have en : (!((w0 :: wr).map wyD).isEmpty) = true := rfl
    have ln : vLen [.l ((w0 :: wr).map wyD)] hs1 = .ok (.int (((w0 :: wr).length : Nat) : Int)) hs1 := by simp [vLen, one1, seqOf]
    simp only [en, if_true, sSeq,ST_seq,sAsg,sPar,sExpr,sIf,sRet,sRetN,sNx,ST_bindS,eMeth,eArgs,aCons,aNil,eBin,eUn,eC,eVar,eAnd,eOr,eNot,eIf,tVal,tAnd,tOr,tNot,tYes,gName,gTup,gCons,gNil,gSub,aa',ab',T_bind,T_ok,ba',bb',bc',T_ite,ST_nx,ST_ret,ac',ad',ae',af',ag',if_true,if_false,ah', ln]
    refine off_D D1.dy (by simp) (by have := hw.len; simp at this ⊢; omega) fun r h5 r0 r1 D5 => ?_
    refine ix_lit r0 (by simpa using r1) fun d hd => ?_
    obtain ⟨w, hw2, rfl⟩ := List.mem_map.mp hd
    have W := hw.ok w hw2
    have x1 : ∀ h : Hs, vIx (wyD w) (.int 0) h = .ok (.int w.a) h := fun _ => rfl
    simp only [x1, t1, sSeq,ST_seq,sAsg,sPar,sExpr,sIf,sRet,sRetN,sNx,ST_bindS,eMeth,eArgs,aCons,aNil,eBin,eUn,eC,eVar,eAnd,eOr,eNot,eIf,tVal,tAnd,tOr,tNot,tYes,gName,gTup,gCons,gNil,gSub,aa',ab',T_bind,T_ok,ba',bb',bc',T_ite,ST_nx,ST_ret,ac',ad',ae',af',ag',if_true,if_false,ah']
    have Lp := loop [w.a] h5 none ⟨by simpa using W.a0, by simpa using W.a1, by simp, by simp⟩ (D1.trans D5)
    simp only [sSeq,ST_seq,sAsg,sPar,sExpr,sIf,sRet,sRetN,sNx,ST_bindS,eMeth,eArgs,aCons,aNil,eBin,eUn,eC,eVar,eAnd,eOr,eNot,eIf,tVal,tAnd,tOr,tNot,tYes,gName,gTup,gCons,gNil,gSub,aa',ab',T_bind,T_ok,ba',bb',bc',T_ite,ST_nx,ST_ret,ac',ad',ae',af',ag',if_true,if_false,ah'] at Lp
    exact Lp
abbrev qL : Str := "law.<locals>.<lambda>"
/-- the dice, the table -/
def DiT (hs : Hs) : Prop := DiY hs ∧ hs[1]? = some (.tb qL [] [] [])
theorem DiT.next {a b : Hs} (h : DiT a) (d : DiN a b) : DiT b := by
  refine ⟨d.dy, ?_⟩
  obtain ⟨ds, ds', tl, more, rfl, rfl, _⟩ := d
  have h2 := h.2
  have : tl[0]? = some (.tb qL [] [] []) := by simpa using h2
  have hl := (List.getElem?_eq_some_iff.mp this).1
  show (tl ++ more)[0]? = _
  rw [List.getElem?_append_left hl]; exact this
theorem route_lams {ws : List Wy} {row b : List Int} {hs : Hs} {fs : Fs} (h : DiT hs) (hw : WaysOk ws) (hb : BodOk b) (hk : KsOk row) (lk : ∃ j, j + 1 < row.length ∧ (row.getD j 0, row.getD (j + 1) 0) ∉ ws.map Wy.p) (h3 : fs[3]? = some (some (.l (ws.map wyD)))) (h4 : fs[4]? = some (some (.t (zi row)))) (h5 : fs[5]? = some (some (.st (zi b)))) :
    eLams qL [(eArgs c_made (aCons (eVar 3) (aCons (eVar 4) (aCons (eVar 5) aNil))))] c_law_are "route" fs hs = .ok (.bl true) hs := by
  refine lams_of (y := "BadRoute") h.2 (by simp) (fun m hm h' => ?_) (by decide) (by decide) (by decide) (by decide) (fun _ => rfl) (fun h => by rw [vEq_D (by decide +kernel) (by decide +kernel) rfl rfl]; rfl) (fun h => by rw [vNe_D (by decide +kernel) (by decide +kernel) rfl rfl, show deq (.t [.str "route", .int 0]) (.t [.str "route", .int 0]) = true by decide +kernel]; rfl)
  rw [List.mem_singleton] at hm
  subst hm
  obtain ⟨o, e⟩ := made2_exc (hs := h') hw hb hk lk
  exact ⟨[o], by simp only [eArgs, aCons, aNil, eVar, h3, h4, h5, R.bind_ok, e]⟩
theorem pure_law : ∀ ns : List Int, ns.length ≤ 63 → ∃ hs', lawT "law.<locals>.<lambda>" 11 lawM1 lawM2 [.rl (ns.map D.int)] = .ok (.bl true) hs' := by
  intro ns hn
  have e1 : ∃ ds : List Int, 2 ≤ ds.length ∧ lawM1 (start 11 [.rl (ns.map D.int)]) [] = .nx ([some (.rl (zi ns)), some (.loc 0)] ++ List.replicate 9 none) [.lst (zi ds)] := by
    have D0 := dice_T (k := 0) (ns := ns) hn (Q := fun d h => ∃ ds : List Int, 2 ≤ ds.length ∧ d = .loc 0 ∧ h = [.lst (zi ds)]) fun ds hd => ⟨ds, hd, rfl, rfl⟩
    obtain ⟨d, h, e, ds, hd, rfl, rfl⟩ := D0.eq
    refine ⟨ds, hd, ?_⟩
    show R.bindS _ (R.bind (R.bind (R.ok (D.rl (zi ns)) []) _) _) _ = _
    simp only [R.bind_ok, aCons, aNil, eC, e, R.bindS_ok, Mm.gName]
    rfl
  obtain ⟨ds, hd, e1⟩ := e1
  unfold lawT
  rw [e1]
  dsimp only
  rw [if_pos (show [O.lst (zi ds)].length = 1 from rfl)]
  suffices H : RS.T (lawM2 ([some (.rl (zi ns)), some (.loc 0)] ++ List.replicate 9 none) ([O.lst (zi ds)] ++ [O.tb "law.<locals>.<lambda>" [] [] []])) (fun _ _ => False) (fun d _ => d = .bl true) by
    revert H
    cases lawM2 ([some (.rl (zi ns)), some (.loc 0)] ++ List.replicate 9 none) ([O.lst (zi ds)] ++ [O.tb "law.<locals>.<lambda>" [] [] []]) with
    | ret d h => rintro rfl; exact ⟨h, rfl⟩
    | nx _ _ => exact False.elim
    | brk _ _ => exact False.elim
    | cnt _ _ => exact False.elim
    | exc _ _ _ _ => exact False.elim
    | bad => exact False.elim
  unfold lawM2
  have hlim : -lim ≤ (6 : Int) ∧ (6 : Int) ≤ lim := by decide
  simp only [sSeq,ST_seq,sAsg,sPar,sExpr,sIf,sRet,sRetN,sNx,ST_bindS,eMeth,eArgs,aCons,aNil,eBin,eUn,eC,eVar,eAnd,eOr,eNot,eIf,tVal,tAnd,tOr,tNot,tYes,gName,gTup,gCons,gNil,gSub,aa',ab',T_bind,T_ok,ba',bb',bc',T_ite,ST_nx,ST_ret,ac',ad',ae',af',ag',if_true,if_false,ah', sFor, Mm.iRng1, int1, if_pos hlim, List.replicate, List.cons_append, List.nil_append]
  refine T_rngL (fun j fs h' => DiT h' ∧ ∃ x2 x3 x4 x5 x6 x7 x8, fs = [some (.rl (zi ns)), some (.loc 0), x2, x3, x4, x5, x6, x7, x8, none, none]) ⟨⟨⟨ds, _, rfl, hd⟩, rfl⟩, none, none, none, none, none, none, none, rfl⟩ ?_ ?_
  · rintro j hj fs h' ⟨Dt, x2, x3, x4, x5, x6, x7, x8, rfl⟩
    simp only [sSeq,ST_seq,sAsg,sPar,sExpr,sIf,sRet,sRetN,sNx,ST_bindS,eMeth,eArgs,aCons,aNil,eBin,eUn,eC,eVar,eAnd,eOr,eNot,eIf,tVal,tAnd,tOr,tNot,tYes,gName,gTup,gCons,gNil,gSub,aa',ab',T_bind,T_ok,ba',bb',bc',T_ite,ST_nx,ST_ret,ac',ad',ae',af',ag',if_true,if_false,ah']
    unfold body_law_0
    simp only [sSeq,ST_seq,sAsg,sPar,sExpr,sIf,sRet,sRetN,sNx,ST_bindS,eMeth,eArgs,aCons,aNil,eBin,eUn,eC,eVar,eAnd,eOr,eNot,eIf,tVal,tAnd,tOr,tNot,tYes,gName,gTup,gCons,gNil,gSub,aa',ab',T_bind,T_ok,ba',bb',bc',T_ite,ST_nx,ST_ret,ac',ad',ae',af',ag',if_true,if_false,ah']
    refine ways_D Dt.1 fun ws h1 hw D1 => ?_
    try simp only [sSeq,ST_seq,sAsg,sPar,sExpr,sIf,sRet,sRetN,sNx,ST_bindS,eMeth,eArgs,aCons,aNil,eBin,eUn,eC,eVar,eAnd,eOr,eNot,eIf,tVal,tAnd,tOr,tNot,tYes,gName,gTup,gCons,gNil,gSub,aa',ab',T_bind,T_ok,ba',bb',bc',T_ite,ST_nx,ST_ret,ac',ad',ae',af',ag',if_true,if_false,ah']
    refine walk_T hw D1.dy fun row h2 hk D2 => ?_
    try simp only [sSeq,ST_seq,sAsg,sPar,sExpr,sIf,sRet,sRetN,sNx,ST_bindS,eMeth,eArgs,aCons,aNil,eBin,eUn,eC,eVar,eAnd,eOr,eNot,eIf,tVal,tAnd,tOr,tNot,tYes,gName,gTup,gCons,gNil,gSub,aa',ab',T_bind,T_ok,ba',bb',bc',T_ite,ST_nx,ST_ret,ac',ad',ae',af',ag',if_true,if_false,ah']
    refine bodyS_D D2.dy fun b h3 hb D3 => ?_
    have Dt3 := Dt.next ((D1.trans D2).trans D3)
    have hl9 := hk.k9.len
    try simp only [sSeq,ST_seq,sAsg,sPar,sExpr,sIf,sRet,sRetN,sNx,ST_bindS,eMeth,eArgs,aCons,aNil,eBin,eUn,eC,eVar,eAnd,eOr,eNot,eIf,tVal,tAnd,tOr,tNot,tYes,gName,gTup,gCons,gNil,gSub,aa',ab',T_bind,T_ok,ba',bb',bc',T_ite,ST_nx,ST_ret,ac',ad',ae',af',ag',if_true,if_false,ah']
    have lc := eLc_eq (own := [9]) (src := iSeq (eVar 3)) (g := Mm.gName 9) (t := tYes) (e := eSl vSl (eVar 9) oNone (oSome (eC (.int 2)))) (fs := [some (.rl (zi ns)), some (.loc 0), some (.int (0 + (j : Nat))), some (.l (ws.map wyD)), some (.t (zi row)), some (.st (zi b)), x6, x7, x8, none, none]) (hs := h3) (k := none) (f := wyD) (l := ws) (fun _ => true) (fun w => .t [.int w.a, .int w.b]) rfl trivial (by have := hw.len; omega) fun w hw2 => ⟨_, rfl, rfl, fun _ => by simp [eSl, eVar, oNone, oSome, eC, vSl, wyD, cut, sIx, wipe]⟩
    rw [List.filter_eq_self.mpr (fun _ _ => rfl)] at lc
    simp only [lc, sSeq,ST_seq,sAsg,sPar,sExpr,sIf,sRet,sRetN,sNx,ST_bindS,eMeth,eArgs,aCons,aNil,eBin,eUn,eC,eVar,eAnd,eOr,eNot,eIf,tVal,tAnd,tOr,tNot,tYes,gName,gTup,gCons,gNil,gSub,aa',ab',T_bind,T_ok,ba',bb',bc',T_ite,ST_nx,ST_ret,ac',ad',ae',af',ag',if_true,if_false,ah']
    generalize hP : ws.map (fun w => D.t [.int w.a, .int w.b]) = ps at lc
    -- the places that lack
    have inP : ∀ (a b : Int) (h : Hs), vNotIn (.t [.int a, .int b]) (.l ps) h = .ok (.bl (!decide ((a, b) ∈ ws.map Wy.p))) h := fun a b h => by
      have ep : ps = (ws.map Wy.p).map prD := by rw [← hP, List.map_map]; rfl
      rw [ep]
      show vNotIn (prD (a, b)) (.l ((ws.map Wy.p).map prD)) h = _
      unfold vNotIn inB
      simp only [listOf, okd_pr (a, b) 58, okd_l, okL_prs 57 _, any_pr]
      rfl
    have hr2 : Mm.iRng2 (aCons (eC (.int 1)) (aCons (eArgs vLen (aCons (eVar 4) aNil)) aNil)) [some (.rl (zi ns)), some (.loc 0), some (.int (0 + (j : Nat))), some (.l (ws.map wyD)), some (.t (zi row)), some (.st (zi b)), some (.l ps), x7, x8, none, none] h3 = .ok (rng 1 (row.length - 1), none) h3 := by
      unfold Mm.iRng2
      have e1 : vLen [.t (zi row)] h3 = .ok (.int row.length) h3 := by simp [vLen, one1, seqOf]
      simp only [aCons, aNil, eC, eArgs, eVar, R.bind_ok, List.getElem?_cons_zero, List.getElem?_cons_succ, e1, int2]
      have e2 : ((row.length : Int) - 1).toNat = row.length - 1 := by omega
      rw [if_pos (by unfold lim; omega), e2]
    have lc2 := eLc_eq (own := [10]) (src := Mm.iRng2 (aCons (eC (.int 1)) (aCons (eArgs vLen (aCons (eVar 4) aNil)) aNil))) (g := Mm.gName 10) (t := tVal (eBin vNotIn (eArgs vTup (aCons (eBin vIx (eVar 4) (eBin vSub (eVar 10) (eC (.int 1)))) (aCons (eBin vIx (eVar 4) (eVar 10)) aNil))) (eVar 6))) (e := eVar 10) (fs := [some (.rl (zi ns)), some (.loc 0), some (.int (0 + (j : Nat))), some (.l (ws.map wyD)), some (.t (zi row)), some (.st (zi b)), some (.l ps), x7, x8, none, none]) (hs := h3) (k := none) (f := fun i : Nat => D.int (1 + (i : Int))) (l := List.range (row.length - 1))
      (fun i => !decide ((row.getD i 0, row.getD (i + 1) 0) ∈ ws.map Wy.p)) (fun i => .int (1 + (i : Int))) (by rw [hr2]; rfl) trivial (by simp; omega) fun i hi => ⟨[some (.rl (zi ns)), some (.loc 0), some (.int (0 + (j : Nat))), some (.l (ws.map wyD)), some (.t (zi row)), some (.st (zi b)), some (.l ps), x7, x8, none, some (.int (1 + (i : Int)))], rfl, by
        have hi2 := List.mem_range.mp hi
        have v1 : vSub (.int (1 + (i : Int))) (.int 1) h3 = .ok (.int ((i : Nat) : Int)) h3 := by
          show R.ok (D.int ((1 + (i : Int)) - 1)) _ = _
          congr 2
          omega
        have v2 : vIx (.t (zi row)) (.int ((i : Nat) : Int)) h3 = .ok (.int (row.getD i 0)) h3 := ix_zi (by omega)
        have v3 : vIx (.t (zi row)) (.int (1 + (i : Int))) h3 = .ok (.int (row.getD (i + 1) 0)) h3 := by
          have z := ix_zi (r := row) (j := i + 1) (hs := h3) (by omega)
          have e : ((i + 1 : Nat) : Int) = 1 + (i : Int) := by omega
          rw [e] at z; exact z
        have v4 : ∀ a b : Int, vTup [.int a, .int b] h3 = .ok (.t [.int a, .int b]) h3 := fun _ _ => rfl
        simp only [tVal, eBin, eArgs, aCons, aNil, eVar, eC, List.getElem?_cons_zero, List.getElem?_cons_succ, R.bind_ok, v1, v2, v3, v4, inP], fun _ => rfl⟩
    generalize hL : (List.range (row.length - 1)).filter (fun i => !decide ((row.getD i 0, row.getD (i + 1) 0) ∈ ws.map Wy.p)) = ls at lc2
    have eL : (ls.map fun i : Nat => D.int (1 + (i : Int))) = zi (ls.map fun i : Nat => (1 : Int) + (i : Int)) := by simp [zi]
    rw [eL] at lc2
    have l0 : vLst [] h3 = .ok (.l []) h3 := rfl
    have n1 : vNe (.l (zi (ls.map fun i : Nat => (1 : Int) + (i : Int)))) (.l []) h3 = .ok (.bl (!(zi (ls.map fun i : Nat => (1 : Int) + (i : Int))).isEmpty)) h3 := ne_nilD okd_zi
    simp only [lc2, sSeq,ST_seq,sAsg,sPar,sExpr,sIf,sRet,sRetN,sNx,ST_bindS,eMeth,eArgs,aCons,aNil,eBin,eUn,eC,eVar,eAnd,eOr,eNot,eIf,tVal,tAnd,tOr,tNot,tYes,gName,gTup,gCons,gNil,gSub,aa',ab',T_bind,T_ok,ba',bb',bc',T_ite,ST_nx,ST_ret,ac',ad',ae',af',ag',if_true,if_false,ah', l0, n1]
    cases ls with
    | nil =>
      have ok : PathOk ws row := fun i hi => by
        have : i ∉ (List.range (row.length - 1)).filter (fun i => !decide ((row.getD i 0, row.getD (i + 1) 0) ∈ ws.map Wy.p)) := by rw [hL]; simp
        have h2 : (row.getD i 0, row.getD (i + 1) 0) ∈ ws.map Wy.p := by
          apply Classical.byContradiction
          intro z
          exact this (List.mem_filter.mpr ⟨List.mem_range.mpr (by omega), by simp only [Bool.not_eq_true', decide_eq_false_iff_not]; exact z⟩)
        obtain ⟨w, hm, e⟩ := List.mem_map.mp h2
        exact ⟨w, hm, e⟩
      have m1 := lawMade_eq (hs := h3) hw hb (by omega) ok
      obtain ⟨d1, o1, q1, m2⟩ := made2_ok (hs := h3) hw hb hk ok
      have hb3 : (alongB ws row b).length < 95000 := by
        have := stepsB_len ws row b (row.length - 1)
        have := hb.len
        show (stepsB ws row b (row.length - 1)).length < 95000
        omega
      have a1 : c_law_alike 7 [d1, .st (zi (alongB ws row b))] (h3 ++ [o1]) = .ok (.bl true) (h3 ++ [o1]) := alike_eq (al_body q1 (.inr rfl) hb3)
      obtain ⟨d2, o2, q2, m3⟩ := made2_ok (hs := h3 ++ [o1]) hw hb hk ok
      have a2 : c_law_alike 7 [d2, .st (zi (alongB ws row b))] (h3 ++ [o1] ++ [o2]) = .ok (.bl true) (h3 ++ [o1] ++ [o2]) := alike_eq (al_body q2 (.inr rfl) hb3)
      have z1 : ∀ hs : Hs, vList [.l (ws.map wyD)] hs = .ok (.l (ws.map wyD)) hs := fun _ => rfl
      have en : (!(zi (([] : List Nat).map fun i : Nat => (1 : Int) + (i : Int))).isEmpty) = false := rfl
      have m1' : c_law_made [.l (ws.map wyD), .t (zi row), .st (zi b)] h3 = .ok (.st (zi (alongB ws row b))) h3 := m1
      simp only [en, sSeq,ST_seq,sAsg,sPar,sExpr,sIf,sRet,sRetN,sNx,ST_bindS,eMeth,eArgs,aCons,aNil,eBin,eUn,eC,eVar,eAnd,eOr,eNot,eIf,tVal,tAnd,tOr,tNot,tYes,gName,gTup,gCons,gNil,gSub,aa',ab',T_bind,T_ok,ba',bb',bc',T_ite,ST_nx,ST_ret,ac',ad',ae',af',ag',if_true,if_false,ah', m1', m2, a1, z1, m3, a2]
      refine ⟨?_, _, _, _, _, _, _, _, rfl⟩
      obtain ⟨⟨dd, tl, e1, e2⟩, e3⟩ := Dt3
      rw [e1] at e3 ⊢
      refine ⟨⟨dd, tl ++ [o1] ++ [o2], by simp, e2⟩, ?_⟩
      have : tl[0]? = some (.tb qL [] [] []) := by simpa using e3
      have hl := (List.getElem?_eq_some_iff.mp this).1
      show (tl ++ [o1] ++ [o2])[0]? = _
      rw [List.append_assoc, List.getElem?_append_left hl]; exact this
    | cons i0 ir =>
      have h0 : i0 ∈ (List.range (row.length - 1)).filter (fun i => !decide ((row.getD i 0, row.getD (i + 1) 0) ∈ ws.map Wy.p)) := by rw [hL]; simp
      obtain ⟨h1', h2'⟩ := List.mem_filter.mp h0
      have h1'' := List.mem_range.mp h1'
      simp only [Bool.not_eq_true', decide_eq_false_iff_not] at h2'
      have en : (!(zi ((i0 :: ir).map fun i : Nat => (1 : Int) + (i : Int))).isEmpty) = true := rfl
      have rl := route_lams (fs := [some (.rl (zi ns)), some (.loc 0), some (.int (0 + (j : Nat))), some (.l (ws.map wyD)), some (.t (zi row)), some (.st (zi b)), some (.l ps), some (.l (zi ((i0 :: ir).map fun i : Nat => (1 : Int) + (i : Int)))), x8, none, none]) Dt3 hw hb hk ⟨i0, by omega, h2'⟩ rfl rfl rfl
      simp only [en, if_true, sSeq,ST_seq,sAsg,sPar,sExpr,sIf,sRet,sRetN,sNx,ST_bindS,eMeth,eArgs,aCons,aNil,eBin,eUn,eC,eVar,eAnd,eOr,eNot,eIf,tVal,tAnd,tOr,tNot,tYes,gName,gTup,gCons,gNil,gSub,aa',ab',T_bind,T_ok,ba',bb',bc',T_ite,ST_nx,ST_ret,ac',ad',ae',af',ag',if_true,if_false,ah', rl]
      exact ⟨Dt3, _, _, _, _, _, _, _, rfl⟩
  · rintro fs h' ⟨Dt, x2, x3, x4, x5, x6, x7, x8, rfl⟩
    trivial
end Mm
open PySem PySem.W PySem.Calls PyProof.Rows
theorem PySem.Challenge.cw_clipformats_k07_bodies_made_along_kinds_holds : PySem.Challenge.rw_clipformats_k07_bodies_made_along_kinds.Holds := by
  w_on; o_law
  refine HandSHeadRun.head_any (r := OpenLaw.row PySem.Challenge.rw_clipformats_k07_bodies_made_along_kinds) (q := view (OpenLaw.row PySem.Challenge.rw_clipformats_k07_bodies_made_along_kinds).prog [44]) (H := Mm.hk) (ob := Mm.ob) (M := 20000) (loose := Mm.names) (d := HandSHeadRun.topDef (OpenLaw.row PySem.Challenge.rw_clipformats_k07_bodies_made_along_kinds).prog 44) (kwd := []) Mm.ob_eq
    (by kernel_rfl) (fun s => by kernel_rfl) Mm.run (by kernel_rfl) (by kernel_rfl) (by kernel_rfl) (by rfl) (by first | assumption | decide +kernel) (by decide +kernel) ⟨rfl, rfl, rfl, rfl, rfl, by decide +kernel⟩ ?hw ?hc
  case hw => w_witness2
  case hc =>
    refine LamX.walk_ofTsE (l := PySem.Challenge.rw_clipformats_k07_bodies_made_along_kinds) (n := 63) (k := 9) (x := "_law_script") (CX := fun _ => L2.CX0) rfl (by decide) (by kernel_rfl) ⟨rfl, by decide, by decide⟩ ?F (fun _ _ _ _ _ z => z)
    intro w mg fa h Y G hmg0
    obtain ⟨K, KX, c⟩ := Y
    have hmg : mg ("law" : PySem.Str) = some (.ref fa) := by
      have e : (HandSHeadRun.topDef (OpenLaw.row PySem.Challenge.rw_clipformats_k07_bodies_made_along_kinds).prog 44).name = ("law" : PySem.Str) := by kernel_rfl
      rw [← e]
      exact hmg0
    have Y : Nonempty (Mm.Fx w mg K) := ⟨Mm.facts KX G c⟩
    obtain ⟨Y⟩ := Y
    cases Mm.ga_inj hmg Y.g_law
    refine ⟨K, KX, Y.f_law, [He.cT K ("law", none)], Mm.spTrueT (Mm.ct K) 63, fun p hp => ?_, fun p hp => ?_, fun p hp => ?_, fun s v => L2.FunD.bindsA (ps := ["_law_script"]) Y.F_law (fun _ _ _ _ _ _ us hl => match us, hl with | [_], _ => rfl) s [v] rfl, fun H a ns hl _ hH hS => ⟨a, ns, rfl, hS, hl, hH _ (List.mem_singleton.mpr rfl), fun _ => rfl⟩, fun base _ _ TB => ?_⟩
    · cases List.mem_singleton.mp hp; exact c.empty _ (List.mem_singleton.mpr rfl)
    · cases List.mem_singleton.mp hp; exact c.out _ (List.mem_singleton.mpr rfl)
    · cases List.mem_singleton.mp hp; exact PySem.W.codeHd_of_K KX (c.hd _ (List.mem_singleton.mpr rfl))
    · exact (Mm.calm_ok (Mm.ok_law Y (TB _ (List.mem_singleton.mpr rfl)) Mm.pure_law)).imp fun vs H Q E q => q
